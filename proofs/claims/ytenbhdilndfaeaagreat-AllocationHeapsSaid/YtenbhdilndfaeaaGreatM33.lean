import Derived.Test.YtenbhdilndfaeaaGreatM31
import Derived.Test.YtenbhdilndfaeaaGreatM32
set_option maxRecDepth 100000
set_option maxHeartbeats 0
set_option linter.all false
namespace Go.Proofs.YtenbhdilndfaeaaGreat
open Go.RowKit Go.Proofs.Tryz
variable{G:Prop}(A:Option Addr)(c:Nat)(l:List In)(hq g9:Int)(h:List Ob)(pc:Int)(s:Cm)(w:World)
theorem KH(h:G:=by
 clear U
 go_wp2_with (first|((go_at_call 92;have ak:=iI A c l hq g9 _ (h.g_ J) hn;rw[hv]at ak;refine ak.mono ?_;rintro e w1⟨rfl,hg1⟩);replace hR:=hR.g_ hg1;replace J:=J.trans hg1)|(refine kG (Cm.zero.g8) hR (Cm.one _) ?_;intro ag az G))
 all_goals exact lA Cm.zero.g8 (i_ 1) az underlying40 ⟨Cm.zero,rfl,lN.zero _ _ rfl rfl,rfl,J.jz G bE⟩):G:=h
theorem KN(h:G:=by
 clear bj
 go_wp2_with (go_at_call 83;have ak:=k8 A c l hq g9 s.hG _ (h.g_ J) hn;rw[j]at ak;refine ak.mono ?_;rintro e T⟨rfl,af⟩;have e0:T.cell? (c_ bt 0)=some (i_ f.hT):=((hE.g_ af).f_ 0).trans rfl)
 go_meet;exact⟨iY aY.out.symm,af⟩):G:=h
theorem Ia(h:G:=by
 clear C
 refine hS H ⟨(z.g_ h).f_ 0,(ai.g_ h).f_ 1,(D.g_ h).f_ 0,(h).f_ kb s_⟩ λC=>?_
 clear H K;refine ih 18 C ?_;refine hA k_ ?_ _;go_wp2;go_meet;exact⟨_,rfl,rfl,h⟩):G:=h
theorem KV(h:G:=by
 go_wp2_with (refine kG (Cm.zero.g8) hR (Cm.one _) ?_;intro ag az G)
 all_goals exact lA Cm.zero.g8 (i_ 7) az underlying40 ⟨Cm.zero,rfl,lN.zero _ _ rfl rfl,rfl,J.jz G bE⟩):G:=h
theorem JL(h:G:=by
 by_cases h3:s.hG<0∨(l.length:Int)<=s.hG
 .rw[Q_ h3]at h2
  cases h2
 .omega):G:=h
theorem Lh(h:G:=by
 rw[bj]at m4;clear bj;exact Ll):G:=h
def nD(s:qR)(t:jg):qR:=
 if t.hV=2 then{s with h:=mL s.h t,hU:=s.hU++t.hU,iH:=s.iH+1,hw:=s.hw+t.hw,hG:=t.next}
 else{s with h:=mL s.h t,hU:=s.hU++t.hU,iH:=s.iH+1,hw:=s.hw+t.hw,jt:=true,hO:=t.hO,v:=t.v}
def nQ(s:qR)(t:jg):Bool:=decide (s.jt=true∨t.hG≠s.hG)
def kW(ok:Bool)(s:qR)(t:jg):qR × Int:=
 if ok=false then(Cm.zero.p,1) else
 if nQ s t=true then(Cm.zero.p,7) else
 if pr s.h t≠0 then(Cm.zero.p,pr s.h t) else(nD s t,0)
theorem Cm.size:s.g8.size=10:=rfl
theorem uz(t:Tk)(w:World)(h:Is w A l)(hn:l.length<=1000000000)(hs:lN w s)(X:kY w t)(ao:t.p.sm 500000)(be:s.h.l.length<=99999999)(cW:s.hU.l.length<=100000000)(aV:∀r∈t.nw.l,j9 r.o.id)(aO:∀c∈t.ws.l,j9 c.id)(aS:0<=s.iH)(b1:s.iH<=1000000000)(b2:0<=s.hw)(dE:s.hw<=1000000000000)(dx:0<=t.hw)(et:t.hw<=1000000):
 Calls prog 52 #[.agg #[.slice A l.length c,i_ hq,i_ g9],.agg s.g8,.agg t.g8] w (uf (kW (hZ l hq g9) s.p t.p).1 (kW (hZ l hq g9) s.p t.p).2 w):=by
 have cQ:t.nw.l.length<=500000:=by have:=ao.nw;have e:t.p.nw.length=t.nw.l.length:=hW _;omega
 have R:t.hU.l.length<=1000000000:=F_ ao.hU d_;have ay:t.hU.l.length<=500000:=ao.hU;obtain⟨E,hE⟩:=mn_ (pr (hN s.h.l) t.p);have o:=h_ hE;clear hE;obtain⟨⟨P,N⟩,cV⟩:∃q,kW (hZ l hq g9) s.p t.p=q:=⟨_,rfl⟩;rw[cV];have U:=h_ cV;clear cV;obtain⟨D,z,V,hR,J⟩:=BC w 26 #[.slice A l.length c,i_ hq,i_ g9] 40 s.g8 53 t.g8 40 #[n_,i_ 0,i_ 0,n_,.bool false,.bool false,.bool false,i_ 0,i_ 0,i_ 0]
 go_enter func52,ntmps52
 go_upto_region 1 with fail
 obtain⟨bm,bN⟩:=nm_ ((((w.alloc (.cells #[.slice A l.length c,i_ hq,i_ g9] 26)).alloc (.cells s.g8 40)).alloc (.cells t.g8 53)).alloc (.cells #[n_,i_ 0,i_ 0,n_,.bool false,.bool false,.bool false,i_ 0,i_ 0,i_ 0] 40));rw[<-bN]at D z V hR J |-;clear bN;obtain⟨L,bF⟩:=nm_ w.heap.size;obtain⟨d,bC⟩:=nm_ (w.heap.size+1);obtain⟨gt,bM⟩:=nm_ (w.heap.size+1+1);obtain⟨gr,F⟩:=nm_ (w.heap.size+1+1+1);rw[<-F]at hR;rw[<-bM]at V;rw[<-bC]at z;rw[<-bF]at D;rw[<-F,<-bM,<-bC,<-bF]
 have bE:w.heap.size<=gr:=by omega
 have m:w.heap.size<=d:=by omega
 have av:gt≠d/\gr≠d:=by omega
 clear bF bC bM F;have Z:=D.f_ 0;have ah:=D.f_ 1;have au:=D.f_ 2
 cases hv:hZ l hq g9 with
 |false=>
  obtain⟨rfl,rfl⟩:=Prod.mk.inj (U.out.symm.trans (by unfold kW;rw[hv];first|done|exact Q_ rfl));exact KH
 |true=>
 go_upto_region 3 with(go_at_call 92;have ak:=iI A c l hq g9 _ (h.g_ J) hn;rw[hv]at ak;refine ak.mono ?_;rintro e w1⟨rfl,hg1⟩)
 replace D:=D.g_ hg1;replace z:=z.g_ hg1;replace V:=V.g_ hg1;replace hR:=hR.g_ hg1;replace J:=J.trans hg1;clear hg1 Z ah au
 have aD:Hid ((P,N)=if nQ s.p t.p=true then(Cm.zero.p,7) else if E≠0 then(Cm.zero.p,E) else(nD s.p t.p,0)):=h_ (by
  rw[<-U.out];unfold kW
  rw[hv,P_ d_,show pr s.p.h t.p=E from o.out])
 go_cut [21] (λb a7=>b=.bool (nQ s.p t.p)/\a7=w1)
 case first=>
  have m4:w1.cell? (c_ d 4)=some (.bool s.jt):=(z.f_ 4).trans rfl;have m1:w1.cell? (c_ d 1)=some (i_ s.hG):=(z.f_ 1).trans rfl;have t0:w1.cell? (c_ gt 0)=some (i_ t.hG):=(V.f_ 0).trans rfl
  cases bj:s.jt with
  |true=>
   have aY:=h_ (show nQ s.p t.p=true by unfold nQ;exact Ek (.inl bj));exact Lh
  |false=>
   have aY:=h_ (show nQ s.p t.p=(t.hG !=s.hG) by
    unfold nQ
    by_cases h1:t.hG=s.hG
    .have:(t.hG !=s.hG)=false:=by simp[h1]
     rw[this];exact EU (λaB=>aB.elim (λh2=>D6 h2 (by show ¬s.jt=true;rw[bj];decide)) (λh2=>h2 h1))
    .have:(t.hG !=s.hG)=true:=by simpa using h1
     rw[this]
     exact Ek (.inr h1))
   exact Lh
 case rest=>
 obtain⟨rfl,dZ⟩:=hcut;subst wc
 cases hcb:nQ s.p t.p with
 |true=>
  obtain⟨rfl,rfl⟩:=Prod.mk.inj (aD.out.trans (Q_ hcb));clear hcb U aD;exact KV
 |false=>
 have k:Hid ((P,N)=if E≠0 then(Cm.zero.p,E) else(nD s.p t.p,0)):=h_ (by rw[aD.out,P_ (by rw[hcb];decide)]);clear hcb aD;have m0:w1.cell? (c_ d 0)=some (.slice s.h.A s.h.l.length s.h.c):=(z.f_ 0).trans rfl
 by_cases i:E=0
 case neg=>
  obtain⟨rfl,ax⟩:=Prod.mk.inj (k.out.trans (Q_ i));subst N
  have q:(E !=0)=true:=by simpa using i
  clear i k U
  go_wp2_with (first|(refine kJ V underlying53 ?_)|(go_at_call 100;have ak:=rF s.h.A s.h.c s.h.l t _ (hs.h.g_ J) o_ (X.g_ J) ao aV aO;rw[o.out]at ak;refine ak.mono ?_;rintro e w2⟨rfl,ad⟩)|(refine kG (Cm.zero.g8) (hR.g_ ad) (Cm.one _) ?_;intro ag az G))
  all_goals exact lA Cm.zero.g8 (i_ E) az underlying40 ⟨Cm.zero,rfl,lN.zero _ _ rfl rfl,rfl,(J.trans ad).jz G bE⟩
 case pos=>
 have Q:Hid ((P,N)=(nD s.p t.p,0)):=h_ (by rw[k.out,P_ (by simp[i])])
 have q:(E !=0)=false:=by simp[i]
 clear i k
 go_upto_region 8 with(first|(refine kJ V underlying53 ?_)|(go_at_call 100;have ak:=rF s.h.A s.h.c s.h.l t _ (hs.h.g_ J) o_ (X.g_ J) ao aV aO;rw[o.out]at ak;refine ak.mono ?_;rintro e w2⟨rfl,ad⟩))
 replace D:=D.g_ ad;replace z:=z.g_ ad;replace V:=V.g_ ad;replace hR:=hR.g_ ad;replace J:=J.trans ad;clear ad q;replace m0:w2.cell? (c_ d 0)=some (.slice s.h.A s.h.l.length s.h.c):=(z.f_ 0).trans rfl
 go_upto_region 9 with(first|(refine kJ V underlying53 ?_)|(go_at_call 84;((with_reducible refine(vb s.h.A s.h.c s.h.l t _ (X.g_ J) (hs.h.g_ J) o_ (F_ ao.ws d_) (F_ ao.ds d_)).mono ?_);unfold l0;rintro e ai⟨a8,aN,r3,rfl,j,a,S⟩;have f:=h_ a;clear a;have m0:ai.cell? (c_ d 0)=some (.slice s.h.A s.h.l.length s.h.c):=((z.g_ S).f_ 0).trans rfl;have an:=(z.g_ S).hm 0)))
 have M:Gr [d] ai (ai.setCell (c_ d 0) (.slice a8 r3.length aN)):=(D_ [d] ai).setCell (.inl s_) _;have x:=j.ig (z.g_ S) d_ d_ M;have y:Bk (ai.setCell (c_ d 0) (.slice a8 r3.length aN)) d 40 ({s with h:=⟨a8,aN,r3⟩}:Cm).g8:=(z.g_ S).hJ 0 (.slice a8 r3.length aN);replace V:=(V.g_ S).gr M (by simpa using av.1);replace hR:=(hR.g_ S).gr M (by simpa using av.2);replace J:=(J.trans S).jz M m;clear m0 an z D S M j;replace z:=y;clear y;obtain⟨aJ,a2⟩:=nm_ (ai.setCell (c_ d 0) (.slice a8 r3.length aN));rw[<-a2]at x z V hR J |-;clear a2;have m3:aJ.cell? (c_ d 3)=some (.slice s.hU.A s.hU.l.length s.hU.c):=(z.f_ 3).trans rfl;have t41:aJ.cell? (c_ gt 41)=some (.slice t.hU.A t.hU.l.length t.hU.c):=(V.f_ 41).trans rfl
 go_upto_region 10 with(go_at_call 93;((with_reducible refine(vM s.hU.A s.hU.c s.hU.l t.hU.A t.hU.c t.hU.l _ (hs.hU.g_ J) (X.hU.g_ J) o_ R).mono ?_);unfold Cn;rintro e T⟨aR,c4,rfl,bO,bu,af⟩;have m3:T.cell? (c_ d 3)=some (.slice s.hU.A s.hU.l.length s.hU.c):=((z.g_ af).f_ 3).trans rfl;have aq:=(z.g_ af).hm 3))
 have M:Gr [d] T (T.setCell (c_ d 3) (.slice aR (s.hU.l.length+t.hU.l.length) c4)):=(D_ [d] T).setCell (.inl s_) _;have u:As (T.setCell (c_ d 3) (.slice aR (s.hU.l.length+t.hU.l.length) c4)) aR (s.hU.l++t.hU.l):=Sl.ig bO (z.g_ af) d_ M;have I:=(x.g_ af).ig (z.g_ af) d_ d_ M
 have y:Bk (T.setCell (c_ d 3) (.slice aR (s.hU.l.length+t.hU.l.length) c4)) d 40 ({s with h:=⟨a8,aN,r3⟩,hU:=⟨aR,c4,s.hU.l++t.hU.l⟩}:Cm).g8:=by
  rw[show({s with h:=⟨a8,aN,r3⟩,hU:=⟨aR,c4,s.hU.l++t.hU.l⟩}:Cm).g8=({s with h:=⟨a8,aN,r3⟩}:Cm).g8.setIfInBounds 3 (.slice aR (s.hU.l.length+t.hU.l.length) c4) from(show({s with h:=⟨a8,aN,r3⟩,hU:=⟨aR,c4,s.hU.l++t.hU.l⟩}:Cm).g8=({s with h:=⟨a8,aN,r3⟩}:Cm).g8.setIfInBounds 3 (.slice aR (s.hU.l++t.hU.l).length c4) from rfl).trans (D9 (λn=>({s with h:=⟨a8,aN,r3⟩}:Cm).g8.setIfInBounds 3 (.slice aR n c4)) H_)];exact(z.g_ af).hJ 3 (.slice aR (s.hU.l.length+t.hU.l.length) c4)
 replace V:=(V.g_ af).gr M (by simpa using av.1);replace hR:=(hR.g_ af).gr M (by simpa using av.2);replace J:=(J.trans af).jz M m;clear m3 aq z t41 af M bO x;replace z:=y;clear y;obtain⟨bG,aE⟩:=nm_ (T.setCell (c_ d 3) (.slice aR (s.hU.l.length+t.hU.l.length) c4));rw[<-aE]at u I z V hR J |-;clear aE;have c3:bG.cell? (c_ d 8)=some (i_ s.iH):=(z.f_ 8).trans rfl;have am:bG.cell? (c_ d 9)=some (i_ s.hw):=(z.f_ 9).trans rfl;have aw:bG.cell? (c_ gt 47)=some (i_ t.hw):=(V.f_ 47).trans rfl;have aj:=z.hm 8;have bB:=z.hm 9
 go_upto_region 12 with fail
 have M:Gr [d] bG ((bG.setCell (c_ d 8) (i_ (s.iH+1))).setCell (c_ d 9) (i_ (s.hw+t.hw))):=((D_ [d] bG).setCell (p:=(c_ d 8)) (.inl s_) _).setCell (p:=(c_ d 9)) (.inl s_) _;have g:lN ((bG.setCell (c_ d 8) (i_ (s.iH+1))).setCell (c_ d 9) (i_ (s.hw+t.hw))) ({s with h:=⟨a8,aN,r3⟩,hU:=⟨aR,c4,s.hU.l++t.hU.l⟩,iH:=s.iH+1,hw:=s.hw+t.hw}:Cm):=⟨I.ig z d_ d_ M,Sl.ig u z d_ M,bu⟩;have y:Bk ((bG.setCell (c_ d 8) (i_ (s.iH+1))).setCell (c_ d 9) (i_ (s.hw+t.hw))) d 40 ({s with h:=⟨a8,aN,r3⟩,hU:=⟨aR,c4,s.hU.l++t.hU.l⟩,iH:=s.iH+1,hw:=s.hw+t.hw}:Cm).g8:=(z.hJ 8 (i_ (s.iH+1))).hJ 9 (i_ (s.hw+t.hw));replace V:=V.gr M (by simpa using av.1);replace hR:=hR.gr M (by simpa using av.2);replace J:=J.jz M m;clear c3 am aj bB aw z M u I;replace z:=y;clear y;obtain⟨a6,bv⟩:=nm_ ((bG.setCell (c_ d 8) (i_ (s.iH+1))).setCell (c_ d 9) (i_ (s.hw+t.hw)));rw[<-bv]at g z V hR J |-;clear bv;have ar:a6.cell? (c_ gt 42)=some (i_ t.hV):=(V.f_ 42).trans rfl;obtain⟨rfl,rfl⟩:=Prod.mk.inj Q.out;clear Q U
 by_cases bA:t.hV=2
 .have HA:Hid (nD s.p t.p=({s with h:=⟨a8,aN,r3⟩,hU:=⟨aR,c4,s.hU.l++t.hU.l⟩,iH:=s.iH+1,hw:=s.hw+t.hw,hG:=t.next}:Cm).p):=h_ (by unfold nD;rw[Q_ (show t.p.hV=2 from bA),show mL s.p.h t.p=hN r3 from f.out.symm];rfl)
  have q:(t.hV==2)=true:=by simpa using bA
  clear bA;have aC:a6.cell? (c_ gt 43)=some (i_ t.next):=(V.f_ 43).trans rfl;have m1:a6.cell? (c_ d 1)=some (i_ s.hG):=(z.f_ 1).trans rfl;have bD:=z.hm 1;have M:Gr [d] a6 (a6.setCell (c_ d 1) (i_ t.next)):=(D_ [d] a6).setCell (.inl s_) _;have y:Bk (a6.setCell (c_ d 1) (i_ t.next)) d 40 ({s with h:=⟨a8,aN,r3⟩,hU:=⟨aR,c4,s.hU.l++t.hU.l⟩,iH:=s.iH+1,hw:=s.hw+t.hw,hG:=t.next}:Cm).g8:=z.hJ 1 (i_ t.next);have B:=hR.gr M (by simpa using av.2)
  go_wp2_with (first|(refine kJ y underlying40 ?_)|(refine kG (({s with h:=⟨a8,aN,r3⟩,hU:=⟨aR,c4,s.hU.l++t.hU.l⟩,iH:=s.iH+1,hw:=s.hw+t.hw,hG:=t.next}:Cm).g8) B (Cm.one _) ?_;intro ag az G))
  rw[HA.out];exact lA ({s with h:=⟨a8,aN,r3⟩,hU:=⟨aR,c4,s.hU.l++t.hU.l⟩,iH:=s.iH+1,hw:=s.hw+t.hw,hG:=t.next}:Cm).g8 (i_ 0) az underlying40 ⟨({s with h:=⟨a8,aN,r3⟩,hU:=⟨aR,c4,s.hU.l++t.hU.l⟩,iH:=s.iH+1,hw:=s.hw+t.hw,hG:=t.next}:Cm),rfl,(lN.ig (s:=({s with h:=⟨a8,aN,r3⟩,hU:=⟨aR,c4,s.hU.l++t.hU.l⟩,iH:=s.iH+1,hw:=s.hw+t.hw,hG:=t.next}:Cm)) ⟨(g.h.ig z d_ d_ M),Sl.ig g.hU z d_ M,g.px⟩ B d_ G),rfl,(J.jz M m).jz G bE⟩
 .have HA:Hid (nD s.p t.p=({s with h:=⟨a8,aN,r3⟩,hU:=⟨aR,c4,s.hU.l++t.hU.l⟩,iH:=s.iH+1,hw:=s.hw+t.hw,jt:=true,hO:=t.hO,v:=t.v}:Cm).p):=h_ (by unfold nD;rw[P_ (show ¬t.p.hV=2 from bA),show mL s.p.h t.p=hN r3 from f.out.symm];rfl)
  have q:(t.hV==2)=false:=by simpa using bA
  clear bA
  go_upto_region 14 with fail
  clear ar q;refine hC (λw'=>w'.cell? (c_ gt 44)=some (.bool t.hO)/\w'.cell? (c_ gt 45)=some (.bool t.v.r)/\w'.cell? (c_ gt 46)=some (i_ t.v.n)) 10 k_ ?_;have ap:Gr [] a6 a6.drew:=(D_ [] a6).drew;replace g:=g.g_ ap;replace z:=z.g_ ap;replace V:=V.g_ ap;replace hR:=hR.g_ ap;replace J:=J.trans ap;clear ap;obtain⟨Y,W⟩:=nm_ a6.drew;rw[<-W]at g z V hR J |-;clear W;have C:Y.cell? (c_ gt 44)=some (.bool t.hO)/\Y.cell? (c_ gt 45)=some (.bool t.v.r)/\Y.cell? (c_ gt 46)=some (i_ t.v.n):=⟨(V.f_ 44).trans rfl,(V.f_ 45).trans rfl,(V.f_ 46).trans rfl⟩;have m4:Y.cell? (c_ d 4)=some (.bool s.jt):=(z.f_ 4).trans rfl;have O:Y.cell? (c_ d 5)=some (.bool s.hO):=(z.f_ 5).trans rfl;have ae:Y.cell? (c_ d 6)=some (.bool s.v.r):=(z.f_ 6).trans rfl;have dg:Y.cell? (c_ d 7)=some (i_ s.v.n):=(z.f_ 7).trans rfl;have aQ:=z.hm 4;have aU:=z.hm 5;have bn:=z.hm 6;have bp:=z.hm 7
  iterate 5 refine jR C ?_
  refine hQ 5 λK H=>?_
  go_simp;clear C
  refine hS H ⟨((V.h7 (p:=(c_ d 4)) av.1 (.bool true)).f_ 44).trans rfl,((V.h7 (p:=(c_ d 4)) av.1 (.bool true)).f_ 45).trans rfl,((V.h7 (p:=(c_ d 4)) av.1 (.bool true)).f_ 46).trans rfl⟩ λC=>?_
  clear H K;refine ih 6 C ?_
  refine hQ 7 λK H=>?_
  go_simp;clear C
  refine hS H ⟨(((V.h7 (p:=(c_ d 4)) av.1 (.bool true)).h7 (p:=(c_ d 5)) av.1 (.bool t.hO)).f_ 44).trans rfl,(((V.h7 (p:=(c_ d 4)) av.1 (.bool true)).h7 (p:=(c_ d 5)) av.1 (.bool t.hO)).f_ 45).trans rfl,(((V.h7 (p:=(c_ d 4)) av.1 (.bool true)).h7 (p:=(c_ d 5)) av.1 (.bool t.hO)).f_ 46).trans rfl⟩ λC=>?_
  clear H K;refine ih 8 C ?_
  refine hQ 9 λK H=>?_
  go_simp;clear C
  refine hS H ⟨(((((V.h7 (p:=(c_ d 4)) av.1 (.bool true)).h7 (p:=(c_ d 5)) av.1 (.bool t.hO)).h7 (p:=(c_ d 6)) av.1 (.bool t.v.r)).h7 (p:=(c_ d 7)) av.1 (i_ t.v.n)).f_ 44).trans rfl,(((((V.h7 (p:=(c_ d 4)) av.1 (.bool true)).h7 (p:=(c_ d 5)) av.1 (.bool t.hO)).h7 (p:=(c_ d 6)) av.1 (.bool t.v.r)).h7 (p:=(c_ d 7)) av.1 (i_ t.v.n)).f_ 45).trans rfl,(((((V.h7 (p:=(c_ d 4)) av.1 (.bool true)).h7 (p:=(c_ d 5)) av.1 (.bool t.hO)).h7 (p:=(c_ d 6)) av.1 (.bool t.v.r)).h7 (p:=(c_ d 7)) av.1 (i_ t.v.n)).f_ 46).trans rfl⟩ λC=>?_
  clear H K;have M:Gr [d] Y ((((Y.setCell (c_ d 4) (.bool true)).setCell (c_ d 5) (.bool t.hO)).setCell (c_ d 6) (.bool t.v.r)).setCell (c_ d 7) (i_ t.v.n)):=((((D_ [d] Y).setCell (p:=(c_ d 4)) (.inl s_) _).setCell (p:=(c_ d 5)) (.inl s_) _).setCell (p:=(c_ d 6)) (.inl s_) _).setCell (p:=(c_ d 7)) (.inl s_) _;have y:Bk ((((Y.setCell (c_ d 4) (.bool true)).setCell (c_ d 5) (.bool t.hO)).setCell (c_ d 6) (.bool t.v.r)).setCell (c_ d 7) (i_ t.v.n)) d 40 ({s with h:=⟨a8,aN,r3⟩,hU:=⟨aR,c4,s.hU.l++t.hU.l⟩,iH:=s.iH+1,hw:=s.hw+t.hw,jt:=true,hO:=t.hO,v:=t.v}:Cm).g8:=(((z.hJ 4 (.bool true)).hJ 5 (.bool t.hO)).hJ 6 (.bool t.v.r)).hJ 7 (i_ t.v.n);have B:=hR.gr M (by simpa using av.2);clear m4 O ae dg aQ aU bn bp C;refine hA k_ ?_ _
  go_wp2_with (first|(refine kJ y underlying40 ?_)|(refine kG (({s with h:=⟨a8,aN,r3⟩,hU:=⟨aR,c4,s.hU.l++t.hU.l⟩,iH:=s.iH+1,hw:=s.hw+t.hw,jt:=true,hO:=t.hO,v:=t.v}:Cm).g8) B (Cm.one _) ?_;intro ag az G))
  rw[HA.out];exact lA ({s with h:=⟨a8,aN,r3⟩,hU:=⟨aR,c4,s.hU.l++t.hU.l⟩,iH:=s.iH+1,hw:=s.hw+t.hw,jt:=true,hO:=t.hO,v:=t.v}:Cm).g8 (i_ 0) az underlying40 ⟨({s with h:=⟨a8,aN,r3⟩,hU:=⟨aR,c4,s.hU.l++t.hU.l⟩,iH:=s.iH+1,hw:=s.hw+t.hw,jt:=true,hO:=t.hO,v:=t.v}:Cm),rfl,(lN.ig (s:=({s with h:=⟨a8,aN,r3⟩,hU:=⟨aR,c4,s.hU.l++t.hU.l⟩,iH:=s.iH+1,hw:=s.hw+t.hw,jt:=true,hO:=t.hO,v:=t.v}:Cm)) ⟨(g.h.ig z d_ d_ M),Sl.ig g.hU z d_ M,g.px⟩ B d_ G),rfl,(J.jz M m).jz G bE⟩
def lI(h:List Ob)(e:pQ):List Ob:=i4 (e.nw.foldl lY h) e.ws
theorem yF(e:pQ):(lI h e).length<=h.length+e.nw.length:=by
 unfold lI;rw[jG];exact oA e.nw h
theorem vJ(l:List Rw)(f:Ef)(w:World)(he:sd w f)(h:l5 w A c l)(hn:l.length+f.nw.l.length<=999999999)(aV:f.ws.l.length<=1000000000):
 Calls prog 96 #[.agg #[.slice A l.length c],.agg f.g8] w (l0 (lI (hN l) f.p) w):=by
 obtain⟨i1,bK,b0,b5,cf⟩:=info_parts infoOb;obtain⟨z,hE,hR,J⟩:=vQ w 35 #[.slice A l.length c] 134 f.g8 35 #[n_]
 go_enter func96,ntmps96
 go_upto_region 1 with fail
 obtain⟨bm,bN⟩:=nm_ (((w.alloc (.cells #[.slice A l.length c] 35)).alloc (.cells f.g8 134)).alloc (.cells #[n_] 35));rw[<-bN]at z hE hR J |-;clear bN;obtain⟨aW,T⟩:=nm_ w.heap.size;obtain⟨bt,B⟩:=nm_ (w.heap.size+1);obtain⟨gr,E⟩:=nm_ (w.heap.size+1+1);rw[<-E]at hR;rw[<-B]at hE;rw[<-T]at z;rw[<-E,<-B,<-T]
 have C:w.heap.size<=aW:=by omega
 have bE:w.heap.size<=gr:=by omega
 have av:bt≠aW/\gr≠aW/\aW≠gr/\bt≠gr:=by omega
 clear T B E;have aU:=z.f_ 0;have t:=h.g_ J
 go_upto_region 2 with(at_builtin;refine o0 _ rfl (.const (n_)) (.tmp 12) 33 rfl 56 i1 _ 2 32 underlying33 bK b0 b5 cf rfl d_ d_ none 0 [] rfl (EM _ _ _ _) A l.length c _ rfl t.os (jO _) o_ ?_;intro ay an w2 O a8 ad;simp only[U_,Ea]at a8 O;replace aU:=(z.g_ ad).f_ 0;have bB:=(z.g_ ad).hm 0)
 have aD:l5 w2 ay an l:=⟨a8,t.la.g_ ad,O⟩;have M:Gr [aW] w2 (w2.setCell (c_ aW 0) (.slice ay l.length an)):=(D_ [aW] w2).setCell (.inl s_) _;have ak:=aD.ig (z.g_ ad) d_ d_ M;have j:=(z.g_ ad).hJ 0 (.slice ay l.length an);have bh:=(hE.g_ ad).gr M (by simpa using av.1);have cr:=(hR.g_ ad).gr M (by simpa using av.2.1);have dw:=(J.trans ad).jz M C;clear aU bB z hE hR J t aD a8 O M ad;obtain⟨aJ,a2⟩:=nm_ (w2.setCell (c_ aW 0) (.slice ay l.length an));rw[<-a2]at ak j bh cr dw |-;clear a2;have af:aJ.cell? (c_ bt 36)=some (.slice f.nw.A f.nw.l.length f.nw.c):=(bh.f_ 36).trans rfl;go_wp2
 go_loopw [18] (λi wr=>∃(k:Nat) (A':Option Addr) (c':Nat) (rs:List Rw),k<=f.nw.l.length/\i=i_ k/\Bk wr aW 35 #[.slice A' rs.length c']/\Bk wr bt 134 f.g8/\Bk wr gr 35 #[n_]/\l5 wr A' c' rs/\hN rs=(hN (f.nw.l.take k)).foldl lY (hN l)/\Gr [] w wr) (λi _=>f.nw.l.length-(intOf i).toNat)
 case atStart=>exact⟨0,ay,an,l,N_ _,rfl,j,bh,cr,ak,rfl,dw⟩
 case round=>
  clear j bh cr ak dw af;obtain⟨k,A',c',rs,hk,rfl,z,hE,hR,N,bF,F⟩:=hrel;have q:=h_ bF
  have m:rs.length<=999999999:=by
   have h1:=hW rs;have h2:=oA (hN (f.nw.l.take k)) (hN l);rw[bF]at h1;rw[hW (f.nw.l.take k),Ey,hW]at h2;omega
  clear bF
  by_cases aj:k<f.nw.l.length
  .obtain⟨b,off,aX,bj,be⟩:=(he.nw.g_ F).at_ aj;rw[aX];have bG:=h_ (show(hN (f.nw.l.take (k+1))).foldl lY (hN l)=lY (hN rs) f.nw.l[k].o by rw[q.out];exact q6 _ _ aj);have v:=(he.nr.g_ (F.alloc (.cells #[i_ f.nw.l[k].o.id,.slice f.nw.l[k].A f.nw.l[k].o.fs.length f.nw.l[k].c] 56))) f.nw.l[k] (J_ aj);generalize f.nw.l[k]=r at*;have ax:Sl (wr.alloc (.cells #[i_ r.o.id,.slice r.A r.o.fs.length r.c] 56)) 38 2 r.A r.o.fs.length (iR r.o.fs):=v.1
   have aL:(k:Int)<(f.nw.l.length:Int):=by omega
   have aM:Gr [] wr (wr.alloc (.cells #[i_ r.o.id,.slice r.A r.o.fs.length r.c] 56)):=(D_ [] wr).alloc _;have L:=L_ wr 56 #[i_ r.o.id,.slice r.A r.o.fs.length r.c];have Z:=L.f_ 0;have ah:=L.f_ 1;have aU:=(z.g_ aM).f_ 0
   go_wp2_with (go_at_call 123;((with_reducible refine(up A' c' rs r.o.id r.A r.c r.o.fs _ (N.g_ aM).os (N.g_ aM).la N.kX ax v.2 m).mono ?_);rintro e ae⟨a6,c5,a,rfl,G,P,bD,d,am⟩;have s:=h_ d;clear d;have n:=(z.g_ aM).g_ am;replace aU:=n.f_ 0;have bB:=n.hm 0))
   have M:Gr [aW] ae (ae.setCell (c_ aW 0) (.slice a6 a.length c5)):=(D_ [aW] ae).setCell (.inl s_) _;go_roundw
   case rel=>exact⟨k+1,a6,c5,a,by omega,by go_num,n.hJ 0 _,((hE.g_ aM).g_ am).gr M (by simpa using av.1),((hR.g_ aM).g_ am).gr M (by simpa using av.2.1),(l5.mk P bD G).ig n d_ d_ M,by rw[bG.out,s.out],((F.trans aM).trans am).jz M C⟩
   case measure=>simp[intOf];omega
  .have bQ:=h_ (show k=f.nw.l.length by omega)
   have aL:¬(k:Int)<(f.nw.l.length:Int):=by omega
   have aT:=h_ (show hN rs=f.p.nw.foldl lY (hN l) by rw[q.out,bQ.out,Fc];rfl);clear q hk aj;have cq:wr.cell? (c_ bt 35)=some (.slice f.ws.A f.ws.l.length f.ws.c):=(hE.f_ 35).trans rfl
   have Q:rs.length<=1000000000:=by omega
   obtain⟨R,H⟩:=nm_ wr;rw[<-H]at z hE hR N F cq |-;clear H;obtain⟨p,K⟩:=nm_ A';obtain⟨aI,bj⟩:=nm_ c';obtain⟨bV,bu⟩:=nm_ rs;rw[<-K,<-bj,<-bu]at N;rw[<-K,<-bj,<-bu]at z;rw[<-bu]at aT Q;clear K bj bu m bQ;go_wp2;clear aL
   go_loopw [29] (λi wr=>∃(k:Nat) (A':Option Addr) (c':Nat) (rs:List Rw),k<=f.ws.l.length/\i=i_ k/\Bk wr aW 35 #[.slice A' rs.length c']/\Bk wr bt 134 f.g8/\Bk wr gr 35 #[n_]/\l5 wr A' c' rs/\hN rs=i4 (hN bV) (f.ws.l.take k)/\Gr [] w wr) (λi _=>f.ws.l.length-(intOf i).toNat)
   case atStart=>exact⟨0,p,aI,bV,N_ _,rfl,z,hE,hR,N,rfl,F⟩
   case round=>
    clear z hE hR N F cq;obtain⟨k,A',c',rs,hk,rfl,z,hE,hR,N,bF,F⟩:=hrel;have q:=h_ bF;clear bF
    by_cases aj:k<f.ws.l.length
    .obtain⟨b,off,aX,bj,be,bJ,bU⟩:=(he.ws.g_ F).at_ aj;rw[aX];have bG:=h_ (show i4 (hN bV) (f.ws.l.take (k+1))=rb (hN rs) f.ws.l[k] by rw[q.out];exact qc _ _ aj)
     have D:rs.length<=1000000000:=by
      have:=hW rs
      rw[q.out,jG,hW]at this;omega
     have aL:(k:Int)<(f.ws.l.length:Int):=by omega
     generalize f.ws.l[k]=x at*;obtain⟨g,aC,W⟩:=x;simp only at bj be bJ bU;have aM:Gr [] wr (wr.alloc (.cells #[i_ g,i_ aC,.bool W.r,i_ W.n] 116)):=(D_ [] wr).alloc _;have L:=L_ wr 116 #[i_ g,i_ aC,.bool W.r,i_ W.n];have Z:=L.f_ 0;have ah:=L.f_ 1;have au:=L.f_ 2;have aQ:=L.f_ 3;have aU:=(z.g_ aM).f_ 0
     cases y:ji (hN rs) g aC with
     |none=>
      have bl:=h_ (show rb (hN rs) ⟨g,aC,W⟩=hN rs by unfold rb;simp only[y])
      go_wp2_with (go_at_call 149;((with_reducible refine(qd A' c' rs g aC W _ (N.g_ aM).os (N.g_ aM).la D y).mono ?_);rintro e ae⟨rfl,am⟩))
      have aw:Gr [] wr (ae.alloc (.cells #[n_] 35)):=(aM.trans am).alloc _;go_roundw
      case rel=>exact⟨k+1,A',c',rs,by omega,by go_num,z.g_ aw,hE.g_ aw,hR.g_ aw,N.g_ aw,by rw[bG.out,bl.out],F.trans aw⟩
      case measure=>simp[intOf];omega
     |some u=>
      have bl:=h_ (show rb (hN rs) ⟨g,aC,W⟩=kT (hN rs) g aC W by unfold rb;simp only[y])
      go_wp2_with (go_at_call 149;((with_reducible refine(nW A' c' rs g aC W u _ (N.g_ aM).os (N.g_ aM).la D y).mono ?_);rintro e ae⟨a6,c5,a,rfl,G,P,bD,d,am⟩;have s:=h_ d;clear d;have br:=L_ ae 35 #[.slice a6 a.length c5];have n0:=br.f_ 0;have I:=((z.g_ aM).g_ am).alloc (.cells #[.slice a6 a.length c5] 35);replace aU:=I.f_ 0;have bB:=I.hm 0))
      have aw:Gr [] wr (ae.alloc (.cells #[.slice a6 a.length c5] 35)):=(aM.trans am).alloc _;have M:Gr [aW] (ae.alloc (.cells #[.slice a6 a.length c5] 35)) ((ae.alloc (.cells #[.slice a6 a.length c5] 35)).setCell (c_ aW 0) (.slice a6 a.length c5)):=(D_ [aW] _).setCell (.inl s_) _;go_roundw
      case rel=>exact⟨k+1,a6,c5,a,by omega,by go_num,I.hJ 0 _,(hE.g_ aw).gr M (by simpa using av.1),(hR.g_ aw).gr M (by simpa using av.2.1),((l5.mk P bD G).g_ ((D_ [] ae).alloc _)).ig I d_ d_ M,by rw[bG.out,bl.out,s.out],(F.trans aw).jz M C⟩
      case measure=>simp[intOf];omega
    .have bQ:=h_ (show k=f.ws.l.length by omega)
     have aL:¬(k:Int)<(f.ws.l.length:Int):=by omega
     have aU:=z.f_ 0;have bH:=hR.hm 0;have bn:=hR.f_ 0;go_wp2;have M:Gr [gr] wr (wr.setCell (c_ gr 0) (.slice A' rs.length c')):=(D_ [gr] wr).setCell (.inl s_) _;refine rr_ #[.slice A' rs.length c'] (hR.hJ 0 (.slice A' rs.length c')) underlying35 ⟨A',c',rs,rfl,N.ig hR d_ d_ M,?_,F.jz M bE⟩;rw[q.out,bQ.out,Fc,aT.out]
     rfl
def mj(c:List In)(h:List Ob)(pc lr:Int):List Ob:=
 rb h ⟨((ji h 1 0).getD default).n,3+(c.getD pc.toNat default).n,⟨false,lr⟩⟩
theorem wV(c:List In)(h:List Ob)(pc lr:Int):(mj c h pc lr).length=h.length:=xn _ _
theorem vI(U:Option Addr)(hc:Nat)(hl:List Rw)(k:Nat)(lr:Int)(w:World)(N:Is w A l)(hn:l.length<=1000000000)(hv:l5 w U hc hl)(Q:hl.length<=1000000000)(hk:k<l.length)(h0:0<=l[k].n)(h1:l[k].n<=1000000):
 Calls prog 95 #[.agg #[.slice A l.length c,i_ hq,i_ g9],.agg #[.slice U hl.length hc],i_ k,i_ lr] w (l0 (mj l (hN hl) k lr) w):=by
 obtain⟨X,r,rfl,bj,be,bJ,bU,bu⟩:=N.at_ hk
 have B:=h_ (show mj l (hN hl) (k:Int) lr=rb (hN hl) ⟨((ji (hN hl) 1 0).getD default).n,3+l[k].n,⟨false,lr⟩⟩ by
  unfold mj
  have e:l.getD (k:Int).toNat default=l[k]:=by simp[List.getD,K_ hk]
  rw[e])
 obtain⟨n,F⟩:∃n,n=l[k].n:=⟨_,rfl⟩;rw[<-F]at h0 h1 bu B;clear bj be bJ bU F;obtain⟨f,hf⟩:=mn_ ((ji (hN hl) 1 0).getD default);rw[hf]at B;obtain⟨D,z,hR,J⟩:=vQ w 26 #[.slice (some (c_ X r)) l.length c,i_ hq,i_ g9] 35 #[.slice U hl.length hc] 35 #[n_]
 go_enter func95,ntmps95
 go_upto_region 1 with fail
 obtain⟨bm,bN⟩:=nm_ (((w.alloc (.cells #[.slice (some (c_ X r)) l.length c,i_ hq,i_ g9] 26)).alloc (.cells #[.slice U hl.length hc] 35)).alloc (.cells #[n_] 35));rw[<-bN]at D z hR J |-;clear bN;obtain⟨L,S⟩:=nm_ w.heap.size;obtain⟨aW,T⟩:=nm_ (w.heap.size+1);obtain⟨gr,E⟩:=nm_ (w.heap.size+1+1);rw[<-E]at hR;rw[<-T]at z;rw[<-S]at D;rw[<-E,<-T,<-S]
 have bE:w.heap.size<=gr:=by omega
 clear S T E;have Z:=z.f_ 0
 go_upto_region 2 with(go_at_call 148;((with_reducible refine(km U hc hl 1 0 _ (hv.g_ J).os (hv.g_ J).la Q).mono ?_);rw[hf];rintro e w1⟨rfl,hg1⟩))
 have ai:=L_ w1 38 #[.bool f.r,i_ f.n];have aI:Gr [] bm (w1.alloc (.cells #[.bool f.r,i_ f.n] 38)):=hg1.alloc _;replace D:=D.g_ aI;replace z:=z.g_ aI;replace hR:=hR.g_ aI;replace J:=J.trans aI;have kb:=J.f_ bu s_;clear hg1 aI Z;obtain⟨R,I⟩:=nm_ (w1.alloc (.cells #[.bool f.r,i_ f.n] 38));rw[<-I]at ai D z hR J kb |-;clear I;generalize w1.heap.size=V at*
 cases y:ji (hN hl) f.n (3+n)with
 |none=>
  have bl:=h_ (show mj l (hN hl) (k:Int) lr=hN hl by rw[B.out];unfold rb;simp only[y])
  go_cut [11,12] (λp b a7=>∃o:Nat,p=q_ o/\b=.bool false/\Gr [] R a7)
  case first=>
   refine hC (λw'=>w'.cell? (c_ aW 0)=some (.slice U hl.length hc)/\w'.cell? (c_ V 1)=some (i_ f.n)/\w'.cell? (c_ L 0)=some (.slice (some (c_ X r)) l.length c)/\w'.cell? (c_ X (r+k*5+4))=some (i_ n)) 19 k_ ?_;have j:Gr [] R R.drew:=(D_ [] R).drew;obtain⟨bh,bF⟩:=nm_ R.drew;rw[<-bF]at j |-;clear bF;have C:bh.cell? (c_ aW 0)=some (.slice U hl.length hc)/\bh.cell? (c_ V 1)=some (i_ f.n)/\bh.cell? (c_ L 0)=some (.slice (some (c_ X r)) l.length c)/\bh.cell? (c_ X (r+k*5+4))=some (i_ n):=⟨(z.g_ j).f_ 0,(ai.g_ j).f_ 1,(D.g_ j).f_ 0,(j).f_ kb s_⟩
   have e0:(0:Int)<=(k:Int):=by omega
   have aP:(k:Int)<(l.length:Int):=by omega
   (iterate 9 refine jR C ?_)
   refine ih 9 (v:=i_ (3+n)) C ?_ (hy:=(Or.inl ⟨by rfl,(by intro w' bA;go_simp;try(first|with_reducible rfl|(rw[E8];omega)))⟩))
   (iterate 2 refine jR C ?_)
   refine i6 12 16 rfl rfl k_ (λK H=>?_) (λK H=>?_)
   .go_simp;have i:Gr [] R bh:=j
    (go_at_call 149;((with_reducible refine(qd U hc hl f.n (3+n) ⟨false,lr⟩ _ (hv.g_ (J.trans i)).os (hv.g_ (J.trans i)).la Q y).mono ?_);rintro e ae⟨rfl,am⟩))
    have g:Gr [] R ae:=j.trans am;clear C
    refine hS H ⟨(z.g_ g).f_ 0,(ai.g_ g).f_ 1,(D.g_ g).f_ 0,(g).f_ kb s_⟩ λC=>?_
    clear H K
    iterate 3 refine jR C ?_
    refine hQ 16 λK H=>?_
    go_simp;have m:Gr [] R (ae.alloc (.cells #[n_] 35)):=g.alloc _;have t:=L_ ae 35 #[n_];clear C;have C:(ae.alloc (.cells #[n_] 35)).cell? (c_ aW 0)=some (.slice U hl.length hc)/\(ae.alloc (.cells #[n_] 35)).cell? (c_ V 1)=some (i_ f.n)/\(ae.alloc (.cells #[n_] 35)).cell? (c_ L 0)=some (.slice (some (c_ X r)) l.length c)/\(ae.alloc (.cells #[n_] 35)).cell? (c_ X (r+k*5+4))=some (i_ n):=⟨(z.g_ m).f_ 0,(ai.g_ m).f_ 1,(D.g_ m).f_ 0,(m).f_ kb s_⟩;have z0:=t.f_ 0;have eT:=t.hm 0
    refine hS H C λC=>?_
    clear H K
    refine hQ 17 λK H=>?_
    go_simp;have h:Gr [] R (ae.alloc (.cells #[n_] 35)):=g.alloc _;have O:Gr [] ae (ae.alloc (.cells #[n_] 35)):=(D_ [] ae).alloc _;have aD:=L_ ae 35 #[n_];exact Ia
   .go_simp;have i:Gr [] R (bh.alloc (.cells #[n_] 35)):=j.alloc _;have t:=L_ bh 35 #[n_];clear C
    refine hS H ⟨(z.g_ i).f_ 0,(ai.g_ i).f_ 1,(D.g_ i).f_ 0,(i).f_ kb s_⟩ λC=>?_
    clear H K
    refine hQ 12 λK H=>?_
    go_simp
    (go_at_call 149;((with_reducible refine(qd U hc hl f.n (3+n) ⟨false,lr⟩ _ (hv.g_ (J.trans i)).os (hv.g_ (J.trans i)).la Q y).mono ?_);rintro e ae⟨rfl,am⟩))
    have g:Gr [] R ae:=i.trans am;clear C
    refine hS H ⟨(z.g_ g).f_ 0,(ai.g_ g).f_ 1,(D.g_ g).f_ 0,(g).f_ kb s_⟩ λC=>?_
    clear H K
    (iterate 3 refine jR C ?_)
    have x:=t.g_ am;have z0:=x.f_ 0;have eT:=x.hm 0
    refine hQ 17 λK H=>?_
    go_simp;have M:Gr [bh.heap.size] ae (ae.setCell (c_ bh.heap.size 0) (n_)):=(D_ [_] _).setCell (.inl s_) _;have h:Gr [] R (ae.setCell (c_ bh.heap.size 0) (n_)):=g.jz M j.size;have aD:=x.hJ 0 (n_);exact Ia
  case rest=>
   obtain⟨o,rfl,rfl,aM⟩:=hcut;replace z:=z.g_ aM;replace hR:=hR.g_ aM;have Z:=z.f_ 0;have bH:=hR.hm 0;have bn:=hR.f_ 0;go_wp2;have M:Gr [gr] wc (wc.setCell (c_ gr 0) (.slice U hl.length hc)):=(D_ [gr] wc).setCell (.inl s_) _;exact rr_ #[.slice U hl.length hc] (hR.hJ 0 (.slice U hl.length hc)) underlying35 ⟨U,hc,hl,rfl,(hv.g_ (J.trans aM)).ig hR d_ d_ M,bl.out.symm,(J.trans aM).jz M bE⟩
 |some u=>
  have bl:=h_ (show mj l (hN hl) (k:Int) lr=kT (hN hl) f.n (3+n) ⟨false,lr⟩ by rw[B.out];unfold rb;simp only[y])
  go_cut [11,12] (λp b a7=>∃(o:Nat) (a6:Option Addr) (c5:Nat) (a:List Rw),p=q_ o/\b=.bool true/\Bk a7 o 35 #[.slice a6 a.length c5]/\l5 a7 a6 c5 a/\hN a=kT (hN hl) f.n (3+n) ⟨false,lr⟩/\Gr [] R a7)
  case first=>
   refine hC (λw'=>w'.cell? (c_ aW 0)=some (.slice U hl.length hc)/\w'.cell? (c_ V 1)=some (i_ f.n)/\w'.cell? (c_ L 0)=some (.slice (some (c_ X r)) l.length c)/\w'.cell? (c_ X (r+k*5+4))=some (i_ n)) 19 k_ ?_;have j:Gr [] R R.drew:=(D_ [] R).drew;obtain⟨bh,bF⟩:=nm_ R.drew;rw[<-bF]at j |-;clear bF;have C:bh.cell? (c_ aW 0)=some (.slice U hl.length hc)/\bh.cell? (c_ V 1)=some (i_ f.n)/\bh.cell? (c_ L 0)=some (.slice (some (c_ X r)) l.length c)/\bh.cell? (c_ X (r+k*5+4))=some (i_ n):=⟨(z.g_ j).f_ 0,(ai.g_ j).f_ 1,(D.g_ j).f_ 0,(j).f_ kb s_⟩
   have e0:(0:Int)<=(k:Int):=by omega
   have aP:(k:Int)<(l.length:Int):=by omega
   (iterate 9 refine jR C ?_)
   refine ih 9 (v:=i_ (3+n)) C ?_ (hy:=(Or.inl ⟨by rfl,(by intro w' bA;go_simp;try(first|with_reducible rfl|(rw[E8];omega)))⟩))
   (iterate 2 refine jR C ?_)
   refine i6 12 16 rfl rfl k_ (λK H=>?_) (λK H=>?_)
   .go_simp;have i:Gr [] R bh:=j
    (go_at_call 149;((with_reducible refine(nW U hc hl f.n (3+n) ⟨false,lr⟩ u _ (hv.g_ (J.trans i)).os (hv.g_ (J.trans i)).la Q y).mono ?_);rintro e ae⟨a6,c5,a,rfl,G,P,bD,d,am⟩;have s:=h_ d;clear d))
    have g:Gr [] R ae:=j.trans am;clear C
    refine hS H ⟨(z.g_ g).f_ 0,(ai.g_ g).f_ 1,(D.g_ g).f_ 0,(g).f_ kb s_⟩ λC=>?_
    clear H K
    iterate 3 refine jR C ?_
    refine hQ 16 λK H=>?_
    go_simp;have m:Gr [] R (ae.alloc (.cells #[n_] 35)):=g.alloc _;have t:=L_ ae 35 #[n_];clear C;have C:(ae.alloc (.cells #[n_] 35)).cell? (c_ aW 0)=some (.slice U hl.length hc)/\(ae.alloc (.cells #[n_] 35)).cell? (c_ V 1)=some (i_ f.n)/\(ae.alloc (.cells #[n_] 35)).cell? (c_ L 0)=some (.slice (some (c_ X r)) l.length c)/\(ae.alloc (.cells #[n_] 35)).cell? (c_ X (r+k*5+4))=some (i_ n):=⟨(z.g_ m).f_ 0,(ai.g_ m).f_ 1,(D.g_ m).f_ 0,(m).f_ kb s_⟩;have z0:=t.f_ 0;have eT:=t.hm 0
    refine hS H C λC=>?_
    clear H K
    refine hQ 17 λK H=>?_
    go_simp;have h:Gr [] R (ae.alloc (.cells #[.slice a6 a.length c5] 35)):=g.alloc _;have O:Gr [] ae (ae.alloc (.cells #[.slice a6 a.length c5] 35)):=(D_ [] ae).alloc _;have aD:=L_ ae 35 #[.slice a6 a.length c5];clear C
    refine hS H ⟨(z.g_ h).f_ 0,(ai.g_ h).f_ 1,(D.g_ h).f_ 0,(h).f_ kb s_⟩ λC=>?_
    clear H K;refine ih 18 C ?_;refine hA k_ ?_ _;go_wp2;go_meet;exact⟨_,a6,c5,a,rfl,rfl,aD,(l5.mk P bD G).g_ O,s.out,h⟩
   .go_simp;have i:Gr [] R (bh.alloc (.cells #[n_] 35)):=j.alloc _;have t:=L_ bh 35 #[n_];clear C
    refine hS H ⟨(z.g_ i).f_ 0,(ai.g_ i).f_ 1,(D.g_ i).f_ 0,(i).f_ kb s_⟩ λC=>?_
    clear H K
    refine hQ 12 λK H=>?_
    go_simp
    (go_at_call 149;((with_reducible refine(nW U hc hl f.n (3+n) ⟨false,lr⟩ u _ (hv.g_ (J.trans i)).os (hv.g_ (J.trans i)).la Q y).mono ?_);rintro e ae⟨a6,c5,a,rfl,G,P,bD,d,am⟩;have s:=h_ d;clear d))
    have g:Gr [] R ae:=i.trans am;clear C
    refine hS H ⟨(z.g_ g).f_ 0,(ai.g_ g).f_ 1,(D.g_ g).f_ 0,(g).f_ kb s_⟩ λC=>?_
    clear H K
    (iterate 3 refine jR C ?_)
    have x:=t.g_ am;have z0:=x.f_ 0;have eT:=x.hm 0
    refine hQ 17 λK H=>?_
    go_simp;have M:Gr [bh.heap.size] ae (ae.setCell (c_ bh.heap.size 0) (.slice a6 a.length c5)):=(D_ [_] _).setCell (.inl s_) _;have h:Gr [] R (ae.setCell (c_ bh.heap.size 0) (.slice a6 a.length c5)):=g.jz M j.size;have aD:=x.hJ 0 (.slice a6 a.length c5);clear C
    refine hS H ⟨(z.g_ h).f_ 0,(ai.g_ h).f_ 1,(D.g_ h).f_ 0,(h).f_ kb s_⟩ λC=>?_
    clear H K;refine ih 18 C ?_;refine hA k_ ?_ _;go_wp2;go_meet;exact⟨_,a6,c5,a,rfl,rfl,aD,(l5.mk P bD G).ig x d_ d_ M,s.out,h⟩
  case rest=>
   obtain⟨o,a6,c5,a,rfl,rfl,t,W,d,aM⟩:=hcut;have q:=h_ d;clear d;replace hR:=hR.g_ aM;have Z:=t.f_ 0;have bH:=hR.hm 0;have bn:=hR.f_ 0;go_wp2;have M:Gr [gr] wc (wc.setCell (c_ gr 0) (.slice a6 a.length c5)):=(D_ [gr] wc).setCell (.inl s_) _;exact rr_ #[.slice a6 a.length c5] (hR.hJ 0 (.slice a6 a.length c5)) underlying35 ⟨a6,c5,a,rfl,W.ig hR d_ d_ M,by rw[q.out,bl.out],(J.trans aM).jz M bE⟩
theorem yB:(Instr.build 49 #[(0,i_ pc)]).run prog w=.ok (.agg (iz pc jb)) w:=by kernel_rfl
theorem vL(l:List Ac)(w:World)(h:As w A l)(hn:l.length<=1000000000):
 Calls prog 93 #[.slice A l.length c,n_] w λe w'=>∃(A':Option Addr) (d:Nat),e=.returned (.slice A' l.length d)/\w'.ownsRow w.heap.size 162 3 (.slice A' l.length d) l.length (l.flatMap Ac.E)/\Gr [] w w':=by
 obtain⟨bz,bw,br,bi,bf⟩:=info_parts infoAc;have C:Sl w 162 3 A l.length (l.flatMap Ac.E):=h;have hbs:w.heap.size<=w.heap.size:=G_ _
 go_enter func93,ntmps93
 go_wp2_with (first
  |(at_builtin;refine iD _ rfl (.const (n_)) (.tmp 5) 36 rfl w.heap.size 162 bz _ 3 24 underlying36 bw br bi bf rfl d_ d_ none 0 0 [] rfl (iJ _ _ _ _) A l.length c _ rfl C (te _) o_ hbs ?_;intro ay an w2 aY av;simp only[U_,Ea]at aY;have ad:=av.gr [] w (G_ _) (D_ [] w);have b:=ad.size;have cj:=EM w2 162 3 none)
  |(at_builtin;refine iD _ rfl (.tmp 6) (.tmp 7) 36 rfl w.heap.size 162 bz _ 3 24 underlying36 bw br bi bf rfl d_ d_ ay l.length an _ rfl aY none 0 0 _ rfl cj (by intro u hu;cases hu) o_ b ?_;intro a8 aN ai bE a;simp only[Fe,List.append_nil]at bE;have S:=a.gr [] w (G_ _) ad))
 go_ret;exact⟨a8,aN,rfl,bE,S⟩
def lZ(l:List In)(hq g9:Int)(s:qR)(e:pQ):Bool:=decide (s.jt=true∨jm l hq g9 s.hG=false∨e.hT=4)
def oU(l:List In)(lr:List Int)(s:qR)(e:pQ):qR:=
 if e.hT=3 then{s with h:=mj l s.h s.hG (je lr s.ja),hU:=s.hU++[⟨true,e.v.n,je lr s.ja⟩],hw:=s.hw+1,hG:=s.hG+1,ja:=s.ja+1}
 else if e.hT=2 then{s with h:=lI s.h e,hw:=s.hw+1,jt:=true,hO:=e.hO,v:=e.v}
 else{s with h:=lI s.h e,hw:=s.hw+1,hG:=e.pc}
def oN(l:List In)(hq g9:Int)(lr:List Int)(s:qR):qR × Int:=
 if hZ l hq g9=false then(Cm.zero.p,1) else
 if lZ l hq g9 s (lE l hq g9 s.hG jb s.h 0)=true then(Cm.zero.p,7) else
 (oU l lr s (lE l hq g9 s.hG jb s.h 0),0)
theorem yD(aA:Option Addr)(ac:Nat)(al:List Int)(s:Cm)(w:World)(h:Is w A l)(hn:l.length<=1000000000)(ha:Ns w 2 aA al)(aN:al.length<=1000000000)(hs:lN w s)(be:s.h.l.length<=99999999)(cW:s.hU.l.length<=100000000)(aS: -1000000000<=s.hG)(b1:s.hG<=1000000000)(b2:0<=s.hw)(dE:s.hw<=1000000000000)(dx:0<=s.ja)(et:s.ja<=1000000000):
 Calls prog 48 #[.agg #[.slice A l.length c,i_ hq,i_ g9],.agg #[.slice aA al.length ac],.agg s.g8] w (uf (oN l hq g9 al s.p).1 (oN l hq g9 al s.p).2 w):=by
 obtain⟨bz,bw,br,bi,bf⟩:=info_parts infoAc;obtain⟨E,hE⟩:=mn_ (lE l hq g9 s.hG jb (hN s.h.l) 0)
 have a2:E.sm 16:=by rw[<-hE];exact r0 _ _ _ _ _ _ _
 have bY:=h_ hE;clear hE;obtain⟨⟨P,N⟩,cV⟩:∃q,oN l hq g9 al s.p=q:=⟨_,rfl⟩;rw[cV];have U:=h_ cV;clear cV;obtain⟨D,aZ,z,hR,J⟩:=BC w 26 #[.slice A l.length c,i_ hq,i_ g9] 29 #[.slice aA al.length ac] 40 s.g8 40 #[n_,i_ 0,i_ 0,n_,.bool false,.bool false,.bool false,i_ 0,i_ 0,i_ 0]
 go_enter func48,ntmps48
 go_upto_region 1 with fail
 obtain⟨bm,bN⟩:=nm_ ((((w.alloc (.cells #[.slice A l.length c,i_ hq,i_ g9] 26)).alloc (.cells #[.slice aA al.length ac] 29)).alloc (.cells s.g8 40)).alloc (.cells #[n_,i_ 0,i_ 0,n_,.bool false,.bool false,.bool false,i_ 0,i_ 0,i_ 0] 40));rw[<-bN]at D aZ z hR J |-;clear bN;obtain⟨L,bF⟩:=nm_ w.heap.size;obtain⟨gw,bq⟩:=nm_ (w.heap.size+1);obtain⟨d,bC⟩:=nm_ (w.heap.size+1+1);obtain⟨gr,F⟩:=nm_ (w.heap.size+1+1+1);rw[<-F]at hR;rw[<-bC]at z;rw[<-bq]at aZ;rw[<-bF]at D;rw[<-F,<-bC,<-bq,<-bF]
 have bE:w.heap.size<=gr:=by omega
 have m:w.heap.size<=d:=by omega
 have av:L≠d/\gw≠d/\gr≠d:=by omega
 clear bF bC bq F;have Z:=D.f_ 0;have ah:=D.f_ 1;have au:=D.f_ 2
 cases hv:hZ l hq g9 with
 |false=>
  obtain⟨rfl,rfl⟩:=Prod.mk.inj (U.out.symm.trans (by unfold oN;exact Q_ hv));exact KH
 |true=>
 have aD:Hid ((P,N)=if lZ l hq g9 s.p E=true then(Cm.zero.p,7) else(oU l al s.p E,0)):=h_ (by
  rw[<-U.out];unfold oN
  rw[P_ (by rw[hv];decide),show lE l hq g9 s.p.hG jb s.p.h 0=E from bY.out])
 have ay:∀k,k<l.length->kU l k=true:=by
  intro k hk;have bX:=hv;unfold hZ oK at bX;simp only[Ec]at bX;exact Ei.mp bX.1.1.2 k (by simpa using hk)
 clear U
 go_upto_region 3 with(go_at_call 92;have ak:=iI A c l hq g9 _ (h.g_ J) hn;rw[hv]at ak;refine ak.mono ?_;rintro e w1⟨rfl,hg1⟩)
 replace D:=D.g_ hg1;replace aZ:=aZ.g_ hg1;replace z:=z.g_ hg1;replace hR:=hR.g_ hg1;replace J:=J.trans hg1;clear hg1 hv;replace Z:=D.f_ 0;replace ah:=D.f_ 1;replace au:=D.f_ 2;have m1:w1.cell? (c_ d 1)=some (i_ s.hG):=(z.f_ 1).trans rfl;have m0:w1.cell? (c_ d 0)=some (.slice s.h.A s.h.l.length s.h.c):=(z.f_ 0).trans rfl
 go_upto_region 4 with(first|(refine wpList_build rfl _ _ rfl #[(0,i_ s.hG)] k_ _ (yB s.hG _) ?_)|(go_at_call 78;have ak:=pD A c l hq g9 s.hG 0 jb s.h.A s.h.c s.h.l _ (h.g_ J) hn (hs.h.g_ J) o_ o_;rw[bY.out]at ak;refine ak.mono ?_;unfold vP;rintro e w2⟨f,rfl,V,aj,ad⟩)|(refine kG (f.g8) (L_ w2 134 tm) (Ef.one _) ?_;intro ai bh S))
 have aT:Gr [] w2 ai:=((D_ [] w2).alloc _).jz S (G_ _);have aI:Gr [] w1 ai:=ad.trans aT;have aV:sd ai f:=(V.g_ ((D_ [] w2).alloc (.cells tm 134))).ig (L_ w2 134 tm) d_ S
 have bu:w2.heap.size≠d:=by have:=(z.g_ ad).lt;omega
 replace D:=D.g_ aI;replace aZ:=aZ.g_ aI;replace z:=z.g_ aI;replace hR:=hR.g_ aI;replace J:=J.trans aI;clear aI ad S aT V Z ah au m0 m1;have hE:=bh;have V:=aV;clear bh aV;have i:w2.heap.size≠d:=bu;clear bu;generalize w2.heap.size=bt at*
 have cw:f.p.sm 16:=by rw[aj];exact a2
 rw[<-aj]at aD
 have bG:f.nw.l.length<=16:=by have:=cw.nw;have e:f.p.nw.length=f.nw.l.length:=hW _;omega
 clear a2 bY aj
 try simp only[a_]
 go_cut [34] (λb a7=>b=.bool (lZ l hq g9 s.p f.p)/\Gr [] ai a7)
 case first=>
  have Z:=D.f_ 0;have ah:=D.f_ 1;have au:=D.f_ 2;have m4:ai.cell? (c_ d 4)=some (.bool s.jt):=(z.f_ 4).trans rfl;have m1:ai.cell? (c_ d 1)=some (i_ s.hG):=(z.f_ 1).trans rfl
  cases bj:s.jt with
  |true=>
   have aY:=h_ (show lZ l hq g9 s.p f.p=true by unfold lZ;exact Ek (.inl bj));rw[bj]at m4;clear bj;go_wp2;go_meet;exact⟨iY aY.out.symm,D_ _ _⟩
  |false=>
   rw[bj]at m4
   cases j:jm l hq g9 s.hG with
   |false=>
    have aY:=h_ (show lZ l hq g9 s.p f.p=true by unfold lZ;exact Ek (.inr (.inl j)));exact KN
   |true=>
    have aY:=h_ (show lZ l hq g9 s.p f.p=(f.hT==4) by
     unfold lZ
     by_cases h1:f.hT=4
     .have:(f.hT==4)=true:=by simpa using h1
      rw[this];exact Ek (.inr (.inr h1))
     .have:(f.hT==4)=false:=by simpa using h1
      rw[this]
      exact EU (λaB=>aB.elim (λh2=>D6 h2 (by show ¬s.jt=true;rw[bj];decide)) (λh2=>h2.elim (λh3=>D6 (show jm l hq g9 s.hG=false from h3) (by rw[j];decide)) (λh3=>h1 h3))))
    exact KN
 case rest=>
 obtain⟨rfl,aM⟩:=hcut;replace D:=D.g_ aM;replace aZ:=aZ.g_ aM;replace z:=z.g_ aM;replace hR:=hR.g_ aM;replace J:=J.trans aM;replace hE:=hE.g_ aM;replace V:=V.g_ aM;clear aM
 cases hcb:lZ l hq g9 s.p f.p with
 |true=>
  obtain⟨rfl,rfl⟩:=Prod.mk.inj (aD.out.trans (Q_ hcb));clear hcb aD;exact KV
 |false=>
 obtain⟨rfl,rfl⟩:=Prod.mk.inj (aD.out.trans (P_ (by rw[hcb];decide)))
 have j:jm l hq g9 s.hG=true:=by
  unfold lZ at hcb;have h1:=of_decide_eq_false hcb
  cases h2:jm l hq g9 s.hG with
  |true=>rfl
  |false=>exact D6 (.inr (.inl h2)) h1
 obtain⟨k,hk⟩:∃k:Nat,s.hG=k:=by
  unfold jm ij at j;simp only[Ec]at j;have h2:=j.2;refine⟨s.hG.toNat,?_⟩;exact JL
 have aH:k<l.length:=by
  unfold jm ij at j;simp only[Ec]at j;have h2:=j.2;exact JL
 have ap:l.getD k default=l[k]:=by simp[List.getD,K_ aH]
 have o:l[k].op=20:=by
  unfold jm ij at j;simp only[Ec]at j;have h2:=j.2;rw[P_ o_,hk,ED,ap]at h2
  simpa using h2
 have W:=vu (ay k aH);rw[ap]at W;have b8:=(W.hq (.inr (.inr (.inr o)))).1;have bW:=(W.hq (.inr (.inr (.inr o)))).2;have bQ:=h_ hk;clear hk o ap W j hcb aD ay;have m3:wc.cell? (c_ d 3)=some (.slice s.hU.A s.hU.l.length s.hU.c):=(z.f_ 3).trans rfl
 go_upto_region 7 with(go_at_call 93;((with_reducible refine(vL s.hU.A s.hU.c s.hU.l _ (hs.hU.g_ J) o_).mono ?_);rintro e T⟨aR,c4,rfl,cv,af⟩;have m3:T.cell? (c_ d 3)=some (.slice s.hU.A s.hU.l.length s.hU.c):=((z.g_ af).f_ 3).trans rfl;have aq:=(z.g_ af).hm 3))
 have M:Gr [d] T (T.setCell (c_ d 3) (.slice aR s.hU.l.length c4)):=(D_ [d] T).setCell (.inl s_) _;have y:Bk (T.setCell (c_ d 3) (.slice aR s.hU.l.length c4)) d 40 ({s with hU:=⟨aR,c4,s.hU.l⟩}:Cm).g8:=(z.g_ af).hJ 3 (.slice aR s.hU.l.length c4);have aX:=kx (x:=d) cv ((z.g_ af).pF d_) M;replace D:=(D.g_ af).gr M (by simpa using av.1);replace aZ:=(aZ.g_ af).gr M (by simpa using av.2.1);replace hR:=(hR.g_ af).gr M (by simpa using av.2.2);replace hE:=(hE.g_ af).gr M (by simpa using i);replace V:sd (T.setCell (c_ d 3) (.slice aR s.hU.l.length c4)) f:=(V.g_ af).ig (z.g_ af) d_ M;have aL:w.heap.size<=wc.heap.size:=J.size;replace J:=(J.trans af).jz M m;clear m3 aq z af M cv;have z:=y;clear y;obtain⟨a6,bv⟩:=nm_ (T.setCell (c_ d 3) (.slice aR s.hU.l.length c4));rw[<-bv]at z aX D aZ hR hE V J |-;clear bv;replace aX:=B0 aX aL;have am:a6.cell? (c_ d 9)=some (i_ s.hw):=(z.f_ 9).trans rfl;have bB:=z.hm 9
 go_upto_region 8 with fail
 have M:Gr [d] a6 (a6.setCell (c_ d 9) (i_ (s.hw+1))):=(D_ [d] a6).setCell (.inl s_) _;have y:Bk (a6.setCell (c_ d 9) (i_ (s.hw+1))) d 40 ({s with hU:=⟨aR,c4,s.hU.l⟩,hw:=s.hw+1}:Cm).g8:=z.hJ 9 (i_ (s.hw+1));replace aX:=kx (x:=d) aX (z.pF d_) M;replace D:=D.gr M (by simpa using av.1);replace aZ:=aZ.gr M (by simpa using av.2.1);replace hR:=hR.gr M (by simpa using av.2.2);replace hE:=hE.gr M (by simpa using i);replace V:sd (a6.setCell (c_ d 9) (i_ (s.hw+1))) f:=V.ig z d_ M;replace J:=J.jz M m;clear am bB z M aL;have z:=y;clear y;obtain⟨Y,aW⟩:=nm_ (a6.setCell (c_ d 9) (i_ (s.hw+1)));rw[<-aW]at z aX D aZ hR hE V J |-;clear aW;have e0:Y.cell? (c_ bt 0)=some (i_ f.hT):=(hE.f_ 0).trans rfl;have m0:Y.cell? (c_ d 0)=some (.slice s.h.A s.h.l.length s.h.c):=(z.f_ 0).trans rfl
 by_cases b0:f.hT=3
 .have bP:(f.hT==3)=true:=by simpa using b0
  have cK:Hid (oU l al s.p f.p={s.p with h:=mj l s.p.h s.hG (je al s.ja),hU:=s.p.hU++[(⟨true,f.v.n,je al s.ja⟩:Ac)],hw:=s.hw+1,hG:=s.hG+1,ja:=s.ja+1}):=h_ (by unfold oU;exact Q_ b0);clear b0;have w0:=aZ.f_ 0;have m2:Y.cell? (c_ d 2)=some (i_ s.ja):=(z.f_ 2).trans rfl
  go_upto_region 10 with(go_at_call 94;((with_reducible refine(wX aA ac al s.ja _ (ha.g_ J) aN).mono ?_);rintro e aF⟨rfl,aC⟩))
  replace D:=D.g_ aC;replace aZ:=aZ.g_ aC;replace z:=z.g_ aC;replace hR:=hR.g_ aC;replace J:=J.trans aC;replace hE:=hE.g_ aC;replace V:=V.g_ aC;replace aX:=iu aX aC;clear aC w0 m2 e0 bP m0;have Z:=D.f_ 0;have ah:=D.f_ 1;have au:=D.f_ 2;have m0:aF.cell? (c_ d 0)=some (.slice s.h.A s.h.l.length s.h.c):=(z.f_ 0).trans rfl;have m1:aF.cell? (c_ d 1)=some (i_ (k:Int)):=(z.f_ 1).trans (D9 (λn=>some (Value.int .i64 n)) bQ.out)
  go_upto_region 11 with(go_at_call 95;((with_reducible refine(vI A c l hq g9 s.h.A s.h.c s.h.l k (je al s.ja) _ (h.g_ J) hn (hs.h.g_ J) o_ aH b8 bW).mono ?_);unfold l0;rintro e aG⟨aJ,aK,a,rfl,I,de,aO⟩;have aE:=h_ de;clear de;have m0:aG.cell? (c_ d 0)=some (.slice s.h.A s.h.l.length s.h.c):=((z.g_ aO).f_ 0).trans rfl;have an:=(z.g_ aO).hm 0))
  have M:Gr [d] aG (aG.setCell (c_ d 0) (.slice aJ a.length aK)):=(D_ [d] aG).setCell (.inl s_) _;have y:Bk (aG.setCell (c_ d 0) (.slice aJ a.length aK)) d 40 ({s with hU:=⟨aR,c4,s.hU.l⟩,hw:=s.hw+1,h:=⟨aJ,aK,a⟩}:Cm).g8:=(z.g_ aO).hJ 0 (.slice aJ a.length aK);have ao:=I.ig (z.g_ aO) d_ d_ M;replace aX:=kx (x:=d) (iu aX aO) ((z.g_ aO).pF d_) M;replace hR:=(hR.g_ aO).gr M (by simpa using av.2.2);replace hE:=(hE.g_ aO).gr M (by simpa using i);replace J:=(J.trans aO).jz M m;clear m0 an m1 Z ah au z M D aZ V I aO;have z:=y;clear y;obtain⟨Q,bH⟩:=nm_ (aG.setCell (c_ d 0) (.slice aJ a.length aK));rw[<-bH]at ao aX z hR hE J |-;clear bH;have m3:Q.cell? (c_ d 3)=some (.slice aR s.hU.l.length c4):=(z.f_ 3).trans rfl;have bA:Q.cell? (c_ bt 42)=some (i_ f.v.n):=(hE.f_ 42).trans rfl;have aw:Gr [] Q (Q.alloc (.cells #[.bool true,i_ f.v.n,i_ (je al s.ja)] 162)):=(D_ [] Q).alloc _;have X:Sl (Q.alloc (.cells #[.bool true,i_ f.v.n,i_ (je al s.ja)] 162)) 162 3 (j_ Q.heap.size) 1 [.bool true,i_ f.v.n,i_ (je al s.ja)]:=kC (s:=3) (L_ Q 162 #[.bool true,i_ f.v.n,i_ (je al s.ja)]) rfl;have ax:=iu aX aw;have t:w.heap.size<=(Q.alloc (.cells #[.bool true,i_ f.v.n,i_ (je al s.ja)] 162)).heap.size:=(J.trans aw).size
  go_upto_region 12 with(at_builtin;refine iD _ rfl (.tmp 60) (.tmp 66) 36 rfl w.heap.size 162 bz _ 3 24 underlying36 bw br bi bf rfl d_ d_ aR s.hU.l.length c4 _ rfl ax _ 1 1 _ rfl X (by intro u hu;simp at hu;rcases hu with rfl|rfl|rfl<;>rfl) o_ t ?_;intro bg bo bJ b7 R;have bU:=R.bk (z.g_ aw) d_;have m3:bJ.cell? (c_ d 3)=some (.slice aR s.hU.l.length c4):=(bU.f_ 3).trans rfl;have aq:=bU.hm 3)
  have M:Gr [d] bJ (bJ.setCell (c_ d 3) (.slice bg (s.hU.l.length+1) bo)):=(D_ [d] bJ).setCell (.inl s_) _
  have y:Bk (bJ.setCell (c_ d 3) (.slice bg (s.hU.l.length+1) bo)) d 40 ({s with hU:=⟨bg,bo,s.hU.l++[(⟨true,f.v.n,je al s.ja⟩:Ac)]⟩,hw:=s.hw+1,h:=⟨aJ,aK,a⟩}:Cm).g8:=by
   rw[show({s with hU:=⟨bg,bo,s.hU.l++[(⟨true,f.v.n,je al s.ja⟩:Ac)]⟩,hw:=s.hw+1,h:=⟨aJ,aK,a⟩}:Cm).g8=({s with hU:=⟨aR,c4,s.hU.l⟩,hw:=s.hw+1,h:=⟨aJ,aK,a⟩}:Cm).g8.setIfInBounds 3 (.slice bg (s.hU.l.length+1) bo) from(show({s with hU:=⟨bg,bo,s.hU.l++[(⟨true,f.v.n,je al s.ja⟩:Ac)]⟩,hw:=s.hw+1,h:=⟨aJ,aK,a⟩}:Cm).g8=({s with hU:=⟨aR,c4,s.hU.l⟩,hw:=s.hw+1,h:=⟨aJ,aK,a⟩}:Cm).g8.setIfInBounds 3 (.slice bg (s.hU.l++[(⟨true,f.v.n,je al s.ja⟩:Ac)]).length bo) from rfl).trans (D9 (λn=>({s with hU:=⟨aR,c4,s.hU.l⟩,hw:=s.hw+1,h:=⟨aJ,aK,a⟩}:Cm).g8.setIfInBounds 3 (.slice bg n bo)) (by rw[H_];rfl))];exact bU.hJ 3 (.slice bg (s.hU.l.length+1) bo)
  have c3:=kx (x:=d) b7 (bU.pF d_) M
  have g:lN (bJ.setCell (c_ d 3) (.slice bg (s.hU.l.length+1) bo)) ({s with hU:=⟨bg,bo,s.hU.l++[(⟨true,f.v.n,je al s.ja⟩:Ac)]⟩,hw:=s.hw+1,h:=⟨aJ,aK,a⟩}:Cm):=by
   refine⟨(l5.mk (R.sl (ao.g_ aw).os d_) (R.BY d_ (ao.g_ aw).la) ao.kX).ig bU d_ d_ M,?_,?_⟩
   .have q:=Sl.iG c3
    show Sl (bJ.setCell (c_ d 3) (.slice bg (s.hU.l.length+1) bo)) 162 3 bg (s.hU.l++[(⟨true,f.v.n,je al s.ja⟩:Ac)]).length ((s.hU.l++[(⟨true,f.v.n,je al s.ja⟩:Ac)]).flatMap Ac.E)
    rw[Ej,FO,show(s.hU.l++[(⟨true,f.v.n,je al s.ja⟩:Ac)]).length=s.hU.l.length+1 by rw[H_];rfl];exact q
   .show(s.hU.l++[(⟨true,f.v.n,je al s.ja⟩:Ac)]).length<=bo
    rw[H_];exact iQ c3
  replace hR:=(R.bk (hR.g_ aw) d_).gr M (by simpa using av.2.2);replace J:=(R.gr [] w (G_ _) (J.trans aw)).jz M m;clear m3 aq bA bU z M hE ao aX b7 c3 R ax X aw t;have z:=y;clear y;obtain⟨bl,bV⟩:=nm_ (bJ.setCell (c_ d 3) (.slice bg (s.hU.l.length+1) bo));rw[<-bV]at g z hR J |-;clear bV;have m1:bl.cell? (c_ d 1)=some (i_ s.hG):=(z.f_ 1).trans rfl;have m2:bl.cell? (c_ d 2)=some (i_ s.ja):=(z.f_ 2).trans rfl;have bD:=z.hm 1;have bK:=z.hm 2;have M:Gr [d] bl ((bl.setCell (c_ d 1) (i_ (s.hG+1))).setCell (c_ d 2) (i_ (s.ja+1))):=((D_ [d] bl).setCell (p:=(c_ d 1)) (.inl s_) _).setCell (p:=(c_ d 2)) (.inl s_) _;have y:Bk ((bl.setCell (c_ d 1) (i_ (s.hG+1))).setCell (c_ d 2) (i_ (s.ja+1))) d 40 ({s with hU:=⟨bg,bo,s.hU.l++[(⟨true,f.v.n,je al s.ja⟩:Ac)]⟩,hw:=s.hw+1,h:=⟨aJ,aK,a⟩,hG:=s.hG+1,ja:=s.ja+1}:Cm).g8:=(z.hJ 1 (i_ (s.hG+1))).hJ 2 (i_ (s.ja+1));have B:=hR.gr M (by simpa using av.2.2);have HA:Hid (oU l al s.p f.p=({s with hU:=⟨bg,bo,s.hU.l++[(⟨true,f.v.n,je al s.ja⟩:Ac)]⟩,hw:=s.hw+1,h:=⟨aJ,aK,a⟩,hG:=s.hG+1,ja:=s.ja+1}:Cm).p):=h_ (by rw[cK.out,bQ.out,show mj l s.p.h (k:Int) (je al s.ja)=hN a from aE.out.symm,<-bQ.out];rfl)
  go_wp2_with (first|(refine kJ y underlying40 ?_)|(refine kG (({s with hU:=⟨bg,bo,s.hU.l++[(⟨true,f.v.n,je al s.ja⟩:Ac)]⟩,hw:=s.hw+1,h:=⟨aJ,aK,a⟩,hG:=s.hG+1,ja:=s.ja+1}:Cm).g8) B (Cm.one _) ?_;intro ag az G))
  rw[HA.out];exact lA ({s with hU:=⟨bg,bo,s.hU.l++[(⟨true,f.v.n,je al s.ja⟩:Ac)]⟩,hw:=s.hw+1,h:=⟨aJ,aK,a⟩,hG:=s.hG+1,ja:=s.ja+1}:Cm).g8 (i_ 0) az underlying40 ⟨({s with hU:=⟨bg,bo,s.hU.l++[(⟨true,f.v.n,je al s.ja⟩:Ac)]⟩,hw:=s.hw+1,h:=⟨aJ,aK,a⟩,hG:=s.hG+1,ja:=s.ja+1}:Cm),rfl,(lN.mk (s:=({s with hU:=⟨bg,bo,s.hU.l++[(⟨true,f.v.n,je al s.ja⟩:Ac)]⟩,hw:=s.hw+1,h:=⟨aJ,aK,a⟩,hG:=s.hG+1,ja:=s.ja+1}:Cm)) (g.h.ig z d_ d_ M) (Sl.ig g.hU z d_ M) g.px).ig B d_ G,rfl,(J.jz M m).jz G bE⟩
 .have bP:(f.hT==3)=false:=by simpa using b0
  have cK:Hid (oU l al s.p f.p=if f.hT=2 then{s.p with h:=lI s.p.h f.p,hw:=s.hw+1,jt:=true,hO:=f.hO,v:=f.v} else{s.p with h:=lI s.p.h f.p,hw:=s.hw+1,hG:=f.pc}):=h_ (by unfold oU;exact P_ b0);clear b0;have ar:Gr [] Y Y:=D_ _ _
  go_upto_region 16 with(first|(refine kJ hE underlying134 ?_)|(go_at_call 96;((with_reducible refine(vJ s.h.A s.h.c s.h.l f _ (V.g_ ar) (hs.h.g_ J) o_ (F_ cw.ws d_)).mono ?_);unfold l0;rintro e aG⟨aJ,aK,a,rfl,I,de,aO⟩;have aE:=h_ de;clear de;have m0:aG.cell? (c_ d 0)=some (.slice s.h.A s.h.l.length s.h.c):=((z.g_ aO).f_ 0).trans rfl;have an:=(z.g_ aO).hm 0)))
  have M:Gr [d] aG (aG.setCell (c_ d 0) (.slice aJ a.length aK)):=(D_ [d] aG).setCell (.inl s_) _;have y:Bk (aG.setCell (c_ d 0) (.slice aJ a.length aK)) d 40 ({s with hU:=⟨aR,c4,s.hU.l⟩,hw:=s.hw+1,h:=⟨aJ,aK,a⟩}:Cm).g8:=(z.g_ aO).hJ 0 (.slice aJ a.length aK);have g:lN (aG.setCell (c_ d 0) (.slice aJ a.length aK)) ({s with hU:=⟨aR,c4,s.hU.l⟩,hw:=s.hw+1,h:=⟨aJ,aK,a⟩}:Cm):=⟨I.ig (z.g_ aO) d_ d_ M,Sl.ig (Sl.iG (iu aX aO)) (z.g_ aO) d_ M,iQ aX⟩;replace hR:=(hR.g_ aO).gr M (by simpa using av.2.2);replace hE:=(hE.g_ aO).gr M (by simpa using i);replace J:=(J.trans aO).jz M m;clear m0 an z M e0 bP D aZ aX V ar I aO;have z:=y;clear y;obtain⟨Q,bH⟩:=nm_ (aG.setCell (c_ d 0) (.slice aJ a.length aK));rw[<-bH]at g z hR hE J |-;clear bH;have e0:Q.cell? (c_ bt 0)=some (i_ f.hT):=(hE.f_ 0).trans rfl
  by_cases cj:f.hT=2
  .have bI:(f.hT==2)=true:=by simpa using cj
   have HA:Hid (oU l al s.p f.p=({s with hU:=⟨aR,c4,s.hU.l⟩,hw:=s.hw+1,h:=⟨aJ,aK,a⟩,jt:=true,hO:=f.hO,v:=f.v}:Cm).p):=h_ (by rw[cK.out,Q_ cj,show lI s.p.h f.p=hN a from aE.out.symm];rfl);clear cj cK
   go_upto_region 17 with fail
   clear e0 bI;refine hC (λw'=>w'.cell? (c_ bt 40)=some (.bool f.hO)/\w'.cell? (c_ bt 41)=some (.bool f.v.r)/\w'.cell? (c_ bt 42)=some (i_ f.v.n)) 10 k_ ?_;have ap:Gr [] Q Q.drew:=(D_ [] Q).drew;replace g:=g.g_ ap;replace z:=z.g_ ap;replace hR:=hR.g_ ap;replace hE:=hE.g_ ap;replace J:=J.trans ap;clear ap;obtain⟨r,a8⟩:=nm_ Q.drew;rw[<-a8]at g z hR hE J |-;clear a8;have C:r.cell? (c_ bt 40)=some (.bool f.hO)/\r.cell? (c_ bt 41)=some (.bool f.v.r)/\r.cell? (c_ bt 42)=some (i_ f.v.n):=⟨(hE.f_ 40).trans rfl,(hE.f_ 41).trans rfl,(hE.f_ 42).trans rfl⟩;have m4:r.cell? (c_ d 4)=some (.bool s.jt):=(z.f_ 4).trans rfl;have O:r.cell? (c_ d 5)=some (.bool s.hO):=(z.f_ 5).trans rfl;have ae:r.cell? (c_ d 6)=some (.bool s.v.r):=(z.f_ 6).trans rfl;have dg:r.cell? (c_ d 7)=some (i_ s.v.n):=(z.f_ 7).trans rfl;have aQ:=z.hm 4;have aU:=z.hm 5;have bn:=z.hm 6;have bp:=z.hm 7
   iterate 5 refine jR C ?_
   refine hQ 5 λK H=>?_
   go_simp;clear C
   refine hS H ⟨((hE.h7 (p:=(c_ d 4)) i (.bool true)).f_ 40).trans rfl,((hE.h7 (p:=(c_ d 4)) i (.bool true)).f_ 41).trans rfl,((hE.h7 (p:=(c_ d 4)) i (.bool true)).f_ 42).trans rfl⟩ λC=>?_
   clear H K;refine ih 6 C ?_
   refine hQ 7 λK H=>?_
   go_simp;clear C
   refine hS H ⟨(((hE.h7 (p:=(c_ d 4)) i (.bool true)).h7 (p:=(c_ d 5)) i (.bool f.hO)).f_ 40).trans rfl,(((hE.h7 (p:=(c_ d 4)) i (.bool true)).h7 (p:=(c_ d 5)) i (.bool f.hO)).f_ 41).trans rfl,(((hE.h7 (p:=(c_ d 4)) i (.bool true)).h7 (p:=(c_ d 5)) i (.bool f.hO)).f_ 42).trans rfl⟩ λC=>?_
   clear H K;refine ih 8 C ?_
   refine hQ 9 λK H=>?_
   go_simp;clear C
   refine hS H ⟨(((((hE.h7 (p:=(c_ d 4)) i (.bool true)).h7 (p:=(c_ d 5)) i (.bool f.hO)).h7 (p:=(c_ d 6)) i (.bool f.v.r)).h7 (p:=(c_ d 7)) i (i_ f.v.n)).f_ 40).trans rfl,(((((hE.h7 (p:=(c_ d 4)) i (.bool true)).h7 (p:=(c_ d 5)) i (.bool f.hO)).h7 (p:=(c_ d 6)) i (.bool f.v.r)).h7 (p:=(c_ d 7)) i (i_ f.v.n)).f_ 41).trans rfl,(((((hE.h7 (p:=(c_ d 4)) i (.bool true)).h7 (p:=(c_ d 5)) i (.bool f.hO)).h7 (p:=(c_ d 6)) i (.bool f.v.r)).h7 (p:=(c_ d 7)) i (i_ f.v.n)).f_ 42).trans rfl⟩ λC=>?_
   clear H K;have M:Gr [d] r ((((r.setCell (c_ d 4) (.bool true)).setCell (c_ d 5) (.bool f.hO)).setCell (c_ d 6) (.bool f.v.r)).setCell (c_ d 7) (i_ f.v.n)):=((((D_ [d] r).setCell (p:=(c_ d 4)) (.inl s_) _).setCell (p:=(c_ d 5)) (.inl s_) _).setCell (p:=(c_ d 6)) (.inl s_) _).setCell (p:=(c_ d 7)) (.inl s_) _;have y:Bk ((((r.setCell (c_ d 4) (.bool true)).setCell (c_ d 5) (.bool f.hO)).setCell (c_ d 6) (.bool f.v.r)).setCell (c_ d 7) (i_ f.v.n)) d 40 ({s with hU:=⟨aR,c4,s.hU.l⟩,hw:=s.hw+1,h:=⟨aJ,aK,a⟩,jt:=true,hO:=f.hO,v:=f.v}:Cm).g8:=(((z.hJ 4 (.bool true)).hJ 5 (.bool f.hO)).hJ 6 (.bool f.v.r)).hJ 7 (i_ f.v.n);have B:=hR.gr M (by simpa using av.2.2);clear m4 O ae dg aQ aU bn bp C;refine hA k_ ?_ _
   go_wp2_with (first|(refine kJ y underlying40 ?_)|(refine kG (({s with hU:=⟨aR,c4,s.hU.l⟩,hw:=s.hw+1,h:=⟨aJ,aK,a⟩,jt:=true,hO:=f.hO,v:=f.v}:Cm).g8) B (Cm.one _) ?_;intro ag az G))
   rw[HA.out];exact lA ({s with hU:=⟨aR,c4,s.hU.l⟩,hw:=s.hw+1,h:=⟨aJ,aK,a⟩,jt:=true,hO:=f.hO,v:=f.v}:Cm).g8 (i_ 0) az underlying40 ⟨({s with hU:=⟨aR,c4,s.hU.l⟩,hw:=s.hw+1,h:=⟨aJ,aK,a⟩,jt:=true,hO:=f.hO,v:=f.v}:Cm),rfl,(lN.mk (s:=({s with hU:=⟨aR,c4,s.hU.l⟩,hw:=s.hw+1,h:=⟨aJ,aK,a⟩,jt:=true,hO:=f.hO,v:=f.v}:Cm)) (g.h.ig z d_ d_ M) (Sl.ig g.hU z d_ M) g.px).ig B d_ G,rfl,(J.jz M m).jz G bE⟩
  .have bI:(f.hT==2)=false:=by simpa using cj
   have HA:Hid (oU l al s.p f.p=({s with hU:=⟨aR,c4,s.hU.l⟩,hw:=s.hw+1,h:=⟨aJ,aK,a⟩,hG:=f.pc}:Cm).p):=h_ (by rw[cK.out,P_ cj,show lI s.p.h f.p=hN a from aE.out.symm];rfl);clear cj cK;have aP:Q.cell? (c_ bt 1)=some (i_ f.pc):=(hE.f_ 1).trans rfl;have m1:Q.cell? (c_ d 1)=some (i_ s.hG):=(z.f_ 1).trans rfl;have bD:=z.hm 1;have M:Gr [d] Q (Q.setCell (c_ d 1) (i_ f.pc)):=(D_ [d] Q).setCell (.inl s_) _;have y:Bk (Q.setCell (c_ d 1) (i_ f.pc)) d 40 ({s with hU:=⟨aR,c4,s.hU.l⟩,hw:=s.hw+1,h:=⟨aJ,aK,a⟩,hG:=f.pc}:Cm).g8:=z.hJ 1 (i_ f.pc);have B:=hR.gr M (by simpa using av.2.2)
   go_wp2_with (first|(refine kJ y underlying40 ?_)|(refine kG (({s with hU:=⟨aR,c4,s.hU.l⟩,hw:=s.hw+1,h:=⟨aJ,aK,a⟩,hG:=f.pc}:Cm).g8) B (Cm.one _) ?_;intro ag az G))
   rw[HA.out];exact lA ({s with hU:=⟨aR,c4,s.hU.l⟩,hw:=s.hw+1,h:=⟨aJ,aK,a⟩,hG:=f.pc}:Cm).g8 (i_ 0) az underlying40 ⟨({s with hU:=⟨aR,c4,s.hU.l⟩,hw:=s.hw+1,h:=⟨aJ,aK,a⟩,hG:=f.pc}:Cm),rfl,(lN.mk (s:=({s with hU:=⟨aR,c4,s.hU.l⟩,hw:=s.hw+1,h:=⟨aJ,aK,a⟩,hG:=f.pc}:Cm)) (g.h.ig z d_ d_ M) (Sl.ig g.hU z d_ M) g.px).ig B d_ G,rfl,(J.jz M m).jz G bE⟩
end Go.Proofs.YtenbhdilndfaeaaGreat
