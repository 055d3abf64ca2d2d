import Derived.Test.YtenbhdilndfaeaaGreatM23
set_option maxRecDepth 100000
set_option maxHeartbeats 0
set_option linter.all false
namespace Go.Proofs.YtenbhdilndfaeaaGreat
open Go.RowKit Go.Proofs.Tryz
variable{G:Prop}
theorem HR(h:G:=by
 go_wp2_with (first|(go_at_call 82;have af:=oS B cb d f.kx _ (hD.hG O) hd;rw[bL]at af;refine af.mono ?_;rintro e aY⟨rfl,aC⟩;have cK:aY.cell? (c_ gx 47)=some (i_ (x.hM+1)):=((Z.hG aC).f_ 47).trans rfl;have U:=(ay.hG aC).f_ 0;have ad:=(ay.hG aC).f_ 1;have ar:=(ay.hG aC).f_ 2;have aJ:aY.cell? (c_ a2 1)=some (i_ f.pc):=((h.hG aC).f_ 1).trans rfl)|(go_at_call 83;have af:=lr A c l hI hF f.pc _ (N.hG (O.trans aC)) hn;rw[has]at af;refine af.mono ?_;rintro e aR⟨rfl,aU⟩))
 go_meet;exact⟨ja a6.out.symm,aC.trans aU⟩):G:=h
theorem H5(h:G:=by
 go_wp2_with (go_at_call 82;have af:=oS B cb d f.kx _ (hD.hG O) hd;rw[bL]at af;refine af.mono ?_;rintro e aY⟨rfl,aC⟩;have cK:aY.cell? (c_ gx 47)=some (i_ (x.hM+1)):=((Z.hG aC).f_ 47).trans rfl;have U:=(ay.hG aC).f_ 0;have ad:=(ay.hG aC).f_ 1;have ar:=(ay.hG aC).f_ 2;have aJ:aY.cell? (c_ a2 1)=some (i_ f.pc):=((h.hG aC).f_ 1).trans rfl)
 go_meet;exact⟨ja a6.out.symm,aC⟩):G:=h
theorem Ib(h:G:=by
 have aP:Gr [] R X:=b4.jL G ag;clear C
 refine h5 H ⟨λj _=>by rw[U_];exact(o.hG aP).f_ j,λj hj=>by rw[(a.hG aP).f_];exact mS t j hj,λj _=>by rw[U_];exact(a.hG aP).f_ j,((a.hG aP).f_ 1).trans rfl,((a.hG aP).f_ 39).trans rfl,(s.hG aP).f_ 0⟩ λC=>?_
 clear H K;refine hN k_ ?_ _;go_wp2;go_meet;exact⟨_,f,rfl,bH,ag,pw bQ b8 G,aG,aP⟩):G:=h
theorem Jh(h:G:=by
 refine⟨?_,?_,?_⟩
 .intro he;exact EK (he▸ag) (Fn.2 (o.lt))
 .intro he;exact EK (he▸ag) (Fn.2 (a.lt))
 .intro he;exact EK (he▸ag) (Fn.2 (s.lt))):G:=h
theorem KU(h:G:=by
 have h1:=o.lt;have h2:=k.lt;have h3:=i.lt;have au:=u.lt;have aq:=ah.size;omega):G:=h
theorem t8(A:OA)(c:Nat)(l:List In)(hI hF:Int)(B:OA)(cb:Nat)(d:List Int)(t:Tk)(cg:OA)(vc:Nat)(b:List Rw)(w:World)(N:Is w A l)(hn:l.length<=1000000000)(hD:Ns w 3 B d)(hd:d.length<=1000000000)(ht:lb w t)(hv:mj w cg vc b)(bq:qK l hI hF d=true)(hs:t.h8=0)(ap:t.p.sm 500000)(cH:b.length<=99999999)(b6: -1<=t.pc)(bE:t.pc<=1000000)(bD:0<=t.run)(bJ:t.run<=1099511627776)(cu:0<=t.hM)(ce:t.hM<=1000000):
 Calls prog 39 #[.agg #[.slice A l.length c,i_ hI,i_ hF],.agg #[.slice B d.length cb],.agg t.g_,.agg #[.slice cg b.length vc]] w (m7 (jb l hI hF d t.p (hY b)) 0 w):=by
 obtain⟨E,hE⟩:=mn_ (lm l hI hF t.pc t.r (jr t.p (hY b)) ((t.run+1)*1048576+t.nw.l.length));have cz:E.sm 100:=hE▸(sd _ _ _ _ _ _ _).mono d_;have ck:=h_ hE
 have bA:Hid (jb l hI hF d t.p (hY b)=if E.h6=4 then m_ t.p else
  if E.h6=3 then{t.p with h8:=1,next:=t.p.pc+1} else
  match record t.p (hY b) E with
  |none=>m_ t.p
  |some x=>
   if E.h6=2 then{x with pc:=E.pc,r:=E.r,hM:=x.hM+1,h8:=3,hZ:=E.hZ,v:=E.v}
   else if E.h6=1/\(iY (λz=>z==E.kx) d=true∨64<=x.hM+1∨jB l hI hF E.pc=true) then{x with pc:=E.pc,r:=E.r,hM:=x.hM+1,h8:=2,next:=E.pc}
   else{x with pc:=E.pc,r:=E.r,hM:=x.hM+1}):=h_ (by
   have am:t.p.nw.length=t.nw.l.length:=h9 _
   have bi:lm l hI hF t.p.pc t.p.r (jr t.p (hY b)) ((t.p.run+1)*1048576+t.p.nw.length)=E:=by rw[am];exact hE
   unfold jb;rw[bi]
   rfl)
 clear hE
 have bB:b.length+t.nw.l.length<=999999999:=by have:=ap.nw;have e:t.p.nw.length=t.nw.l.length:=h9 _;omega
 have az:t.ws.l.length<=1000000000:=G_ ap.ws d_;have da:t.ds.l.length<=1000000000:=G_ ap.ds d_;have dg:t.gs.l.length<=1000000000:=G_ ap.gs d_;have aV:t.rs.l.length<=1000000000:=G_ ap.rs d_
 have cI:(jr t.p (hY b)).length<=1000000000:=by
  have h1:=wG t.p (hY b);have h2:=ap.nw;rw[h9]at h1;omega
 have cV:t.nw.l.length<=500000:=by have:=ap.nw;have e:t.p.nw.length=t.nw.l.length:=h9 _;omega
 obtain⟨o,k,a,s,i,I⟩:=Ei w 26 #[.slice A l.length c,i_ hI,i_ hF] 32 #[.slice B d.length cb] 53 t.g_ 35 #[.slice cg b.length vc] 53 lv
 go_enter func39,ntmps39
 go_upto_region 1 with fail
 obtain⟨bp,aK⟩:=nm_ (((((w.alloc (.cells #[.slice A l.length c,i_ hI,i_ hF] 26)).alloc (.cells #[.slice B d.length cb] 32)).alloc (.cells t.g_ 53)).alloc (.cells #[.slice cg b.length vc] 35)).alloc (.cells lv 53));rw[<-aK]at o k a s i I |-;clear aK;obtain⟨L,bC⟩:=nm_ w.heap.size;obtain⟨a7,V⟩:=nm_ (w.heap.size+1);obtain⟨gt,av⟩:=nm_ (w.heap.size+1+1);obtain⟨aL,D⟩:=nm_ (w.heap.size+1+1+1);obtain⟨gr,F⟩:=nm_ (w.heap.size+1+1+1+1);rw[<-F]at i;rw[<-D]at s;rw[<-av]at a;rw[<-V]at k;rw[<-bC]at o;rw[<-F,<-D,<-av,<-V,<-bC];have bg:w.heap.size<=gr:=o_;have cN:w.heap.size<=gt:=o_;have ao:L≠gt/\a7≠gt/\aL≠gt/\gr≠gt/\L≠gr/\a7≠gr/\aL≠gr:=o_;clear bC V av D F;have U:=o.f_ 0;have ad:=o.f_ 1;have ar:=o.f_ 2;have aQ:=k.f_ 0;have cw:bp.cell? (c_ gt 42)=some (i_ 0):=(a.f_ 42).trans (ED (λn=>some (Value.int .i64 n)) hs)
 go_upto_region 5 with(go_at_call 77;have af:=vd A B c cb l hI hF d _ (N.hG I) hn (hD.hG I) hd;rw[bq]at af;refine af.mono ?_;rintro e w1⟨rfl,hg1⟩;replace cw:w1.cell? (c_ gt 42)=some (i_ 0):=((a.hG hg1).f_ 42).trans (ED (λn=>some (Value.int .i64 n)) hs))
 replace o:=o.hG hg1.drew;replace k:=k.hG hg1.drew;replace a:=a.hG hg1.drew;replace s:=s.hG hg1.drew;replace i:=i.hG hg1.drew;replace I:=I.trans hg1.drew;clear hg1 cw U ad ar aQ;obtain⟨R,bW⟩:=nm_ w1.drew;rw[<-bW]at o k a s i I
 go_cut [10] (λp aX=>∃(a2:Nat) (f:Ef),p=q_ a2/\Bk aX a2 134 f.g_/\R.heap.size<=a2/\sp aX f/\f.p=E/\Gr [] R aX)
 case first=>
  refine hQ (λw'=>(∀j,j<3->w'.cell? (c_ L (0+j))=(#[.slice A l.length c,i_ hI,i_ hF]:Array Value)[j]?)/\(∀j,j<33->w'.cell? (c_ gt (3+j))=(iJ t.pc t.r)[j]?)/\(∀j,j<48->w'.cell? (c_ gt (0+j))=t.g_[j]?)/\w'.cell? (c_ gt 1)=some (i_ t.run)/\w'.cell? (c_ gt 39)=some (.slice t.nw.A t.nw.l.length t.nw.c)/\w'.cell? (c_ aL 0)=some (.slice cg b.length vc)) 17 k_ ?_;rw[<-bW];clear bW
  refine nt ⟨λj _=>by rw[U_];exact o.f_ j,λj hj=>by rw[a.f_];exact mS t j hj,λj _=>by rw[U_];exact a.f_ j,(a.f_ 1).trans rfl,(a.f_ 39).trans rfl,s.f_ 0⟩ λC=>?_
  refine iP 0 (v:=.agg #[.slice A l.length c,i_ hI,i_ hF]) C ?_ (hy:=(Or.inl ⟨r_,λw' bR=>lL 26 _ rfl L 0 r_ _ (λj hj=>bR.1 j hj) _ underlying26 rfl k_⟩));refine iP 1 C ?_;refine iP 2 (v:=.agg (iJ t.pc t.r)) C ?_ (hy:=(Or.inl ⟨r_,λw' bR=>lL 49 _ rfl gt 3 r_ _ (λj hj=>bR.2.1 j hj) _ underlying49 rfl k_⟩));refine iP 3 (v:=.agg t.g_) C ?_ (hy:=(Or.inl ⟨r_,λw' bR=>lL 53 _ rfl gt 0 r_ _ (λj hj=>bR.2.2.1 j hj) _ underlying53 rfl k_⟩));refine iP 4 C ?_;refine iP 6 C ?_;refine iP 7 C ?_;refine iP 8 C ?_;refine iP 9 (v:=i_ ((t.run+1)*1048576)) C ?_ (hy:=(Or.inl ⟨r_,(by intro w' bR;go_simp;rw[FU,FU];omega)⟩));refine iP 10 C ?_;refine iP 11 C ?_;refine iP 12 C ?_;refine iP 13 (v:=i_ ((t.run+1)*1048576+t.nw.l.length)) C ?_ (hy:=(Or.inl ⟨r_,(by intro w' bR;go_simp;rw[FU];omega)⟩));refine ji 5 15 rfl rfl k_ (λK H=>?_) (λK H=>?_)
  .go_simp;have bS:Gr [] w R:=I
   (go_at_call 79;((with_reducible refine(o8 t cg vc b _ (ht.hG bS) (hv.hG bS) bB az da dg aV).mono ?_);unfold mf;rintro e w2⟨hA,hc,hl,rfl,cC,bo,J⟩))
   have g:Gr [] R w2:=J;clear C
   refine h5 H ⟨λj _=>by rw[U_];exact(o.hG g).f_ j,λj hj=>by rw[(a.hG g).f_];exact mS t j hj,λj _=>by rw[U_];exact(a.hG g).f_ j,((a.hG g).f_ 1).trans rfl,((a.hG g).f_ 39).trans rfl,(s.hG g).f_ 0⟩ λC=>?_
   clear H K;refine ji 14 15 rfl rfl k_ (λK H=>?_) (λK H=>?_)
   .go_simp;have b5:=cC;have bZ:Gr [] w w2:=I.trans g;have bM:=b5
    (go_at_call 78;have af:=pM A c l hI hF t.pc ((t.run+1)*1048576+t.nw.l.length) t.r hA hc hl _ (N.hG bZ) hn bM (by rw[<-h9,bo];exact cI) o_;rw[bo]at af;have aO:=af;rw[ck.out]at aO;refine aO.mono ?_;unfold wq;rintro e ae⟨f,rfl,W,aG,S⟩)
    have m:Gr [] R ae:=g.trans S;clear C
    refine h5 H ⟨λj _=>by rw[U_];exact(o.hG m).f_ j,λj hj=>by rw[(a.hG m).f_];exact mS t j hj,λj _=>by rw[U_];exact(a.hG m).f_ j,((a.hG m).f_ 1).trans rfl,((a.hG m).f_ 39).trans rfl,(s.hG m).f_ 0⟩ λC=>?_
    clear H K
    refine h4 15 λK H=>?_
    go_simp;have T:Gr [] R (ae.alloc (.cells tG 134)):=m.alloc _;have be:=P_ ae 134 tG;have bQ:=W.hG ((F_ [] ae).alloc (.cells tG 134));have b4:=T;have ag:R.heap.size<=ae.heap.size:=m.size;clear C
    refine h5 H ⟨λj _=>by rw[U_];exact(o.hG T).f_ j,λj hj=>by rw[(a.hG T).f_];exact mS t j hj,λj _=>by rw[U_];exact(a.hG T).f_ j,((a.hG T).f_ 1).trans rfl,((a.hG T).f_ 39).trans rfl,(s.hG T).f_ 0⟩ λC=>?_
    clear H K
    refine h4 16 λK H=>?_
    rw[T_ r_];refine jF 134 _ _ rfl ae.heap.size 0 r_ f.g_ r_ 134 _ be (by show 0+43<=43;decide) k_ (Ef.one _) ?_;intro X bH G;rw[qq _ _ r_]at bH;have cF:ae.heap.size≠L/\ae.heap.size≠gt/\ae.heap.size≠aL:=Jh;have aP:Gr [] R X:=b4.jL G ag;clear C
    refine h5 H ⟨λj _=>by rw[U_];exact(o.hG aP).f_ j,λj hj=>by rw[(a.hG aP).f_];exact mS t j hj,λj _=>by rw[U_];exact(a.hG aP).f_ j,((a.hG aP).f_ 1).trans rfl,((a.hG aP).f_ 39).trans rfl,(s.hG aP).f_ 0⟩ λC=>?_
    clear H K;refine hN k_ ?_ _;go_wp2;go_meet;exact⟨_,f,rfl,bH,ag,pw bQ be G,aG,aP⟩
   .go_simp;have T:Gr [] R (w2.alloc (.cells tG 134)):=g.alloc _;have be:=P_ w2 134 tG;have b5:=cC.hG ((F_ [] w2).alloc (.cells tG 134));have ag:R.heap.size<=w2.heap.size:=g.size;clear C
    refine h5 H ⟨λj _=>by rw[U_];exact(o.hG T).f_ j,λj hj=>by rw[(a.hG T).f_];exact mS t j hj,λj _=>by rw[U_];exact(a.hG T).f_ j,((a.hG T).f_ 1).trans rfl,((a.hG T).f_ 39).trans rfl,(s.hG T).f_ 0⟩ λC=>?_
    clear H K
    refine h4 14 λK H=>?_
    go_simp;clear g;have g:=T;have bZ:Gr [] w (w2.alloc (.cells tG 134)):=I.trans g;have bM:=b5
    (go_at_call 78;have af:=pM A c l hI hF t.pc ((t.run+1)*1048576+t.nw.l.length) t.r hA hc hl _ (N.hG bZ) hn bM (by rw[<-h9,bo];exact cI) o_;rw[bo]at af;have aO:=af;rw[ck.out]at aO;refine aO.mono ?_;unfold wq;rintro e ae⟨f,rfl,W,aG,S⟩)
    have m:Gr [] R ae:=g.trans S;clear C
    refine h5 H ⟨λj _=>by rw[U_];exact(o.hG m).f_ j,λj hj=>by rw[(a.hG m).f_];exact mS t j hj,λj _=>by rw[U_];exact(a.hG m).f_ j,((a.hG m).f_ 1).trans rfl,((a.hG m).f_ 39).trans rfl,(s.hG m).f_ 0⟩ λC=>?_
    clear H K;have b8:=be.hG S;have bQ:=W;have b4:=m
    refine h4 16 λK H=>?_
    rw[T_ r_];refine jF 134 _ _ rfl w2.heap.size 0 r_ f.g_ r_ 134 _ b8 (by show 0+43<=43;decide) k_ (Ef.one _) ?_;intro X bH G;rw[qq _ _ r_]at bH;have cF:w2.heap.size≠L/\w2.heap.size≠gt/\w2.heap.size≠aL:=Jh;exact Ib
  .go_simp;have T:Gr [] R (R.alloc (.cells tG 134)):=(F_ [] R).alloc _;have be:=P_ R 134 tG;have ag:R.heap.size<=R.heap.size:=H_ _;clear C
   refine h5 H ⟨λj _=>by rw[U_];exact(o.hG T).f_ j,λj hj=>by rw[(a.hG T).f_];exact mS t j hj,λj _=>by rw[U_];exact(a.hG T).f_ j,((a.hG T).f_ 1).trans rfl,((a.hG T).f_ 39).trans rfl,(s.hG T).f_ 0⟩ λC=>?_
   clear H K
   refine h4 5 λK H=>?_
   go_simp;have bS:Gr [] w (R.alloc (.cells tG 134)):=I.trans T
   (go_at_call 79;((with_reducible refine(o8 t cg vc b _ (ht.hG bS) (hv.hG bS) bB az da dg aV).mono ?_);unfold mf;rintro e w2⟨hA,hc,hl,rfl,cC,bo,J⟩))
   have g:Gr [] R w2:=T.trans J;clear C
   refine h5 H ⟨λj _=>by rw[U_];exact(o.hG g).f_ j,λj hj=>by rw[(a.hG g).f_];exact mS t j hj,λj _=>by rw[U_];exact(a.hG g).f_ j,((a.hG g).f_ 1).trans rfl,((a.hG g).f_ 39).trans rfl,(s.hG g).f_ 0⟩ λC=>?_
   clear H K
   refine h4 14 λK H=>?_
   go_simp;have b5:=cC;have bZ:Gr [] w w2:=I.trans g;have bM:=b5
   (go_at_call 78;have af:=pM A c l hI hF t.pc ((t.run+1)*1048576+t.nw.l.length) t.r hA hc hl _ (N.hG bZ) hn bM (by rw[<-h9,bo];exact cI) o_;rw[bo]at af;have aO:=af;rw[ck.out]at aO;refine aO.mono ?_;unfold wq;rintro e ae⟨f,rfl,W,aG,S⟩)
   have m:Gr [] R ae:=g.trans S;clear C
   refine h5 H ⟨λj _=>by rw[U_];exact(o.hG m).f_ j,λj hj=>by rw[(a.hG m).f_];exact mS t j hj,λj _=>by rw[U_];exact(a.hG m).f_ j,((a.hG m).f_ 1).trans rfl,((a.hG m).f_ 39).trans rfl,(s.hG m).f_ 0⟩ λC=>?_
   clear H K;have b8:=(be.hG J).hG S;have bQ:=W;have b4:=m
   refine h4 16 λK H=>?_
   rw[T_ r_];refine jF 134 _ _ rfl R.heap.size 0 r_ f.g_ r_ 134 _ b8 (by show 0+43<=43;decide) k_ (Ef.one _) ?_;intro X bH G;rw[qq _ _ r_]at bH;have cF:R.heap.size≠L/\R.heap.size≠gt/\R.heap.size≠aL:=Jh;exact Ib
 case rest=>
  obtain⟨a2,f,rfl,u,ag,W,aG,aE⟩:=hcut;clear bW
  have cF:a2≠L/\a2≠gt/\a2≠aL/\a2≠gr/\a2≠a7:=by
   have h1:=o.lt;have h2:=a.lt;have h3:=s.lt;have au:=i.lt;have aq:=k.lt;omega
  have cY:w.heap.size<=a2:=G_ I.size ag;replace o:=o.hG aE;replace k:=k.hG aE;replace a:=a.hG aE;replace s:=s.hG aE;replace i:=i.hG aE;replace I:=I.trans aE;clear aE ag
  by_cases au:E.h6=4
  .have hk:=au;have HM:Hid (jb l hI hF d t.p (hY b)=m_ t.p):=h_ (by rw[bA.out,T_ hk]);clear bA;have aS:wc.cell? (c_ a2 0)=some (i_ 4):=(u.f_ 0).trans (ED (λn=>some (Value.int .i64 n)) (by rw[<-hk,<-aG];rfl))
   go_wp2_with (first|(refine kT a underlying53 ?_)|(go_at_call 80;((with_reducible refine(tu t _ (ht.hG I) cu o_).mono ?_);unfold tC;rintro e Y⟨t5,rfl,cn,aW,ah⟩))|(refine kQ (t5.g_) (i.hG ah) (Tk.one _) ?_;intro X aw G))
   rw[HM.out];exact lT t5.g_ (i_ 0) aw underlying53 ⟨t5,rfl,cn.iu (i.hG ah) d_ G,aW,(I.trans ah).hK G p_⟩
  by_cases h3:E.h6=3
  .have hk:=h3;have HM:Hid (jb l hI hF d t.p (hY b)=({t with h8:=1,next:=t.pc+1}:Tk).p):=h_ (by rw[bA.out,Q_ (by rw[hk];decide),T_ hk];rfl);clear bA;have aS:wc.cell? (c_ a2 0)=some (i_ 3):=(u.f_ 0).trans (ED (λn=>some (Value.int .i64 n)) (by rw[<-hk,<-aG];rfl));have z3:wc.cell? (c_ gt 3)=some (i_ t.pc):=(a.f_ 3).trans rfl;have cw:wc.cell? (c_ gt 42)=some (i_ t.h8):=(a.f_ 42).trans rfl;have d7:wc.cell? (c_ gt 43)=some (i_ t.next):=(a.f_ 43).trans rfl;have bF:=a.hH 42;have f43:=a.hH 43;have cU:Bk ((wc.setCell (c_ gt 42) (i_ 1)).setCell (c_ gt 43) (i_ (t.pc+1))) gt 53 ({t with h8:=1,next:=t.pc+1}:Tk).g_:=(a.hW 42 (i_ 1)).hW 43 (i_ (t.pc+1));have n1:=ao.1;have n2:=ao.2.1;have n3:=ao.2.2.1;have n4:=ao.2.2.2.1;have n5:=ao.2.2.2.2.1;have eB:=ao.2.2.2.2.2.1;have n7:=ao.2.2.2.2.2.2;have cT:=(i.ih (p:=(c_ gt 42)) n4 (i_ 1)).ih (p:=(c_ gt 43)) n4 (i_ (t.pc+1));have M:Gr [gt] wc ((wc.setCell (c_ gt 42) (i_ 1)).setCell (c_ gt 43) (i_ (t.pc+1))):=((F_ [gt] wc).setCell (p:=(c_ gt 42)) (.inl s_) (i_ 1)).setCell (p:=(c_ gt 43)) (.inl s_) (i_ (t.pc+1));clear n1 n2 n3 n4 n5 eB n7
   go_wp2_with (first|(refine kT cU underlying53 ?_)|(refine kQ (({t with h8:=1,next:=t.pc+1}:Tk).g_) cT (Tk.one _) ?_;intro X aw G))
   have cM:=(I.hK M p_).hK G p_;rw[HM.out];exact lT ({t with h8:=1,next:=t.pc+1}:Tk).g_ (i_ 0) aw underlying53 ⟨({t with h8:=1,next:=t.pc+1}:Tk),rfl,lb.of (ht.hG cM) rfl rfl rfl rfl rfl rfl,rfl,cM⟩
  have aM:=au;have b0:=h3;clear au h3
  have bK:Hid (jb l hI hF d t.p (hY b)=match record t.p (hY b) E with
   |none=>m_ t.p
   |some x=>
    if E.h6=2 then{x with pc:=E.pc,r:=E.r,hM:=x.hM+1,h8:=3,hZ:=E.hZ,v:=E.v}
    else if E.h6=1/\(iY (λz=>z==E.kx) d=true∨64<=x.hM+1∨jB l hI hF E.pc=true) then{x with pc:=E.pc,r:=E.r,hM:=x.hM+1,h8:=2,next:=E.pc}
    else{x with pc:=E.pc,r:=E.r,hM:=x.hM+1}):=h_ (by rw[bA.out,Q_ aM,Q_ b0])
  clear bA
  have df:(f.h6==4)=false:=by
   have e:f.h6=E.h6:=by rw[<-aG];rfl
   rw[e]
   simpa using aM
  have bN:(f.h6==3)=false:=by
   have e:f.h6=E.h6:=by rw[<-aG];rfl
   rw[e]
   simpa using b0
  have aS:wc.cell? (c_ a2 0)=some (i_ f.h6):=(u.f_ 0).trans rfl;have bz:=w3 t cg vc b f;rw[aG]at bz;have cD:E.sm 1000:=cz.mono d_;have ct:t.p.sm 1000000:=ap.mono d_;have z0:=s.f_ 0
  cases bj:record t.p (hY b) E with
  |none=>
   go_upto_region 12 with(first|(refine kT a underlying53 ?_)|(refine kT u underlying134 ?_)|(go_at_call 81;((with_reducible refine(bz _ (ht.hG I) (hv.hG I) W ct cD o_).mono ?_);rw[bj];unfold uV;rintro e Y⟨x,rfl,ah,bP⟩))|(refine kQ (x.g_) (P_ Y 53 lv) (Tk.one _) ?_;intro ax a8 aB))
   have HM:Hid (jb l hI hF d t.p (hY b)=m_ t.p):=h_ (by rw[bK.out,bj]);clear bK;have Q:Gr [] wc ax:=(ah.alloc _).hK aB (by simp;exact ah.size);replace a:=a.hG Q;replace i:=i.hG Q;replace I:=I.trans Q;clear Q
   go_wp2_with (first|(refine kT a underlying53 ?_)|(go_at_call 80;((with_reducible refine(tu t _ (ht.hG I) cu o_).mono ?_);unfold tC;rintro e aD⟨t5,rfl,cn,aW,aN⟩))|(refine kQ (t5.g_) (i.hG aN) (Tk.one _) ?_;intro X aw G))
   rw[HM.out];exact lT t5.g_ (i_ 0) aw underlying53 ⟨t5,rfl,cn.iu (i.hG aN) d_ G,aW,(I.trans aN).hK G p_⟩
  |some P=>
   by_cases aj:E.h6=2
   .have hk:=aj
    go_upto_region 12 with(first|(refine kT a underlying53 ?_)|(refine kT u underlying134 ?_)|(go_at_call 81;((with_reducible refine(bz _ (ht.hG I) (hv.hG I) W ct cD o_).mono ?_);rw[bj];unfold uV;rintro e Y⟨x,rfl,ah,bP⟩))|(refine kQ (x.g_) (P_ Y 53 lv) (Tk.one _) ?_;intro ax a8 aB))
    obtain⟨cv,cy⟩:=bP P rfl;have Q:Gr [] wc ax:=(ah.alloc _).hK aB (by simp;exact ah.size);have cx:lb ax x:=(cv.hG ((F_ [] Y).alloc (.cells lv 53))).iu (P_ Y 53 lv) d_ aB;have cG:Y.heap.size≠L/\Y.heap.size≠a7/\Y.heap.size≠gr/\Y.heap.size≠a2:=KU;replace u:=u.hG Q;replace i:=i.hG Q;replace o:=o.hG Q;replace k:=k.hG Q;replace I:=I.trans Q
    have bY:w.heap.size<=Y.heap.size:=by have:=a.lt;have:=ah.size;omega
    have b1:0<=x.hM/\x.hM<=1000000:=by
     have h1:=(lB bj).hM;rw[<-cy]at h1;have h2:x.hM=t.hM:=h1;omega
    clear Q ah aB cv a s z0 aS bz bP;generalize Y.heap.size=gx at*;obtain⟨m1,m2,m3,m4⟩:=cG
    go_upto_region 15 with(first|(refine iB rfl 49 _ rfl a2 1 r_ 134 _ (iJ f.pc f.r) u (λj hj=>AI f j hj) _ underlying49 rfl k_ ?_)|(refine jc rfl 49 _ _ rfl gx 3 r_ (iJ f.pc f.r) r_ 53 _ a8 (by show 3+33<=48;decide) k_ (nU _ _) ?_;intro aD ai aN))
    rw[tY]at ai;have aH:lb aD ({x with pc:=f.pc,r:=f.r}:Tk):=lb.of (cx.iu a8 d_ aN) rfl rfl rfl rfl rfl rfl;have bw:=u.gr aN (zu m4.symm);have cj:=i.gr aN (zu m3.symm);have ca:=o.gr aN (zu m1.symm);have cf:=k.gr aN (zu m2.symm);have bX:=I.hK aN p_;clear u i o k I aN cx a8;have cJ:aD.cell? (c_ gx 47)=some (i_ x.hM):=(ai.f_ 47).trans rfl;have cA:=ai.hH 47;have aS:aD.cell? (c_ a2 0)=some (i_ f.h6):=(bw.f_ 0).trans rfl
    go_upto_region 16 with fail
    have Z:Bk (aD.setCell (c_ gx 47) (i_ (x.hM+1))) gx 53 ({x with pc:=f.pc,r:=f.r,hM:=x.hM+1}:Tk).g_:=ai.hW 47 (i_ (x.hM+1));have br:Gr [gx] aD (aD.setCell (c_ gx 47) (i_ (x.hM+1))):=(F_ [gx] aD).setCell (p:=(c_ gx 47)) (.inl s_) (i_ (x.hM+1));have ak:=aH.iu ai d_ br;have h:=bw.gr br (zu m4.symm);have aF:=cj.gr br (zu m3.symm);have ay:=ca.gr br (zu m1.symm);have bG:=cf.gr br (zu m2.symm);have O:=bX.hK br p_;clear ai aH bw cj ca cf bX br cJ cA aS;obtain⟨bl,bU⟩:=nm_ (aD.setCell (c_ gx 47) (i_ (x.hM+1)));rw[<-bU]at Z ak h aF ay bG O |-;clear bU;have aS:bl.cell? (c_ a2 0)=some (i_ f.h6):=(h.f_ 0).trans rfl;have HM:Hid (jb l hI hF d t.p (hY b)=({x with pc:=f.pc,r:=f.r,hM:=x.hM+1,h8:=3,hZ:=f.hZ,v:=f.v}:Tk).p):=h_ (by rw[bK.out,bj];simp only;rw[T_ hk,<-cy,<-aG];rfl);clear bK
    have bI:(f.h6==2)=true:=by
     have e:f.h6=E.h6:=by rw[<-aG];rfl
     rw[e]
     simpa using hk
    go_upto_region 17 with fail
    clear aS;refine hQ (λw'=>w'.cell? (c_ a2 40)=some (.bool f.hZ)/\w'.cell? (c_ a2 41)=some (.bool f.v.r)/\w'.cell? (c_ a2 42)=some (i_ f.v.n)) 10 k_ ?_;replace Z:=Z.drew;replace ak:=ak.hG ((F_ [] bl).drew);replace h:=h.drew;replace aF:=aF.drew;replace O:=O.drew;obtain⟨bu,cq⟩:=nm_ bl.drew;rw[<-cq]at Z ak h aF O |-;clear cq ay bG
    refine nt ⟨(h.f_ 40).trans rfl,(h.f_ 41).trans rfl,(h.f_ 42).trans rfl⟩ λC=>?_
    refine iP 0 C ?_;refine iP 1 C ?_;refine iP 2 C ?_;refine iP 3 C ?_;refine iP 4 C ?_;have cw:bu.cell? (c_ gx 42)=some (i_ x.h8):=(Z.f_ 42).trans rfl;have bF:=Z.hH 42;have z44:bu.cell? (c_ gx 44)=some (.bool x.hZ):=(Z.f_ 44).trans rfl;have cQ:=Z.hH 44;have cW:bu.cell? (c_ gx 45)=some (.bool x.v.r):=(Z.f_ 45).trans rfl;have z46:bu.cell? (c_ gx 46)=some (i_ x.v.n):=(Z.f_ 46).trans rfl;have cR:=Z.hH 45;have cS:=Z.hH 46
    refine h4 5 λK H=>?_
    go_simp;clear C
    refine h5 H ⟨((h.ih (p:=(c_ gx 42)) m4.symm (i_ 3)).f_ 40).trans rfl,((h.ih (p:=(c_ gx 42)) m4.symm (i_ 3)).f_ 41).trans rfl,((h.ih (p:=(c_ gx 42)) m4.symm (i_ 3)).f_ 42).trans rfl⟩ λC=>?_
    clear H K;refine iP 6 C ?_
    refine h4 7 λK H=>?_
    go_simp;clear C
    refine h5 H ⟨(((h.ih (p:=(c_ gx 42)) m4.symm (i_ 3)).ih (p:=(c_ gx 44)) m4.symm (.bool f.hZ)).f_ 40).trans rfl,(((h.ih (p:=(c_ gx 42)) m4.symm (i_ 3)).ih (p:=(c_ gx 44)) m4.symm (.bool f.hZ)).f_ 41).trans rfl,(((h.ih (p:=(c_ gx 42)) m4.symm (i_ 3)).ih (p:=(c_ gx 44)) m4.symm (.bool f.hZ)).f_ 42).trans rfl⟩ λC=>?_
    clear H K;refine iP 8 C ?_
    refine h4 9 λK H=>?_
    go_simp;clear C
    refine h5 H ⟨(((((h.ih (p:=(c_ gx 42)) m4.symm (i_ 3)).ih (p:=(c_ gx 44)) m4.symm (.bool f.hZ)).ih (p:=(c_ gx 45)) m4.symm (.bool f.v.r)).ih (p:=(c_ gx 46)) m4.symm (i_ f.v.n)).f_ 40).trans rfl,(((((h.ih (p:=(c_ gx 42)) m4.symm (i_ 3)).ih (p:=(c_ gx 44)) m4.symm (.bool f.hZ)).ih (p:=(c_ gx 45)) m4.symm (.bool f.v.r)).ih (p:=(c_ gx 46)) m4.symm (i_ f.v.n)).f_ 41).trans rfl,(((((h.ih (p:=(c_ gx 42)) m4.symm (i_ 3)).ih (p:=(c_ gx 44)) m4.symm (.bool f.hZ)).ih (p:=(c_ gx 45)) m4.symm (.bool f.v.r)).ih (p:=(c_ gx 46)) m4.symm (i_ f.v.n)).f_ 42).trans rfl⟩ λC=>?_
    clear H K;have aT:=Z.hW 42 (i_ 3);have bt:=aT.hW 44 (.bool f.hZ);clear cw bF z44 cQ;clear cW z46 cR cS C;refine hN k_ ?_ _;have aI:Bk ((((bu.setCell (c_ gx 42) (i_ 3)).setCell (c_ gx 44) (.bool f.hZ)).setCell (c_ gx 45) (.bool f.v.r)).setCell (c_ gx 46) (i_ f.v.n)) gx 53 ({x with pc:=f.pc,r:=f.r,hM:=x.hM+1,h8:=3,hZ:=f.hZ,v:=f.v}:Tk).g_:=(bt.hW 45 (.bool f.v.r)).hW 46 (i_ f.v.n)
    have b9:Gr [gx] bu ((((bu.setCell (c_ gx 42) (i_ 3)).setCell (c_ gx 44) (.bool f.hZ)).setCell (c_ gx 45) (.bool f.v.r)).setCell (c_ gx 46) (i_ f.v.n)):=by
     exact((((F_ [gx] bu).setCell (p:=(c_ gx 42)) (.inl s_) _).setCell (p:=(c_ gx 44)) (.inl s_) _).setCell (p:=(c_ gx 45)) (.inl s_) _).setCell (p:=(c_ gx 46)) (.inl s_) _
    have cp:lb ((((bu.setCell (c_ gx 42) (i_ 3)).setCell (c_ gx 44) (.bool f.hZ)).setCell (c_ gx 45) (.bool f.v.r)).setCell (c_ gx 46) (i_ f.v.n)) ({x with pc:=f.pc,r:=f.r,hM:=x.hM+1,h8:=3,hZ:=f.hZ,v:=f.v}:Tk):=lb.of (ak.iu Z d_ b9) rfl rfl rfl rfl rfl rfl;have bT:=aF.gr b9 (zu m3.symm);have co:=O.hK b9 p_;clear bt aT Z ak h aF O b9;obtain⟨cO,cr⟩:=nm_ ((((bu.setCell (c_ gx 42) (i_ 3)).setCell (c_ gx 44) (.bool f.hZ)).setCell (c_ gx 45) (.bool f.v.r)).setCell (c_ gx 46) (i_ f.v.n));rw[<-cr]at aI cp bT co |-;clear cr
    go_wp2_with (first|(refine kT aI underlying53 ?_)|(refine kQ (({x with pc:=f.pc,r:=f.r,hM:=x.hM+1,h8:=3,hZ:=f.hZ,v:=f.v}:Tk).g_) bT (Tk.one _) ?_;intro X aw G))
    rw[HM.out];exact lT ({x with pc:=f.pc,r:=f.r,hM:=x.hM+1,h8:=3,hZ:=f.hZ,v:=f.v}:Tk).g_ (i_ 0) aw underlying53 ⟨({x with pc:=f.pc,r:=f.r,hM:=x.hM+1,h8:=3,hZ:=f.hZ,v:=f.v}:Tk),rfl,cp.iu bT d_ G,rfl,co.hK G p_⟩
   .skip
    go_upto_region 12 with(first|(refine kT a underlying53 ?_)|(refine kT u underlying134 ?_)|(go_at_call 81;((with_reducible refine(bz _ (ht.hG I) (hv.hG I) W ct cD o_).mono ?_);rw[bj];unfold uV;rintro e Y⟨x,rfl,ah,bP⟩))|(refine kQ (x.g_) (P_ Y 53 lv) (Tk.one _) ?_;intro ax a8 aB))
    obtain⟨cv,cy⟩:=bP P rfl;have Q:Gr [] wc ax:=(ah.alloc _).hK aB (by simp;exact ah.size);have cx:lb ax x:=(cv.hG ((F_ [] Y).alloc (.cells lv 53))).iu (P_ Y 53 lv) d_ aB;have cG:Y.heap.size≠L/\Y.heap.size≠a7/\Y.heap.size≠gr/\Y.heap.size≠a2:=KU;replace u:=u.hG Q;replace i:=i.hG Q;replace o:=o.hG Q;replace k:=k.hG Q;replace I:=I.trans Q
    have bY:w.heap.size<=Y.heap.size:=by have:=a.lt;have:=ah.size;omega
    have b1:0<=x.hM/\x.hM<=1000000:=by
     have h1:=(lB bj).hM;rw[<-cy]at h1;have h2:x.hM=t.hM:=h1;omega
    clear Q ah aB cv a s z0 aS bz bP;generalize Y.heap.size=gx at*;obtain⟨m1,m2,m3,m4⟩:=cG
    go_upto_region 15 with(first|(refine iB rfl 49 _ rfl a2 1 r_ 134 _ (iJ f.pc f.r) u (λj hj=>AI f j hj) _ underlying49 rfl k_ ?_)|(refine jc rfl 49 _ _ rfl gx 3 r_ (iJ f.pc f.r) r_ 53 _ a8 (by show 3+33<=48;decide) k_ (nU _ _) ?_;intro aD ai aN))
    rw[tY]at ai;have aH:lb aD ({x with pc:=f.pc,r:=f.r}:Tk):=lb.of (cx.iu a8 d_ aN) rfl rfl rfl rfl rfl rfl;have bw:=u.gr aN (zu m4.symm);have cj:=i.gr aN (zu m3.symm);have ca:=o.gr aN (zu m1.symm);have cf:=k.gr aN (zu m2.symm);have bX:=I.hK aN p_;clear u i o k I aN cx a8;have cJ:aD.cell? (c_ gx 47)=some (i_ x.hM):=(ai.f_ 47).trans rfl;have cA:=ai.hH 47;have aS:aD.cell? (c_ a2 0)=some (i_ f.h6):=(bw.f_ 0).trans rfl
    go_upto_region 16 with fail
    have Z:Bk (aD.setCell (c_ gx 47) (i_ (x.hM+1))) gx 53 ({x with pc:=f.pc,r:=f.r,hM:=x.hM+1}:Tk).g_:=ai.hW 47 (i_ (x.hM+1));have br:Gr [gx] aD (aD.setCell (c_ gx 47) (i_ (x.hM+1))):=(F_ [gx] aD).setCell (p:=(c_ gx 47)) (.inl s_) (i_ (x.hM+1));have ak:=aH.iu ai d_ br;have h:=bw.gr br (zu m4.symm);have aF:=cj.gr br (zu m3.symm);have ay:=ca.gr br (zu m1.symm);have bG:=cf.gr br (zu m2.symm);have O:=bX.hK br p_;clear ai aH bw cj ca cf bX br cJ cA aS;obtain⟨bl,bU⟩:=nm_ (aD.setCell (c_ gx 47) (i_ (x.hM+1)));rw[<-bU]at Z ak h aF ay bG O |-;clear bU;have aS:bl.cell? (c_ a2 0)=some (i_ f.h6):=(h.f_ 0).trans rfl;have aZ:Hid (jb l hI hF d t.p (hY b)=if f.h6=1/\(iY (λz=>z==f.kx) d=true∨64<=x.hM+1∨jB l hI hF f.pc=true) then({x with pc:=f.pc,r:=f.r,hM:=x.hM+1,h8:=2,next:=f.pc}:Tk).p else({x with pc:=f.pc,r:=f.r,hM:=x.hM+1}:Tk).p):=h_ (by rw[bK.out,bj];simp only;rw[Q_ aj,<-cy,<-aG];rfl);clear bK
    have bI:(f.h6==2)=false:=by
     have e:f.h6=E.h6:=by rw[<-aG];rfl
     rw[e]
     simpa using aj
    go_upto_region 18 with fail
    go_cut [81] (λy aX=>y=.bool (decide (f.h6=1/\(iY (λz=>z==f.kx) d=true∨64<=x.hM+1∨jB l hI hF f.pc=true)))/\Gr [] bl aX)
    case first=>
     have aQ:=bG.f_ 0;have cX:bl.cell? (c_ a2 39)=some (i_ f.kx):=(h.f_ 39).trans rfl
     by_cases bV:f.h6=1
     .have bn:(f.h6==1)=true:=zu bV
      cases bL:iY (λz=>z==f.kx) d with
      |true=>
       have a6:=h_ (show decide (f.h6=1/\(iY (λz=>z==f.kx) d=true∨64<=x.hM+1∨jB l hI hF f.pc=true))=true by simp[bV,bL]);exact H5
      |false=>
       by_cases b7:64<=x.hM+1
       .have a6:=h_ (show decide (f.h6=1/\(iY (λz=>z==f.kx) d=true∨64<=x.hM+1∨jB l hI hF f.pc=true))=true by simp[bV,b7])
        have d5:((64:Int)<=x.hM+1)=True:=by simp[b7]
        exact H5
       .have d5:((64:Int)<=x.hM+1)=False:=by simp[b7]
        cases has:jB l hI hF f.pc with
        |true=>
         have a6:=h_ (show decide (f.h6=1/\(iY (λz=>z==f.kx) d=true∨64<=x.hM+1∨jB l hI hF f.pc=true))=true by simp[bV,has]);exact HR
        |false=>
         have a6:=h_ (show decide (f.h6=1/\(iY (λz=>z==f.kx) d=true∨64<=x.hM+1∨jB l hI hF f.pc=true))=false by simp[bL,b7,has]);exact HR
     .have bn:(f.h6==1)=false:=zu bV;have a6:=h_ (show decide (f.h6=1/\(iY (λz=>z==f.kx) d=true∨64<=x.hM+1∨jB l hI hF f.pc=true))=false by simp[bV]);go_wp2;go_meet;exact⟨ja a6.out.symm,F_ _ _⟩
    case rest=>
     obtain⟨rfl,Q⟩:=hcut;replace Z:=Z.hG Q;replace ak:=ak.hG Q;replace h:=h.hG Q;replace aF:=aF.hG Q;replace O:=O.trans Q;clear Q aS ay bG
     by_cases bO:f.h6=1/\(iY (λz=>z==f.kx) d=true∨64<=x.hM+1∨jB l hI hF f.pc=true)
     .have HM:Hid (jb l hI hF d t.p (hY b)=({x with pc:=f.pc,r:=f.r,hM:=x.hM+1,h8:=2,next:=f.pc}:Tk).p):=h_ (by rw[aZ.out,T_ bO]);have q:decide (f.h6=1/\(iY (λz=>z==f.kx) d=true∨64<=x.hM+1∨jB l hI hF f.pc=true))=true:=E8 bO;rw[q];clear q bO aZ
      go_upto_region 19 with fail
      refine hQ (λw'=>w'.cell? (c_ a2 1)=some (i_ f.pc)) 7 k_ ?_;replace Z:=Z.drew;replace ak:=ak.hG ((F_ [] wc).drew);replace h:=h.drew;replace aF:=aF.drew;replace O:=O.drew;obtain⟨bu,cq⟩:=nm_ wc.drew;rw[<-cq]at Z ak h aF O |-;clear cq
      refine nt ((h.f_ 1).trans rfl) λC=>?_
      refine iP 0 C ?_;refine iP 1 C ?_;refine iP 2 C ?_;refine iP 3 C ?_;have cw:bu.cell? (c_ gx 42)=some (i_ x.h8):=(Z.f_ 42).trans rfl;have bF:=Z.hH 42;have d7:bu.cell? (c_ gx 43)=some (i_ x.next):=(Z.f_ 43).trans rfl;have f43:=Z.hH 43
      refine h4 4 λK H=>?_
      go_simp;clear C
      refine h5 H (((h.ih (p:=(c_ gx 42)) m4.symm (i_ 2)).f_ 1).trans rfl) λC=>?_
      clear H K;refine iP 5 C ?_
      refine h4 6 λK H=>?_
      go_simp;clear C
      refine h5 H ((((h.ih (p:=(c_ gx 42)) m4.symm (i_ 2)).ih (p:=(c_ gx 43)) m4.symm (i_ f.pc)).f_ 1).trans rfl) λC=>?_
      clear H K;have aT:=Z.hW 42 (i_ 2);clear cw bF;clear d7 f43 C;refine hN k_ ?_ _;have aI:Bk ((bu.setCell (c_ gx 42) (i_ 2)).setCell (c_ gx 43) (i_ f.pc)) gx 53 ({x with pc:=f.pc,r:=f.r,hM:=x.hM+1,h8:=2,next:=f.pc}:Tk).g_:=aT.hW 43 (i_ f.pc);have b9:Gr [gx] bu ((bu.setCell (c_ gx 42) (i_ 2)).setCell (c_ gx 43) (i_ f.pc)):=((F_ [gx] bu).setCell (p:=(c_ gx 42)) (.inl s_) _).setCell (p:=(c_ gx 43)) (.inl s_) _;have cp:=lb.of (t':=({x with pc:=f.pc,r:=f.r,hM:=x.hM+1,h8:=2,next:=f.pc}:Tk)) (ak.iu Z d_ b9) rfl rfl rfl rfl rfl rfl;have bT:=aF.gr b9 (zu m3.symm);have co:=O.hK b9 p_;clear aT Z ak h aF O b9;obtain⟨cO,cr⟩:=nm_ ((bu.setCell (c_ gx 42) (i_ 2)).setCell (c_ gx 43) (i_ f.pc));rw[<-cr]at aI cp bT co |-;clear cr
      go_wp2_with (first|(refine kT aI underlying53 ?_)|(refine kQ (({x with pc:=f.pc,r:=f.r,hM:=x.hM+1,h8:=2,next:=f.pc}:Tk).g_) bT (Tk.one _) ?_;intro X aw G))
      rw[HM.out];exact lT ({x with pc:=f.pc,r:=f.r,hM:=x.hM+1,h8:=2,next:=f.pc}:Tk).g_ (i_ 0) aw underlying53 ⟨({x with pc:=f.pc,r:=f.r,hM:=x.hM+1,h8:=2,next:=f.pc}:Tk),rfl,cp.iu bT d_ G,rfl,co.hK G p_⟩
     .have HM:Hid (jb l hI hF d t.p (hY b)=({x with pc:=f.pc,r:=f.r,hM:=x.hM+1}:Tk).p):=h_ (by rw[aZ.out,Q_ bO]);have q:decide (f.h6=1/\(iY (λz=>z==f.kx) d=true∨64<=x.hM+1∨jB l hI hF f.pc=true))=false:=FH bO;rw[q];clear q bO aZ
      go_wp2_with (first|(refine kT Z underlying53 ?_)|(refine kQ (({x with pc:=f.pc,r:=f.r,hM:=x.hM+1}:Tk).g_) aF (Tk.one _) ?_;intro X aw G))
      rw[HM.out];exact lT ({x with pc:=f.pc,r:=f.r,hM:=x.hM+1}:Tk).g_ (i_ 0) aw underlying53 ⟨({x with pc:=f.pc,r:=f.r,hM:=x.hM+1}:Tk),rfl,(lb.of (t':=({x with pc:=f.pc,r:=f.r,hM:=x.hM+1}:Tk)) ak rfl rfl rfl rfl rfl rfl).iu aF d_ G,rfl,O.hK G p_⟩
end Go.Proofs.YtenbhdilndfaeaaGreat
