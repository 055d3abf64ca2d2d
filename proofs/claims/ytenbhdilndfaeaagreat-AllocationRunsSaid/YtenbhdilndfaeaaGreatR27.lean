import Derived.Test.YtenbhdilndfaeaaGreatR26
set_option maxRecDepth 100000
set_option maxHeartbeats 0
set_option linter.all false
namespace Go.Proofs.YtenbhdilndfaeaaGreat
open Go.RowKit Go.Proofs.Tryz
variable{G:Prop}
def IG(h:G:=by
 go_wp2_with (first|(go_at_call 82;have ag:=pn B cb d f.kw (hD.g_ aK) hd;rw[bL]at ag;refine ag.mono ?_;rintro e bB⟨rfl,aE⟩;have cH:bB.cell? (Z gx 47)=some (Y (x.hw+1)):=((af.g_ aE).f_ 47).trans rfl;have MN:=(V.g_ aE).f_ 0;have ai:=(V.g_ aE).f_ 1;have aB:=(V.g_ aE).f_ 2;have aC:bB.cell? (Z a2 1)=some (Y f.pc):=((h.g_ aE).f_ 1).trans rfl)|(go_at_call 83;have ag:=lA A c l hq g9 f.pc (N.g_ (aK.trans aE)) hn;rw[has]at ag;refine ag.mono ?_;rintro e bi⟨rfl,o⟩))
 go_meet;exact⟨i9 aV.out.symm,aE.trans o⟩):G:=h
def IU(h:G:=by
 go_wp2_with (go_at_call 82;have ag:=pn B cb d f.kw (hD.g_ aK) hd;rw[bL]at ag;refine ag.mono ?_;rintro e bB⟨rfl,aE⟩;have cH:bB.cell? (Z gx 47)=some (Y (x.hw+1)):=((af.g_ aE).f_ 47).trans rfl;have MN:=(V.g_ aE).f_ 0;have ai:=(V.g_ aE).f_ 1;have aB:=(V.g_ aE).f_ 2;have aC:bB.cell? (Z a2 1)=some (Y f.pc):=((h.g_ aE).f_ 1).trans rfl)
 go_meet;exact⟨i9 aV.out.symm,aE⟩):G:=h
def IY(h:G:=by
 have aL:J [] R ae:=bY.jE G T;clear C
 refine hX MT ⟨λj _=>by rw[W_];exact(u.g_ aL).f_ j,λj hj=>by rw[(a.g_ aL).f_];exact m_ t j hj,λj _=>by rw[W_];exact(a.g_ aL).f_ j,((a.g_ aL).f_ 1).trans rfl,((a.g_ aL).f_ 39).trans rfl,(s.g_ aL).f_ 0⟩ λC=>?_
 clear MT K;refine hC k_ ?_ _;go_wp2;go_meet;exact⟨_,f,rfl,bG,T,p7 bT b3 G,aj,aL⟩):G:=h
def J3(h:G:=by
 refine⟨?_,?_,?_⟩
 .intro he;exact U_ (he▸T) (Gm.2 (u.lt))
 .intro he;exact U_ (he▸T) (Gm.2 (a.lt))
 .intro he;exact U_ (he▸T) (Gm.2 (s.lt))):G:=h
def LR(h:G:=by
 have h1:=u.lt;have h2:=k.lt;have h3:=i.lt;have ar:=D.lt;have av:=ak.size;omega):G:=h
def uO(A:OA)(c:Nat)(l:List In)(hq g9:Int)(B:OA)(cb:Nat)(d:List Int)(t:Tk)(a7:OA)(vc:Nat)(b:List Rw)(w:World)(N:Is w A l)(hn:l.length<=1000000000)(hD:Ns w 3 B d)(hd:d.length<=1000000000)(MO:ln w t)(hv:mB w a7 vc b)(bo:ru l hq g9 d=true)(hs:t.hT=0)(ao:t.p.sm 500000)(cA:b.length<=99999999)(b4: -1<=t.pc)(bC:t.pc<=1000000)(bp:0<=t.run)(bA:t.run<=1099511627776)(aJ:0<=t.hw)(bS:t.hw<=1000000):
 Calls prog 39 #[.agg #[.slice A l.length c,Y hq,Y g9],.agg #[.slice B d.length cb],.agg t.g8,.agg #[.slice a7 b.length vc]] w (np (ja l hq g9 d t.p (hU b)) 0 w):=by
 obtain⟨g,hE⟩:=mn_ (j8 l hq g9 t.pc t.r (iu t.p (hU b)) ((t.run+1)*1048576+t.nw.l.length));have cv:g.sm 100:=hE▸(sZ _ _ _ _ _ _ _).mono I;have bW:=O hE
 have bE:Hid (ja l hq g9 d t.p (hU b)=if g.hS=4 then nu t.p else
  if g.hS=3 then{t.p with hT:=1,next:=t.p.pc+1} else
  match record t.p (hU b) g with
  |none=>nu t.p
  |some x=>
   if g.hS=2 then{x with pc:=g.pc,r:=g.r,hw:=x.hw+1,hT:=3,hO:=g.hO,v:=g.v}
   else if g.hS=1/\(iS (λz=>z==g.kw) d=true∨64<=x.hw+1∨jm l hq g9 g.pc=true) then{x with pc:=g.pc,r:=g.r,hw:=x.hw+1,hT:=2,next:=g.pc}
   else{x with pc:=g.pc,r:=g.r,hw:=x.hw+1}):=O (by
   have n:t.p.nw.length=t.nw.l.length:=hZ _
   have y:j8 l hq g9 t.p.pc t.p.r (iu t.p (hU b)) ((t.p.run+1)*1048576+t.p.nw.length)=g:=by rw[n];exact hE
   unfold ja;rw[y]
   rfl)
 clear hE
 have cF:b.length+t.nw.l.length<=999999999:=by have:=ao.nw;have e:t.p.nw.length=t.nw.l.length:=hZ _;omega
 have aX:t.ws.l.length<=1000000000:=G_ ao.ws I;have cV:t.ds.l.length<=1000000000:=G_ ao.ds I;have cZ:t.gs.l.length<=1000000000:=G_ ao.gs I;have aI:t.rs.l.length<=1000000000:=G_ ao.rs I
 have cD:(iu t.p (hU b)).length<=1000000000:=by
  have h1:=xA t.p (hU b);have h2:=ao.nw;rw[hZ]at h1;omega
 have cS:t.nw.l.length<=500000:=by have:=ao.nw;have e:t.p.nw.length=t.nw.l.length:=hZ _;omega
 obtain⟨u,k,a,s,i,m⟩:=Fj w 26 #[.slice A l.length c,Y hq,Y g9] 32 #[.slice B d.length cb] 53 t.g8 35 #[.slice a7 b.length vc] 53 lK
 go_enter func39,ntmps39
 go_upto_region 1 with fail
 obtain⟨bj,bh⟩:=nm_ (((((w.alloc (.cells #[.slice A l.length c,Y hq,Y g9] 26)).alloc (.cells #[.slice B d.length cb] 32)).alloc (.cells t.g8 53)).alloc (.cells #[.slice a7 b.length vc] 35)).alloc (.cells lK 53));rw[<-bh]at u k a s i m |-;clear bh;obtain⟨al,bD⟩:=nm_ w.heap.size;obtain⟨aU,aq⟩:=nm_ (w.heap.size+1);obtain⟨gt,aD⟩:=nm_ (w.heap.size+1+1);obtain⟨aS,aQ⟩:=nm_ (w.heap.size+1+1+1);obtain⟨gr,an⟩:=nm_ (w.heap.size+1+1+1+1);rw[<-an]at i;rw[<-aQ]at s;rw[<-aD]at a;rw[<-aq]at k;rw[<-bD]at u;rw[<-an,<-aQ,<-aD,<-aq,<-bD];have bz:w.heap.size<=gr:=X;have cJ:w.heap.size<=gt:=X;have au:al≠gt/\aU≠gt/\aS≠gt/\gr≠gt/\al≠gr/\aU≠gr/\aS≠gr:=X;clear bD aq aD aQ an;have MN:=u.f_ 0;have ai:=u.f_ 1;have aB:=u.f_ 2;have aT:=k.f_ 0;have ca:bj.cell? (Z gt 42)=some (Y 0):=(a.f_ 42).trans (FN (λaA=>some (Value.int .i64 aA)) hs)
 go_upto_region 5 with(go_at_call 77;have ag:=vX A B c cb l hq g9 d (N.g_ m) hn (hD.g_ m) hd;rw[bo]at ag;refine ag.mono ?_;rintro e w1⟨rfl,hg1⟩;replace ca:w1.cell? (Z gt 42)=some (Y 0):=((a.g_ hg1).f_ 42).trans (FN (λaA=>some (Value.int .i64 aA)) hs))
 replace u:=u.g_ hg1.drew;replace k:=k.g_ hg1.drew;replace a:=a.g_ hg1.drew;replace s:=s.g_ hg1.drew;replace i:=i.g_ hg1.drew;replace m:=m.trans hg1.drew;clear hg1 ca MN ai aB aT;obtain⟨R,bZ⟩:=nm_ w1.drew;rw[<-bZ]at u k a s i m
 go_cut [10] (λp a6=>∃(a2:Nat) (f:Ef),p=q_ a2/\Bk a6 a2 134 f.g8/\R.heap.size<=a2/\td a6 f/\f.p=g/\J [] R a6)
 case first=>
  refine hI (λw'=>(∀j,j<3->w'.cell? (Z al (0+j))=(#[.slice A l.length c,Y hq,Y g9]:Array Value)[j]?)/\(∀j,j<33->w'.cell? (Z gt (3+j))=(iE t.pc t.r)[j]?)/\(∀j,j<48->w'.cell? (Z gt (0+j))=t.g8[j]?)/\w'.cell? (Z gt 1)=some (Y t.run)/\w'.cell? (Z gt 39)=some (.slice t.nw.A t.nw.l.length t.nw.c)/\w'.cell? (Z aS 0)=some (.slice a7 b.length vc)) 17 k_ ?_;rw[<-bZ];clear bZ
  refine nZ ⟨λj _=>by rw[W_];exact u.f_ j,λj hj=>by rw[a.f_];exact m_ t j hj,λj _=>by rw[W_];exact a.f_ j,(a.f_ 1).trans rfl,(a.f_ 39).trans rfl,s.f_ 0⟩ λC=>?_
  refine iH 0 (v:=.agg #[.slice A l.length c,Y hq,Y g9]) C ?_ (hy:=(Or.inl ⟨r_,λw' bq=>lV 26 rfl al 0 r_ (λj hj=>bq.1 j hj) underlying26 rfl k_⟩));refine iH 1 C ?_;refine iH 2 (v:=.agg (iE t.pc t.r)) C ?_ (hy:=(Or.inl ⟨r_,λw' bq=>lV 49 rfl gt 3 r_ (λj hj=>bq.2.1 j hj) underlying49 rfl k_⟩));refine iH 3 (v:=.agg t.g8) C ?_ (hy:=(Or.inl ⟨r_,λw' bq=>lV 53 rfl gt 0 r_ (λj hj=>bq.2.2.1 j hj) underlying53 rfl k_⟩));refine iH 4 C ?_;refine iH 6 C ?_;refine iH 7 C ?_;refine iH 8 C ?_;refine iH 9 (v:=Y ((t.run+1)*1048576)) C ?_ (hy:=(Or.inl ⟨r_,(by intro w' bq;go_simp;rw[GX,GX];omega)⟩));refine iH 10 C ?_;refine iH 11 C ?_;refine iH 12 C ?_;refine iH 13 (v:=Y ((t.run+1)*1048576+t.nw.l.length)) C ?_ (hy:=(Or.inl ⟨r_,(by intro w' bq;go_simp;rw[GX];omega)⟩));refine jh 5 15 rfl rfl k_ (λK MT=>?_) (λK MT=>?_)
  .go_simp;have bU:J [] w R:=m
   (go_at_call 79;((with_reducible refine(pD t a7 vc b (MO.g_ bU) (hv.g_ bU) cF aX cV cZ aI).mono ?_);unfold mt;rintro e F⟨bd,hc,hl,rfl,cw,Q,MS⟩))
   have E:J [] R F:=MS;clear C
   refine hX MT ⟨λj _=>by rw[W_];exact(u.g_ E).f_ j,λj hj=>by rw[(a.g_ E).f_];exact m_ t j hj,λj _=>by rw[W_];exact(a.g_ E).f_ j,((a.g_ E).f_ 1).trans rfl,((a.g_ E).f_ 39).trans rfl,(s.g_ E).f_ 0⟩ λC=>?_
   clear MT K;refine jh 14 15 rfl rfl k_ (λK MT=>?_) (λK MT=>?_)
   .go_simp;have U:=cw;have bX:J [] w F:=m.trans E;have W:=U
    (go_at_call 78;have ag:=qj A c l hq g9 t.pc ((t.run+1)*1048576+t.nw.l.length) t.r bd hc hl (N.g_ bX) hn W (by rw[<-hZ,Q];exact cD) X;rw[Q]at ag;have M:=ag;rw[bW.out]at M;refine M.mono ?_;unfold xf;rintro e L⟨f,rfl,bk,aj,P⟩)
    have y:J [] R L:=E.trans P;clear C
    refine hX MT ⟨λj _=>by rw[W_];exact(u.g_ y).f_ j,λj hj=>by rw[(a.g_ y).f_];exact m_ t j hj,λj _=>by rw[W_];exact(a.g_ y).f_ j,((a.g_ y).f_ 1).trans rfl,((a.g_ y).f_ 39).trans rfl,(s.g_ y).f_ 0⟩ λC=>?_
    clear MT K
    refine hV 15 λK MT=>?_
    go_simp;have n:J [] R (L.alloc (.cells un 134)):=y.alloc _;have S:=Q_ L 134 un;have bT:=bk.g_ ((H [] L).alloc (.cells un 134));have bY:=n;have T:R.heap.size<=L.heap.size:=y.size;clear C
    refine hX MT ⟨λj _=>by rw[W_];exact(u.g_ n).f_ j,λj hj=>by rw[(a.g_ n).f_];exact m_ t j hj,λj _=>by rw[W_];exact(a.g_ n).f_ j,((a.g_ n).f_ 1).trans rfl,((a.g_ n).f_ 39).trans rfl,(s.g_ n).f_ 0⟩ λC=>?_
    clear MT K
    refine hV 16 λK MT=>?_
    rw[O_ r_];refine jz 134 _ _ rfl L.heap.size 0 r_ f.g8 r_ 134 _ S (by show 0+43<=43;decide) k_ (Ef.one _) ?_;intro ae bG G;rw[qW _ _ r_]at bG;have cz:L.heap.size≠al/\L.heap.size≠gt/\L.heap.size≠aS:=J3;have aL:J [] R ae:=bY.jE G T;clear C
    refine hX MT ⟨λj _=>by rw[W_];exact(u.g_ aL).f_ j,λj hj=>by rw[(a.g_ aL).f_];exact m_ t j hj,λj _=>by rw[W_];exact(a.g_ aL).f_ j,((a.g_ aL).f_ 1).trans rfl,((a.g_ aL).f_ 39).trans rfl,(s.g_ aL).f_ 0⟩ λC=>?_
    clear MT K;refine hC k_ ?_ _;go_wp2;go_meet;exact⟨_,f,rfl,bG,T,p7 bT S G,aj,aL⟩
   .go_simp;have n:J [] R (F.alloc (.cells un 134)):=E.alloc _;have S:=Q_ F 134 un;have U:=cw.g_ ((H [] F).alloc (.cells un 134));have T:R.heap.size<=F.heap.size:=E.size;clear C
    refine hX MT ⟨λj _=>by rw[W_];exact(u.g_ n).f_ j,λj hj=>by rw[(a.g_ n).f_];exact m_ t j hj,λj _=>by rw[W_];exact(a.g_ n).f_ j,((a.g_ n).f_ 1).trans rfl,((a.g_ n).f_ 39).trans rfl,(s.g_ n).f_ 0⟩ λC=>?_
    clear MT K
    refine hV 14 λK MT=>?_
    go_simp;clear E;have E:=n;have bX:J [] w (F.alloc (.cells un 134)):=m.trans E;have W:=U
    (go_at_call 78;have ag:=qj A c l hq g9 t.pc ((t.run+1)*1048576+t.nw.l.length) t.r bd hc hl (N.g_ bX) hn W (by rw[<-hZ,Q];exact cD) X;rw[Q]at ag;have M:=ag;rw[bW.out]at M;refine M.mono ?_;unfold xf;rintro e L⟨f,rfl,bk,aj,P⟩)
    have y:J [] R L:=E.trans P;clear C
    refine hX MT ⟨λj _=>by rw[W_];exact(u.g_ y).f_ j,λj hj=>by rw[(a.g_ y).f_];exact m_ t j hj,λj _=>by rw[W_];exact(a.g_ y).f_ j,((a.g_ y).f_ 1).trans rfl,((a.g_ y).f_ 39).trans rfl,(s.g_ y).f_ 0⟩ λC=>?_
    clear MT K;have b3:=S.g_ P;have bT:=bk;have bY:=y
    refine hV 16 λK MT=>?_
    rw[O_ r_];refine jz 134 _ _ rfl F.heap.size 0 r_ f.g8 r_ 134 _ b3 (by show 0+43<=43;decide) k_ (Ef.one _) ?_;intro ae bG G;rw[qW _ _ r_]at bG;have cz:F.heap.size≠al/\F.heap.size≠gt/\F.heap.size≠aS:=J3;exact IY
  .go_simp;have n:J [] R (R.alloc (.cells un 134)):=(H [] R).alloc _;have S:=Q_ R 134 un;have T:R.heap.size<=R.heap.size:=H_ _;clear C
   refine hX MT ⟨λj _=>by rw[W_];exact(u.g_ n).f_ j,λj hj=>by rw[(a.g_ n).f_];exact m_ t j hj,λj _=>by rw[W_];exact(a.g_ n).f_ j,((a.g_ n).f_ 1).trans rfl,((a.g_ n).f_ 39).trans rfl,(s.g_ n).f_ 0⟩ λC=>?_
   clear MT K
   refine hV 5 λK MT=>?_
   go_simp;have bU:J [] w (R.alloc (.cells un 134)):=m.trans n
   (go_at_call 79;((with_reducible refine(pD t a7 vc b (MO.g_ bU) (hv.g_ bU) cF aX cV cZ aI).mono ?_);unfold mt;rintro e F⟨bd,hc,hl,rfl,cw,Q,MS⟩))
   have E:J [] R F:=n.trans MS;clear C
   refine hX MT ⟨λj _=>by rw[W_];exact(u.g_ E).f_ j,λj hj=>by rw[(a.g_ E).f_];exact m_ t j hj,λj _=>by rw[W_];exact(a.g_ E).f_ j,((a.g_ E).f_ 1).trans rfl,((a.g_ E).f_ 39).trans rfl,(s.g_ E).f_ 0⟩ λC=>?_
   clear MT K
   refine hV 14 λK MT=>?_
   go_simp;have U:=cw;have bX:J [] w F:=m.trans E;have W:=U
   (go_at_call 78;have ag:=qj A c l hq g9 t.pc ((t.run+1)*1048576+t.nw.l.length) t.r bd hc hl (N.g_ bX) hn W (by rw[<-hZ,Q];exact cD) X;rw[Q]at ag;have M:=ag;rw[bW.out]at M;refine M.mono ?_;unfold xf;rintro e L⟨f,rfl,bk,aj,P⟩)
   have y:J [] R L:=E.trans P;clear C
   refine hX MT ⟨λj _=>by rw[W_];exact(u.g_ y).f_ j,λj hj=>by rw[(a.g_ y).f_];exact m_ t j hj,λj _=>by rw[W_];exact(a.g_ y).f_ j,((a.g_ y).f_ 1).trans rfl,((a.g_ y).f_ 39).trans rfl,(s.g_ y).f_ 0⟩ λC=>?_
   clear MT K;have b3:=(S.g_ MS).g_ P;have bT:=bk;have bY:=y
   refine hV 16 λK MT=>?_
   rw[O_ r_];refine jz 134 _ _ rfl R.heap.size 0 r_ f.g8 r_ 134 _ b3 (by show 0+43<=43;decide) k_ (Ef.one _) ?_;intro ae bG G;rw[qW _ _ r_]at bG;have cz:R.heap.size≠al/\R.heap.size≠gt/\R.heap.size≠aS:=J3;exact IY
 case rest=>
  obtain⟨a2,f,rfl,D,T,bk,aj,aM⟩:=hcut;clear bZ
  have cz:a2≠al/\a2≠gt/\a2≠aS/\a2≠gr/\a2≠aU:=by
   have h1:=u.lt;have h2:=a.lt;have h3:=s.lt;have ar:=i.lt;have av:=k.lt;omega
  have cW:w.heap.size<=a2:=G_ m.size T;replace u:=u.g_ aM;replace k:=k.g_ aM;replace a:=a.g_ aM;replace s:=s.g_ aM;replace i:=i.g_ aM;replace m:=m.trans aM;clear aM T
  by_cases ar:g.hS=4
  .have hk:=ar;have ap:Hid (ja l hq g9 d t.p (hU b)=nu t.p):=O (by rw[bE.out,O_ hk]);clear bE;have W:wc.cell? (Z a2 0)=some (Y 4):=(D.f_ 0).trans (FN (λaA=>some (Value.int .i64 aA)) (by rw[<-hk,<-aj];rfl))
   go_wp2_with (first|(refine k5 a underlying53 ?_)|(go_at_call 80;((with_reducible refine(ud t (MO.g_ m) aJ X).mono ?_);unfold ui;rintro e E⟨t5,rfl,b5,bf,ak⟩))|(refine kZ (t5.g8) (i.g_ ak) (Tk.one _) ?_;intro ae ax G))
   rw[ap.out];exact l5 t5.g8 (Y 0) ax underlying53 ⟨t5,rfl,b5.ir (i.g_ ak) I G,bf,(m.trans ak).hA G p_⟩
  by_cases h3:g.hS=3
  .have hk:=h3;have ap:Hid (ja l hq g9 d t.p (hU b)=({t with hT:=1,next:=t.pc+1}:Tk).p):=O (by rw[bE.out,I_ (by rw[hk];decide),O_ hk];rfl);clear bE;have W:wc.cell? (Z a2 0)=some (Y 3):=(D.f_ 0).trans (FN (λaA=>some (Value.int .i64 aA)) (by rw[<-hk,<-aj];rfl));have z3:wc.cell? (Z gt 3)=some (Y t.pc):=(a.f_ 3).trans rfl;have ca:wc.cell? (Z gt 42)=some (Y t.hT):=(a.f_ 42).trans rfl;have d2:wc.cell? (Z gt 43)=some (Y t.next):=(a.f_ 43).trans rfl;have bI:=a.hm 42;have cx:=a.hm 43;have S:Bk ((wc.setCell (Z gt 42) (Y 1)).setCell (Z gt 43) (Y (t.pc+1))) gt 53 ({t with hT:=1,next:=t.pc+1}:Tk).g8:=(a.hN 42 (Y 1)).hN 43 (Y (t.pc+1));have U:=au.1;have n2:=au.2.1;have n3:=au.2.2.1;have n:=au.2.2.2.1;have n5:=au.2.2.2.2.1;have n6:=au.2.2.2.2.2.1;have n7:=au.2.2.2.2.2.2;have Q:=(i.ib (p:=(Z gt 42)) n (Y 1)).ib (p:=(Z gt 43)) n (Y (t.pc+1));have P:J [gt] wc ((wc.setCell (Z gt 42) (Y 1)).setCell (Z gt 43) (Y (t.pc+1))):=((H [gt] wc).setCell (p:=(Z gt 42)) (.inl s_) (Y 1)).setCell (p:=(Z gt 43)) (.inl s_) (Y (t.pc+1));clear U n2 n3 n n5 n6 n7
   go_wp2_with (first|(refine k5 S underlying53 ?_)|(refine kZ (({t with hT:=1,next:=t.pc+1}:Tk).g8) Q (Tk.one _) ?_;intro ae ax G))
   have M:=(m.hA P p_).hA G p_;rw[ap.out];exact l5 ({t with hT:=1,next:=t.pc+1}:Tk).g8 (Y 0) ax underlying53 ⟨({t with hT:=1,next:=t.pc+1}:Tk),rfl,ln.of (MO.g_ M) rfl rfl rfl rfl rfl rfl,rfl,M⟩
  have aP:=ar;have bV:=h3;clear ar h3
  have bK:Hid (ja l hq g9 d t.p (hU b)=match record t.p (hU b) g with
   |none=>nu t.p
   |some x=>
    if g.hS=2 then{x with pc:=g.pc,r:=g.r,hw:=x.hw+1,hT:=3,hO:=g.hO,v:=g.v}
    else if g.hS=1/\(iS (λz=>z==g.kw) d=true∨64<=x.hw+1∨jm l hq g9 g.pc=true) then{x with pc:=g.pc,r:=g.r,hw:=x.hw+1,hT:=2,next:=g.pc}
    else{x with pc:=g.pc,r:=g.r,hw:=x.hw+1}):=O (by rw[bE.out,I_ aP,I_ bV])
  clear bE
  have cY:(f.hS==4)=false:=by
   have e:f.hS=g.hS:=by rw[<-aj];rfl
   rw[e]
   simpa using aP
  have q3:(f.hS==3)=false:=by
   have e:f.hS=g.hS:=by rw[<-aj];rfl
   rw[e]
   simpa using bV
  have W:wc.cell? (Z a2 0)=some (Y f.hS):=(D.f_ 0).trans rfl;have bv:=xS t a7 vc b f;rw[aj]at bv;have cy:g.sm 1000:=cv.mono I;have cp:t.p.sm 1000000:=ao.mono I;have z0:=s.f_ 0
  cases aR:record t.p (hU b) g with
  |none=>
   go_upto_region 12 with(first|(refine k5 a underlying53 ?_)|(refine k5 D underlying134 ?_)|(go_at_call 81;((with_reducible refine(bv _ (MO.g_ m) (hv.g_ m) bk cp cy X).mono ?_);rw[aR];unfold vI;rintro e E⟨x,rfl,ak,bR⟩))|(refine kZ (x.g8) (Q_ E 53 lK) (Tk.one _) ?_;intro ay bw az))
   have ap:Hid (ja l hq g9 d t.p (hU b)=nu t.p):=O (by rw[bK.out,aR]);clear bK;have y:J [] wc ay:=(ak.alloc _).hA az (by simp;exact ak.size);replace a:=a.g_ y;replace i:=i.g_ y;replace m:=m.trans y;clear y
   go_wp2_with (first|(refine k5 a underlying53 ?_)|(go_at_call 80;((with_reducible refine(ud t (MO.g_ m) aJ X).mono ?_);unfold ui;rintro e L⟨t5,rfl,b5,bf,F⟩))|(refine kZ (t5.g8) (i.g_ F) (Tk.one _) ?_;intro ae ax G))
   rw[ap.out];exact l5 t5.g8 (Y 0) ax underlying53 ⟨t5,rfl,b5.ir (i.g_ F) I G,bf,(m.trans F).hA G p_⟩
  |some br=>
   by_cases cj:g.hS=2
   .have hk:=cj
    go_upto_region 12 with(first|(refine k5 a underlying53 ?_)|(refine k5 D underlying134 ?_)|(go_at_call 81;((with_reducible refine(bv _ (MO.g_ m) (hv.g_ m) bk cp cy X).mono ?_);rw[aR];unfold vI;rintro e E⟨x,rfl,ak,bR⟩))|(refine kZ (x.g8) (Q_ E 53 lK) (Tk.one _) ?_;intro ay bw az))
    obtain⟨cr,aO⟩:=bR br rfl;have y:J [] wc ay:=(ak.alloc _).hA az (by simp;exact ak.size);have ct:ln ay x:=(cr.g_ ((H [] E).alloc (.cells lK 53))).ir (Q_ E 53 lK) I az;have cC:E.heap.size≠al/\E.heap.size≠aU/\E.heap.size≠gr/\E.heap.size≠a2:=LR;replace D:=D.g_ y;replace i:=i.g_ y;replace u:=u.g_ y;replace k:=k.g_ y;replace m:=m.trans y
    have bQ:w.heap.size<=E.heap.size:=by have:=a.lt;have:=ak.size;omega
    have b1:0<=x.hw/\x.hw<=1000000:=by
     have h1:=(kz aR).hw;rw[<-aO]at h1;have h2:x.hw=t.hw:=h1;omega
    clear y ak az cr a s z0 W bv bR;generalize E.heap.size=gx at*;obtain⟨m1,m2,m3,n⟩:=cC
    go_upto_region 15 with(first|(refine iv rfl 49 _ rfl a2 1 r_ 134 _ (iE f.pc f.r) D (λj hj=>BL f j hj) _ underlying49 rfl k_ ?_)|(refine jc rfl 49 _ _ rfl gx 3 r_ (iE f.pc f.r) r_ 53 _ bw (by show 3+33<=48;decide) k_ (oi) ?_;intro L U F))
    rw[uK]at U;have a8:ln L ({x with pc:=f.pc,r:=f.r}:Tk):=ln.of (ct.ir bw I F) rfl rfl rfl rfl rfl rfl;have bm:=D.gr F (zu n.symm);have b9:=i.gr F (zu m3.symm);have b7:=u.gr F (zu m1.symm);have b8:=k.gr F (zu m2.symm);have ce:=m.hA F p_;clear D i u k m F ct bw;have cG:L.cell? (Z gx 47)=some (Y x.hw):=(U.f_ 47).trans rfl;have cu:=U.hm 47;have W:L.cell? (Z a2 0)=some (Y f.hS):=(bm.f_ 0).trans rfl
    go_upto_region 16 with fail
    have af:Bk (L.setCell (Z gx 47) (Y (x.hw+1))) gx 53 ({x with pc:=f.pc,r:=f.r,hw:=x.hw+1}:Tk).g8:=U.hN 47 (Y (x.hw+1));have S:J [gx] L (L.setCell (Z gx 47) (Y (x.hw+1))):=(H [gx] L).setCell (p:=(Z gx 47)) (.inl s_) (Y (x.hw+1));have Q:=a8.ir U I S;have h:=bm.gr S (zu n.symm);have P:=b9.gr S (zu m3.symm);have V:=b7.gr S (zu m1.symm);have bH:=b8.gr S (zu m2.symm);have aK:=ce.hA S p_;clear U a8 bm b9 b7 b8 ce S cG cu W;obtain⟨bn,bJ⟩:=nm_ (L.setCell (Z gx 47) (Y (x.hw+1)));rw[<-bJ]at af Q h P V bH aK |-;clear bJ;have W:bn.cell? (Z a2 0)=some (Y f.hS):=(h.f_ 0).trans rfl;have ap:Hid (ja l hq g9 d t.p (hU b)=({x with pc:=f.pc,r:=f.r,hw:=x.hw+1,hT:=3,hO:=f.hO,v:=f.v}:Tk).p):=O (by rw[bK.out,aR];simp only;rw[O_ hk,<-aO,<-aj];rfl);clear bK
    have q2:(f.hS==2)=true:=by
     have e:f.hS=g.hS:=by rw[<-aj];rfl
     rw[e]
     simpa using hk
    go_upto_region 17 with fail
    clear W;refine hI (λw'=>w'.cell? (Z a2 40)=some (.bool f.hO)/\w'.cell? (Z a2 41)=some (.bool f.v.r)/\w'.cell? (Z a2 42)=some (Y f.v.n)) 10 k_ ?_;replace af:=af.drew;replace Q:=Q.g_ ((H [] bn).drew);replace h:=h.drew;replace P:=P.drew;replace aK:=aK.drew;obtain⟨M,cn⟩:=nm_ bn.drew;rw[<-cn]at af Q h P aK |-;clear cn V bH
    refine nZ ⟨(h.f_ 40).trans rfl,(h.f_ 41).trans rfl,(h.f_ 42).trans rfl⟩ λC=>?_
    refine iH 0 C ?_;refine iH 1 C ?_;refine iH 2 C ?_;refine iH 3 C ?_;refine iH 4 C ?_;have ca:M.cell? (Z gx 42)=some (Y x.hT):=(af.f_ 42).trans rfl;have bI:=af.hm 42;have z44:M.cell? (Z gx 44)=some (.bool x.hO):=(af.f_ 44).trans rfl;have cM:=af.hm 44;have cT:M.cell? (Z gx 45)=some (.bool x.v.r):=(af.f_ 45).trans rfl;have z46:M.cell? (Z gx 46)=some (Y x.v.n):=(af.f_ 46).trans rfl;have cN:=af.hm 45;have cO:=af.hm 46
    refine hV 5 λK MT=>?_
    go_simp;clear C
    refine hX MT ⟨((h.ib (p:=(Z gx 42)) n.symm (Y 3)).f_ 40).trans rfl,((h.ib (p:=(Z gx 42)) n.symm (Y 3)).f_ 41).trans rfl,((h.ib (p:=(Z gx 42)) n.symm (Y 3)).f_ 42).trans rfl⟩ λC=>?_
    clear MT K;refine iH 6 C ?_
    refine hV 7 λK MT=>?_
    go_simp;clear C
    refine hX MT ⟨(((h.ib (p:=(Z gx 42)) n.symm (Y 3)).ib (p:=(Z gx 44)) n.symm (.bool f.hO)).f_ 40).trans rfl,(((h.ib (p:=(Z gx 42)) n.symm (Y 3)).ib (p:=(Z gx 44)) n.symm (.bool f.hO)).f_ 41).trans rfl,(((h.ib (p:=(Z gx 42)) n.symm (Y 3)).ib (p:=(Z gx 44)) n.symm (.bool f.hO)).f_ 42).trans rfl⟩ λC=>?_
    clear MT K;refine iH 8 C ?_
    refine hV 9 λK MT=>?_
    go_simp;clear C
    refine hX MT ⟨(((((h.ib (p:=(Z gx 42)) n.symm (Y 3)).ib (p:=(Z gx 44)) n.symm (.bool f.hO)).ib (p:=(Z gx 45)) n.symm (.bool f.v.r)).ib (p:=(Z gx 46)) n.symm (Y f.v.n)).f_ 40).trans rfl,(((((h.ib (p:=(Z gx 42)) n.symm (Y 3)).ib (p:=(Z gx 44)) n.symm (.bool f.hO)).ib (p:=(Z gx 45)) n.symm (.bool f.v.r)).ib (p:=(Z gx 46)) n.symm (Y f.v.n)).f_ 41).trans rfl,(((((h.ib (p:=(Z gx 42)) n.symm (Y 3)).ib (p:=(Z gx 44)) n.symm (.bool f.hO)).ib (p:=(Z gx 45)) n.symm (.bool f.v.r)).ib (p:=(Z gx 46)) n.symm (Y f.v.n)).f_ 42).trans rfl⟩ λC=>?_
    clear MT K;have aG:=af.hN 42 (Y 3);have bt:=aG.hN 44 (.bool f.hO);clear ca bI z44 cM;clear cT z46 cN cO C;refine hC k_ ?_ _;have aw:Bk ((((M.setCell (Z gx 42) (Y 3)).setCell (Z gx 44) (.bool f.hO)).setCell (Z gx 45) (.bool f.v.r)).setCell (Z gx 46) (Y f.v.n)) gx 53 ({x with pc:=f.pc,r:=f.r,hw:=x.hw+1,hT:=3,hO:=f.hO,v:=f.v}:Tk).g8:=(bt.hN 45 (.bool f.v.r)).hN 46 (Y f.v.n)
    have cg:J [gx] M ((((M.setCell (Z gx 42) (Y 3)).setCell (Z gx 44) (.bool f.hO)).setCell (Z gx 45) (.bool f.v.r)).setCell (Z gx 46) (Y f.v.n)):=by
     exact((((H [gx] M).setCell (p:=(Z gx 42)) (.inl s_) _).setCell (p:=(Z gx 44)) (.inl s_) _).setCell (p:=(Z gx 45)) (.inl s_) _).setCell (p:=(Z gx 46)) (.inl s_) _
    have ck:ln ((((M.setCell (Z gx 42) (Y 3)).setCell (Z gx 44) (.bool f.hO)).setCell (Z gx 45) (.bool f.v.r)).setCell (Z gx 46) (Y f.v.n)) ({x with pc:=f.pc,r:=f.r,hw:=x.hw+1,hT:=3,hO:=f.hO,v:=f.v}:Tk):=ln.of (Q.ir af I cg) rfl rfl rfl rfl rfl rfl;have bP:=P.gr cg (zu m3.symm);have cf:=aK.hA cg p_;clear bt aG af Q h P aK cg;obtain⟨cK,co⟩:=nm_ ((((M.setCell (Z gx 42) (Y 3)).setCell (Z gx 44) (.bool f.hO)).setCell (Z gx 45) (.bool f.v.r)).setCell (Z gx 46) (Y f.v.n));rw[<-co]at aw ck bP cf |-;clear co
    go_wp2_with (first|(refine k5 aw underlying53 ?_)|(refine kZ (({x with pc:=f.pc,r:=f.r,hw:=x.hw+1,hT:=3,hO:=f.hO,v:=f.v}:Tk).g8) bP (Tk.one _) ?_;intro ae ax G))
    rw[ap.out];exact l5 ({x with pc:=f.pc,r:=f.r,hw:=x.hw+1,hT:=3,hO:=f.hO,v:=f.v}:Tk).g8 (Y 0) ax underlying53 ⟨({x with pc:=f.pc,r:=f.r,hw:=x.hw+1,hT:=3,hO:=f.hO,v:=f.v}:Tk),rfl,ck.ir bP I G,rfl,cf.hA G p_⟩
   .skip
    go_upto_region 12 with(first|(refine k5 a underlying53 ?_)|(refine k5 D underlying134 ?_)|(go_at_call 81;((with_reducible refine(bv _ (MO.g_ m) (hv.g_ m) bk cp cy X).mono ?_);rw[aR];unfold vI;rintro e E⟨x,rfl,ak,bR⟩))|(refine kZ (x.g8) (Q_ E 53 lK) (Tk.one _) ?_;intro ay bw az))
    obtain⟨cr,aO⟩:=bR br rfl;have y:J [] wc ay:=(ak.alloc _).hA az (by simp;exact ak.size);have ct:ln ay x:=(cr.g_ ((H [] E).alloc (.cells lK 53))).ir (Q_ E 53 lK) I az;have cC:E.heap.size≠al/\E.heap.size≠aU/\E.heap.size≠gr/\E.heap.size≠a2:=LR;replace D:=D.g_ y;replace i:=i.g_ y;replace u:=u.g_ y;replace k:=k.g_ y;replace m:=m.trans y
    have bQ:w.heap.size<=E.heap.size:=by have:=a.lt;have:=ak.size;omega
    have b1:0<=x.hw/\x.hw<=1000000:=by
     have h1:=(kz aR).hw;rw[<-aO]at h1;have h2:x.hw=t.hw:=h1;omega
    clear y ak az cr a s z0 W bv bR;generalize E.heap.size=gx at*;obtain⟨m1,m2,m3,n⟩:=cC
    go_upto_region 15 with(first|(refine iv rfl 49 _ rfl a2 1 r_ 134 _ (iE f.pc f.r) D (λj hj=>BL f j hj) _ underlying49 rfl k_ ?_)|(refine jc rfl 49 _ _ rfl gx 3 r_ (iE f.pc f.r) r_ 53 _ bw (by show 3+33<=48;decide) k_ (oi) ?_;intro L U F))
    rw[uK]at U;have a8:ln L ({x with pc:=f.pc,r:=f.r}:Tk):=ln.of (ct.ir bw I F) rfl rfl rfl rfl rfl rfl;have bm:=D.gr F (zu n.symm);have b9:=i.gr F (zu m3.symm);have b7:=u.gr F (zu m1.symm);have b8:=k.gr F (zu m2.symm);have ce:=m.hA F p_;clear D i u k m F ct bw;have cG:L.cell? (Z gx 47)=some (Y x.hw):=(U.f_ 47).trans rfl;have cu:=U.hm 47;have W:L.cell? (Z a2 0)=some (Y f.hS):=(bm.f_ 0).trans rfl
    go_upto_region 16 with fail
    have af:Bk (L.setCell (Z gx 47) (Y (x.hw+1))) gx 53 ({x with pc:=f.pc,r:=f.r,hw:=x.hw+1}:Tk).g8:=U.hN 47 (Y (x.hw+1));have S:J [gx] L (L.setCell (Z gx 47) (Y (x.hw+1))):=(H [gx] L).setCell (p:=(Z gx 47)) (.inl s_) (Y (x.hw+1));have Q:=a8.ir U I S;have h:=bm.gr S (zu n.symm);have P:=b9.gr S (zu m3.symm);have V:=b7.gr S (zu m1.symm);have bH:=b8.gr S (zu m2.symm);have aK:=ce.hA S p_;clear U a8 bm b9 b7 b8 ce S cG cu W;obtain⟨bn,bJ⟩:=nm_ (L.setCell (Z gx 47) (Y (x.hw+1)));rw[<-bJ]at af Q h P V bH aK |-;clear bJ;have W:bn.cell? (Z a2 0)=some (Y f.hS):=(h.f_ 0).trans rfl;have aW:Hid (ja l hq g9 d t.p (hU b)=if f.hS=1/\(iS (λz=>z==f.kw) d=true∨64<=x.hw+1∨jm l hq g9 f.pc=true) then({x with pc:=f.pc,r:=f.r,hw:=x.hw+1,hT:=2,next:=f.pc}:Tk).p else({x with pc:=f.pc,r:=f.r,hw:=x.hw+1}:Tk).p):=O (by rw[bK.out,aR];simp only;rw[I_ cj,<-aO,<-aj];rfl);clear bK
    have q2:(f.hS==2)=false:=by
     have e:f.hS=g.hS:=by rw[<-aj];rfl
     rw[e]
     simpa using cj
    go_upto_region 18 with fail
    go_cut [81] (λbx a6=>bx=.bool (decide (f.hS=1/\(iS (λz=>z==f.kw) d=true∨64<=x.hw+1∨jm l hq g9 f.pc=true)))/\J [] bn a6)
    case first=>
     have aT:=bH.f_ 0;have cU:bn.cell? (Z a2 39)=some (Y f.kw):=(h.f_ 39).trans rfl
     by_cases bN:f.hS=1
     .have q1:(f.hS==1)=true:=zu bN
      cases bL:iS (λz=>z==f.kw) d with
      |true=>
       have aV:=O (show decide (f.hS=1/\(iS (λz=>z==f.kw) d=true∨64<=x.hw+1∨jm l hq g9 f.pc=true))=true by simp[bN,bL]);exact IU
      |false=>
       by_cases b6:64<=x.hw+1
       .have aV:=O (show decide (f.hS=1/\(iS (λz=>z==f.kw) d=true∨64<=x.hw+1∨jm l hq g9 f.pc=true))=true by simp[bN,b6])
        have dS:((64:Int)<=x.hw+1)=True:=by simp[b6]
        exact IU
       .have dS:((64:Int)<=x.hw+1)=False:=by simp[b6]
        cases has:jm l hq g9 f.pc with
        |true=>
         have aV:=O (show decide (f.hS=1/\(iS (λz=>z==f.kw) d=true∨64<=x.hw+1∨jm l hq g9 f.pc=true))=true by simp[bN,has]);exact IG
        |false=>
         have aV:=O (show decide (f.hS=1/\(iS (λz=>z==f.kw) d=true∨64<=x.hw+1∨jm l hq g9 f.pc=true))=false by simp[bL,b6,has]);exact IG
     .have q1:(f.hS==1)=false:=zu bN;have aV:=O (show decide (f.hS=1/\(iS (λz=>z==f.kw) d=true∨64<=x.hw+1∨jm l hq g9 f.pc=true))=false by simp[bN]);go_wp2;go_meet;exact⟨i9 aV.out.symm,H _ _⟩
    case rest=>
     obtain⟨rfl,y⟩:=hcut;replace af:=af.g_ y;replace Q:=Q.g_ y;replace h:=h.g_ y;replace P:=P.g_ y;replace aK:=aK.trans y;clear y W V bH
     by_cases bM:f.hS=1/\(iS (λz=>z==f.kw) d=true∨64<=x.hw+1∨jm l hq g9 f.pc=true)
     .have ap:Hid (ja l hq g9 d t.p (hU b)=({x with pc:=f.pc,r:=f.r,hw:=x.hw+1,hT:=2,next:=f.pc}:Tk).p):=O (by rw[aW.out,O_ bM]);have q:decide (f.hS=1/\(iS (λz=>z==f.kw) d=true∨64<=x.hw+1∨jm l hq g9 f.pc=true))=true:=FX bM;rw[q];clear q bM aW
      go_upto_region 19 with fail
      refine hI (λw'=>w'.cell? (Z a2 1)=some (Y f.pc)) 7 k_ ?_;replace af:=af.drew;replace Q:=Q.g_ ((H [] wc).drew);replace h:=h.drew;replace P:=P.drew;replace aK:=aK.drew;obtain⟨M,cn⟩:=nm_ wc.drew;rw[<-cn]at af Q h P aK |-;clear cn
      refine nZ ((h.f_ 1).trans rfl) λC=>?_
      refine iH 0 C ?_;refine iH 1 C ?_;refine iH 2 C ?_;refine iH 3 C ?_;have ca:M.cell? (Z gx 42)=some (Y x.hT):=(af.f_ 42).trans rfl;have bI:=af.hm 42;have d2:M.cell? (Z gx 43)=some (Y x.next):=(af.f_ 43).trans rfl;have cx:=af.hm 43
      refine hV 4 λK MT=>?_
      go_simp;clear C
      refine hX MT (((h.ib (p:=(Z gx 42)) n.symm (Y 2)).f_ 1).trans rfl) λC=>?_
      clear MT K;refine iH 5 C ?_
      refine hV 6 λK MT=>?_
      go_simp;clear C
      refine hX MT ((((h.ib (p:=(Z gx 42)) n.symm (Y 2)).ib (p:=(Z gx 43)) n.symm (Y f.pc)).f_ 1).trans rfl) λC=>?_
      clear MT K;have aG:=af.hN 42 (Y 2);clear ca bI;clear d2 cx C;refine hC k_ ?_ _;have aw:Bk ((M.setCell (Z gx 42) (Y 2)).setCell (Z gx 43) (Y f.pc)) gx 53 ({x with pc:=f.pc,r:=f.r,hw:=x.hw+1,hT:=2,next:=f.pc}:Tk).g8:=aG.hN 43 (Y f.pc);have cg:J [gx] M ((M.setCell (Z gx 42) (Y 2)).setCell (Z gx 43) (Y f.pc)):=((H [gx] M).setCell (p:=(Z gx 42)) (.inl s_) _).setCell (p:=(Z gx 43)) (.inl s_) _;have ck:=ln.of (t':=({x with pc:=f.pc,r:=f.r,hw:=x.hw+1,hT:=2,next:=f.pc}:Tk)) (Q.ir af I cg) rfl rfl rfl rfl rfl rfl;have bP:=P.gr cg (zu m3.symm);have cf:=aK.hA cg p_;clear aG af Q h P aK cg;obtain⟨cK,co⟩:=nm_ ((M.setCell (Z gx 42) (Y 2)).setCell (Z gx 43) (Y f.pc));rw[<-co]at aw ck bP cf |-;clear co
      go_wp2_with (first|(refine k5 aw underlying53 ?_)|(refine kZ (({x with pc:=f.pc,r:=f.r,hw:=x.hw+1,hT:=2,next:=f.pc}:Tk).g8) bP (Tk.one _) ?_;intro ae ax G))
      rw[ap.out];exact l5 ({x with pc:=f.pc,r:=f.r,hw:=x.hw+1,hT:=2,next:=f.pc}:Tk).g8 (Y 0) ax underlying53 ⟨({x with pc:=f.pc,r:=f.r,hw:=x.hw+1,hT:=2,next:=f.pc}:Tk),rfl,ck.ir bP I G,rfl,cf.hA G p_⟩
     .have ap:Hid (ja l hq g9 d t.p (hU b)=({x with pc:=f.pc,r:=f.r,hw:=x.hw+1}:Tk).p):=O (by rw[aW.out,I_ bM]);have q:decide (f.hS=1/\(iS (λz=>z==f.kw) d=true∨64<=x.hw+1∨jm l hq g9 f.pc=true))=false:=GH bM;rw[q];clear q bM aW
      go_wp2_with (first|(refine k5 af underlying53 ?_)|(refine kZ (({x with pc:=f.pc,r:=f.r,hw:=x.hw+1}:Tk).g8) P (Tk.one _) ?_;intro ae ax G))
      rw[ap.out];exact l5 ({x with pc:=f.pc,r:=f.r,hw:=x.hw+1}:Tk).g8 (Y 0) ax underlying53 ⟨({x with pc:=f.pc,r:=f.r,hw:=x.hw+1}:Tk),rfl,(ln.of (t':=({x with pc:=f.pc,r:=f.r,hw:=x.hw+1}:Tk)) Q rfl rfl rfl rfl rfl rfl).ir P I G,rfl,aK.hA G p_⟩
