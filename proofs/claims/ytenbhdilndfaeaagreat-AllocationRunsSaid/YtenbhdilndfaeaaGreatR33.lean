import Derived.Test.YtenbhdilndfaeaaGreatR30
import Derived.Great.Walk
set_option maxRecDepth 100000
set_option maxHeartbeats 0
set_option linter.all false
namespace Go.Proofs.YtenbhdilndfaeaaGreat
open Go.RowKit Go.Proofs.Tryz
variable{l:List In}{g9 hq:Int}{h:List Ob}{A:OA}{w w':World}{cs cur:Array Value}{base gb:Nat}{vs:List Value}{ts:List Tk}
section
structure PX(P:Int->Prop)(R:Int):Prop where
 r:0<=R
 z:P 0
 o:P 1
 t:P 2
 nx:∀(run:Int) (k:Nat),0<=run->run<=R->k<=500000->P ((run+1)*1048576+k)
variable{P:Int->Prop}{R:Int}
def TG.CY(e:PX P R){t:i6}(f:TG P t){view:List Ob}(o:HG P view)(c:List In)(hq g9:Int)(d:List Int)(h0:0<=t.run)(j:t.run<=R)(k:t.nw.length<=500000):TG P (ja c hq g9 d t view):=by
 rcases f.step o e.z c hq g9 d with h|h
 .exact h.1
 .exact h.1.mono λp n=>n.elim id (λi=>i▸e.nx _ _ h0 j k)
def TG.D0(q:PX P R){l:List In}{hq g9:Int}{d:List Int}{view:List Ob}(p:hY l hq g9=true)(j:l.length<=2048)(i:HG P view):∀(n:Nat) (t:i6),(t.hT=0->Way l t)->TF t->TG P t->0<=t.run->t.run<=R->TG P (na l hq g9 d view n t)
 |0,_,_,_,c,_,_=>c
 |n+1,t,r,f,c,h0,e=>by
  unfold na;split
  .rename_i o;obtain⟨s,u⟩:=qV (d:=d) (view:=view) p j (r o) f o;have k:=lj l hq g9 d t view;exact TG.D0 q p j i n _ u s (c.CY q i l hq g9 d h0 e f.sm.nw) (by rw[k];exact h0) (by rw[k];exact e)
  .exact c
def zX(e:PX P R){d:List Int}(i:hY l hq g9=true)(c:l.length<=2048){s:qs}{run:Int}(f:HG P s.h)(h0:0<=run)(j:run<=R):TG P (lN l hq g9 d s run):=by
 have k:=mP l hq g9 s.hG run true;exact TG.D0 e i c f _ _ (λ_=>nS) (qp c) (TG.begin _ _ _ _ _ _) X (ov e.r)
def um.gX(c:PX P R){d n:List Int}{k:Nat}{run:Int}{s:qs}(f:hY l hq g9=true)(h:um l hq g9 d n k run s)(o:(k:Int)<=R):HG P s.h:=by
 have i:=ky f
 induction h with
 |hG=>exact HG.hG _ c.z c.o c.t
 |ask _ _ _ e=>exact HG.ng _ _ _ _ c.z (e X)
 |commit h _ _ e=>
  have j:=h.cb f;exact HG.kF (e X) (zX c f i.2.1 (e X) j.2.1 X) true
def vN.gX(u:PX P R){d:List Int}{run:Int}{n:Nat}{ts:List i6}(s:hY l hq g9=true)(r:l.length<=2048)(j:vN l hq g9 d h run n ts)(q:HG P h)(h0:0<=run)(v:run+16<=R):∀t∈ts,TG P t/\0<=t.run/\t.run<=run+16:=by
 induction j with
 |hG ts iG o=>
  intro t c;obtain⟨i,e,rfl⟩:=Hg c;obtain⟨p,k,_,f⟩:=o i e;have x:=mP l hq g9 p (run+i) k;rw[f];have iG:=iG;exact⟨TG.begin _ _ _ _ _ _,X,X⟩
 |step i e o x f=>
  intro t c
  rcases FW c with c|rfl
  .exact f t c
  .obtain⟨a,b,k⟩:=f _ (M_ e);have p:=(o.tf s r _ (M_ e)).1;rw[lj];exact⟨a.CY u (q.nk (λt c=>(f t c).1) _) l hq g9 d b X p.sm.nw,b,k⟩
def Sm(n:Int):Prop:=0<=n/\n<=40000000
def D3:PX Sm 32:=⟨by decide,⟨by decide,by decide⟩,⟨by decide,by decide⟩,⟨by decide,by decide⟩,λrun k h0 h1 hk=>⟨by omega,by omega⟩⟩
def B0.Bl{l:List Int}(h:∀x∈l,Sm x):B0 l:=λi d e=>by
 have c:=pU i (l:=(List.range 40000001).map Int.ofNat) d λx f=>by
  obtain⟨j,c⟩:=h x (e x f);refine Z_.2 ⟨x.toNat,Gb.2 X,?_⟩
  show(x.toNat:Int)=x
  omega
 rw[F6,Hp]at c;omega
def HG.refs(f:HG P h):∀x∈kc h,P x:=λx e=>by
 obtain⟨j,i,e⟩:=Ha.1 e;obtain⟨k,d,rfl⟩:=Z_.1 e;obtain⟨d,c⟩:=F5.1 d;unfold isRef at c;rw[FP]at c;exact(f j i).2 k d c.1
def HG.ids(d:HG P h):∀c∈h,P c.id:=λc e=>(d c e).1
end
def BY(B g:Nat)(P:List Int)(w:World)(e:Ending)(w':World):Prop:=∃(A:OA) (d:Nat) (Q:List Int),e=.returned (.agg #[.slice A Q.length d])/\Ns w' 3 A Q/\Q.length<=d/\Q.Sublist P/\iL w' B g/\J [g] w w'
def ya(l:List In)(hq g9:Int):(kM l hq g9).length<=2049:=by
 unfold kM;split
 .rename_i h
  have:=ky h
  simp;omega
 .simp
def vA(B g:Nat)(A:OA)(c:Nat)(l:List In)(hq g9:Int)(h:Is w A l)(hn:l.length<=1000000000)(r:iL w B g)(hB:B<=w.heap.size):
 Calls prog 46 #[.pointer (some ⟨g,0,none⟩),.agg #[.slice A l.length c,Y hq,Y g9]] w (BY B g (kM l hq g9) w):=by
 obtain⟨bC,bv,bw,aZ,bg⟩:=info_parts infoInt;have a2:=r.x0;have bL:=ya l hq g9;obtain⟨G,d,t⟩:=qL w 26 #[.slice A l.length c,Y hq,Y g9] 32 #[n_];obtain⟨al,a⟩:=nm_ (BY B g (kM l hq g9) w);rw[<-a];have aI:=O a;clear a
 go_enter func46,ntmps46
 go_upto_region 1 with fail
 obtain⟨an,aM⟩:=nm_ ((w.alloc (.cells #[.slice A l.length c,Y hq,Y g9] 26)).alloc (.cells #[n_] 32));rw[<-aM]at G d t |-;clear aM;obtain⟨aD,h3⟩:=nm_ w.heap.size;obtain⟨z,ar⟩:=nm_ (w.heap.size+1);rw[<-h3]at G;rw[<-ar]at d;rw[<-h3];have aK:aD+1=z:=X;rw[aK];have a6:w.heap.size<=aD:=X;clear h3 ar;have z0:=G.f_ 0;have aR:=G.f_ 1;have aU:=G.f_ 2;have aA:=Is.g_ h t;replace r:=r.g_ t;have dV:=d.lt
 go_upto_region 2 with(go_at_call 90;refine(zS A c l hq g9 an aA hn).mono ?_;rintro bd w2⟨y,be,rfl,i,ax,U⟩)
 obtain⟨f,j⟩:=EI w2 32 #[.slice y (kM l hq g9).length be];obtain⟨aF,av⟩:=nm_ w2.heap.size;have aX:z<aF:=ov U.size;replace d:=(d.g_ U).g_ j;replace r:=(r.g_ U).g_ j;replace i:=i.g_ j;replace t:=(t.trans U).trans j;obtain⟨P,aw⟩:=nm_ (kM l hq g9);rw[<-aw]at i ax f d r t bL |-;have au:=O aw;obtain⟨ah,MM⟩:=nm_ (w2.alloc (.cells #[.slice y P.length be] 32));rw[<-MM]at i f d r t |-;rw[<-av]at f |-;clear MM av j aw z0 aR aU aA G U;obtain⟨n,hn0⟩:=nm_ P.length;have aW:=O hn0;rw[<-hn0]at ax f bL |-;clear hn0
 go_wp2_with fail
 go_at_call 19
 refine(iq B g 3 r X X).mono ?_;rintro bd bf⟨bh,rfl,bp,bA,Q,af⟩;replace d:=d.gr af p_;replace f:=f.gr af p_;obtain⟨dn,K⟩:=r.bk;replace i:=Sl.ir i K I af;have N:=(t.mono s_).trans af;have eu:=f.lt;clear r K t af
 by_cases hr:bh=0
 .have dt:(bh==0)=true:=by simp[hr]
  clear hr;have M:=f.f_ 0;have f0:=d.hm 0;have r0:=d.f_ 0;go_wp2;have bU:=d.hN 0 (.slice y n be);have e:=(H [z] bf).setCell (p:=⟨z,0,none⟩) (.inl s_) (.slice y n be);refine FY (G7 rfl _ _ _ _ _ _ _ rfl bU underlying32 rfl k_) rfl ?_;rw[aI.out];refine⟨y,be,P,by rw[aW.out];rfl,?_,by rw[<-aW.out];exact ax,by rw[au.out];exact List.Sublist.refl _,Q.ib e p_,N.hA e p_⟩;exact Sl.ir i d I e
 .have dt:(bh==0)=false:=by simp[hr]
  clear hr;have M:=f.f_ 0
  go_upto_region 5 with fail
  obtain⟨v,j⟩:=EI bf 32 #[n_];obtain⟨V,aV⟩:=nm_ bf.heap.size;have aN:aF<V:=X;replace d:=d.g_ j;replace f:=f.g_ j;replace Q:=Q.g_ j;replace i:=i.g_ j;replace N:=N.trans (j.mono s_);obtain⟨ad,b9⟩:=nm_ (bf.alloc (.cells #[n_] 32));rw[<-b9,<-aV]at v;rw[<-b9]at i f d Q N |-;rw[<-aV];clear b9 aV j M;have M:=f.f_ 0
  go_upto_region 6 with fail
  clear M;obtain⟨F,bE⟩:=nm_ ad.heap.size
  have aY:V<F:=by rw[bE];exact v.lt
  have aS:w.heap.size<=F:=X;have aP:F<=ad.heap.size:=X
  have aL:∀S off,y=some ⟨S,off,none⟩->0<P.length->S<F:=λS off W hn=>by
   have h1:=i;rw[W]at h1;rw[bE];exact h1.lt hn
  clear bE
  go_loopw [18] (λaG w'=>∃(k:Nat) (u:OA) (x:Nat) (vs:List Int),k<=n/\aG=Y k/\vs.Sublist (P.take k)/\Bk w' z 32 #[n_]/\Bk w' V 32 #[.slice u vs.length x]/\w'.ownsRow F 3 1 (.slice u vs.length x) vs.length (vs.map (Value.int .i64))/\Ns w' 3 y P/\iL w' B g/\J [g] w w'/\F<=w'.heap.size/\vs.length<=k) (λaG _=>n-(intOf aG).toNat)
  case atStart=>exact⟨0,none,0,[],P_ _,gn,s_,d,v,iY _ _ _ _,i,Q,N,aP,H_ _⟩
  case round=>
   obtain⟨k,u,x,vs,hk,rfl,bj,L,MN,ao,ap,ae,am,R,cA⟩:=hrel;obtain⟨E,hj⟩:=nm_ vs.length;have bk:=O hj;rw[<-hj]at MN ao cA;clear hj d v i Q N
   by_cases aj:k<n
   .obtain⟨b,off,W,hc⟩:=ap.at_ (k:=k) (ov aW.out);subst W;have aQ:k<P.length:=ov aW.out;have ai:=hc
    go_wp2_with fail
    go_at_call 19
    refine(iq B g 2 ae X X).mono ?_;rintro bd C⟨q,rfl,hq0,hq1,cF,D⟩;obtain⟨dn,K⟩:=ae.bk;have bl:=L.gr D p_;have v:=MN.gr D p_;have b3:=kQ ao K I D;have c7:Ns C 3 (some ⟨b,off,none⟩) P:=Sl.ir ap K I D;have cW:=am.trans D;have aC:=G_ R D.size
    have bP:P.take (k+1)=P.take k++[P[k]]:=by rw[X_ aQ]
    have bK:=O bP;have aq:=O bj;clear bP bj ai hc L MN ao ap ae am R K D
    by_cases bm:q=0
    .have dq:(q==0)=true:=by simp[bm]
     clear bm;obtain⟨o,aB⟩:=nm_ (P[k]);rw[<-aB]at bK |-;clear aB;have M:=v.f_ 0;have bo:=v.alloc (.cells #[Y o] 3);have bq:=iF b3 ((H [] C).alloc (.cells #[Y o] 3));have ak:Sl (C.alloc (.cells #[Y o] 3)) 3 1 (some ⟨C.heap.size,0,none⟩) 1 [Y o]:=jj (n:=1) (s:=1) (Q_ C 3 #[Y o]) rfl
     go_wp2_with (at_builtin;refine j0 rfl rfl F 3 bC 1 8 underlying30 bv bw aZ bg rfl I I u E x (vs.map (Value.int .i64)) rfl bq _ 1 1 [Y o] rfl ak (by intro br hu;simp at hu;subst hu;rfl) X p_ ?_;intro bt bW aH bX bz bD;have T:=App.iW bq bz;have Z:=T.bk bo I;have bi:=Z.f_ 0;have f1:=Z.hm 0)
     go_roundw
     case rel=>
      have e:=(H [V] aH).setCell (p:=⟨V,0,none⟩) (.inl s_) (.slice bt (E+1) bW);have ag:=bk.out;have m:=T.bk (bl.alloc (.cells #[Y o] 3)) I;refine⟨k+1,bt,bW,vs++[o],X,gn,by rw[bK.out];exact aq.out.append (List.Sublist.refl _),m.gr e p_,?_,?_,?_,?_,?_,?_,p_⟩
      .have:=Z.hN 0 (.slice bt (E+1) bW)
       have hl:(vs++[o]).length=E+1:=by rw[K_,<-ag];rfl
       rw[hl];exact this
      .have:=kQ bX Z I e
       have hl:(vs++[o]).length=E+1:=by rw[K_,<-ag];rfl
       rw[hl,FI];exact this
      .have aJ:Sl (C.alloc (.cells #[Y o] 3)) 3 1 (some ⟨b,off,none⟩) P.length (P.map (Value.int .i64)):=Sl.alloc c7 _;refine Sl.ir (aJ.sy λhn S bu W hx=>bz.block S hx (λhe=>?_)) Z I e;have h1:=(kx bq (he.symm)).1;have h2:=aL S bu W hn;omega
      .exact((cF.g_ ((H [] C).alloc _)).app T X).ib e p_
      .exact(T.gr [g] w aS (cW.alloc _)).setCell (.inr p_) _
      .have h1:=T.size;have h2:=e.size;simp at h1;omega
     case measure=>exact mz
    .have dq:(q==0)=false:=by simp[bm]
     clear bm;go_wp2;go_roundw
     case rel=>
      have ag:=bk.out;subst ag;exact⟨k+1,u,x,vs,X,gn,by rw[bK.out];exact aq.out.trans (List.sublist_append_left _ _),bl,v,b3,c7,cF,cW,aC,X⟩
     case measure=>exact mz
   .have o:k=n:=X;have M:=MN.f_ 0;have f0:=L.hm 0;have r0:=L.f_ 0;have aq:=O bj;clear bj;go_wp2;have bU:=L.hN 0 (.slice u E x);have e:=(H [z] wr).setCell (p:=⟨z,0,none⟩) (.inl s_) (.slice u E x);refine FY (G7 rfl _ _ _ _ _ _ _ rfl bU underlying32 rfl k_) rfl ?_;rw[aI.out];refine⟨u,x,vs,by rw[bk.out];rfl,?_,by rw[<-bk.out];exact jk ao,by rw[<-au.out];exact aq.out.trans (List.take_sublist _ _),ae.ib e p_,am.hA e p_⟩
    have:=Sl.iQ ao
    rw[bk.out]at this;exact Sl.ir this L I e
def uj.ir{m:Md}{x:Nat}{t:TypeId}(h:uj w m)(d:Bk w x t cs)(n:189≠t/\2≠t/\3≠t/\56≠t/\38≠t/\162≠t/\116≠t/\124≠t)(e:53≠t∨m.ts=[])(c:J [x] w w'):uj w' m:=by
 obtain⟨p,q,r,f,i,j,s,o⟩:=n;refine⟨Sl.ir h.l d p c,Sl.ir h.kH d q c,h.al,Sl.ir h.d d r c,h.dl,h.s.ir d ⟨f,i,j⟩ c,⟨?_,λt k=>(h.ts.B_ t k).ir d ⟨s,f,i,o,j⟩ c⟩⟩
 rcases e with e|e
 .exact Sl.ir h.ts.row d e c
 .rw[e];exact Gz _ _ _ _
def Fd:Array Value:=#[n_,Y 0,Y 0,n_,n_,n_,Y 0,Y 0,n_,.bool false,.bool false,.bool false,Y 0,Y 0,Y 0,n_,Y 0]
structure MW(w0:World)(B g gr gx:Nat)(m:Md)(w:World):Prop where
 r:Bk w gr 43 Fd
 x:Bk w gx 43 m.g8
 i:uj w m
 d:iL w B g
 g:J [g] w0 w
 hB:B<=w0.heap.size
 b1:w0.heap.size<=gr
 b2:w0.heap.size<=gx
 ne:gr≠gx
section
variable{w0 a b:World}{B g gr gx:Nat}{m m':Md}
def MW.g_(h:MW w0 B g gr gx m a)(k:J [] a b):MW w0 B g gr gx m b:=
 ⟨h.r.g_ k,h.x.g_ k,h.i.g_ k,h.d.g_ k,h.g.trans (k.of_nil [g]),h.hB,h.b1,h.b2,h.ne⟩
def MW.ib(h:MW w0 B g gr gx m a):g≠gr/\g≠gx:=by
 have d:=h.d.x0;have e:=h.hB;have f:=h.b1;have c:=h.b2;omega
def MW.dice(h:MW w0 B g gr gx m a)(k:J [g] a b)(c:iL b B g):MW w0 B g gr gx m b:=by
 obtain⟨cs,d⟩:=h.d.bk;obtain⟨e,f⟩:=h.ib;exact⟨h.r.gr k (zu e.symm),h.x.gr k (zu f.symm),h.i.ir d I (.inl I) k,c,h.g.trans k,h.hB,h.b1,h.b2,h.ne⟩
def MW.one(h:MW w0 B g gr gx m a){x:Nat}{t:TypeId}(e:Bk a x t cs)(i:189≠t/\2≠t/\3≠t/\56≠t/\38≠t/\162≠t/\116≠t/\124≠t)(j:53≠t∨m.ts=[])(c:t≠43)(f:w0.heap.size<=x)(k:J [x] a b):MW w0 B g gr gx m b:=
 ⟨h.r.gr k (zu (h.r.me e c.symm)),h.x.gr k (zu (h.x.me e c.symm)),h.i.ir e i j k,h.d.ib k (λn d=>by rw[R_]at d;rw[d];exact G_ h.hB f),
   h.g.hA k (λn d=>.inr (by rw[R_]at d;rw[d];exact f)),h.hB,h.b1,h.b2,h.ne⟩
def MW.set(h:MW w0 B g gr gx m a)(k:J [gx] a b)(e:Bk b gx 43 m'.g8)(d:uj b m->uj b m'):MW w0 B g gr gx m' b:=
 ⟨h.r.gr k (zu h.ne),e,d (h.i.ir h.x I (.inl I) k),h.d.ib k (λf c=>by rw[R_]at c;rw[c];exact G_ h.hB h.b2),
   h.g.hA k (λf c=>.inr (by rw[R_]at c;rw[c];exact h.b2)),h.hB,h.b1,h.b2,h.ne⟩
def MW.fin(h:MW w0 B g gr gx m a)(k:J [gr] a b):uj b m/\iL b B g/\J [g] w0 b:=
 ⟨h.i.ir h.r I (.inl I) k,h.d.ib k (λd c=>by rw[R_]at c;rw[c];exact G_ h.hB h.b1),
   h.g.hA k (λd c=>.inr (by rw[R_]at c;rw[c];exact h.b1))⟩
end
structure MQ(w0:World)(gq:Nat)(sA:OA)(fl:List Fo)(sc:Nat)(w:World):Prop where
 q:Bk w gq 96 #[.slice sA fl.length sc]
 f:Fs w sA fl
 b:w0.heap.size<=gq
section
variable{w0 a b:World}{gq:Nat}{sA:OA}{fl:List Fo}{sc:Nat}
def MQ.g_(h:MQ w0 gq sA fl sc a)(k:J [] a b):MQ w0 gq sA fl sc b:=⟨h.q.g_ k,h.f.g_ k,h.b⟩
def MQ.one(h:MQ w0 gq sA fl sc a){x:Nat}{t:TypeId}(c:Bk a x t cs)(d:168≠t)(e:96≠t)(k:J [x] a b):MQ w0 gq sA fl sc b:=
 ⟨h.q.gr k (zu (h.q.me c e)),Sl.ir h.f c d k,h.b⟩
end
structure Da(k:Nat)(fl:List Fo):Prop where
 len:fl.length<=k
 n:∀f∈fl,1<=f.n/\f.n<=3
 dst:∀f∈fl, -1<=f.dst/\f.dst<=3000
def Da.mono{k c:Nat}{fl:List Fo}(h:Da k fl)(d:k<=c):Da c fl:=⟨G_ h.len d,h.n,h.dst⟩
def Da.DU{k:Nat}{fl:List Fo}(h:Da k fl)(e dst:Int)(h0: -1<=dst)(p:dst<=3000):Da (k+1) (lr fl e dst):=by
 have s:∀c∈([⟨e,dst,1⟩]:List Fo),(1<=c.n/\c.n<=3)/\ -1<=c.dst/\c.dst<=3000:=λc d=>by rw[R_.1 d];exact⟨⟨FR 1,(by decide:(1:Int)<=3)⟩,h0,p⟩
 unfold lr;split
 .rename_i i
  have o:lz fl e<fl.length:=by unfold py at i;simp at i;exact i.1
  have r:fl.getD (lz fl e) default=fl[lz fl e]:=by simp[List.getD,L_ o]
  have f:=M_ o;have t:=h.n _ f;have q:=h.dst _ f;rw[r]
  have j:(1<=(lM fl[lz fl e] dst).n/\(lM fl[lz fl e] dst).n<=3)/\ -1<=(lM fl[lz fl e] dst).dst/\(lM fl[lz fl e] dst).dst<=3000:=by
   generalize fl[lz fl e]=c at*;unfold lM;split
   .refine⟨?_,q⟩
    show 1<=(if 3<c.n+1 then 3 else c.n+1)/\(if 3<c.n+1 then 3 else c.n+1)<=3
    split<;>omega
   .split
    .exact⟨⟨FR 1,(by decide:(1:Int)<=3)⟩,h0,p⟩
    .exact⟨by show 1<=c.n-1/\c.n-1<=3;omega,q⟩
  refine⟨by rw[FV];exact Nat.le_succ_of_le h.len,λc d=>?_,λc d=>?_⟩
  .rcases FW d with d|d
   .exact h.n c d
   .rw[d];exact j.1
  .rcases FW d with d|d
   .exact h.dst c d
   .rw[d];exact j.2
 .have f:∀c∈fl.take (lz fl e)++([⟨e,dst,1⟩]++fl.drop (lz fl e)),(1<=c.n/\c.n<=3)/\ -1<=c.dst/\c.dst<=3000:=by
   intro c d
   rcases T_.1 d with d|d
   .have:=Gf d
    exact⟨h.n c this,h.dst c this⟩
   .rcases T_.1 d with d|d
    .exact s c d
    .have:=GY d
     exact⟨h.n c this,h.dst c this⟩
  refine⟨?_,λc d=>(f c d).1,λc d=>(f c d).2⟩
  have:=h.len
  simp only[K_,Gd,Hb,HC];omega
def xD{d:List Int}(e:hY l hq g9=true)(h:d.Sublist (kM l hq g9)):(∀x∈d,0<=x/\x<=g9)/\d.Pairwise (· < ·):=by
 have n:=ky e
 have j:kM l hq g9=(List.range (g9.toNat+1)).map Int.ofNat:=by unfold kM;rw[O_ e]
 rw[j]at h;refine⟨λx k=>?_,?_⟩
 .obtain⟨f,c,i⟩:=Z_.1 (h.subset k);have c:=Gb.1 c;rw[<-i]
  show 0<=(f:Int)/\(f:Int)<=g9
  omega
 .refine List.Pairwise.sublist h ?_;rw[List.pairwise_map]
  exact List.pairwise_lt_range.imp λ{a b} hab=>by show(a:Int)<(b:Int);omega
def t_{d:List Int}(i:hY l hq g9=true)(h:d.Sublist (kM l hq g9)):ru l hq g9 d=true:=by
 obtain⟨n,o⟩:=xD i h;unfold ru;rw[i,Bool.and_true]
 have:iS (bad d g9) (List.range d.length)=false:=by
  unfold iS;rw[List.any_eq_false];intro c e;have e:=Gb.1 e
  have k:d.getD c 0=d[c]:=by simp[List.getD,L_ e]
  have r:=n _ (M_ e);unfold bad;rw[k]
  by_cases p:0<c
  .have f:c-1<d.length:=X
   have j:d.getD (c-1) 0=d[c-1]:=by simp[List.getD,L_ f]
   have q:=List.pairwise_iff_getElem.1 o (c-1) c f e X;rw[j];simp;omega
  .simp;omega
 rw[this]
 rfl
def u_{d:List Int}(c:hY l hq g9=true)(h:d.Sublist (kM l hq g9)):d.length<=2049:=by
 have i:=ky c;have e:=h.length_le
 have f:kM l hq g9=(List.range (g9.toNat+1)).map Int.ofNat:=by unfold kM;rw[O_ c]
 rw[f,F6,Hp]at e;omega
def Md.code(m:Md):∀c,c<3->m.g8[0+c]?=(#[.slice m.A m.l.length m.c,Y m.hq,Y m.g9]:Array Value)[c]?:=λc d=>by
 match c,d with
 |0,_=>rfl
 |1,_=>rfl
 |2,_=>rfl
def Md.world(m:Md):∀c,c<1->m.g8[3+c]?=(#[.slice m.aA m.kH.length m.ac]:Array Value)[c]?:=λc d=>by
 match c,d with
 |0,_=>rfl
def Md.div(m:Md):∀c,c<1->m.g8[4+c]?=(#[.slice m.dA m.d.length m.dc]:Array Value)[c]?:=λc d=>by
 match c,d with
 |0,_=>rfl
def Md.heap(m:Md):∀c,c<1->m.g8[5+c]?=(#[.slice m.s.h.A m.s.h.l.length m.s.h.c]:Array Value)[c]?:=λc d=>by
 match c,d with
 |0,_=>rfl
def Md.com(m:Md):∀c,c<10->m.g8[5+c]?=m.s.g8[c]?:=λc d=>by
 match c,d with
 |0,_=>rfl
 |1,_=>rfl
 |2,_=>rfl
 |3,_=>rfl
 |4,_=>rfl
 |5,_=>rfl
 |6,_=>rfl
 |7,_=>rfl
 |8,_=>rfl
 |9,_=>rfl
def Md.one(m:Md):m.g8.all (·.oneCell')=true:=by unfold Md.g8;simp[Value.oneCell']
def wX{a:Value}{x y c:Value}(d:cs=#[x,y,c]):(Instr.build 43 #[(0,.agg cs),(1,.agg #[a])]).run prog w=.ok (.agg #[x,y,c,a,n_,n_,Y 0,Y 0,n_,.bool false,.bool false,.bool false,Y 0,Y 0,Y 0,n_,Y 0]) w:=by
 subst d
 kernel_rfl
def ln.app{t:Tk}(h:ln w t)(k:App base 53 w w'):ln w' t:=
 ⟨k.sl h.gs I,k.sl h.rs I,k.sl h.ws I,k.sl h.nw I,k.Dr I h.nr,k.sl h.ds I,k.sl h.hW I,h.yK,h.lD,h.vU,h.tN,h.sJ,h.qc⟩
def l9.app{s:Cm}(h:l9 w s)(k:App base 53 w w'):l9 w' s:=
 ⟨⟨k.sl h.h.os I,k.Dr I h.h.lD,h.h.lO⟩,k.sl h.hW I,h.qc⟩
def Do{d:Nat}(h:d+vs.length<=cs.size)(c:Nat)(e:c<vs.length):(vn cs d vs)[d+c]?=vs[c]?:=by
 unfold vn;simp only[List.getElem?_toArray];rw[GN p_,Hc p_];congr 1;simp;omega
def Cd{c:Nat}(h:c+vs.length<=cs.size)(i:Nat)(d:i<c∨c+vs.length<=i):(vn cs c vs)[i]?=cs[i]?:=by
 unfold vn;simp only[List.getElem?_toArray]
 rcases d with d|d
 .rw[Hc p_,Gv,O_ d];simp
 .rw[GN p_,GN p_,Hv];simp only[Gd,HI];rw[show c+vs.length+(i-min c cs.size-vs.length)=i by omega];simp
structure pz(w:World)(gb:Nat)(cur:Array Value)(ts:List Tk):Prop where
 bk:Bk w gb 53 cur
 row:∀(i:Nat) (u:Value),(ts.flatMap λt=>t.g8.toList)[i]?=some u->cur[i]?=some u
def pz.sl(h:pz w gb cur ts):Ts w (j_ gb) ts:=
 ⟨kk _ 48 tz ts,λ_=>⟨gb,0,cur,_,rfl,h.bk,λd e c=>by rw[W_];exact h.row d e c⟩⟩
def pz.size(h:pz w gb cur ts):ts.length*48<=cur.size:=by
 rcases FO cur.size (ts.length*48)with d|d
 .have iG:(ts.flatMap λc=>c.g8.toList).length=ts.length*48:=kk _ 48 tz ts
  have:=h.row _ _ (L_ (by omega:cur.size<(ts.flatMap λc=>c.g8.toList).length))
  simp at this
 .exact d
def pz.f_(h:pz w gb cur ts){k:Nat}(j:k<ts.length)(c:Nat)(d:c<48):w.cell? (Z gb (k*48+c))=(ts[k]).g8[c]?:=by
 have i:=jg (λn:Tk=>n.g8.toList) 48 tz ts k c j d
 have e:c<(ts[k]).g8.size:=by rw[Tk.size];exact d
 have f:(ts[k]).g8.toList[c]?=some (ts[k]).g8[c]:=by simp[e]
 rw[FM e,h.bk.f_];exact h.row _ _ (i.trans f)
def pz.at(h:pz w gb cur ts){k:Nat}(e:k<ts.length):∀c,c<(ts[k]).g8.size->cur[k*48+c]?=(ts[k]).g8[c]?:=by
 intro c d;rw[Tk.size]at d;rw[<-h.f_ e c d,h.bk.f_]
def pz.set(h:pz w gb cur ts){k:Nat}(j:k<ts.length)(t:Tk)(f:Bk w' gb 53 (vn cur (k*48) t.g8.toList)):pz w' gb (vn cur (k*48) t.g8.toList) (ts.set k t):=by
 have q:=h.size;have n:t.g8.toList.length=48:=rfl
 have e:k*48+t.g8.toList.length<=cur.size:=by rw[n];omega
 refine⟨f,q5 (λt:Tk=>t.g8.toList) 48 tz I ts k j t cur h.row (λd r c=>?_) (λo p=>?_)⟩
 .have i:d<t.g8.toList.length:=by
   rcases FO d t.g8.toList.length with h|h
   .exact h
   .rw[F8 h]at c
    cases c
  rw[Do e d i];exact c
 .rw[Cd e o X]
def pz.iQ{c:Nat}(h:w.ownsRow base 53 48 (.slice A ts.length c) ts.length (ts.flatMap λt=>t.g8.toList))(h0:0<ts.length):∃gb cur,A=some (Z gb 0)/\base<=gb/\pz w gb cur ts:=by
 obtain⟨g,cur,e,f,i,d⟩:=kS h h0;exact⟨g,cur,e,f,i,d⟩
def Md.BN(m:Md)(ts:List Tk)(h:ts.length=m.ts.length):{m with ts:=ts}.g8=m.g8:=by
 unfold Md.g8;rw[h]
def MW.row{w0 a b:World}{B g gr gx:Nat}{m:Md}(h:MW w0 B g gr gx m a)(c:Bk a gb 53 cs)(k:J [gb] a b)(f:w0.heap.size<=gb)(j:ts.length=m.ts.length)(n:Ts b m.tA ts)(i:∀t∈ts,ln a t):MW w0 B g gr gx {m with ts:=ts} b:=by
 have d:=h.i
 refine⟨h.r.gr k (zu (h.r.me c I)),by rw[Md.BN m ts j];exact h.x.gr k (zu (h.x.me c I)),?_,h.d.ib k (λo e=>by rw[R_]at e;rw[e];exact G_ h.hB f),
  h.g.hA k (λo e=>.inr (by rw[R_]at e;rw[e];exact f)),h.hB,h.b1,h.b2,h.ne⟩
 exact⟨Sl.ir d.l c I k,Sl.ir d.kH c I k,d.al,Sl.ir d.d c I k,d.dl,d.s.ir c I k,n,λt h=>(i t h).ir c I k⟩
def Dk(t:Tk):∀u∈t.g8.toList,u.oneCell'=true:=λu c=>by
 have h:=Tk.one t;rw[Hy]at h;exact h u (zu c)
def MW.append{w0 a b:World}{B g gr gx:Nat}{m:Md}(h:MW w0 B g gr gx m a)(k:App w0.heap.size 53 a b){c n:Nat}(o:ts.length=n)(p:Ts b A ts)(j:∀t∈ts,ln a t):
 MW w0 B g gr gx {m with tA:=A,tc:=c,ts:=ts} (b.setCell (Z gx 15) (.slice A n c)):=by
 subst o;have e:=k.bk h.x I;have d:J [gx] b (b.setCell (Z gx 15) (.slice A ts.length c)):=(H [gx] b).setCell (.inl s_) _;have f:=h.i;refine⟨(k.bk h.r I).gr d (zu h.ne),e.hN 15 _,?_,(h.d.app k h.hB).ib d (λr i=>by rw[R_]at i;rw[i];exact G_ h.hB h.b2),?_,h.hB,h.b1,h.b2,h.ne⟩
 .exact⟨Sl.ir (k.sl f.l I) e I d,Sl.ir (k.sl f.kH I) e I d,f.al,Sl.ir (k.sl f.d I) e I d,f.dl,(f.s.app k).ir e I d,Sl.ir p e I d,λt h=>((j t h).app k).ir e I d⟩
 .exact(k.gr [g] w0 (H_ _) h.g).hA d (λr i=>.inr (by rw[R_]at i;rw[i];exact h.b2))
