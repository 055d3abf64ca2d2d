import Derived.Test.YtenbhdilndfaeaaGreatM29
import Derived.Great.Walk
set_option maxRecDepth 100000
set_option maxHeartbeats 0
set_option linter.all false
namespace Go.Proofs.YtenbhdilndfaeaaGreat
open Go.RowKit Go.Proofs.Tryz
variable{l:List In}{hF hI:Int}{A:OA}{w w':World}{t:TypeId}{cs cur:Array Value}{base gb k:Nat}{ts:List Tk}
def A4(B g:Nat)(P:List Int)(w:World)(e:Ending)(w':World):Prop:=∃(A:OA) (d:Nat) (Q:List Int),e=.returned (.agg #[.slice A Q.length d])/\Ns w' 3 A Q/\Q.length<=d/\Q.Sublist P/\iQ w' B g/\Gr [g] w w'
theorem xl(l:List In)(hI hF:Int):(kF l hI hF).length<=2049:=by
 unfold kF;split
 .rename_i h
  have:=kl h
  simp;omega
 .simp
theorem uN(B g:Nat)(A:OA)(c:Nat)(l:List In)(hI hF:Int)(w:World)(h:Is w A l)(hn:l.length<=1000000000)(hd:iQ w B g)(hB:B<=w.heap.size):
 Calls prog 46 #[.pointer (some ⟨g,0,none⟩),.agg #[.slice A l.length c,i_ hI,i_ hF]] w (A4 B g (kF l hI hF) w):=by
 obtain⟨bF,bE,bt,a8,bo⟩:=info_parts infoInt;have bl:=hd.xa;have bV:=xl l hI hF;obtain⟨D,hR,I⟩:=qh w 26 #[.slice A l.length c,i_ hI,i_ hF] 32 #[n_];obtain⟨i,f⟩:=nm_ (A4 B g (kF l hI hF) w);rw[<-f];have ak:=h_ f;clear f
 go_enter func46,ntmps46
 go_upto_region 1 with fail
 obtain⟨W,aE⟩:=nm_ ((w.alloc (.cells #[.slice A l.length c,i_ hI,i_ hF] 26)).alloc (.cells #[n_] 32));rw[<-aE]at D hR I |-;clear aE;obtain⟨aI,h3⟩:=nm_ w.heap.size;obtain⟨G,au⟩:=nm_ (w.heap.size+1);rw[<-h3]at D;rw[<-au]at hR;rw[<-h3];have aK:aI+1=G:=o_;rw[aK];have aZ:w.heap.size<=aI:=o_;clear h3 au;have z0:=D.f_ 0;have aM:=D.f_ 1;have aV:=D.f_ 2;have N:=Is.hG h I;replace hd:=hd.hG I;have dR:=hR.lt
 go_upto_region 2 with(go_at_call 90;refine(y0 A c l hI hF W N hn).mono ?_;rintro e w2⟨AP,d,rfl,hP,ay,J⟩)
 obtain⟨m,aC⟩:=DO w2 32 #[.slice AP (kF l hI hF).length d];obtain⟨aJ,aq⟩:=nm_ w2.heap.size;have aX:G<aJ:=ov J.size;replace hR:=(hR.hG J).hG aC;replace hd:=(hd.hG J).hG aC;replace hP:=hP.hG aC;replace I:=(I.trans J).trans aC;obtain⟨P,aw⟩:=nm_ (kF l hI hF);rw[<-aw]at hP ay m hR hd I bV |-;have av:=h_ aw;obtain⟨ae,V⟩:=nm_ (w2.alloc (.cells #[.slice AP P.length d] 32));rw[<-V]at hP m hR hd I |-;rw[<-aq]at m |-;clear V aq aC aw z0 aM aV N D J;obtain⟨n,hn0⟩:=nm_ P.length;have aW:=h_ hn0;rw[<-hn0]at ay m bV |-;clear hn0
 go_wp2_with fail
 go_at_call 19
 refine(iw B g 3 _ hd o_ o_).mono ?_;rintro e T⟨r,rfl,bD,bJ,cF,Z⟩;replace hR:=hR.gr Z p_;replace m:=m.gr Z p_;obtain⟨dz,O⟩:=hd.bk;replace hP:=Sl.iu hP O d_ Z;have t:=(I.mono s_).trans Z;have eH:=m.lt;clear hd O I Z
 by_cases hr:r=0
 .have eA:(r==0)=true:=by simp[hr]
  clear hr;have aQ:=m.f_ 0;have br:=hR.hH 0;have bW:=hR.f_ 0;go_wp2;have a6:=hR.hW 0 (.slice AP n d);have a:=(F_ [G] T).setCell (p:=⟨G,0,none⟩) (.inl s_) (.slice AP n d);refine EX (FP rfl _ _ _ _ _ _ _ rfl a6 underlying32 rfl k_) rfl ?_;rw[ak.out];refine⟨AP,d,P,by rw[aW.out];rfl,?_,by rw[<-aW.out];exact ay,by rw[av.out];exact List.Sublist.refl _,cF.ih a p_,t.hK a p_⟩;exact Sl.iu hP hR d_ a
 .have eA:(r==0)=false:=by simp[hr]
  clear hr;have aQ:=m.f_ 0
  go_upto_region 5 with fail
  obtain⟨U,aC⟩:=DO T 32 #[n_];obtain⟨S,aU⟩:=nm_ T.heap.size;have aG:aJ<S:=o_;replace hR:=hR.hG aC;replace m:=m.hG aC;replace cF:=cF.hG aC;replace hP:=hP.hG aC;replace t:=t.trans (aC.mono s_);obtain⟨Y,bU⟩:=nm_ (T.alloc (.cells #[n_] 32));rw[<-bU,<-aU]at U;rw[<-bU]at hP m hR cF t |-;rw[<-aU];clear bU aU aC aQ;have aQ:=m.f_ 0
  go_upto_region 6 with fail
  clear aQ;obtain⟨E,ct⟩:=nm_ Y.heap.size
  have aY:S<E:=by rw[ct];exact U.lt
  have aT:w.heap.size<=E:=o_;have aN:E<=Y.heap.size:=o_
  have aL:∀x off,AP=some ⟨x,off,none⟩->0<P.length->x<E:=λx off hA hn=>by
   have h1:=hP;rw[hA]at h1;rw[ct];exact h1.lt hn
  clear ct
  go_loopw [18] (λap w'=>∃(k:Nat) (F:OA) (fc:Nat) (vs:List Int),k<=n/\ap=i_ k/\vs.Sublist (P.take k)/\Bk w' G 32 #[n_]/\Bk w' S 32 #[.slice F vs.length fc]/\w'.ownsRow E 3 1 (.slice F vs.length fc) vs.length (vs.map (Value.int .i64))/\Ns w' 3 AP P/\iQ w' B g/\Gr [g] w w'/\E<=w'.heap.size/\vs.length<=k) (λap _=>n-(intOf ap).toNat)
  case atStart=>exact⟨0,none,0,[],O_ _,gn,s_,hR,U,iV _ _ _ _,hP,cF,t,aN,H_ _⟩
  case round=>
   obtain⟨k,F,fc,vs,hk,rfl,L,H,af,aF,ao,ah,aj,K,cH⟩:=hrel;obtain⟨j,hj⟩:=nm_ vs.length;have R:=h_ hj;rw[<-hj]at af aF cH;clear hj hR U hP cF t
   by_cases ag:k<n
   .obtain⟨b,off,hA,hc⟩:=ao.at_ (k:=k) (ov aW.out);subst hA;have aS:k<P.length:=ov aW.out;have ad:=hc
    go_wp2_with fail
    go_at_call 19
    refine(iw B g 2 _ ah o_ o_).mono ?_;rintro e ax⟨q,rfl,hq0,hq1,cI,aB⟩;obtain⟨dz,O⟩:=ah.bk;have X:=H.gr aB p_;have U:=af.gr aB p_;have cr:=kH aF O d_ aB;have dm:Ns ax 3 (some ⟨b,off,none⟩) P:=Sl.iu ao O d_ aB;have c3:=aj.trans aB;have aP:=G_ K aB.size
    have aO:P.take (k+1)=P.take k++[P[k]]:=by rw[W_ aS]
    have bB:=h_ aO;have bG:=h_ L;clear aO L ad hc H af aF ao ah aj K O aB
    by_cases am:q=0
    .have dy:(q==0)=true:=by simp[am]
     clear am;obtain⟨v,aH⟩:=nm_ (P[k]);rw[<-aH]at bB |-;clear aH;have aQ:=U.f_ 0;have aR:=U.alloc (.cells #[i_ v] 3);have z:=iK cr ((F_ [] ax).alloc (.cells #[i_ v] 3));have Q:Sl (ax.alloc (.cells #[i_ v] 3)) 3 1 (some ⟨ax.heap.size,0,none⟩) 1 [i_ v]:=jj (n:=1) (s:=1) (P_ ax 3 #[i_ v]) rfl
     go_wp2_with (at_builtin;refine j4 rfl _ _ _ rfl E 3 bF _ 1 8 underlying30 bE bt a8 bo rfl d_ d_ F j fc (vs.map (Value.int .i64)) rfl z _ 1 1 [i_ v] rfl Q (by intro u hu;simp at hu;subst hu;rfl) o_ p_ ?_;intro C b8 aD b6 bC bw;have y:=App.iX z bC;have az:=y.bk aR d_;have bj:=az.f_ 0;have bH:=az.hH 0)
     go_roundw
     case rel=>
      have a:=(F_ [S] aD).setCell (p:=⟨S,0,none⟩) (.inl s_) (.slice C (j+1) b8);have ai:=R.out;have ar:=y.bk (X.alloc (.cells #[i_ v] 3)) d_;refine⟨k+1,C,b8,vs++[v],o_,gn,by rw[bB.out];exact bG.out.append (List.Sublist.refl _),ar.gr a p_,?_,?_,?_,?_,?_,?_,p_⟩
      .have:=az.hW 0 (.slice C (j+1) b8)
       have hl:(vs++[v]).length=j+1:=by rw[J_,<-ai];rfl
       rw[hl];exact this
      .have:=kH b6 az d_ a
       have hl:(vs++[v]).length=j+1:=by rw[J_,<-ai];rfl
       rw[hl,EL];exact this
      .have M:Sl (ax.alloc (.cells #[i_ v] 3)) 3 1 (some ⟨b,off,none⟩) P.length (P.map (Value.int .i64)):=Sl.alloc dm _;refine Sl.iu (M.rI λhn x o hA hx=>bC.block x hx (λhe=>?_)) az d_ a;have h1:=(ku z (he.symm)).1;have h2:=aL x o hA hn;omega
      .exact((cI.hG ((F_ [] ax).alloc _)).app y o_).ih a p_
      .exact(y.gr [g] w aT (c3.alloc _)).setCell (.inr p_) _
      .have h1:=y.size;have h2:=a.size;simp at h1;omega
     case measure=>exact mz
    .have dy:(q==0)=false:=by simp[am]
     clear am;go_wp2;go_roundw
     case rel=>
      have ai:=R.out;subst ai;exact⟨k+1,F,fc,vs,o_,gn,by rw[bB.out];exact bG.out.trans (List.sublist_append_left _ _),X,U,cr,dm,cI,c3,aP,o_⟩
     case measure=>exact mz
   .have bS:k=n:=o_;have aQ:=af.f_ 0;have br:=H.hH 0;have bW:=H.f_ 0;have bG:=h_ L;clear L;go_wp2;have a6:=H.hW 0 (.slice F j fc);have a:=(F_ [G] wr).setCell (p:=⟨G,0,none⟩) (.inl s_) (.slice F j fc);refine EX (FP rfl _ _ _ _ _ _ _ rfl a6 underlying32 rfl k_) rfl ?_;rw[ak.out];refine⟨F,fc,vs,by rw[R.out];rfl,?_,by rw[<-R.out];exact jf aF,by rw[<-av.out];exact bG.out.trans (List.take_sublist _ _),ah.ih a p_,aj.hK a p_⟩
    have:=Sl.iT aF
    rw[R.out]at this;exact Sl.iu this H d_ a
theorem rm.iu{m:Md}{x:Nat}(h:rm w m)(hk:Bk w x t cs)(ao:189≠t/\2≠t/\3≠t/\56≠t/\38≠t/\162≠t/\116≠t/\124≠t)(cH:53≠t∨m.ts=[])(hg:Gr [x] w w'):rm w' m:=by
 obtain⟨n1,n2,n3,n4,n5,eB,n7,cY⟩:=ao;refine⟨Sl.iu h.l hk n1 hg,Sl.iu h.k2 hk n2 hg,h.al,Sl.iu h.d hk n3 hg,h.dl,h.s.iu hk ⟨n4,n5,eB⟩ hg,⟨?_,λt ht=>(h.ts.xH t ht).iu hk ⟨n7,n4,n5,cY,eB⟩ hg⟩⟩
 rcases cH with cH|cH
 .exact Sl.iu h.ts.row hk cH hg
 .rw[cH];exact Fm _ _ _ _
def Ec:Array Value:=#[n_,i_ 0,i_ 0,n_,n_,n_,i_ 0,i_ 0,n_,.bool false,.bool false,.bool false,i_ 0,i_ 0,i_ 0,n_,i_ 0]
structure MW(w0:World)(B g gr gx:Nat)(m:Md)(w:World):Prop where
 r:Bk w gr 43 Ec
 x:Bk w gx 43 m.g_
 i:rm w m
 d:iQ w B g
 g:Gr [g] w0 w
 hB:B<=w0.heap.size
 b1:w0.heap.size<=gr
 b2:w0.heap.size<=gx
 ne:gr≠gx
section
variable{w0 a b:World}{B g gr gx:Nat}{m m':Md}
theorem MW.hG(h:MW w0 B g gr gx m a)(k:Gr [] a b):MW w0 B g gr gx m b:=
 ⟨h.r.hG k,h.x.hG k,h.i.hG k,h.d.hG k,h.g.trans (k.of_nil [g]),h.hB,h.b1,h.b2,h.ne⟩
theorem MW.ih(h:MW w0 B g gr gx m a):g≠gr/\g≠gx:=by
 have h1:=h.d.xa;have h2:=h.hB;have h3:=h.b1;have au:=h.b2;omega
theorem MW.dice(h:MW w0 B g gr gx m a)(k:Gr [g] a b)(hd:iQ b B g):MW w0 B g gr gx m b:=by
 obtain⟨cs,hk⟩:=h.d.bk;obtain⟨n1,n2⟩:=h.ih;exact⟨h.r.gr k (zu n1.symm),h.x.gr k (zu n2.symm),h.i.iu hk d_ (.inl d_) k,hd,h.g.trans k,h.hB,h.b1,h.b2,h.ne⟩
theorem MW.one(h:MW w0 B g gr gx m a){x:Nat}(hk:Bk a x t cs)(ao:189≠t/\2≠t/\3≠t/\56≠t/\38≠t/\162≠t/\116≠t/\124≠t)(cH:53≠t∨m.ts=[])(c:t≠43)(hx:w0.heap.size<=x)(k:Gr [x] a b):MW w0 B g gr gx m b:=
 ⟨h.r.gr k (zu (h.r.lZ hk c.symm)),h.x.gr k (zu (h.x.lZ hk c.symm)),h.i.iu hk ao cH k,h.d.ih k (λy hy=>by rw[I_]at hy;rw[hy];exact G_ h.hB hx),
   h.g.hK k (λy hy=>.inr (by rw[I_]at hy;rw[hy];exact hx)),h.hB,h.b1,h.b2,h.ne⟩
theorem MW.set(h:MW w0 B g gr gx m a)(k:Gr [gx] a b)(hx:Bk b gx 43 m'.g_)(hi:rm b m->rm b m'):MW w0 B g gr gx m' b:=
 ⟨h.r.gr k (zu h.ne),hx,hi (h.i.iu h.x d_ (.inl d_) k),h.d.ih k (λy hy=>by rw[I_]at hy;rw[hy];exact G_ h.hB h.b2),
   h.g.hK k (λy hy=>.inr (by rw[I_]at hy;rw[hy];exact h.b2)),h.hB,h.b1,h.b2,h.ne⟩
theorem MW.fin(h:MW w0 B g gr gx m a)(k:Gr [gr] a b):rm b m/\iQ b B g/\Gr [g] w0 b:=
 ⟨h.i.iu h.r d_ (.inl d_) k,h.d.ih k (λy hy=>by rw[I_]at hy;rw[hy];exact G_ h.hB h.b1),
   h.g.hK k (λy hy=>.inr (by rw[I_]at hy;rw[hy];exact h.b1))⟩
end
structure MQ(w0:World)(gq:Nat)(sA:OA)(fl:List Fo)(sc:Nat)(w:World):Prop where
 q:Bk w gq 96 #[.slice sA fl.length sc]
 f:Fs w sA fl
 b:w0.heap.size<=gq
section
variable{w0 a b:World}{gq:Nat}{sA:OA}{fl:List Fo}{sc:Nat}
theorem MQ.hG(h:MQ w0 gq sA fl sc a)(k:Gr [] a b):MQ w0 gq sA fl sc b:=⟨h.q.hG k,h.f.hG k,h.b⟩
theorem MQ.one(h:MQ w0 gq sA fl sc a){x:Nat}(hk:Bk a x t cs)(h1:168≠t)(h2:96≠t)(k:Gr [x] a b):MQ w0 gq sA fl sc b:=
 ⟨h.q.gr k (zu (h.q.lZ hk h2)),Sl.iu h.f hk h1 k,h.b⟩
end
structure Cc(k:Nat)(fl:List Fo):Prop where
 len:fl.length<=k
 n:∀f∈fl,1<=f.n/\f.n<=3
 dst:∀f∈fl, -1<=f.dst/\f.dst<=3000
theorem Cc.mono{cW:Nat}{fl:List Fo}(h:Cc k fl)(hk:k<=cW):Cc cW fl:=⟨G_ h.len hk,h.n,h.dst⟩
theorem Cc.C2{fl:List Fo}(h:Cc k fl)(fr dst:Int)(h0: -1<=dst)(h1:dst<=3000):Cc (k+1) (li fl fr dst):=by
 have one:∀f∈([⟨fr,dst,1⟩]:List Fo),(1<=f.n/\f.n<=3)/\ -1<=f.dst/\f.dst<=3000:=λf hf=>by rw[I_.1 hf];exact⟨⟨E9 1,(by decide:(1:Int)<=3)⟩,h0,h1⟩
 unfold li;split
 .rename_i ay
  have ag:lq fl fr<fl.length:=by unfold o1 at ay;simp at ay;exact ay.1
  have e:fl.getD (lq fl fr) default=fl[lq fl fr]:=by simp[List.getD,M_ ag]
  have hm:=N_ ag;have hn:=h.n _ hm;have hd:=h.dst _ hm;rw[e]
  have ht:(1<=(lF fl[lq fl fr] dst).n/\(lF fl[lq fl fr] dst).n<=3)/\ -1<=(lF fl[lq fl fr] dst).dst/\(lF fl[lq fl fr] dst).dst<=3000:=by
   generalize fl[lq fl fr]=f at*;unfold lF;split
   .refine⟨?_,hd⟩
    show 1<=(if 3<f.n+1 then 3 else f.n+1)/\(if 3<f.n+1 then 3 else f.n+1)<=3
    split<;>omega
   .split
    .exact⟨⟨E9 1,(by decide:(1:Int)<=3)⟩,h0,h1⟩
    .exact⟨by show 1<=f.n-1/\f.n-1<=3;omega,hd⟩
  refine⟨by rw[ER];exact Nat.le_succ_of_le h.len,λf hf=>?_,λf hf=>?_⟩
  .rcases EU hf with hf|hf
   .exact h.n f hf
   .rw[hf];exact ht.1
  .rcases EU hf with hf|hf
   .exact h.dst f hf
   .rw[hf];exact ht.2
 .have hm:∀f∈fl.take (lq fl fr)++([⟨fr,dst,1⟩]++fl.drop (lq fl fr)),(1<=f.n/\f.n<=3)/\ -1<=f.dst/\f.dst<=3000:=by
   intro f hf
   rcases X_.1 hf with hf|hf
   .have:=Ff hf
    exact⟨h.n f this,h.dst f this⟩
   .rcases X_.1 hf with hf|hf
    .exact one f hf
    .have:=Gh hf
     exact⟨h.n f this,h.dst f this⟩
  refine⟨?_,λf hf=>(hm f hf).1,λf hf=>(hm f hf).2⟩
  have:=h.len
  simp only[J_,E1,FQ,Gw];omega
theorem wK{d:List Int}(hv:ic l hI hF=true)(h:d.Sublist (kF l hI hF)):(∀x∈d,0<=x/\x<=hF)/\d.Pairwise (· < ·):=by
 have hb:=kl hv
 have he:kF l hI hF=(List.range (hF.toNat+1)).map Int.ofNat:=by unfold kF;rw[T_ hv]
 rw[he]at h;refine⟨λx hx=>?_,?_⟩
 .obtain⟨k,hk,e⟩:=EM.1 (h.subset hx);have hk:=Fe.1 hk;rw[<-e]
  show 0<=(k:Int)/\(k:Int)<=hF
  omega
 .refine List.Pairwise.sublist h ?_;rw[List.pairwise_map]
  exact List.pairwise_lt_range.imp λ{a b} hab=>by show(a:Int)<(b:Int);omega
theorem tk{d:List Int}(hv:ic l hI hF=true)(h:d.Sublist (kF l hI hF)):qK l hI hF d=true:=by
 obtain⟨h1,h2⟩:=wK hv h;unfold qK;rw[hv,Bool.and_true]
 have:iY (bad d hF) (List.range d.length)=false:=by
  unfold iY;rw[List.any_eq_false];intro k hk;have hk:=Fe.1 hk
  have e:d.getD k 0=d[k]:=by simp[List.getD,M_ hk]
  have hr:=h1 _ (N_ hk);unfold bad;rw[e]
  by_cases h0:0<k
  .have bV:k-1<d.length:=o_
   have aJ:d.getD (k-1) 0=d[k-1]:=by simp[List.getD,M_ bV]
   have hp:=List.pairwise_iff_getElem.1 h2 (k-1) k bV hk o_;rw[aJ];simp;omega
  .simp;omega
 rw[this]
 rfl
theorem un{d:List Int}(hv:ic l hI hF=true)(h:d.Sublist (kF l hI hF)):d.length<=2049:=by
 have hb:=kl hv;have h1:=h.length_le
 have he:kF l hI hF=(List.range (hF.toNat+1)).map Int.ofNat:=by unfold kF;rw[T_ hv]
 rw[he,E5,Ge]at h1;omega
theorem Md.code(m:Md):∀j,j<3->m.g_[0+j]?=(#[.slice m.A m.l.length m.c,i_ m.hI,i_ m.hF]:Array Value)[j]?:=λj hj=>by
 match j,hj with
 |0,_=>rfl
 |1,_=>rfl
 |2,_=>rfl
theorem Md.world(m:Md):∀j,j<1->m.g_[3+j]?=(#[.slice m.aA m.k2.length m.ac]:Array Value)[j]?:=λj hj=>by
 match j,hj with
 |0,_=>rfl
theorem Md.div(m:Md):∀j,j<1->m.g_[4+j]?=(#[.slice m.dA m.d.length m.dc]:Array Value)[j]?:=λj hj=>by
 match j,hj with
 |0,_=>rfl
theorem Md.heap(m:Md):∀j,j<1->m.g_[5+j]?=(#[.slice m.s.h.A m.s.h.l.length m.s.h.c]:Array Value)[j]?:=λj hj=>by
 match j,hj with
 |0,_=>rfl
theorem Md.com(m:Md):∀j,j<10->m.g_[5+j]?=m.s.g_[j]?:=λj hj=>by
 match j,hj with
 |0,_=>rfl
 |1,_=>rfl
 |2,_=>rfl
 |3,_=>rfl
 |4,_=>rfl
 |5,_=>rfl
 |6,_=>rfl
 |7,_=>rfl
 |8,_=>rfl
 |9,_=>rfl
theorem Md.one(m:Md):m.g_.all (·.oneCell')=true:=by unfold Md.g_;simp[Value.oneCell']
theorem v6(cs:Array Value)(a:Value)(x y z:Value)(hc:cs=#[x,y,z])(w:World):(Instr.build 43 #[(0,.agg cs),(1,.agg #[a])]).run prog w=.ok (.agg #[x,y,z,a,n_,n_,i_ 0,i_ 0,n_,.bool false,.bool false,.bool false,i_ 0,i_ 0,i_ 0,n_,i_ 0]) w:=by
 subst hc
 kernel_rfl
theorem lb.app{t:Tk}(h:lb w t)(k:App base 53 w w'):lb w' t:=
 ⟨k.sl h.gs d_,k.sl h.rs d_,k.sl h.ws d_,k.sl h.nw d_,k.Cx d_ h.nr,k.sl h.ds d_,k.sl h.h7 d_,h.x0,h.kZ,h.u_,h.sY,h.rS,h.pE⟩
theorem lX.app{s:Cm}(h:lX w s)(k:App base 53 w w'):lX w' s:=
 ⟨⟨k.sl h.h.os d_,k.Cx d_ h.h.kZ,h.h.lW⟩,k.sl h.h7 d_,h.pE⟩
theorem Cv(cs:Array Value)(o:Nat)(vs:List Value)(h:o+vs.length<=cs.size)(j:Nat)(hj:j<vs.length):(uD cs o vs)[o+j]?=vs[j]?:=by
 unfold uD;simp only[G5];rw[FE p_,Fv p_];congr 1;simp;omega
theorem Bi(cs:Array Value)(o:Nat)(vs:List Value)(h:o+vs.length<=cs.size)(i:Nat)(hi:i<o∨o+vs.length<=i):(uD cs o vs)[i]?=cs[i]?:=by
 unfold uD;simp only[G5]
 rcases hi with hi|hi
 .rw[Fv p_,Fk,T_ hi];simp
 .rw[FE p_,FE p_,GJ];simp only[E1,GF];rw[show o+vs.length+(i-min o cs.size-vs.length)=i by omega];simp
structure o3(w:World)(gb:Nat)(cur:Array Value)(ts:List Tk):Prop where
 bk:Bk w gb 53 cur
 row:∀(i:Nat) (u:Value),(ts.flatMap λt=>t.g_.toList)[i]?=some u->cur[i]?=some u
theorem o3.sl(h:o3 w gb cur ts):Ts w (j_ gb) ts:=
 ⟨kj _ 48 sG ts,λ_=>⟨gb,0,cur,_,rfl,h.bk,λj u hu=>by rw[U_];exact h.row j u hu⟩⟩
theorem o3.size(h:o3 w gb cur ts):ts.length*48<=cur.size:=by
 rcases EJ cur.size (ts.length*48)with hl|hl
 .have iM:(ts.flatMap λt=>t.g_.toList).length=ts.length*48:=kj _ 48 sG ts
  have:=h.row _ _ (M_ (by omega:cur.size<(ts.flatMap λt=>t.g_.toList).length))
  simp at this
 .exact hl
theorem o3.f_(h:o3 w gb cur ts)(hk:k<ts.length)(j:Nat)(hj:j<48):w.cell? (c_ gb (k*48+j))=(ts[k]).g_[j]?:=by
 have hg:=jh (λt:Tk=>t.g_.toList) 48 sG ts k j hk hj
 have hs:j<(ts[k]).g_.size:=by rw[Tk.size];exact hj
 have he:(ts[k]).g_.toList[j]?=some (ts[k]).g_[j]:=by simp[hs]
 rw[EH hs,h.bk.f_];exact h.row _ _ (hg.trans he)
theorem o3.at(h:o3 w gb cur ts)(hk:k<ts.length):∀j,j<(ts[k]).g_.size->cur[k*48+j]?=(ts[k]).g_[j]?:=by
 intro j hj;rw[Tk.size]at hj;rw[<-h.f_ hk j hj,h.bk.f_]
theorem o3.set(h:o3 w gb cur ts)(hk:k<ts.length)(t:Tk)(hb:Bk w' gb 53 (uD cur (k*48) t.g_.toList)):o3 w' gb (uD cur (k*48) t.g_.toList) (ts.set k t):=by
 have hz:=h.size;have hl:t.g_.toList.length=48:=rfl
 have s:k*48+t.g_.toList.length<=cur.size:=by rw[hl];omega
 refine⟨hb,qu (λt:Tk=>t.g_.toList) 48 sG d_ ts k hk t cur _ h.row (λj u hu=>?_) (λi hi=>?_)⟩
 .have hj:j<t.g_.toList.length:=by
   rcases EJ j t.g_.toList.length with h|h
   .exact h
   .rw[EW h]at hu
    cases hu
  rw[Cv _ _ _ s j hj];exact hu
 .rw[Bi _ _ _ s i o_]
theorem o3.iT{c:Nat}(h:w.ownsRow base 53 48 (.slice A ts.length c) ts.length (ts.flatMap λt=>t.g_.toList))(h0:0<ts.length):∃gb cur,A=some (c_ gb 0)/\base<=gb/\o3 w gb cur ts:=by
 obtain⟨g,cur,h1,h2,h3,au⟩:=kA h h0;exact⟨g,cur,h1,h2,h3,au⟩
theorem Md.AM(m:Md)(ts:List Tk)(h:ts.length=m.ts.length):{m with ts:=ts}.g_=m.g_:=by
 unfold Md.g_;rw[h]
theorem MW.row{w0 a b:World}{B g gr gx:Nat}{m:Md}(h:MW w0 B g gr gx m a)(hk:Bk a gb 53 cs)(k:Gr [gb] a b)(hb:w0.heap.size<=gb)(hl:ts.length=m.ts.length)(hr:Ts b m.tA ts)(ht:∀t∈ts,lb a t):MW w0 B g gr gx {m with ts:=ts} b:=by
 have hi:=h.i
 refine⟨h.r.gr k (zu (h.r.lZ hk d_)),by rw[Md.AM m ts hl];exact h.x.gr k (zu (h.x.lZ hk d_)),?_,h.d.ih k (λy hy=>by rw[I_]at hy;rw[hy];exact G_ h.hB hb),
  h.g.hK k (λy hy=>.inr (by rw[I_]at hy;rw[hy];exact hb)),h.hB,h.b1,h.b2,h.ne⟩
 exact⟨Sl.iu hi.l hk d_ k,Sl.iu hi.k2 hk d_ k,hi.al,Sl.iu hi.d hk d_ k,hi.dl,hi.s.iu hk d_ k,hr,λt h=>(ht t h).iu hk d_ k⟩
theorem Cr(t:Tk):∀u∈t.g_.toList,u.oneCell'=true:=λu hu=>by
 have h:=Tk.one t;rw[Gq]at h;exact h u (zu hu)
theorem MW.append{w0 a b:World}{B g gr gx:Nat}{m:Md}(h:MW w0 B g gr gx m a)(k:App w0.heap.size 53 a b){c n:Nat}(hn:ts.length=n)(hr:Ts b A ts)(ht:∀t∈ts,lb a t):
 MW w0 B g gr gx {m with tA:=A,tc:=c,ts:=ts} (b.setCell (c_ gx 15) (.slice A n c)):=by
 subst hn;have hx:=k.bk h.x d_;have bz:Gr [gx] b (b.setCell (c_ gx 15) (.slice A ts.length c)):=(F_ [gx] b).setCell (.inl s_) _;have hi:=h.i;refine⟨(k.bk h.r d_).gr bz (zu h.ne),hx.hW 15 _,?_,(h.d.app k h.hB).ih bz (λy hy=>by rw[I_]at hy;rw[hy];exact G_ h.hB h.b2),?_,h.hB,h.b1,h.b2,h.ne⟩
 .exact⟨Sl.iu (k.sl hi.l d_) hx d_ bz,Sl.iu (k.sl hi.k2 d_) hx d_ bz,hi.al,Sl.iu (k.sl hi.d d_) hx d_ bz,hi.dl,(hi.s.app k).iu hx d_ bz,Sl.iu hr hx d_ bz,λt h=>((ht t h).app k).iu hx d_ bz⟩
 .exact(k.gr [g] w0 (H_ _) h.g).hK bz (λy hy=>.inr (by rw[I_]at hy;rw[hy];exact h.b2))
end Go.Proofs.YtenbhdilndfaeaaGreat
