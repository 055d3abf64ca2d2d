import Derived.Test.YtenbhdilndfaeaaGreatM12
set_option maxRecDepth 100000
set_option maxHeartbeats 0
set_option linter.all false
namespace Go.Proofs.YtenbhdilndfaeaaGreat
open Go.RowKit Go.Proofs.Tryz
variable{G:Prop}{M:List Nat}{tr:TypeId}{V:List ByteArray}{i k:Nat}(p:Nat)
theorem Hl(h:G:=by
 obtain⟨W,aE⟩:=nm_ w1;rw[<-aE]at hd hm hR I |-;clear aE;have aC:Ex B g m R0 229 #[q_ g,i_ left,i_ loops,i_ fn] S_ W W:=⟨hd,hm,hR,F_ [g] W⟩;refine iN (Ex B g m R0 229 #[q_ g,i_ left,i_ loops,i_ fn] S_ W) (λ_ X=>∃t,Bk X R0 229 t.g_/\jK (jE (R0+1)) X t/\SG hV 1 1 t/\iQ X B g/\Gr [g,R0] W X) (Gr [g,R0]) [SU.val _ (.string v),SU.val _ (q_ m),SU.tree aH (1),SU.stmt aH (1) (1),SU.any _] (SU.any _) [[],[],[1],[0,2],[3]] true [(some 125,0),(some 126,1),(some 127,2),(some 128,3),(none,4)] k_ k_ (λ_ _ _ _ _ h=>h) k_ rfl rfl k_ aC ⟨?_,?_,?_,?_,?_,trivial⟩ ?_
 .exact J5
 .exact J5
 .refine hT [(some 126,1)] ?_;exact It
 .refine hT [(some 125,0),(some 127,2)] ?_;exact H8
 .refine ju [(some 128,3)] ?_;exact Iu
 exact JE):G:=h
theorem Hp(h:G:=by
 obtain⟨t,K,S,O,am,dY⟩:∃(t:ST) (K:Nat),Bk Y R7 229 t.g_/\jK (jE (R0+1)) Y t/\SG hV (4-p) K t/\(K:Int)+2*l<=2+2*left:=by
  refine⟨(ST.mk 5 n i4 0 0 (j_ x) 2 [jy 0,jy r] A c ts none 0 []),1+N,(by have:=aW.out;subst this;exact aY),jK.node _ _ _ _ _ _ _ _ (sK (jy 0) (jy r) a7) (H_ _) (λy off h=>by injection h with h;injection h with h;omega) ?_ (af.le o_) (lC.nil _ _ _ _),?_,by push_cast;omega⟩
  .intro u hu
   rcases L_.1 hu with rfl|hu
   .exact kk.leaf _ _ _ _ _ _
   .rcases L_.1 hu with rfl|hu
    .exact kk.leaf _ _ _ _ _ _
    .cases hu
  .have hD:4-p=(4-(p+1))+1:=o_;rw[hD];refine SG.loop (t:=(ST.mk 5 n i4 0 0 (j_ x) 2 [jy 0,jy r] A c ts none 0 [])) (.zP _ aK.out) rfl ?_ af.sg;intro u hu
   rcases L_.1 hu with rfl|hu
   .exact .num _ _ o_ o_
   .rcases L_.1 hu with rfl|hu
    .exact .num _ _ o_ o_
    .cases hu
 clear aY af a7;exact HC):G:=h
theorem Hq(h:G:=by
 go_upto_region 3 with fail
 clear ad;obtain⟨W,aE⟩:=nm_ w1;rw[<-aE]at hd hm hR I |-;clear aE;have aC:Ex B g m R0 229 #[q_ g,i_ left,i_ loops,i_ fn] S_ W W:=⟨hd,hm,hR,F_ [g] W⟩;refine iN (Ex B g m R0 229 #[q_ g,i_ left,i_ loops,i_ fn] S_ W) (λ_ X=>∃t,Bk X R0 229 t.g_/\jK (jE (R0+1)) X t/\SG hV 1 1 t/\iQ X B g/\Gr [g,R0] W X) (Gr [g,R0]) [SU.val _ (q_ m),SU.stmt aH (1) (1),SU.any _] (SU.any _) [[],[0],[1]] true [(some 26,0),(some 27,1),(none,2)] k_ k_ (λ_ _ _ _ _ h=>h) k_ rfl rfl k_ aC ⟨?_,?_,?_,trivial⟩ ?_
 .exact J5
 .exact Ij
 .exact Il
 intro vs bu C;simp only[b_];obtain⟨t,aw,O,am,aZ,G⟩:=C;go_wp2;exact rr_ t.g_ aw underlying229 ⟨t,1,left,rfl,O.le o_,lR.mono am o_,hl0,E9 _,o_,hm.gr G p_,aZ,(I.hK G p_).mono s_⟩):G:=h
theorem HC(h:G:=by
 obtain⟨ax,cn⟩:=nm_ Y;rw[<-cn]at S O bO ay bI bT |-;clear cn;have ar:=ay.f_ 2;have aV:=ay.hH 2;have cY:IntKind.i64.wrap (loops+1-1)=loops+1-1:=E2 _ o_
 go_upto_region 18 with fail
 clear ar aV cY;have Z:Gr [m] ax (ax.setCell (c_ m 2) (i_ loops)):=(F_ [m] ax).setCell (.inl s_) _;replace ay:Bk (ax.setCell (c_ m 2) (i_ loops)) m 222 #[q_ g,i_ l,i_ loops,i_ fn]:=ay.hW 2 _;replace bO:=bO.ih Z p_;replace bI:=bI.gr Z p_;replace S:=S.gr Z p_;replace O:=O.ih Z p_;replace bT:Gr [g,m] w (ax.setCell (c_ m 2) (i_ loops)):=bT.trans (Z.mono s_);clear Z;obtain⟨aD,cG⟩:=nm_ (ax.setCell (c_ m 2) (i_ loops));rw[<-cG]at S O bO ay bI bT |-;clear cG
 go_wp2_with (first|(refine kT S underlying229 ?_)|(refine kQ (t.g_) bI (ST.one _) ?_;intro X aw G))
 exact rr_ t.g_ aw underlying229 ⟨t,K,l,rfl,(O.ih G s_).le o_,am,cu,d0,dY,ay.gr G p_,bO.ih G p_,bT.hK G p_⟩):G:=h
theorem HK(h:G:=by
 intro vs Q C J K H;obtain⟨o,ap,⟨Ac,cc,tc,cO,lc,ec,br,db,de,dE,cT⟩, -⟩:=J;replace o:_=_:=o;replace ap:_=_:=ap
 try simp only[b_,o,ap,ec]at H |-
 obtain⟨cX,er,ez,cC⟩:=cT;go_simp
 go_at_call 139
 refine(be (P+1) 1 cX loops _ (ov aR.out) o_ o_ C.d cC hBm o_ o_ hq0 (by push_cast;omega)).mono ?_;rintro e w1⟨A,c,ts,N,l,rfl,_,cg,cu,d0,bt,cx,bK,aT⟩;exact H.out _ _ (C.kR aT bK ⟨l,cu,E9 _,cx⟩ o_ eR aI) ⟨aT.mono s_,λhi⟨q,am,cA,cQ⟩=>⟨l,cu,ov (sj cQ cC),cx⟩⟩ ⟨Ac,cc,tc,cO,A,c,ts,N,l,ec,(br.iy aT p_),rfl,cg.le C.r.lt,cu,o_,o_,⟨l,cu,E9 _,cx⟩⟩):G:=h
theorem HS(h:G:=by
 intro vs Q C J K H;obtain⟨o,ap, -⟩:=J;replace o:_=_:=o;replace ap:_=_:=ap
 try simp only[b_,o,ap]at H |-
 obtain⟨cX,er,ez,cC⟩:=C.lf;go_simp
 go_at_call 139
 refine(be (P+1) 2 cX loops _ (ov aR.out) o_ o_ C.d cC hBm o_ o_ hq0 (by push_cast;omega)).mono ?_;rintro e w1⟨A,c,ts,N,l,rfl,_,cg,cu,d0,bt,cx,bK,aT⟩;exact H.out _ _ (C.kR aT bK ⟨l,cu,E9 _,cx⟩ o_ eR aI) ⟨aT.mono s_,λhi⟨q,am,cA,cQ⟩=>⟨l,cu,ov (sj cQ cC),cx⟩⟩ ⟨A,c,ts,N,l,rfl,cg.le C.r.lt,cu,o_,o_,⟨l,cu,E9 _,cx⟩⟩):G:=h
theorem H8(h:G:=by
 intro vs Q C J K H;obtain⟨o,⟨tb,ap,ak,d⟩, -⟩:=J;replace o:_=_:=o
 try simp only[b_,o,ap]at H |-
 go_simp
 go_at_call 142
 refine(kG (R0+1) _ _ _ C.r.lt ak).mono ?_;rintro e w1⟨A,rfl,O,hg1⟩;exact H.out _ _ (C.hG hg1) (hg1.mono s_) ⟨iZ _ A _,rfl,O,SG.leaf (.uU _ ay.out) rfl rfl (by intro u hu;rcases L_.1 hu with rfl|hu;exact d.mono o_;cases hu)⟩):G:=h
theorem Ic(h:G:=by
 intro vs Q C J K H;obtain⟨⟨ta,eu,bi,o,V,E,ea,eb,ed,dG⟩, -⟩:=J
 try simp only[b_,o]at H |-
 refine iW k_ ?_;refine ij 229 _ _ rfl R0 r_ ta.g_ r_ 229 _ C.r rfl k_ (ST.one _) ?_;intro X aw G;obtain⟨cX,c7,dh,dB⟩:=dG;exact H.out undef _ (λ_=>⟨ta,eu,cX,aw,V.ih G s_,E,c7,o_,o_,dB.gr G p_,C.d.ih G p_,(C.g.mono s_).trans (G.mono s_)⟩)):G:=h
theorem Ij(h:G:=by
 refine hT [(some 26,0)] ?_;intro vs Q C J K H;obtain⟨o, -⟩:=J;replace o:_=_:=o
 try simp only[b_,o]at H |-
 go_simp
 go_at_call 207
 refine(p5 B g m left loops fn _ C.d C.m hBm).mono ?_;exact JZ):G:=h
theorem Il(h:G:=by
 refine ju [(some 27,1)] ?_;exact Iu):G:=h
theorem It(h:G:=by
 intro vs Q C J K H;obtain⟨o, -⟩:=J;replace o:_=_:=o
 try simp only[b_,o]at H |-
 go_simp
 go_at_call 218
 refine(pk B g m left loops fn _ C.d C.m hBm).mono ?_;exact JZ):G:=h
theorem Ix(h:G:=by
 intro f vs Q hf C J K H;obtain⟨o, -⟩:=J;replace o:_=_:=o
 try simp only[b_,o]at H |-
 go_simp
 go_at_call 145
 refine(ka _ _).mono ?_;rintro e w1⟨rfl,hg1⟩;exact H.out _ _ (C.hG hg1) (hg1.mono s_) ⟨jA n,rfl,kk.leaf _ _ _ _ _ _,.var _ _ aK.out⟩):G:=h
theorem Iy(h:G:=by
 refine hT [(some 28,0),(some 33,5)] ?_;exact IL):G:=h
theorem IA(h:G:=by
 refine hT [(some 31,3)] ?_;exact II):G:=h
theorem ID(h:G:=by
 refine hT [] ?_;intro vs Q C J K H;clear J
 try simp only[b_]at H |-
 go_simp
 go_at_call 177
 refine(lM _).mono ?_;rintro e w1⟨rfl,rfl⟩;exact Ky):G:=h
theorem IJ(h:G:=by
 intro vs Q C J K H;obtain⟨⟨a8,o,cM,bn⟩, -⟩:=J
 try simp only[b_,o]at H |-
 go_simp
 go_at_call 144
 refine(j7 a8 _).mono ?_;rintro e w1⟨rfl,hg1⟩;exact H.out _ _ (C.hG hg1) (hg1.mono s_) ⟨a8,o_,o_,rfl⟩):G:=h
theorem IX(h:G:=by
 intro f vs Q hf C J K H;obtain⟨o, -⟩:=J;replace o:_=_:=o
 try simp only[b_,o]at H |-
 obtain⟨c6,j,bz,zs,fp,cK⟩:=id C;have U:=j.f_ 0;have z:=zs.f_ 6;exact LD):G:=h
theorem I1(h:G:=by
 intro vs Q C J K H;obtain⟨o, -⟩:=J;replace o:_=_:=o
 try simp only[b_,o]at H |-
 obtain⟨c6,j,bz,zs,ef,cK⟩:=id C;have U:=j.f_ 0;have aP:=zs.f_ 5;exact LD):G:=h
theorem I5(h:G:=by
 intro vs Q C J K H;obtain⟨o, -⟩:=J;replace o:_=_:=o
 try simp only[b_,o]at H |-
 have bQ:IntKind.i64.wrap (P+1)=P+1:=E2 _ o_;exact Lu):G:=h
theorem I8(h:G:=by
 intro vs bu C;simp only[b_];obtain⟨t,N,l,aw,O,am,c9,dD,cS,cC,aZ,G⟩:=C;go_wp2;exact rr_ t.g_ aw underlying229 ⟨t,N,l,rfl,O.le o_,am,c9,dD,cS,cC,aZ,(I.mono s_).hK G p_⟩):G:=h
theorem Jq(h:G:=by
 refine hT [(some 29,1)] ?_;exact JM):G:=h
theorem Jr(h:G:=by
 refine hT [(some 30,2)] ?_;exact JM):G:=h
theorem JG(h:G:=by
 intro vs Q C J K H;obtain⟨o, -⟩:=J;replace o:_=_:=o
 try simp only[b_,o]at H |-
 exact Lu):G:=h
theorem JH(h:G:=by
 intro vs Q C J K H;obtain⟨⟨bo,cr,o⟩, -⟩:=J
 try simp only[b_,o]at H |-
 go_simp;exact H.out _ _ C (F_ _ _) ⟨bo,cr,rfl⟩):G:=h
theorem JJ(h:G:=by
 intro f vs Q hf C J K H;exact Ke):G:=h
theorem JW(h:G:=by
 refine hT [] ?_;intro vs Q C J K H;clear J
 try simp only[b_]at H |-
 exact Lu):G:=h
theorem Lu(h:G:=by
 go_simp;exact H.out _ _ C (GL.jC (F_ [] _)) rfl):G:=h
theorem AV:∀k,k<5->∃s,s∈hV/\lY[k]?=some (.string s)
 |0,_=>⟨vE,by simp[hV],rfl⟩
 |1,_=>⟨uJ,by simp[hV],rfl⟩
 |2,_=>⟨u0,by simp[hV],rfl⟩
 |3,_=>⟨oZ,by simp[hV],rfl⟩
 |4,_=>⟨mR,by simp[hV],rfl⟩
theorem CQ:∀k,k<2->∃s,s∈hV/\(#[.string {data:=#[115]},.string {data:=#[97]}]:Array Value)[k]?=some (.string s)
 |0,_=>⟨u0,by simp[hV],rfl⟩
 |1,_=>⟨vE,by simp[hV],rfl⟩
theorem CS:∀k,k<4->∃r:Int,(r=1∨r=6∨r=9)/\(#[i_ 1,i_ 6,i_ 9,i_ 1]:Array Value)[k]?=some (i_ r)
 |0,_=>⟨1,s_,rfl⟩
 |1,_=>⟨6,s_,rfl⟩
 |2,_=>⟨9,s_,rfl⟩
 |3,_=>⟨1,s_,rfl⟩
theorem CP:∀k,k<2->∃r:Int,(r=7∨r=8)/\(#[i_ 8,i_ 7]:Array Value)[k]?=some (i_ r)
 |0,_=>⟨8,s_,rfl⟩
 |1,_=>⟨7,s_,rfl⟩
theorem p5(B g m:Nat)(left loops fn:Int)(w:World)(hd:iQ w B g)(hm:Bk w m 222 #[q_ g,i_ left,i_ loops,i_ fn])(hBm:B<=m):
 Calls prog 207 #[q_ m] w λe w'=>∃t,e=.returned (.agg t.g_)/\jK (jE w.heap.size) w' t/\SG hV 1 1 t/\iQ w' B g/\Gr [g] w w':=by
 have bl:=hd.xa;have ct:=hm.lt
 go_enter func207,ntmps207
 go_upto_region 1 with fail
 have a2:Gr [] w (w.alloc (.cells S_ 229)):=(F_ [] w).alloc _;replace hd:=hd.hG a2;replace hm:=hm.hG a2;have hR:=P_ w 229 S_;have I:Gr [g] w (w.alloc (.cells S_ 229)):=(F_ [g] w).alloc _;clear a2;obtain⟨bp,b5⟩:=nm_ (w.alloc (.cells S_ 229));rw[<-b5]at hd hm hR I |-;clear b5;obtain⟨R0,cw⟩:=nm_ w.heap.size;rw[<-cw]at hR |-;have dt:w.heap.size<=R0:=o_;have cU:g<R0:=o_;have aF:B<=R0:=o_;have cW:m<R0:=ov ct;clear cw;have aH:∀y∈[g,R0],y<R0+1:=p_;have ag:m≠g:=o_;have aI:R0≠g:=o_;obtain⟨W,aE⟩:=nm_ bp;rw[<-aE]at hd hm hR I |-;clear aE;have aC:Ex B g m R0 229 #[q_ g,i_ left,i_ loops,i_ fn] S_ W W.drew:=⟨hd.hG (F_ [] W).drew,hm.hG (F_ [] W).drew,hR.hG (F_ [] W).drew,(F_ [g] W).drew⟩;refine ke (Ex B g m R0 229 #[q_ g,i_ left,i_ loops,i_ fn] S_ W) (λ_ _=>True) (Gr [g,R0]) [SU.AO aH 9 lY 5,SU.val _ (q_ m),SU.val _ (q_ m),SU.val _ (q_ m),SU.val _ (q_ g),SU.AO aH 9 lY 5,SU.val _ (i_ 5),SU.num _ 0 5,SU.elem aH 9 lY 5,SU.pure _ (λv=>∃s,s∈hV/\v=.string s),SU.pure _ (λv=>∃s,s∈hV/\v=.string s)] (SU.any _) [[],[],[1],[2],[3],[],[5],[4,6],[0,7],[8],[9]] false [(some 4,0),(some 5,1),(some 6,2),(some 7,3),(some 8,4),(some 9,5),(some 10,6),(some 11,7),(some 12,8),(some 13,9),(some 3,10)] k_ k_ k_ (λ_ _ _ _ _ h=>h) k_ rfl rfl k_ aC ⟨?_,?_,?_,?_,?_,?_,?_,?_,?_,?_,?_,trivial⟩ ?_
 .exact ID
 .exact J5
 .refine hT [(some 5,1)] ?_;exact JM
 .refine hT [(some 6,2)] ?_;exact JM
 .refine hT [(some 7,3)] ?_;exact II
 .exact ID
 .refine hT [(some 9,5)] ?_;intro vs Q C J K H;obtain⟨⟨aX,o,bi,a6⟩, -⟩:=J
  try simp only[b_,o]at H |-
  exact LD
 .refine hT [(some 8,4),(some 10,6)] ?_;intro vs Q C J K H;obtain⟨o,ap, -⟩:=J;replace o:_=_:=o;replace ap:_=_:=ap
  try simp only[b_,o,ap]at H |-
  exact Jf
 .refine hT [(some 4,0),(some 11,7)] ?_;exact IL
 .refine hT [(some 12,8)] ?_;intro vs Q C J K H;obtain⟨⟨aX,E,o,bn,bi,a6⟩, -⟩:=J
  try simp only[b_,o]at H |-
  obtain⟨s,hs,bN⟩:=AV E o_;exact KX
 .refine hT [(some 13,9)] ?_;exact JH
 rintro vs bu⟨C,J⟩;obtain⟨⟨aQ,aS,F,cy⟩,aJ,aG,bQ,b4,⟨bP,bS,dB,ev⟩,dx,⟨p,dW,l,cJ⟩,⟨bI,dN,dX,cQ,N,b7⟩,⟨cF,ai,cS⟩,⟨a,f,e10⟩, -⟩:=J;replace aJ:vs 1=q_ m:=aJ;replace aG:vs 2=q_ m:=aG;replace bQ:vs 3=q_ m:=bQ;replace b4:vs 4=q_ g:=b4;replace dx:vs 6=i_ 5:=dx;simp only[b_,aS,aJ,aG,bQ,b4,bS,dx,dW,dX,cS,e10];clear aS aJ aG bQ b4 bS dx dW dX cS e10;obtain⟨v,hv,co⟩:∃v,v∈hV/\v=a:=⟨a,f,rfl⟩;rw[<-co];have ay:=h_ hv;clear co hv;clear hd hm hR;obtain⟨hd,hm,hR,G⟩:=C;replace I:=I.trans G;clear G;have U:=hm.f_ 0
 go_upto_region 3 with(go_at_call 19;refine(iw B g 13 _ hd o_ o_).mono ?_;rintro e w1⟨k,rfl,b9,bV,bK,aT⟩)
 clear U;replace hm:=hm.gr aT p_;replace hR:=hR.gr aT p_;replace I:=I.trans aT;replace hd:=bK;clear aT
 rcases(by omega:(k=0∨k=1)∨(k=2)∨(k=3∨k=4)∨(k=5∨k=6)∨(k=7)∨(k=8)∨(k=9)∨(k=10)∨(k=11)∨(k=12))with b9|bV|aj|b0|aM|dS|bJ|e0|ep|dg
 .rcases b9 with rfl|rfl
  all_goals
   go_upto_region 5 with fail
   obtain⟨W,aE⟩:=nm_ w1;rw[<-aE]at hd hm hR I |-;clear aE;have aC:Ex B g m R0 229 #[q_ g,i_ left,i_ loops,i_ fn] S_ W W:=⟨hd,hm,hR,F_ [g] W⟩;refine iN (Ex B g m R0 229 #[q_ g,i_ left,i_ loops,i_ fn] S_ W) (λ_ X=>∃t,Bk X R0 229 t.g_/\jK (jE (R0+1)) X t/\SG hV 1 1 t/\iQ X B g/\Gr [g,R0] W X) (Gr [g,R0]) [SU.val _ (.string v),SU.val _ (q_ m),SU.tree aH (2),SU.stmt aH (1) (1),SU.any _] (SU.any _) [[],[],[1],[0,2],[3]] true [(some 22,0),(some 23,1),(some 24,2),(some 25,3),(none,4)] k_ k_ (λ_ _ _ _ _ h=>h) k_ rfl rfl k_ aC ⟨?_,?_,?_,?_,?_,trivial⟩ ?_
   .exact J5
   .exact J5
   .refine hT [(some 23,1)] ?_;intro vs Q C J K H;obtain⟨o, -⟩:=J;replace o:_=_:=o
    try simp only[b_,o]at H |-
    go_simp
    go_at_call 140
    refine(kC B g m left loops fn 2 o_ _ rfl _ C.d C.m hBm).mono ?_;exact JZ
   .refine hT [(some 22,0),(some 24,2)] ?_;exact H8
   .refine ju [(some 25,3)] ?_;exact Iu
   intro vs bu C;simp only[b_];obtain⟨t,aw,O,am,aZ,G⟩:=C;go_wp2;exact rr_ t.g_ aw underlying229 ⟨t,rfl,O.le o_,am,aZ,I.hK G p_⟩
 .subst bV
  go_upto_region 7 with fail
  obtain⟨W,aE⟩:=nm_ w1;rw[<-aE]at hd hm hR I |-;clear aE;have aC:Ex B g m R0 229 #[q_ g,i_ left,i_ loops,i_ fn] S_ W W.drew:=⟨hd.hG (F_ [] W).drew,hm.hG (F_ [] W).drew,hR.hG (F_ [] W).drew,(F_ [g] W).drew⟩;refine ke (Ex B g m R0 229 #[q_ g,i_ left,i_ loops,i_ fn] S_ W) (λ_ X=>∃t,Bk X R0 229 t.g_/\jK (jE (R0+1)) X t/\SG hV 1 1 t/\iQ X B g/\Gr [g,R0] W X) (Gr [g,R0]) [SU.AO aH 9 #[.string {data:=#[112]},.string {data:=#[113]}] 2,SU.val _ (q_ m),SU.val _ (q_ m),SU.val _ (q_ m),SU.val _ (q_ g),SU.num _ 0 2,SU.elem aH 9 #[.string {data:=#[112]},.string {data:=#[113]}] 2,SU.pure _ (λv=>∃s,s∈hV/\v=.string s),SU.val _ (q_ m),SU.val _ (q_ m),SU.val _ (q_ m),SU.val _ (q_ g),SU.num _ 0 2,SU.pure _ (λv=>∃r:Int,v=i_ r/\2<=r/\r<=3),SU.tree aH (0),SU.stmt aH (1) (1),SU.any _] (SU.any _) [[],[],[1],[2],[3],[4],[0,5],[6],[],[8],[9],[10],[11],[12],[13],[7,14],[15]] true [(some 28,0),(some 29,1),(some 30,2),(some 31,3),(some 32,4),(some 33,5),(some 34,6),(some 35,7),(some 36,8),(some 37,9),(some 38,10),(some 39,11),(some 40,12),(some 41,13),(some 42,14),(some 43,15),(none,16)] k_ k_ k_ (λ_ _ _ _ _ h=>h) k_ rfl rfl k_ aC ⟨?_,?_,?_,?_,?_,?_,?_,?_,?_,?_,?_,?_,?_,?_,?_,?_,?_,trivial⟩ ?_
  .exact Je
  .exact J5
  .exact Jq
  .exact Jr
  .exact IA
  .refine hT [(some 32,4)] ?_;exact Iz
  .exact Iy
  .refine hT [(some 34,6)] ?_;exact IZ
  .exact J5
  .refine hT [(some 36,8)] ?_;exact JM
  .refine hT [(some 37,9)] ?_;exact JM
  .refine hT [(some 38,10)] ?_;exact II
  .refine hT [(some 39,11)] ?_;exact Iz
  .refine hT [(some 40,12)] ?_;intro vs Q C J K H;obtain⟨⟨a8,o,cM,bn⟩, -⟩:=J
   try simp only[b_,o]at H |-
   have bQ:IntKind.i64.wrap (2+a8)=2+a8:=E2 _ o_;go_simp;exact H.out _ _ C (F_ _ _) ⟨_,rfl,o_,o_⟩
  .refine hT [(some 41,13)] ?_;intro vs Q C J K H;obtain⟨⟨a8,o,cM,bn⟩, -⟩:=J
   try simp only[b_,o]at H |-
   go_simp;exact H.out (.agg (eNew a8).g_) _ C (F_ _ _) ⟨eNew a8,rfl,kk.leaf _ _ _ _ _ _,.new _ _ o_ o_⟩
  .refine hT [(some 35,7),(some 42,14)] ?_;intro vs Q C J K H;obtain⟨⟨bo,cr,o⟩,⟨tb,ap,ak,d⟩, -⟩:=J
   try simp only[b_,o,ap]at H |-
   go_simp
   go_at_call 142
   refine(kG (R0+1) _ _ _ C.r.lt ak).mono ?_;rintro e w1⟨A,rfl,O,hg1⟩;exact H.out _ _ (C.hG hg1) (hg1.mono s_) ⟨iZ _ A _,rfl,O,SG.leaf (.uU _ cr) rfl rfl (by intro u hu;rcases L_.1 hu with rfl|hu;exact d.mono o_;cases hu)⟩
  .refine ju [(some 43,15)] ?_;exact Iu
  exact JE
 .rcases aj with rfl|rfl
  all_goals
   go_upto_region 10 with fail
   obtain⟨W,aE⟩:=nm_ w1;rw[<-aE]at hd hm hR I |-;clear aE;have aC:Ex B g m R0 229 #[q_ g,i_ left,i_ loops,i_ fn] S_ W W:=⟨hd,hm,hR,F_ [g] W⟩;refine iN (Ex B g m R0 229 #[q_ g,i_ left,i_ loops,i_ fn] S_ W) (λ_ X=>∃t,Bk X R0 229 t.g_/\jK (jE (R0+1)) X t/\SG hV 1 1 t/\iQ X B g/\Gr [g,R0] W X) (Gr [g,R0]) [SU.val _ (q_ m),SU.val _ (q_ m),SU.val _ (q_ m),SU.val _ (q_ g),SU.num _ 0 3,SU.val _ (q_ m),SU.tree aH (1),SU.val _ (q_ m),SU.tree aH (1),SU.trees aH 2 2,SU.stmt aH (1) (1),SU.any _] (SU.any _) [[],[0],[1],[2],[3],[],[5],[],[7],[6,8],[4,9],[10]] true [(some 47,0),(some 48,1),(some 49,2),(some 50,3),(some 51,4),(some 52,5),(some 53,6),(some 54,7),(some 55,8),(some 56,9),(some 57,10),(none,11)] k_ k_ (λ_ _ _ _ _ h=>h) k_ rfl rfl k_ aC ⟨?_,?_,?_,?_,?_,?_,?_,?_,?_,?_,?_,?_,trivial⟩ ?_
   .exact J5
   .refine hT [(some 47,0)] ?_;exact JM
   .refine hT [(some 48,1)] ?_;exact JM
   .refine hT [(some 49,2)] ?_;exact II
   .refine hT [(some 50,3)] ?_;exact Iz
   .exact J5
   .refine hT [(some 52,5)] ?_;exact It
   .exact J5
   .refine hT [(some 54,7)] ?_;exact Ip
   .refine hT [(some 53,6),(some 55,8)] ?_;exact HI
   .refine hT [(some 51,4),(some 56,9)] ?_;intro vs Q C J K H;obtain⟨⟨a8,o,cM,bn⟩,⟨aN,tb,ap,nb,cD,bB,cR⟩, -⟩:=J
    try simp only[b_,o,ap]at H |-
    go_simp;have aD:tb.length=_:=nb
    have a7:Sl Q 226 5 (j_ aN) tb.length (tb.flatMap ET.E):=by rw[aD];exact bB
    have hcl:(lI 2 i4 i4 a8 0 (j_ aN) tb.length tb).g_=_:=rfl;simp only[ST.ip,lI,aD]at hcl;refine H.out _ _ C (F_ _ _) ⟨lI 2 i4 i4 a8 0 (j_ aN) tb.length tb,?_,jK.es _ _ _ _ _ a7 cD (λu hu=>(cR u hu).1),SG.leaf (t:=lI 2 i4 i4 a8 0 (j_ aN) tb.length tb) (by show mP _ 2 i4 i4 a8 0 tb.length _ _;rw[aD];exact .DJ _ o_ o_) rfl rfl (λu hu=>(cR u hu).2)⟩
    show Value.agg _=Value.agg (lI 2 i4 i4 a8 0 (j_ aN) tb.length tb).g_
    exact LM
   .refine ju [(some 57,10)] ?_;exact Iu
   intro vs bu C;simp only[b_];obtain⟨t,aw,O,am,aZ,G⟩:=C;go_wp2;exact rr_ t.g_ aw underlying229 ⟨t,rfl,O.le o_,am,aZ,I.hK G p_⟩
 .rcases b0 with rfl|rfl
  all_goals
   go_upto_region 13 with fail
   obtain⟨W,aE⟩:=nm_ w1;rw[<-aE]at hd hm hR I |-;clear aE;have aC:Ex B g m R0 229 #[q_ g,i_ left,i_ loops,i_ fn] S_ W W.drew:=⟨hd.hG (F_ [] W).drew,hm.hG (F_ [] W).drew,hR.hG (F_ [] W).drew,(F_ [g] W).drew⟩;refine ke (Ex B g m R0 229 #[q_ g,i_ left,i_ loops,i_ fn] S_ W) (λ_ X=>∃t,Bk X R0 229 t.g_/\jK (jE (R0+1)) X t/\SG hV 1 1 t/\iQ X B g/\Gr [g,R0] W X) (Gr [g,R0]) [SU.AO aH 9 #[.string {data:=#[115]},.string {data:=#[97]}] 2,SU.val _ (q_ m),SU.val _ (q_ m),SU.val _ (q_ m),SU.val _ (q_ g),SU.num _ 0 2,SU.elem aH 9 #[.string {data:=#[115]},.string {data:=#[97]}] 2,SU.pure _ (λv=>∃s,s∈hV/\v=.string s),SU.AO aH 3 #[i_ 1,i_ 6,i_ 9,i_ 1] 4,SU.val _ (q_ m),SU.val _ (q_ m),SU.val _ (q_ m),SU.val _ (q_ g),SU.num _ 0 4,SU.elem aH 3 #[i_ 1,i_ 6,i_ 9,i_ 1] 4,SU.pure _ (λv=>∃r:Int,(r=1∨r=6∨r=9)/\v=i_ r),SU.val _ (q_ m),SU.tree aH (1),SU.trees aH 2 1,SU.stmt aH (1) (1),SU.any _] (SU.any _) [[],[],[1],[2],[3],[4],[0,5],[6],[],[],[9],[10],[11],[12],[8,13],[14],[],[16],[17],[7,15,18],[19]] true [(some 61,0),(some 62,1),(some 63,2),(some 64,3),(some 65,4),(some 66,5),(some 67,6),(some 68,7),(some 69,8),(some 70,9),(some 71,10),(some 72,11),(some 73,12),(some 74,13),(some 75,14),(some 76,15),(some 77,16),(some 78,17),(some 79,18),(some 80,19),(none,20)] k_ k_ k_ (λ_ _ _ _ _ h=>h) k_ rfl rfl k_ aC ⟨?_,?_,?_,?_,?_,?_,?_,?_,?_,?_,?_,?_,?_,?_,?_,?_,?_,?_,?_,?_,?_,trivial⟩ ?_
   .exact Je
   .exact J5
   .refine hT [(some 62,1)] ?_;exact JM
   .refine hT [(some 63,2)] ?_;exact JM
   .refine hT [(some 64,3)] ?_;exact II
   .refine hT [(some 65,4)] ?_;exact Iz
   .refine hT [(some 61,0),(some 66,5)] ?_;exact IL
   .refine hT [(some 67,6)] ?_;intro vs Q C J K H;obtain⟨⟨aX,E,o,bn,bi,a6⟩, -⟩:=J
    try simp only[b_,o]at H |-
    obtain⟨s,hs,bN⟩:=CQ E o_;exact KX
   .exact Je
   .exact J5
   .refine hT [(some 70,9)] ?_;exact JM
   .refine hT [(some 71,10)] ?_;exact JM
   .refine hT [(some 72,11)] ?_;exact II
   .refine hT [(some 73,12)] ?_;exact Iz
   .refine hT [(some 69,8),(some 74,13)] ?_;exact IL
   .refine hT [(some 75,14)] ?_;intro vs Q C J K H;obtain⟨⟨aX,E,o,bn,bi,a6⟩, -⟩:=J
    try simp only[b_,o]at H |-
    obtain⟨s,hs,bN⟩:=CS E o_;exact KX
   .exact J5
   .refine hT [(some 77,16)] ?_;exact Ip
   .refine hT [(some 78,17)] ?_;exact H1
   .refine hT [(some 68,7),(some 76,15),(some 79,18)] ?_;intro vs Q C J K H;obtain⟨⟨bo,cr,o⟩,⟨rb,mb,ap⟩,⟨xc,tc,ec,i,lc,c,b⟩, -⟩:=J
    try simp only[b_,o,ap,ec]at H |-
    go_simp;have aD:tc.length=_:=i
    have a7:Sl Q 226 5 (j_ xc) tc.length (tc.flatMap ET.E):=by rw[aD];exact c
    have hcl:(lI 12 bo i4 0 rb (j_ xc) tc.length tc).g_=_:=rfl;simp only[ST.ip,lI,aD]at hcl;refine H.out _ _ C (F_ _ _) ⟨lI 12 bo i4 0 rb (j_ xc) tc.length tc,?_,jK.es _ _ _ _ _ a7 lc (λu hu=>(b u hu).1),SG.leaf (t:=lI 12 bo i4 0 rb (j_ xc) tc.length tc) (by show mP _ 12 bo i4 0 rb tc.length _ _;rw[aD];exact .red _ cr _ mb) rfl rfl (λu hu=>(b u hu).2)⟩
    show Value.agg _=Value.agg (lI 12 bo i4 0 rb (j_ xc) tc.length tc).g_
    exact LM
   .refine ju [(some 80,19)] ?_;exact Iu
   intro vs bu C;simp only[b_];obtain⟨t,aw,O,am,aZ,G⟩:=C;go_wp2;exact rr_ t.g_ aw underlying229 ⟨t,rfl,O.le o_,am,aZ,I.hK G p_⟩
 .subst aM
  go_upto_region 15 with fail
  obtain⟨W,aE⟩:=nm_ w1;rw[<-aE]at hd hm hR I |-;clear aE;have aC:Ex B g m R0 229 #[q_ g,i_ left,i_ loops,i_ fn] S_ W W:=⟨hd,hm,hR,F_ [g] W⟩;refine iN (Ex B g m R0 229 #[q_ g,i_ left,i_ loops,i_ fn] S_ W) (λ_ X=>∃t,Bk X R0 229 t.g_/\jK (jE (R0+1)) X t/\SG hV 1 1 t/\iQ X B g/\Gr [g,R0] W X) (Gr [g,R0]) [SU.val _ (q_ m),SU.tree aH (1),SU.trees aH 2 1,SU.stmt aH (1) (1),SU.any _] (SU.any _) [[],[0],[1],[2],[3]] true [(some 83,0),(some 84,1),(some 85,2),(some 86,3),(none,4)] k_ k_ (λ_ _ _ _ _ h=>h) k_ rfl rfl k_ aC ⟨?_,?_,?_,?_,?_,trivial⟩ ?_
  .exact J5
  .refine hT [(some 83,0)] ?_;exact Ip
  .refine hT [(some 84,1)] ?_;exact H1
  .refine hT [(some 85,2)] ?_;intro vs Q C J K H;obtain⟨⟨aX,ta,o,cH,bi,a6,c3⟩, -⟩:=J
   try simp only[b_,o]at H |-
   go_simp;have aD:ta.length=_:=cH
   have a7:Sl Q 226 5 (j_ aX) ta.length (ta.flatMap ET.E):=by rw[aD];exact a6
   have hcl:(lI 10 i4 i4 0 0 (j_ aX) ta.length ta).g_=_:=rfl;simp only[ST.ip,lI,aD]at hcl;refine H.out _ _ C (F_ _ _) ⟨lI 10 i4 i4 0 0 (j_ aX) ta.length ta,?_,jK.es _ _ _ _ _ a7 bi (λu hu=>(c3 u hu).1),SG.leaf (t:=lI 10 i4 i4 0 0 (j_ aX) ta.length ta) (by show mP _ 10 i4 i4 0 0 ta.length _ _;rw[aD];exact .DN) rfl rfl (λu hu=>(c3 u hu).2)⟩
   show Value.agg _=Value.agg (lI 10 i4 i4 0 0 (j_ aX) ta.length ta).g_
   exact LM
  .refine ju [(some 86,3)] ?_;exact Iu
  exact JE
 .subst dS
  go_upto_region 17 with fail
  obtain⟨W,aE⟩:=nm_ w1;rw[<-aE]at hd hm hR I |-;clear aE;have aC:Ex B g m R0 229 #[q_ g,i_ left,i_ loops,i_ fn] S_ W W:=⟨hd,hm,hR,F_ [g] W⟩;refine iN (Ex B g m R0 229 #[q_ g,i_ left,i_ loops,i_ fn] S_ W) (λ_ X=>∃t,Bk X R0 229 t.g_/\jK (jE (R0+1)) X t/\SG hV 1 1 t/\iQ X B g/\Gr [g,R0] W X) (Gr [g,R0]) [SU.val _ (.string v),SU.val _ (q_ m),SU.tree aH (1),SU.trees aH 2 1,SU.stmt aH (1) (1),SU.any _] (SU.any _) [[],[],[1],[2],[0,3],[4]] true [(some 89,0),(some 90,1),(some 91,2),(some 92,3),(some 93,4),(none,5)] k_ k_ (λ_ _ _ _ _ h=>h) k_ rfl rfl k_ aC ⟨?_,?_,?_,?_,?_,?_,trivial⟩ ?_
  .exact J5
  .exact J5
  .refine hT [(some 90,1)] ?_;exact Ip
  .refine hT [(some 91,2)] ?_;exact H1
  .refine hT [(some 89,0),(some 92,3)] ?_;intro vs Q C J K H;obtain⟨o,⟨aN,tb,ap,nb,cD,bB,cR⟩, -⟩:=J;replace o:_=_:=o
   try simp only[b_,o,ap]at H |-
   go_simp;have aD:tb.length=_:=nb
   have a7:Sl Q 226 5 (j_ aN) tb.length (tb.flatMap ET.E):=by rw[aD];exact bB
   have hcl:(lI 11 v i4 0 0 (j_ aN) tb.length tb).g_=_:=rfl;simp only[ST.ip,lI,aD]at hcl;refine H.out _ _ C (F_ _ _) ⟨lI 11 v i4 0 0 (j_ aN) tb.length tb,?_,jK.es _ _ _ _ _ a7 cD (λu hu=>(cR u hu).1),SG.leaf (t:=lI 11 v i4 0 0 (j_ aN) tb.length tb) (by show mP _ 11 v i4 0 0 tb.length _ _;rw[aD];exact .ask _ ay.out) rfl rfl (λu hu=>(cR u hu).2)⟩
   show Value.agg _=Value.agg (lI 11 v i4 0 0 (j_ aN) tb.length tb).g_
   exact LM
  .refine ju [(some 93,4)] ?_;exact Iu
  exact JE
 .subst bJ
  go_upto_region 19 with fail
  obtain⟨W,aE⟩:=nm_ w1;rw[<-aE]at hd hm hR I |-;clear aE;have aC:Ex B g m R0 229 #[q_ g,i_ left,i_ loops,i_ fn] S_ W W:=⟨hd,hm,hR,F_ [g] W⟩;refine iN (Ex B g m R0 229 #[q_ g,i_ left,i_ loops,i_ fn] S_ W) (λ_ X=>∃t,Bk X R0 229 t.g_/\jK (jE (R0+1)) X t/\SG hV 1 1 t/\iQ X B g/\Gr [g,R0] W X) (Gr [g,R0]) [SU.tree aH (0),SU.val _ (q_ m),SU.tree aH (1),SU.tree aH (1+1),SU.stmt aH (1) (1),SU.any _] (SU.any _) [[],[],[1],[0,2],[3],[4]] true [(some 96,0),(some 97,1),(some 98,2),(some 99,3),(some 100,4),(none,5)] k_ k_ (λ_ _ _ _ _ h=>h) k_ rfl rfl k_ aC ⟨?_,?_,?_,?_,?_,?_,trivial⟩ ?_
  .refine hT [] ?_;intro vs Q C J K H;clear J
   try simp only[b_]at H |-
   go_simp
   go_at_call 145
   refine(ka _ _).mono ?_;rintro e w1⟨rfl,hg1⟩;exact H.out _ _ (C.hG hg1) (hg1.mono s_) ⟨jA u0,rfl,kk.leaf _ _ _ _ _ _,.var _ _ (by simp[hV])⟩
  .exact J5
  .refine hT [(some 97,1)] ?_;exact Ip
  .refine hT [(some 96,0),(some 98,2)] ?_;intro vs Q C J K H;obtain⟨⟨ta,o,V,E⟩,⟨tb,ap,ak,d⟩, -⟩:=J
   try simp only[b_,o,ap]at H |-
   go_simp
   go_at_call 143
   refine(ot (R0+1) 1 ta tb _ C.r.lt V ak).mono ?_;rintro e w1⟨A,rfl,O,hg1⟩;exact H.out _ _ (C.hG hg1) (hg1.mono s_) ⟨pR 1 A ta tb,rfl,O,.bin 1 _ _ _ _ o_ o_ (E.mono o_) (d.mono o_)⟩
  .refine hT [(some 99,3)] ?_;intro vs Q C J K H;obtain⟨⟨ta,o,V,E⟩, -⟩:=J
   try simp only[b_,o]at H |-
   go_simp
   go_at_call 142
   refine(kG (R0+1) _ _ _ C.r.lt V).mono ?_;rintro e w1⟨A,rfl,O,hg1⟩;exact H.out _ _ (C.hG hg1) (hg1.mono s_) ⟨iZ _ A _,rfl,O,SG.leaf (.uU _ (show u0∈hV by simp[hV])) rfl rfl (by intro u hu;rcases L_.1 hu with rfl|hu;exact E.mono o_;cases hu)⟩
  .refine ju [(some 100,4)] ?_;exact Iu
  exact JE
 .subst e0;have aL:=hm.f_ 3
  by_cases hf:fn<2
  .have D:decide (fn<2)=true:=by simp[hf]
   go_upto_region 22 with fail
   clear aL;obtain⟨W,aE⟩:=nm_ w1;rw[<-aE]at hd hm hR I |-;clear aE;have aC:Ex B g m R0 229 #[q_ g,i_ left,i_ loops,i_ fn] S_ W W:=⟨hd,hm,hR,F_ [g] W⟩;refine iN (Ex B g m R0 229 #[q_ g,i_ left,i_ loops,i_ fn] S_ W) (λ_ X=>∃t,Bk X R0 229 t.g_/\jK (jE (R0+1)) X t/\SG hV 1 1 t/\iQ X B g/\Gr [g,R0] W X) (Gr [g,R0]) [SU.val _ (q_ m),SU.val _ (.string v),SU.stmt aH (1) (1),SU.any _] (SU.any _) [[],[],[0,1],[2]] true [(some 108,0),(some 109,1),(some 110,2),(none,3)] k_ k_ (λ_ _ _ _ _ h=>h) k_ rfl rfl k_ aC ⟨?_,?_,?_,?_,trivial⟩ ?_
   .exact J5
   .exact J5
   .refine hT [(some 108,0),(some 109,1)] ?_;intro vs Q C J K H;obtain⟨o,ap, -⟩:=J;replace o:_=_:=o;replace ap:_=_:=ap
    try simp only[b_,o,ap]at H |-
    go_simp
    go_at_call 219
    refine(AN B g m left loops fn v ay.out _ C.d C.m hBm).mono ?_;exact JZ
   .refine ju [(some 110,2)] ?_;exact Iu
   exact JE
  .have D:decide (fn<2)=false:=by simp[hf]
   go_upto_region 25 with fail
   clear aL;exact Hl
 .subst ep
  go_upto_region 24 with fail
  obtain⟨W,aE⟩:=nm_ w1;rw[<-aE]at hd hm hR I |-;clear aE;have aC:Ex B g m R0 229 #[q_ g,i_ left,i_ loops,i_ fn] S_ W W.drew:=⟨hd.hG (F_ [] W).drew,hm.hG (F_ [] W).drew,hR.hG (F_ [] W).drew,(F_ [g] W).drew⟩;refine ke (Ex B g m R0 229 #[q_ g,i_ left,i_ loops,i_ fn] S_ W) (λ_ X=>∃t,Bk X R0 229 t.g_/\jK (jE (R0+1)) X t/\SG hV 1 1 t/\iQ X B g/\Gr [g,R0] W X) (Gr [g,R0]) [SU.AO aH 3 #[i_ 8,i_ 7] 2,SU.val _ (q_ m),SU.val _ (q_ m),SU.val _ (q_ m),SU.val _ (q_ g),SU.num _ 0 2,SU.elem aH 3 #[i_ 8,i_ 7] 2,SU.pure _ (λv=>∃r:Int,(r=7∨r=8)/\v=i_ r),SU.val _ (q_ m),SU.tree aH (1),SU.trees aH 2 1,SU.stmt aH (1) (1),SU.any _] (SU.any _) [[],[],[1],[2],[3],[4],[0,5],[6],[],[8],[9],[7,10],[11]] true [(some 113,0),(some 114,1),(some 115,2),(some 116,3),(some 117,4),(some 118,5),(some 119,6),(some 120,7),(some 121,8),(some 122,9),(some 123,10),(some 124,11),(none,12)] k_ k_ k_ (λ_ _ _ _ _ h=>h) k_ rfl rfl k_ aC ⟨?_,?_,?_,?_,?_,?_,?_,?_,?_,?_,?_,?_,?_,trivial⟩ ?_
  .exact Je
  .exact J5
  .refine hT [(some 114,1)] ?_;exact JM
  .refine hT [(some 115,2)] ?_;exact JM
  .refine hT [(some 116,3)] ?_;exact II
  .refine hT [(some 117,4)] ?_;exact Iz
  .refine hT [(some 113,0),(some 118,5)] ?_;exact IL
  .refine hT [(some 119,6)] ?_;intro vs Q C J K H;obtain⟨⟨aX,E,o,bn,bi,a6⟩, -⟩:=J
   try simp only[b_,o]at H |-
   obtain⟨s,hs,bN⟩:=CP E o_;exact KX
  .exact J5
  .refine hT [(some 121,8)] ?_;exact Ip
  .refine hT [(some 122,9)] ?_;exact H1
  .refine hT [(some 120,7),(some 123,10)] ?_;intro vs Q C J K H;obtain⟨⟨a8,cr,o⟩,⟨aN,tb,ap,nb,cD,bB,cR⟩, -⟩:=J
   try simp only[b_,o,ap]at H |-
   go_simp;have aD:tb.length=_:=nb
   have a7:Sl Q 226 5 (j_ aN) tb.length (tb.flatMap ET.E):=by rw[aD];exact bB
   have hcl:(lI a8 i4 i4 0 0 (j_ aN) tb.length tb).g_=_:=rfl;simp only[ST.ip,lI,aD]at hcl;refine H.out _ _ C (F_ _ _) ⟨lI a8 i4 i4 0 0 (j_ aN) tb.length tb,?_,jK.es _ _ _ _ _ a7 cD (λu hu=>(cR u hu).1),SG.leaf (t:=lI a8 i4 i4 0 0 (j_ aN) tb.length tb) (by show mP _ a8 i4 i4 0 0 tb.length _ _;rw[aD];exact(by rcases cr with rfl|rfl;exact .ret;exact .DH)) rfl rfl (λu hu=>(cR u hu).2)⟩
   show Value.agg _=Value.agg (lI a8 i4 i4 0 0 (j_ aN) tb.length tb).g_
   exact LM
  .refine ju [(some 124,11)] ?_;exact Iu
  exact JE
 .subst dg
  go_upto_region 25 with fail
  exact Hl
def D5(p:Nat)(B g m:Nat)(left loops fn:Int)(w:World)(e:Ending)(w':World):Prop:=
 ∃(t:ST) (N:Nat) (l:Int),e=.returned (.agg t.g_)/\jK (jE w.heap.size) w' t/\SG hV (4-p) N t/\0<=l/\l<=left/\(N:Int)+2*l<=2+2*left/\Bk w' m 222 #[q_ g,i_ l,i_ loops,i_ fn]/\iQ w' B g/\Gr [g,m] w w'
def D3(p:Nat)(B g m:Nat)(fn:Int):Prop:=∀(P left loops:Int) (w:World),P=p->iQ w B g->Bk w m 222 #[q_ g,i_ left,i_ loops,i_ fn]->B<=m->0<=left->left<=100->0<=loops->loops<=50+p->
 Calls prog 176 #[q_ m,i_ P] w (D5 p B g m left loops fn w)
def DE(p:Nat)(n:Int)(B g m:Nat)(left loops fn:Int)(w:World)(e:Ending)(w':World):Prop:=
 ∃(A:OA) (c:Nat) (ts:List ST) (N:Nat) (l:Int),e=.returned (.slice A ts.length c)/\(ts.length:Int)<=n+1/\lC hV w.heap.size (4-p) N w' A c ts/\0<=l/\l<=left/\(N:Int)+2*l<=2*left/\Bk w' m 222 #[q_ g,i_ l,i_ loops,i_ fn]/\iQ w' B g/\Gr [g,m] w w'
def DR(p:Nat)(B g m:Nat)(fn:Int):Prop:=∀(P n left loops:Int) (w:World),P=p->0<=n->n<=10->iQ w B g->Bk w m 222 #[q_ g,i_ left,i_ loops,i_ fn]->B<=m->0<=left->left<=100->0<=loops->loops<=50+p->
 Calls prog 139 #[q_ m,i_ P,i_ n] w (DE p n B g m left loops fn w)
theorem sh(hp:p<=3)(B g m:Nat)(fn:Int)(bG:D3 p B g m fn):DR p B g m fn:=by
 obtain⟨i1,bM,ca,ce,cp⟩:=info_parts infoSt;intro P n left loops w hP hn0 hn1 hd hm hBm hl0 hl1 hq0 hq1;have aR:=h_ hP;clear hP;have bl:=hd.xa;have ct:=hm.lt;have ag:m≠g:=o_;obtain⟨i,f⟩:=nm_ (DE p n B g m left loops fn w);rw[<-f];have ak:=h_ f;clear f;have aJ:IntKind.i64.wrap (n+1)=n+1:=E2 _ o_;have U:=hm.f_ 0
 go_enter func139,ntmps139
 go_wp2_with (go_at_call 19;refine(iw B g (n+1) _ hd o_ o_).mono ?_;rintro e w1⟨k,rfl,b9,bV,bK,aT⟩)
 clear aJ U;replace hm:=hm.gr aT p_;have I:Gr [g,m] w w1:=aT.mono s_;clear aT hd;obtain⟨bp,b5⟩:=nm_ w.heap.size
 have aL:bp<=w1.heap.size:=by rw[b5];exact I.size
 have bP:=h_ b5;clear b5
 go_loopw [7,8] (λov ap w'=>∃(r:Int) (A:OA) (c:Nat) (ts:List ST) (N:Nat) (l:Int),ap=i_ r/\ -1<=r/\(ts.length:Int)+r<=n/\ov=.slice A ts.length c/\lC hV bp (4-p) N w' A c ts/\0<=l/\l<=left/\(N:Int)+2*l<=2*left/\Bk w' m 222 #[q_ g,i_ l,i_ loops,i_ fn]/\iQ w' B g/\Gr [g,m] w w'/\bp<=w'.heap.size) (λ_ ap _=>(intOf ap+1).toNat)
 case atStart=>exact⟨k,none,0,[],0,left,rfl,o_,p_,rfl,lC.nil _ _ _ _,hl0,o_,o_,hm,bK,I,aL⟩
 case round=>
  obtain⟨r,A,c,ts,N,l,rfl,bD,bJ,rfl,hL,bi,bq,bt,dh,b6,ar,V⟩:=hrel;obtain⟨L,a⟩:=nm_ ts.length;have be:=h_ a;have aF:=hL.own;rw[<-a]at bJ aF |-;clear a hm bK I
  by_cases j:0<=r/\0<l
  .obtain⟨hg1,J⟩:=j;have cA:=dh.hW 1 (i_ (l-1));have S:Gr [m] wr (wr.setCell (c_ m 1) (i_ (l-1))):=(F_ [m] wr).setCell (.inl s_) _;have cO:=b6.ih S p_;have ad:=dh.f_ 1;have aM:=dh.hH 1
   go_upto_region 6 with fail
   clear ad aM
   go_wp2_with (first|(go_at_call 176;refine(bG P (l-1) loops _ aR.out cO cA hBm o_ o_ hq0 hq1).mono ?_;rintro e w2⟨t,K,l2,rfl,O,bO,cQ,h,H,dE,eo,Z⟩;have aq:=nP (nP aF S (λx hx he=>by have:=(ku aF he).1;simp at hx;have:=ct;have:=bP.out;omega)) Z (λx hx he=>by have:=(ku aF he).1;simp at hx;have:=bP.out;omega);have q:bp<=(w2.alloc (.cells t.g_ 229)).heap.size:=(by have h1:=S.size;have h2:=Z.size;simp;omega);have z:=nP aq ((F_ [] w2).alloc (.cells t.g_ 229)) s_;obtain⟨T,b⟩:=nm_ t;have bL:=h_ b;rw[<-b]at O bO z q;clear b;obtain⟨s1,b0,cv,dm,b7,bR,ck,dn,cF,bo,sb,sc,dH,dI⟩:=t;simp only[ST.ip])|(at_builtin;refine j4 rfl _ _ _ rfl bp 229 i1 _ 8 128 underlying211 bM ca ce cp rfl d_ d_ A L c (ts.flatMap ST.E) rfl (by rw[bL.out]at z;exact z) _ 1 1 ([T].flatMap ST.E) rfl (by rw[bL.out];exact q0 _ (P_ w2 229 _)) (kX _) o_ (by rw[bL.out]at q;exact q) ?_;intro av ai Y am bC bw))
   go_roundw
   case rel=>
    have d:lC hV bp (4-p) N (w2.alloc (.cells T.g_ 229)) A c ts:=by
     have h1:=hL.iy S (by intro x hx;simp at hx;have:=bP.out;omega);have h2:=h1.iy Z (by intro x hx;simp at hx;have:=bP.out;omega);exact h2.iy ((F_ [] w2).alloc _) s_
    have b:jK (yM bp (Value.slice A L c).ownBlock) (w2.alloc (.cells T.g_ 229)) T:=by
     refine(O.imp λx hx=>⟨G_ (G_ V S.size) hx,λhe=>?_⟩).hG ((F_ [] w2).alloc _);have h1:=(ku aF he).2;have h2:=S.size
     have:(wr.setCell (c_ m 1) (i_ (l-1))).heap.size<=x:=hx
     omega
    have a:=be.out;subst a
    replace bC:(w2.alloc (.cells T.g_ 229)).grownBy Y (Value.slice A ts.length c).ownBlock:=by rw[bL.out];exact bC
    replace bw:(Value.slice av (ts.length+1) ai).ownBlock=(Value.slice A ts.length c).ownBlock∨(Value.slice av (ts.length+1) ai).ownBlock=some (w2.alloc (.cells T.g_ 229)).heap.size:=by rw[bL.out];exact bw
    have da:=d.add (us:=[T]) am bC bw (λu hu=>by have:u=T:=(zu hu);subst this;exact b) bO
    have bA:∀x∈oA (Value.slice A ts.length c).ownBlock,bp<=x:=λx hx=>(ku aF (jJ.1 hx)).1
    have aP:=Gr.iX bC;have dZ:=Nat.le_of_eq bP.out.symm;have o:m<bp:=ov bP.out;refine⟨r-1,av,ai,ts++[T],N+K,l2,rfl,o_,p_,s_,by simpa using da,cQ,o_,by push_cast;omega,(dE.alloc _).gr aP (λhx=>by have:=bA m hx;omega),(eo.hG ((F_ [] w2).alloc _)).ih aP (λx hx=>by have:=bA x hx;omega),?_,?_⟩
    .exact(((ar.trans (S.mono s_)).trans Z).alloc _).hK aP (λx hx=>.inr (ov (bA x hx)))
    .exact G_ q aP.size
   case measure=>exact mz
  .have bz:¬(0<=r)∨(0<=r/\¬(0<l)):=o_;have ad:=dh.f_ 1
   rcases bz with bz|⟨bz,dt⟩
   all_goals
    go_wp2;rw[ak.out,be.out];exact⟨A,c,ts,N,l,rfl,ov be.out,by have:=bP.out;subst this;exact hL,bi,bq,bt,dh,b6,ar⟩
theorem BV:∀k,k<3->∃s,s∈hV/\(#[.string {data:=#[105]},.string {data:=#[106]},.string {data:=#[107]}]:Array Value)[k]?=some (.string s)
 |0,_=>⟨oB,by simp[hV],rfl⟩
 |1,_=>⟨w8,by simp[hV],rfl⟩
 |2,_=>⟨w7,by simp[hV],rfl⟩
def Lf(g m:Nat)(loops fn hi:Int)(w:World):Prop:=∃l,0<=l/\l<=hi/\Bk w m 222 #[q_ g,i_ l,i_ loops,i_ fn]
theorem Lf.gr{g m:Nat}{loops fn hi:Int}{w w':World}(h:Lf g m loops fn hi w)(hg:Gr M w w')(hm:m∉M):Lf g m loops fn hi w':=by
 obtain⟨l,h0,h1,h2⟩:=h;exact⟨l,h0,h1,h2.gr hg hm⟩
theorem Lf.le{g m:Nat}{loops fn a b:Int}{w:World}(h:Lf g m loops fn a w)(hab:a<=b):Lf g m loops fn b w:=by
 obtain⟨l,h0,h1,h2⟩:=h;exact⟨l,h0,o_,h2⟩
def GL(M:List Nat)(g m:Nat)(loops fn:Int)(a b:World):Prop:=Gr M a b/\∀hi,Lf g m loops fn hi a->Lf g m loops fn hi b
theorem GL.of{g m:Nat}{loops fn:Int}{a b:World}(h:Gr [g] a b)(z:g∈M)(ag:m≠g):GL M g m loops fn a b:=⟨h.mono (by intro x hx;have:x=g:=(zu hx);subst this;exact z),λ_ hL=>hL.gr h (zu ag)⟩
theorem GL.jC{g m:Nat}{loops fn:Int}{a b:World}(h:Gr [] a b):GL M g m loops fn a b:=⟨h.mono s_,λ_ hL=>hL.gr h s_⟩
structure Es(B g m R:Nat)(tr:TypeId)(left loops fn:Int)(zc:Array Value)(W w:World):Prop where
 d:iQ w B g
 lf:Lf g m loops fn left w
 r:Bk w R tr zc
 g:Gr [g,m] W w
theorem Es.step{B g m R:Nat}{left loops fn:Int}{zc:Array Value}{W w w':World}(h:Es B g m R tr left loops fn zc W w)(hg:Gr [g] w w')(hd:iQ w' B g)(h1:m≠g)(h2:R≠g):Es B g m R tr left loops fn zc W w':=
 ⟨hd,h.lf.gr hg (zu h1),h.r.gr hg (zu h2),h.g.trans (hg.mono s_)⟩
theorem Es.hG{B g m R:Nat}{left loops fn:Int}{zc:Array Value}{W w w':World}(h:Es B g m R tr left loops fn zc W w)(hg:Gr [] w w'):Es B g m R tr left loops fn zc W w':=
 ⟨h.d.hG hg,h.lf.gr hg s_,h.r.hG hg,h.g.trans (hg.mono s_)⟩
theorem Es.kR{B g m R:Nat}{left l loops fn:Int}{zc:Array Value}{W w w':World}(h:Es B g m R tr left loops fn zc W w)(hg:Gr [g,m] w w')(hd:iQ w' B g)(hL:Lf g m loops fn l w')(hl:l<=left)(h1:R≠m)(h2:R≠g):Es B g m R tr left loops fn zc W w':=
 ⟨hd,hL.le hl,h.r.gr hg (by simp;exact⟨h2,h1⟩),h.g.trans hg⟩
def SU.l1{M:List Nat}{lo:Nat}(z:∀y∈M,y<lo)(D g m:Nat)(left loops fn:Int):SU (λ_=>GL M g m loops fn):=
 SU.of (λv w=>∃(A:OA) (c:Nat) (ts:List ST) (N:Nat) (l:Int),v=.slice A ts.length c/\lC hV lo D N w A c ts/\0<=l/\l<=left/\(N:Int)+2*l<=2*left/\Lf g m loops fn l w)
  (λ_ _ _ hg⟨A,c,ts,N,l,h1,h2,h3,au,aq,aU⟩=>⟨A,c,ts,N,l,h1,h2.iy hg.1 z,h3,au,aq,hg.2 _ aU⟩)
def SU.l2{M:List Nat}{lo:Nat}(z:∀y∈M,y<lo)(i D g m:Nat)(left loops fn:Int):SU (λ_=>GL M g m loops fn):=
 ⟨λvs v w=>∃(A1:OA) (c1:Nat) (a:List ST) (e:Nat) (A:OA) (c:Nat) (ts:List ST) (N:Nat) (l:Int),vs i=.slice A1 a.length c1/\lC hV lo D e w A1 c1 a/\v=.slice A ts.length c/\lC hV lo D N w A c ts/\0<=l/\l<=left/\(e:Int)+N+2*l<=2*left/\Lf g m loops fn l w,
   [],λ_ _ _ _ _ _ hg⟨A1,c1,a,e,A,c,ts,N,l,h1,h2,h3,au,aq,aU,bG,bL⟩=>⟨A1,c1,a,e,A,c,ts,N,l,h1,h2.iy hg.1 z,h3,au.iy hg.1 z,aq,aU,bG,hg.2 _ bL⟩,
   [i],λ_ _ _ _ hv⟨A1,c1,a,e,A,c,ts,N,l,h1,h2⟩=>⟨A1,c1,a,e,A,c,ts,N,l,(hv i s_).symm.trans h1,h2⟩⟩
theorem lC.sl{base D N c:Nat}{w:World}{A:OA}{ts:List ST}(h:lC V base D N w A c ts):Sl w 229 8 A ts.length (ts.flatMap ST.E):=Sl.iT h.own
theorem lC.from{base D N c:Nat}{w:World}{A:OA}{ts:List ST}(h:lC V base D N w A c ts):∀u∈ts,jK (jE base) w u:=λu hu=>(h.js u hu).imp λ_ hx=>hx.1
theorem jK.node{lo D e a:Nat}{w:World}(k:Int)(x f:ByteArray)(n o:Int)(AE:OA)(cE:Nat)(es:List ET){A1 av:OA}{c1 ai:Nat}{t1 af:List ST}(he:Sl w 226 5 AE es.length (es.flatMap ET.E))(hce:es.length<=cE)(hbe:∀y off,AE=some (c_ y off)->lo<=y)(hes:∀u∈es,kk (jE lo) w u)(h1:lC V lo D e w A1 c1 t1)(h2:lC V lo D a w av ai af):jK (jE lo) w (ST.mk k x f n o AE cE es A1 c1 t1 av ai af):=
 .mk _ he hce (λy off h _=>hbe y off h) hes h1.sl (jf h1.own) (λy off h _=>vB h1.own h) h1.from h2.sl (jf h2.own) (λy off h _=>vB h2.own h) h2.from
theorem sj{w:World}{g m:Nat}{a b q q' f s:Int}(h:Bk w m 222 #[q_ g,i_ a,i_ q,i_ f])(k:Bk w m 222 #[q_ g,i_ b,i_ q',i_ s]):a=b:=by
 have h1:w.heap[m]?=_:=h;have h2:w.heap[m]?=_:=k;rw[h1]at h2;simp at h2;exact h2.1
structure Cd(B g m R R7 x:Nat)(mc zc sc xc:Array Value)(W w:World):Prop where
 d:iQ w B g
 m:Bk w m 222 mc
 r:Bk w R 229 zc
 s:Bk w R7 229 sc
 x:Bk w x 226 xc
 g:Gr [g] W w
theorem Cd.step{B g m R R7 x:Nat}{mc zc sc xc:Array Value}{W w w':World}(h:Cd B g m R R7 x mc zc sc xc W w)(hg:Gr [g] w w')(hd:iQ w' B g)(h1:m≠g)(h2:R≠g)(h3:R7≠g)(au:x≠g):Cd B g m R R7 x mc zc sc xc W w':=
 ⟨hd,h.m.gr hg (zu h1),h.r.gr hg (zu h2),h.s.gr hg (zu h3),h.x.gr hg (zu au),h.g.trans hg⟩
theorem Cd.hG{B g m R R7 x:Nat}{mc zc sc xc:Array Value}{W w w':World}(h:Cd B g m R R7 x mc zc sc xc W w)(hg:Gr [] w w'):Cd B g m R R7 x mc zc sc xc W w':=
 ⟨h.d.hG hg,h.m.hG hg,h.r.hG hg,h.s.hG hg,h.x.hG hg,h.g.trans (hg.mono s_)⟩
def G2(k:Nat)(M d:List Nat)(i:Nat)(a b:World):Prop:=Gr (if i=k then d else M) a b
theorem G2.gr{d:List Nat}{a b:World}(h:G2 k M d i a b)(z:∀y∈M,y∈d):Gr d a b:=by
 unfold G2 at h;split at h
 .exact h
 .exact h.mono z
theorem G2.ne{d:List Nat}{a b:World}(h:G2 k M d i a b)(hi:i≠k):Gr M a b:=by
 unfold G2 at h;rw[Q_ hi]at h;exact h
structure Ws(B g q R R7 base D N:Nat)(A:OA)(c:Nat)(ts:List ST)(mc zc sc:Array Value)(W:World)(b:Bool)(w:World):Prop where
 d:iQ w B g
 m:Bk w q 222 mc
 r:Bk w R 229 zc
 s:Bk w R7 229 sc
 lf:b=false->lC hV base D N w A c ts
 g:Gr (g::oA (Value.slice A ts.length c).ownBlock) W w
 h1:q<base
 h2:R<base
 h3:R7<base
section
variable{B g m R R7 base D N:Nat}{A:OA}{c:Nat}{ts:List ST}{mc zc sc:Array Value}{W w w':World}{b:Bool}
theorem Ws.hz(h:Ws B g m R R7 base D N A c ts mc zc sc W b w):W.heap.size<=w.heap.size:=h.g.size
theorem Ws.step(h:Ws B g m R R7 base D N A c ts mc zc sc W b w)(hg:Gr [g] w w')(hd:iQ w' B g)(h1:m≠g)(h2:R≠g)(h3:R7≠g)(au:g<base):Ws B g m R R7 base D N A c ts mc zc sc W b w':=
 ⟨hd,h.m.gr hg (zu h1),h.r.gr hg (zu h2),h.s.gr hg (zu h3),λhb=>(h.lf hb).iy hg (zu au),h.g.trans (hg.mono s_),h.h1,h.h2,h.h3⟩
theorem Ws.hG(h:Ws B g m R R7 base D N A c ts mc zc sc W b w)(hg:Gr [] w w'):Ws B g m R R7 base D N A c ts mc zc sc W b w':=
 ⟨h.d.hG hg,h.m.hG hg,h.r.hG hg,h.s.hG hg,λhb=>(h.lf hb).iy hg s_,h.g.trans (hg.mono s_),h.h1,h.h2,h.h3⟩
theorem Ws.app(h:Ws B g m R R7 base D N A c ts mc zc sc W b w)(hg:Gr (oA (Value.slice A ts.length c).ownBlock) w w')(ho:∀y∈oA (Value.slice A ts.length c).ownBlock,base<=y)(hB:B<=base):Ws B g m R R7 base D N A c ts mc zc sc W true w':=
 ⟨h.d.ih hg (λx hx=>G_ hB (ho x hx)),h.m.gr hg (λhm=>by have:=ho _ hm;have:=h.h1;omega),h.r.gr hg (λhm=>by have:=ho _ hm;have:=h.h2;omega),h.s.gr hg (λhm=>by have:=ho _ hm;have:=h.h3;omega),(λhb=>by cases hb),h.g.trans (hg.mono (by intro y hy;simp[hy])),h.h1,h.h2,h.h3⟩
end
theorem yQ(l:Int)(h:0<=l):0<=l.tmod 3/\l.tmod 3<3/\0<=l % 3/\l % 3<3:=⟨Int.tmod_nonneg _ h,Hg _ o_,by omega,by omega⟩
theorem uC(hp:p<3)(B g m:Nat)(fn:Int)(be:DR (p+1) B g m fn):D3 p B g m fn:=by
 obtain⟨i1,bM,ca,ce,cp⟩:=info_parts infoSt;intro P left loops w hP hd hm hBm hl0 hl1 hq0 hq1;have aR:=h_ hP;have d7:0<=P:=o_;have cq:P<=2:=o_;clear hP;have bl:=hd.xa;have ct:=hm.lt
 go_enter func176,ntmps176
 go_upto_region 1 with fail
 have a2:Gr [] w (w.alloc (.cells S_ 229)):=(F_ [] w).alloc _;replace hd:=hd.hG a2;replace hm:=hm.hG a2;have hR:=P_ w 229 S_;have I:Gr [g] w (w.alloc (.cells S_ 229)):=(F_ [g] w).alloc _;clear a2;obtain⟨bp,b5⟩:=nm_ (w.alloc (.cells S_ 229));rw[<-b5]at hd hm hR I |-;clear b5;obtain⟨R0,cw⟩:=nm_ w.heap.size;rw[<-cw]at hR |-;have dt:w.heap.size<=R0:=o_;have cU:g<R0:=o_;have aF:B<=R0:=o_;have cW:m<R0:=ov ct;clear cw;have aH:∀y∈[g,R0],y<R0+1:=p_;have ag:m≠g:=o_;have aI:R0≠g:=o_;have eR:R0≠m:=o_;have U:=hm.f_ 0
 go_upto_region 2 with(go_at_call 19;refine(iw B g 10 _ hd o_ o_).mono ?_;rintro e w1⟨k,rfl,b9,bV,bK,aT⟩)
 clear U;replace hm:=hm.gr aT p_;replace hR:=hR.gr aT p_;replace I:=I.trans aT;replace hd:=bK;clear aT;have bJ:¬(3<=P):=o_;have ad:=hm.f_ 1
 by_cases dK:left<2
 .exact Hq
 by_cases dS:k<5
 .exact Hq
 have ar:=hm.f_ 2
 go_upto_region 4 with fail
 clear ad ar;obtain⟨W,aE⟩:=nm_ w1;rw[<-aE]at hd hm hR I |-;clear aE;have aC:Ex B g m R0 229 #[q_ g,i_ left,i_ loops,i_ fn] S_ W W:=⟨hd,hm,hR,F_ [g] W⟩;refine iN (Ex B g m R0 229 #[q_ g,i_ left,i_ loops,i_ fn] S_ W) (λ_ _=>True) (Gr [g,R0]) [SU.AO aH 9 #[.string {data:=#[105]},.string {data:=#[106]},.string {data:=#[107]}] 3,SU.val _ (q_ m),SU.val _ (q_ m),SU.val _ (.pointer (some (c_ m 2))),SU.val _ (i_ loops),SU.num _ 0 3,SU.elem aH 9 #[.string {data:=#[105]},.string {data:=#[106]},.string {data:=#[107]}] 3,SU.pure _ (λv=>∃s,s∈hV/\v=.string s),SU.pure _ (λv=>∃s,s∈hV/\v=.string s)] (SU.any _) [[],[],[1],[2],[3],[4],[0,5],[6],[7]] false [(some 28,0),(some 29,1),(some 30,2),(some 31,3),(some 32,4),(some 33,5),(some 34,6),(some 35,7),(some 6,8)] k_ k_ (λ_ _ _ _ _ h=>h) k_ rfl rfl k_ aC ⟨?_,?_,?_,?_,?_,?_,?_,?_,?_,trivial⟩ ?_
 .exact Je
 .exact J5
 .exact Jq
 .exact Jr
 .exact IA
 .refine hT [(some 32,4)] ?_;intro vs Q C J K H;obtain⟨o, -⟩:=J;replace o:_=_:=o
  try simp only[b_,o]at H |-
  go_simp;have aM:=yQ loops hq0;refine H.out _ _ C (F_ _ _) ⟨_,rfl,?_,?_⟩<;>omega
 .exact Iy
 .refine hT [(some 34,6)] ?_;intro vs Q C J K H;obtain⟨⟨aX,E,o,bn,bi,a6⟩, -⟩:=J
  try simp only[b_,o]at H |-
  obtain⟨s,hs,bN⟩:=BV E o_;exact KX
 .refine hT [(some 35,7)] ?_;exact JH
 rintro vs bu⟨C,J⟩;obtain⟨⟨aQ,aS,F,cy⟩,aJ,aG,bQ,b4,⟨eo,bS,cz,dj⟩,⟨aO,dM,dx,d5,bL,dZ⟩,⟨ck,dq,dW⟩,⟨dn,df,dX⟩, -⟩:=J;replace aJ:vs 1=q_ m:=aJ;replace aG:vs 2=q_ m:=aG;replace bQ:vs 3=.pointer (some (c_ m 2)):=bQ;replace b4:vs 4=i_ loops:=b4;simp only[b_,aS,aJ,aG,bQ,b4,bS,dx,dW,dX];clear aS aJ aG bQ b4 bS dx dW dX;obtain⟨n,b8,co⟩:∃v,v∈hV/\v=dn:=⟨dn,df,rfl⟩;rw[<-co];have aK:=h_ b8;clear co b8;clear hd hm hR;obtain⟨hd,hm,hR,G⟩:=C;replace I:=I.trans G;clear G;obtain⟨w1,cJ⟩:=nm_ bu;rw[<-cJ]at hd hm hR I |-;clear cJ
 rcases(by omega:(k=5)∨(k=6)∨(k=7∨k=8∨k=9))with b9|bV|aj
 .subst b9
  go_upto_region 7 with fail
  obtain⟨W,aE⟩:=nm_ w1;rw[<-aE]at hd hm hR I |-;clear aE;have eP:=aH;clear aH;have aH:∀y∈[g,m,R0],y<R0+1:=p_;have aC:Es B g m R0 229 left loops fn S_ W W:=⟨hd,⟨left,hl0,E9 _,hm⟩,hR,F_ [g,m] W⟩;refine iN (Es B g m R0 229 left loops fn S_ W) (λ_ X=>∃(t:ST) (N:Nat) (l:Int),Bk X R0 229 t.g_/\jK (jE (R0+1)) X t/\SG hV (4-p) N t/\0<=l/\l<=left/\(N:Int)+2*l<=2+2*left/\Bk X m 222 #[q_ g,i_ l,i_ loops,i_ fn]/\iQ X B g/\Gr [g,m,R0] W X) (GL [g,m,R0] g m loops fn) [SU.val _ (q_ m),(SU.tree aH (2)).less (λ_ _ h=>h.1),(SU.trees aH 2 1).less (λ_ _ h=>h.1),SU.val _ (q_ m),SU.val _ (i_ P),SU.val _ (i_ (P+1)),SU.l1 aH (4-(p+1)) g m left loops fn,SU.val _ (q_ m),SU.val _ (i_ P),SU.val _ (i_ (P+1)),SU.l2 aH 6 (4-(p+1)) g m left loops fn,SU.of (λv w=>∃(t:ST) (N:Nat) (l:Int),v=.agg t.g_/\jK (jE (R0+1)) w t/\SG hV (4-p) N t/\0<=l/\l<=left/\(N:Int)+2*l<=2+2*left/\Lf g m loops fn l w) (λ_ _ _ hg⟨t,N,l,h1,h2,h3,au,aq,aU,bG⟩=>⟨t,N,l,h1,h2.ih hg.1 (λx hx=>Fn.2 (aH x hx)),h3,au,aq,aU,hg.2 _ bG⟩),SU.any _] (SU.any _) [[],[0],[1],[],[],[4],[3,5],[],[],[8],[7,9,6],[2,6,10],[11]] true [(some 39,0),(some 40,1),(some 41,2),(some 42,3),(some 43,4),(some 44,5),(some 45,6),(some 46,7),(some 47,8),(some 48,9),(some 49,10),(some 50,11),(none,12)] k_ k_ (λ_ _ _ _ _ h=>h) k_ rfl rfl k_ aC ⟨?_,?_,?_,?_,?_,?_,?_,?_,?_,?_,?_,?_,?_,trivial⟩ ?_
  .exact JW
  .refine hT [(some 39,0)] ?_;intro vs Q C J K H;obtain⟨o, -⟩:=J;replace o:_=_:=o
   try simp only[b_,o]at H |-
   obtain⟨cX,er,ez,cC⟩:=C.lf;go_simp
   go_at_call 140
   refine(kC B g m cX loops fn 2 o_ _ rfl _ C.d cC hBm).mono ?_;rintro e w1⟨t,rfl,O,am,bg,hg1⟩;exact H.out _ _ (C.step hg1 bg ag aI) (GL.of hg1 s_ ag) ⟨t,rfl,O.le C.r.lt,am⟩
  .refine hT [(some 40,1)] ?_;intro vs Q C J K H;obtain⟨⟨ta,o,V,E⟩, -⟩:=J
   try simp only[b_,o]at H |-
   obtain⟨bA,bE,bF,bW,bX,bY,bZ⟩:=ta;simp only[ET.ip]at H |-;go_simp;refine H.out _ _ (C.hG ((F_ [] _).alloc _)) (GL.jC ((F_ [] _).alloc _)) ⟨_,[ET.mk bA bE bF bW bX bY bZ],rfl,rfl,C.r.lt,nu (ET.mk bA bE bF bW bX bY bZ) (P_ _ _ _),?_⟩;exact Kq
  .exact JW
  .exact JW
  .refine hT [(some 43,4)] ?_;exact I5
  .refine hT [(some 42,3),(some 44,5)] ?_;exact HS
  .exact JW
  .exact JW
  .refine hT [(some 47,8)] ?_;exact I5
  .refine hT [(some 46,7),(some 48,9),(some 45,6)] ?_;exact HK
  .refine hT [(some 41,2),(some 45,6),(some 49,10)] ?_;intro vs Q C J K H;obtain⟨⟨aX,ta,o,cH,bi,a6,c3⟩, -,⟨dk,du,dJ,dU,Ac,cc,tc,cO,lc,d2,dN,ec,br,db,de,dE,cT⟩, -⟩:=J
   try simp only[b_,o,d2,ec]at H |-
   go_simp;refine H.out _ _ C (GL.jC (F_ [] _)) ⟨(ST.mk 4 i4 i4 0 0 (j_ aX) 1 ta dk du dJ Ac cc tc),1+dU+cO,lc,?_,?_,?_,db,de,by push_cast;omega,cT⟩
   .show Value.agg _=Value.agg (ST.mk 4 i4 i4 0 0 (j_ aX) 1 ta dk du dJ Ac cc tc).g_
    simp only[ST.ip,cH]
    rfl
   .exact jK.node _ _ _ _ _ _ _ _ (by rw[cH];exact a6) (by rw[cH];exact H_ _) (λy off h=>by injection h with h;injection h with h;omega) (λu hu=>(c3 u hu).1) dN br
   .have hD:4-p=(4-(p+1))+1:=o_;rw[hD];exact SG.node (t:=(ST.mk 4 i4 i4 0 0 (j_ aX) 1 ta dk du dJ Ac cc tc)) (by show mP _ 4 i4 i4 0 0 ta.length true true;rw[cH];exact .C7) (λu hu=>(c3 u hu).2) dN.sg br.sg
  .refine ju [(some 50,11)] ?_;exact Ic
  exact I8
 .subst bV
  go_upto_region 9 with fail
  obtain⟨W,aE⟩:=nm_ w1;rw[<-aE]at hd hm hR I |-;clear aE;have eP:=aH;clear aH;have aH:∀y∈[g,m,R0],y<R0+1:=p_;have aC:Es B g m R0 229 left loops fn S_ W W.drew:=⟨hd.hG (F_ [] W).drew,⟨left,hl0,E9 _,hm.hG (F_ [] W).drew⟩,hR.hG (F_ [] W).drew,(F_ [g,m] W).drew⟩;refine ke (Es B g m R0 229 left loops fn S_ W) (λ_ X=>∃(t:ST) (N:Nat) (l:Int),Bk X R0 229 t.g_/\jK (jE (R0+1)) X t/\SG hV (4-p) N t/\0<=l/\l<=left/\(N:Int)+2*l<=2+2*left/\Bk X m 222 #[q_ g,i_ l,i_ loops,i_ fn]/\iQ X B g/\Gr [g,m,R0] W X) (GL [g,m,R0] g m loops fn) [(SU.AO aH 9 lY 5).less (λ_ _ h=>h.1),SU.val _ (q_ m),SU.val _ (q_ m),SU.val _ (q_ m),SU.val _ (q_ g),SU.num _ 0 3,(SU.elem aH 9 lY 5).less (λ_ _ h=>h.1),SU.pure _ (λv=>∃s,s∈hV/\v=.string s),SU.val _ (q_ m),SU.val _ (i_ P),SU.val _ (i_ (P+1)),SU.l1 aH (4-(p+1)) g m left loops fn,SU.val _ (q_ m),SU.val _ (i_ P),SU.val _ (i_ (P+1)),SU.l2 aH 11 (4-(p+1)) g m left loops fn,SU.of (λv w=>∃(t:ST) (N:Nat) (l:Int),v=.agg t.g_/\jK (jE (R0+1)) w t/\SG hV (4-p) N t/\0<=l/\l<=left/\(N:Int)+2*l<=2+2*left/\Lf g m loops fn l w) (λ_ _ _ hg⟨t,N,l,h1,h2,h3,au,aq,aU,bG⟩=>⟨t,N,l,h1,h2.ih hg.1 (λx hx=>Fn.2 (aH x hx)),h3,au,aq,aU,hg.2 _ bG⟩),SU.any _] (SU.any _) [[],[],[1],[2],[3],[4],[0,5],[6],[],[],[9],[8,10],[],[],[13],[12,14,11],[7,11,15],[16]] true [(some 53,0),(some 54,1),(some 55,2),(some 56,3),(some 57,4),(some 58,5),(some 59,6),(some 60,7),(some 61,8),(some 62,9),(some 63,10),(some 64,11),(some 65,12),(some 66,13),(some 67,14),(some 68,15),(some 69,16),(none,17)] k_ k_ k_ (λ_ _ _ _ _ h=>h) k_ rfl rfl k_ aC ⟨?_,?_,?_,?_,?_,?_,?_,?_,?_,?_,?_,?_,?_,?_,?_,?_,?_,?_,trivial⟩ ?_
  .refine hT [] ?_;intro vs Q C J K H;clear J
   try simp only[b_]at H |-
   go_simp
   go_at_call 177
   refine(lM _).mono ?_;rintro e w1⟨rfl,rfl⟩;exact H.out _ _ (C.hG ((F_ [] _).alloc _)) (GL.jC ((F_ [] _).alloc _)) ⟨_,rfl,C.r.lt,P_ _ _ _⟩
  .exact JW
  .refine hT [(some 54,1)] ?_;exact JG
  .refine hT [(some 55,2)] ?_;exact JG
  .refine hT [(some 56,3)] ?_;intro vs Q C J K H;obtain⟨o, -⟩:=J;replace o:_=_:=o
   try simp only[b_,o]at H |-
   obtain⟨c6,⟨fp,ep,et,j⟩,bz,cK⟩:=id C;have U:=j.f_ 0;have ad:=j.f_ 1;have ar:=j.f_ 2;have aL:=j.f_ 3;exact Lu
  .refine hT [(some 57,4)] ?_;intro vs Q C J K H;obtain⟨o, -⟩:=J;replace o:_=_:=o
   try simp only[b_,o]at H |-
   go_simp
   go_at_call 19
   refine(iw B g _ _ C.d o_ o_).mono ?_;rintro e w1⟨r,rfl,h0,h1,bg,hg1⟩;exact H.out _ _ (C.step hg1 bg ag aI) (GL.of hg1 s_ ag) ⟨r,rfl,h0,h1⟩
  .refine hT [(some 53,0),(some 58,5)] ?_;intro vs Q C J K H;obtain⟨⟨aX,o,bi,a6⟩,⟨rb,ap,di,cZ⟩, -⟩:=J
   try simp only[b_,o,ap]at H |-
   obtain⟨k,rfl⟩:∃k:Nat,rb=k:=⟨rb.toNat,o_⟩;have dC:(k:Int)<5:=o_;go_simp;exact H.out _ _ C (GL.jC (F_ [] _)) ⟨aX,k,rfl,o_,bi,a6⟩
  .refine hT [(some 59,6)] ?_;intro vs Q C J K H;obtain⟨⟨aX,E,o,bn,bi,a6⟩, -⟩:=J
   try simp only[b_,o]at H |-
   obtain⟨s,hs,bN⟩:=AV E o_;have ad:=(a6.f_ E).trans bN;go_simp;exact H.out _ _ C (GL.jC (F_ [] _)) ⟨s,hs,rfl⟩
  .exact JW
  .exact JW
  .refine hT [(some 62,9)] ?_;exact I5
  .refine hT [(some 61,8),(some 63,10)] ?_;exact HS
  .exact JW
  .exact JW
  .refine hT [(some 66,13)] ?_;exact I5
  .refine hT [(some 65,12),(some 67,14),(some 64,11)] ?_;exact HK
  .refine hT [(some 60,7),(some 64,11),(some 68,15)] ?_;intro vs Q C J K H;obtain⟨⟨bo,cr,o⟩, -,⟨dr,dy,dL,d1,Ac,cc,tc,cO,lc,d3,dO,ec,br,db,de,dE,cT⟩, -⟩:=J
   try simp only[b_,o,d3,ec]at H |-
   go_simp;refine H.out _ _ C (GL.jC (F_ [] _)) ⟨(ST.mk 9 bo i4 0 0 none 0 [] dr dy dL Ac cc tc),1+d1+cO,lc,?_,?_,?_,db,de,by push_cast;omega,cT⟩
   .show Value.agg _=Value.agg (ST.mk 9 bo i4 0 0 none 0 [] dr dy dL Ac cc tc).g_
    simp only[ST.ip]
    rfl
   .exact jK.node _ _ _ _ _ _ _ _ (Fm _ _ _ _) (H_ _) (λ_ _ h=>by cases h) (λu hu=>by cases hu) dO br
   .have hD:4-p=(4-(p+1))+1:=o_;rw[hD];exact SG.node (t:=(ST.mk 9 bo i4 0 0 none 0 [] dr dy dL Ac cc tc)) (.Bh _ cr) (λu hu=>by cases hu) dO.sg br.sg
  .refine ju [(some 69,16)] ?_;exact Ic
  exact I8
 .have eg:(k==5)=false:=p_;have eh:(k==6)=false:=p_;have d4:IntKind.i64.wrap (loops+1)=loops+1:=E2 _ o_;have ar:=hm.f_ 2;have aV:=hm.hH 2
  go_upto_region 11 with fail
  clear ar aV d4;have M:Gr [m] w1 (w1.setCell (c_ m 2) (i_ (loops+1))):=(F_ [m] w1).setCell (.inl s_) _;replace hm:Bk (w1.setCell (c_ m 2) (i_ (loops+1))) m 222 #[q_ g,i_ left,i_ (loops+1),i_ fn]:=hm.hW 2 _;replace hd:=hd.ih M p_;replace hR:=hR.gr M p_;have a:Gr [g,m] w (w1.setCell (c_ m 2) (i_ (loops+1))):=(I.mono s_).trans (M.mono s_);clear I M;obtain⟨W,aE⟩:=nm_ (w1.setCell (c_ m 2) (i_ (loops+1)));rw[<-aE]at hd hm hR a |-;clear aE;have aC:Ex B g m R0 229 #[q_ g,i_ left,i_ (loops+1),i_ fn] S_ W W.drew:=⟨hd.hG (F_ [] W).drew,hm.hG (F_ [] W).drew,hR.hG (F_ [] W).drew,(F_ [g] W).drew⟩;refine ke (Ex B g m R0 229 #[q_ g,i_ left,i_ (loops+1),i_ fn] S_ W) (λvs X=>∃(R7 x:Nat) (r:Int),vs 10=q_ R7/\0<=r/\r<=9/\R0+1<=R7/\R0+1<=x/\x≠R7/\Bk X R7 229 #[i_ 5,.string n,.string i4,i_ 0,i_ 0,.slice (j_ x) 2 2,n_,n_]/\Bk X x 226 #[i_ 1,i_ 0,.string i4,i_ 0,n_,i_ 1,i_ r,.string i4,i_ 0,n_]/\iQ X B g/\Bk X m 222 #[q_ g,i_ left,i_ (loops+1),i_ fn]/\Bk X R0 229 S_/\Gr [g,R7] W X) (Gr [g,R0]) [SU.val _ (.string n),SU.pure _ (λv=>v=.agg #[i_ 1,i_ 0,.string i4,i_ 0,n_]),SU.val _ (q_ m),SU.val _ (q_ m),SU.val _ (q_ m),SU.val _ (q_ g),SU.num _ 0 5,SU.pure _ (λv=>∃r:Int,0<=r/\r<=9/\v=.agg #[i_ 1,i_ r,.string i4,i_ 0,n_]),SU.of (λv w=>∃(x:Nat) (r:Int),0<=r/\r<=9/\v=.slice (j_ x) 2 2/\R0+1<=x/\Bk w x 226 #[i_ 1,i_ 0,.string i4,i_ 0,n_,i_ 1,i_ r,.string i4,i_ 0,n_]) (λ_ _ _ hg⟨x,r,h0,h1,h2,h3,au⟩=>⟨x,r,h0,h1,h2,h3,au.gr hg (λhm=>by have:=aH x hm;omega)⟩),SU.of (λv w=>∃(x:Nat) (r:Int),0<=r/\r<=9/\v=.agg #[i_ 5,.string n,.string i4,i_ 0,i_ 0,.slice (j_ x) 2 2,n_,n_]/\R0+1<=x/\Bk w x 226 #[i_ 1,i_ 0,.string i4,i_ 0,n_,i_ 1,i_ r,.string i4,i_ 0,n_]) (λ_ _ _ hg⟨x,r,h0,h1,h2,h3,au⟩=>⟨x,r,h0,h1,h2,h3,au.gr hg (λhm=>by have:=aH x hm;omega)⟩),SU.of (λv w=>∃R7,v=q_ R7/\R0+1<=R7/\Bk w R7 229 #[i_ 0,.string i4,.string i4,i_ 0,i_ 0,n_,n_,n_]) (λ_ _ _ hg⟨x,h2,h3,au⟩=>⟨x,h2,h3,au.gr hg (λhm=>by have:=aH x hm;omega)⟩),SU.any _] (SU.any _) [[],[],[],[2],[3],[4],[5],[6],[1,7],[0,8],[],[10,9]] true [(some 77,0),(some 78,1),(some 79,2),(some 80,3),(some 81,4),(some 82,5),(some 83,6),(some 84,7),(some 85,8),(some 86,9),(some 7,10),(none,11)] k_ k_ k_ (λ_ _ _ _ _ h=>h) k_ rfl rfl k_ aC ⟨?_,?_,?_,?_,?_,?_,?_,?_,?_,?_,?_,?_,trivial⟩ ?_
  .exact J5
  .refine hT [] ?_;intro vs Q C J K H;clear J
   try simp only[b_]at H |-
   go_simp
   go_at_call 144
   refine(j7 0 _).mono ?_;exact Lh
  .exact J5
  .refine hT [(some 79,2)] ?_;exact JM
  .refine hT [(some 80,3)] ?_;exact JM
  .refine hT [(some 81,4)] ?_;exact II
  .refine hT [(some 82,5)] ?_;exact Iz
  .refine hT [(some 83,6)] ?_;exact IJ
  .refine hT [(some 78,1),(some 84,7)] ?_;intro vs Q C J K H;obtain⟨o,⟨rb,di,cZ,ap⟩, -⟩:=J;replace o:_=_:=o
   try simp only[b_,o,ap]at H |-
   go_simp;exact H.out _ _ (C.hG ((F_ [] _).alloc _)) ((F_ _ _).alloc _) ⟨_,rb,di,cZ,rfl,C.r.lt,P_ _ _ _⟩
  .refine hT [(some 77,0),(some 85,8)] ?_;intro vs Q C J K H;obtain⟨o,⟨aN,rb,di,cZ,ap,cD,bB⟩, -⟩:=J;replace o:_=_:=o
   try simp only[b_,o,ap]at H |-
   go_simp;exact H.out _ _ C (F_ _ _) ⟨aN,rb,di,cZ,rfl,cD,bB⟩
  .exact Je
  .refine ju [(some 7,10),(some 86,9)] ?_;intro vs Q C J K H;obtain⟨⟨aX,o,bi,a6⟩,⟨aN,rb,di,cZ,ap,cD,bB⟩, -⟩:=J
   try simp only[b_,o,ap]at H |-
   refine iW k_ ?_;refine ij 229 _ _ rfl aX r_ #[i_ 5,.string n,.string i4,i_ 0,i_ 0,.slice (j_ aN) 2 2,n_,n_] r_ 229 _ a6 rfl k_ (by simp[Value.oneCell']) ?_;intro X aw G;have ao:aN≠aX:=Bk.lZ bB a6 d_;have dF:=C.g.size;exact H.out undef _ (λ_=>⟨aX,aN,rb,o,di,cZ,bi,cD,ao,aw,bB.gr G (zu ao),C.d.ih G p_,C.m.gr G p_,C.r.gr G p_,(C.g.mono s_).trans (G.mono s_)⟩)
  intro vs bu C;simp only[b_];clear hd hm hR aC;obtain⟨R7,x,r,e10,bD,dT,bG,bP,c8,bj,L,hd,hm,hR,G⟩:=C;rw[e10];clear e10;have dR:=dt;replace a:=a.hK G p_;clear G
  by_cases b6:0<P
  focus
   go_upto_region 13 with fail
   have eP:=aH;clear aH;have aH:∀y∈[g,x],y<x+1:=p_;obtain⟨W,aE⟩:=nm_ bu;rw[<-aE]at hd hm hR bj L a |-;clear aE;have aC:Cd B g m R0 R7 x #[q_ g,i_ left,i_ (loops+1),i_ fn] S_ #[i_ 5,.string n,.string i4,i_ 0,i_ 0,.slice (j_ x) 2 2,n_,n_] #[i_ 1,i_ 0,.string i4,i_ 0,n_,i_ 1,i_ r,.string i4,i_ 0,n_] W W.drew:=⟨hd.hG (F_ [] W).drew,hm.hG (F_ [] W).drew,hR.hG (F_ [] W).drew,bj.hG (F_ [] W).drew,L.hG (F_ [] W).drew,(F_ [g] W).drew⟩;have az:x≠g:=o_;have dz:R7≠g:=o_;refine ke (Cd B g m R0 R7 x #[q_ g,i_ left,i_ (loops+1),i_ fn] S_ #[i_ 5,.string n,.string i4,i_ 0,i_ 0,.slice (j_ x) 2 2,n_,n_] #[i_ 1,i_ 0,.string i4,i_ 0,n_,i_ 1,i_ r,.string i4,i_ 0,n_] W) (λ_ X=>∃r:Int,0<=r/\r<=9/\Bk X x 226 #[i_ 1,i_ 0,.string i4,i_ 0,n_,i_ 1,i_ r,.string i4,i_ 0,n_]/\Bk X R7 229 #[i_ 5,.string n,.string i4,i_ 0,i_ 0,.slice (j_ x) 2 2,n_,n_]/\iQ X B g/\Bk X m 222 #[q_ g,i_ left,i_ (loops+1),i_ fn]/\Bk X R0 229 S_/\Gr [g,x] W X) (Gr [g,x]) [SU.val _ (.pointer (some (c_ R7 5))),SU.val _ (.slice (j_ x) 2 2),SU.val _ (q_ m),SU.val _ (q_ m),SU.val _ (q_ m),SU.val _ (q_ g),SU.num _ 0 3,SU.pure _ (λv=>∃r:Int,0<=r/\r<=9/\v=.agg #[i_ 1,i_ r,.string i4,i_ 0,n_]),SU.val _ (.pointer (some (c_ x 5))),SU.any _] (SU.any _) [[],[0],[],[2],[3],[4],[5],[6],[1],[8,7]] true [(some 89,0),(some 90,1),(some 91,2),(some 92,3),(some 93,4),(some 94,5),(some 95,6),(some 96,7),(some 97,8),(none,9)] k_ k_ k_ (λ_ _ _ _ _ h=>h) k_ rfl rfl k_ aC ⟨?_,?_,?_,?_,?_,?_,?_,?_,?_,?_,trivial⟩ ?_
   .exact J5
   .refine hT [(some 89,0)] ?_;exact I1
   .exact J5
   .refine hT [(some 91,2)] ?_;exact JM
   .refine hT [(some 92,3)] ?_;exact JM
   .refine hT [(some 93,4)] ?_;exact I1
   .refine hT [(some 94,5)] ?_;intro vs Q C J K H;obtain⟨o, -⟩:=J;replace o:_=_:=o
    try simp only[b_,o]at H |-
    go_simp
    go_at_call 19
    refine(iw B g _ _ C.d o_ o_).mono ?_;rintro e w1⟨r,rfl,h0,h1,bg,hg1⟩;exact H.out _ _ (C.step hg1 bg ag aI dz az) (hg1.mono s_) ⟨r,rfl,h0,h1⟩
   .refine hT [(some 95,6)] ?_;exact IJ
   .refine hT [(some 90,1)] ?_;exact JM
   .refine ju [(some 97,8),(some 96,7)] ?_;intro vs Q C J K H;obtain⟨o,⟨rb,di,cZ,ap⟩, -⟩:=J;replace o:_=_:=o
    try simp only[b_,o,ap]at H |-
    refine iW k_ ?_;refine jF 226 _ _ rfl x 5 r_ #[i_ 1,i_ rb,.string i4,i_ 0,n_] r_ 226 _ C.x s_ k_ (by simp[Value.oneCell']) ?_;intro X aw G;exact H.out undef _ (λ_=>⟨rb,di,cZ,aw,C.s.gr G (zu c8.symm),C.d.ih G p_,C.m.gr G p_,C.r.gr G p_,(C.g.mono s_).trans (G.mono s_)⟩)
   intro vs bu C;simp only[b_];clear hd hm hR bj L aC bD dT;obtain⟨r,bD,dT,L,bj,hd,hm,hR,G⟩:=C;replace a:=a.hK G p_;clear G
  all_goals
   obtain⟨ae,cf⟩:=nm_ bu;rw[<-cf]at hd hm hR bj L a |-;clear cf;have bQ:IntKind.i64.wrap (P+1)=P+1:=E2 _ o_
   go_upto_region 15 with(go_at_call 139;refine(be (P+1) 3 left (loops+1) _ (ov aR.out) o_ o_ hd hm hBm o_ o_ o_ (by push_cast;omega)).mono ?_;rintro e T⟨A,c,ts,N,l,rfl,cV,cg,cu,d0,bt,cx,bK,aT⟩;obtain⟨n0,hn0⟩:=nm_ ts.length;rw[<-hn0];have aW:=h_ hn0;rw[<-hn0]at cV;clear hn0;have d6:=(bj.gr aT p_).f_ 6;have dP:=(bj.gr aT p_).hH 6)
   clear d6 dP bQ;have em:R7<ae.heap.size/\x<ae.heap.size/\R0<ae.heap.size:=⟨bj.lt,L.lt,hR.lt⟩;have ah:Gr [R7] T (T.setCell (c_ R7 6) (.slice A n0 c)):=(F_ [R7] T).setCell (.inl s_) _;have aY:Bk (T.setCell (c_ R7 6) (.slice A n0 c)) R7 229 #[i_ 5,.string n,.string i4,i_ 0,i_ 0,.slice (j_ x) 2 2,.slice A n0 c,n_]:=(bj.gr aT p_).hW 6 _;have af:=cg.iy ah p_;have a7:=(L.gr aT p_).gr ah (zu c8);have bO:=bK.ih ah p_;have ay:=cx.gr ah p_;have bI:=(hR.gr aT p_).gr ah p_;have bT:Gr [g,m] w (T.setCell (c_ R7 6) (.slice A n0 c)):=(a.trans aT).hK ah p_;have dQ:ae.heap.size<=(T.setCell (c_ R7 6) (.slice A n0 c)).heap.size:=G_ aT.size ah.size;clear bj L hd hm hR a cg bK cx aT ah;obtain⟨Y,bU⟩:=nm_ (T.setCell (c_ R7 6) (.slice A n0 c));rw[<-bU]at aY af a7 bO ay bI bT dQ |-;clear bU;have bH:ae.heap.size<=Y.heap.size:=dQ
   by_cases dg:k=9
   .have d8:(k==9)=true:=by simp[dg]
    have U:=ay.f_ 0
    go_wp2_with fail
    go_at_call 19
    refine(iw B g 2 _ bO o_ o_).mono ?_;rintro e ax⟨q,rfl,ei,ej,cI,aB⟩;clear U bO;have bO:=cI;replace ay:=ay.gr aB p_;replace bI:=bI.gr aB p_;replace aY:=aY.gr aB p_;replace a7:=a7.gr aB p_;replace af:=af.iy aB p_;replace bT:=bT.trans (aB.mono s_);replace bH:=G_ bH aB.size;clear aB cI;obtain⟨Y,bU⟩:=nm_ ax;rw[<-bU]at bO ay bI aY a7 af bT bH |-;clear bU
    by_cases cA:q=0
    .subst cA
     go_upto_region 16 with fail
     have ao:=aW.out;subst ao;obtain⟨W,aE⟩:=nm_ Y;rw[<-aE]at bO ay bI aY af bT bH |-;clear aE;have cN:∀y∈[g],y∈(g::oA (Value.slice A ts.length c).ownBlock):=s_
     have eD:∀y∈oA (Value.slice A ts.length c).ownBlock,ae.heap.size<=y:=λy hy=>(ku af.own (jJ.1 hy)).1
     have eT:∀y,(Value.slice A ts.length c).ownBlock=some y->y<W.heap.size:=λy hy=>(ku af.own hy).2
     have d9:ae.heap.size<=W.heap.size:=bH;have eP:=aH;clear aH;have aH:∀y∈(g::oA (Value.slice A ts.length c).ownBlock),y<W.heap.size:=K9;have dz:R7≠g:=o_;have hbg:g<ae.heap.size:=o_;have aC:Ws B g m R0 R7 ae.heap.size (4-(p+1)) N A c ts #[q_ g,i_ l,i_ (loops+1),i_ fn] S_ #[i_ 5,.string n,.string i4,i_ 0,i_ 0,.slice (j_ x) 2 2,.slice A ts.length c,n_] W false W.drew:=⟨bO.hG (F_ [] W).drew,ay.hG (F_ [] W).drew,bI.hG (F_ [] W).drew,aY.hG (F_ [] W).drew,λ_=>af.iy (F_ [] W).drew s_,(F_ (g::oA (Value.slice A ts.length c).ownBlock) W).drew,o_,o_,o_⟩;refine nZ (λf=>Ws B g m R0 R7 ae.heap.size (4-(p+1)) N A c ts #[q_ g,i_ l,i_ (loops+1),i_ fn] S_ #[i_ 5,.string n,.string i4,i_ 0,i_ 0,.slice (j_ x) 2 2,.slice A ts.length c,n_] W (f 19)) (λ_ X=>∃(t:ST) (K:Nat),Bk X R7 229 t.g_/\jK (jE (R7+1)) X t/\SG hV (4-p) K t/\(K:Int)<=N+2/\iQ X B g/\Bk X m 222 #[q_ g,i_ l,i_ (loops+1),i_ fn]/\Bk X R0 229 S_/\Gr (R7::(g::oA (Value.slice A ts.length c).ownBlock)) W X) (G2 19 [g] (g::oA (Value.slice A ts.length c).ownBlock)) [SU.mh _ (.string n),(SU.tree aH (0)).uY (λ_ _ _ h=>h.gr cN),SU.mh _ (q_ m),SU.mh _ (q_ m),SU.mh _ (q_ m),SU.mh _ (q_ g),(SU.num _ 0 4).uY (λ_ _ _ h=>h.gr cN),(SU.tree aH (0)).uY (λ_ _ _ h=>h.gr cN),(SU.tree aH (0+1)).uY (λ_ _ _ h=>h.gr cN),(SU.trees aH 2 1).uY (λ_ _ _ h=>h.gr cN),SU.mh _ (.pointer (some (c_ R7 6))),SU.mh _ (.slice A ts.length c),SU.mh _ (.string n),SU.mh _ (.string n),(SU.tree aH (0)).uY (λ_ _ _ h=>h.gr cN),(SU.tree aH (0)).uY (λ_ _ _ h=>h.gr cN),(SU.tree aH (0+1)).uY (λ_ _ _ h=>h.gr cN),(SU.stmt aH (1) (1)).uY (λ_ _ _ h=>h.gr cN),(SU.of (λv w=>∃(x:Nat) (t:ST),v=.slice (j_ x) 1 1/\W.heap.size<=x/\Bk w x 229 t.g_/\jK (jE W.heap.size) w t/\SG hV 1 1 t) (λ_ _ _ hg⟨x,t,h1,h2,h3,au,aq⟩=>⟨x,t,h1,h2,h3.gr hg (λhm=>by have:=aH x hm;omega),au.ih hg (λy hy=>Fn.2 (aH y hy)),aq⟩)).uY (λ_ _ _ h=>h.gr cN),SU.zd [19] (λv w=>∃(av:OA) (ai:Nat) (us:List ST) (K:Nat),v=.slice av us.length ai/\lC hV ae.heap.size (4-(p+1)) K w av ai us/\K<=N+1) (λi hi v w w' hg⟨av,ai,us,K,h1,h2,h3⟩=>⟨av,ai,us,K,h1,h2.iy (hg.ne (zu hi)) p_,h3⟩),SU.zd [19] (λv w=>∃(t:ST) (K:Nat),v=.agg t.g_/\jK (jE (R7+1)) w t/\SG hV (4-p) K t/\(K:Int)<=N+2) (λi hi v w w' hg⟨t,K,h1,h2,h3,au⟩=>⟨t,K,h1,h2.ih (hg.ne (zu hi)) p_,h3,au⟩),SU.anyI _] (SU.anyI _) [[],[0],[],[2],[3],[4],[5],[6],[1,7],[8],[],[10],[],[],[13],[],[14,15],[12,16],[17],[11,18],[9,19],[20]] true [(some 113,0),(some 114,1),(some 115,2),(some 116,3),(some 117,4),(some 118,5),(some 119,6),(some 120,7),(some 121,8),(some 122,9),(some 123,10),(some 124,11),(some 125,12),(some 126,13),(some 127,14),(some 128,15),(some 129,16),(some 130,17),(some 131,18),(some 132,19),(some 133,20),(none,21)] k_ k_ k_ (λ_ _ _ _ _ h=>h) k_ rfl rfl k_ aC ⟨?_,?_,?_,?_,?_,?_,?_,?_,?_,?_,?_,?_,?_,?_,?_,?_,?_,?_,?_,?_,?_,?_,trivial⟩ ?_
     .exact J2
     .refine je [(some 113,0)] ?_;exact Ix
     .exact J2
     .refine je [(some 115,2)] ?_;exact JJ
     .refine je [(some 116,3)] ?_;exact JJ
     .refine je [(some 117,4)] ?_;exact IX
     .refine je [(some 118,5)] ?_;intro f vs Q hf C J K H;obtain⟨o, -⟩:=J;replace o:_=_:=o
      try simp only[b_,o]at H |-
      go_simp
      go_at_call 19
      refine(iw B g _ _ C.d o_ o_).mono ?_;rintro e w1⟨r,rfl,h0,h1,bg,hg1⟩;exact H.out _ _ (C.step hg1 bg ag aI dz hbg) hg1 ⟨r,rfl,h0,h1⟩
     .refine je [(some 119,6)] ?_;intro f vs Q hf C J K H;exact IF
     .refine je [(some 114,1),(some 120,7)] ?_;intro f vs Q hf C J K H;exact Io
     .refine je [(some 121,8)] ?_;exact HY
     .exact J2
     .refine je [(some 123,10)] ?_;exact IX
     .exact J2
     .exact J2
     .refine je [(some 126,13)] ?_;exact Ix
     .refine je [] ?_;intro f vs Q hf C J K H;exact IV
     .refine je [(some 127,14),(some 128,15)] ?_;intro f vs Q hf C J K H;obtain⟨⟨ta,o,V,E⟩,⟨tb,ap,ak,d⟩, -⟩:=J
      try simp only[b_,o,ap]at H |-
      go_simp
      go_at_call 143
      refine(ot W.heap.size 1 ta tb _ C.hz V ak).mono ?_;rintro e w1⟨A,rfl,O,hg1⟩;exact H.out _ _ (C.hG hg1) (hg1.mono s_) ⟨pR 1 A ta tb,rfl,O,.bin 0 _ _ _ _ o_ o_ (E.mono o_) (d.mono o_)⟩
     .refine je [(some 125,12),(some 129,16)] ?_;intro f vs Q hf C J K H;obtain⟨o,⟨tb,ap,ak,d⟩, -⟩:=J;replace o:_=_:=o
      try simp only[b_,o,ap]at H |-
      go_simp
      go_at_call 142
      refine(kG W.heap.size _ _ _ C.hz ak).mono ?_;rintro e w1⟨A,rfl,O,hg1⟩;exact H.out _ _ (C.hG hg1) (hg1.mono s_) ⟨iZ _ A _,rfl,O,SG.leaf (.uU _ aK.out) rfl rfl (by intro u hu;rcases L_.1 hu with rfl|hu;exact d.mono o_;cases hu)⟩
     .refine je [(some 130,17)] ?_;exact Ie
     .refine je [(some 124,11),(some 131,18)] ?_;intro f vs Q hf C J K H;obtain⟨o,⟨aN,tb,ap,cD,bB,ak,d⟩, -⟩:=J;replace o:_=_:=o
      try simp only[b_,o,ap]at H |-
      have cg:=C.lf hf;have fb:=C.hz;refine iW k_ ?_;refine oE _ _ _ rfl ae.heap.size 229 i1 _ 8 128 underlying211 bM ca ce cp rfl d_ d_ A ts.length c (ts.flatMap ST.E) r_ cg.own _ 1 1 ([tb].flatMap ST.E) r_ (q0 tb bB) (kX _) o_ o_ ?_;intro av ai bq cj bC bw;have da:=cg.add (us:=[tb]) cj bC bw (λu hu=>by have:u=tb:=(zu hu);subst this;exact ak.imp (λy hy=>⟨by have:W.heap.size<=y:=hy;omega,λhe=>by have h1:=eT y he;have:W.heap.size<=y:=hy;omega⟩)) (d.mono o_);exact H.out (.slice av (ts.length+1) ai) _ (C.app (Gr.iX bC) eD o_) ((Gr.iX bC).mono (by intro y hy;simp[hy])) ⟨av,ai,ts++[tb],N+1,s_,by simpa using da,H_ _⟩
     .refine je [(some 122,9),(some 132,19)] ?_;intro f vs Q hf C J K H;obtain⟨⟨aX,ta,o,cH,bi,a6,c3⟩,⟨dw,cb,tb,eM,ap,dV,nb⟩, -⟩:=J
      try simp only[b_,o,ap]at H |-
      go_simp;refine H.out _ _ C (F_ _ _) ⟨(ST.mk 6 i4 i4 0 0 (j_ aX) 1 ta dw cb tb none 0 []),1+eM,?_,?_,?_,by push_cast;omega⟩
      .show Value.agg _=Value.agg (ST.mk 6 i4 i4 0 0 (j_ aX) 1 ta dw cb tb none 0 []).g_
       simp only[ST.ip,cH]
       rfl
      .have gj:=d9;exact jK.node _ _ _ _ _ _ _ _ (by rw[cH];exact a6) (by rw[cH];exact H_ _) (λy off h=>by injection h with h;injection h with h;omega) (λu hu=>(c3 u hu).1.le o_) (dV.le o_) (lC.nil _ _ _ _)
      .have hD:4-p=(4-(p+1))+1:=o_;rw[hD];exact SG.loop (t:=(ST.mk 6 i4 i4 0 0 (j_ aX) 1 ta dw cb tb none 0 [])) (by show mP _ 6 i4 i4 0 0 ta.length true false;rw[cH];exact .DI) rfl (λu hu=>(c3 u hu).2) dV.sg
     .refine vq [(some 133,20)] ?_;intro f vs Q hf C J K H;obtain⟨⟨ta,eu,o,V,E,bn⟩, -⟩:=J
      try simp only[b_,o]at H |-
      refine iW k_ ?_;refine ij 229 _ _ rfl R7 r_ ta.g_ r_ 229 _ C.s rfl k_ (ST.one _) ?_;intro X aw G;exact H.out undef _ (λ_=>⟨ta,eu,aw,V.ih G s_,E,bn,C.d.ih G p_,C.m.gr G p_,C.r.gr G p_,(C.g.mono (by intro y hy;simp[hy])).trans (G.mono s_)⟩)
     intro f vs bu hf C;simp only[b_];clear bO ay bI aY af aC;obtain⟨t,K,S,O,am,cR,bO,ay,bI,G⟩:=C;have dY:(K:Int)+2*l<=2+2*left:=o_;replace O:=O.le (show R0+1<=R7+1 by omega)
     replace bT:=bT.hK G (by
      intro y hy
      rcases L_.1 hy with rfl|hy
      .right;omega
      .rcases L_.1 hy with rfl|hy
       .left;simp
       .right
        have:=eD y hy
        omega)
     clear G;obtain⟨Y,bU⟩:=nm_ bu;rw[<-bU]at S O bO ay bI bT |-;clear bU;exact HC
    .have ek:(q==0)=false:=by simp[cA]
     exact Hp
   .have d8:(k==9)=false:=by simp[dg]
    exact Hp
theorem stmt_3(B g m:Nat)(fn:Int):D3 3 B g m fn:=by
 intro P left loops w hP hd hm hBm hl0 hl1 hq0 hq1;have d7:3<=P:=o_;clear hP;obtain⟨p,hp⟩:=nm_ 3;rw[<-hp];have aQ:=hp;clear hp;have bl:=hd.xa;have ct:=hm.lt
 go_enter func176,ntmps176
 go_upto_region 1 with fail
 have a2:Gr [] w (w.alloc (.cells S_ 229)):=(F_ [] w).alloc _;replace hd:=hd.hG a2;replace hm:=hm.hG a2;have hR:=P_ w 229 S_;have I:Gr [g] w (w.alloc (.cells S_ 229)):=(F_ [g] w).alloc _;clear a2;obtain⟨bp,b5⟩:=nm_ (w.alloc (.cells S_ 229));rw[<-b5]at hd hm hR I |-;clear b5;obtain⟨R0,cw⟩:=nm_ w.heap.size;rw[<-cw]at hR |-;have dt:w.heap.size<=R0:=o_;have cU:g<R0:=o_;have aF:B<=R0:=o_;have cW:m<R0:=ov ct;clear cw;have aH:∀y∈[g,R0],y<R0+1:=p_;have ag:m≠g:=o_;have aI:R0≠g:=o_;have U:=hm.f_ 0;have aV:=h_ aQ;clear aQ
 go_upto_region 2 with(go_at_call 19;refine(iw B g 10 _ hd o_ o_).mono ?_;rintro e w1⟨k,rfl,b9,bV,bK,aT⟩)
 clear U;replace hm:=hm.gr aT p_;replace hR:=hR.gr aT p_;replace I:=I.trans aT;replace hd:=bK;clear aT
 go_upto_region 3 with fail
 obtain⟨W,aE⟩:=nm_ w1;rw[<-aE]at hd hm hR I |-;clear aE;have aC:Ex B g m R0 229 #[q_ g,i_ left,i_ loops,i_ fn] S_ W W:=⟨hd,hm,hR,F_ [g] W⟩;refine iN (Ex B g m R0 229 #[q_ g,i_ left,i_ loops,i_ fn] S_ W) (λ_ X=>∃t,Bk X R0 229 t.g_/\jK (jE (R0+1)) X t/\SG hV 1 1 t/\iQ X B g/\Gr [g,R0] W X) (Gr [g,R0]) [SU.val _ (q_ m),SU.stmt aH (1) (1),SU.any _] (SU.any _) [[],[0],[1]] true [(some 26,0),(some 27,1),(none,2)] k_ k_ (λ_ _ _ _ _ h=>h) k_ rfl rfl k_ aC ⟨?_,?_,?_,trivial⟩ ?_
 .exact J5
 .exact Ij
 .exact Il
 intro vs bu C;simp only[b_];obtain⟨t,aw,O,am,aZ,G⟩:=C;go_wp2;exact rr_ t.g_ aw underlying229 ⟨t,1,left,rfl,O.le o_,lR.mono am (ov aV.out),hl0,E9 _,o_,hm.gr G p_,aZ,(I.hK G p_).mono s_⟩
theorem s6(B g m:Nat)(fn:Int):DR 0 B g m fn/\DR 1 B g m fn:=by
 have cv:=stmt_3 B g m fn;have du:=sh 3 o_ B g m fn cv;have b0:=uC 2 o_ B g m fn du;have l2:=sh 2 o_ B g m fn b0;have s1:=uC 1 o_ B g m fn l2;have l1:=sh 1 o_ B g m fn s1;have s0:=uC 0 o_ B g m fn l1;exact⟨sh 0 o_ B g m fn s0,l1⟩
theorem sT{w:World}{g base:Nat}{t:TypeId}{cs:Array Value}{n s:Nat}(h:Bk w g t cs)(hs:cs.size=n*s)(hb:base<=g)(hn:n<=maxLen):w.ownsRow base t s (.slice (j_ g) n n) n cs.toList:=
 ⟨by simpa using hs,.inr ⟨g,n,cs,rfl,hb,h,H_ _,hn,hs,by rw[EI p_]⟩⟩
theorem sI(l:List ByteArray):∀u∈l.map Value.string,u.oneCell'=true:=by
 intro u hu;obtain⟨s,_,rfl⟩:=EM.1 hu
 rfl
theorem Cj(k:Nat)(hk:k<8):∃s,s∈hV/\hV[k]?=some s/\hV.take (k+1)=hV.take k++[s]:=by
 match k,hk with
 |0,_=>exact⟨vE,by simp[hV],rfl,rfl⟩
 |1,_=>exact⟨uJ,by simp[hV],rfl,rfl⟩
 |2,_=>exact⟨u0,by simp[hV],rfl,rfl⟩
 |3,_=>exact⟨oZ,by simp[hV],rfl,rfl⟩
 |4,_=>exact⟨mR,by simp[hV],rfl,rfl⟩
 |5,_=>exact⟨oB,by simp[hV],rfl,rfl⟩
 |6,_=>exact⟨w8,by simp[hV],rfl,rfl⟩
 |7,_=>exact⟨w7,by simp[hV],rfl,rfl⟩
def DF(cy D N:Nat)(ls:List ST)(w:World)(e:Ending)(w':World):Prop:=
 ∃(A:OA) (c:Nat) (ss:List ST),e=.returned (.slice A (ss++ls).length c)/\lC hV cy (D+1) (8+N) w' A c (ss++ls)/\ss.map ST.name=hV/\(∀s∈ss,s.h6=1)/\Gr [] w w'/\w.heap.size<=w'.heap.size/\(∀x,(Value.slice A (ss++ls).length c).ownBlock=some x->w.heap.size<=x)
theorem ul(cy D N:Nat)(A:OA)(n c:Nat)(ls:List ST)(d6:OA)(cm:Nat)(aj:TypeId)(w:World)(hn:ls.length=n)(hl:Sl w 229 8 A n (ls.flatMap ST.E))(aD:n<=1000)(q:∀u∈ls,jK (jE cy) w u)(bO:lR hV (D+1) N ls)(t:cy<=w.heap.size)
 (hm:Sl w aj 1 d6 3 ([oB,w8,w7].map Value.string)):
 Calls prog 141 #[.slice A n c,.slice d6 3 cm] w (DF cy D N ls w):=by
 obtain⟨i1,bM,ca,ce,cp⟩:=info_parts infoSt;obtain⟨i2,aE,bP,ck,ct⟩:=info_parts infoStr;obtain⟨i,f⟩:=nm_ (DF cy D N ls w);rw[<-f];have ak:=h_ f;have aW:=h_ hn;clear f hn;obtain⟨bp,b5⟩:=nm_ w.heap.size;have aL:bp<=w.heap.size:=o_;have bH:w.heap.size<=bp:=o_;have cC:cy<=bp:=o_;clear b5
 go_enter func141,ntmps141
 go_wp2_with (first|(go_at_call 177;refine(lM _).mono ?_;rintro e w1⟨rfl,rfl⟩)|(at_builtin;refine j4 rfl _ _ _ rfl bp 9 i2 _ 1 16 underlying207 aE bP ck ct rfl d_ d_ (j_ w.heap.size) 5 5 _ rfl (sT (n:=5) (s:=1) (P_ w 9 lY) rfl aL d_) d6 3 cm _ rfl (hm.alloc _) (sI _) o_ p_ ?_;intro b9 cq w2 cj br dT))
 have a:=((F_ [] w).alloc _).hK (Gr.iX br) (λx hx=>by have:=jJ.1 hx;simp[Value.ownBlock]at this;right;omega);have aZ:Sl w2 9 1 b9 8 (hV.map Value.string):=Sl.iT cj;clear cj br dT
 go_loopw [5,12] (λov ap w'=>∃(k:Nat) (d:OA) (g:Nat) (ss:List ST),k<=8/\ap=i_ k/\ss.length=k/\ov=.slice d ss.length g/\lC hV bp (D+1) k w' d g ss/\ss.map ST.name=hV.take k/\(∀s∈ss,s.h6=1)/\Gr [] w w'/\Sl w' 9 1 b9 8 (hV.map Value.string)/\w2.heap.size<=w'.heap.size) (λ_ ap _=>8-(intOf ap).toNat)
 case atStart=>exact⟨0,none,0,[],o_,rfl,rfl,rfl,lC.nil _ _ _ _,rfl,(by intro s hs;cases hs),a,aZ,H_ _⟩
 case round=>
  obtain⟨k,d,g,ss,hk,rfl,az,rfl,hL,d2,E,ar,h,V⟩:=hrel;have bQ:=h_ az;have eZ:=h_ d2;have aF:=hL.own;rw[az]at aF |-;clear az d2 aZ a
  by_cases ag:k<8
  .obtain⟨s,hs,l,aO⟩:=Cj k ag;have bB:=h_ aO;obtain⟨b,off,m,j⟩:=h.f_ o_;subst m;have ad:=j k (.string s) (by rw[E7,l];rfl);clear aO l j
   go_wp2_with (first|(go_at_call 144;refine(j7 0 _).mono ?_;rintro e ae⟨rfl,S⟩)|(go_at_call 142;refine(kG ae.heap.size s (jy 0) ae (H_ _) (kk.leaf _ _ _ _ _ _)).mono ?_;rintro e T⟨As,rfl,O,Z⟩;have z:=iK (iK (iK aF S) Z) ((F_ [] T).alloc (.cells (iZ s As (jy 0)).g_ 229));have hbs:bp<=(T.alloc (.cells (iZ s As (jy 0)).g_ 229)).heap.size:=(by have:=S.size;have:=Z.size;have:=ar.size;simp;omega);simp only[iZ,ST.ip])|(at_builtin;refine j4 rfl _ _ _ rfl bp 229 i1 _ 8 128 underlying211 bM ca ce cp rfl d_ d_ d k g (ss.flatMap ST.E) rfl z _ 1 1 ([iZ s As (jy 0)].flatMap ST.E) rfl (q0 (iZ s As (jy 0)) (P_ T 229 _)) (kX _) o_ hbs ?_;intro aY c5 Y am bC bw))
   go_roundw
   case rel=>
    have cr:=bQ.out;subst cr;have e5:lC hV bp (D+1) ss.length (T.alloc (.cells (iZ s As (jy 0)).g_ 229)) d g ss:=((hL.iy S s_).iy Z s_).iy ((F_ [] T).alloc _) s_
    have M:jK (yM bp (Value.slice d ss.length g).ownBlock) (T.alloc (.cells (iZ s As (jy 0)).g_ 229)) (iZ s As (jy 0)):=by
     have h3:=S.size;have au:=ar.size;refine(O.imp λx hx=>⟨?_,λhe=>?_⟩).hG ((F_ [] T).alloc _)
     .have:ae.heap.size<=x:=hx
      omega
     .have h1:=(ku aF he).2
      have:ae.heap.size<=x:=hx
      omega
    have p:lR hV (D+1) 1 [iZ s As (jy 0)]:=SG.leaf (.uU _ hs) rfl rfl (by intro u hu;rcases L_.1 hu with rfl|hu;exact .num _ _ o_ o_;cases hu);have da:=e5.add (us:=[iZ s As (jy 0)]) am bC bw (λu hu=>by have:u=iZ s As (jy 0):=(zu hu);subst this;exact M) p;have ah:=Gr.iX bC;have bT:=(((ar.trans S).trans Z).alloc _).hK ah (λx hx=>by have:=(ku aF (jJ.1 hx)).1;right;omega);refine⟨ss.length+1,aY,c5,ss++[iZ s As (jy 0)],o_,gn,s_,s_,by simpa using da,by rw[EL,eZ.out,bB.out];rfl,?_,bT,?_,?_⟩
    .intro u hu
     rcases X_.1 hu with hu|hu
     .exact E u hu
     .have:u=iZ s As (jy 0):=(zu hu)
      subst this
      rfl
    .exact(App.iX z bC).sl (((h.hG S).hG Z).alloc _) d_
    .have:=S.size
     have:=Z.size
     have:=ah.size
     simp at this;omega
   case measure=>exact mz
  .have ep:k=8:=o_;subst ep
   go_wp2_with (at_builtin;refine j4 rfl _ _ _ rfl bp 229 i1 _ 8 128 underlying211 bM ca ce cp rfl d_ d_ d 8 g (ss.flatMap ST.E) rfl aF A n c (ls.flatMap ST.E) rfl (hl.hG ar) (kX _) o_ (ov ar.size) ?_;intro aY c5 Y am bC bw)
   have cr:=bQ.out;have J:=aW.out;subst J;rw[ak.out];have ah:=Gr.iX bC
   have mV:∀x∈oA (Value.slice d ss.length g).ownBlock,bp<=x:=λx hx=>(ku hL.own (jJ.1 hx)).1
   have o:∀x∈oA (Value.slice d 8 g).ownBlock,bp<=x:=by rw[<-cr];exact mV
   have da:=(hL.le cC).add (K:=N) (us:=ls) (c':=c5) (A':=aY) (by rw[cr];exact oi am cC) (by rw[cr];exact bC) (by rw[cr];exact bw) (λu hu=>((q u hu).lt.imp (λx hx=>⟨hx.1,λhe=>by have:=mV x (jJ.2 he);have:=hx.2;omega⟩)).hG ar) bO;refine⟨aY,c5,ss,by rw[J_,cr];rfl,?_,by rw[eZ.out];rfl,E,ar.hK ah (λx hx=>by have:=o x hx;right;omega),?_,?_⟩
   .simpa[cr]using da
   .exact G_ ar.size ah.size
   .intro x hx;rw[J_,cr]at hx
    have:=ku am hx
    omega
end Go.Proofs.YtenbhdilndfaeaaGreat
