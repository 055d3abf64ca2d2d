import Derived.Test.YtenbhdilndfaeaaGreatM21
set_option maxRecDepth 100000
set_option maxHeartbeats 0
set_option linter.all false
namespace Go.Proofs.YtenbhdilndfaeaaGreat
open Go.RowKit Go.Proofs.Tryz
variable{G:Prop}{M:List Nat}{tr:TypeId}{V:List ByteArray}{i k:Nat}(p:Nat)
def Ir(h:G:=by
 obtain⟨W,aO⟩:=nm_ w1;rw[<-aO]at hd hm hR MZ |-;clear aO;have aW:Ex B g m R0 229 #[q_ g,Y left,Y loops,Y fn] S_ W W:=⟨hd,hm,hR,H [g] W⟩;refine iP (Ex B g m R0 229 #[q_ g,Y left,Y loops,Y fn] S_ W) (λ_ ae=>∃t,Bk ae R0 229 t.g_/\jL (jD (R0+1)) ae t/\SG hU 1 1 t/\iQ ae B g/\I [g,R0] W ae) (I [g,R0]) [SU.val _ (.string v),SU.val _ (q_ m),SU.tree am (1),SU.stmt am (1) (1),SU.any _] (SU.any _) [[],[],[1],[0,2],[3]] true [(some 125,0),(some 126,1),(some 127,2),(some 128,3),(none,4)] k_ k_ (λ_ _ _ _ _ h=>h) k_ rfl rfl k_ aW ⟨?_,?_,?_,?_,?_,trivial⟩ ?_
 .exact Lb
 .exact Lb
 .refine hS [(some 126,1)] ?_;exact Jx
 .refine hS [(some 125,0),(some 127,2)] ?_;exact Je
 .refine jv [(some 128,3)] ?_;exact Jy
 exact KJ):G:=h
def Iw(h:G:=by
 obtain⟨t,K,S,MX,ao,d1⟩:∃(t:ST) (K:Nat),Bk MT R7 229 t.g_/\jL (jD (R0+1)) MT t/\SG hU (4-p) K t/\(K:Int)+2*l<=2+2*left:=by
  refine⟨(ST.mk 5 n i6 0 0 (j_ x) 2 [jz 0,jz r] A c ts none 0 []),1+N,(by have:=a2.out;subst this;exact ak),jL.node _ _ _ _ _ _ _ _ (sX (jz 0) (jz r) bn) (H_ _) (λy off h=>by injection h with h;injection h with h;omega) ?_ (ah.le X) (lH.nil _ _ _ _),?_,by push_cast;omega⟩
  .intro u hu
   rcases M_.1 hu with rfl|hu
   .exact kq.leaf _ _ _ _ _ _
   .rcases M_.1 hu with rfl|hu
    .exact kq.leaf _ _ _ _ _ _
    .cases hu
  .have hD:4-p=(4-(p+1))+1:=X;rw[hD];refine SG.loop (t:=(ST.mk 5 n i6 0 0 (j_ x) 2 [jz 0,jz r] A c ts none 0 [])) (.Aw _ aG.out) rfl ?_ ah.sg;intro u hu
   rcases M_.1 hu with rfl|hu
   .exact .num _ _ X X
   .rcases M_.1 hu with rfl|hu
    .exact .num _ _ X X
    .cases hu
 clear ak ah bn;exact IK):G:=h
def Ix(h:G:=by
 go_upto_region 3 with fail
 clear MU;obtain⟨W,aO⟩:=nm_ w1;rw[<-aO]at hd hm hR MZ |-;clear aO;have aW:Ex B g m R0 229 #[q_ g,Y left,Y loops,Y fn] S_ W W:=⟨hd,hm,hR,H [g] W⟩;refine iP (Ex B g m R0 229 #[q_ g,Y left,Y loops,Y fn] S_ W) (λ_ ae=>∃t,Bk ae R0 229 t.g_/\jL (jD (R0+1)) ae t/\SG hU 1 1 t/\iQ ae B g/\I [g,R0] W ae) (I [g,R0]) [SU.val _ (q_ m),SU.stmt am (1) (1),SU.any _] (SU.any _) [[],[0],[1]] true [(some 26,0),(some 27,1),(none,2)] k_ k_ (λ_ _ _ _ _ h=>h) k_ rfl rfl k_ aW ⟨?_,?_,?_,trivial⟩ ?_
 .exact Lb
 .exact Jq
 .exact Jr
 intro vs bu C;simp only[b_];obtain⟨t,aB,MX,ao,aX,G⟩:=C;go_wp2;exact rr_ t.g_ aB underlying229 ⟨t,1,left,rfl,MX.le X,lX.mono ao X,hl0,Gg _,X,hm.gr G p_,aX,(MZ.hJ G p_).mono J⟩):G:=h
def IK(h:G:=by
 obtain⟨ax,cn⟩:=nm_ MT;rw[<-cn]at S MX br az aF F |-;clear cn;have au:=az.f_ 2;have aZ:=az.hG 2;have c9:IntKind.i64.wrap (loops+1-1)=loops+1-1:=F5 _ X
 go_upto_region 18 with fail
 clear au aZ c9;have bo:I [m] ax (ax.setCell (Z m 2) (Y loops)):=(H [m] ax).setCell (.inl J) _;replace az:Bk (ax.setCell (Z m 2) (Y loops)) m 222 #[q_ g,Y l,Y loops,Y fn]:=az.hV 2 _;replace br:=br.ih bo p_;replace aF:=aF.gr bo p_;replace S:=S.gr bo p_;replace MX:=MX.ih bo p_;replace F:I [g,m] w (ax.setCell (Z m 2) (Y loops)):=F.trans (bo.mono J);clear bo;obtain⟨aJ,cK⟩:=nm_ (ax.setCell (Z m 2) (Y loops));rw[<-cK]at S MX br az aF F |-;clear cK
 go_wp2_with (first|(refine kV S underlying229 ?_)|(refine kS (t.g_) aF (ST.one _) ?_;intro ae aB G))
 exact rr_ t.g_ aB underlying229 ⟨t,K,l,rfl,(MX.ih G J).le X,ao,cy,d3,d1,az.gr G p_,br.ih G p_,F.hJ G p_⟩):G:=h
def IR(h:G:=by
 intro vs Q C M0 K MY;obtain⟨o,aL,⟨Ac,cc,tc,cU,lc,ec,bM,de,df,dJ,cX⟩, -⟩:=M0;replace o:_=_:=o;replace aL:_=_:=aL
 try simp only[b_,o,aL,ec]at MY |-
 obtain⟨cH,ev,eD,cG⟩:=cX;go_simp
 go_at_call 139
 refine(bl (P+1) 1 cH loops _ (ov aS.out) X X C.d cG hBm X X hq0 (by push_cast;omega)).mono ?_;rintro e w1⟨A,c,ts,N,l,rfl,_,cp,cy,d3,bA,cC,bK,a7⟩;exact MY.out _ _ (C.kT a7 bK ⟨l,cy,Gg _,cC⟩ X eW aM) ⟨a7.mono J,λhi⟨q,ao,bR,cW⟩=>⟨l,cy,ov (sy cW cG),cC⟩⟩ ⟨Ac,cc,tc,cU,A,c,ts,N,l,ec,(bM.iz a7 p_),rfl,cp.le C.r.lt,cy,X,X,⟨l,cy,Gg _,cC⟩⟩):G:=h
def I0(h:G:=by
 intro vs Q C M0 K MY;obtain⟨o,aL, -⟩:=M0;replace o:_=_:=o;replace aL:_=_:=aL
 try simp only[b_,o,aL]at MY |-
 obtain⟨cH,ev,eD,cG⟩:=C.lf;go_simp
 go_at_call 139
 refine(bl (P+1) 2 cH loops _ (ov aS.out) X X C.d cG hBm X X hq0 (by push_cast;omega)).mono ?_;rintro e w1⟨A,c,ts,N,l,rfl,_,cp,cy,d3,bA,cC,bK,a7⟩;exact MY.out _ _ (C.kT a7 bK ⟨l,cy,Gg _,cC⟩ X eW aM) ⟨a7.mono J,λhi⟨q,ao,bR,cW⟩=>⟨l,cy,ov (sy cW cG),cC⟩⟩ ⟨A,c,ts,N,l,rfl,cp.le C.r.lt,cy,X,X,⟨l,cy,Gg _,cC⟩⟩):G:=h
def Je(h:G:=by
 intro vs Q C M0 K MY;obtain⟨o,⟨aI,aL,V,d⟩, -⟩:=M0;replace o:_=_:=o
 try simp only[b_,o,aL]at MY |-
 go_simp
 go_at_call 142
 refine(kJ (R0+1) _ _ _ C.r.lt V).mono ?_;rintro e w1⟨A,rfl,MX,hg1⟩;exact MY.out _ _ (C.hF hg1) (hg1.mono J) ⟨i4 _ A _,rfl,MX,SG.leaf (.vb _ az.out) rfl rfl (by intro u hu;rcases M_.1 hu with rfl|hu;exact d.mono X;cases hu)⟩):G:=h
def Ji(h:G:=by
 intro vs Q C M0 K MY;obtain⟨⟨ta,ey,bj,o,aq,E,ed,ef,eg,dK⟩, -⟩:=M0
 try simp only[b_,o]at MY |-
 refine iZ k_ ?_;refine ia 229 rfl R0 r_ ta.g_ r_ 229 C.r rfl k_ (ST.one _) ?_;intro ae aB G;obtain⟨cH,da,dt,dG⟩:=dK;exact MY.out undef _ (λ_=>⟨ta,ey,cH,aB,aq.ih G J,E,da,X,X,dG.gr G p_,C.d.ih G p_,(C.g.mono J).trans (G.mono J)⟩)):G:=h
def Jq(h:G:=by
 refine hS [(some 26,0)] ?_;intro vs Q C M0 K MY;obtain⟨o, -⟩:=M0;replace o:_=_:=o
 try simp only[b_,o]at MY |-
 go_simp
 go_at_call 207
 refine(qe B g m left loops fn C.d C.m hBm).mono ?_;exact K4):G:=h
def Jr(h:G:=by
 refine jv [(some 27,1)] ?_;exact Jy):G:=h
def Jx(h:G:=by
 intro vs Q C M0 K MY;obtain⟨o, -⟩:=M0;replace o:_=_:=o
 try simp only[b_,o]at MY |-
 go_simp
 go_at_call 218
 refine(px B g m left loops fn C.d C.m hBm).mono ?_;exact K4):G:=h
def JA(h:G:=by
 refine hS [(some 28,0),(some 33,5)] ?_;exact JO):G:=h
def JB(h:G:=by
 intro f vs Q hf C M0 K MY;obtain⟨o, -⟩:=M0;replace o:_=_:=o
 try simp only[b_,o]at MY |-
 go_simp
 go_at_call 145
 refine(ke _).mono ?_;rintro e w1⟨rfl,hg1⟩;exact MY.out _ _ (C.hF hg1) (hg1.mono J) ⟨jA n,rfl,kq.leaf _ _ _ _ _ _,.var _ _ aG.out⟩):G:=h
def JE(h:G:=by
 refine hS [(some 31,3)] ?_;exact JM):G:=h
def JI(h:G:=by
 refine hS [] ?_;intro vs Q C M0 K MY;clear M0
 try simp only[b_]at MY |-
 go_simp
 go_at_call 177
 refine(lT).mono ?_;rintro e w1⟨rfl,rfl⟩;exact LG):G:=h
def JN(h:G:=by
 intro vs Q C M0 K MY;obtain⟨⟨a6,o,cR,bT⟩, -⟩:=M0
 try simp only[b_,o]at MY |-
 go_simp
 go_at_call 144
 refine(kb a6).mono ?_;rintro e w1⟨rfl,hg1⟩;exact MY.out _ _ (C.hF hg1) (hg1.mono J) ⟨a6,X,X,rfl⟩):G:=h
def JX(h:G:=by
 intro f vs Q hf C M0 K MY;obtain⟨o, -⟩:=M0;replace o:_=_:=o
 try simp only[b_,o]at MY |-
 obtain⟨c7,j,ct,zs,fw,cQ⟩:=id C;have MV:=j.f_ 0;have z:=zs.f_ 6;exact MG):G:=h
def J2(h:G:=by
 intro vs Q C M0 K MY;obtain⟨o, -⟩:=M0;replace o:_=_:=o
 try simp only[b_,o]at MY |-
 obtain⟨c7,j,ct,zs,eh,cQ⟩:=id C;have MV:=j.f_ 0;have bz:=zs.f_ 5;exact MG):G:=h
def J7(h:G:=by
 intro vs Q C M0 K MY;obtain⟨o, -⟩:=M0;replace o:_=_:=o
 try simp only[b_,o]at MY |-
 have bQ:IntKind.i64.wrap (P+1)=P+1:=F5 _ X;exact Mw):G:=h
def Ka(h:G:=by
 intro vs bu C;simp only[b_];obtain⟨t,N,l,aB,MX,ao,dg,dI,cV,cG,aX,G⟩:=C;go_wp2;exact rr_ t.g_ aB underlying229 ⟨t,N,l,rfl,MX.le X,ao,dg,dI,cV,cG,aX,(MZ.mono J).hJ G p_⟩):G:=h
def Kv(h:G:=by
 refine hS [(some 29,1)] ?_;exact KT):G:=h
def Kx(h:G:=by
 refine hS [(some 30,2)] ?_;exact KT):G:=h
def KL(h:G:=by
 intro vs Q C M0 K MY;obtain⟨o, -⟩:=M0;replace o:_=_:=o
 try simp only[b_,o]at MY |-
 exact Mw):G:=h
def KM(h:G:=by
 intro vs Q C M0 K MY;obtain⟨⟨bG,cu,o⟩, -⟩:=M0
 try simp only[b_,o]at MY |-
 go_simp;exact MY.out _ _ C (H _ _) ⟨bG,cu,rfl⟩):G:=h
def KP(h:G:=by
 intro f vs Q hf C M0 K MY;exact Lj):G:=h
def K0(h:G:=by
 refine hS [] ?_;intro vs Q C M0 K MY;clear M0
 try simp only[b_]at MY |-
 exact Mw):G:=h
def Mw(h:G:=by
 go_simp;exact MY.out _ _ C (GL.js (H [] _)) rfl):G:=h
def BM:∀k,k<5->∃s,s∈hU/\l7[k]?=some (.string s)
 |0,_=>⟨vU,by simp[hU],rfl⟩
 |1,_=>⟨u0,by simp[hU],rfl⟩
 |2,_=>⟨vi,by simp[hU],rfl⟩
 |3,_=>⟨pa,by simp[hU],rfl⟩
 |4,_=>⟨m6,by simp[hU],rfl⟩
def DO:∀k,k<2->∃s,s∈hU/\(#[.string {data:=#[115]},.string {data:=#[97]}]:Array Value)[k]?=some (.string s)
 |0,_=>⟨vi,by simp[hU],rfl⟩
 |1,_=>⟨vU,by simp[hU],rfl⟩
def DP:∀k,k<4->∃r:Int,(r=1∨r=6∨r=9)/\(#[Y 1,Y 6,Y 9,Y 1]:Array Value)[k]?=some (Y r)
 |0,_=>⟨1,J,rfl⟩
 |1,_=>⟨6,J,rfl⟩
 |2,_=>⟨9,J,rfl⟩
 |3,_=>⟨1,J,rfl⟩
def DN:∀k,k<2->∃r:Int,(r=7∨r=8)/\(#[Y 8,Y 7]:Array Value)[k]?=some (Y r)
 |0,_=>⟨8,J,rfl⟩
 |1,_=>⟨7,J,rfl⟩
def qe(B g m:Nat)(left loops fn:Int){w:World}(hd:iQ w B g)(hm:Bk w m 222 #[q_ g,Y left,Y loops,Y fn])(hBm:B<=m):
 Calls prog 207 #[q_ m] w λe w'=>∃t,e=.returned (.agg t.g_)/\jL (jD w.heap.size) w' t/\SG hU 1 1 t/\iQ w' B g/\I [g] w w':=by
 have bt:=hd.xw;have cw:=hm.lt
 go_enter func207,ntmps207
 go_upto_region 1 with fail
 have bg:I [] w (w.alloc (.cells S_ 229)):=(H [] w).alloc _;replace hd:=hd.hF bg;replace hm:=hm.hF bg;have hR:=P_ w 229 S_;have MZ:I [g] w (w.alloc (.cells S_ 229)):=(H [g] w).alloc _;clear bg;obtain⟨bw,b9⟩:=nm_ (w.alloc (.cells S_ 229));rw[<-b9]at hd hm hR MZ |-;clear b9;obtain⟨R0,cA⟩:=nm_ w.heap.size;rw[<-cA]at hR |-;have dw:w.heap.size<=R0:=X;have cY:g<R0:=X;have ad:B<=R0:=X;have c8:m<R0:=ov cw;clear cA;have am:∀ag∈[g,R0],ag<R0+1:=p_;have af:m≠g:=X;have aM:R0≠g:=X;obtain⟨W,aO⟩:=nm_ bw;rw[<-aO]at hd hm hR MZ |-;clear aO;have aW:Ex B g m R0 229 #[q_ g,Y left,Y loops,Y fn] S_ W W.drew:=⟨hd.hF (H [] W).drew,hm.hF (H [] W).drew,hR.hF (H [] W).drew,(H [g] W).drew⟩;refine ki (Ex B g m R0 229 #[q_ g,Y left,Y loops,Y fn] S_ W) (λ_ _=>True) (I [g,R0]) [SU.BH am 9 l7 5,SU.val _ (q_ m),SU.val _ (q_ m),SU.val _ (q_ m),SU.val _ (q_ g),SU.BH am 9 l7 5,SU.val _ (Y 5),SU.num _ 0 5,SU.elem am 9 l7 5,SU.pure _ (λv=>∃s,s∈hU/\v=.string s),SU.pure _ (λv=>∃s,s∈hU/\v=.string s)] (SU.any _) [[],[],[1],[2],[3],[],[5],[4,6],[0,7],[8],[9]] false [(some 4,0),(some 5,1),(some 6,2),(some 7,3),(some 8,4),(some 9,5),(some 10,6),(some 11,7),(some 12,8),(some 13,9),(some 3,10)] k_ k_ k_ (λ_ _ _ _ _ h=>h) k_ rfl rfl k_ aW ⟨?_,?_,?_,?_,?_,?_,?_,?_,?_,?_,?_,trivial⟩ ?_
 .exact JI
 .exact Lb
 .refine hS [(some 5,1)] ?_;exact KT
 .refine hS [(some 6,2)] ?_;exact KT
 .refine hS [(some 7,3)] ?_;exact JM
 .exact JI
 .refine hS [(some 9,5)] ?_;intro vs Q C M0 K MY;obtain⟨⟨be,o,bj,bi⟩, -⟩:=M0
  try simp only[b_,o]at MY |-
  exact MG
 .refine hS [(some 8,4),(some 10,6)] ?_;intro vs Q C M0 K MY;obtain⟨o,aL, -⟩:=M0;replace o:_=_:=o;replace aL:_=_:=aL
  try simp only[b_,o,aL]at MY |-
  exact Kj
 .refine hS [(some 4,0),(some 11,7)] ?_;exact JO
 .refine hS [(some 12,8)] ?_;intro vs Q C M0 K MY;obtain⟨⟨be,E,o,bT,bj,bi⟩, -⟩:=M0
  try simp only[b_,o]at MY |-
  obtain⟨s,hs,aH⟩:=BM E X;exact L9
 .refine hS [(some 13,9)] ?_;exact KM
 rintro vs bu⟨C,M0⟩;obtain⟨⟨aV,aT,MS,aR⟩,T,S,F,Z,⟨bR,bW,dF,ez⟩,dC,⟨p,dZ,ai,cO⟩,⟨bN,eM,d0,cZ,ah,ed⟩,⟨cJ,aw,cS⟩,⟨aj,ak,e10⟩, -⟩:=M0;replace T:vs 1=q_ m:=T;replace S:vs 2=q_ m:=S;replace F:vs 3=q_ m:=F;replace Z:vs 4=q_ g:=Z;replace dC:vs 6=Y 5:=dC;simp only[b_,aT,T,S,F,Z,bW,dC,dZ,d0,cS,e10];clear aT T S F Z bW dC dZ d0 cS e10;obtain⟨v,hv,bU⟩:∃v,v∈hU/\v=aj:=⟨aj,ak,rfl⟩;rw[<-bU];have az:=U hv;clear bU hv;clear hd hm hR;obtain⟨hd,hm,hR,G⟩:=C;replace MZ:=MZ.trans G;clear G;have MV:=hm.f_ 0
 go_upto_region 3 with(go_at_call 19;refine(iw B g 13 hd X X).mono ?_;rintro e w1⟨k,rfl,cg,bZ,bK,P⟩)
 clear MV;replace hm:=hm.gr P p_;replace hR:=hR.gr P p_;replace MZ:=MZ.trans P;replace hd:=bK;clear P
 rcases(by omega:(k=0∨k=1)∨(k=2)∨(k=3∨k=4)∨(k=5∨k=6)∨(k=7)∨(k=8)∨(k=9)∨(k=10)∨(k=11)∨(k=12))with cg|bZ|bq|b7|bP|dV|bS|eY|eu|dr
 .rcases cg with rfl|rfl
  all_goals
   go_upto_region 5 with fail
   obtain⟨W,aO⟩:=nm_ w1;rw[<-aO]at hd hm hR MZ |-;clear aO;have aW:Ex B g m R0 229 #[q_ g,Y left,Y loops,Y fn] S_ W W:=⟨hd,hm,hR,H [g] W⟩;refine iP (Ex B g m R0 229 #[q_ g,Y left,Y loops,Y fn] S_ W) (λ_ ae=>∃t,Bk ae R0 229 t.g_/\jL (jD (R0+1)) ae t/\SG hU 1 1 t/\iQ ae B g/\I [g,R0] W ae) (I [g,R0]) [SU.val _ (.string v),SU.val _ (q_ m),SU.tree am (2),SU.stmt am (1) (1),SU.any _] (SU.any _) [[],[],[1],[0,2],[3]] true [(some 22,0),(some 23,1),(some 24,2),(some 25,3),(none,4)] k_ k_ (λ_ _ _ _ _ h=>h) k_ rfl rfl k_ aW ⟨?_,?_,?_,?_,?_,trivial⟩ ?_
   .exact Lb
   .exact Lb
   .refine hS [(some 23,1)] ?_;intro vs Q C M0 K MY;obtain⟨o, -⟩:=M0;replace o:_=_:=o
    try simp only[b_,o]at MY |-
    go_simp
    go_at_call 140
    refine(kF B g m left loops fn 2 X _ rfl _ C.d C.m hBm).mono ?_;exact K4
   .refine hS [(some 22,0),(some 24,2)] ?_;exact Je
   .refine jv [(some 25,3)] ?_;exact Jy
   intro vs bu C;simp only[b_];obtain⟨t,aB,MX,ao,aX,G⟩:=C;go_wp2;exact rr_ t.g_ aB underlying229 ⟨t,rfl,MX.le X,ao,aX,MZ.hJ G p_⟩
 .subst bZ
  go_upto_region 7 with fail
  obtain⟨W,aO⟩:=nm_ w1;rw[<-aO]at hd hm hR MZ |-;clear aO;have aW:Ex B g m R0 229 #[q_ g,Y left,Y loops,Y fn] S_ W W.drew:=⟨hd.hF (H [] W).drew,hm.hF (H [] W).drew,hR.hF (H [] W).drew,(H [g] W).drew⟩;refine ki (Ex B g m R0 229 #[q_ g,Y left,Y loops,Y fn] S_ W) (λ_ ae=>∃t,Bk ae R0 229 t.g_/\jL (jD (R0+1)) ae t/\SG hU 1 1 t/\iQ ae B g/\I [g,R0] W ae) (I [g,R0]) [SU.BH am 9 #[.string {data:=#[112]},.string {data:=#[113]}] 2,SU.val _ (q_ m),SU.val _ (q_ m),SU.val _ (q_ m),SU.val _ (q_ g),SU.num _ 0 2,SU.elem am 9 #[.string {data:=#[112]},.string {data:=#[113]}] 2,SU.pure _ (λv=>∃s,s∈hU/\v=.string s),SU.val _ (q_ m),SU.val _ (q_ m),SU.val _ (q_ m),SU.val _ (q_ g),SU.num _ 0 2,SU.pure _ (λv=>∃r:Int,v=Y r/\2<=r/\r<=3),SU.tree am (0),SU.stmt am (1) (1),SU.any _] (SU.any _) [[],[],[1],[2],[3],[4],[0,5],[6],[],[8],[9],[10],[11],[12],[13],[7,14],[15]] true [(some 28,0),(some 29,1),(some 30,2),(some 31,3),(some 32,4),(some 33,5),(some 34,6),(some 35,7),(some 36,8),(some 37,9),(some 38,10),(some 39,11),(some 40,12),(some 41,13),(some 42,14),(some 43,15),(none,16)] k_ k_ k_ (λ_ _ _ _ _ h=>h) k_ rfl rfl k_ aW ⟨?_,?_,?_,?_,?_,?_,?_,?_,?_,?_,?_,?_,?_,?_,?_,?_,?_,trivial⟩ ?_
  .exact Ki
  .exact Lb
  .exact Kv
  .exact Kx
  .exact JE
  .refine hS [(some 32,4)] ?_;exact JD
  .exact JA
  .refine hS [(some 34,6)] ?_;exact J1
  .exact Lb
  .refine hS [(some 36,8)] ?_;exact KT
  .refine hS [(some 37,9)] ?_;exact KT
  .refine hS [(some 38,10)] ?_;exact JM
  .refine hS [(some 39,11)] ?_;exact JD
  .refine hS [(some 40,12)] ?_;intro vs Q C M0 K MY;obtain⟨⟨a,o,cR,bT⟩, -⟩:=M0
   try simp only[b_,o]at MY |-
   have F:IntKind.i64.wrap (2+a)=2+a:=F5 _ X;go_simp;exact MY.out _ _ C (H _ _) ⟨_,rfl,X,X⟩
  .refine hS [(some 41,13)] ?_;intro vs Q C M0 K MY;obtain⟨⟨a,o,cR,bT⟩, -⟩:=M0
   try simp only[b_,o]at MY |-
   go_simp;exact MY.out (.agg (eNew a).g_) _ C (H _ _) ⟨eNew a,rfl,kq.leaf _ _ _ _ _ _,.new _ _ X X⟩
  .refine hS [(some 35,7),(some 42,14)] ?_;intro vs Q C M0 K MY;obtain⟨⟨bG,cu,o⟩,⟨aI,aL,V,d⟩, -⟩:=M0
   try simp only[b_,o,aL]at MY |-
   go_simp
   go_at_call 142
   refine(kJ (R0+1) _ _ _ C.r.lt V).mono ?_;rintro e w1⟨A,rfl,MX,hg1⟩;exact MY.out _ _ (C.hF hg1) (hg1.mono J) ⟨i4 _ A _,rfl,MX,SG.leaf (.vb _ cu) rfl rfl (by intro u hu;rcases M_.1 hu with rfl|hu;exact d.mono X;cases hu)⟩
  .refine jv [(some 43,15)] ?_;exact Jy
  exact KJ
 .rcases bq with rfl|rfl
  all_goals
   go_upto_region 10 with fail
   obtain⟨W,aO⟩:=nm_ w1;rw[<-aO]at hd hm hR MZ |-;clear aO;have aW:Ex B g m R0 229 #[q_ g,Y left,Y loops,Y fn] S_ W W:=⟨hd,hm,hR,H [g] W⟩;refine iP (Ex B g m R0 229 #[q_ g,Y left,Y loops,Y fn] S_ W) (λ_ ae=>∃t,Bk ae R0 229 t.g_/\jL (jD (R0+1)) ae t/\SG hU 1 1 t/\iQ ae B g/\I [g,R0] W ae) (I [g,R0]) [SU.val _ (q_ m),SU.val _ (q_ m),SU.val _ (q_ m),SU.val _ (q_ g),SU.num _ 0 3,SU.val _ (q_ m),SU.tree am (1),SU.val _ (q_ m),SU.tree am (1),SU.trees am 2 2,SU.stmt am (1) (1),SU.any _] (SU.any _) [[],[0],[1],[2],[3],[],[5],[],[7],[6,8],[4,9],[10]] true [(some 47,0),(some 48,1),(some 49,2),(some 50,3),(some 51,4),(some 52,5),(some 53,6),(some 54,7),(some 55,8),(some 56,9),(some 57,10),(none,11)] k_ k_ (λ_ _ _ _ _ h=>h) k_ rfl rfl k_ aW ⟨?_,?_,?_,?_,?_,?_,?_,?_,?_,?_,?_,?_,trivial⟩ ?_
   .exact Lb
   .refine hS [(some 47,0)] ?_;exact KT
   .refine hS [(some 48,1)] ?_;exact KT
   .refine hS [(some 49,2)] ?_;exact JM
   .refine hS [(some 50,3)] ?_;exact JD
   .exact Lb
   .refine hS [(some 52,5)] ?_;exact Jx
   .exact Lb
   .refine hS [(some 54,7)] ?_;exact Ju
   .refine hS [(some 53,6),(some 55,8)] ?_;exact IQ
   .refine hS [(some 51,4),(some 56,9)] ?_;intro vs Q C M0 K MY;obtain⟨⟨a,o,cR,bT⟩,⟨f,aI,aL,nb,L,z,y⟩, -⟩:=M0
    try simp only[b_,o,aL]at MY |-
    go_simp;have aJ:aI.length=_:=nb
    have n:Sl Q 226 5 (j_ f) aI.length (aI.flatMap ET.E):=by rw[aJ];exact z
    have x:(lN 2 i6 i6 a 0 (j_ f) aI.length aI).g_=_:=rfl;simp only[ST.ij,lN,aJ]at x;refine MY.out _ _ C (H _ _) ⟨lN 2 i6 i6 a 0 (j_ f) aI.length aI,?_,jL.es _ _ _ _ _ n L (λu hu=>(y u hu).1),SG.leaf (t:=lN 2 i6 i6 a 0 (j_ f) aI.length aI) (by show mY _ 2 i6 i6 a 0 aI.length _ _;rw[aJ];exact .EI _ X X) rfl rfl (λu hu=>(y u hu).2)⟩
    show Value.agg _=Value.agg (lN 2 i6 i6 a 0 (j_ f) aI.length aI).g_
    exact MO
   .refine jv [(some 57,10)] ?_;exact Jy
   intro vs bu C;simp only[b_];obtain⟨t,aB,MX,ao,aX,G⟩:=C;go_wp2;exact rr_ t.g_ aB underlying229 ⟨t,rfl,MX.le X,ao,aX,MZ.hJ G p_⟩
 .rcases b7 with rfl|rfl
  all_goals
   go_upto_region 13 with fail
   obtain⟨W,aO⟩:=nm_ w1;rw[<-aO]at hd hm hR MZ |-;clear aO;have aW:Ex B g m R0 229 #[q_ g,Y left,Y loops,Y fn] S_ W W.drew:=⟨hd.hF (H [] W).drew,hm.hF (H [] W).drew,hR.hF (H [] W).drew,(H [g] W).drew⟩;refine ki (Ex B g m R0 229 #[q_ g,Y left,Y loops,Y fn] S_ W) (λ_ ae=>∃t,Bk ae R0 229 t.g_/\jL (jD (R0+1)) ae t/\SG hU 1 1 t/\iQ ae B g/\I [g,R0] W ae) (I [g,R0]) [SU.BH am 9 #[.string {data:=#[115]},.string {data:=#[97]}] 2,SU.val _ (q_ m),SU.val _ (q_ m),SU.val _ (q_ m),SU.val _ (q_ g),SU.num _ 0 2,SU.elem am 9 #[.string {data:=#[115]},.string {data:=#[97]}] 2,SU.pure _ (λv=>∃s,s∈hU/\v=.string s),SU.BH am 3 #[Y 1,Y 6,Y 9,Y 1] 4,SU.val _ (q_ m),SU.val _ (q_ m),SU.val _ (q_ m),SU.val _ (q_ g),SU.num _ 0 4,SU.elem am 3 #[Y 1,Y 6,Y 9,Y 1] 4,SU.pure _ (λv=>∃r:Int,(r=1∨r=6∨r=9)/\v=Y r),SU.val _ (q_ m),SU.tree am (1),SU.trees am 2 1,SU.stmt am (1) (1),SU.any _] (SU.any _) [[],[],[1],[2],[3],[4],[0,5],[6],[],[],[9],[10],[11],[12],[8,13],[14],[],[16],[17],[7,15,18],[19]] true [(some 61,0),(some 62,1),(some 63,2),(some 64,3),(some 65,4),(some 66,5),(some 67,6),(some 68,7),(some 69,8),(some 70,9),(some 71,10),(some 72,11),(some 73,12),(some 74,13),(some 75,14),(some 76,15),(some 77,16),(some 78,17),(some 79,18),(some 80,19),(none,20)] k_ k_ k_ (λ_ _ _ _ _ h=>h) k_ rfl rfl k_ aW ⟨?_,?_,?_,?_,?_,?_,?_,?_,?_,?_,?_,?_,?_,?_,?_,?_,?_,?_,?_,?_,?_,trivial⟩ ?_
   .exact Ki
   .exact Lb
   .refine hS [(some 62,1)] ?_;exact KT
   .refine hS [(some 63,2)] ?_;exact KT
   .refine hS [(some 64,3)] ?_;exact JM
   .refine hS [(some 65,4)] ?_;exact JD
   .refine hS [(some 61,0),(some 66,5)] ?_;exact JO
   .refine hS [(some 67,6)] ?_;intro vs Q C M0 K MY;obtain⟨⟨be,E,o,bT,bj,bi⟩, -⟩:=M0
    try simp only[b_,o]at MY |-
    obtain⟨s,hs,aH⟩:=DO E X;exact L9
   .exact Ki
   .exact Lb
   .refine hS [(some 70,9)] ?_;exact KT
   .refine hS [(some 71,10)] ?_;exact KT
   .refine hS [(some 72,11)] ?_;exact JM
   .refine hS [(some 73,12)] ?_;exact JD
   .refine hS [(some 69,8),(some 74,13)] ?_;exact JO
   .refine hS [(some 75,14)] ?_;intro vs Q C M0 K MY;obtain⟨⟨be,E,o,bT,bj,bi⟩, -⟩:=M0
    try simp only[b_,o]at MY |-
    obtain⟨s,hs,aH⟩:=DP E X;exact L9
   .exact Lb
   .refine hS [(some 77,16)] ?_;exact Ju
   .refine hS [(some 78,17)] ?_;exact I7
   .refine hS [(some 68,7),(some 76,15),(some 79,18)] ?_;intro vs Q C M0 K MY;obtain⟨⟨bG,cu,o⟩,⟨rb,mb,aL⟩,⟨O,l,ec,i,lc,c,b⟩, -⟩:=M0
    try simp only[b_,o,aL,ec]at MY |-
    go_simp;have aJ:l.length=_:=i
    have n:Sl Q 226 5 (j_ O) l.length (l.flatMap ET.E):=by rw[aJ];exact c
    have x:(lN 12 bG i6 0 rb (j_ O) l.length l).g_=_:=rfl;simp only[ST.ij,lN,aJ]at x;refine MY.out _ _ C (H _ _) ⟨lN 12 bG i6 0 rb (j_ O) l.length l,?_,jL.es _ _ _ _ _ n lc (λu hu=>(b u hu).1),SG.leaf (t:=lN 12 bG i6 0 rb (j_ O) l.length l) (by show mY _ 12 bG i6 0 rb l.length _ _;rw[aJ];exact .red _ cu _ mb) rfl rfl (λu hu=>(b u hu).2)⟩
    show Value.agg _=Value.agg (lN 12 bG i6 0 rb (j_ O) l.length l).g_
    exact MO
   .refine jv [(some 80,19)] ?_;exact Jy
   intro vs bu C;simp only[b_];obtain⟨t,aB,MX,ao,aX,G⟩:=C;go_wp2;exact rr_ t.g_ aB underlying229 ⟨t,rfl,MX.le X,ao,aX,MZ.hJ G p_⟩
 .subst bP
  go_upto_region 15 with fail
  obtain⟨W,aO⟩:=nm_ w1;rw[<-aO]at hd hm hR MZ |-;clear aO;have aW:Ex B g m R0 229 #[q_ g,Y left,Y loops,Y fn] S_ W W:=⟨hd,hm,hR,H [g] W⟩;refine iP (Ex B g m R0 229 #[q_ g,Y left,Y loops,Y fn] S_ W) (λ_ ae=>∃t,Bk ae R0 229 t.g_/\jL (jD (R0+1)) ae t/\SG hU 1 1 t/\iQ ae B g/\I [g,R0] W ae) (I [g,R0]) [SU.val _ (q_ m),SU.tree am (1),SU.trees am 2 1,SU.stmt am (1) (1),SU.any _] (SU.any _) [[],[0],[1],[2],[3]] true [(some 83,0),(some 84,1),(some 85,2),(some 86,3),(none,4)] k_ k_ (λ_ _ _ _ _ h=>h) k_ rfl rfl k_ aW ⟨?_,?_,?_,?_,?_,trivial⟩ ?_
  .exact Lb
  .refine hS [(some 83,0)] ?_;exact Ju
  .refine hS [(some 84,1)] ?_;exact I7
  .refine hS [(some 85,2)] ?_;intro vs Q C M0 K MY;obtain⟨⟨be,ta,o,O,bj,bi,l⟩, -⟩:=M0
   try simp only[b_,o]at MY |-
   go_simp;have aJ:ta.length=_:=O
   have n:Sl Q 226 5 (j_ be) ta.length (ta.flatMap ET.E):=by rw[aJ];exact bi
   have x:(lN 10 i6 i6 0 0 (j_ be) ta.length ta).g_=_:=rfl;simp only[ST.ij,lN,aJ]at x;refine MY.out _ _ C (H _ _) ⟨lN 10 i6 i6 0 0 (j_ be) ta.length ta,?_,jL.es _ _ _ _ _ n bj (λu hu=>(l u hu).1),SG.leaf (t:=lN 10 i6 i6 0 0 (j_ be) ta.length ta) (by show mY _ 10 i6 i6 0 0 ta.length _ _;rw[aJ];exact .EM) rfl rfl (λu hu=>(l u hu).2)⟩
   show Value.agg _=Value.agg (lN 10 i6 i6 0 0 (j_ be) ta.length ta).g_
   exact MO
  .refine jv [(some 86,3)] ?_;exact Jy
  exact KJ
 .subst dV
  go_upto_region 17 with fail
  obtain⟨W,aO⟩:=nm_ w1;rw[<-aO]at hd hm hR MZ |-;clear aO;have aW:Ex B g m R0 229 #[q_ g,Y left,Y loops,Y fn] S_ W W:=⟨hd,hm,hR,H [g] W⟩;refine iP (Ex B g m R0 229 #[q_ g,Y left,Y loops,Y fn] S_ W) (λ_ ae=>∃t,Bk ae R0 229 t.g_/\jL (jD (R0+1)) ae t/\SG hU 1 1 t/\iQ ae B g/\I [g,R0] W ae) (I [g,R0]) [SU.val _ (.string v),SU.val _ (q_ m),SU.tree am (1),SU.trees am 2 1,SU.stmt am (1) (1),SU.any _] (SU.any _) [[],[],[1],[2],[0,3],[4]] true [(some 89,0),(some 90,1),(some 91,2),(some 92,3),(some 93,4),(none,5)] k_ k_ (λ_ _ _ _ _ h=>h) k_ rfl rfl k_ aW ⟨?_,?_,?_,?_,?_,?_,trivial⟩ ?_
  .exact Lb
  .exact Lb
  .refine hS [(some 90,1)] ?_;exact Ju
  .refine hS [(some 91,2)] ?_;exact I7
  .refine hS [(some 89,0),(some 92,3)] ?_;intro vs Q C M0 K MY;obtain⟨o,⟨f,aI,aL,nb,L,z,y⟩, -⟩:=M0;replace o:_=_:=o
   try simp only[b_,o,aL]at MY |-
   go_simp;have aJ:aI.length=_:=nb
   have n:Sl Q 226 5 (j_ f) aI.length (aI.flatMap ET.E):=by rw[aJ];exact z
   have x:(lN 11 v i6 0 0 (j_ f) aI.length aI).g_=_:=rfl;simp only[ST.ij,lN,aJ]at x;refine MY.out _ _ C (H _ _) ⟨lN 11 v i6 0 0 (j_ f) aI.length aI,?_,jL.es _ _ _ _ _ n L (λu hu=>(y u hu).1),SG.leaf (t:=lN 11 v i6 0 0 (j_ f) aI.length aI) (by show mY _ 11 v i6 0 0 aI.length _ _;rw[aJ];exact .ask _ az.out) rfl rfl (λu hu=>(y u hu).2)⟩
   show Value.agg _=Value.agg (lN 11 v i6 0 0 (j_ f) aI.length aI).g_
   exact MO
  .refine jv [(some 93,4)] ?_;exact Jy
  exact KJ
 .subst bS
  go_upto_region 19 with fail
  obtain⟨W,aO⟩:=nm_ w1;rw[<-aO]at hd hm hR MZ |-;clear aO;have aW:Ex B g m R0 229 #[q_ g,Y left,Y loops,Y fn] S_ W W:=⟨hd,hm,hR,H [g] W⟩;refine iP (Ex B g m R0 229 #[q_ g,Y left,Y loops,Y fn] S_ W) (λ_ ae=>∃t,Bk ae R0 229 t.g_/\jL (jD (R0+1)) ae t/\SG hU 1 1 t/\iQ ae B g/\I [g,R0] W ae) (I [g,R0]) [SU.tree am (0),SU.val _ (q_ m),SU.tree am (1),SU.tree am (1+1),SU.stmt am (1) (1),SU.any _] (SU.any _) [[],[],[1],[0,2],[3],[4]] true [(some 96,0),(some 97,1),(some 98,2),(some 99,3),(some 100,4),(none,5)] k_ k_ (λ_ _ _ _ _ h=>h) k_ rfl rfl k_ aW ⟨?_,?_,?_,?_,?_,?_,trivial⟩ ?_
  .refine hS [] ?_;intro vs Q C M0 K MY;clear M0
   try simp only[b_]at MY |-
   go_simp
   go_at_call 145
   refine(ke _).mono ?_;rintro e w1⟨rfl,hg1⟩;exact MY.out _ _ (C.hF hg1) (hg1.mono J) ⟨jA vi,rfl,kq.leaf _ _ _ _ _ _,.var _ _ (by simp[hU])⟩
  .exact Lb
  .refine hS [(some 97,1)] ?_;exact Ju
  .refine hS [(some 96,0),(some 98,2)] ?_;intro vs Q C M0 K MY;obtain⟨⟨ta,o,aq,E⟩,⟨aI,aL,V,d⟩, -⟩:=M0
   try simp only[b_,o,aL]at MY |-
   go_simp
   go_at_call 143
   refine(oF (R0+1) 1 ta aI C.r.lt aq V).mono ?_;rintro e w1⟨A,rfl,MX,hg1⟩;exact MY.out _ _ (C.hF hg1) (hg1.mono J) ⟨pY 1 A ta aI,rfl,MX,.bin 1 _ _ _ _ X X (E.mono X) (d.mono X)⟩
  .refine hS [(some 99,3)] ?_;intro vs Q C M0 K MY;obtain⟨⟨ta,o,aq,E⟩, -⟩:=M0
   try simp only[b_,o]at MY |-
   go_simp
   go_at_call 142
   refine(kJ (R0+1) _ _ _ C.r.lt aq).mono ?_;rintro e w1⟨A,rfl,MX,hg1⟩;exact MY.out _ _ (C.hF hg1) (hg1.mono J) ⟨i4 _ A _,rfl,MX,SG.leaf (.vb _ (show vi∈hU by simp[hU])) rfl rfl (by intro u hu;rcases M_.1 hu with rfl|hu;exact E.mono X;cases hu)⟩
  .refine jv [(some 100,4)] ?_;exact Jy
  exact KJ
 .subst eY;have aP:=hm.f_ 3
  by_cases l:fn<2
  .have D:decide (fn<2)=true:=by simp[l]
   go_upto_region 22 with fail
   clear aP;obtain⟨W,aO⟩:=nm_ w1;rw[<-aO]at hd hm hR MZ |-;clear aO;have aW:Ex B g m R0 229 #[q_ g,Y left,Y loops,Y fn] S_ W W:=⟨hd,hm,hR,H [g] W⟩;refine iP (Ex B g m R0 229 #[q_ g,Y left,Y loops,Y fn] S_ W) (λ_ ae=>∃t,Bk ae R0 229 t.g_/\jL (jD (R0+1)) ae t/\SG hU 1 1 t/\iQ ae B g/\I [g,R0] W ae) (I [g,R0]) [SU.val _ (q_ m),SU.val _ (.string v),SU.stmt am (1) (1),SU.any _] (SU.any _) [[],[],[0,1],[2]] true [(some 108,0),(some 109,1),(some 110,2),(none,3)] k_ k_ (λ_ _ _ _ _ h=>h) k_ rfl rfl k_ aW ⟨?_,?_,?_,?_,trivial⟩ ?_
   .exact Lb
   .exact Lb
   .refine hS [(some 108,0),(some 109,1)] ?_;intro vs Q C M0 K MY;obtain⟨o,aL, -⟩:=M0;replace o:_=_:=o;replace aL:_=_:=aL
    try simp only[b_,o,aL]at MY |-
    go_simp
    go_at_call 219
    refine(BG B g m left loops fn v az.out C.d C.m hBm).mono ?_;exact K4
   .refine jv [(some 110,2)] ?_;exact Jy
   exact KJ
  .have D:decide (fn<2)=false:=by simp[l]
   go_upto_region 25 with fail
   clear aP;exact Ir
 .subst eu
  go_upto_region 24 with fail
  obtain⟨W,aO⟩:=nm_ w1;rw[<-aO]at hd hm hR MZ |-;clear aO;have aW:Ex B g m R0 229 #[q_ g,Y left,Y loops,Y fn] S_ W W.drew:=⟨hd.hF (H [] W).drew,hm.hF (H [] W).drew,hR.hF (H [] W).drew,(H [g] W).drew⟩;refine ki (Ex B g m R0 229 #[q_ g,Y left,Y loops,Y fn] S_ W) (λ_ ae=>∃t,Bk ae R0 229 t.g_/\jL (jD (R0+1)) ae t/\SG hU 1 1 t/\iQ ae B g/\I [g,R0] W ae) (I [g,R0]) [SU.BH am 3 #[Y 8,Y 7] 2,SU.val _ (q_ m),SU.val _ (q_ m),SU.val _ (q_ m),SU.val _ (q_ g),SU.num _ 0 2,SU.elem am 3 #[Y 8,Y 7] 2,SU.pure _ (λv=>∃r:Int,(r=7∨r=8)/\v=Y r),SU.val _ (q_ m),SU.tree am (1),SU.trees am 2 1,SU.stmt am (1) (1),SU.any _] (SU.any _) [[],[],[1],[2],[3],[4],[0,5],[6],[],[8],[9],[7,10],[11]] true [(some 113,0),(some 114,1),(some 115,2),(some 116,3),(some 117,4),(some 118,5),(some 119,6),(some 120,7),(some 121,8),(some 122,9),(some 123,10),(some 124,11),(none,12)] k_ k_ k_ (λ_ _ _ _ _ h=>h) k_ rfl rfl k_ aW ⟨?_,?_,?_,?_,?_,?_,?_,?_,?_,?_,?_,?_,?_,trivial⟩ ?_
  .exact Ki
  .exact Lb
  .refine hS [(some 114,1)] ?_;exact KT
  .refine hS [(some 115,2)] ?_;exact KT
  .refine hS [(some 116,3)] ?_;exact JM
  .refine hS [(some 117,4)] ?_;exact JD
  .refine hS [(some 113,0),(some 118,5)] ?_;exact JO
  .refine hS [(some 119,6)] ?_;intro vs Q C M0 K MY;obtain⟨⟨be,E,o,bT,bj,bi⟩, -⟩:=M0
   try simp only[b_,o]at MY |-
   obtain⟨s,hs,aH⟩:=DN E X;exact L9
  .exact Lb
  .refine hS [(some 121,8)] ?_;exact Ju
  .refine hS [(some 122,9)] ?_;exact I7
  .refine hS [(some 120,7),(some 123,10)] ?_;intro vs Q C M0 K MY;obtain⟨⟨a,cu,o⟩,⟨f,aI,aL,nb,L,z,y⟩, -⟩:=M0
   try simp only[b_,o,aL]at MY |-
   go_simp;have aJ:aI.length=_:=nb
   have n:Sl Q 226 5 (j_ f) aI.length (aI.flatMap ET.E):=by rw[aJ];exact z
   have x:(lN a i6 i6 0 0 (j_ f) aI.length aI).g_=_:=rfl;simp only[ST.ij,lN,aJ]at x;refine MY.out _ _ C (H _ _) ⟨lN a i6 i6 0 0 (j_ f) aI.length aI,?_,jL.es _ _ _ _ _ n L (λu hu=>(y u hu).1),SG.leaf (t:=lN a i6 i6 0 0 (j_ f) aI.length aI) (by show mY _ a i6 i6 0 0 aI.length _ _;rw[aJ];exact(by rcases cu with rfl|rfl;exact .ret;exact .EE)) rfl rfl (λu hu=>(y u hu).2)⟩
   show Value.agg _=Value.agg (lN a i6 i6 0 0 (j_ f) aI.length aI).g_
   exact MO
  .refine jv [(some 124,11)] ?_;exact Jy
  exact KJ
 .subst dr
  go_upto_region 25 with fail
  exact Ir
def E8(p:Nat)(B g m:Nat)(left loops fn:Int)(w:World)(e:Ending)(w':World):Prop:=
 ∃(t:ST) (N:Nat) (l:Int),e=.returned (.agg t.g_)/\jL (jD w.heap.size) w' t/\SG hU (4-p) N t/\0<=l/\l<=left/\(N:Int)+2*l<=2+2*left/\Bk w' m 222 #[q_ g,Y l,Y loops,Y fn]/\iQ w' B g/\I [g,m] w w'
def E6(p:Nat)(B g m:Nat)(fn:Int):Prop:=∀(P left loops:Int) (w:World),P=p->iQ w B g->Bk w m 222 #[q_ g,Y left,Y loops,Y fn]->B<=m->0<=left->left<=100->0<=loops->loops<=50+p->
 Calls prog 176 #[q_ m,Y P] w (E8 p B g m left loops fn w)
def EB(p:Nat)(n:Int)(B g m:Nat)(left loops fn:Int)(w:World)(e:Ending)(w':World):Prop:=
 ∃(A:OA) (c:Nat) (ts:List ST) (N:Nat) (l:Int),e=.returned (.slice A ts.length c)/\(ts.length:Int)<=n+1/\lH hU w.heap.size (4-p) N w' A c ts/\0<=l/\l<=left/\(N:Int)+2*l<=2*left/\Bk w' m 222 #[q_ g,Y l,Y loops,Y fn]/\iQ w' B g/\I [g,m] w w'
def ER(p:Nat)(B g m:Nat)(fn:Int):Prop:=∀(P n left loops:Int) (w:World),P=p->0<=n->n<=10->iQ w B g->Bk w m 222 #[q_ g,Y left,Y loops,Y fn]->B<=m->0<=left->left<=100->0<=loops->loops<=50+p->
 Calls prog 139 #[q_ m,Y P,Y n] w (EB p n B g m left loops fn w)
def sx(hp:p<=3)(B g m:Nat)(K:Int)(bu:E6 p B g m K):ER p B g m K:=by
 obtain⟨i1,bS,cj,co,cv⟩:=info_parts infoSt;intro ad y left loops w hP hn0 hn1 hd s hBm hl0 hl1 hq0 hq1;have aS:=U hP;clear hP;have bt:=hd.xw;have cw:=s.lt;have af:m≠g:=X;obtain⟨i,ae⟩:=nm_ (EB p y B g m left loops K w);rw[<-ae];have aq:=U ae;clear ae;have aN:IntKind.i64.wrap (y+1)=y+1:=F5 _ X;have MV:=s.f_ 0
 go_enter func139,ntmps139
 go_wp2_with (go_at_call 19;refine(iw B g (y+1) hd X X).mono ?_;rintro ag w1⟨k,rfl,cg,bZ,bK,Q⟩)
 clear aN MV;replace s:=s.gr Q p_;have P:I [g,m] w w1:=Q.mono J;clear Q hd;obtain⟨j,b9⟩:=nm_ w.heap.size
 have aP:j<=w1.heap.size:=by rw[b9];exact P.size
 have o:=U b9;clear b9
 go_loopw [7,8] (λov S w'=>∃(l:Int) (A:OA) (c:Nat) (ts:List ST) (N:Nat) (d:Int),S=Y l/\ -1<=l/\(ts.length:Int)+l<=y/\ov=.slice A ts.length c/\lH hU j (4-p) N w' A c ts/\0<=d/\d<=left/\(N:Int)+2*d<=2*left/\Bk w' m 222 #[q_ g,Y d,Y loops,Y K]/\iQ w' B g/\I [g,m] w w'/\j<=w'.heap.size) (λ_ S _=>(intOf S+1).toNat)
 case atStart=>exact⟨k,none,0,[],0,left,rfl,X,p_,rfl,lH.nil _ _ _ _,hl0,X,X,s,bK,P,aP⟩
 case round=>
  obtain⟨l,A,c,ts,N,d,rfl,bL,bO,rfl,hL,bj,bz,bA,v,cf,aj,au⟩:=hrel;obtain⟨al,t⟩:=nm_ ts.length;have bl:=U t;have r:=hL.own;rw[<-t]at bO r |-;clear t s bK P
  by_cases am:0<=l/\0<d
  .obtain⟨hg1,M0⟩:=am;have cF:=v.hV 1 (Y (d-1));have n:I [m] wr (wr.setCell (Z m 1) (Y (d-1))):=(H [m] wr).setCell (.inl J) _;have cT:=cf.ih n p_;have MU:=v.f_ 1;have aR:=v.hG 1
   go_upto_region 6 with fail
   clear MU aR
   go_wp2_with (first|(go_at_call 176;refine(bu ad (d-1) loops _ aS.out cT cF hBm X X hq0 hq1).mono ?_;rintro ag f⟨L,an,l2,rfl,MX,bX,cU,ao,MY,dI,et,z⟩;have av:=ns (ns r n (λe a x=>by have:=(kk r x).1;simp at a;have:=cw;have:=o.out;omega)) z (λe a x=>by have:=(kk r x).1;simp at a;have:=o.out;omega);have C:j<=(f.alloc (.cells L.g_ 229)).heap.size:=(by have h1:=n.size;have h2:=z.size;simp;omega);have M:=ns av ((H [] f).alloc (.cells L.g_ 229)) J;obtain⟨h,b⟩:=nm_ L;have u:=U b;rw[<-b]at MX bX M C;clear b;obtain⟨s1,b7,cz,dn,ca,bV,cr,dq,cJ,bG,sb,sc,dL,dM⟩:=L;simp only[ST.ij])|(at_builtin;refine j7 rfl rfl j 229 i1 8 128 underlying211 bS cj co cv rfl O O A al c (ts.flatMap ST.E) rfl (by rw[u.out]at M;exact M) _ 1 1 ([h].flatMap ST.E) rfl (by rw[u.out];exact rc _ (P_ f 229 _)) (kZ) X (by rw[u.out]at C;exact C) ?_;intro ap T MT aI F bD))
   go_roundw
   case rel=>
    have a2:lH hU j (4-p) N (f.alloc (.cells h.g_ 229)) A c ts:=by
     have h1:=hL.iz n (by intro e a;simp at a;have:=o.out;omega);have h2:=h1.iz z (by intro e a;simp at a;have:=o.out;omega);exact h2.iz ((H [] f).alloc _) J
    have b:jL (zf j (Value.slice A al c).ownBlock) (f.alloc (.cells h.g_ 229)) h:=by
     refine(MX.imp λe a=>⟨G_ (G_ au n.size) a,λx=>?_⟩).hF ((H [] f).alloc _);have h1:=(kk r x).2;have h2:=n.size
     have:(wr.setCell (Z m 1) (Y (d-1))).heap.size<=e:=a
     omega
    have t:=bl.out;subst t
    replace F:(f.alloc (.cells h.g_ 229)).grownBy MT (Value.slice A ts.length c).ownBlock:=by rw[u.out];exact F
    replace bD:(Value.slice ap (ts.length+1) T).ownBlock=(Value.slice A ts.length c).ownBlock∨(Value.slice ap (ts.length+1) T).ownBlock=some (f.alloc (.cells h.g_ 229)).heap.size:=by rw[u.out];exact bD
    have db:=a2.add (us:=[h]) aI F bD (λar hu=>by have:ar=h:=(zu hu);subst this;exact b) bX
    have bF:∀e∈oK (Value.slice A ts.length c).ownBlock,j<=e:=λe a=>(kk r (jK.1 a)).1
    have E:=I.iW F;have d2:=Nat.le_of_eq o.out.symm;have aw:m<j:=ov o.out;refine⟨l-1,ap,T,ts++[h],N+an,l2,rfl,X,p_,J,by simpa using db,cU,X,by push_cast;omega,(dI.alloc _).gr E (λa=>by have:=bF m a;omega),(et.hF ((H [] f).alloc _)).ih E (λe a=>by have:=bF e a;omega),?_,?_⟩
    .exact(((aj.trans (n.mono J)).trans z).alloc _).hJ E (λe a=>.inr (ov (bF e a)))
    .exact G_ C E.size
   case measure=>exact mz
  .have a:¬(0<=l)∨(0<=l/\¬(0<d)):=X;have MU:=v.f_ 1
   rcases a with a|⟨a,e⟩
   all_goals
    go_wp2;rw[aq.out,bl.out];exact⟨A,c,ts,N,d,rfl,ov bl.out,by have:=o.out;subst this;exact hL,bj,bz,bA,v,cf,aj⟩
def CW:∀k,k<3->∃s,s∈hU/\(#[.string {data:=#[105]},.string {data:=#[106]},.string {data:=#[107]}]:Array Value)[k]?=some (.string s)
 |0,_=>⟨oL,by simp[hU],rfl⟩
 |1,_=>⟨xt,by simp[hU],rfl⟩
 |2,_=>⟨xq,by simp[hU],rfl⟩
def Lf(g m:Nat)(loops fn hi:Int)(w:World):Prop:=∃l,0<=l/\l<=hi/\Bk w m 222 #[q_ g,Y l,Y loops,Y fn]
def Lf.gr{g m:Nat}{e a d:Int}{w w':World}(h:Lf g m e a d w)(n:I M w w')(o:m∉M):Lf g m e a d w':=by
 obtain⟨q,f,j,l⟩:=h;exact⟨q,f,j,l.gr n o⟩
def Lf.le{g m:Nat}{e d a b:Int}{w:World}(h:Lf g m e d a w)(o:a<=b):Lf g m e d b w:=by
 obtain⟨l,f,n,j⟩:=h;exact⟨l,f,X,j⟩
def GL(M:List Nat)(g m:Nat)(loops fn:Int)(a b:World):Prop:=I M a b/\∀hi,Lf g m loops fn hi a->Lf g m loops fn hi b
def GL.of{g m:Nat}{l e:Int}{a b:World}(h:I [g] a b)(o:g∈M)(d:m≠g):GL M g m l e a b:=⟨h.mono (by intro n j;have:n=g:=(zu j);subst this;exact o),λ_ f=>f.gr h (zu d)⟩
def GL.js{g m:Nat}{f d:Int}{a b:World}(h:I [] a b):GL M g m f d a b:=⟨h.mono J,λ_ e=>e.gr h J⟩
structure Es(B g m R:Nat)(tr:TypeId)(left loops fn:Int)(zc:Array Value)(W w:World):Prop where
 d:iQ w B g
 lf:Lf g m loops fn left w
 r:Bk w R tr zc
 g:I [g,m] W w
def Es.step{B g m R:Nat}{left loops fn:Int}{zc:Array Value}{W w w':World}(h:Es B g m R tr left loops fn zc W w)(a:I [g] w w')(f:iQ w' B g)(d:m≠g)(e:R≠g):Es B g m R tr left loops fn zc W w':=
 ⟨f,h.lf.gr a (zu d),h.r.gr a (zu e),h.g.trans (a.mono J)⟩
def Es.hF{B g m R:Nat}{left loops fn:Int}{zc:Array Value}{W w w':World}(h:Es B g m R tr left loops fn zc W w)(a:I [] w w'):Es B g m R tr left loops fn zc W w':=
 ⟨h.d.hF a,h.lf.gr a J,h.r.hF a,h.g.trans (a.mono J)⟩
def Es.kT{B g m R:Nat}{left l loops fn:Int}{zc:Array Value}{W w w':World}(h:Es B g m R tr left loops fn zc W w)(a:I [g,m] w w')(j:iQ w' B g)(f:Lf g m loops fn l w')(n:l<=left)(d:R≠m)(e:R≠g):Es B g m R tr left loops fn zc W w':=
 ⟨j,f.le n,h.r.gr a (by simp;exact⟨e,d⟩),h.g.trans a⟩
def SU.l1{M:List Nat}{lo:Nat}(z:∀y∈M,y<lo)(D g m:Nat)(left loops fn:Int):SU (λ_=>GL M g m loops fn):=
 SU.of (λv w=>∃(A:OA) (c:Nat) (ts:List ST) (N:Nat) (l:Int),v=.slice A ts.length c/\lH hU lo D N w A c ts/\0<=l/\l<=left/\(N:Int)+2*l<=2*left/\Lf g m loops fn l w)
  (λ_ _ _ hg⟨A,c,ts,N,l,h1,h2,h3,aw,av,aY⟩=>⟨A,c,ts,N,l,h1,h2.iz hg.1 z,h3,aw,av,hg.2 _ aY⟩)
def SU.l2{M:List Nat}{lo:Nat}(z:∀y∈M,y<lo)(i D g m:Nat)(left loops fn:Int):SU (λ_=>GL M g m loops fn):=
 ⟨λvs v w=>∃(A1:OA) (c1:Nat) (a:List ST) (e:Nat) (A:OA) (c:Nat) (ts:List ST) (N:Nat) (l:Int),vs i=.slice A1 a.length c1/\lH hU lo D e w A1 c1 a/\v=.slice A ts.length c/\lH hU lo D N w A c ts/\0<=l/\l<=left/\(e:Int)+N+2*l<=2*left/\Lf g m loops fn l w,
   [],λ_ _ _ _ _ _ hg⟨A1,c1,a,e,A,c,ts,N,l,h1,h2,h3,aw,av,aY,bI,bY⟩=>⟨A1,c1,a,e,A,c,ts,N,l,h1,h2.iz hg.1 z,h3,aw.iz hg.1 z,av,aY,bI,hg.2 _ bY⟩,
   [i],λ_ _ _ _ hv⟨A1,c1,a,e,A,c,ts,N,l,h1,h2⟩=>⟨A1,c1,a,e,A,c,ts,N,l,(hv i J).symm.trans h1,h2⟩⟩
def lH.sl{base D N c:Nat}{w:World}{A:OA}{ts:List ST}(h:lH V base D N w A c ts):Sl w 229 8 A ts.length (ts.flatMap ST.E):=Sl.iR h.own
def lH.from{base D N c:Nat}{w:World}{A:OA}{ts:List ST}(h:lH V base D N w A c ts):∀u∈ts,jL (jD base) w u:=λu a=>(h.jt u a).imp λ_ d=>d.1
def jL.node{d D e F:Nat}{w:World}(k:Int)(x f:ByteArray)(n o:Int)(q:OA)(C:Nat)(es:List ET){r v:OA}{z t:Nat}{E s:List ST}(J:Sl w 226 5 q es.length (es.flatMap ET.E))(I:es.length<=C)(H:∀y h,q=some (Z y h)->d<=y)(K:∀u∈es,kq (jD d) w u)(j:lH V d D e w r z E)(l:lH V d D F w v t s):jL (jD d) w (ST.mk k x f n o q C es r z E v t s):=
 .mk _ J I (λy h a _=>H y h a) K j.sl (iY j.own) (λy h a _=>vR j.own a) j.from l.sl (iY l.own) (λy h a _=>vR l.own a) l.from
def sy{w:World}{g m:Nat}{d b q j f u:Int}(h:Bk w m 222 #[q_ g,Y d,Y q,Y f])(k:Bk w m 222 #[q_ g,Y b,Y j,Y u]):d=b:=by
 have e:w.heap[m]?=_:=h;have a:w.heap[m]?=_:=k;rw[e]at a;simp at a;exact a.1
structure Dg(B g m R R7 x:Nat)(mc zc sc xc:Array Value)(W w:World):Prop where
 d:iQ w B g
 m:Bk w m 222 mc
 r:Bk w R 229 zc
 s:Bk w R7 229 sc
 x:Bk w x 226 xc
 g:I [g] W w
def Dg.step{B g m R R7 x:Nat}{mc zc sc d:Array Value}{W w w':World}(h:Dg B g m R R7 x mc zc sc d W w)(a:I [g] w w')(n:iQ w' B g)(f:m≠g)(j:R≠g)(l:R7≠g)(e:x≠g):Dg B g m R R7 x mc zc sc d W w':=
 ⟨n,h.m.gr a (zu f),h.r.gr a (zu j),h.s.gr a (zu l),h.x.gr a (zu e),h.g.trans a⟩
def Dg.hF{B g m R R7 x:Nat}{mc zc sc d:Array Value}{W w w':World}(h:Dg B g m R R7 x mc zc sc d W w)(a:I [] w w'):Dg B g m R R7 x mc zc sc d W w':=
 ⟨h.d.hF a,h.m.hF a,h.r.hF a,h.s.hF a,h.x.hF a,h.g.trans (a.mono J)⟩
def G2(k:Nat)(M d:List Nat)(i:Nat)(a b:World):Prop:=I (if i=k then d else M) a b
def G2.gr{d:List Nat}{a b:World}(h:G2 k M d i a b)(e:∀y∈M,y∈d):I d a b:=by
 unfold G2 at h;split at h
 .exact h
 .exact h.mono e
def G2.ne{d:List Nat}{a b:World}(h:G2 k M d i a b)(e:i≠k):I M a b:=by
 unfold G2 at h;rw[R_ e]at h;exact h
structure Ws(B g q R R7 base D N:Nat)(A:OA)(c:Nat)(ts:List ST)(mc zc sc:Array Value)(W:World)(b:Bool)(w:World):Prop where
 d:iQ w B g
 m:Bk w q 222 mc
 r:Bk w R 229 zc
 s:Bk w R7 229 sc
 lf:b=false->lH hU base D N w A c ts
 g:I (g::oK (Value.slice A ts.length c).ownBlock) W w
 h1:q<base
 h2:R<base
 h3:R7<base
section
variable{B g m R R7 base D N:Nat}{A:OA}{c:Nat}{ts:List ST}{mc zc sc:Array Value}{W w w':World}{b:Bool}
def Ws.hz(h:Ws B g m R R7 base D N A c ts mc zc sc W b w):W.heap.size<=w.heap.size:=h.g.size
def Ws.step(h:Ws B g m R R7 base D N A c ts mc zc sc W b w)(a:I [g] w w')(n:iQ w' B g)(e:m≠g)(f:R≠g)(j:R7≠g)(d:g<base):Ws B g m R R7 base D N A c ts mc zc sc W b w':=
 ⟨n,h.m.gr a (zu e),h.r.gr a (zu f),h.s.gr a (zu j),λl=>(h.lf l).iz a (zu d),h.g.trans (a.mono J),h.h1,h.h2,h.h3⟩
def Ws.hF(h:Ws B g m R R7 base D N A c ts mc zc sc W b w)(a:I [] w w'):Ws B g m R R7 base D N A c ts mc zc sc W b w':=
 ⟨h.d.hF a,h.m.hF a,h.r.hF a,h.s.hF a,λd=>(h.lf d).iz a J,h.g.trans (a.mono J),h.h1,h.h2,h.h3⟩
def Ws.app(h:Ws B g m R R7 base D N A c ts mc zc sc W b w)(a:I (oK (Value.slice A ts.length c).ownBlock) w w')(e:∀y∈oK (Value.slice A ts.length c).ownBlock,base<=y)(f:B<=base):Ws B g m R R7 base D N A c ts mc zc sc W true w':=
 ⟨h.d.ih a (λo l=>G_ f (e o l)),h.m.gr a (λd=>by have:=e _ d;have:=h.h1;omega),h.r.gr a (λd=>by have:=e _ d;have:=h.h2;omega),h.s.gr a (λd=>by have:=e _ d;have:=h.h3;omega),(λj=>by cases j),h.g.trans (a.mono (by intro y n;simp[n])),h.h1,h.h2,h.h3⟩
end
def zj(l:Int)(h:0<=l):0<=l.tmod 3/\l.tmod 3<3/\0<=l % 3/\l % 3<3:=⟨Int.tmod_nonneg _ h,Int.tmod_lt_of_pos _ X,by omega,by omega⟩
def uT(hp:p<3)(B g m:Nat)(fn:Int)(bl:ER (p+1) B g m fn):E6 p B g m fn:=by
 obtain⟨i1,bS,cj,co,cv⟩:=info_parts infoSt;intro P left loops w hP hd hm hBm hl0 hl1 hq0 hq1;have aS:=U hP;have ea:0<=P:=X;have ce:P<=2:=X;clear hP;have bt:=hd.xw;have cw:=hm.lt
 go_enter func176,ntmps176
 go_upto_region 1 with fail
 have bg:I [] w (w.alloc (.cells S_ 229)):=(H [] w).alloc _;replace hd:=hd.hF bg;replace hm:=hm.hF bg;have hR:=P_ w 229 S_;have MZ:I [g] w (w.alloc (.cells S_ 229)):=(H [g] w).alloc _;clear bg;obtain⟨bw,b9⟩:=nm_ (w.alloc (.cells S_ 229));rw[<-b9]at hd hm hR MZ |-;clear b9;obtain⟨R0,cA⟩:=nm_ w.heap.size;rw[<-cA]at hR |-;have dw:w.heap.size<=R0:=X;have cY:g<R0:=X;have al:B<=R0:=X;have c8:m<R0:=ov cw;clear cA;have am:∀y∈[g,R0],y<R0+1:=p_;have af:m≠g:=X;have aM:R0≠g:=X;have eW:R0≠m:=X;have MV:=hm.f_ 0
 go_upto_region 2 with(go_at_call 19;refine(iw B g 10 hd X X).mono ?_;rintro e w1⟨k,rfl,cg,bZ,bK,a7⟩)
 clear MV;replace hm:=hm.gr a7 p_;replace hR:=hR.gr a7 p_;replace MZ:=MZ.trans a7;replace hd:=bK;clear a7;have bO:¬(3<=P):=X;have MU:=hm.f_ 1
 by_cases dO:left<2
 .exact Ix
 by_cases dV:k<5
 .exact Ix
 have au:=hm.f_ 2
 go_upto_region 4 with fail
 clear MU au;obtain⟨W,aO⟩:=nm_ w1;rw[<-aO]at hd hm hR MZ |-;clear aO;have aW:Ex B g m R0 229 #[q_ g,Y left,Y loops,Y fn] S_ W W:=⟨hd,hm,hR,H [g] W⟩;refine iP (Ex B g m R0 229 #[q_ g,Y left,Y loops,Y fn] S_ W) (λ_ _=>True) (I [g,R0]) [SU.BH am 9 #[.string {data:=#[105]},.string {data:=#[106]},.string {data:=#[107]}] 3,SU.val _ (q_ m),SU.val _ (q_ m),SU.val _ (.pointer (some (Z m 2))),SU.val _ (Y loops),SU.num _ 0 3,SU.elem am 9 #[.string {data:=#[105]},.string {data:=#[106]},.string {data:=#[107]}] 3,SU.pure _ (λa=>∃s,s∈hU/\a=.string s),SU.pure _ (λa=>∃s,s∈hU/\a=.string s)] (SU.any _) [[],[],[1],[2],[3],[4],[0,5],[6],[7]] false [(some 28,0),(some 29,1),(some 30,2),(some 31,3),(some 32,4),(some 33,5),(some 34,6),(some 35,7),(some 6,8)] k_ k_ (λ_ _ _ _ _ h=>h) k_ rfl rfl k_ aW ⟨?_,?_,?_,?_,?_,?_,?_,?_,?_,trivial⟩ ?_
 .exact Ki
 .exact Lb
 .exact Kv
 .exact Kx
 .exact JE
 .refine hS [(some 32,4)] ?_;intro vs Q C M0 K MY;obtain⟨o, -⟩:=M0;replace o:_=_:=o
  try simp only[b_,o]at MY |-
  go_simp;have aE:=zj loops hq0;refine MY.out _ _ C (H _ _) ⟨_,rfl,?_,?_⟩<;>omega
 .exact JA
 .refine hS [(some 34,6)] ?_;intro vs Q C M0 K MY;obtain⟨⟨be,E,o,bT,bj,bi⟩, -⟩:=M0
  try simp only[b_,o]at MY |-
  obtain⟨s,hs,aH⟩:=CW E X;exact L9
 .refine hS [(some 35,7)] ?_;exact KM
 rintro vs bu⟨C,M0⟩;obtain⟨⟨aV,aT,MS,aR⟩,aN,aK,bQ,b8,⟨ep,bW,cx,dk⟩,⟨bp,dQ,dC,d7,bB,dW⟩,⟨cr,dh,dZ⟩,⟨dq,dm,d0⟩, -⟩:=M0;replace aN:vs 1=q_ m:=aN;replace aK:vs 2=q_ m:=aK;replace bQ:vs 3=.pointer (some (Z m 2)):=bQ;replace b8:vs 4=Y loops:=b8;simp only[b_,aT,aN,aK,bQ,b8,bW,dC,dZ,d0];clear aT aN aK bQ b8 bW dC dZ d0;obtain⟨n,cF,bU⟩:∃a,a∈hU/\a=dq:=⟨dq,dm,rfl⟩;rw[<-bU];have aG:=U cF;clear bU cF;clear hd hm hR;obtain⟨hd,hm,hR,G⟩:=C;replace MZ:=MZ.trans G;clear G;obtain⟨w1,a8⟩:=nm_ bu;rw[<-a8]at hd hm hR MZ |-;clear a8
 rcases(by omega:(k=5)∨(k=6)∨(k=7∨k=8∨k=9))with cg|bZ|bq
 .subst cg
  go_upto_region 7 with fail
  obtain⟨W,aO⟩:=nm_ w1;rw[<-aO]at hd hm hR MZ |-;clear aO;have eU:=am;clear am;have am:∀y∈[g,m,R0],y<R0+1:=p_;have aW:Es B g m R0 229 left loops fn S_ W W:=⟨hd,⟨left,hl0,Gg _,hm⟩,hR,H [g,m] W⟩;refine iP (Es B g m R0 229 left loops fn S_ W) (λ_ ae=>∃(t:ST) (N:Nat) (l:Int),Bk ae R0 229 t.g_/\jL (jD (R0+1)) ae t/\SG hU (4-p) N t/\0<=l/\l<=left/\(N:Int)+2*l<=2+2*left/\Bk ae m 222 #[q_ g,Y l,Y loops,Y fn]/\iQ ae B g/\I [g,m,R0] W ae) (GL [g,m,R0] g m loops fn) [SU.val _ (q_ m),(SU.tree am (2)).less (λ_ _ h=>h.1),(SU.trees am 2 1).less (λ_ _ h=>h.1),SU.val _ (q_ m),SU.val _ (Y P),SU.val _ (Y (P+1)),SU.l1 am (4-(p+1)) g m left loops fn,SU.val _ (q_ m),SU.val _ (Y P),SU.val _ (Y (P+1)),SU.l2 am 6 (4-(p+1)) g m left loops fn,SU.of (λa w=>∃(t:ST) (N:Nat) (l:Int),a=.agg t.g_/\jL (jD (R0+1)) w t/\SG hU (4-p) N t/\0<=l/\l<=left/\(N:Int)+2*l<=2+2*left/\Lf g m loops fn l w) (λ_ _ _ v⟨t,N,l,h1,L,T,aw,av,aY,bI⟩=>⟨t,N,l,h1,L.ih v.1 (λx hx=>Gy.2 (am x hx)),T,aw,av,aY,v.2 _ bI⟩),SU.any _] (SU.any _) [[],[0],[1],[],[],[4],[3,5],[],[],[8],[7,9,6],[2,6,10],[11]] true [(some 39,0),(some 40,1),(some 41,2),(some 42,3),(some 43,4),(some 44,5),(some 45,6),(some 46,7),(some 47,8),(some 48,9),(some 49,10),(some 50,11),(none,12)] k_ k_ (λ_ _ _ _ _ h=>h) k_ rfl rfl k_ aW ⟨?_,?_,?_,?_,?_,?_,?_,?_,?_,?_,?_,?_,?_,trivial⟩ ?_
  .exact K0
  .refine hS [(some 39,0)] ?_;intro vs Q C M0 K MY;obtain⟨o, -⟩:=M0;replace o:_=_:=o
   try simp only[b_,o]at MY |-
   obtain⟨cH,ev,eD,cG⟩:=C.lf;go_simp
   go_at_call 140
   refine(kF B g m cH loops fn 2 X _ rfl _ C.d cG hBm).mono ?_;rintro e w1⟨t,rfl,MX,ao,aU,hg1⟩;exact MY.out _ _ (C.step hg1 aU af aM) (GL.of hg1 J af) ⟨t,rfl,MX.le C.r.lt,ao⟩
  .refine hS [(some 40,1)] ?_;intro vs Q C M0 K MY;obtain⟨⟨ta,o,aq,E⟩, -⟩:=M0
   try simp only[b_,o]at MY |-
   obtain⟨bF,bH,bJ,b0,b4,b5,b6⟩:=ta;simp only[ET.ij]at MY |-;go_simp;refine MY.out _ _ (C.hF ((H [] _).alloc _)) (GL.js ((H [] _).alloc _)) ⟨_,[ET.mk bF bH bJ b0 b4 b5 b6],rfl,rfl,C.r.lt,nF (ET.mk bF bH bJ b0 b4 b5 b6) (P_ _ _ _),?_⟩;exact Lu
  .exact K0
  .exact K0
  .refine hS [(some 43,4)] ?_;exact J7
  .refine hS [(some 42,3),(some 44,5)] ?_;exact I0
  .exact K0
  .exact K0
  .refine hS [(some 47,8)] ?_;exact J7
  .refine hS [(some 46,7),(some 48,9),(some 45,6)] ?_;exact IR
  .refine hS [(some 41,2),(some 45,6),(some 49,10)] ?_;intro vs Q C M0 K MY;obtain⟨⟨be,ta,o,cN,bj,bi,c6⟩, -,⟨dx,dD,dN,d2,Ac,cc,tc,cU,lc,d5,dR,ec,bM,de,df,dJ,cX⟩, -⟩:=M0
   try simp only[b_,o,d5,ec]at MY |-
   go_simp;refine MY.out _ _ C (GL.js (H [] _)) ⟨(ST.mk 4 i6 i6 0 0 (j_ be) 1 ta dx dD dN Ac cc tc),1+d2+cU,lc,?_,?_,?_,de,df,by push_cast;omega,cX⟩
   .show Value.agg _=Value.agg (ST.mk 4 i6 i6 0 0 (j_ be) 1 ta dx dD dN Ac cc tc).g_
    simp only[ST.ij,cN]
    rfl
   .exact jL.node _ _ _ _ _ _ _ _ (by rw[cN];exact bi) (by rw[cN];exact H_ _) (λy off h=>by injection h with h;injection h with h;omega) (λu hu=>(c6 u hu).1) dR bM
   .have hD:4-p=(4-(p+1))+1:=X;rw[hD];exact SG.node (t:=(ST.mk 4 i6 i6 0 0 (j_ be) 1 ta dx dD dN Ac cc tc)) (by show mY _ 4 i6 i6 0 0 ta.length true true;rw[cN];exact .D3) (λu hu=>(c6 u hu).2) dR.sg bM.sg
  .refine jv [(some 50,11)] ?_;exact Ji
  exact Ka
 .subst bZ
  go_upto_region 9 with fail
  obtain⟨W,aO⟩:=nm_ w1;rw[<-aO]at hd hm hR MZ |-;clear aO;have eU:=am;clear am;have am:∀y∈[g,m,R0],y<R0+1:=p_;have aW:Es B g m R0 229 left loops fn S_ W W.drew:=⟨hd.hF (H [] W).drew,⟨left,hl0,Gg _,hm.hF (H [] W).drew⟩,hR.hF (H [] W).drew,(H [g,m] W).drew⟩;refine ki (Es B g m R0 229 left loops fn S_ W) (λ_ ae=>∃(t:ST) (N:Nat) (l:Int),Bk ae R0 229 t.g_/\jL (jD (R0+1)) ae t/\SG hU (4-p) N t/\0<=l/\l<=left/\(N:Int)+2*l<=2+2*left/\Bk ae m 222 #[q_ g,Y l,Y loops,Y fn]/\iQ ae B g/\I [g,m,R0] W ae) (GL [g,m,R0] g m loops fn) [(SU.BH am 9 l7 5).less (λ_ _ h=>h.1),SU.val _ (q_ m),SU.val _ (q_ m),SU.val _ (q_ m),SU.val _ (q_ g),SU.num _ 0 3,(SU.elem am 9 l7 5).less (λ_ _ h=>h.1),SU.pure _ (λa=>∃s,s∈hU/\a=.string s),SU.val _ (q_ m),SU.val _ (Y P),SU.val _ (Y (P+1)),SU.l1 am (4-(p+1)) g m left loops fn,SU.val _ (q_ m),SU.val _ (Y P),SU.val _ (Y (P+1)),SU.l2 am 11 (4-(p+1)) g m left loops fn,SU.of (λa w=>∃(t:ST) (N:Nat) (l:Int),a=.agg t.g_/\jL (jD (R0+1)) w t/\SG hU (4-p) N t/\0<=l/\l<=left/\(N:Int)+2*l<=2+2*left/\Lf g m loops fn l w) (λ_ _ _ v⟨t,N,l,h1,L,T,aw,av,aY,bI⟩=>⟨t,N,l,h1,L.ih v.1 (λx hx=>Gy.2 (am x hx)),T,aw,av,aY,v.2 _ bI⟩),SU.any _] (SU.any _) [[],[],[1],[2],[3],[4],[0,5],[6],[],[],[9],[8,10],[],[],[13],[12,14,11],[7,11,15],[16]] true [(some 53,0),(some 54,1),(some 55,2),(some 56,3),(some 57,4),(some 58,5),(some 59,6),(some 60,7),(some 61,8),(some 62,9),(some 63,10),(some 64,11),(some 65,12),(some 66,13),(some 67,14),(some 68,15),(some 69,16),(none,17)] k_ k_ k_ (λ_ _ _ _ _ h=>h) k_ rfl rfl k_ aW ⟨?_,?_,?_,?_,?_,?_,?_,?_,?_,?_,?_,?_,?_,?_,?_,?_,?_,?_,trivial⟩ ?_
  .refine hS [] ?_;intro vs Q C M0 K MY;clear M0
   try simp only[b_]at MY |-
   go_simp
   go_at_call 177
   refine(lT).mono ?_;rintro e w1⟨rfl,rfl⟩;exact MY.out _ _ (C.hF ((H [] _).alloc _)) (GL.js ((H [] _).alloc _)) ⟨_,rfl,C.r.lt,P_ _ _ _⟩
  .exact K0
  .refine hS [(some 54,1)] ?_;exact KL
  .refine hS [(some 55,2)] ?_;exact KL
  .refine hS [(some 56,3)] ?_;intro vs Q C M0 K MY;obtain⟨o, -⟩:=M0;replace o:_=_:=o
   try simp only[b_,o]at MY |-
   obtain⟨c7,⟨fw,er,et,j⟩,ct,cQ⟩:=id C;have MV:=j.f_ 0;have MU:=j.f_ 1;have au:=j.f_ 2;have aP:=j.f_ 3;exact Mw
  .refine hS [(some 57,4)] ?_;intro vs Q C M0 K MY;obtain⟨o, -⟩:=M0;replace o:_=_:=o
   try simp only[b_,o]at MY |-
   go_simp
   go_at_call 19
   refine(iw B g _ C.d X X).mono ?_;rintro e w1⟨r,rfl,h0,h1,aU,hg1⟩;exact MY.out _ _ (C.step hg1 aU af aM) (GL.of hg1 J af) ⟨r,rfl,h0,h1⟩
  .refine hS [(some 53,0),(some 58,5)] ?_;intro vs Q C M0 K MY;obtain⟨⟨be,o,bj,bi⟩,⟨rb,aL,dj,c3⟩, -⟩:=M0
   try simp only[b_,o,aL]at MY |-
   obtain⟨k,rfl⟩:∃k:Nat,rb=k:=⟨rb.toNat,X⟩;have dH:(k:Int)<5:=X;go_simp;exact MY.out _ _ C (GL.js (H [] _)) ⟨be,k,rfl,X,bj,bi⟩
  .refine hS [(some 59,6)] ?_;intro vs Q C M0 K MY;obtain⟨⟨be,E,o,bT,bj,bi⟩, -⟩:=M0
   try simp only[b_,o]at MY |-
   obtain⟨s,hs,aH⟩:=BM E X;have MU:=(bi.f_ E).trans aH;go_simp;exact MY.out _ _ C (GL.js (H [] _)) ⟨s,hs,rfl⟩
  .exact K0
  .exact K0
  .refine hS [(some 62,9)] ?_;exact J7
  .refine hS [(some 61,8),(some 63,10)] ?_;exact I0
  .exact K0
  .exact K0
  .refine hS [(some 66,13)] ?_;exact J7
  .refine hS [(some 65,12),(some 67,14),(some 64,11)] ?_;exact IR
  .refine hS [(some 60,7),(some 64,11),(some 68,15)] ?_;intro vs Q C M0 K MY;obtain⟨⟨bG,cu,o⟩, -,⟨dz,dE,dP,d4,Ac,cc,tc,cU,lc,d6,dS,ec,bM,de,df,dJ,cX⟩, -⟩:=M0
   try simp only[b_,o,d6,ec]at MY |-
   go_simp;refine MY.out _ _ C (GL.js (H [] _)) ⟨(ST.mk 9 bG i6 0 0 none 0 [] dz dE dP Ac cc tc),1+d4+cU,lc,?_,?_,?_,de,df,by push_cast;omega,cX⟩
   .show Value.agg _=Value.agg (ST.mk 9 bG i6 0 0 none 0 [] dz dE dP Ac cc tc).g_
    simp only[ST.ij]
    rfl
   .exact jL.node _ _ _ _ _ _ _ _ (Gw _ _ _ _) (H_ _) (λ_ _ h=>by cases h) (λu hu=>by cases hu) dS bM
   .have hD:4-p=(4-(p+1))+1:=X;rw[hD];exact SG.node (t:=(ST.mk 9 bG i6 0 0 none 0 [] dz dE dP Ac cc tc)) (.Cb _ cu) (λu hu=>by cases hu) dS.sg bM.sg
  .refine jv [(some 69,16)] ?_;exact Ji
  exact Ka
 .have ei:(k==5)=false:=p_;have ej:(k==6)=false:=p_;have d8:IntKind.i64.wrap (loops+1)=loops+1:=F5 _ X;have au:=hm.f_ 2;have aZ:=hm.hG 2
  go_upto_region 11 with fail
  clear au aZ d8;have an:I [m] w1 (w1.setCell (Z m 2) (Y (loops+1))):=(H [m] w1).setCell (.inl J) _;replace hm:Bk (w1.setCell (Z m 2) (Y (loops+1))) m 222 #[q_ g,Y left,Y (loops+1),Y fn]:=hm.hV 2 _;replace hd:=hd.ih an p_;replace hR:=hR.gr an p_;have aA:I [g,m] w (w1.setCell (Z m 2) (Y (loops+1))):=(MZ.mono J).trans (an.mono J);clear MZ an;obtain⟨W,aO⟩:=nm_ (w1.setCell (Z m 2) (Y (loops+1)));rw[<-aO]at hd hm hR aA |-;clear aO;have aW:Ex B g m R0 229 #[q_ g,Y left,Y (loops+1),Y fn] S_ W W.drew:=⟨hd.hF (H [] W).drew,hm.hF (H [] W).drew,hR.hF (H [] W).drew,(H [g] W).drew⟩;refine ki (Ex B g m R0 229 #[q_ g,Y left,Y (loops+1),Y fn] S_ W) (λvs ae=>∃(R7 x:Nat) (r:Int),vs 10=q_ R7/\0<=r/\r<=9/\R0+1<=R7/\R0+1<=x/\x≠R7/\Bk ae R7 229 #[Y 5,.string n,.string i6,Y 0,Y 0,.slice (j_ x) 2 2,n_,n_]/\Bk ae x 226 #[Y 1,Y 0,.string i6,Y 0,n_,Y 1,Y r,.string i6,Y 0,n_]/\iQ ae B g/\Bk ae m 222 #[q_ g,Y left,Y (loops+1),Y fn]/\Bk ae R0 229 S_/\I [g,R7] W ae) (I [g,R0]) [SU.val _ (.string n),SU.pure _ (λa=>a=.agg #[Y 1,Y 0,.string i6,Y 0,n_]),SU.val _ (q_ m),SU.val _ (q_ m),SU.val _ (q_ m),SU.val _ (q_ g),SU.num _ 0 5,SU.pure _ (λa=>∃r:Int,0<=r/\r<=9/\a=.agg #[Y 1,Y r,.string i6,Y 0,n_]),SU.of (λa w=>∃(x:Nat) (r:Int),0<=r/\r<=9/\a=.slice (j_ x) 2 2/\R0+1<=x/\Bk w x 226 #[Y 1,Y 0,.string i6,Y 0,n_,Y 1,Y r,.string i6,Y 0,n_]) (λ_ _ _ v⟨x,r,h0,h1,L,T,aw⟩=>⟨x,r,h0,h1,L,T,aw.gr v (λhm=>by have:=am x hm;omega)⟩),SU.of (λa w=>∃(x:Nat) (r:Int),0<=r/\r<=9/\a=.agg #[Y 5,.string n,.string i6,Y 0,Y 0,.slice (j_ x) 2 2,n_,n_]/\R0+1<=x/\Bk w x 226 #[Y 1,Y 0,.string i6,Y 0,n_,Y 1,Y r,.string i6,Y 0,n_]) (λ_ _ _ v⟨x,r,h0,h1,L,T,aw⟩=>⟨x,r,h0,h1,L,T,aw.gr v (λhm=>by have:=am x hm;omega)⟩),SU.of (λa w=>∃R7,a=q_ R7/\R0+1<=R7/\Bk w R7 229 #[Y 0,.string i6,.string i6,Y 0,Y 0,n_,n_,n_]) (λ_ _ _ v⟨x,L,T,aw⟩=>⟨x,L,T,aw.gr v (λhm=>by have:=am x hm;omega)⟩),SU.any _] (SU.any _) [[],[],[],[2],[3],[4],[5],[6],[1,7],[0,8],[],[10,9]] true [(some 77,0),(some 78,1),(some 79,2),(some 80,3),(some 81,4),(some 82,5),(some 83,6),(some 84,7),(some 85,8),(some 86,9),(some 7,10),(none,11)] k_ k_ k_ (λ_ _ _ _ _ h=>h) k_ rfl rfl k_ aW ⟨?_,?_,?_,?_,?_,?_,?_,?_,?_,?_,?_,?_,trivial⟩ ?_
  .exact Lb
  .refine hS [] ?_;intro vs Q C M0 K MY;clear M0
   try simp only[b_]at MY |-
   go_simp
   go_at_call 144
   refine(kb 0).mono ?_;exact Ml
  .exact Lb
  .refine hS [(some 79,2)] ?_;exact KT
  .refine hS [(some 80,3)] ?_;exact KT
  .refine hS [(some 81,4)] ?_;exact JM
  .refine hS [(some 82,5)] ?_;exact JD
  .refine hS [(some 83,6)] ?_;exact JN
  .refine hS [(some 78,1),(some 84,7)] ?_;intro vs Q C M0 K MY;obtain⟨o,⟨rb,dj,c3,aL⟩, -⟩:=M0;replace o:_=_:=o
   try simp only[b_,o,aL]at MY |-
   go_simp;exact MY.out _ _ (C.hF ((H [] _).alloc _)) ((H _ _).alloc _) ⟨_,rb,dj,c3,rfl,C.r.lt,P_ _ _ _⟩
  .refine hS [(some 77,0),(some 85,8)] ?_;intro vs Q C M0 K MY;obtain⟨o,⟨aQ,rb,dj,c3,aL,cI,bC⟩, -⟩:=M0;replace o:_=_:=o
   try simp only[b_,o,aL]at MY |-
   go_simp;exact MY.out _ _ C (H _ _) ⟨aQ,rb,dj,c3,rfl,cI,bC⟩
  .exact Ki
  .refine jv [(some 7,10),(some 86,9)] ?_;intro vs Q C M0 K MY;obtain⟨⟨be,o,bj,bi⟩,⟨aQ,rb,dj,c3,aL,cI,bC⟩, -⟩:=M0
   try simp only[b_,o,aL]at MY |-
   refine iZ k_ ?_;refine ia 229 rfl be r_ #[Y 5,.string n,.string i6,Y 0,Y 0,.slice (j_ aQ) 2 2,n_,n_] r_ 229 bi rfl k_ (by simp[Value.oneCell']) ?_;intro ae aB G;have ar:aQ≠be:=Bk.l8 bC bi O;have cO:=C.g.size;exact MY.out undef _ (λ_=>⟨be,aQ,rb,o,dj,c3,bj,cI,ar,aB,bC.gr G (zu ar),C.d.ih G p_,C.m.gr G p_,C.r.gr G p_,(C.g.mono J).trans (G.mono J)⟩)
  intro vs bu C;simp only[b_];clear hd hm hR aW;obtain⟨R7,x,r,e10,bL,dX,bI,ck,du,aC,M,hd,hm,hR,G⟩:=C;rw[e10];clear e10;have cD:=dw;replace aA:=aA.hJ G p_;clear G
  by_cases bY:0<P
  focus
   go_upto_region 13 with fail
   have eU:=am;clear am;have am:∀y∈[g,x],y<x+1:=p_;obtain⟨W,aO⟩:=nm_ bu;rw[<-aO]at hd hm hR aC M aA |-;clear aO;have aW:Dg B g m R0 R7 x #[q_ g,Y left,Y (loops+1),Y fn] S_ #[Y 5,.string n,.string i6,Y 0,Y 0,.slice (j_ x) 2 2,n_,n_] #[Y 1,Y 0,.string i6,Y 0,n_,Y 1,Y r,.string i6,Y 0,n_] W W.drew:=⟨hd.hF (H [] W).drew,hm.hF (H [] W).drew,hR.hF (H [] W).drew,aC.hF (H [] W).drew,M.hF (H [] W).drew,(H [g] W).drew⟩;have aD:x≠g:=X;have dF:R7≠g:=X;refine ki (Dg B g m R0 R7 x #[q_ g,Y left,Y (loops+1),Y fn] S_ #[Y 5,.string n,.string i6,Y 0,Y 0,.slice (j_ x) 2 2,n_,n_] #[Y 1,Y 0,.string i6,Y 0,n_,Y 1,Y r,.string i6,Y 0,n_] W) (λ_ ae=>∃r:Int,0<=r/\r<=9/\Bk ae x 226 #[Y 1,Y 0,.string i6,Y 0,n_,Y 1,Y r,.string i6,Y 0,n_]/\Bk ae R7 229 #[Y 5,.string n,.string i6,Y 0,Y 0,.slice (j_ x) 2 2,n_,n_]/\iQ ae B g/\Bk ae m 222 #[q_ g,Y left,Y (loops+1),Y fn]/\Bk ae R0 229 S_/\I [g,x] W ae) (I [g,x]) [SU.val _ (.pointer (some (Z R7 5))),SU.val _ (.slice (j_ x) 2 2),SU.val _ (q_ m),SU.val _ (q_ m),SU.val _ (q_ m),SU.val _ (q_ g),SU.num _ 0 3,SU.pure _ (λa=>∃r:Int,0<=r/\r<=9/\a=.agg #[Y 1,Y r,.string i6,Y 0,n_]),SU.val _ (.pointer (some (Z x 5))),SU.any _] (SU.any _) [[],[0],[],[2],[3],[4],[5],[6],[1],[8,7]] true [(some 89,0),(some 90,1),(some 91,2),(some 92,3),(some 93,4),(some 94,5),(some 95,6),(some 96,7),(some 97,8),(none,9)] k_ k_ k_ (λ_ _ _ _ _ h=>h) k_ rfl rfl k_ aW ⟨?_,?_,?_,?_,?_,?_,?_,?_,?_,?_,trivial⟩ ?_
   .exact Lb
   .refine hS [(some 89,0)] ?_;exact J2
   .exact Lb
   .refine hS [(some 91,2)] ?_;exact KT
   .refine hS [(some 92,3)] ?_;exact KT
   .refine hS [(some 93,4)] ?_;exact J2
   .refine hS [(some 94,5)] ?_;intro vs Q C M0 K MY;obtain⟨o, -⟩:=M0;replace o:_=_:=o
    try simp only[b_,o]at MY |-
    go_simp
    go_at_call 19
    refine(iw B g _ C.d X X).mono ?_;rintro e w1⟨r,rfl,h0,h1,aU,hg1⟩;exact MY.out _ _ (C.step hg1 aU af aM dF aD) (hg1.mono J) ⟨r,rfl,h0,h1⟩
   .refine hS [(some 95,6)] ?_;exact JN
   .refine hS [(some 90,1)] ?_;exact KT
   .refine jv [(some 97,8),(some 96,7)] ?_;intro vs Q C M0 K MY;obtain⟨o,⟨rb,dj,c3,aL⟩, -⟩:=M0;replace o:_=_:=o
    try simp only[b_,o,aL]at MY |-
    refine iZ k_ ?_;refine jE 226 _ _ rfl x 5 r_ #[Y 1,Y rb,.string i6,Y 0,n_] r_ 226 _ C.x J k_ (by simp[Value.oneCell']) ?_;intro ae aB G;exact MY.out undef _ (λ_=>⟨rb,dj,c3,aB,C.s.gr G (zu du.symm),C.d.ih G p_,C.m.gr G p_,C.r.gr G p_,(C.g.mono J).trans (G.mono J)⟩)
   intro vs bu C;simp only[b_];clear hd hm hR aC M aW bL dX;obtain⟨r,bL,dX,M,aC,hd,hm,hR,G⟩:=C;replace aA:=aA.hJ G p_;clear G
  all_goals
   obtain⟨ag,cf⟩:=nm_ bu;rw[<-cf]at hd hm hR aC M aA |-;clear cf;have bQ:IntKind.i64.wrap (P+1)=P+1:=F5 _ X
   go_upto_region 15 with(go_at_call 139;refine(bl (P+1) 3 left (loops+1) _ (ov aS.out) X X hd hm hBm X X X (by push_cast;omega)).mono ?_;rintro e ad⟨A,c,ts,N,l,rfl,di,cp,cy,d3,bA,cC,bK,a7⟩;obtain⟨n0,hn0⟩:=nm_ ts.length;rw[<-hn0];have a2:=U hn0;rw[<-hn0]at di;clear hn0;have d9:=(aC.gr a7 p_).f_ 6;have dT:=(aC.gr a7 p_).hG 6)
   clear d9 dT bQ;have cZ:R7<ag.heap.size/\x<ag.heap.size/\R0<ag.heap.size:=⟨aC.lt,M.lt,hR.lt⟩;have aj:I [R7] ad (ad.setCell (Z R7 6) (.slice A n0 c)):=(H [R7] ad).setCell (.inl J) _;have ak:Bk (ad.setCell (Z R7 6) (.slice A n0 c)) R7 229 #[Y 5,.string n,.string i6,Y 0,Y 0,.slice (j_ x) 2 2,.slice A n0 c,n_]:=(aC.gr a7 p_).hV 6 _;have ah:=cp.iz aj p_;have bn:=(M.gr a7 p_).gr aj (zu du);have br:=bK.ih aj p_;have az:=cC.gr aj p_;have aF:=(hR.gr a7 p_).gr aj p_;have F:I [g,m] w (ad.setCell (Z R7 6) (.slice A n0 c)):=(aA.trans a7).hJ aj p_;have dU:ag.heap.size<=(ad.setCell (Z R7 6) (.slice A n0 c)).heap.size:=G_ a7.size aj.size;clear aC M hd hm hR aA cp bK cC a7 aj;obtain⟨MT,bN⟩:=nm_ (ad.setCell (Z R7 6) (.slice A n0 c));rw[<-bN]at ak ah bn br az aF F dU |-;clear bN;have bX:ag.heap.size<=MT.heap.size:=dU
   by_cases dr:k=9
   .have eb:(k==9)=true:=by simp[dr]
    have MV:=az.f_ 0
    go_wp2_with fail
    go_at_call 19
    refine(iw B g 2 br X X).mono ?_;rintro e ax⟨q,rfl,ek,em,cM,ay⟩;clear MV br;have br:=cM;replace az:=az.gr ay p_;replace aF:=aF.gr ay p_;replace ak:=ak.gr ay p_;replace bn:=bn.gr ay p_;replace ah:=ah.iz ay p_;replace F:=F.trans (ay.mono J);replace bX:=G_ bX ay.size;clear ay cM;obtain⟨MT,bN⟩:=nm_ ax;rw[<-bN]at br az aF ak bn ah F bX |-;clear bN
    by_cases bR:q=0
    .subst bR
     go_upto_region 16 with fail
     have ar:=a2.out;subst ar;obtain⟨W,aO⟩:=nm_ MT;rw[<-aO]at br az aF ak ah F bX |-;clear aO;have cS:∀y∈[g],y∈(g::oK (Value.slice A ts.length c).ownBlock):=J
     have eI:∀y∈oK (Value.slice A ts.length c).ownBlock,ag.heap.size<=y:=λy hy=>(kk ah.own (jK.1 hy)).1
     have eY:∀y,(Value.slice A ts.length c).ownBlock=some y->y<W.heap.size:=λy hy=>(kk ah.own hy).2
     have dy:ag.heap.size<=W.heap.size:=bX;have eU:=am;clear am;have am:∀y∈(g::oK (Value.slice A ts.length c).ownBlock),y<W.heap.size:=Mi;have dF:R7≠g:=X;have hbg:g<ag.heap.size:=X;have aW:Ws B g m R0 R7 ag.heap.size (4-(p+1)) N A c ts #[q_ g,Y l,Y (loops+1),Y fn] S_ #[Y 5,.string n,.string i6,Y 0,Y 0,.slice (j_ x) 2 2,.slice A ts.length c,n_] W false W.drew:=⟨br.hF (H [] W).drew,az.hF (H [] W).drew,aF.hF (H [] W).drew,ak.hF (H [] W).drew,λ_=>ah.iz (H [] W).drew J,(H (g::oK (Value.slice A ts.length c).ownBlock) W).drew,X,X,X⟩;refine oe (λf=>Ws B g m R0 R7 ag.heap.size (4-(p+1)) N A c ts #[q_ g,Y l,Y (loops+1),Y fn] S_ #[Y 5,.string n,.string i6,Y 0,Y 0,.slice (j_ x) 2 2,.slice A ts.length c,n_] W (f 19)) (λ_ ae=>∃(t:ST) (K:Nat),Bk ae R7 229 t.g_/\jL (jD (R7+1)) ae t/\SG hU (4-p) K t/\(K:Int)<=N+2/\iQ ae B g/\Bk ae m 222 #[q_ g,Y l,Y (loops+1),Y fn]/\Bk ae R0 229 S_/\I (R7::(g::oK (Value.slice A ts.length c).ownBlock)) W ae) (G2 19 [g] (g::oK (Value.slice A ts.length c).ownBlock)) [SU.mx _ (.string n),(SU.tree am (0)).vg (λ_ _ _ h=>h.gr cS),SU.mx _ (q_ m),SU.mx _ (q_ m),SU.mx _ (q_ m),SU.mx _ (q_ g),(SU.num _ 0 4).vg (λ_ _ _ h=>h.gr cS),(SU.tree am (0)).vg (λ_ _ _ h=>h.gr cS),(SU.tree am (0+1)).vg (λ_ _ _ h=>h.gr cS),(SU.trees am 2 1).vg (λ_ _ _ h=>h.gr cS),SU.mx _ (.pointer (some (Z R7 6))),SU.mx _ (.slice A ts.length c),SU.mx _ (.string n),SU.mx _ (.string n),(SU.tree am (0)).vg (λ_ _ _ h=>h.gr cS),(SU.tree am (0)).vg (λ_ _ _ h=>h.gr cS),(SU.tree am (0+1)).vg (λ_ _ _ h=>h.gr cS),(SU.stmt am (1) (1)).vg (λ_ _ _ h=>h.gr cS),(SU.of (λa w=>∃(x:Nat) (t:ST),a=.slice (j_ x) 1 1/\W.heap.size<=x/\Bk w x 229 t.g_/\jL (jD W.heap.size) w t/\SG hU 1 1 t) (λ_ _ _ v⟨x,t,h1,L,T,aw,av⟩=>⟨x,t,h1,L,T.gr v (λhm=>by have:=am x hm;omega),aw.ih v (λy hy=>Gy.2 (am y hy)),av⟩)).vg (λ_ _ _ h=>h.gr cS),SU.zN [19] (λa w=>∃(ap:OA) (ai:Nat) (us:List ST) (K:Nat),a=.slice ap us.length ai/\lH hU ag.heap.size (4-(p+1)) K w ap ai us/\K<=N+1) (λi hi a w w' v⟨ap,ai,us,K,h1,L,T⟩=>⟨ap,ai,us,K,h1,L.iz (v.ne (zu hi)) p_,T⟩),SU.zN [19] (λa w=>∃(t:ST) (K:Nat),a=.agg t.g_/\jL (jD (R7+1)) w t/\SG hU (4-p) K t/\(K:Int)<=N+2) (λi hi a w w' v⟨t,K,h1,L,T,aw⟩=>⟨t,K,h1,L.ih (v.ne (zu hi)) p_,T,aw⟩),SU.anyI _] (SU.anyI _) [[],[0],[],[2],[3],[4],[5],[6],[1,7],[8],[],[10],[],[],[13],[],[14,15],[12,16],[17],[11,18],[9,19],[20]] true [(some 113,0),(some 114,1),(some 115,2),(some 116,3),(some 117,4),(some 118,5),(some 119,6),(some 120,7),(some 121,8),(some 122,9),(some 123,10),(some 124,11),(some 125,12),(some 126,13),(some 127,14),(some 128,15),(some 129,16),(some 130,17),(some 131,18),(some 132,19),(some 133,20),(none,21)] k_ k_ k_ (λ_ _ _ _ _ h=>h) k_ rfl rfl k_ aW ⟨?_,?_,?_,?_,?_,?_,?_,?_,?_,?_,?_,?_,?_,?_,?_,?_,?_,?_,?_,?_,?_,?_,trivial⟩ ?_
     .exact K8
     .refine jf [(some 113,0)] ?_;exact JB
     .exact K8
     .refine jf [(some 115,2)] ?_;exact KP
     .refine jf [(some 116,3)] ?_;exact KP
     .refine jf [(some 117,4)] ?_;exact JX
     .refine jf [(some 118,5)] ?_;intro f vs Q hf C M0 K MY;obtain⟨o, -⟩:=M0;replace o:_=_:=o
      try simp only[b_,o]at MY |-
      go_simp
      go_at_call 19
      refine(iw B g _ C.d X X).mono ?_;rintro e w1⟨r,rfl,h0,h1,aU,hg1⟩;exact MY.out _ _ (C.step hg1 aU af aM dF hbg) hg1 ⟨r,rfl,h0,h1⟩
     .refine jf [(some 119,6)] ?_;intro f vs Q hf C M0 K MY;exact JJ
     .refine jf [(some 114,1),(some 120,7)] ?_;intro f vs Q hf C M0 K MY;exact Jt
     .refine jf [(some 121,8)] ?_;exact I6
     .exact K8
     .refine jf [(some 123,10)] ?_;exact JX
     .exact K8
     .exact K8
     .refine jf [(some 126,13)] ?_;exact JB
     .refine jf [] ?_;intro f vs Q hf C M0 K MY;exact JZ
     .refine jf [(some 127,14),(some 128,15)] ?_;intro f vs Q hf C M0 K MY;obtain⟨⟨ta,o,aq,E⟩,⟨aI,aL,V,d⟩, -⟩:=M0
      try simp only[b_,o,aL]at MY |-
      go_simp
      go_at_call 143
      refine(oF W.heap.size 1 ta aI C.hz aq V).mono ?_;rintro e w1⟨A,rfl,MX,hg1⟩;exact MY.out _ _ (C.hF hg1) (hg1.mono J) ⟨pY 1 A ta aI,rfl,MX,.bin 0 _ _ _ _ X X (E.mono X) (d.mono X)⟩
     .refine jf [(some 125,12),(some 129,16)] ?_;intro f vs Q hf C M0 K MY;obtain⟨o,⟨aI,aL,V,d⟩, -⟩:=M0;replace o:_=_:=o
      try simp only[b_,o,aL]at MY |-
      go_simp
      go_at_call 142
      refine(kJ W.heap.size _ _ _ C.hz V).mono ?_;rintro e w1⟨A,rfl,MX,hg1⟩;exact MY.out _ _ (C.hF hg1) (hg1.mono J) ⟨i4 _ A _,rfl,MX,SG.leaf (.vb _ aG.out) rfl rfl (by intro u hu;rcases M_.1 hu with rfl|hu;exact d.mono X;cases hu)⟩
     .refine jf [(some 130,17)] ?_;exact Jj
     .refine jf [(some 124,11),(some 131,18)] ?_;intro f vs Q hf C M0 K MY;obtain⟨o,⟨aQ,aI,aL,cI,bC,V,d⟩, -⟩:=M0;replace o:_=_:=o
      try simp only[b_,o,aL]at MY |-
      have cp:=C.lf hf;have fh:=C.hz;refine iZ k_ ?_;refine oO _ _ _ rfl ag.heap.size 229 i1 _ 8 128 underlying211 bS cj co cv rfl O O A ts.length c (ts.flatMap ST.E) r_ cp.own _ 1 1 ([aI].flatMap ST.E) r_ (rc aI bC) (kZ) X X ?_;intro ap ai bP cq bE bD;have db:=cp.add (us:=[aI]) cq bE bD (λu hu=>by have:u=aI:=(zu hu);subst this;exact V.imp (λy hy=>⟨by have:W.heap.size<=y:=hy;omega,λhe=>by have h1:=eY y he;have:W.heap.size<=y:=hy;omega⟩)) (d.mono X);exact MY.out (.slice ap (ts.length+1) ai) _ (C.app (I.iW bE) eI X) ((I.iW bE).mono (by intro y hy;simp[hy])) ⟨ap,ai,ts++[aI],N+1,J,by simpa using db,H_ _⟩
     .refine jf [(some 122,9),(some 132,19)] ?_;intro f vs Q hf C M0 K MY;obtain⟨⟨be,ta,o,cN,bj,bi,c6⟩,⟨dB,cb,aI,eR,aL,dY,nb⟩, -⟩:=M0
      try simp only[b_,o,aL]at MY |-
      go_simp;refine MY.out _ _ C (H _ _) ⟨(ST.mk 6 i6 i6 0 0 (j_ be) 1 ta dB cb aI none 0 []),1+eR,?_,?_,?_,by push_cast;omega⟩
      .show Value.agg _=Value.agg (ST.mk 6 i6 i6 0 0 (j_ be) 1 ta dB cb aI none 0 []).g_
       simp only[ST.ij,cN]
       rfl
      .have gi:=dy;exact jL.node _ _ _ _ _ _ _ _ (by rw[cN];exact bi) (by rw[cN];exact H_ _) (λy off h=>by injection h with h;injection h with h;omega) (λu hu=>(c6 u hu).1.le X) (dY.le X) (lH.nil _ _ _ _)
      .have hD:4-p=(4-(p+1))+1:=X;rw[hD];exact SG.loop (t:=(ST.mk 6 i6 i6 0 0 (j_ be) 1 ta dB cb aI none 0 [])) (by show mY _ 6 i6 i6 0 0 ta.length true false;rw[cN];exact .EH) rfl (λu hu=>(c6 u hu).2) dY.sg
     .refine vG [(some 133,20)] ?_;intro f vs Q hf C M0 K MY;obtain⟨⟨ta,ey,o,aq,E,bT⟩, -⟩:=M0
      try simp only[b_,o]at MY |-
      refine iZ k_ ?_;refine ia 229 rfl R7 r_ ta.g_ r_ 229 C.s rfl k_ (ST.one _) ?_;intro ae aB G;exact MY.out undef _ (λ_=>⟨ta,ey,aB,aq.ih G J,E,bT,C.d.ih G p_,C.m.gr G p_,C.r.gr G p_,(C.g.mono (by intro y hy;simp[hy])).trans (G.mono J)⟩)
     intro f vs bu hf C;simp only[b_];clear br az aF ak ah aW;obtain⟨t,K,S,MX,ao,cT,br,az,aF,G⟩:=C;have d1:(K:Int)+2*l<=2+2*left:=X;replace MX:=MX.le (show R0+1<=R7+1 by omega)
     replace F:=F.hJ G (by
      intro y hy
      rcases M_.1 hy with rfl|hy
      .right;omega
      .rcases M_.1 hy with rfl|hy
       .left;simp
       .right
        have:=eI y hy
        omega)
     clear G;obtain⟨MT,bN⟩:=nm_ bu;rw[<-bN]at S MX br az aF F |-;clear bN;exact IK
    .have eo:(q==0)=false:=by simp[bR]
     exact Iw
   .have eb:(k==9)=false:=by simp[dr]
    exact Iw
def stmt_3(B g m:Nat)(fn:Int):E6 3 B g m fn:=by
 intro y left loops w hP d a hBm hl0 hl1 hq0 hq1;have ea:3<=y:=X;clear hP;obtain⟨p,n⟩:=nm_ 3;rw[<-n];have s:=n;clear n;have bt:=d.xw;have S:=a.lt
 go_enter func176,ntmps176
 go_upto_region 1 with fail
 have l:I [] w (w.alloc (.cells S_ 229)):=(H [] w).alloc _;replace d:=d.hF l;replace a:=a.hF l;have f:=P_ w 229 S_;have h:I [g] w (w.alloc (.cells S_ 229)):=(H [g] w).alloc _;clear l;obtain⟨bw,u⟩:=nm_ (w.alloc (.cells S_ 229));rw[<-u]at d a f h |-;clear u;obtain⟨R0,v⟩:=nm_ w.heap.size;rw[<-v]at f |-;have dw:w.heap.size<=R0:=X;have cY:g<R0:=X;have ad:B<=R0:=X;have c8:m<R0:=ov S;clear v;have O:∀Z∈[g,R0],Z<R0+1:=p_;have af:m≠g:=X;have aM:R0≠g:=X;have x:=a.f_ 0;have L:=U s;clear s
 go_upto_region 2 with(go_at_call 19;refine(iw B g 10 d X X).mono ?_;rintro e w1⟨k,rfl,cg,bZ,P,j⟩)
 clear x;replace a:=a.gr j p_;replace f:=f.gr j p_;replace h:=h.trans j;replace d:=P;clear j
 go_upto_region 3 with fail
 obtain⟨W,r⟩:=nm_ w1;rw[<-r]at d a f h |-;clear r;have z:Ex B g m R0 229 #[q_ g,Y left,Y loops,Y fn] S_ W W:=⟨d,a,f,H [g] W⟩;refine iP (Ex B g m R0 229 #[q_ g,Y left,Y loops,Y fn] S_ W) (λ_ ae=>∃t,Bk ae R0 229 t.g_/\jL (jD (R0+1)) ae t/\SG hU 1 1 t/\iQ ae B g/\I [g,R0] W ae) (I [g,R0]) [SU.val _ (q_ m),SU.stmt O (1) (1),SU.any _] (SU.any _) [[],[0],[1]] true [(some 26,0),(some 27,1),(none,2)] k_ k_ (λ_ _ _ _ _ T=>T) k_ rfl rfl k_ z ⟨?_,?_,?_,trivial⟩ ?_
 .exact Lb
 .exact Jq
 .exact Jr
 intro vs bu C;simp only[b_];obtain⟨t,aB,MX,ao,F,G⟩:=C;go_wp2;exact rr_ t.g_ aB underlying229 ⟨t,1,left,rfl,MX.le X,lX.mono ao (ov L.out),hl0,Gg _,X,a.gr G p_,F,(h.hJ G p_).mono J⟩
def tk(B g m:Nat)(a:Int):ER 0 B g m a/\ER 1 B g m a:=by
 have f:=stmt_3 B g m a;have h:=sx 3 X B g m a f;have e:=uT 2 X B g m a h;have j:=sx 2 X B g m a e;have n:=uT 1 X B g m a j;have d:=sx 1 X B g m a n;have l:=uT 0 X B g m a d;exact⟨sx 0 X B g m a l,d⟩
def s7{w:World}{g base:Nat}{t:TypeId}{cs:Array Value}{n s:Nat}(h:Bk w g t cs)(a:cs.size=n*s)(d:base<=g)(e:n<=maxLen):w.ownsRow base t s (.slice (j_ g) n n) n cs.toList:=
 ⟨by simpa using a,.inr ⟨g,n,cs,rfl,d,h,H_ _,e,a,by rw[FP p_]⟩⟩
def sV{l:List ByteArray}:∀u∈l.map Value.string,u.oneCell'=true:=by
 intro u a;obtain⟨d,_,rfl⟩:=FQ.1 a
 rfl
def Dn(k:Nat)(a:k<8):∃s,s∈hU/\hU[k]?=some s/\hU.take (k+1)=hU.take k++[s]:=by
 match k,a with
 |0,_=>exact⟨vU,by simp[hU],rfl,rfl⟩
 |1,_=>exact⟨u0,by simp[hU],rfl,rfl⟩
 |2,_=>exact⟨vi,by simp[hU],rfl,rfl⟩
 |3,_=>exact⟨pa,by simp[hU],rfl,rfl⟩
 |4,_=>exact⟨m6,by simp[hU],rfl,rfl⟩
 |5,_=>exact⟨oL,by simp[hU],rfl,rfl⟩
 |6,_=>exact⟨xt,by simp[hU],rfl,rfl⟩
 |7,_=>exact⟨xq,by simp[hU],rfl,rfl⟩
def EC(aR D N:Nat)(ls:List ST)(w:World)(e:Ending)(w':World):Prop:=
 ∃(A:OA) (c:Nat) (ss:List ST),e=.returned (.slice A (ss++ls).length c)/\lH hU aR (D+1) (8+N) w' A c (ss++ls)/\ss.map ST.name=hU/\(∀s∈ss,s.h6=1)/\I [] w w'/\w.heap.size<=w'.heap.size/\(∀x,(Value.slice A (ss++ls).length c).ownBlock=some x->w.heap.size<=x)
def uD(C D N:Nat)(A:OA)(n c:Nat)(r:List ST)(d8:OA)(cm:Nat)(W:TypeId){w:World}(hn:r.length=n)(hl:Sl w 229 8 A n (r.flatMap ST.E))(aJ:n<=1000)(E:∀u∈r,jL (jD C) w u)(bX:lX hU (D+1) N r)(o:C<=w.heap.size)
 (hm:Sl w W 1 d8 3 ([oL,xt,xq].map Value.string)):
 Calls prog 141 #[.slice A n c,.slice d8 3 cm] w (EC C D N r w):=by
 obtain⟨i1,bS,cj,co,cv⟩:=info_parts infoSt;obtain⟨i2,R,ck,cr,cx⟩:=info_parts infoStr;obtain⟨i,ae⟩:=nm_ (EC C D N r w);rw[<-ae];have aq:=U ae;have a2:=U hn;clear ae hn;obtain⟨h,b9⟩:=nm_ w.heap.size;have aP:h<=w.heap.size:=X;have bI:w.heap.size<=h:=X;have b0:C<=h:=X;clear b9
 go_enter func141,ntmps141
 go_wp2_with (first|(go_at_call 177;refine(lT).mono ?_;rintro ai w1⟨rfl,rfl⟩)|(at_builtin;refine j7 rfl rfl h 9 i2 1 16 underlying207 R ck cr cx rfl O O (j_ w.heap.size) 5 5 _ rfl (s7 (n:=5) (s:=1) (P_ w 9 l7) rfl aP O) d8 3 cm _ rfl (hm.alloc _) (sV) X p_ ?_;intro bZ cg w2 cq bB dW))
 have al:=((H [] w).alloc _).hJ (I.iW bB) (λe a=>by have:=jK.1 a;simp[Value.ownBlock]at this;right;omega);have ao:Sl w2 9 1 bZ 8 (hU.map Value.string):=Sl.iR cq;clear cq bB dW
 go_loopw [5,12] (λov ah w'=>∃(k:Nat) (l:OA) (g:Nat) (d:List ST),k<=8/\ah=Y k/\d.length=k/\ov=.slice l d.length g/\lH hU h (D+1) k w' l g d/\d.map ST.name=hU.take k/\(∀s∈d,s.h6=1)/\I [] w w'/\Sl w' 9 1 bZ 8 (hU.map Value.string)/\w2.heap.size<=w'.heap.size) (λ_ ah _=>8-(intOf ah).toNat)
 case atStart=>exact⟨0,none,0,[],X,rfl,rfl,rfl,lH.nil _ _ _ _,rfl,(by intro s hs;cases hs),al,ao,H_ _⟩
 case round=>
  obtain⟨k,l,g,d,hk,rfl,aD,rfl,Z,d4,B,t,am,au⟩:=hrel;have bK:=U aD;have e5:=U d4;have L:=Z.own;rw[aD]at L |-;clear aD d4 ao al
  by_cases af:k<8
  .obtain⟨s,hs,an,aU⟩:=Dn k af;have bn:=U aU;obtain⟨b,off,m,ap⟩:=am.f_ X;subst m;have MU:=ap k (.string s) (by rw[Gf,an];rfl);clear aU an ap
   go_wp2_with (first|(go_at_call 144;refine(kb 0).mono ?_;rintro ai S⟨rfl,v⟩)|(go_at_call 142;refine(kJ S.heap.size s (jz 0) S (H_ _) (kq.leaf _ _ _ _ _ _)).mono ?_;rintro ai x⟨As,rfl,MX,y⟩;have M:=iy (iy (iy L v) y) ((H [] x).alloc (.cells (i4 s As (jz 0)).g_ 229));have hbs:h<=(x.alloc (.cells (i4 s As (jz 0)).g_ 229)).heap.size:=(by have:=v.size;have:=y.size;have:=t.size;simp;omega);simp only[i4,ST.ij])|(at_builtin;refine j7 rfl rfl h 229 i1 8 128 underlying211 bS cj co cv rfl O O l k g (d.flatMap ST.E) rfl M _ 1 1 ([i4 s As (jz 0)].flatMap ST.E) rfl (rc (i4 s As (jz 0)) (P_ x 229 _)) (kZ) X hbs ?_;intro P T MT Q z bD))
   go_roundw
   case rel=>
    have j:=bK.out;subst j;have fa:lH hU h (D+1) d.length (x.alloc (.cells (i4 s As (jz 0)).g_ 229)) l g d:=((Z.iz v J).iz y J).iz ((H [] x).alloc _) J
    have ar:jL (zf h (Value.slice l d.length g).ownBlock) (x.alloc (.cells (i4 s As (jz 0)).g_ 229)) (i4 s As (jz 0)):=by
     have h3:=v.size;have aw:=t.size;refine(MX.imp λe a=>⟨?_,λhe=>?_⟩).hF ((H [] x).alloc _)
     .have:S.heap.size<=e:=a
      omega
     .have h1:=(kk L he).2
      have:S.heap.size<=e:=a
      omega
    have q:lX hU (D+1) 1 [i4 s As (jz 0)]:=SG.leaf (.vb _ hs) rfl rfl (by intro u f;rcases M_.1 f with rfl|f;exact .num _ _ X X;cases f);have db:=fa.add (us:=[i4 s As (jz 0)]) Q z bD (λu f=>by have:u=i4 s As (jz 0):=(zu f);subst this;exact ar) q;have F:=I.iW z;have av:=(((t.trans v).trans y).alloc _).hJ F (λe a=>by have:=(kk L (jK.1 a)).1;right;omega);refine⟨d.length+1,P,T,d++[i4 s As (jz 0)],X,gn,J,J,by simpa using db,by rw[FV,e5.out,bn.out];rfl,?_,av,?_,?_⟩
    .intro u f
     rcases X_.1 f with f|f
     .exact B u f
     .have:u=i4 s As (jz 0):=(zu f)
      subst this
      rfl
    .exact(App.iW M z).sl (((am.hF v).hF y).alloc _) O
    .have:=v.size
     have:=y.size
     have:=F.size
     simp at this;omega
   case measure=>exact mz
  .have x:k=8:=X;subst x
   go_wp2_with (at_builtin;refine j7 rfl rfl h 229 i1 8 128 underlying211 bS cj co cv rfl O O l 8 g (d.flatMap ST.E) rfl L A n c (r.flatMap ST.E) rfl (hl.hF t) (kZ) X (ov t.size) ?_;intro P T MT Q z bD)
   have j:=bK.out;have v:=a2.out;subst v;rw[aq.out];have F:=I.iW z
   have m_:∀e∈oK (Value.slice l d.length g).ownBlock,h<=e:=λe a=>(kk Z.own (jK.1 a)).1
   have p:∀e∈oK (Value.slice l 8 g).ownBlock,h<=e:=by rw[<-j];exact m_
   have db:=(Z.le b0).add (K:=N) (us:=r) (c':=T) (A':=P) (by rw[j];exact ox Q b0) (by rw[j];exact z) (by rw[j];exact bD) (λu f=>((E u f).lt.imp (λe a=>⟨a.1,λhe=>by have:=m_ e (jK.2 he);have:=a.2;omega⟩)).hF t) bX;refine⟨P,T,d,by rw[J_,j];rfl,?_,by rw[e5.out];rfl,B,t.hJ F (λe a=>by have:=p e a;right;omega),?_,?_⟩
   .simpa[j]using db
   .exact G_ t.size F.size
   .intro e a;rw[J_,j]at a
    have:=kk Q a
    omega
