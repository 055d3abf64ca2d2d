import Derived.Test.YtenbhdilndfaeaaGreatR13
set_option maxRecDepth 100000
set_option maxHeartbeats 0
set_option linter.all false
namespace Go.Proofs.YtenbhdilndfaeaaGreat
open Go.RowKit Go.Proofs.Tryz
variable{G:Prop}{M:List Nat}{tr:TypeId}{V:List ByteArray}{i k:Nat}(p:Nat)
def Ic(h:G:=by
 obtain⟨W,aM⟩:=nm_ w1;rw[<-aM]at hd MM hR MR |-;clear aM;have aI:Ex B g m R0 229 #[q_ g,Y left,Y loops,Y fn] S_ W W:=⟨hd,MM,hR,H [g] W⟩;refine iI (Ex B g m R0 229 #[q_ g,Y left,Y loops,Y fn] S_ W) (λ_ ae=>∃t,Bk ae R0 229 t.g8/\jD (jx (R0+1)) ae t/\SG hM 1 1 t/\iL ae B g/\J [g,R0] W ae) (J [g,R0]) [SU.val _ (.string v),SU.val _ (q_ m),SU.tree ap (1),SU.stmt ap (1) (1),SU.any _] (SU.any _) [[],[],[1],[0,2],[3]] true [(some 125,0),(some 126,1),(some 127,2),(some 128,3),(none,4)] k_ k_ (λ_ _ _ _ _ h=>h) k_ rfl rfl k_ aI ⟨?_,?_,?_,?_,?_,trivial⟩ ?_
 .exact KV
 .exact KV
 .refine hK [(some 126,1)] ?_;exact Je
 .refine hK [(some 125,0),(some 127,2)] ?_;exact IX
 .refine jr [(some 128,3)] ?_;exact Jd
 exact Kx):G:=h
def Ie(h:G:=by
 obtain⟨t,K,S,MP,V,dM⟩:∃(t:ST) (K:Nat),Bk ad R7 229 t.g8/\jD (jx (R0+1)) ad t/\SG hM (4-p) K t/\(K:Int)+2*l<=2+2*left:=by
  refine⟨(ST.mk 5 n i4 0 0 (j_ x) 2 [ju 0,ju r] A c ts none 0 []),1+N,(by have:=aW.out;subst this;exact ao),jD.node _ _ _ _ _ _ _ _ (tE (ju 0) (ju r) a8) (H_ _) (λy off h=>by injection h with h;injection h with h;omega) ?_ (ag.le X) (lI.nil _ _ _ _),?_,by push_cast;omega⟩
  .intro u hu
   rcases N_.1 hu with rfl|hu
   .exact kl.leaf _ _ _ _ _ _
   .rcases N_.1 hu with rfl|hu
    .exact kl.leaf _ _ _ _ _ _
    .cases hu
  .have hD:4-p=(4-(p+1))+1:=X;rw[hD];refine SG.loop (t:=(ST.mk 5 n i4 0 0 (j_ x) 2 [ju 0,ju r] A c ts none 0 [])) (.AR _ aY.out) rfl ?_ ag.sg;intro u hu
   rcases N_.1 hu with rfl|hu
   .exact .num _ _ X X
   .rcases N_.1 hu with rfl|hu
    .exact .num _ _ X X
    .cases hu
 clear ao ag a8;exact It):G:=h
def Ih(h:G:=by
 go_upto_region 3 with fail
 clear ai;obtain⟨W,aM⟩:=nm_ w1;rw[<-aM]at hd MM hR MR |-;clear aM;have aI:Ex B g m R0 229 #[q_ g,Y left,Y loops,Y fn] S_ W W:=⟨hd,MM,hR,H [g] W⟩;refine iI (Ex B g m R0 229 #[q_ g,Y left,Y loops,Y fn] S_ W) (λ_ ae=>∃t,Bk ae R0 229 t.g8/\jD (jx (R0+1)) ae t/\SG hM 1 1 t/\iL ae B g/\J [g,R0] W ae) (J [g,R0]) [SU.val _ (q_ m),SU.stmt ap (1) (1),SU.any _] (SU.any _) [[],[0],[1]] true [(some 26,0),(some 27,1),(none,2)] k_ k_ (λ_ _ _ _ _ h=>h) k_ rfl rfl k_ aI ⟨?_,?_,?_,trivial⟩ ?_
 .exact KV
 .exact I7
 .exact I8
 intro vs bo C;simp only[b_];obtain⟨t,ax,MP,V,bl,G⟩:=C;go_wp2;exact rr_ t.g8 ax underlying229 ⟨t,1,left,rfl,MP.le X,l3.mono V X,hl0,FR _,X,MM.gr G p_,bl,(MR.hA G p_).mono s_⟩):G:=h
def It(h:G:=by
 obtain⟨ay,ct⟩:=nm_ ad;rw[<-ct]at S MP bP bm aL bG |-;clear ct;have aB:=bm.f_ 2;have aU:=bm.hm 2;have cY:IntKind.i64.wrap (loops+1-1)=loops+1-1:=F1 _ X
 go_upto_region 18 with fail
 clear aB aU cY;have af:J [m] ay (ay.setCell (Z m 2) (Y loops)):=(H [m] ay).setCell (.inl s_) _;replace bm:Bk (ay.setCell (Z m 2) (Y loops)) m 222 #[q_ g,Y l,Y loops,Y fn]:=bm.hN 2 _;replace bP:=bP.ib af p_;replace aL:=aL.gr af p_;replace S:=S.gr af p_;replace MP:=MP.ib af p_;replace bG:J [g,m] w (ay.setCell (Z m 2) (Y loops)):=bG.trans (af.mono s_);clear af;obtain⟨aH,cC⟩:=nm_ (ay.setCell (Z m 2) (Y loops));rw[<-cC]at S MP bP bm aL bG |-;clear cC
 go_wp2_with (first|(refine k5 S underlying229 ?_)|(refine kZ (t.g8) aL (ST.one _) ?_;intro ae ax G))
 exact rr_ t.g8 ax underlying229 ⟨t,K,l,rfl,(MP.ib G s_).le X,V,ce,dO,dM,bm.gr G p_,bP.ib G p_,bG.hA G p_⟩):G:=h
def Iz(h:G:=by
 intro vs Q C MS K MT;obtain⟨o,aq,⟨Ac,cc,tc,cN,lc,ec,bi,c9,df,dG,cT⟩, -⟩:=MS;replace o:_=_:=o;replace aq:_=_:=aq
 try simp only[b_,o,aq,ec]at MT |-
 obtain⟨cK,ed,ej,co⟩:=cT;go_simp
 go_at_call 139
 refine(bh (P+1) 1 cK loops _ (ov aQ.out) X X C.d co hBm X X hq0 (by push_cast;omega)).mono ?_;rintro e w1⟨A,c,ts,N,l,rfl,_,b7,ce,dO,bv,ck,bI,aN⟩;exact MT.out _ _ (C.kX aN bI ⟨l,ce,FR _,ck⟩ X eG aj) ⟨aN.mono s_,λhi⟨q,V,cG,cS⟩=>⟨l,ce,ov (s6 cS co),ck⟩⟩ ⟨Ac,cc,tc,cN,A,c,ts,N,l,ec,(bi.iy aN p_),rfl,b7.le C.r.lt,ce,X,X,⟨l,ce,FR _,ck⟩⟩):G:=h
def IH(h:G:=by
 intro vs Q C MS K MT;obtain⟨o,aq, -⟩:=MS;replace o:_=_:=o;replace aq:_=_:=aq
 try simp only[b_,o,aq]at MT |-
 obtain⟨cK,ed,ej,co⟩:=C.lf;go_simp
 go_at_call 139
 refine(bh (P+1) 2 cK loops _ (ov aQ.out) X X C.d co hBm X X hq0 (by push_cast;omega)).mono ?_;rintro e w1⟨A,c,ts,N,l,rfl,_,b7,ce,dO,bv,ck,bI,aN⟩;exact MT.out _ _ (C.kX aN bI ⟨l,ce,FR _,ck⟩ X eG aj) ⟨aN.mono s_,λhi⟨q,V,cG,cS⟩=>⟨l,ce,ov (s6 cS co),ck⟩⟩ ⟨A,c,ts,N,l,rfl,b7.le C.r.lt,ce,X,X,⟨l,ce,FR _,ck⟩⟩):G:=h
def IX(h:G:=by
 intro vs Q C MS K MT;obtain⟨o,⟨tb,aq,MO,d⟩, -⟩:=MS;replace o:_=_:=o
 try simp only[b_,o,aq]at MT |-
 go_simp
 go_at_call 142
 refine(kP (R0+1) _ _ _ C.r.lt MO).mono ?_;rintro e w1⟨A,rfl,MP,hg1⟩;exact MT.out _ _ (C.g_ hg1) (hg1.mono s_) ⟨iZ _ A _,rfl,MP,SG.leaf (.vH _ aO.out) rfl rfl (by intro u hu;rcases N_.1 hu with rfl|hu;exact d.mono X;cases hu)⟩):G:=h
def I0(h:G:=by
 intro vs Q C MS K MT;obtain⟨⟨ta,eg,bg,o,aE,E,d8,d9,ea,dH⟩, -⟩:=MS
 try simp only[b_,o]at MT |-
 refine iV k_ ?_;refine ie 229 rfl R0 r_ ta.g8 r_ 229 C.r rfl k_ (ST.one _) ?_;intro ae ax G;obtain⟨cK,c3,dB,dC⟩:=dH;exact MT.out undef _ (λ_=>⟨ta,eg,cK,ax,aE.ib G s_,E,c3,X,X,dC.gr G p_,C.d.ib G p_,(C.g.mono s_).trans (G.mono s_)⟩)):G:=h
def I7(h:G:=by
 refine hK [(some 26,0)] ?_;intro vs Q C MS K MT;obtain⟨o, -⟩:=MS;replace o:_=_:=o
 try simp only[b_,o]at MT |-
 go_simp
 go_at_call 207
 refine(qE B g m left loops fn C.d C.m hBm).mono ?_;exact KS):G:=h
def I8(h:G:=by
 refine jr [(some 27,1)] ?_;exact Jd):G:=h
def Je(h:G:=by
 intro vs Q C MS K MT;obtain⟨o, -⟩:=MS;replace o:_=_:=o
 try simp only[b_,o]at MT |-
 go_simp
 go_at_call 218
 refine(pR B g m left loops fn C.d C.m hBm).mono ?_;exact KS):G:=h
def Jg(h:G:=by
 refine hK [(some 28,0),(some 33,5)] ?_;exact Js):G:=h
def Jh(h:G:=by
 intro f vs Q hf C MS K MT;obtain⟨o, -⟩:=MS;replace o:_=_:=o
 try simp only[b_,o]at MT |-
 go_simp
 go_at_call 145
 refine(j5 _).mono ?_;rintro e w1⟨rfl,hg1⟩;exact MT.out _ _ (C.g_ hg1) (hg1.mono s_) ⟨jv n,rfl,kl.leaf _ _ _ _ _ _,.var _ _ aY.out⟩):G:=h
def Jj(h:G:=by
 refine hK [(some 31,3)] ?_;exact Jr):G:=h
def Jm(h:G:=by
 refine hK [] ?_;intro vs Q C MS K MT;clear MS
 try simp only[b_]at MT |-
 go_simp
 go_at_call 177
 refine(lW).mono ?_;rintro e w1⟨rfl,rfl⟩;exact Ln):G:=h
def Jt(h:G:=by
 intro vs Q C MS K MT;obtain⟨⟨aZ,o,cM,bt⟩, -⟩:=MS
 try simp only[b_,o]at MT |-
 go_simp
 go_at_call 144
 refine(j3 aZ).mono ?_;rintro e w1⟨rfl,hg1⟩;exact MT.out _ _ (C.g_ hg1) (hg1.mono s_) ⟨aZ,X,X,rfl⟩):G:=h
def JF(h:G:=by
 intro f vs Q hf C MS K MT;obtain⟨o, -⟩:=MS;replace o:_=_:=o
 try simp only[b_,o]at MT |-
 obtain⟨cR,a,cn,zs,fe,cA⟩:=id C;have MN:=a.f_ 0;have z:=zs.f_ 6;exact MC):G:=h
def JI(h:G:=by
 intro vs Q C MS K MT;obtain⟨o, -⟩:=MS;replace o:_=_:=o
 try simp only[b_,o]at MT |-
 obtain⟨cR,a,cn,zs,eb,cA⟩:=id C;have MN:=a.f_ 0;have bB:=zs.f_ 5;exact MC):G:=h
def JO(h:G:=by
 intro vs Q C MS K MT;obtain⟨o, -⟩:=MS;replace o:_=_:=o
 try simp only[b_,o]at MT |-
 have bE:IntKind.i64.wrap (P+1)=P+1:=F1 _ X;exact Mr):G:=h
def JT(h:G:=by
 intro vs bo C;simp only[b_];obtain⟨t,N,l,ax,MP,V,cZ,dF,cV,co,bl,G⟩:=C;go_wp2;exact rr_ t.g8 ax underlying229 ⟨t,N,l,rfl,MP.le X,V,cZ,dF,cV,co,bl,(MR.mono s_).hA G p_⟩):G:=h
def Kb(h:G:=by
 refine hK [(some 30,2)] ?_;exact KD):G:=h
def Ke(h:G:=by
 refine hK [(some 29,1)] ?_;exact KD):G:=h
def Kv(h:G:=by
 intro vs Q C MS K MT;obtain⟨o, -⟩:=MS;replace o:_=_:=o
 try simp only[b_,o]at MT |-
 exact Mr):G:=h
def Ky(h:G:=by
 intro vs Q C MS K MT;obtain⟨⟨bw,cx,o⟩, -⟩:=MS
 try simp only[b_,o]at MT |-
 go_simp;exact MT.out _ _ C (H _ _) ⟨bw,cx,rfl⟩):G:=h
def KA(h:G:=by
 intro f vs Q hf C MS K MT;exact K2):G:=h
def KL(h:G:=by
 refine hK [] ?_;intro vs Q C MS K MT;clear MS
 try simp only[b_]at MT |-
 exact Mr):G:=h
def Mr(h:G:=by
 go_simp;exact MT.out _ _ C (GL.jX (H [] _)) rfl):G:=h
def BR:∀k,k<5->∃s,s∈hM/\l_[k]?=some (.string s)
 |0,_=>⟨wB,by simp[hM],rfl⟩
 |1,_=>⟨vv,by simp[hM],rfl⟩
 |2,_=>⟨vM,by simp[hM],rfl⟩
 |3,_=>⟨pw,by simp[hM],rfl⟩
 |4,_=>⟨m9,by simp[hM],rfl⟩
def DG:∀k,k<2->∃s,s∈hM/\(#[.string {data:=#[115]},.string {data:=#[97]}]:Array Value)[k]?=some (.string s)
 |0,_=>⟨vM,by simp[hM],rfl⟩
 |1,_=>⟨wB,by simp[hM],rfl⟩
def DH:∀k,k<4->∃r:Int,(r=1∨r=6∨r=9)/\(#[Y 1,Y 6,Y 9,Y 1]:Array Value)[k]?=some (Y r)
 |0,_=>⟨1,s_,rfl⟩
 |1,_=>⟨6,s_,rfl⟩
 |2,_=>⟨9,s_,rfl⟩
 |3,_=>⟨1,s_,rfl⟩
def DF:∀k,k<2->∃r:Int,(r=7∨r=8)/\(#[Y 8,Y 7]:Array Value)[k]?=some (Y r)
 |0,_=>⟨8,s_,rfl⟩
 |1,_=>⟨7,s_,rfl⟩
def qE(B g m:Nat)(left loops fn:Int){w:World}(hd:iL w B g)(MM:Bk w m 222 #[q_ g,Y left,Y loops,Y fn])(hBm:B<=m):
 Calls prog 207 #[q_ m] w λe w'=>∃t,e=.returned (.agg t.g8)/\jD (jx w.heap.size) w' t/\SG hM 1 1 t/\iL w' B g/\J [g] w w':=by
 have a2:=hd.x0;have cy:=MM.lt
 go_enter func207,ntmps207
 go_upto_region 1 with fail
 have aX:J [] w (w.alloc (.cells S_ 229)):=(H [] w).alloc _;replace hd:=hd.g_ aX;replace MM:=MM.g_ aX;have hR:=Q_ w 229 S_;have MR:J [g] w (w.alloc (.cells S_ 229)):=(H [g] w).alloc _;clear aX;obtain⟨bj,b0⟩:=nm_ (w.alloc (.cells S_ 229));rw[<-b0]at hd MM hR MR |-;clear b0;obtain⟨R0,cg⟩:=nm_ w.heap.size;rw[<-cg]at hR |-;have de:w.heap.size<=R0:=X;have cU:g<R0:=X;have ad:B<=R0:=X;have cX:m<R0:=ov cy;clear cg;have ap:∀af∈[g,R0],af<R0+1:=p_;have U:m≠g:=X;have aj:R0≠g:=X;obtain⟨W,aM⟩:=nm_ bj;rw[<-aM]at hd MM hR MR |-;clear aM;have aI:Ex B g m R0 229 #[q_ g,Y left,Y loops,Y fn] S_ W W.drew:=⟨hd.g_ (H [] W).drew,MM.g_ (H [] W).drew,hR.g_ (H [] W).drew,(H [g] W).drew⟩;refine kf (Ex B g m R0 229 #[q_ g,Y left,Y loops,Y fn] S_ W) (λ_ _=>True) (J [g,R0]) [SU.z2 ap 9 l_ 5,SU.val _ (q_ m),SU.val _ (q_ m),SU.val _ (q_ m),SU.val _ (q_ g),SU.z2 ap 9 l_ 5,SU.val _ (Y 5),SU.num _ 0 5,SU.elem ap 9 l_ 5,SU.pure _ (λv=>∃s,s∈hM/\v=.string s),SU.pure _ (λv=>∃s,s∈hM/\v=.string s)] (SU.any _) [[],[],[1],[2],[3],[],[5],[4,6],[0,7],[8],[9]] false [(some 4,0),(some 5,1),(some 6,2),(some 7,3),(some 8,4),(some 9,5),(some 10,6),(some 11,7),(some 12,8),(some 13,9),(some 3,10)] k_ k_ k_ (λ_ _ _ _ _ h=>h) k_ rfl rfl k_ aI ⟨?_,?_,?_,?_,?_,?_,?_,?_,?_,?_,?_,trivial⟩ ?_
 .exact Jm
 .exact KV
 .refine hK [(some 5,1)] ?_;exact KD
 .refine hK [(some 6,2)] ?_;exact KD
 .refine hK [(some 7,3)] ?_;exact Jr
 .exact Jm
 .refine hK [(some 9,5)] ?_;intro vs Q C MS K MT;obtain⟨⟨a6,o,bg,be⟩, -⟩:=MS
  try simp only[b_,o]at MT |-
  exact MC
 .refine hK [(some 8,4),(some 10,6)] ?_;intro vs Q C MS K MT;obtain⟨o,aq, -⟩:=MS;replace o:_=_:=o;replace aq:_=_:=aq
  try simp only[b_,o,aq]at MT |-
  exact JZ
 .refine hK [(some 4,0),(some 11,7)] ?_;exact Js
 .refine hK [(some 12,8)] ?_;intro vs Q C MS K MT;obtain⟨⟨a6,E,o,bt,bg,be⟩, -⟩:=MS
  try simp only[b_,o]at MT |-
  obtain⟨s,hs,bM⟩:=BR E X;exact LS
 .refine hK [(some 13,9)] ?_;exact Ky
 rintro vs bo⟨C,MS⟩;obtain⟨⟨aT,e0,ag,aR⟩,P,T,z,Z,⟨bK,a7,dk,eh⟩,dh,⟨p,dK,ah,cz⟩,⟨bJ,ev,dL,cN,ao,d8⟩,⟨cu,am,cJ⟩,⟨b,ak,e10⟩, -⟩:=MS;replace P:vs 1=q_ m:=P;replace T:vs 2=q_ m:=T;replace z:vs 3=q_ m:=z;replace Z:vs 4=q_ g:=Z;replace dh:vs 6=Y 5:=dh;simp only[b_,e0,P,T,z,Z,a7,dh,dK,dL,cJ,e10];clear e0 P T z Z a7 dh dK dL cJ e10;obtain⟨v,hv,cf⟩:∃v,v∈hM/\v=b:=⟨b,ak,rfl⟩;rw[<-cf];have aO:=O hv;clear cf hv;clear hd MM hR;obtain⟨hd,MM,hR,G⟩:=C;replace MR:=MR.trans G;clear G;have MN:=MM.f_ 0
 go_upto_region 3 with(go_at_call 19;refine(iq B g 13 hd X X).mono ?_;rintro e w1⟨k,rfl,b3,bN,bI,S⟩)
 clear MN;replace MM:=MM.gr S p_;replace hR:=hR.gr S p_;replace MR:=MR.trans S;replace hd:=bI;clear S
 rcases(by omega:(k=0∨k=1)∨(k=2)∨(k=3∨k=4)∨(k=5∨k=6)∨(k=7)∨(k=8)∨(k=9)∨(k=10)∨(k=11)∨(k=12))with b3|bN|cj|bV|aP|dW|bD|eT|eb|dj
 .rcases b3 with rfl|rfl
  all_goals
   go_upto_region 5 with fail
   obtain⟨W,aM⟩:=nm_ w1;rw[<-aM]at hd MM hR MR |-;clear aM;have aI:Ex B g m R0 229 #[q_ g,Y left,Y loops,Y fn] S_ W W:=⟨hd,MM,hR,H [g] W⟩;refine iI (Ex B g m R0 229 #[q_ g,Y left,Y loops,Y fn] S_ W) (λ_ ae=>∃t,Bk ae R0 229 t.g8/\jD (jx (R0+1)) ae t/\SG hM 1 1 t/\iL ae B g/\J [g,R0] W ae) (J [g,R0]) [SU.val _ (.string v),SU.val _ (q_ m),SU.tree ap (2),SU.stmt ap (1) (1),SU.any _] (SU.any _) [[],[],[1],[0,2],[3]] true [(some 22,0),(some 23,1),(some 24,2),(some 25,3),(none,4)] k_ k_ (λ_ _ _ _ _ h=>h) k_ rfl rfl k_ aI ⟨?_,?_,?_,?_,?_,trivial⟩ ?_
   .exact KV
   .exact KV
   .refine hK [(some 23,1)] ?_;intro vs Q C MS K MT;obtain⟨o, -⟩:=MS;replace o:_=_:=o
    try simp only[b_,o]at MT |-
    go_simp
    go_at_call 140
    refine(kE B g m left loops fn 2 X _ rfl _ C.d C.m hBm).mono ?_;exact KS
   .refine hK [(some 22,0),(some 24,2)] ?_;exact IX
   .refine jr [(some 25,3)] ?_;exact Jd
   intro vs bo C;simp only[b_];obtain⟨t,ax,MP,V,bl,G⟩:=C;go_wp2;exact rr_ t.g8 ax underlying229 ⟨t,rfl,MP.le X,V,bl,MR.hA G p_⟩
 .subst bN
  go_upto_region 7 with fail
  obtain⟨W,aM⟩:=nm_ w1;rw[<-aM]at hd MM hR MR |-;clear aM;have aI:Ex B g m R0 229 #[q_ g,Y left,Y loops,Y fn] S_ W W.drew:=⟨hd.g_ (H [] W).drew,MM.g_ (H [] W).drew,hR.g_ (H [] W).drew,(H [g] W).drew⟩;refine kf (Ex B g m R0 229 #[q_ g,Y left,Y loops,Y fn] S_ W) (λ_ ae=>∃t,Bk ae R0 229 t.g8/\jD (jx (R0+1)) ae t/\SG hM 1 1 t/\iL ae B g/\J [g,R0] W ae) (J [g,R0]) [SU.z2 ap 9 #[.string {data:=#[112]},.string {data:=#[113]}] 2,SU.val _ (q_ m),SU.val _ (q_ m),SU.val _ (q_ m),SU.val _ (q_ g),SU.num _ 0 2,SU.elem ap 9 #[.string {data:=#[112]},.string {data:=#[113]}] 2,SU.pure _ (λv=>∃s,s∈hM/\v=.string s),SU.val _ (q_ m),SU.val _ (q_ m),SU.val _ (q_ m),SU.val _ (q_ g),SU.num _ 0 2,SU.pure _ (λv=>∃r:Int,v=Y r/\2<=r/\r<=3),SU.tree ap (0),SU.stmt ap (1) (1),SU.any _] (SU.any _) [[],[],[1],[2],[3],[4],[0,5],[6],[],[8],[9],[10],[11],[12],[13],[7,14],[15]] true [(some 28,0),(some 29,1),(some 30,2),(some 31,3),(some 32,4),(some 33,5),(some 34,6),(some 35,7),(some 36,8),(some 37,9),(some 38,10),(some 39,11),(some 40,12),(some 41,13),(some 42,14),(some 43,15),(none,16)] k_ k_ k_ (λ_ _ _ _ _ h=>h) k_ rfl rfl k_ aI ⟨?_,?_,?_,?_,?_,?_,?_,?_,?_,?_,?_,?_,?_,?_,?_,?_,?_,trivial⟩ ?_
  .exact JX
  .exact KV
  .exact Ke
  .exact Kb
  .exact Jj
  .refine hK [(some 32,4)] ?_;exact Ji
  .exact Jg
  .refine hK [(some 34,6)] ?_;exact JE
  .exact KV
  .refine hK [(some 36,8)] ?_;exact KD
  .refine hK [(some 37,9)] ?_;exact KD
  .refine hK [(some 38,10)] ?_;exact Jr
  .refine hK [(some 39,11)] ?_;exact Ji
  .refine hK [(some 40,12)] ?_;intro vs Q C MS K MT;obtain⟨⟨j,o,cM,bt⟩, -⟩:=MS
   try simp only[b_,o]at MT |-
   have z:IntKind.i64.wrap (2+j)=2+j:=F1 _ X;go_simp;exact MT.out _ _ C (H _ _) ⟨_,rfl,X,X⟩
  .refine hK [(some 41,13)] ?_;intro vs Q C MS K MT;obtain⟨⟨j,o,cM,bt⟩, -⟩:=MS
   try simp only[b_,o]at MT |-
   go_simp;exact MT.out (.agg (eNew j).g8) _ C (H _ _) ⟨eNew j,rfl,kl.leaf _ _ _ _ _ _,.new _ _ X X⟩
  .refine hK [(some 35,7),(some 42,14)] ?_;intro vs Q C MS K MT;obtain⟨⟨bw,cx,o⟩,⟨tb,aq,MO,d⟩, -⟩:=MS
   try simp only[b_,o,aq]at MT |-
   go_simp
   go_at_call 142
   refine(kP (R0+1) _ _ _ C.r.lt MO).mono ?_;rintro e w1⟨A,rfl,MP,hg1⟩;exact MT.out _ _ (C.g_ hg1) (hg1.mono s_) ⟨iZ _ A _,rfl,MP,SG.leaf (.vH _ cx) rfl rfl (by intro u hu;rcases N_.1 hu with rfl|hu;exact d.mono X;cases hu)⟩
  .refine jr [(some 43,15)] ?_;exact Jd
  exact Kx
 .rcases cj with rfl|rfl
  all_goals
   go_upto_region 10 with fail
   obtain⟨W,aM⟩:=nm_ w1;rw[<-aM]at hd MM hR MR |-;clear aM;have aI:Ex B g m R0 229 #[q_ g,Y left,Y loops,Y fn] S_ W W:=⟨hd,MM,hR,H [g] W⟩;refine iI (Ex B g m R0 229 #[q_ g,Y left,Y loops,Y fn] S_ W) (λ_ ae=>∃t,Bk ae R0 229 t.g8/\jD (jx (R0+1)) ae t/\SG hM 1 1 t/\iL ae B g/\J [g,R0] W ae) (J [g,R0]) [SU.val _ (q_ m),SU.val _ (q_ m),SU.val _ (q_ m),SU.val _ (q_ g),SU.num _ 0 3,SU.val _ (q_ m),SU.tree ap (1),SU.val _ (q_ m),SU.tree ap (1),SU.trees ap 2 2,SU.stmt ap (1) (1),SU.any _] (SU.any _) [[],[0],[1],[2],[3],[],[5],[],[7],[6,8],[4,9],[10]] true [(some 47,0),(some 48,1),(some 49,2),(some 50,3),(some 51,4),(some 52,5),(some 53,6),(some 54,7),(some 55,8),(some 56,9),(some 57,10),(none,11)] k_ k_ (λ_ _ _ _ _ h=>h) k_ rfl rfl k_ aI ⟨?_,?_,?_,?_,?_,?_,?_,?_,?_,?_,?_,?_,trivial⟩ ?_
   .exact KV
   .refine hK [(some 47,0)] ?_;exact KD
   .refine hK [(some 48,1)] ?_;exact KD
   .refine hK [(some 49,2)] ?_;exact Jr
   .refine hK [(some 50,3)] ?_;exact Ji
   .exact KV
   .refine hK [(some 52,5)] ?_;exact Je
   .exact KV
   .refine hK [(some 54,7)] ?_;exact Jb
   .refine hK [(some 53,6),(some 55,8)] ?_;exact Iy
   .refine hK [(some 51,4),(some 56,9)] ?_;intro vs Q C MS K MT;obtain⟨⟨j,o,cM,bt⟩,⟨f,tb,aq,nb,I,F,y⟩, -⟩:=MS
    try simp only[b_,o,aq]at MT |-
    go_simp;have aH:tb.length=_:=nb
    have n:Sl Q 226 5 (j_ f) tb.length (tb.flatMap ET.E):=by rw[aH];exact F
    have x:(lR 2 i4 i4 j 0 (j_ f) tb.length tb).g8=_:=rfl;simp only[ST.ic,lR,aH]at x;refine MT.out _ _ C (H _ _) ⟨lR 2 i4 i4 j 0 (j_ f) tb.length tb,?_,jD.es _ _ _ _ _ n I (λu hu=>(y u hu).1),SG.leaf (t:=lR 2 i4 i4 j 0 (j_ f) tb.length tb) (by show m7 _ 2 i4 i4 j 0 tb.length _ _;rw[aH];exact .EC _ X X) rfl rfl (λu hu=>(y u hu).2)⟩
    show Value.agg _=Value.agg (lR 2 i4 i4 j 0 (j_ f) tb.length tb).g8
    exact MK
   .refine jr [(some 57,10)] ?_;exact Jd
   intro vs bo C;simp only[b_];obtain⟨t,ax,MP,V,bl,G⟩:=C;go_wp2;exact rr_ t.g8 ax underlying229 ⟨t,rfl,MP.le X,V,bl,MR.hA G p_⟩
 .rcases bV with rfl|rfl
  all_goals
   go_upto_region 13 with fail
   obtain⟨W,aM⟩:=nm_ w1;rw[<-aM]at hd MM hR MR |-;clear aM;have aI:Ex B g m R0 229 #[q_ g,Y left,Y loops,Y fn] S_ W W.drew:=⟨hd.g_ (H [] W).drew,MM.g_ (H [] W).drew,hR.g_ (H [] W).drew,(H [g] W).drew⟩;refine kf (Ex B g m R0 229 #[q_ g,Y left,Y loops,Y fn] S_ W) (λ_ ae=>∃t,Bk ae R0 229 t.g8/\jD (jx (R0+1)) ae t/\SG hM 1 1 t/\iL ae B g/\J [g,R0] W ae) (J [g,R0]) [SU.z2 ap 9 #[.string {data:=#[115]},.string {data:=#[97]}] 2,SU.val _ (q_ m),SU.val _ (q_ m),SU.val _ (q_ m),SU.val _ (q_ g),SU.num _ 0 2,SU.elem ap 9 #[.string {data:=#[115]},.string {data:=#[97]}] 2,SU.pure _ (λv=>∃s,s∈hM/\v=.string s),SU.z2 ap 3 #[Y 1,Y 6,Y 9,Y 1] 4,SU.val _ (q_ m),SU.val _ (q_ m),SU.val _ (q_ m),SU.val _ (q_ g),SU.num _ 0 4,SU.elem ap 3 #[Y 1,Y 6,Y 9,Y 1] 4,SU.pure _ (λv=>∃r:Int,(r=1∨r=6∨r=9)/\v=Y r),SU.val _ (q_ m),SU.tree ap (1),SU.trees ap 2 1,SU.stmt ap (1) (1),SU.any _] (SU.any _) [[],[],[1],[2],[3],[4],[0,5],[6],[],[],[9],[10],[11],[12],[8,13],[14],[],[16],[17],[7,15,18],[19]] true [(some 61,0),(some 62,1),(some 63,2),(some 64,3),(some 65,4),(some 66,5),(some 67,6),(some 68,7),(some 69,8),(some 70,9),(some 71,10),(some 72,11),(some 73,12),(some 74,13),(some 75,14),(some 76,15),(some 77,16),(some 78,17),(some 79,18),(some 80,19),(none,20)] k_ k_ k_ (λ_ _ _ _ _ h=>h) k_ rfl rfl k_ aI ⟨?_,?_,?_,?_,?_,?_,?_,?_,?_,?_,?_,?_,?_,?_,?_,?_,?_,?_,?_,?_,?_,trivial⟩ ?_
   .exact JX
   .exact KV
   .refine hK [(some 62,1)] ?_;exact KD
   .refine hK [(some 63,2)] ?_;exact KD
   .refine hK [(some 64,3)] ?_;exact Jr
   .refine hK [(some 65,4)] ?_;exact Ji
   .refine hK [(some 61,0),(some 66,5)] ?_;exact Js
   .refine hK [(some 67,6)] ?_;intro vs Q C MS K MT;obtain⟨⟨a6,E,o,bt,bg,be⟩, -⟩:=MS
    try simp only[b_,o]at MT |-
    obtain⟨s,hs,bM⟩:=DG E X;exact LS
   .exact JX
   .exact KV
   .refine hK [(some 70,9)] ?_;exact KD
   .refine hK [(some 71,10)] ?_;exact KD
   .refine hK [(some 72,11)] ?_;exact Jr
   .refine hK [(some 73,12)] ?_;exact Ji
   .refine hK [(some 69,8),(some 74,13)] ?_;exact Js
   .refine hK [(some 75,14)] ?_;intro vs Q C MS K MT;obtain⟨⟨a6,E,o,bt,bg,be⟩, -⟩:=MS
    try simp only[b_,o]at MT |-
    obtain⟨s,hs,bM⟩:=DH E X;exact LS
   .exact KV
   .refine hK [(some 77,16)] ?_;exact Jb
   .refine hK [(some 78,17)] ?_;exact IL
   .refine hK [(some 68,7),(some 76,15),(some 79,18)] ?_;intro vs Q C MS K MT;obtain⟨⟨bw,cx,o⟩,⟨aK,mb,aq⟩,⟨L,l,ec,al,lc,i,c⟩, -⟩:=MS
    try simp only[b_,o,aq,ec]at MT |-
    go_simp;have aH:l.length=_:=al
    have n:Sl Q 226 5 (j_ L) l.length (l.flatMap ET.E):=by rw[aH];exact i
    have x:(lR 12 bw i4 0 aK (j_ L) l.length l).g8=_:=rfl;simp only[ST.ic,lR,aH]at x;refine MT.out _ _ C (H _ _) ⟨lR 12 bw i4 0 aK (j_ L) l.length l,?_,jD.es _ _ _ _ _ n lc (λu hu=>(c u hu).1),SG.leaf (t:=lR 12 bw i4 0 aK (j_ L) l.length l) (by show m7 _ 12 bw i4 0 aK l.length _ _;rw[aH];exact .red _ cx _ mb) rfl rfl (λu hu=>(c u hu).2)⟩
    show Value.agg _=Value.agg (lR 12 bw i4 0 aK (j_ L) l.length l).g8
    exact MK
   .refine jr [(some 80,19)] ?_;exact Jd
   intro vs bo C;simp only[b_];obtain⟨t,ax,MP,V,bl,G⟩:=C;go_wp2;exact rr_ t.g8 ax underlying229 ⟨t,rfl,MP.le X,V,bl,MR.hA G p_⟩
 .subst aP
  go_upto_region 15 with fail
  obtain⟨W,aM⟩:=nm_ w1;rw[<-aM]at hd MM hR MR |-;clear aM;have aI:Ex B g m R0 229 #[q_ g,Y left,Y loops,Y fn] S_ W W:=⟨hd,MM,hR,H [g] W⟩;refine iI (Ex B g m R0 229 #[q_ g,Y left,Y loops,Y fn] S_ W) (λ_ ae=>∃t,Bk ae R0 229 t.g8/\jD (jx (R0+1)) ae t/\SG hM 1 1 t/\iL ae B g/\J [g,R0] W ae) (J [g,R0]) [SU.val _ (q_ m),SU.tree ap (1),SU.trees ap 2 1,SU.stmt ap (1) (1),SU.any _] (SU.any _) [[],[0],[1],[2],[3]] true [(some 83,0),(some 84,1),(some 85,2),(some 86,3),(none,4)] k_ k_ (λ_ _ _ _ _ h=>h) k_ rfl rfl k_ aI ⟨?_,?_,?_,?_,?_,trivial⟩ ?_
  .exact KV
  .refine hK [(some 83,0)] ?_;exact Jb
  .refine hK [(some 84,1)] ?_;exact IL
  .refine hK [(some 85,2)] ?_;intro vs Q C MS K MT;obtain⟨⟨a6,ta,o,L,bg,be,l⟩, -⟩:=MS
   try simp only[b_,o]at MT |-
   go_simp;have aH:ta.length=_:=L
   have n:Sl Q 226 5 (j_ a6) ta.length (ta.flatMap ET.E):=by rw[aH];exact be
   have x:(lR 10 i4 i4 0 0 (j_ a6) ta.length ta).g8=_:=rfl;simp only[ST.ic,lR,aH]at x;refine MT.out _ _ C (H _ _) ⟨lR 10 i4 i4 0 0 (j_ a6) ta.length ta,?_,jD.es _ _ _ _ _ n bg (λu hu=>(l u hu).1),SG.leaf (t:=lR 10 i4 i4 0 0 (j_ a6) ta.length ta) (by show m7 _ 10 i4 i4 0 0 ta.length _ _;rw[aH];exact .EH) rfl rfl (λu hu=>(l u hu).2)⟩
   show Value.agg _=Value.agg (lR 10 i4 i4 0 0 (j_ a6) ta.length ta).g8
   exact MK
  .refine jr [(some 86,3)] ?_;exact Jd
  exact Kx
 .subst dW
  go_upto_region 17 with fail
  obtain⟨W,aM⟩:=nm_ w1;rw[<-aM]at hd MM hR MR |-;clear aM;have aI:Ex B g m R0 229 #[q_ g,Y left,Y loops,Y fn] S_ W W:=⟨hd,MM,hR,H [g] W⟩;refine iI (Ex B g m R0 229 #[q_ g,Y left,Y loops,Y fn] S_ W) (λ_ ae=>∃t,Bk ae R0 229 t.g8/\jD (jx (R0+1)) ae t/\SG hM 1 1 t/\iL ae B g/\J [g,R0] W ae) (J [g,R0]) [SU.val _ (.string v),SU.val _ (q_ m),SU.tree ap (1),SU.trees ap 2 1,SU.stmt ap (1) (1),SU.any _] (SU.any _) [[],[],[1],[2],[0,3],[4]] true [(some 89,0),(some 90,1),(some 91,2),(some 92,3),(some 93,4),(none,5)] k_ k_ (λ_ _ _ _ _ h=>h) k_ rfl rfl k_ aI ⟨?_,?_,?_,?_,?_,?_,trivial⟩ ?_
  .exact KV
  .exact KV
  .refine hK [(some 90,1)] ?_;exact Jb
  .refine hK [(some 91,2)] ?_;exact IL
  .refine hK [(some 89,0),(some 92,3)] ?_;intro vs Q C MS K MT;obtain⟨o,⟨f,tb,aq,nb,I,F,y⟩, -⟩:=MS;replace o:_=_:=o
   try simp only[b_,o,aq]at MT |-
   go_simp;have aH:tb.length=_:=nb
   have n:Sl Q 226 5 (j_ f) tb.length (tb.flatMap ET.E):=by rw[aH];exact F
   have x:(lR 11 v i4 0 0 (j_ f) tb.length tb).g8=_:=rfl;simp only[ST.ic,lR,aH]at x;refine MT.out _ _ C (H _ _) ⟨lR 11 v i4 0 0 (j_ f) tb.length tb,?_,jD.es _ _ _ _ _ n I (λu hu=>(y u hu).1),SG.leaf (t:=lR 11 v i4 0 0 (j_ f) tb.length tb) (by show m7 _ 11 v i4 0 0 tb.length _ _;rw[aH];exact .ask _ aO.out) rfl rfl (λu hu=>(y u hu).2)⟩
   show Value.agg _=Value.agg (lR 11 v i4 0 0 (j_ f) tb.length tb).g8
   exact MK
  .refine jr [(some 93,4)] ?_;exact Jd
  exact Kx
 .subst bD
  go_upto_region 19 with fail
  obtain⟨W,aM⟩:=nm_ w1;rw[<-aM]at hd MM hR MR |-;clear aM;have aI:Ex B g m R0 229 #[q_ g,Y left,Y loops,Y fn] S_ W W:=⟨hd,MM,hR,H [g] W⟩;refine iI (Ex B g m R0 229 #[q_ g,Y left,Y loops,Y fn] S_ W) (λ_ ae=>∃t,Bk ae R0 229 t.g8/\jD (jx (R0+1)) ae t/\SG hM 1 1 t/\iL ae B g/\J [g,R0] W ae) (J [g,R0]) [SU.tree ap (0),SU.val _ (q_ m),SU.tree ap (1),SU.tree ap (1+1),SU.stmt ap (1) (1),SU.any _] (SU.any _) [[],[],[1],[0,2],[3],[4]] true [(some 96,0),(some 97,1),(some 98,2),(some 99,3),(some 100,4),(none,5)] k_ k_ (λ_ _ _ _ _ h=>h) k_ rfl rfl k_ aI ⟨?_,?_,?_,?_,?_,?_,trivial⟩ ?_
  .refine hK [] ?_;intro vs Q C MS K MT;clear MS
   try simp only[b_]at MT |-
   go_simp
   go_at_call 145
   refine(j5 _).mono ?_;rintro e w1⟨rfl,hg1⟩;exact MT.out _ _ (C.g_ hg1) (hg1.mono s_) ⟨jv vM,rfl,kl.leaf _ _ _ _ _ _,.var _ _ (by simp[hM])⟩
  .exact KV
  .refine hK [(some 97,1)] ?_;exact Jb
  .refine hK [(some 96,0),(some 98,2)] ?_;intro vs Q C MS K MT;obtain⟨⟨ta,o,aE,E⟩,⟨tb,aq,MO,d⟩, -⟩:=MS
   try simp only[b_,o,aq]at MT |-
   go_simp
   go_at_call 143
   refine(oM (R0+1) 1 ta tb C.r.lt aE MO).mono ?_;rintro e w1⟨A,rfl,MP,hg1⟩;exact MT.out _ _ (C.g_ hg1) (hg1.mono s_) ⟨qu 1 A ta tb,rfl,MP,.bin 1 _ _ _ _ X X (E.mono X) (d.mono X)⟩
  .refine hK [(some 99,3)] ?_;intro vs Q C MS K MT;obtain⟨⟨ta,o,aE,E⟩, -⟩:=MS
   try simp only[b_,o]at MT |-
   go_simp
   go_at_call 142
   refine(kP (R0+1) _ _ _ C.r.lt aE).mono ?_;rintro e w1⟨A,rfl,MP,hg1⟩;exact MT.out _ _ (C.g_ hg1) (hg1.mono s_) ⟨iZ _ A _,rfl,MP,SG.leaf (.vH _ (show vM∈hM by simp[hM])) rfl rfl (by intro u hu;rcases N_.1 hu with rfl|hu;exact E.mono X;cases hu)⟩
  .refine jr [(some 100,4)] ?_;exact Jd
  exact Kx
 .subst eT;have aS:=MM.f_ 3
  by_cases l:fn<2
  .have M:decide (fn<2)=true:=by simp[l]
   go_upto_region 22 with fail
   clear aS;obtain⟨W,aM⟩:=nm_ w1;rw[<-aM]at hd MM hR MR |-;clear aM;have aI:Ex B g m R0 229 #[q_ g,Y left,Y loops,Y fn] S_ W W:=⟨hd,MM,hR,H [g] W⟩;refine iI (Ex B g m R0 229 #[q_ g,Y left,Y loops,Y fn] S_ W) (λ_ ae=>∃t,Bk ae R0 229 t.g8/\jD (jx (R0+1)) ae t/\SG hM 1 1 t/\iL ae B g/\J [g,R0] W ae) (J [g,R0]) [SU.val _ (q_ m),SU.val _ (.string v),SU.stmt ap (1) (1),SU.any _] (SU.any _) [[],[],[0,1],[2]] true [(some 108,0),(some 109,1),(some 110,2),(none,3)] k_ k_ (λ_ _ _ _ _ h=>h) k_ rfl rfl k_ aI ⟨?_,?_,?_,?_,trivial⟩ ?_
   .exact KV
   .exact KV
   .refine hK [(some 108,0),(some 109,1)] ?_;intro vs Q C MS K MT;obtain⟨o,aq, -⟩:=MS;replace o:_=_:=o;replace aq:_=_:=aq
    try simp only[b_,o,aq]at MT |-
    go_simp
    go_at_call 219
    refine(BO B g m left loops fn v aO.out C.d C.m hBm).mono ?_;exact KS
   .refine jr [(some 110,2)] ?_;exact Jd
   exact Kx
  .have M:decide (fn<2)=false:=by simp[l]
   go_upto_region 25 with fail
   clear aS;exact Ic
 .subst eb
  go_upto_region 24 with fail
  obtain⟨W,aM⟩:=nm_ w1;rw[<-aM]at hd MM hR MR |-;clear aM;have aI:Ex B g m R0 229 #[q_ g,Y left,Y loops,Y fn] S_ W W.drew:=⟨hd.g_ (H [] W).drew,MM.g_ (H [] W).drew,hR.g_ (H [] W).drew,(H [g] W).drew⟩;refine kf (Ex B g m R0 229 #[q_ g,Y left,Y loops,Y fn] S_ W) (λ_ ae=>∃t,Bk ae R0 229 t.g8/\jD (jx (R0+1)) ae t/\SG hM 1 1 t/\iL ae B g/\J [g,R0] W ae) (J [g,R0]) [SU.z2 ap 3 #[Y 8,Y 7] 2,SU.val _ (q_ m),SU.val _ (q_ m),SU.val _ (q_ m),SU.val _ (q_ g),SU.num _ 0 2,SU.elem ap 3 #[Y 8,Y 7] 2,SU.pure _ (λv=>∃r:Int,(r=7∨r=8)/\v=Y r),SU.val _ (q_ m),SU.tree ap (1),SU.trees ap 2 1,SU.stmt ap (1) (1),SU.any _] (SU.any _) [[],[],[1],[2],[3],[4],[0,5],[6],[],[8],[9],[7,10],[11]] true [(some 113,0),(some 114,1),(some 115,2),(some 116,3),(some 117,4),(some 118,5),(some 119,6),(some 120,7),(some 121,8),(some 122,9),(some 123,10),(some 124,11),(none,12)] k_ k_ k_ (λ_ _ _ _ _ h=>h) k_ rfl rfl k_ aI ⟨?_,?_,?_,?_,?_,?_,?_,?_,?_,?_,?_,?_,?_,trivial⟩ ?_
  .exact JX
  .exact KV
  .refine hK [(some 114,1)] ?_;exact KD
  .refine hK [(some 115,2)] ?_;exact KD
  .refine hK [(some 116,3)] ?_;exact Jr
  .refine hK [(some 117,4)] ?_;exact Ji
  .refine hK [(some 113,0),(some 118,5)] ?_;exact Js
  .refine hK [(some 119,6)] ?_;intro vs Q C MS K MT;obtain⟨⟨a6,E,o,bt,bg,be⟩, -⟩:=MS
   try simp only[b_,o]at MT |-
   obtain⟨s,hs,bM⟩:=DF E X;exact LS
  .exact KV
  .refine hK [(some 121,8)] ?_;exact Jb
  .refine hK [(some 122,9)] ?_;exact IL
  .refine hK [(some 120,7),(some 123,10)] ?_;intro vs Q C MS K MT;obtain⟨⟨j,cx,o⟩,⟨f,tb,aq,nb,I,F,y⟩, -⟩:=MS
   try simp only[b_,o,aq]at MT |-
   go_simp;have aH:tb.length=_:=nb
   have n:Sl Q 226 5 (j_ f) tb.length (tb.flatMap ET.E):=by rw[aH];exact F
   have x:(lR j i4 i4 0 0 (j_ f) tb.length tb).g8=_:=rfl;simp only[ST.ic,lR,aH]at x;refine MT.out _ _ C (H _ _) ⟨lR j i4 i4 0 0 (j_ f) tb.length tb,?_,jD.es _ _ _ _ _ n I (λu hu=>(y u hu).1),SG.leaf (t:=lR j i4 i4 0 0 (j_ f) tb.length tb) (by show m7 _ j i4 i4 0 0 tb.length _ _;rw[aH];exact(by rcases cx with rfl|rfl;exact .ret;exact .Ez)) rfl rfl (λu hu=>(y u hu).2)⟩
   show Value.agg _=Value.agg (lR j i4 i4 0 0 (j_ f) tb.length tb).g8
   exact MK
  .refine jr [(some 124,11)] ?_;exact Jd
  exact Kx
 .subst dj
  go_upto_region 25 with fail
  exact Ic
def E7(p:Nat)(B g m:Nat)(left loops fn:Int)(w:World)(e:Ending)(w':World):Prop:=
 ∃(t:ST) (N:Nat) (l:Int),e=.returned (.agg t.g8)/\jD (jx w.heap.size) w' t/\SG hM (4-p) N t/\0<=l/\l<=left/\(N:Int)+2*l<=2+2*left/\Bk w' m 222 #[q_ g,Y l,Y loops,Y fn]/\iL w' B g/\J [g,m] w w'
def E5(p:Nat)(B g m:Nat)(fn:Int):Prop:=∀(P left loops:Int) (w:World),P=p->iL w B g->Bk w m 222 #[q_ g,Y left,Y loops,Y fn]->B<=m->0<=left->left<=100->0<=loops->loops<=50+p->
 Calls prog 176 #[q_ m,Y P] w (E7 p B g m left loops fn w)
def Eu(p:Nat)(n:Int)(B g m:Nat)(left loops fn:Int)(w:World)(e:Ending)(w':World):Prop:=
 ∃(A:OA) (c:Nat) (ts:List ST) (N:Nat) (l:Int),e=.returned (.slice A ts.length c)/\(ts.length:Int)<=n+1/\lI hM w.heap.size (4-p) N w' A c ts/\0<=l/\l<=left/\(N:Int)+2*l<=2*left/\Bk w' m 222 #[q_ g,Y l,Y loops,Y fn]/\iL w' B g/\J [g,m] w w'
def EL(p:Nat)(B g m:Nat)(fn:Int):Prop:=∀(P n left loops:Int) (w:World),P=p->0<=n->n<=10->iL w B g->Bk w m 222 #[q_ g,Y left,Y loops,Y fn]->B<=m->0<=left->left<=100->0<=loops->loops<=50+p->
 Calls prog 139 #[q_ m,Y P,Y n] w (Eu p n B g m left loops fn w)
def s3(hp:p<=3)(B g m:Nat)(K:Int)(aq:E5 p B g m K):EL p B g m K:=by
 obtain⟨i1,bJ,bY,bZ,ca⟩:=info_parts infoSt;intro ae y left loops w hP hn0 hn1 hd r hBm hl0 hl1 hq0 hq1;have aQ:=O hP;clear hP;have a2:=hd.x0;have cy:=r.lt;have ag:m≠g:=X;obtain⟨i,Q⟩:=nm_ (Eu p y B g m left loops K w);rw[<-Q];have aI:=O Q;clear Q;have aC:IntKind.i64.wrap (y+1)=y+1:=F1 _ X;have MN:=r.f_ 0
 go_enter func139,ntmps139
 go_wp2_with (go_at_call 19;refine(iq B g (y+1) hd X X).mono ?_;rintro ah w1⟨k,rfl,b3,bN,bI,U⟩)
 clear aC MN;replace r:=r.gr U p_;have P:J [g,m] w w1:=U.mono s_;clear U hd;obtain⟨j,b0⟩:=nm_ w.heap.size
 have aB:j<=w1.heap.size:=by rw[b0];exact P.size
 have o:=O b0;clear b0
 go_loopw [7,8] (λov T w'=>∃(l:Int) (A:OA) (c:Nat) (ts:List ST) (N:Nat) (d:Int),T=Y l/\ -1<=l/\(ts.length:Int)+l<=y/\ov=.slice A ts.length c/\lI hM j (4-p) N w' A c ts/\0<=d/\d<=left/\(N:Int)+2*d<=2*left/\Bk w' m 222 #[q_ g,Y d,Y loops,Y K]/\iL w' B g/\J [g,m] w w'/\j<=w'.heap.size) (λ_ T _=>(intOf T+1).toNat)
 case atStart=>exact⟨k,none,0,[],0,left,rfl,X,p_,rfl,lI.nil _ _ _ _,hl0,X,X,r,bI,P,aB⟩
 case round=>
  obtain⟨l,A,c,ts,N,d,rfl,bp,bA,rfl,hL,bm,bu,bv,u,bO,aj,ak⟩:=hrel;obtain⟨al,b⟩:=nm_ ts.length;have bh:=O b;have s:=hL.own;rw[<-b]at bA s |-;clear b r bI P
  by_cases an:0<=l/\0<d
  .obtain⟨hg1,MS⟩:=an;have cn:=u.hN 1 (Y (d-1));have n:J [m] wr (wr.setCell (Z m 1) (Y (d-1))):=(H [m] wr).setCell (.inl s_) _;have cI:=bO.ib n p_;have ai:=u.f_ 1;have aR:=u.hm 1
   go_upto_region 6 with fail
   clear ai aR
   go_wp2_with (first|(go_at_call 176;refine(aq ae (d-1) loops _ aQ.out cI cn hBm X X hq0 hq1).mono ?_;rintro ah f⟨L,ap,l2,rfl,MP,aE,bH,ar,MT,dn,ea,E⟩;have aV:=oa (oa s n (λe a x=>by have:=(kx s x).1;simp at a;have:=cy;have:=o.out;omega)) E (λe a x=>by have:=(kx s x).1;simp at a;have:=o.out;omega);have z:j<=(f.alloc (.cells L.g8 229)).heap.size:=(by have h1:=n.size;have h2:=E.size;simp;omega);have au:=oa aV ((H [] f).alloc (.cells L.g8 229)) s_;obtain⟨h,v⟩:=nm_ L;have t:=O v;rw[<-v]at MP aE au z;clear v;obtain⟨s1,bV,cr,dw,bX,bL,b6,da,cu,bw,sb,sc,dx,dy⟩:=L;simp only[ST.ic])|(at_builtin;refine j0 rfl rfl j 229 i1 8 128 underlying211 bJ bY bZ ca rfl I I A al c (ts.flatMap ST.E) rfl (by rw[t.out]at au;exact au) _ 1 1 ([h].flatMap ST.E) rfl (by rw[t.out];exact rO _ (Q_ f 229 _)) (k9) X (by rw[t.out]at z;exact z) ?_;intro S am ad aU F bD))
   go_roundw
   case rel=>
    have av:lI hM j (4-p) N (f.alloc (.cells h.g8 229)) A c ts:=by
     have h1:=hL.iy n (by intro e a;simp at a;have:=o.out;omega);have h2:=h1.iy E (by intro e a;simp at a;have:=o.out;omega);exact h2.iy ((H [] f).alloc _) s_
    have v:jD (zC j (Value.slice A al c).ownBlock) (f.alloc (.cells h.g8 229)) h:=by
     refine(MP.imp λe a=>⟨G_ (G_ ak n.size) a,λx=>?_⟩).g_ ((H [] f).alloc _);have h1:=(kx s x).2;have h2:=n.size
     have:(wr.setCell (Z m 1) (Y (d-1))).heap.size<=e:=a
     omega
    have b:=bh.out;subst b
    replace F:(f.alloc (.cells h.g8 229)).grownBy ad (Value.slice A ts.length c).ownBlock:=by rw[t.out];exact F
    replace bD:(Value.slice S (ts.length+1) am).ownBlock=(Value.slice A ts.length c).ownBlock∨(Value.slice S (ts.length+1) am).ownBlock=some (f.alloc (.cells h.g8 229)).heap.size:=by rw[t.out];exact bD
    have cW:=av.add (us:=[h]) aU F bD (λaw hu=>by have:aw=h:=(zu hu);subst this;exact v) aE
    have bt:∀e∈oS (Value.slice A ts.length c).ownBlock,j<=e:=λe a=>(kx s (jC.1 a)).1
    have C:=J.iW F;have dN:=Nat.le_of_eq o.out.symm;have q:m<j:=ov o.out;refine⟨l-1,S,am,ts++[h],N+ap,l2,rfl,X,p_,s_,by simpa using cW,bH,X,by push_cast;omega,(dn.alloc _).gr C (λa=>by have:=bt m a;omega),(ea.g_ ((H [] f).alloc _)).ib C (λe a=>by have:=bt e a;omega),?_,?_⟩
    .exact(((aj.trans (n.mono s_)).trans E).alloc _).hA C (λe a=>.inr (ov (bt e a)))
    .exact G_ z C.size
   case measure=>exact mz
  .have a:¬(0<=l)∨(0<=l/\¬(0<d)):=X;have ai:=u.f_ 1
   rcases a with a|⟨a,e⟩
   all_goals
    go_wp2;rw[aI.out,bh.out];exact⟨A,c,ts,N,d,rfl,ov bh.out,by have:=o.out;subst this;exact hL,bm,bu,bv,u,bO,aj⟩
def CS:∀k,k<3->∃s,s∈hM/\(#[.string {data:=#[105]},.string {data:=#[106]},.string {data:=#[107]}]:Array Value)[k]?=some (.string s)
 |0,_=>⟨oT,by simp[hM],rfl⟩
 |1,_=>⟨xX,by simp[hM],rfl⟩
 |2,_=>⟨xW,by simp[hM],rfl⟩
def Lf(g m:Nat)(loops fn hi:Int)(w:World):Prop:=∃l,0<=l/\l<=hi/\Bk w m 222 #[q_ g,Y l,Y loops,Y fn]
def Lf.gr{g m:Nat}{e a d:Int}{w w':World}(h:Lf g m e a d w)(o:J M w w')(f:m∉M):Lf g m e a d w':=by
 obtain⟨q,j,l,n⟩:=h;exact⟨q,j,l,n.gr o f⟩
def Lf.le{g m:Nat}{e d a b:Int}{w:World}(h:Lf g m e d a w)(o:a<=b):Lf g m e d b w:=by
 obtain⟨l,f,n,j⟩:=h;exact⟨l,f,X,j⟩
def GL(M:List Nat)(g m:Nat)(loops fn:Int)(a b:World):Prop:=J M a b/\∀hi,Lf g m loops fn hi a->Lf g m loops fn hi b
def GL.of{g m:Nat}{l e:Int}{a b:World}(h:J [g] a b)(o:g∈M)(d:m≠g):GL M g m l e a b:=⟨h.mono (by intro n j;have:n=g:=(zu j);subst this;exact o),λ_ f=>f.gr h (zu d)⟩
def GL.jX{g m:Nat}{f d:Int}{a b:World}(h:J [] a b):GL M g m f d a b:=⟨h.mono s_,λ_ e=>e.gr h s_⟩
structure Es(B g m R:Nat)(tr:TypeId)(left loops fn:Int)(zc:Array Value)(W w:World):Prop where
 d:iL w B g
 lf:Lf g m loops fn left w
 r:Bk w R tr zc
 g:J [g,m] W w
def Es.step{B g m R:Nat}{left loops fn:Int}{zc:Array Value}{W w w':World}(h:Es B g m R tr left loops fn zc W w)(a:J [g] w w')(f:iL w' B g)(d:m≠g)(e:R≠g):Es B g m R tr left loops fn zc W w':=
 ⟨f,h.lf.gr a (zu d),h.r.gr a (zu e),h.g.trans (a.mono s_)⟩
def Es.g_{B g m R:Nat}{left loops fn:Int}{zc:Array Value}{W w w':World}(h:Es B g m R tr left loops fn zc W w)(a:J [] w w'):Es B g m R tr left loops fn zc W w':=
 ⟨h.d.g_ a,h.lf.gr a s_,h.r.g_ a,h.g.trans (a.mono s_)⟩
def Es.kX{B g m R:Nat}{left l loops fn:Int}{zc:Array Value}{W w w':World}(h:Es B g m R tr left loops fn zc W w)(a:J [g,m] w w')(j:iL w' B g)(f:Lf g m loops fn l w')(n:l<=left)(d:R≠m)(e:R≠g):Es B g m R tr left loops fn zc W w':=
 ⟨j,f.le n,h.r.gr a (by simp;exact⟨e,d⟩),h.g.trans a⟩
def SU.l1{M:List Nat}{lo:Nat}(z:∀y∈M,y<lo)(D g m:Nat)(left loops fn:Int):SU (λ_=>GL M g m loops fn):=
 SU.of (λv w=>∃(A:OA) (c:Nat) (ts:List ST) (N:Nat) (l:Int),v=.slice A ts.length c/\lI hM lo D N w A c ts/\0<=l/\l<=left/\(N:Int)+2*l<=2*left/\Lf g m loops fn l w)
  (λ_ _ _ hg⟨A,c,ts,N,l,h1,h2,h3,ar,av,aV⟩=>⟨A,c,ts,N,l,h1,h2.iy hg.1 z,h3,ar,av,hg.2 _ aV⟩)
def SU.l2{M:List Nat}{lo:Nat}(z:∀y∈M,y<lo)(i D g m:Nat)(left loops fn:Int):SU (λ_=>GL M g m loops fn):=
 ⟨λvs v w=>∃(A1:OA) (c1:Nat) (a:List ST) (e:Nat) (A:OA) (c:Nat) (ts:List ST) (N:Nat) (l:Int),vs i=.slice A1 a.length c1/\lI hM lo D e w A1 c1 a/\v=.slice A ts.length c/\lI hM lo D N w A c ts/\0<=l/\l<=left/\(e:Int)+N+2*l<=2*left/\Lf g m loops fn l w,
   [],λ_ _ _ _ _ _ hg⟨A1,c1,a,e,A,c,ts,N,l,h1,h2,h3,ar,av,aV,bq,aT⟩=>⟨A1,c1,a,e,A,c,ts,N,l,h1,h2.iy hg.1 z,h3,ar.iy hg.1 z,av,aV,bq,hg.2 _ aT⟩,
   [i],λ_ _ _ _ hv⟨A1,c1,a,e,A,c,ts,N,l,h1,h2⟩=>⟨A1,c1,a,e,A,c,ts,N,l,(hv i s_).symm.trans h1,h2⟩⟩
def lI.sl{base D N c:Nat}{w:World}{A:OA}{ts:List ST}(h:lI V base D N w A c ts):Sl w 229 8 A ts.length (ts.flatMap ST.E):=Sl.iQ h.own
def lI.from{base D N c:Nat}{w:World}{A:OA}{ts:List ST}(h:lI V base D N w A c ts):∀u∈ts,jD (jx base) w u:=λu a=>(h.i3 u a).imp λ_ d=>d.1
def jD.node{h D e a:Nat}{w:World}(k:Int)(x f:ByteArray)(n K:Int)(q:OA)(C:Nat)(es:List ET){r s:OA}{z v:Nat}{E t:List ST}(I:Sl w 226 5 q es.length (es.flatMap ET.E))(H:es.length<=C)(F:∀y j,q=some (Z y j)->h<=y)(J:∀u∈es,kl (jx h) w u)(l:lI V h D e w r z E)(o:lI V h D a w s v t):jD (jx h) w (ST.mk k x f n K q C es r z E s v t):=
 .mk _ I H (λy j d _=>F y j d) J l.sl (jk l.own) (λy j d _=>wv l.own d) l.from o.sl (jk o.own) (λy j d _=>wv o.own d) o.from
def s6{w:World}{g m:Nat}{a b q j f n:Int}(h:Bk w m 222 #[q_ g,Y a,Y q,Y f])(k:Bk w m 222 #[q_ g,Y b,Y j,Y n]):a=b:=by
 have e:w.heap[m]?=_:=h;have d:w.heap[m]?=_:=k;rw[e]at d;simp at d;exact d.1
structure Db(B g m R R7 x:Nat)(mc zc sc xc:Array Value)(W w:World):Prop where
 d:iL w B g
 m:Bk w m 222 mc
 r:Bk w R 229 zc
 s:Bk w R7 229 sc
 x:Bk w x 226 xc
 g:J [g] W w
def Db.step{B g m R R7 x:Nat}{mc zc sc d:Array Value}{W w w':World}(h:Db B g m R R7 x mc zc sc d W w)(a:J [g] w w')(n:iL w' B g)(f:m≠g)(j:R≠g)(l:R7≠g)(e:x≠g):Db B g m R R7 x mc zc sc d W w':=
 ⟨n,h.m.gr a (zu f),h.r.gr a (zu j),h.s.gr a (zu l),h.x.gr a (zu e),h.g.trans a⟩
def Db.g_{B g m R R7 x:Nat}{mc zc sc d:Array Value}{W w w':World}(h:Db B g m R R7 x mc zc sc d W w)(a:J [] w w'):Db B g m R R7 x mc zc sc d W w':=
 ⟨h.d.g_ a,h.m.g_ a,h.r.g_ a,h.s.g_ a,h.x.g_ a,h.g.trans (a.mono s_)⟩
def G2(k:Nat)(M d:List Nat)(i:Nat)(a b:World):Prop:=J (if i=k then d else M) a b
def G2.gr{d:List Nat}{a b:World}(h:G2 k M d i a b)(e:∀y∈M,y∈d):J d a b:=by
 unfold G2 at h;split at h
 .exact h
 .exact h.mono e
def G2.ne{d:List Nat}{a b:World}(h:G2 k M d i a b)(e:i≠k):J M a b:=by
 unfold G2 at h;rw[I_ e]at h;exact h
structure Ws(B g q R R7 base D N:Nat)(A:OA)(c:Nat)(ts:List ST)(mc zc sc:Array Value)(W:World)(b:Bool)(w:World):Prop where
 d:iL w B g
 m:Bk w q 222 mc
 r:Bk w R 229 zc
 s:Bk w R7 229 sc
 lf:b=false->lI hM base D N w A c ts
 g:J (g::oS (Value.slice A ts.length c).ownBlock) W w
 h1:q<base
 h2:R<base
 h3:R7<base
section
variable{B g m R R7 base D N:Nat}{A:OA}{c:Nat}{ts:List ST}{mc zc sc:Array Value}{W w w':World}{b:Bool}
def Ws.hz(h:Ws B g m R R7 base D N A c ts mc zc sc W b w):W.heap.size<=w.heap.size:=h.g.size
def Ws.step(h:Ws B g m R R7 base D N A c ts mc zc sc W b w)(a:J [g] w w')(n:iL w' B g)(e:m≠g)(f:R≠g)(j:R7≠g)(d:g<base):Ws B g m R R7 base D N A c ts mc zc sc W b w':=
 ⟨n,h.m.gr a (zu e),h.r.gr a (zu f),h.s.gr a (zu j),λl=>(h.lf l).iy a (zu d),h.g.trans (a.mono s_),h.h1,h.h2,h.h3⟩
def Ws.g_(h:Ws B g m R R7 base D N A c ts mc zc sc W b w)(a:J [] w w'):Ws B g m R R7 base D N A c ts mc zc sc W b w':=
 ⟨h.d.g_ a,h.m.g_ a,h.r.g_ a,h.s.g_ a,λd=>(h.lf d).iy a s_,h.g.trans (a.mono s_),h.h1,h.h2,h.h3⟩
def Ws.app(h:Ws B g m R R7 base D N A c ts mc zc sc W b w)(d:J (oS (Value.slice A ts.length c).ownBlock) w w')(e:∀y∈oS (Value.slice A ts.length c).ownBlock,base<=y)(f:B<=base):Ws B g m R R7 base D N A c ts mc zc sc W true w':=
 ⟨h.d.ib d (λo l=>G_ f (e o l)),h.m.gr d (λa=>by have:=e _ a;have:=h.h1;omega),h.r.gr d (λa=>by have:=e _ a;have:=h.h2;omega),h.s.gr d (λa=>by have:=e _ a;have:=h.h3;omega),(λj=>by cases j),h.g.trans (d.mono (by intro y n;simp[n])),h.h1,h.h2,h.h3⟩
end
def zG(l:Int)(h:0<=l):0<=l.tmod 3/\l.tmod 3<3/\0<=l % 3/\l % 3<3:=⟨Int.tmod_nonneg _ h,Int.tmod_lt_of_pos _ X,by omega,by omega⟩
def vm(hp:p<3)(B g m:Nat)(fn:Int)(bh:EL (p+1) B g m fn):E5 p B g m fn:=by
 obtain⟨i1,bJ,bY,bZ,ca⟩:=info_parts infoSt;intro P left loops w hP hd MM hBm hl0 hl1 hq0 hq1;have aQ:=O hP;have d5:0<=P:=X;have cH:P<=2:=X;clear hP;have a2:=hd.x0;have cy:=MM.lt
 go_enter func176,ntmps176
 go_upto_region 1 with fail
 have aX:J [] w (w.alloc (.cells S_ 229)):=(H [] w).alloc _;replace hd:=hd.g_ aX;replace MM:=MM.g_ aX;have hR:=Q_ w 229 S_;have MR:J [g] w (w.alloc (.cells S_ 229)):=(H [g] w).alloc _;clear aX;obtain⟨bj,b0⟩:=nm_ (w.alloc (.cells S_ 229));rw[<-b0]at hd MM hR MR |-;clear b0;obtain⟨R0,cg⟩:=nm_ w.heap.size;rw[<-cg]at hR |-;have de:w.heap.size<=R0:=X;have cU:g<R0:=X;have al:B<=R0:=X;have cX:m<R0:=ov cy;clear cg;have ap:∀y∈[g,R0],y<R0+1:=p_;have U:m≠g:=X;have aj:R0≠g:=X;have eG:R0≠m:=X;have MN:=MM.f_ 0
 go_upto_region 2 with(go_at_call 19;refine(iq B g 10 hd X X).mono ?_;rintro e w1⟨k,rfl,b3,bN,bI,aN⟩)
 clear MN;replace MM:=MM.gr aN p_;replace hR:=hR.gr aN p_;replace MR:=MR.trans aN;replace hd:=bI;clear aN;have bA:¬(3<=P):=X;have ai:=MM.f_ 1
 by_cases dD:left<2
 .exact Ih
 by_cases dW:k<5
 .exact Ih
 have aB:=MM.f_ 2
 go_upto_region 4 with fail
 clear ai aB;obtain⟨W,aM⟩:=nm_ w1;rw[<-aM]at hd MM hR MR |-;clear aM;have aI:Ex B g m R0 229 #[q_ g,Y left,Y loops,Y fn] S_ W W:=⟨hd,MM,hR,H [g] W⟩;refine iI (Ex B g m R0 229 #[q_ g,Y left,Y loops,Y fn] S_ W) (λ_ _=>True) (J [g,R0]) [SU.z2 ap 9 #[.string {data:=#[105]},.string {data:=#[106]},.string {data:=#[107]}] 3,SU.val _ (q_ m),SU.val _ (q_ m),SU.val _ (.pointer (some (Z m 2))),SU.val _ (Y loops),SU.num _ 0 3,SU.elem ap 9 #[.string {data:=#[105]},.string {data:=#[106]},.string {data:=#[107]}] 3,SU.pure _ (λj=>∃s,s∈hM/\j=.string s),SU.pure _ (λj=>∃s,s∈hM/\j=.string s)] (SU.any _) [[],[],[1],[2],[3],[4],[0,5],[6],[7]] false [(some 28,0),(some 29,1),(some 30,2),(some 31,3),(some 32,4),(some 33,5),(some 34,6),(some 35,7),(some 6,8)] k_ k_ (λ_ _ _ _ _ h=>h) k_ rfl rfl k_ aI ⟨?_,?_,?_,?_,?_,?_,?_,?_,?_,trivial⟩ ?_
 .exact JX
 .exact KV
 .exact Ke
 .exact Kb
 .exact Jj
 .refine hK [(some 32,4)] ?_;intro vs Q C MS K MT;obtain⟨o, -⟩:=MS;replace o:_=_:=o
  try simp only[b_,o]at MT |-
  go_simp;have aJ:=zG loops hq0;refine MT.out _ _ C (H _ _) ⟨_,rfl,?_,?_⟩<;>omega
 .exact Jg
 .refine hK [(some 34,6)] ?_;intro vs Q C MS K MT;obtain⟨⟨a6,E,o,bt,bg,be⟩, -⟩:=MS
  try simp only[b_,o]at MT |-
  obtain⟨s,hs,bM⟩:=CS E X;exact LS
 .refine hK [(some 35,7)] ?_;exact Ky
 rintro vs bo⟨C,MS⟩;obtain⟨⟨aT,e0,an,aR⟩,aC,aw,bE,bu,⟨et,a7,cz,c8⟩,⟨aP,dE,dh,dS,bK,dT⟩,⟨b6,db,dK⟩,⟨da,di,dL⟩, -⟩:=MS;replace aC:vs 1=q_ m:=aC;replace aw:vs 2=q_ m:=aw;replace bE:vs 3=.pointer (some (Z m 2)):=bE;replace bu:vs 4=Y loops:=bu;simp only[b_,e0,aC,aw,bE,bu,a7,dh,dK,dL];clear e0 aC aw bE bu a7 dh dK dL;obtain⟨n,bW,cf⟩:∃j,j∈hM/\j=da:=⟨da,di,rfl⟩;rw[<-cf];have aY:=O bW;clear cf bW;clear hd MM hR;obtain⟨hd,MM,hR,G⟩:=C;replace MR:=MR.trans G;clear G;obtain⟨w1,dk⟩:=nm_ bo;rw[<-dk]at hd MM hR MR |-;clear dk
 rcases(by omega:(k=5)∨(k=6)∨(k=7∨k=8∨k=9))with b3|bN|cj
 .subst b3
  go_upto_region 7 with fail
  obtain⟨W,aM⟩:=nm_ w1;rw[<-aM]at hd MM hR MR |-;clear aM;have eE:=ap;clear ap;have ap:∀y∈[g,m,R0],y<R0+1:=p_;have aI:Es B g m R0 229 left loops fn S_ W W:=⟨hd,⟨left,hl0,FR _,MM⟩,hR,H [g,m] W⟩;refine iI (Es B g m R0 229 left loops fn S_ W) (λ_ ae=>∃(t:ST) (N:Nat) (l:Int),Bk ae R0 229 t.g8/\jD (jx (R0+1)) ae t/\SG hM (4-p) N t/\0<=l/\l<=left/\(N:Int)+2*l<=2+2*left/\Bk ae m 222 #[q_ g,Y l,Y loops,Y fn]/\iL ae B g/\J [g,m,R0] W ae) (GL [g,m,R0] g m loops fn) [SU.val _ (q_ m),(SU.tree ap (2)).less (λ_ _ h=>h.1),(SU.trees ap 2 1).less (λ_ _ h=>h.1),SU.val _ (q_ m),SU.val _ (Y P),SU.val _ (Y (P+1)),SU.l1 ap (4-(p+1)) g m left loops fn,SU.val _ (q_ m),SU.val _ (Y P),SU.val _ (Y (P+1)),SU.l2 ap 6 (4-(p+1)) g m left loops fn,SU.of (λj w=>∃(t:ST) (N:Nat) (l:Int),j=.agg t.g8/\jD (jx (R0+1)) w t/\SG hM (4-p) N t/\0<=l/\l<=left/\(N:Int)+2*l<=2+2*left/\Lf g m loops fn l w) (λ_ _ _ v⟨t,N,l,h1,F,L,T,av,aV,bq⟩=>⟨t,N,l,h1,F.ib v.1 (λx hx=>Gm.2 (ap x hx)),L,T,av,aV,v.2 _ bq⟩),SU.any _] (SU.any _) [[],[0],[1],[],[],[4],[3,5],[],[],[8],[7,9,6],[2,6,10],[11]] true [(some 39,0),(some 40,1),(some 41,2),(some 42,3),(some 43,4),(some 44,5),(some 45,6),(some 46,7),(some 47,8),(some 48,9),(some 49,10),(some 50,11),(none,12)] k_ k_ (λ_ _ _ _ _ h=>h) k_ rfl rfl k_ aI ⟨?_,?_,?_,?_,?_,?_,?_,?_,?_,?_,?_,?_,?_,trivial⟩ ?_
  .exact KL
  .refine hK [(some 39,0)] ?_;intro vs Q C MS K MT;obtain⟨o, -⟩:=MS;replace o:_=_:=o
   try simp only[b_,o]at MT |-
   obtain⟨cK,ed,ej,co⟩:=C.lf;go_simp
   go_at_call 140
   refine(kE B g m cK loops fn 2 X _ rfl _ C.d co hBm).mono ?_;rintro e w1⟨t,rfl,MP,V,bf,hg1⟩;exact MT.out _ _ (C.step hg1 bf U aj) (GL.of hg1 s_ U) ⟨t,rfl,MP.le C.r.lt,V⟩
  .refine hK [(some 40,1)] ?_;intro vs Q C MS K MT;obtain⟨⟨ta,o,aE,E⟩, -⟩:=MS
   try simp only[b_,o]at MT |-
   obtain⟨bC,bF,bQ,bR,bS,bT,bU⟩:=ta;simp only[ET.ic]at MT |-;go_simp;refine MT.out _ _ (C.g_ ((H [] _).alloc _)) (GL.jX ((H [] _).alloc _)) ⟨_,[ET.mk bC bF bQ bR bS bT bU],rfl,rfl,C.r.lt,nG (ET.mk bC bF bQ bR bS bT bU) (Q_ _ _ _),?_⟩;exact Lc
  .exact KL
  .exact KL
  .refine hK [(some 43,4)] ?_;exact JO
  .refine hK [(some 42,3),(some 44,5)] ?_;exact IH
  .exact KL
  .exact KL
  .refine hK [(some 47,8)] ?_;exact JO
  .refine hK [(some 46,7),(some 48,9),(some 45,6)] ?_;exact Iz
  .refine hK [(some 41,2),(some 45,6),(some 49,10)] ?_;intro vs Q C MS K MT;obtain⟨⟨a6,ta,o,cv,bg,be,cQ⟩, -,⟨dq,dt,dI,dZ,Ac,cc,tc,cN,lc,d1,dP,ec,bi,c9,df,dG,cT⟩, -⟩:=MS
   try simp only[b_,o,d1,ec]at MT |-
   go_simp;refine MT.out _ _ C (GL.jX (H [] _)) ⟨(ST.mk 4 i4 i4 0 0 (j_ a6) 1 ta dq dt dI Ac cc tc),1+dZ+cN,lc,?_,?_,?_,c9,df,by push_cast;omega,cT⟩
   .show Value.agg _=Value.agg (ST.mk 4 i4 i4 0 0 (j_ a6) 1 ta dq dt dI Ac cc tc).g8
    simp only[ST.ic,cv]
    rfl
   .exact jD.node _ _ _ _ _ _ _ _ (by rw[cv];exact be) (by rw[cv];exact H_ _) (λy off h=>by injection h with h;injection h with h;omega) (λu hu=>(cQ u hu).1) dP bi
   .have hD:4-p=(4-(p+1))+1:=X;rw[hD];exact SG.node (t:=(ST.mk 4 i4 i4 0 0 (j_ a6) 1 ta dq dt dI Ac cc tc)) (by show m7 _ 4 i4 i4 0 0 ta.length true true;rw[cv];exact .DX) (λu hu=>(cQ u hu).2) dP.sg bi.sg
  .refine jr [(some 50,11)] ?_;exact I0
  exact JT
 .subst bN
  go_upto_region 9 with fail
  obtain⟨W,aM⟩:=nm_ w1;rw[<-aM]at hd MM hR MR |-;clear aM;have eE:=ap;clear ap;have ap:∀y∈[g,m,R0],y<R0+1:=p_;have aI:Es B g m R0 229 left loops fn S_ W W.drew:=⟨hd.g_ (H [] W).drew,⟨left,hl0,FR _,MM.g_ (H [] W).drew⟩,hR.g_ (H [] W).drew,(H [g,m] W).drew⟩;refine kf (Es B g m R0 229 left loops fn S_ W) (λ_ ae=>∃(t:ST) (N:Nat) (l:Int),Bk ae R0 229 t.g8/\jD (jx (R0+1)) ae t/\SG hM (4-p) N t/\0<=l/\l<=left/\(N:Int)+2*l<=2+2*left/\Bk ae m 222 #[q_ g,Y l,Y loops,Y fn]/\iL ae B g/\J [g,m,R0] W ae) (GL [g,m,R0] g m loops fn) [(SU.z2 ap 9 l_ 5).less (λ_ _ h=>h.1),SU.val _ (q_ m),SU.val _ (q_ m),SU.val _ (q_ m),SU.val _ (q_ g),SU.num _ 0 3,(SU.elem ap 9 l_ 5).less (λ_ _ h=>h.1),SU.pure _ (λj=>∃s,s∈hM/\j=.string s),SU.val _ (q_ m),SU.val _ (Y P),SU.val _ (Y (P+1)),SU.l1 ap (4-(p+1)) g m left loops fn,SU.val _ (q_ m),SU.val _ (Y P),SU.val _ (Y (P+1)),SU.l2 ap 11 (4-(p+1)) g m left loops fn,SU.of (λj w=>∃(t:ST) (N:Nat) (l:Int),j=.agg t.g8/\jD (jx (R0+1)) w t/\SG hM (4-p) N t/\0<=l/\l<=left/\(N:Int)+2*l<=2+2*left/\Lf g m loops fn l w) (λ_ _ _ v⟨t,N,l,h1,F,L,T,av,aV,bq⟩=>⟨t,N,l,h1,F.ib v.1 (λx hx=>Gm.2 (ap x hx)),L,T,av,aV,v.2 _ bq⟩),SU.any _] (SU.any _) [[],[],[1],[2],[3],[4],[0,5],[6],[],[],[9],[8,10],[],[],[13],[12,14,11],[7,11,15],[16]] true [(some 53,0),(some 54,1),(some 55,2),(some 56,3),(some 57,4),(some 58,5),(some 59,6),(some 60,7),(some 61,8),(some 62,9),(some 63,10),(some 64,11),(some 65,12),(some 66,13),(some 67,14),(some 68,15),(some 69,16),(none,17)] k_ k_ k_ (λ_ _ _ _ _ h=>h) k_ rfl rfl k_ aI ⟨?_,?_,?_,?_,?_,?_,?_,?_,?_,?_,?_,?_,?_,?_,?_,?_,?_,?_,trivial⟩ ?_
  .refine hK [] ?_;intro vs Q C MS K MT;clear MS
   try simp only[b_]at MT |-
   go_simp
   go_at_call 177
   refine(lW).mono ?_;rintro e w1⟨rfl,rfl⟩;exact MT.out _ _ (C.g_ ((H [] _).alloc _)) (GL.jX ((H [] _).alloc _)) ⟨_,rfl,C.r.lt,Q_ _ _ _⟩
  .exact KL
  .refine hK [(some 54,1)] ?_;exact Kv
  .refine hK [(some 55,2)] ?_;exact Kv
  .refine hK [(some 56,3)] ?_;intro vs Q C MS K MT;obtain⟨o, -⟩:=MS;replace o:_=_:=o
   try simp only[b_,o]at MT |-
   obtain⟨cR,⟨fe,eu,ev,a⟩,cn,cA⟩:=id C;have MN:=a.f_ 0;have ai:=a.f_ 1;have aB:=a.f_ 2;have aS:=a.f_ 3;exact Mr
  .refine hK [(some 57,4)] ?_;intro vs Q C MS K MT;obtain⟨o, -⟩:=MS;replace o:_=_:=o
   try simp only[b_,o]at MT |-
   go_simp
   go_at_call 19
   refine(iq B g _ C.d X X).mono ?_;rintro e w1⟨r,rfl,h0,h1,bf,hg1⟩;exact MT.out _ _ (C.step hg1 bf U aj) (GL.of hg1 s_ U) ⟨r,rfl,h0,h1⟩
  .refine hK [(some 53,0),(some 58,5)] ?_;intro vs Q C MS K MT;obtain⟨⟨a6,o,bg,be⟩,⟨aK,aq,c7,cO⟩, -⟩:=MS
   try simp only[b_,o,aq]at MT |-
   obtain⟨k,rfl⟩:∃k:Nat,aK=k:=⟨aK.toNat,X⟩;have dX:(k:Int)<5:=X;go_simp;exact MT.out _ _ C (GL.jX (H [] _)) ⟨a6,k,rfl,X,bg,be⟩
  .refine hK [(some 59,6)] ?_;intro vs Q C MS K MT;obtain⟨⟨a6,E,o,bt,bg,be⟩, -⟩:=MS
   try simp only[b_,o]at MT |-
   obtain⟨s,hs,bM⟩:=BR E X;have ai:=(be.f_ E).trans bM;go_simp;exact MT.out _ _ C (GL.jX (H [] _)) ⟨s,hs,rfl⟩
  .exact KL
  .exact KL
  .refine hK [(some 62,9)] ?_;exact JO
  .refine hK [(some 61,8),(some 63,10)] ?_;exact IH
  .exact KL
  .exact KL
  .refine hK [(some 66,13)] ?_;exact JO
  .refine hK [(some 65,12),(some 67,14),(some 64,11)] ?_;exact Iz
  .refine hK [(some 60,7),(some 64,11),(some 68,15)] ?_;intro vs Q C MS K MT;obtain⟨⟨bw,cx,o⟩, -,⟨dr,du,dN,d0,Ac,cc,tc,cN,lc,d2,dQ,ec,bi,c9,df,dG,cT⟩, -⟩:=MS
   try simp only[b_,o,d2,ec]at MT |-
   go_simp;refine MT.out _ _ C (GL.jX (H [] _)) ⟨(ST.mk 9 bw i4 0 0 none 0 [] dr du dN Ac cc tc),1+d0+cN,lc,?_,?_,?_,c9,df,by push_cast;omega,cT⟩
   .show Value.agg _=Value.agg (ST.mk 9 bw i4 0 0 none 0 [] dr du dN Ac cc tc).g8
    simp only[ST.ic]
    rfl
   .exact jD.node _ _ _ _ _ _ _ _ (Gz _ _ _ _) (H_ _) (λ_ _ h=>by cases h) (λu hu=>by cases hu) dQ bi
   .have hD:4-p=(4-(p+1))+1:=X;rw[hD];exact SG.node (t:=(ST.mk 9 bw i4 0 0 none 0 [] dr du dN Ac cc tc)) (.Cc _ cx) (λu hu=>by cases hu) dQ.sg bi.sg
  .refine jr [(some 69,16)] ?_;exact I0
  exact JT
 .have ef:(k==5)=false:=p_;have eh:(k==6)=false:=p_;have d3:IntKind.i64.wrap (loops+1)=loops+1:=F1 _ X;have aB:=MM.f_ 2;have aU:=MM.hm 2
  go_upto_region 11 with fail
  clear aB aU d3;have M:J [m] w1 (w1.setCell (Z m 2) (Y (loops+1))):=(H [m] w1).setCell (.inl s_) _;replace MM:Bk (w1.setCell (Z m 2) (Y (loops+1))) m 222 #[q_ g,Y left,Y (loops+1),Y fn]:=MM.hN 2 _;replace hd:=hd.ib M p_;replace hR:=hR.gr M p_;have bO:J [g,m] w (w1.setCell (Z m 2) (Y (loops+1))):=(MR.mono s_).trans (M.mono s_);clear MR M;obtain⟨W,aM⟩:=nm_ (w1.setCell (Z m 2) (Y (loops+1)));rw[<-aM]at hd MM hR bO |-;clear aM;have aI:Ex B g m R0 229 #[q_ g,Y left,Y (loops+1),Y fn] S_ W W.drew:=⟨hd.g_ (H [] W).drew,MM.g_ (H [] W).drew,hR.g_ (H [] W).drew,(H [g] W).drew⟩;refine kf (Ex B g m R0 229 #[q_ g,Y left,Y (loops+1),Y fn] S_ W) (λvs ae=>∃(R7 x:Nat) (r:Int),vs 10=q_ R7/\0<=r/\r<=9/\R0+1<=R7/\R0+1<=x/\x≠R7/\Bk ae R7 229 #[Y 5,.string n,.string i4,Y 0,Y 0,.slice (j_ x) 2 2,n_,n_]/\Bk ae x 226 #[Y 1,Y 0,.string i4,Y 0,n_,Y 1,Y r,.string i4,Y 0,n_]/\iL ae B g/\Bk ae m 222 #[q_ g,Y left,Y (loops+1),Y fn]/\Bk ae R0 229 S_/\J [g,R7] W ae) (J [g,R0]) [SU.val _ (.string n),SU.pure _ (λj=>j=.agg #[Y 1,Y 0,.string i4,Y 0,n_]),SU.val _ (q_ m),SU.val _ (q_ m),SU.val _ (q_ m),SU.val _ (q_ g),SU.num _ 0 5,SU.pure _ (λj=>∃r:Int,0<=r/\r<=9/\j=.agg #[Y 1,Y r,.string i4,Y 0,n_]),SU.of (λj w=>∃(x:Nat) (r:Int),0<=r/\r<=9/\j=.slice (j_ x) 2 2/\R0+1<=x/\Bk w x 226 #[Y 1,Y 0,.string i4,Y 0,n_,Y 1,Y r,.string i4,Y 0,n_]) (λ_ _ _ v⟨x,r,h0,h1,F,L,T⟩=>⟨x,r,h0,h1,F,L,T.gr v (λMM=>by have:=ap x MM;omega)⟩),SU.of (λj w=>∃(x:Nat) (r:Int),0<=r/\r<=9/\j=.agg #[Y 5,.string n,.string i4,Y 0,Y 0,.slice (j_ x) 2 2,n_,n_]/\R0+1<=x/\Bk w x 226 #[Y 1,Y 0,.string i4,Y 0,n_,Y 1,Y r,.string i4,Y 0,n_]) (λ_ _ _ v⟨x,r,h0,h1,F,L,T⟩=>⟨x,r,h0,h1,F,L,T.gr v (λMM=>by have:=ap x MM;omega)⟩),SU.of (λj w=>∃R7,j=q_ R7/\R0+1<=R7/\Bk w R7 229 #[Y 0,.string i4,.string i4,Y 0,Y 0,n_,n_,n_]) (λ_ _ _ v⟨x,F,L,T⟩=>⟨x,F,L,T.gr v (λMM=>by have:=ap x MM;omega)⟩),SU.any _] (SU.any _) [[],[],[],[2],[3],[4],[5],[6],[1,7],[0,8],[],[10,9]] true [(some 77,0),(some 78,1),(some 79,2),(some 80,3),(some 81,4),(some 82,5),(some 83,6),(some 84,7),(some 85,8),(some 86,9),(some 7,10),(none,11)] k_ k_ k_ (λ_ _ _ _ _ h=>h) k_ rfl rfl k_ aI ⟨?_,?_,?_,?_,?_,?_,?_,?_,?_,?_,?_,?_,trivial⟩ ?_
  .exact KV
  .refine hK [] ?_;intro vs Q C MS K MT;clear MS
   try simp only[b_]at MT |-
   go_simp
   go_at_call 144
   refine(j3 0).mono ?_;exact Mf
  .exact KV
  .refine hK [(some 79,2)] ?_;exact KD
  .refine hK [(some 80,3)] ?_;exact KD
  .refine hK [(some 81,4)] ?_;exact Jr
  .refine hK [(some 82,5)] ?_;exact Ji
  .refine hK [(some 83,6)] ?_;exact Jt
  .refine hK [(some 78,1),(some 84,7)] ?_;intro vs Q C MS K MT;obtain⟨o,⟨aK,c7,cO,aq⟩, -⟩:=MS;replace o:_=_:=o
   try simp only[b_,o,aq]at MT |-
   go_simp;exact MT.out _ _ (C.g_ ((H [] _).alloc _)) ((H _ _).alloc _) ⟨_,aK,c7,cO,rfl,C.r.lt,Q_ _ _ _⟩
  .refine hK [(some 77,0),(some 85,8)] ?_;intro vs Q C MS K MT;obtain⟨o,⟨aG,aK,c7,cO,aq,cp,bn⟩, -⟩:=MS;replace o:_=_:=o
   try simp only[b_,o,aq]at MT |-
   go_simp;exact MT.out _ _ C (H _ _) ⟨aG,aK,c7,cO,rfl,cp,bn⟩
  .exact JX
  .refine jr [(some 7,10),(some 86,9)] ?_;intro vs Q C MS K MT;obtain⟨⟨a6,o,bg,be⟩,⟨aG,aK,c7,cO,aq,cp,bn⟩, -⟩:=MS
   try simp only[b_,o,aq]at MT |-
   refine iV k_ ?_;refine ie 229 rfl a6 r_ #[Y 5,.string n,.string i4,Y 0,Y 0,.slice (j_ aG) 2 2,n_,n_] r_ 229 be rfl k_ (by simp[Value.oneCell']) ?_;intro ae ax G;have au:aG≠a6:=Bk.me bn be I;have dm:=C.g.size;exact MT.out undef _ (λ_=>⟨a6,aG,aK,o,c7,cO,bg,cp,au,ax,bn.gr G (zu au),C.d.ib G p_,C.m.gr G p_,C.r.gr G p_,(C.g.mono s_).trans (G.mono s_)⟩)
  intro vs bo C;simp only[b_];clear hd MM hR aI;obtain⟨R7,x,r,e10,bp,dY,bq,b5,dn,aO,aA,hd,MM,hR,G⟩:=C;rw[e10];clear e10;have dV:=de;replace bO:=bO.hA G p_;clear G
  by_cases b4:0<P
  focus
   go_upto_region 13 with fail
   have eE:=ap;clear ap;have ap:∀y∈[g,x],y<x+1:=p_;obtain⟨W,aM⟩:=nm_ bo;rw[<-aM]at hd MM hR aO aA bO |-;clear aM;have aI:Db B g m R0 R7 x #[q_ g,Y left,Y (loops+1),Y fn] S_ #[Y 5,.string n,.string i4,Y 0,Y 0,.slice (j_ x) 2 2,n_,n_] #[Y 1,Y 0,.string i4,Y 0,n_,Y 1,Y r,.string i4,Y 0,n_] W W.drew:=⟨hd.g_ (H [] W).drew,MM.g_ (H [] W).drew,hR.g_ (H [] W).drew,aO.g_ (H [] W).drew,aA.g_ (H [] W).drew,(H [g] W).drew⟩;have aF:x≠g:=X;have dz:R7≠g:=X;refine kf (Db B g m R0 R7 x #[q_ g,Y left,Y (loops+1),Y fn] S_ #[Y 5,.string n,.string i4,Y 0,Y 0,.slice (j_ x) 2 2,n_,n_] #[Y 1,Y 0,.string i4,Y 0,n_,Y 1,Y r,.string i4,Y 0,n_] W) (λ_ ae=>∃r:Int,0<=r/\r<=9/\Bk ae x 226 #[Y 1,Y 0,.string i4,Y 0,n_,Y 1,Y r,.string i4,Y 0,n_]/\Bk ae R7 229 #[Y 5,.string n,.string i4,Y 0,Y 0,.slice (j_ x) 2 2,n_,n_]/\iL ae B g/\Bk ae m 222 #[q_ g,Y left,Y (loops+1),Y fn]/\Bk ae R0 229 S_/\J [g,x] W ae) (J [g,x]) [SU.val _ (.pointer (some (Z R7 5))),SU.val _ (.slice (j_ x) 2 2),SU.val _ (q_ m),SU.val _ (q_ m),SU.val _ (q_ m),SU.val _ (q_ g),SU.num _ 0 3,SU.pure _ (λj=>∃r:Int,0<=r/\r<=9/\j=.agg #[Y 1,Y r,.string i4,Y 0,n_]),SU.val _ (.pointer (some (Z x 5))),SU.any _] (SU.any _) [[],[0],[],[2],[3],[4],[5],[6],[1],[8,7]] true [(some 89,0),(some 90,1),(some 91,2),(some 92,3),(some 93,4),(some 94,5),(some 95,6),(some 96,7),(some 97,8),(none,9)] k_ k_ k_ (λ_ _ _ _ _ h=>h) k_ rfl rfl k_ aI ⟨?_,?_,?_,?_,?_,?_,?_,?_,?_,?_,trivial⟩ ?_
   .exact KV
   .refine hK [(some 89,0)] ?_;exact JI
   .exact KV
   .refine hK [(some 91,2)] ?_;exact KD
   .refine hK [(some 92,3)] ?_;exact KD
   .refine hK [(some 93,4)] ?_;exact JI
   .refine hK [(some 94,5)] ?_;intro vs Q C MS K MT;obtain⟨o, -⟩:=MS;replace o:_=_:=o
    try simp only[b_,o]at MT |-
    go_simp
    go_at_call 19
    refine(iq B g _ C.d X X).mono ?_;rintro e w1⟨r,rfl,h0,h1,bf,hg1⟩;exact MT.out _ _ (C.step hg1 bf U aj dz aF) (hg1.mono s_) ⟨r,rfl,h0,h1⟩
   .refine hK [(some 95,6)] ?_;exact Jt
   .refine hK [(some 90,1)] ?_;exact KD
   .refine jr [(some 97,8),(some 96,7)] ?_;intro vs Q C MS K MT;obtain⟨o,⟨aK,c7,cO,aq⟩, -⟩:=MS;replace o:_=_:=o
    try simp only[b_,o,aq]at MT |-
    refine iV k_ ?_;refine jz 226 _ _ rfl x 5 r_ #[Y 1,Y aK,.string i4,Y 0,n_] r_ 226 _ C.x s_ k_ (by simp[Value.oneCell']) ?_;intro ae ax G;exact MT.out undef _ (λ_=>⟨aK,c7,cO,ax,C.s.gr G (zu dn.symm),C.d.ib G p_,C.m.gr G p_,C.r.gr G p_,(C.g.mono s_).trans (G.mono s_)⟩)
   intro vs bo C;simp only[b_];clear hd MM hR aO aA aI bp dY;obtain⟨r,bp,dY,aA,aO,hd,MM,hR,G⟩:=C;replace bO:=bO.hA G p_;clear G
  all_goals
   obtain⟨ah,cw⟩:=nm_ bo;rw[<-cw]at hd MM hR aO aA bO |-;clear cw;have bE:IntKind.i64.wrap (P+1)=P+1:=F1 _ X
   go_upto_region 15 with(go_at_call 139;refine(bh (P+1) 3 left (loops+1) _ (ov aQ.out) X X hd MM hBm X X X (by push_cast;omega)).mono ?_;rintro e bd⟨A,c,ts,N,l,rfl,c6,b7,ce,dO,bv,ck,bI,aN⟩;obtain⟨n0,hn0⟩:=nm_ ts.length;rw[<-hn0];have aW:=O hn0;rw[<-hn0]at c6;clear hn0;have d4:=(aO.gr aN p_).f_ 6;have dR:=(aO.gr aN p_).hm 6)
   clear d4 dR bE;have er:R7<ah.heap.size/\x<ah.heap.size/\R0<ah.heap.size:=⟨aO.lt,aA.lt,hR.lt⟩;have ak:J [R7] bd (bd.setCell (Z R7 6) (.slice A n0 c)):=(H [R7] bd).setCell (.inl s_) _;have ao:Bk (bd.setCell (Z R7 6) (.slice A n0 c)) R7 229 #[Y 5,.string n,.string i4,Y 0,Y 0,.slice (j_ x) 2 2,.slice A n0 c,n_]:=(aO.gr aN p_).hN 6 _;have ag:=b7.iy ak p_;have a8:=(aA.gr aN p_).gr ak (zu dn);have bP:=bI.ib ak p_;have bm:=ck.gr ak p_;have aL:=(hR.gr aN p_).gr ak p_;have bG:J [g,m] w (bd.setCell (Z R7 6) (.slice A n0 c)):=(bO.trans aN).hA ak p_;have dU:ah.heap.size<=(bd.setCell (Z R7 6) (.slice A n0 c)).heap.size:=G_ aN.size ak.size;clear aO aA hd MM hR bO b7 bI ck aN ak;obtain⟨ad,b9⟩:=nm_ (bd.setCell (Z R7 6) (.slice A n0 c));rw[<-b9]at ao ag a8 bP bm aL bG dU |-;clear b9;have cJ:ah.heap.size<=ad.heap.size:=dU
   by_cases dj:k=9
   .have d6:(k==9)=true:=by simp[dj]
    have MN:=bm.f_ 0
    go_wp2_with fail
    go_at_call 19
    refine(iq B g 2 bP X X).mono ?_;rintro e ay⟨q,rfl,ei,ek,cF,az⟩;clear MN bP;have bP:=cF;replace bm:=bm.gr az p_;replace aL:=aL.gr az p_;replace ao:=ao.gr az p_;replace a8:=a8.gr az p_;replace ag:=ag.iy az p_;replace bG:=bG.trans (az.mono s_);replace cJ:=G_ cJ az.size;clear az cF;obtain⟨ad,b9⟩:=nm_ ay;rw[<-b9]at bP bm aL ao a8 ag bG cJ |-;clear b9
    by_cases cG:q=0
    .subst cG
     go_upto_region 16 with fail
     have au:=aW.out;subst au;obtain⟨W,aM⟩:=nm_ ad;rw[<-aM]at bP bm aL ao ag bG cJ |-;clear aM;have cD:∀y∈[g],y∈(g::oS (Value.slice A ts.length c).ownBlock):=s_
     have eo:∀y∈oS (Value.slice A ts.length c).ownBlock,ah.heap.size<=y:=λy hy=>(kx ag.own (jC.1 hy)).1
     have eI:∀y,(Value.slice A ts.length c).ownBlock=some y->y<W.heap.size:=λy hy=>(kx ag.own hy).2
     have d7:ah.heap.size<=W.heap.size:=cJ;have eE:=ap;clear ap;have ap:∀y∈(g::oS (Value.slice A ts.length c).ownBlock),y<W.heap.size:=Ma;have dz:R7≠g:=X;have hbg:g<ah.heap.size:=X;have aI:Ws B g m R0 R7 ah.heap.size (4-(p+1)) N A c ts #[q_ g,Y l,Y (loops+1),Y fn] S_ #[Y 5,.string n,.string i4,Y 0,Y 0,.slice (j_ x) 2 2,.slice A ts.length c,n_] W false W.drew:=⟨bP.g_ (H [] W).drew,bm.g_ (H [] W).drew,aL.g_ (H [] W).drew,ao.g_ (H [] W).drew,λ_=>ag.iy (H [] W).drew s_,(H (g::oS (Value.slice A ts.length c).ownBlock) W).drew,X,X,X⟩;refine oq (λf=>Ws B g m R0 R7 ah.heap.size (4-(p+1)) N A c ts #[q_ g,Y l,Y (loops+1),Y fn] S_ #[Y 5,.string n,.string i4,Y 0,Y 0,.slice (j_ x) 2 2,.slice A ts.length c,n_] W (f 19)) (λ_ ae=>∃(t:ST) (K:Nat),Bk ae R7 229 t.g8/\jD (jx (R7+1)) ae t/\SG hM (4-p) K t/\(K:Int)<=N+2/\iL ae B g/\Bk ae m 222 #[q_ g,Y l,Y (loops+1),Y fn]/\Bk ae R0 229 S_/\J (R7::(g::oS (Value.slice A ts.length c).ownBlock)) W ae) (G2 19 [g] (g::oS (Value.slice A ts.length c).ownBlock)) [SU.my _ (.string n),(SU.tree ap (0)).vK (λ_ _ _ h=>h.gr cD),SU.my _ (q_ m),SU.my _ (q_ m),SU.my _ (q_ m),SU.my _ (q_ g),(SU.num _ 0 4).vK (λ_ _ _ h=>h.gr cD),(SU.tree ap (0)).vK (λ_ _ _ h=>h.gr cD),(SU.tree ap (0+1)).vK (λ_ _ _ h=>h.gr cD),(SU.trees ap 2 1).vK (λ_ _ _ h=>h.gr cD),SU.my _ (.pointer (some (Z R7 6))),SU.my _ (.slice A ts.length c),SU.my _ (.string n),SU.my _ (.string n),(SU.tree ap (0)).vK (λ_ _ _ h=>h.gr cD),(SU.tree ap (0)).vK (λ_ _ _ h=>h.gr cD),(SU.tree ap (0+1)).vK (λ_ _ _ h=>h.gr cD),(SU.stmt ap (1) (1)).vK (λ_ _ _ h=>h.gr cD),(SU.of (λj w=>∃(x:Nat) (t:ST),j=.slice (j_ x) 1 1/\W.heap.size<=x/\Bk w x 229 t.g8/\jD (jx W.heap.size) w t/\SG hM 1 1 t) (λ_ _ _ v⟨x,t,h1,F,L,T,av⟩=>⟨x,t,h1,F,L.gr v (λMM=>by have:=ap x MM;omega),T.ib v (λy hy=>Gm.2 (ap y hy)),av⟩)).vK (λ_ _ _ h=>h.gr cD),SU.Aa [19] (λj w=>∃(aD:OA) (am:Nat) (us:List ST) (K:Nat),j=.slice aD us.length am/\lI hM ah.heap.size (4-(p+1)) K w aD am us/\K<=N+1) (λi hi j w w' v⟨aD,am,us,K,h1,F,L⟩=>⟨aD,am,us,K,h1,F.iy (v.ne (zu hi)) p_,L⟩),SU.Aa [19] (λj w=>∃(t:ST) (K:Nat),j=.agg t.g8/\jD (jx (R7+1)) w t/\SG hM (4-p) K t/\(K:Int)<=N+2) (λi hi j w w' v⟨t,K,h1,F,L,T⟩=>⟨t,K,h1,F.ib (v.ne (zu hi)) p_,L,T⟩),SU.anyI _] (SU.anyI _) [[],[0],[],[2],[3],[4],[5],[6],[1,7],[8],[],[10],[],[],[13],[],[14,15],[12,16],[17],[11,18],[9,19],[20]] true [(some 113,0),(some 114,1),(some 115,2),(some 116,3),(some 117,4),(some 118,5),(some 119,6),(some 120,7),(some 121,8),(some 122,9),(some 123,10),(some 124,11),(some 125,12),(some 126,13),(some 127,14),(some 128,15),(some 129,16),(some 130,17),(some 131,18),(some 132,19),(some 133,20),(none,21)] k_ k_ k_ (λ_ _ _ _ _ h=>h) k_ rfl rfl k_ aI ⟨?_,?_,?_,?_,?_,?_,?_,?_,?_,?_,?_,?_,?_,?_,?_,?_,?_,?_,?_,?_,?_,?_,trivial⟩ ?_
     .exact KQ
     .refine je [(some 113,0)] ?_;exact Jh
     .exact KQ
     .refine je [(some 115,2)] ?_;exact KA
     .refine je [(some 116,3)] ?_;exact KA
     .refine je [(some 117,4)] ?_;exact JF
     .refine je [(some 118,5)] ?_;intro f vs Q hf C MS K MT;obtain⟨o, -⟩:=MS;replace o:_=_:=o
      try simp only[b_,o]at MT |-
      go_simp
      go_at_call 19
      refine(iq B g _ C.d X X).mono ?_;rintro e w1⟨r,rfl,h0,h1,bf,hg1⟩;exact MT.out _ _ (C.step hg1 bf U aj dz hbg) hg1 ⟨r,rfl,h0,h1⟩
     .refine je [(some 119,6)] ?_;intro f vs Q hf C MS K MT;exact Jo
     .refine je [(some 114,1),(some 120,7)] ?_;intro f vs Q hf C MS K MT;exact I9
     .refine je [(some 121,8)] ?_;exact IK
     .exact KQ
     .refine je [(some 123,10)] ?_;exact JF
     .exact KQ
     .exact KQ
     .refine je [(some 126,13)] ?_;exact Jh
     .refine je [] ?_;intro f vs Q hf C MS K MT;exact JD
     .refine je [(some 127,14),(some 128,15)] ?_;intro f vs Q hf C MS K MT;obtain⟨⟨ta,o,aE,E⟩,⟨tb,aq,MO,d⟩, -⟩:=MS
      try simp only[b_,o,aq]at MT |-
      go_simp
      go_at_call 143
      refine(oM W.heap.size 1 ta tb C.hz aE MO).mono ?_;rintro e w1⟨A,rfl,MP,hg1⟩;exact MT.out _ _ (C.g_ hg1) (hg1.mono s_) ⟨qu 1 A ta tb,rfl,MP,.bin 0 _ _ _ _ X X (E.mono X) (d.mono X)⟩
     .refine je [(some 125,12),(some 129,16)] ?_;intro f vs Q hf C MS K MT;obtain⟨o,⟨tb,aq,MO,d⟩, -⟩:=MS;replace o:_=_:=o
      try simp only[b_,o,aq]at MT |-
      go_simp
      go_at_call 142
      refine(kP W.heap.size _ _ _ C.hz MO).mono ?_;rintro e w1⟨A,rfl,MP,hg1⟩;exact MT.out _ _ (C.g_ hg1) (hg1.mono s_) ⟨iZ _ A _,rfl,MP,SG.leaf (.vH _ aY.out) rfl rfl (by intro u hu;rcases N_.1 hu with rfl|hu;exact d.mono X;cases hu)⟩
     .refine je [(some 130,17)] ?_;exact I1
     .refine je [(some 124,11),(some 131,18)] ?_;intro f vs Q hf C MS K MT;obtain⟨o,⟨aG,tb,aq,cp,bn,MO,d⟩, -⟩:=MS;replace o:_=_:=o
      try simp only[b_,o,aq]at MT |-
      have b7:=C.lf hf;have e1:=C.hz;refine iV k_ ?_;refine oW _ _ _ rfl ah.heap.size 229 i1 _ 8 128 underlying211 bJ bY bZ ca rfl I I A ts.length c (ts.flatMap ST.E) r_ b7.own _ 1 1 ([tb].flatMap ST.E) r_ (rO tb bn) (k9) X X ?_;intro aD am bH b8 bz bD;have cW:=b7.add (us:=[tb]) b8 bz bD (λu hu=>by have:u=tb:=(zu hu);subst this;exact MO.imp (λy hy=>⟨by have:W.heap.size<=y:=hy;omega,λhe=>by have h1:=eI y he;have:W.heap.size<=y:=hy;omega⟩)) (d.mono X);exact MT.out (.slice aD (ts.length+1) am) _ (C.app (J.iW bz) eo X) ((J.iW bz).mono (by intro y hy;simp[hy])) ⟨aD,am,ts++[tb],N+1,s_,by simpa using cW,H_ _⟩
     .refine je [(some 122,9),(some 132,19)] ?_;intro f vs Q hf C MS K MT;obtain⟨⟨a6,ta,o,cv,bg,be,cQ⟩,⟨dg,cb,tb,eB,aq,dJ,nb⟩, -⟩:=MS
      try simp only[b_,o,aq]at MT |-
      go_simp;refine MT.out _ _ C (H _ _) ⟨(ST.mk 6 i4 i4 0 0 (j_ a6) 1 ta dg cb tb none 0 []),1+eB,?_,?_,?_,by push_cast;omega⟩
      .show Value.agg _=Value.agg (ST.mk 6 i4 i4 0 0 (j_ a6) 1 ta dg cb tb none 0 []).g8
       simp only[ST.ic,cv]
       rfl
      .have ga:=d7;exact jD.node _ _ _ _ _ _ _ _ (by rw[cv];exact be) (by rw[cv];exact H_ _) (λy off h=>by injection h with h;injection h with h;omega) (λu hu=>(cQ u hu).1.le X) (dJ.le X) (lI.nil _ _ _ _)
      .have hD:4-p=(4-(p+1))+1:=X;rw[hD];exact SG.loop (t:=(ST.mk 6 i4 i4 0 0 (j_ a6) 1 ta dg cb tb none 0 [])) (by show m7 _ 6 i4 i4 0 0 ta.length true false;rw[cv];exact .EB) rfl (λu hu=>(cQ u hu).2) dJ.sg
     .refine wk [(some 133,20)] ?_;intro f vs Q hf C MS K MT;obtain⟨⟨ta,eg,o,aE,E,bt⟩, -⟩:=MS
      try simp only[b_,o]at MT |-
      refine iV k_ ?_;refine ie 229 rfl R7 r_ ta.g8 r_ 229 C.s rfl k_ (ST.one _) ?_;intro ae ax G;exact MT.out undef _ (λ_=>⟨ta,eg,ax,aE.ib G s_,E,bt,C.d.ib G p_,C.m.gr G p_,C.r.gr G p_,(C.g.mono (by intro y hy;simp[hy])).trans (G.mono s_)⟩)
     intro f vs bo hf C;simp only[b_];clear bP bm aL ao ag aI;obtain⟨t,K,S,MP,V,cI,bP,bm,aL,G⟩:=C;have dM:(K:Int)+2*l<=2+2*left:=X;replace MP:=MP.le (show R0+1<=R7+1 by omega)
     replace bG:=bG.hA G (by
      intro y hy
      rcases N_.1 hy with rfl|hy
      .right;omega
      .rcases N_.1 hy with rfl|hy
       .left;simp
       .right
        have:=eo y hy
        omega)
     clear G;obtain⟨ad,b9⟩:=nm_ bo;rw[<-b9]at S MP bP bm aL bG |-;clear b9;exact It
    .have ep:(q==0)=false:=by simp[cG]
     exact Ie
   .have d6:(k==9)=false:=by simp[dj]
    exact Ie
def stmt_3(B g m:Nat)(fn:Int):E5 3 B g m fn:=by
 intro y left loops w hP d a hBm hl0 hl1 hq0 hq1;have d5:3<=y:=X;clear hP;obtain⟨p,n⟩:=nm_ 3;rw[<-n];have s:=n;clear n;have a2:=d.x0;have S:=a.lt
 go_enter func176,ntmps176
 go_upto_region 1 with fail
 have l:J [] w (w.alloc (.cells S_ 229)):=(H [] w).alloc _;replace d:=d.g_ l;replace a:=a.g_ l;have f:=Q_ w 229 S_;have h:J [g] w (w.alloc (.cells S_ 229)):=(H [g] w).alloc _;clear l;obtain⟨bj,u⟩:=nm_ (w.alloc (.cells S_ 229));rw[<-u]at d a f h |-;clear u;obtain⟨R0,v⟩:=nm_ w.heap.size;rw[<-v]at f |-;have de:w.heap.size<=R0:=X;have cU:g<R0:=X;have ad:B<=R0:=X;have cX:m<R0:=ov S;clear v;have F:∀Z∈[g,R0],Z<R0+1:=p_;have U:m≠g:=X;have aj:R0≠g:=X;have x:=a.f_ 0;have L:=O s;clear s
 go_upto_region 2 with(go_at_call 19;refine(iq B g 10 d X X).mono ?_;rintro e w1⟨k,rfl,b3,bN,I,j⟩)
 clear x;replace a:=a.gr j p_;replace f:=f.gr j p_;replace h:=h.trans j;replace d:=I;clear j
 go_upto_region 3 with fail
 obtain⟨W,r⟩:=nm_ w1;rw[<-r]at d a f h |-;clear r;have z:Ex B g m R0 229 #[q_ g,Y left,Y loops,Y fn] S_ W W:=⟨d,a,f,H [g] W⟩;refine iI (Ex B g m R0 229 #[q_ g,Y left,Y loops,Y fn] S_ W) (λ_ ae=>∃t,Bk ae R0 229 t.g8/\jD (jx (R0+1)) ae t/\SG hM 1 1 t/\iL ae B g/\J [g,R0] W ae) (J [g,R0]) [SU.val _ (q_ m),SU.stmt F (1) (1),SU.any _] (SU.any _) [[],[0],[1]] true [(some 26,0),(some 27,1),(none,2)] k_ k_ (λ_ _ _ _ _ T=>T) k_ rfl rfl k_ z ⟨?_,?_,?_,trivial⟩ ?_
 .exact KV
 .exact I7
 .exact I8
 intro vs bo C;simp only[b_];obtain⟨t,ax,MP,V,P,G⟩:=C;go_wp2;exact rr_ t.g8 ax underlying229 ⟨t,1,left,rfl,MP.le X,l3.mono V (ov L.out),hl0,FR _,X,a.gr G p_,P,(h.hA G p_).mono s_⟩
def tS(B g m:Nat)(a:Int):EL 0 B g m a/\EL 1 B g m a:=by
 have f:=stmt_3 B g m a;have h:=s3 3 X B g m a f;have e:=vm 2 X B g m a h;have j:=s3 2 X B g m a e;have n:=vm 1 X B g m a j;have d:=s3 1 X B g m a n;have l:=vm 0 X B g m a d;exact⟨s3 0 X B g m a l,d⟩
def tJ{w:World}{g base:Nat}{t:TypeId}{cs:Array Value}{n s:Nat}(h:Bk w g t cs)(a:cs.size=n*s)(d:base<=g)(e:n<=maxLen):w.ownsRow base t s (.slice (j_ g) n n) n cs.toList:=
 ⟨by simpa using a,.inr ⟨g,n,cs,rfl,d,h,H_ _,e,a,by rw[FK p_]⟩⟩
def tC{l:List ByteArray}:∀u∈l.map Value.string,u.oneCell'=true:=by
 intro u a;obtain⟨d,_,rfl⟩:=Z_.1 a
 rfl
def Df(k:Nat)(a:k<8):∃s,s∈hM/\hM[k]?=some s/\hM.take (k+1)=hM.take k++[s]:=by
 match k,a with
 |0,_=>exact⟨wB,by simp[hM],rfl,rfl⟩
 |1,_=>exact⟨vv,by simp[hM],rfl,rfl⟩
 |2,_=>exact⟨vM,by simp[hM],rfl,rfl⟩
 |3,_=>exact⟨pw,by simp[hM],rfl,rfl⟩
 |4,_=>exact⟨m9,by simp[hM],rfl,rfl⟩
 |5,_=>exact⟨oT,by simp[hM],rfl,rfl⟩
 |6,_=>exact⟨xX,by simp[hM],rfl,rfl⟩
 |7,_=>exact⟨xW,by simp[hM],rfl,rfl⟩
def Ev(aR D N:Nat)(ls:List ST)(w:World)(e:Ending)(w':World):Prop:=
 ∃(A:OA) (c:Nat) (MN:List ST),e=.returned (.slice A (MN++ls).length c)/\lI hM aR (D+1) (8+N) w' A c (MN++ls)/\MN.map ST.name=hM/\(∀s∈MN,s.hS=1)/\J [] w w'/\w.heap.size<=w'.heap.size/\(∀x,(Value.slice A (MN++ls).length c).ownBlock=some x->w.heap.size<=x)
def uZ(z D N:Nat)(A:OA)(n c:Nat)(r:List ST)(dT:OA)(cm:Nat)(em:TypeId){w:World}(hn:r.length=n)(hl:Sl w 229 8 A n (r.flatMap ST.E))(aH:n<=1000)(q:∀u∈r,jD (jx z) w u)(aE:l3 hM (D+1) N r)(G:z<=w.heap.size)
 (MM:Sl w em 1 dT 3 ([oT,xX,xW].map Value.string)):
 Calls prog 141 #[.slice A n c,.slice dT 3 cm] w (Ev z D N r w):=by
 obtain⟨i1,bJ,bY,bZ,ca⟩:=info_parts infoSt;obtain⟨i2,ae,b5,b6,cf⟩:=info_parts infoStr;obtain⟨i,ag⟩:=nm_ (Ev z D N r w);rw[<-ag];have aI:=O ag;have aW:=O hn;obtain⟨h,b0⟩:=nm_ w.heap.size;have aB:h<=w.heap.size:=X;have bB:w.heap.size<=h:=X;have cr:z<=h:=X
 go_enter func141,ntmps141
 go_wp2_with (first|(go_at_call 177;refine(lW).mono ?_;rintro al w1⟨rfl,rfl⟩)|(at_builtin;refine j0 rfl rfl h 9 i2 1 16 underlying207 ae b5 b6 cf rfl I I (j_ w.heap.size) 5 5 _ rfl (tJ (n:=5) (s:=1) (Q_ w 9 l_) rfl aB I) dT 3 cm _ rfl (MM.alloc _) (tC) X p_ ?_;intro bN cx w2 b8 aY dP))
 have bO:=((H [] w).alloc _).hA (J.iW aY) (λe a=>by have:=jC.1 a;simp[Value.ownBlock]at this;right;omega);have av:Sl w2 9 1 bN 8 (hM.map Value.string):=Sl.iQ b8
 go_loopw [5,12] (λov T w'=>∃(k:Nat) (l:OA) (g:Nat) (d:List ST),k<=8/\T=Y k/\d.length=k/\ov=.slice l d.length g/\lI hM h (D+1) k w' l g d/\d.map ST.name=hM.take k/\(∀s∈d,s.hS=1)/\J [] w w'/\Sl w' 9 1 bN 8 (hM.map Value.string)/\w2.heap.size<=w'.heap.size) (λ_ T _=>8-(intOf T).toNat)
 case atStart=>exact⟨0,none,0,[],X,rfl,rfl,rfl,lI.nil _ _ _ _,rfl,(by intro s hs;cases hs),bO,av,H_ _⟩
 case round=>
  obtain⟨k,l,g,d,hk,rfl,aF,rfl,S,dY,am,o,an,ap⟩:=hrel;have bI:=O aF;have eO:=O dY;have E:=S.own;rw[aF]at E |-
  by_cases aj:k<8
  .obtain⟨s,hs,p,bP⟩:=Df k aj;have bK:=O bP;obtain⟨b,off,aq,m⟩:=an.f_ X;subst aq;have ai:=m k (.string s) (by rw[F4,p];rfl)
   go_wp2_with (first|(go_at_call 144;refine(j3 0).mono ?_;rintro al P⟨rfl,t⟩)|(go_at_call 142;refine(kP P.heap.size s (ju 0) P (H_ _) (kl.leaf _ _ _ _ _ _)).mono ?_;rintro al v⟨As,rfl,MP,x⟩;have au:=iF (iF (iF E t) x) ((H [] v).alloc (.cells (iZ s As (ju 0)).g8 229));have hbs:h<=(v.alloc (.cells (iZ s As (ju 0)).g8 229)).heap.size:=(by have:=t.size;have:=x.size;have:=o.size;simp;omega);simp only[iZ,ST.ic])|(at_builtin;refine j0 rfl rfl h 229 i1 8 128 underlying211 bJ bY bZ ca rfl I I l k g (d.flatMap ST.E) rfl au _ 1 1 ([iZ s As (ju 0)].flatMap ST.E) rfl (rO (iZ s As (ju 0)) (Q_ v 229 _)) (k9) X hbs ?_;intro F Q ad L y U))
   go_roundw
   case rel=>
    have j:=bI.out;subst j;have eU:lI hM h (D+1) d.length (v.alloc (.cells (iZ s As (ju 0)).g8 229)) l g d:=((S.iy t s_).iy x s_).iy ((H [] v).alloc _) s_
    have M:jD (zC h (Value.slice l d.length g).ownBlock) (v.alloc (.cells (iZ s As (ju 0)).g8 229)) (iZ s As (ju 0)):=by
     have h3:=t.size;have ar:=o.size;refine(MP.imp λe a=>⟨?_,λhe=>?_⟩).g_ ((H [] v).alloc _)
     .have:P.heap.size<=e:=a
      omega
     .have h1:=(kx E he).2
      have:P.heap.size<=e:=a
      omega
    have aw:l3 hM (D+1) 1 [iZ s As (ju 0)]:=SG.leaf (.vH _ hs) rfl rfl (by intro u f;rcases N_.1 f with rfl|f;exact .num _ _ X X;cases f);have Z:=eU.add (us:=[iZ s As (ju 0)]) L y U (λu f=>by have:u=iZ s As (ju 0):=(zu f);subst this;exact M) aw;have C:=J.iW y;have bG:=(((o.trans t).trans x).alloc _).hA C (λe a=>by have:=(kx E (jC.1 a)).1;right;omega);refine⟨d.length+1,F,Q,d++[iZ s As (ju 0)],X,gn,s_,s_,by simpa using Z,by rw[FI,eO.out,bK.out];rfl,?_,bG,?_,?_⟩
    .intro u f
     rcases T_.1 f with f|f
     .exact am u f
     .have:u=iZ s As (ju 0):=(zu f)
      subst this
      rfl
    .exact(App.iW au y).sl (((an.g_ t).g_ x).alloc _) I
    .have:=t.size
     have:=x.size
     have:=C.size
     simp at this;omega
   case measure=>exact mz
  .have v:k=8:=X;subst v
   go_wp2_with (at_builtin;refine j0 rfl rfl h 229 i1 8 128 underlying211 bJ bY bZ ca rfl I I l 8 g (d.flatMap ST.E) rfl E A n c (r.flatMap ST.E) rfl (hl.g_ o) (k9) X (ov o.size) ?_;intro F Q ad L y U)
   have j:=bI.out;have t:=aW.out;subst t;rw[aI.out];have C:=J.iW y
   have mA:∀e∈oS (Value.slice l d.length g).ownBlock,h<=e:=λe a=>(kx S.own (jC.1 a)).1
   have x:∀e∈oS (Value.slice l 8 g).ownBlock,h<=e:=by rw[<-j];exact mA
   have Z:=(S.le cr).add (K:=N) (us:=r) (c':=Q) (A':=F) (by rw[j];exact oE L cr) (by rw[j];exact y) (by rw[j];exact U) (λu f=>((q u f).lt.imp (λe a=>⟨a.1,λhe=>by have:=mA e (jC.2 he);have:=a.2;omega⟩)).g_ o) aE;refine⟨F,Q,d,by rw[K_,j];rfl,?_,by rw[eO.out];rfl,am,o.hA C (λe a=>by have:=x e a;right;omega),?_,?_⟩
   .simpa[j]using Z
   .exact G_ o.size C.size
   .intro e a;rw[K_,j]at a
    have:=kx L a
    omega
