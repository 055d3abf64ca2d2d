import Derived.Test.YtenbhdilndfaeaaGreatH13
set_option maxRecDepth 100000
set_option maxHeartbeats 0
set_option linter.all false
namespace Go.Proofs.YtenbhdilndfaeaaGreat
open Go.RowKit Go.Proofs.Tryz
section
variable{G:Prop}{M:QY}{tr:TypeId}{V:QU}{i k:Nat}(p:Nat)
def Jk(h:G:=by
 obtain⟨W,aJ⟩:=nm_ w1;rw[<-aJ]at hd hm hR N2 |-;clear aJ;have aG:Ex B g m R0 229 #[q_ g,Y left,Y loops,Y fn] S_ W W:=⟨hd,hm,hR,G_ [g] W⟩;refine iU (Ex B g m R0 229 #[q_ g,Y left,Y loops,Y fn] S_ W) (λ_ N0=>∃t,Bk N0 R0 229 t.g_/\jR (jK<|R0+1) N0 t/\SG hV 1 1 t/\iV N0 B g/\J [g,R0] W N0) (J [g,R0]) [SU.val _<|.string v,SU.val _<|q_ m,SU.tree aK<|1,SU.stmt aK (1)<|1,SU.any _] (SU.any _) [[],[],[1],[0,2],[3]] true [(some 125,0),(some 126,1),(some 127,2),(some 128,3),(none,4)] k_ k_ (λ_ _ _ _ _ h=>h) k_ rfl rfl k_ aG ⟨?_,?_,?_,?_,?_,trivial⟩ ?_
 exact L6;exact L6;refine hU [(some 126,1)] ?_;exact Kk;refine hU [(some 125,0),(some 127,2)] ?_;exact J1
 .refine jE [(some 128,3)] ?_;exact Km
 exact LB):G:=h
def Jo(h:G:=by
 obtain⟨t,K,S,N1,aj,dV⟩:∃(t:ST) (K:Nat),Bk NY R7 229 t.g_/\jR (jK<|R0+1) NY t/\SG hV (4-p) K t/\(K:Int)+2*l<=2+2*left:=by
  refine⟨(ST.mk 5 n jg 0 0 (j_ x) 2 [jF 0,jF r] A c ts none 0 []),1+N,(by have:=aZ.out;subst this;exact aL),jR.node _ _ _ _ _ _ _ _ (tI (jF 0) (jF r) bi) (I_ _) (λy off h=>by injection h with h;injection h with h;omega) ?_ (am.le X)<|lP.nil _ _ _ _,?_,by push_cast;omega⟩;intro u hu;rcases N_.1 hu with rfl|hu
  exact kB.leaf _ _ _ _ _ _;rcases N_.1 hu with rfl|hu
  .exact kB.leaf _ _ _ _ _ _
  cases hu
  have hD:4-p=(4-(p+1))+1:=X;rw[hD];refine SG.loop (t:=(ST.mk 5 n jg 0 0 (j_ x) 2 [jF 0,jF r] A c ts none 0 [])) (.Bw _ aN.out) rfl ?_ am.sg;intro u hu;rcases N_.1 hu with rfl|hu
  exact .num _ _ X X;rcases N_.1 hu with rfl|hu
  .exact .num _ _ X X
  cases hu
 clear aL am bi;exact Jy):G:=h
def Jp(h:G:=by
 go_upto_region 3 with fail;clear af;obtain⟨W,aJ⟩:=nm_ w1;rw[<-aJ]at hd hm hR N2 |-;clear aJ;have aG:Ex B g m R0 229 #[q_ g,Y left,Y loops,Y fn] S_ W W:=⟨hd,hm,hR,G_ [g] W⟩;refine iU (Ex B g m R0 229 #[q_ g,Y left,Y loops,Y fn] S_ W) (λ_ N0=>∃t,Bk N0 R0 229 t.g_/\jR (jK<|R0+1) N0 t/\SG hV 1 1 t/\iV N0 B g/\J [g,R0] W N0) (J [g,R0]) [SU.val _<|q_ m,SU.stmt aK (1)<|1,SU.any _] (SU.any _) [[],[0],[1]] true [(some 26,0),(some 27,1),(none,2)] k_ k_ (λ_ _ _ _ _ h=>h) k_ rfl rfl k_ aG ⟨?_,?_,?_,trivial⟩ ?_
 exact L6;exact Ke
 .exact Kf
 intro vs a2 C;simp only[b_];obtain⟨t,az,N1,aj,br,G⟩:=C;go_wp2;exact rr_ t.g_ az underlying229 ⟨t,1,left,rfl,N1.le X,l8.mono aj X,hl0,Hl _,X,hm.gr G p_,br,(N2.hJ G p_).mono s_⟩):G:=h
def Jy(h:G:=by
 obtain⟨aB,cF⟩:=nm_ NY;rw[<-cF]at S N1 bW bZ aE F |-;clear cF;have ay:=bZ.f_ 2;have aU:=bZ.hG 2;have cX:IntKind.i64.wrap (loops+1-1)=loops+1-1:=G9 _ X
 go_upto_region 18 with fail;clear ay aU cX;have ak:J [m] aB (aB.setCell (Z m 2)<|Y loops):=(G_ [m] aB).setCell (.inl s_) _;replace bZ:Bk (aB.setCell (Z m 2)<|Y loops) m 222 #[q_ g,Y l,Y loops,Y fn]:=bZ.hW 2 _;replace bW:=bW.ir ak p_;replace aE:=aE.gr ak p_;replace S:=S.gr ak p_;replace N1:=N1.ir ak p_;replace F:J [g,m] w (aB.setCell (Z m 2)<|Y loops):=F.trans<|ak.mono s_;clear ak;obtain⟨aH,cI⟩:=nm_<|aB.setCell (Z m 2)<|Y loops;rw[<-cI]at S N1 bW bZ aE F |-;clear cI
 go_wp2_with (first|(refine la S underlying229 ?_)|(refine k6 (t.g_) aE (ST.one _) ?_;intro N0 az G));exact rr_ t.g_ az underlying229 ⟨t,K,l,rfl,(N1.ir G s_).le X,aj,cu,dY,dV,bZ.gr G p_,bW.ir G p_,F.hJ G p_⟩):G:=h
def JE(h:G:=by
 intro vs Q C N3 K H;obtain⟨o,ax,⟨Ac,cc,tc,cO,lc,ec,cK,da,db,dF,cU⟩, -⟩:=N3;replace o:_=_:=o;replace ax:_=_:=ax;try simp only[b_,o,ax,ec]at H |-
 obtain⟨cZ,er,ez,cC⟩:=cU;go_simp;go_at_call 139;refine(bl (P+1) 1 cZ loops _ (ov aQ.out) X X C.d cC hBm X X hq0<|by push_cast;omega).mono ?_;rintro e w1⟨A,c,ts,N,l,rfl,_,co,cu,dY,bC,cx,bP,aW⟩;exact H.out _ _ (C.k7 aW bP ⟨l,cu,Hl _,cx⟩ X eS z) ⟨aW.mono s_,λhi⟨q,aj,cA,cT⟩=>⟨l,cu,ov<|te cT cC,cx⟩⟩ ⟨Ac,cc,tc,cO,A,c,ts,N,l,ec,(cK.iF aW p_),rfl,co.le C.r.lt,cu,X,X,⟨l,cu,Hl _,cx⟩⟩):G:=h
def JM(h:G:=by
 intro vs Q C N3 K H;obtain⟨o,ax, -⟩:=N3;replace o:_=_:=o;replace ax:_=_:=ax;try simp only[b_,o,ax]at H |-
 obtain⟨cZ,er,ez,cC⟩:=C.lf;go_simp;go_at_call 139;refine(bl (P+1) 2 cZ loops _ (ov aQ.out) X X C.d cC hBm X X hq0<|by push_cast;omega).mono ?_;rintro e w1⟨A,c,ts,N,l,rfl,_,co,cu,dY,bC,cx,bP,aW⟩;exact H.out _ _ (C.k7 aW bP ⟨l,cu,Hl _,cx⟩ X eS z) ⟨aW.mono s_,λhi⟨q,aj,cA,cT⟩=>⟨l,cu,ov<|te cT cC,cx⟩⟩ ⟨A,c,ts,N,l,rfl,co.le C.r.lt,cu,X,X,⟨l,cu,Hl _,cx⟩⟩):G:=h
def J1(h:G:=by
 intro vs Q C N3 K H;obtain⟨o,⟨ao,ax,V,d⟩, -⟩:=N3;replace o:_=_:=o;try simp only[b_,o,ax]at H |-
 go_simp;go_at_call 142;refine(kW (R0+1) _ _ _ C.r.lt V).mono ?_;rintro e w1⟨A,rfl,N1,hg1⟩;exact H.out _ _ (C.hF hg1) (hg1.mono s_) ⟨jc _ A _,rfl,N1,SG.leaf (.we _ aL.out) rfl rfl<|by intro u hu;rcases N_.1 hu with rfl|hu;exact d.mono X;cases hu⟩):G:=h
def J5(h:G:=by
 intro vs Q C N3 K H;obtain⟨⟨ta,ev,bt,o,ap,E,eb,ed,ef,dG⟩, -⟩:=N3;try simp only[b_,o]at H |-
 refine i5 k_ ?_;refine h9 229 rfl R0 r_ ta.g_ r_ 229 C.r rfl k_ (ST.one _) ?_;intro N0 az G;obtain⟨cZ,cY,dC,dD⟩:=dG;exact H.out undef _ λ_=>⟨ta,ev,cZ,az,ap.ir G s_,E,cY,X,X,dD.gr G p_,C.d.ir G p_,(C.g.mono s_).trans<|G.mono s_⟩):G:=h
def Ke(h:G:=by
 refine hU [(some 26,0)] ?_;intro vs Q C N3 K H;obtain⟨o, -⟩:=N3;replace o:_=_:=o;try simp only[b_,o]at H |-
 go_simp;go_at_call 207;refine(qG B g m left loops fn C.d C.m hBm).mono ?_;exact L2):G:=h
def Kf(h:G:=by
 refine jE [(some 27,1)] ?_;exact Km):G:=h
def Kk(h:G:=by
 intro vs Q C N3 K H;obtain⟨o, -⟩:=N3;replace o:_=_:=o;try simp only[b_,o]at H |-
 go_simp;go_at_call 218;refine(pU B g m left loops fn C.d C.m hBm).mono ?_;exact L2):G:=h
def Kn(h:G:=by
 refine hU [(some 28,0),(some 33,5)] ?_;exact KE):G:=h
def Kr(h:G:=by
 intro f vs Q hf C N3 K H;obtain⟨o, -⟩:=N3;replace o:_=_:=o;try simp only[b_,o]at H |-
 go_simp;go_at_call 145;refine(kk _).mono ?_;rintro e w1⟨rfl,hg1⟩;exact H.out _ _ (C.hF hg1) (hg1.mono s_) ⟨jG n,rfl,kB.leaf _ _ _ _ _ _,.var _ _ aN.out⟩):G:=h
def Kt(h:G:=by
 refine hU [(some 31,3)] ?_;exact KB):G:=h
def Kx(h:G:=by
 refine hU [] ?_;intro vs Q C N3 K H;clear N3;try simp only[b_]at H |-
 go_simp;go_at_call 177;refine(l0).mono ?_;rintro e w1⟨rfl,rfl⟩;exact MC):G:=h
def KD(h:G:=by
 intro vs Q C N3 K H;obtain⟨⟨aP,o,cN,aY⟩, -⟩:=N3;try simp only[b_,o]at H |-
 go_simp;go_at_call 144;refine(ki aP).mono ?_;rintro e w1⟨rfl,hg1⟩;exact H.out _ _ (C.hF hg1) (hg1.mono s_) ⟨aP,X,X,rfl⟩):G:=h
def KN(h:G:=by
 intro f vs Q hf C N3 K H;obtain⟨o, -⟩:=N3;replace o:_=_:=o;try simp only[b_,o]at H |-
 obtain⟨c9,a,be,zs,ft,cQ⟩:=id C;have U:=a.f_ 0;have ad:=zs.f_ 6;exact NJ):G:=h
def KS(h:G:=by
 intro vs Q C N3 K H;obtain⟨o, -⟩:=N3;replace o:_=_:=o;try simp only[b_,o]at H |-
 obtain⟨c9,a,be,zs,eg,cQ⟩:=id C;have U:=a.f_ 0;have bL:=zs.f_ 5;exact NJ):G:=h
def KY(h:G:=by
 intro vs Q C N3 K H;obtain⟨o, -⟩:=N3;replace o:_=_:=o;try simp only[b_,o]at H |-
 have bO:IntKind.i64.wrap (P+1)=P+1:=G9 _ X;exact Nz):G:=h
def K2(h:G:=by
 intro vs a2 C;simp only[b_];obtain⟨t,N,l,az,N1,aj,c3,dE,cR,cC,br,G⟩:=C;go_wp2;exact rr_ t.g_ az underlying229 ⟨t,N,l,rfl,N1.le X,aj,c3,dE,cR,cC,br,(N2.mono s_).hJ G p_⟩):G:=h
def Ll(h:G:=by
 refine hU [(some 29,1)] ?_;exact LL):G:=h
def Lm(h:G:=by
 refine hU [(some 30,2)] ?_;exact LL):G:=h
def LD(h:G:=by
 intro vs Q C N3 K H;obtain⟨o, -⟩:=N3;replace o:_=_:=o;try simp only[b_,o]at H |-
 exact Nz):G:=h
def LE(h:G:=by
 intro vs Q C N3 K H;obtain⟨⟨bu,bD,o⟩, -⟩:=N3;try simp only[b_,o]at H |-
 go_simp;exact H.out _ _ C (G_ _ _) ⟨bu,bD,rfl⟩):G:=h
def LJ(h:G:=by
 intro f vs Q hf C N3 K H;exact Mc):G:=h
def LW(h:G:=by
 refine hU [] ?_;intro vs Q C N3 K H;clear N3;try simp only[b_]at H |-
 exact Nz):G:=h
def Nz(h:G:=by
 go_simp;exact H.out _ _ C (GL.jS<|G_ [] _) rfl):G:=h
def Cw:∀k,k<5->∃s,s∈hV/\mj[k]?=some (.string s)
 |0,_=>⟨w6,by simp[hV],rfl⟩
 |1,_=>⟨vW,by simp[hV],rfl⟩
 |2,_=>⟨wl,by simp[hV],rfl⟩
 |3,_=>⟨py,by simp[hV],rfl⟩
 |4,_=>⟨nj,by simp[hV],rfl⟩
def EH:∀k,k<2->∃s,s∈hV/\(#[.string {data:=#[115]},.string {data:=#[97]}]:Array Value)[k]?=some (.string s)
 |0,_=>⟨wl,by simp[hV],rfl⟩
 |1,_=>⟨w6,by simp[hV],rfl⟩
def EI:∀k,k<4->∃r:Int,(r=1\/r=6\/r=9)/\(#[Y 1,Y 6,Y 9,Y 1]:Array Value)[k]?=some (Y r)
 |0,_=>⟨1,s_,rfl⟩
 |1,_=>⟨6,s_,rfl⟩
 |2,_=>⟨9,s_,rfl⟩
 |3,_=>⟨1,s_,rfl⟩
def EE:∀k,k<2->∃r:Int,(r=7\/r=8)/\(#[Y 8,Y 7]:Array Value)[k]?=some (Y r)
 |0,_=>⟨8,s_,rfl⟩
 |1,_=>⟨7,s_,rfl⟩
def qG(B g m:Nat)(left loops fn:Int){w:World}(hd:iV w B g)(hm:Bk w m 222 #[q_ g,Y left,Y loops,Y fn])(hBm:B<=m):
 Calls prog 207 #[q_ m] w λe w'=>∃t,e=.returned (.agg t.g_)/\jR (jK w.heap.size) w' t/\SG hV 1 1 t/\iV w' B g/\J [g] w w':=by
 have aV:=hd.yw;have bH:=hm.lt;go_enter func207,ntmps207;go_upto_region 1 with fail;have a7:J [] w (w.alloc<|.cells S_ 229):=(G_ [] w).alloc _;replace hd:=hd.hF a7;replace hm:=hm.hF a7;have hR:=T_ w 229 S_;have N2:J [g] w (w.alloc<|.cells S_ 229):=(G_ [g] w).alloc _;clear a7;obtain⟨bw,b9⟩:=nm_<|w.alloc<|.cells S_ 229;rw[<-b9]at hd hm hR N2 |-;clear b9;obtain⟨R0,cw⟩:=nm_ w.heap.size;rw[<-cw]at hR |-;have du:w.heap.size<=R0:=X;have cV:g<R0:=X;have ad:B<=R0:=X;have cW:m<R0:=ov bH;clear cw;have aK:∀ae∈[g,R0],ae<R0+1:=p_;have ag:m≠g:=X;have z:R0≠g:=X;obtain⟨W,aJ⟩:=nm_ bw;rw[<-aJ]at hd hm hR N2 |-;clear aJ;have aG:Ex B g m R0 229 #[q_ g,Y left,Y loops,Y fn] S_ W W.drew:=⟨hd.hF (G_ [] W).drew,hm.hF (G_ [] W).drew,hR.hF (G_ [] W).drew,(G_ [g] W).drew⟩;refine ku (Ex B g m R0 229 #[q_ g,Y left,Y loops,Y fn] S_ W) (λ_ _=>True) (J [g,R0]) [SU.Cq aK 9 mj 5,SU.val _<|q_ m,SU.val _<|q_ m,SU.val _<|q_ m,SU.val _<|q_ g,SU.Cq aK 9 mj 5,SU.val _<|Y 5,SU.num _ 0 5,SU.elem aK 9 mj 5,SU.pure _ λv=>∃s,s∈hV/\v=.string s,SU.pure _ λv=>∃s,s∈hV/\v=.string s] (SU.any _) [[],[],[1],[2],[3],[],[5],[4,6],[0,7],[8],[9]] false [(some 4,0),(some 5,1),(some 6,2),(some 7,3),(some 8,4),(some 9,5),(some 10,6),(some 11,7),(some 12,8),(some 13,9),(some 3,10)] k_ k_ k_ (λ_ _ _ _ _ h=>h) k_ rfl rfl k_ aG ⟨?_,?_,?_,?_,?_,?_,?_,?_,?_,?_,?_,trivial⟩ ?_
 exact Kx;exact L6;refine hU [(some 5,1)] ?_;exact LL;refine hU [(some 6,2)] ?_;exact LL;refine hU [(some 7,3)] ?_;exact KB;exact Kx;refine hU [(some 9,5)] ?_;intro vs Q C N3 K H;obtain⟨⟨aX,o,bt,bn⟩, -⟩:=N3;try simp only[b_,o]at H |-
 exact NJ;refine hU [(some 8,4),(some 10,6)] ?_;intro vs Q C N3 K H;obtain⟨o,ax, -⟩:=N3;replace o:_=_:=o;replace ax:_=_:=ax;try simp only[b_,o,ax]at H |-
 exact K8;refine hU [(some 4,0),(some 11,7)] ?_;exact KE;refine hU [(some 12,8)] ?_;intro vs Q C N3 K H;obtain⟨⟨aX,E,o,aY,bt,bn⟩, -⟩:=N3;try simp only[b_,o]at H |-
 obtain⟨s,hs,bj⟩:=Cw E X;exact M4
 .refine hU [(some 13,9)] ?_;exact LE
 rintro vs a2⟨C,N3⟩;obtain⟨⟨aR,aT,NZ,cz⟩,S,Z,I,bV,⟨bS,bN,dC,ew⟩,dm,⟨p,dT,ah,cO⟩,⟨ca,eJ,dU,c3,am,ej⟩,⟨cH,D,cK⟩,⟨c,ai,e10⟩, -⟩:=N3;replace S:vs 1=q_ m:=S;replace Z:vs 2=q_ m:=Z;replace I:vs 3=q_ m:=I;replace bV:vs 4=q_ g:=bV;replace dm:vs 6=Y 5:=dm;simp only[b_,aT,S,Z,I,bV,bN,dm,dT,dU,cK,e10];clear aT S Z I bV bN dm dT dU cK e10;obtain⟨v,hv,cr⟩:∃v,v∈hV/\v=c:=⟨c,ai,rfl⟩;rw[<-cr];have aL:=O hv;clear cr hv;clear hd hm hR;obtain⟨hd,hm,hR,G⟩:=C;replace N2:=N2.trans G;clear G;have U:=hm.f_ 0;go_upto_region 3 with(go_at_call 19;refine(iD B g 13 hd X X).mono ?_;rintro e w1⟨k,rfl,ce,bY,bP,T⟩);clear U;replace hm:=hm.gr T p_;replace hR:=hR.gr T p_;replace N2:=N2.trans T;replace hd:=bP;clear T;rcases(by omega:(k=0\/k=1)\/(k=2)\/(k=3\/k=4)\/(k=5\/k=6)\/(k=7)\/(k=8)\/(k=9)\/(k=10)\/(k=11)\/(k=12))with ce|bY|bq|cf|bA|dW|bR|eZ|eo|dg
 .rcases ce with rfl|rfl
  all_goals
   go_upto_region 5 with fail;obtain⟨W,aJ⟩:=nm_ w1;rw[<-aJ]at hd hm hR N2 |-;clear aJ;have aG:Ex B g m R0 229 #[q_ g,Y left,Y loops,Y fn] S_ W W:=⟨hd,hm,hR,G_ [g] W⟩;refine iU (Ex B g m R0 229 #[q_ g,Y left,Y loops,Y fn] S_ W) (λ_ N0=>∃t,Bk N0 R0 229 t.g_/\jR (jK<|R0+1) N0 t/\SG hV 1 1 t/\iV N0 B g/\J [g,R0] W N0) (J [g,R0]) [SU.val _<|.string v,SU.val _<|q_ m,SU.tree aK<|2,SU.stmt aK (1)<|1,SU.any _] (SU.any _) [[],[],[1],[0,2],[3]] true [(some 22,0),(some 23,1),(some 24,2),(some 25,3),(none,4)] k_ k_ (λ_ _ _ _ _ h=>h) k_ rfl rfl k_ aG ⟨?_,?_,?_,?_,?_,trivial⟩ ?_
   exact L6;exact L6
   .refine hU [(some 23,1)] ?_;intro vs Q C N3 K H;obtain⟨o, -⟩:=N3;replace o:_=_:=o;try simp only[b_,o]at H |-
    go_simp;go_at_call 140;refine(kP B g m left loops fn 2 X _ rfl _ C.d C.m hBm).mono ?_;exact L2
   refine hU [(some 22,0),(some 24,2)] ?_;exact J1
   .refine jE [(some 25,3)] ?_;exact Km
   intro vs a2 C;simp only[b_];obtain⟨t,az,N1,aj,br,G⟩:=C;go_wp2;exact rr_ t.g_ az underlying229 ⟨t,rfl,N1.le X,aj,br,N2.hJ G p_⟩
 .subst bY;go_upto_region 7 with fail;obtain⟨W,aJ⟩:=nm_ w1;rw[<-aJ]at hd hm hR N2 |-;clear aJ;have aG:Ex B g m R0 229 #[q_ g,Y left,Y loops,Y fn] S_ W W.drew:=⟨hd.hF (G_ [] W).drew,hm.hF (G_ [] W).drew,hR.hF (G_ [] W).drew,(G_ [g] W).drew⟩;refine ku (Ex B g m R0 229 #[q_ g,Y left,Y loops,Y fn] S_ W) (λ_ N0=>∃t,Bk N0 R0 229 t.g_/\jR (jK<|R0+1) N0 t/\SG hV 1 1 t/\iV N0 B g/\J [g,R0] W N0) (J [g,R0]) [SU.Cq aK 9 #[.string {data:=#[112]},.string {data:=#[113]}] 2,SU.val _<|q_ m,SU.val _<|q_ m,SU.val _<|q_ m,SU.val _<|q_ g,SU.num _ 0 2,SU.elem aK 9 #[.string {data:=#[112]},.string {data:=#[113]}] 2,SU.pure _ λv=>∃s,s∈hV/\v=.string s,SU.val _<|q_ m,SU.val _<|q_ m,SU.val _<|q_ m,SU.val _<|q_ g,SU.num _ 0 2,SU.pure _ (λv=>∃r:Int,v=Y r/\2<=r/\r<=3),SU.tree aK<|0,SU.stmt aK (1)<|1,SU.any _] (SU.any _) [[],[],[1],[2],[3],[4],[0,5],[6],[],[8],[9],[10],[11],[12],[13],[7,14],[15]] true [(some 28,0),(some 29,1),(some 30,2),(some 31,3),(some 32,4),(some 33,5),(some 34,6),(some 35,7),(some 36,8),(some 37,9),(some 38,10),(some 39,11),(some 40,12),(some 41,13),(some 42,14),(some 43,15),(none,16)] k_ k_ k_ (λ_ _ _ _ _ h=>h) k_ rfl rfl k_ aG ⟨?_,?_,?_,?_,?_,?_,?_,?_,?_,?_,?_,?_,?_,?_,?_,?_,?_,trivial⟩ ?_
  exact K6;exact L6;exact Ll;exact Lm;exact Kt;refine hU [(some 32,4)] ?_;exact Ks;exact Kn;refine hU [(some 34,6)] ?_;exact KQ;exact L6;refine hU [(some 36,8)] ?_;exact LL;refine hU [(some 37,9)] ?_;exact LL;refine hU [(some 38,10)] ?_;exact KB;refine hU [(some 39,11)] ?_;exact Ks
  .refine hU [(some 40,12)] ?_;intro vs Q C N3 K H;obtain⟨⟨j,o,cN,aY⟩, -⟩:=N3;try simp only[b_,o]at H |-
   have I:IntKind.i64.wrap (2+j)=2+j:=G9 _ X;go_simp;exact H.out _ _ C (G_ _ _) ⟨_,rfl,X,X⟩
  .refine hU [(some 41,13)] ?_;intro vs Q C N3 K H;obtain⟨⟨j,o,cN,aY⟩, -⟩:=N3;try simp only[b_,o]at H |-
   go_simp;exact H.out (.agg (eNew j).g_) _ C (G_ _ _) ⟨eNew j,rfl,kB.leaf _ _ _ _ _ _,.new _ _ X X⟩
  .refine hU [(some 35,7),(some 42,14)] ?_;intro vs Q C N3 K H;obtain⟨⟨bu,bD,o⟩,⟨ao,ax,V,d⟩, -⟩:=N3;try simp only[b_,o,ax]at H |-
   go_simp;go_at_call 142;refine(kW (R0+1) _ _ _ C.r.lt V).mono ?_;rintro e w1⟨A,rfl,N1,hg1⟩;exact H.out _ _ (C.hF hg1) (hg1.mono s_) ⟨jc _ A _,rfl,N1,SG.leaf (.we _ bD) rfl rfl<|by intro u hu;rcases N_.1 hu with rfl|hu;exact d.mono X;cases hu⟩
  .refine jE [(some 43,15)] ?_;exact Km
  exact LB
 .rcases bq with rfl|rfl
  all_goals
   go_upto_region 10 with fail;obtain⟨W,aJ⟩:=nm_ w1;rw[<-aJ]at hd hm hR N2 |-;clear aJ;have aG:Ex B g m R0 229 #[q_ g,Y left,Y loops,Y fn] S_ W W:=⟨hd,hm,hR,G_ [g] W⟩;refine iU (Ex B g m R0 229 #[q_ g,Y left,Y loops,Y fn] S_ W) (λ_ N0=>∃t,Bk N0 R0 229 t.g_/\jR (jK<|R0+1) N0 t/\SG hV 1 1 t/\iV N0 B g/\J [g,R0] W N0) (J [g,R0]) [SU.val _<|q_ m,SU.val _<|q_ m,SU.val _<|q_ m,SU.val _<|q_ g,SU.num _ 0 3,SU.val _<|q_ m,SU.tree aK<|1,SU.val _<|q_ m,SU.tree aK<|1,SU.trees aK 2 2,SU.stmt aK (1)<|1,SU.any _] (SU.any _) [[],[0],[1],[2],[3],[],[5],[],[7],[6,8],[4,9],[10]] true [(some 47,0),(some 48,1),(some 49,2),(some 50,3),(some 51,4),(some 52,5),(some 53,6),(some 54,7),(some 55,8),(some 56,9),(some 57,10),(none,11)] k_ k_ (λ_ _ _ _ _ h=>h) k_ rfl rfl k_ aG ⟨?_,?_,?_,?_,?_,?_,?_,?_,?_,?_,?_,?_,trivial⟩ ?_
   exact L6;refine hU [(some 47,0)] ?_;exact LL;refine hU [(some 48,1)] ?_;exact LL;refine hU [(some 49,2)] ?_;exact KB;refine hU [(some 50,3)] ?_;exact Ks;exact L6;refine hU [(some 52,5)] ?_;exact Kk;exact L6;refine hU [(some 54,7)] ?_;exact Ki;refine hU [(some 53,6),(some 55,8)] ?_;exact JD
   .refine hU [(some 51,4),(some 56,9)] ?_;intro vs Q C N3 K H;obtain⟨⟨j,o,cN,aY⟩,⟨f,ao,ax,nb,L,F,y⟩, -⟩:=N3;try simp only[b_,o,ax]at H |-
    go_simp;have aH:ao.length=_:=nb;have n:Sl Q 226 5 (j_ f) ao.length (ao.flatMap ET.E):=by rw[aH];exact F
    have x:(lW 2 jg jg j 0 (j_ f) ao.length ao).g_=_:=rfl;simp only[ST.iu,lW,aH]at x;refine H.out _ _ C (G_ _ _) ⟨lW 2 jg jg j 0 (j_ f) ao.length ao,?_,jR.es _ _ _ _ _ n L λu hu=>(y u hu).1,SG.leaf (t:=lW 2 jg jg j 0 (j_ f) ao.length ao) (by show nh _ 2 jg jg j 0 ao.length _ _;rw[aH];exact .FI _ X X) rfl rfl λu hu=>(y u hu).2⟩;show Value.agg _=Value.agg (lW 2 jg jg j 0 (j_ f) ao.length ao).g_;exact NT
   .refine jE [(some 57,10)] ?_;exact Km
   intro vs a2 C;simp only[b_];obtain⟨t,az,N1,aj,br,G⟩:=C;go_wp2;exact rr_ t.g_ az underlying229 ⟨t,rfl,N1.le X,aj,br,N2.hJ G p_⟩
 .rcases cf with rfl|rfl
  all_goals
   go_upto_region 13 with fail;obtain⟨W,aJ⟩:=nm_ w1;rw[<-aJ]at hd hm hR N2 |-;clear aJ;have aG:Ex B g m R0 229 #[q_ g,Y left,Y loops,Y fn] S_ W W.drew:=⟨hd.hF (G_ [] W).drew,hm.hF (G_ [] W).drew,hR.hF (G_ [] W).drew,(G_ [g] W).drew⟩;refine ku (Ex B g m R0 229 #[q_ g,Y left,Y loops,Y fn] S_ W) (λ_ N0=>∃t,Bk N0 R0 229 t.g_/\jR (jK<|R0+1) N0 t/\SG hV 1 1 t/\iV N0 B g/\J [g,R0] W N0) (J [g,R0]) [SU.Cq aK 9 #[.string {data:=#[115]},.string {data:=#[97]}] 2,SU.val _<|q_ m,SU.val _<|q_ m,SU.val _<|q_ m,SU.val _<|q_ g,SU.num _ 0 2,SU.elem aK 9 #[.string {data:=#[115]},.string {data:=#[97]}] 2,SU.pure _ λv=>∃s,s∈hV/\v=.string s,SU.Cq aK 3 #[Y 1,Y 6,Y 9,Y 1] 4,SU.val _<|q_ m,SU.val _<|q_ m,SU.val _<|q_ m,SU.val _<|q_ g,SU.num _ 0 4,SU.elem aK 3 #[Y 1,Y 6,Y 9,Y 1] 4,SU.pure _ (λv=>∃r:Int,(r=1\/r=6\/r=9)/\v=Y r),SU.val _<|q_ m,SU.tree aK<|1,SU.trees aK 2 1,SU.stmt aK (1)<|1,SU.any _] (SU.any _) [[],[],[1],[2],[3],[4],[0,5],[6],[],[],[9],[10],[11],[12],[8,13],[14],[],[16],[17],[7,15,18],[19]] true [(some 61,0),(some 62,1),(some 63,2),(some 64,3),(some 65,4),(some 66,5),(some 67,6),(some 68,7),(some 69,8),(some 70,9),(some 71,10),(some 72,11),(some 73,12),(some 74,13),(some 75,14),(some 76,15),(some 77,16),(some 78,17),(some 79,18),(some 80,19),(none,20)] k_ k_ k_ (λ_ _ _ _ _ h=>h) k_ rfl rfl k_ aG ⟨?_,?_,?_,?_,?_,?_,?_,?_,?_,?_,?_,?_,?_,?_,?_,?_,?_,?_,?_,?_,?_,trivial⟩ ?_
   exact K6;exact L6;refine hU [(some 62,1)] ?_;exact LL;refine hU [(some 63,2)] ?_;exact LL;refine hU [(some 64,3)] ?_;exact KB;refine hU [(some 65,4)] ?_;exact Ks;refine hU [(some 61,0),(some 66,5)] ?_;exact KE;refine hU [(some 67,6)] ?_;intro vs Q C N3 K H;obtain⟨⟨aX,E,o,aY,bt,bn⟩, -⟩:=N3;try simp only[b_,o]at H |-
   obtain⟨s,hs,bj⟩:=EH E X;exact M4;exact K6;exact L6;refine hU [(some 70,9)] ?_;exact LL;refine hU [(some 71,10)] ?_;exact LL;refine hU [(some 72,11)] ?_;exact KB;refine hU [(some 73,12)] ?_;exact Ks;refine hU [(some 69,8),(some 74,13)] ?_;exact KE;refine hU [(some 75,14)] ?_;intro vs Q C N3 K H;obtain⟨⟨aX,E,o,aY,bt,bn⟩, -⟩:=N3;try simp only[b_,o]at H |-
   obtain⟨s,hs,bj⟩:=EI E X;exact M4;exact L6;refine hU [(some 77,16)] ?_;exact Ki;refine hU [(some 78,17)] ?_;exact JS
   .refine hU [(some 68,7),(some 76,15),(some 79,18)] ?_;intro vs Q C N3 K H;obtain⟨⟨bu,bD,o⟩,⟨rb,mb,ax⟩,⟨P,l,ec,b,lc,ak,i⟩, -⟩:=N3;try simp only[b_,o,ax,ec]at H |-
    go_simp;have aH:l.length=_:=b;have n:Sl Q 226 5 (j_ P) l.length (l.flatMap ET.E):=by rw[aH];exact ak
    have x:(lW 12 bu jg 0 rb (j_ P) l.length l).g_=_:=rfl;simp only[ST.iu,lW,aH]at x;refine H.out _ _ C (G_ _ _) ⟨lW 12 bu jg 0 rb (j_ P) l.length l,?_,jR.es _ _ _ _ _ n lc λu hu=>(i u hu).1,SG.leaf (t:=lW 12 bu jg 0 rb (j_ P) l.length l) (by show nh _ 12 bu jg 0 rb l.length _ _;rw[aH];exact .red _ bD _ mb) rfl rfl λu hu=>(i u hu).2⟩;show Value.agg _=Value.agg (lW 12 bu jg 0 rb (j_ P) l.length l).g_;exact NT
   .refine jE [(some 80,19)] ?_;exact Km
   intro vs a2 C;simp only[b_];obtain⟨t,az,N1,aj,br,G⟩:=C;go_wp2;exact rr_ t.g_ az underlying229 ⟨t,rfl,N1.le X,aj,br,N2.hJ G p_⟩
 .subst bA;go_upto_region 15 with fail;obtain⟨W,aJ⟩:=nm_ w1;rw[<-aJ]at hd hm hR N2 |-;clear aJ;have aG:Ex B g m R0 229 #[q_ g,Y left,Y loops,Y fn] S_ W W:=⟨hd,hm,hR,G_ [g] W⟩;refine iU (Ex B g m R0 229 #[q_ g,Y left,Y loops,Y fn] S_ W) (λ_ N0=>∃t,Bk N0 R0 229 t.g_/\jR (jK<|R0+1) N0 t/\SG hV 1 1 t/\iV N0 B g/\J [g,R0] W N0) (J [g,R0]) [SU.val _<|q_ m,SU.tree aK<|1,SU.trees aK 2 1,SU.stmt aK (1)<|1,SU.any _] (SU.any _) [[],[0],[1],[2],[3]] true [(some 83,0),(some 84,1),(some 85,2),(some 86,3),(none,4)] k_ k_ (λ_ _ _ _ _ h=>h) k_ rfl rfl k_ aG ⟨?_,?_,?_,?_,?_,trivial⟩ ?_
  exact L6;refine hU [(some 83,0)] ?_;exact Ki;refine hU [(some 84,1)] ?_;exact JS
  .refine hU [(some 85,2)] ?_;intro vs Q C N3 K H;obtain⟨⟨aX,ta,o,P,bt,bn,l⟩, -⟩:=N3;try simp only[b_,o]at H |-
   go_simp;have aH:ta.length=_:=P;have n:Sl Q 226 5 (j_ aX) ta.length (ta.flatMap ET.E):=by rw[aH];exact bn
   have x:(lW 10 jg jg 0 0 (j_ aX) ta.length ta).g_=_:=rfl;simp only[ST.iu,lW,aH]at x;refine H.out _ _ C (G_ _ _) ⟨lW 10 jg jg 0 0 (j_ aX) ta.length ta,?_,jR.es _ _ _ _ _ n bt λu hu=>(l u hu).1,SG.leaf (t:=lW 10 jg jg 0 0 (j_ aX) ta.length ta) (by show nh _ 10 jg jg 0 0 ta.length _ _;rw[aH];exact .FN) rfl rfl λu hu=>(l u hu).2⟩;show Value.agg _=Value.agg (lW 10 jg jg 0 0 (j_ aX) ta.length ta).g_;exact NT
  .refine jE [(some 86,3)] ?_;exact Km
  exact LB
 .subst dW;go_upto_region 17 with fail;obtain⟨W,aJ⟩:=nm_ w1;rw[<-aJ]at hd hm hR N2 |-;clear aJ;have aG:Ex B g m R0 229 #[q_ g,Y left,Y loops,Y fn] S_ W W:=⟨hd,hm,hR,G_ [g] W⟩;refine iU (Ex B g m R0 229 #[q_ g,Y left,Y loops,Y fn] S_ W) (λ_ N0=>∃t,Bk N0 R0 229 t.g_/\jR (jK<|R0+1) N0 t/\SG hV 1 1 t/\iV N0 B g/\J [g,R0] W N0) (J [g,R0]) [SU.val _<|.string v,SU.val _<|q_ m,SU.tree aK<|1,SU.trees aK 2 1,SU.stmt aK (1)<|1,SU.any _] (SU.any _) [[],[],[1],[2],[0,3],[4]] true [(some 89,0),(some 90,1),(some 91,2),(some 92,3),(some 93,4),(none,5)] k_ k_ (λ_ _ _ _ _ h=>h) k_ rfl rfl k_ aG ⟨?_,?_,?_,?_,?_,?_,trivial⟩ ?_
  exact L6;exact L6;refine hU [(some 90,1)] ?_;exact Ki;refine hU [(some 91,2)] ?_;exact JS
  .refine hU [(some 89,0),(some 92,3)] ?_;intro vs Q C N3 K H;obtain⟨o,⟨f,ao,ax,nb,L,F,y⟩, -⟩:=N3;replace o:_=_:=o;try simp only[b_,o,ax]at H |-
   go_simp;have aH:ao.length=_:=nb;have n:Sl Q 226 5 (j_ f) ao.length (ao.flatMap ET.E):=by rw[aH];exact F
   have x:(lW 11 v jg 0 0 (j_ f) ao.length ao).g_=_:=rfl;simp only[ST.iu,lW,aH]at x;refine H.out _ _ C (G_ _ _) ⟨lW 11 v jg 0 0 (j_ f) ao.length ao,?_,jR.es _ _ _ _ _ n L λu hu=>(y u hu).1,SG.leaf (t:=lW 11 v jg 0 0 (j_ f) ao.length ao) (by show nh _ 11 v jg 0 0 ao.length _ _;rw[aH];exact .ask _ aL.out) rfl rfl λu hu=>(y u hu).2⟩;show Value.agg _=Value.agg (lW 11 v jg 0 0 (j_ f) ao.length ao).g_;exact NT
  .refine jE [(some 93,4)] ?_;exact Km
  exact LB
 .subst bR;go_upto_region 19 with fail;obtain⟨W,aJ⟩:=nm_ w1;rw[<-aJ]at hd hm hR N2 |-;clear aJ;have aG:Ex B g m R0 229 #[q_ g,Y left,Y loops,Y fn] S_ W W:=⟨hd,hm,hR,G_ [g] W⟩;refine iU (Ex B g m R0 229 #[q_ g,Y left,Y loops,Y fn] S_ W) (λ_ N0=>∃t,Bk N0 R0 229 t.g_/\jR (jK<|R0+1) N0 t/\SG hV 1 1 t/\iV N0 B g/\J [g,R0] W N0) (J [g,R0]) [SU.tree aK<|0,SU.val _<|q_ m,SU.tree aK<|1,SU.tree aK<|1+1,SU.stmt aK (1)<|1,SU.any _] (SU.any _) [[],[],[1],[0,2],[3],[4]] true [(some 96,0),(some 97,1),(some 98,2),(some 99,3),(some 100,4),(none,5)] k_ k_ (λ_ _ _ _ _ h=>h) k_ rfl rfl k_ aG ⟨?_,?_,?_,?_,?_,?_,trivial⟩ ?_
  .refine hU [] ?_;intro vs Q C N3 K H;clear N3;try simp only[b_]at H |-
   go_simp;go_at_call 145;refine(kk _).mono ?_;rintro e w1⟨rfl,hg1⟩;exact H.out _ _ (C.hF hg1) (hg1.mono s_) ⟨jG wl,rfl,kB.leaf _ _ _ _ _ _,.var _ _<|by simp[hV]⟩
  exact L6;refine hU [(some 97,1)] ?_;exact Ki
  .refine hU [(some 96,0),(some 98,2)] ?_;intro vs Q C N3 K H;obtain⟨⟨ta,o,ap,E⟩,⟨ao,ax,V,d⟩, -⟩:=N3;try simp only[b_,o,ax]at H |-
   go_simp;go_at_call 143;refine(oR (R0+1) 1 ta ao C.r.lt ap V).mono ?_;rintro e w1⟨A,rfl,N1,hg1⟩;exact H.out _ _ (C.hF hg1) (hg1.mono s_) ⟨qw 1 A ta ao,rfl,N1,.bin 1 _ _ _ _ X X (E.mono X)<|d.mono X⟩
  .refine hU [(some 99,3)] ?_;intro vs Q C N3 K H;obtain⟨⟨ta,o,ap,E⟩, -⟩:=N3;try simp only[b_,o]at H |-
   go_simp;go_at_call 142;refine(kW (R0+1) _ _ _ C.r.lt ap).mono ?_;rintro e w1⟨A,rfl,N1,hg1⟩;exact H.out _ _ (C.hF hg1) (hg1.mono s_) ⟨jc _ A _,rfl,N1,SG.leaf (.we _ (show wl∈hV by simp[hV])) rfl rfl<|by intro u hu;rcases N_.1 hu with rfl|hu;exact E.mono X;cases hu⟩
  .refine jE [(some 100,4)] ?_;exact Km
  exact LB
 .subst eZ;have aS:=hm.f_ 3;by_cases l:fn<2
  .have R:decide (fn<2)=true:=by simp[l]
   go_upto_region 22 with fail;clear aS;obtain⟨W,aJ⟩:=nm_ w1;rw[<-aJ]at hd hm hR N2 |-;clear aJ;have aG:Ex B g m R0 229 #[q_ g,Y left,Y loops,Y fn] S_ W W:=⟨hd,hm,hR,G_ [g] W⟩;refine iU (Ex B g m R0 229 #[q_ g,Y left,Y loops,Y fn] S_ W) (λ_ N0=>∃t,Bk N0 R0 229 t.g_/\jR (jK<|R0+1) N0 t/\SG hV 1 1 t/\iV N0 B g/\J [g,R0] W N0) (J [g,R0]) [SU.val _<|q_ m,SU.val _<|.string v,SU.stmt aK (1)<|1,SU.any _] (SU.any _) [[],[],[0,1],[2]] true [(some 108,0),(some 109,1),(some 110,2),(none,3)] k_ k_ (λ_ _ _ _ _ h=>h) k_ rfl rfl k_ aG ⟨?_,?_,?_,?_,trivial⟩ ?_
   exact L6;exact L6
   .refine hU [(some 108,0),(some 109,1)] ?_;intro vs Q C N3 K H;obtain⟨o,ax, -⟩:=N3;replace o:_=_:=o;replace ax:_=_:=ax;try simp only[b_,o,ax]at H |-
    go_simp;go_at_call 219;refine(Cp B g m left loops fn v aL.out C.d C.m hBm).mono ?_;exact L2
   .refine jE [(some 110,2)] ?_;exact Km
   exact LB
  have R:decide (fn<2)=false:=by simp[l]
  go_upto_region 25 with fail;clear aS;exact Jk
 .subst eo;go_upto_region 24 with fail;obtain⟨W,aJ⟩:=nm_ w1;rw[<-aJ]at hd hm hR N2 |-;clear aJ;have aG:Ex B g m R0 229 #[q_ g,Y left,Y loops,Y fn] S_ W W.drew:=⟨hd.hF (G_ [] W).drew,hm.hF (G_ [] W).drew,hR.hF (G_ [] W).drew,(G_ [g] W).drew⟩;refine ku (Ex B g m R0 229 #[q_ g,Y left,Y loops,Y fn] S_ W) (λ_ N0=>∃t,Bk N0 R0 229 t.g_/\jR (jK<|R0+1) N0 t/\SG hV 1 1 t/\iV N0 B g/\J [g,R0] W N0) (J [g,R0]) [SU.Cq aK 3 #[Y 8,Y 7] 2,SU.val _<|q_ m,SU.val _<|q_ m,SU.val _<|q_ m,SU.val _<|q_ g,SU.num _ 0 2,SU.elem aK 3 #[Y 8,Y 7] 2,SU.pure _ (λv=>∃r:Int,(r=7\/r=8)/\v=Y r),SU.val _<|q_ m,SU.tree aK<|1,SU.trees aK 2 1,SU.stmt aK (1)<|1,SU.any _] (SU.any _) [[],[],[1],[2],[3],[4],[0,5],[6],[],[8],[9],[7,10],[11]] true [(some 113,0),(some 114,1),(some 115,2),(some 116,3),(some 117,4),(some 118,5),(some 119,6),(some 120,7),(some 121,8),(some 122,9),(some 123,10),(some 124,11),(none,12)] k_ k_ k_ (λ_ _ _ _ _ h=>h) k_ rfl rfl k_ aG ⟨?_,?_,?_,?_,?_,?_,?_,?_,?_,?_,?_,?_,?_,trivial⟩ ?_
  exact K6;exact L6;refine hU [(some 114,1)] ?_;exact LL;refine hU [(some 115,2)] ?_;exact LL;refine hU [(some 116,3)] ?_;exact KB;refine hU [(some 117,4)] ?_;exact Ks;refine hU [(some 113,0),(some 118,5)] ?_;exact KE;refine hU [(some 119,6)] ?_;intro vs Q C N3 K H;obtain⟨⟨aX,E,o,aY,bt,bn⟩, -⟩:=N3;try simp only[b_,o]at H |-
  obtain⟨s,hs,bj⟩:=EE E X;exact M4;exact L6;refine hU [(some 121,8)] ?_;exact Ki;refine hU [(some 122,9)] ?_;exact JS
  .refine hU [(some 120,7),(some 123,10)] ?_;intro vs Q C N3 K H;obtain⟨⟨j,bD,o⟩,⟨f,ao,ax,nb,L,F,y⟩, -⟩:=N3;try simp only[b_,o,ax]at H |-
   go_simp;have aH:ao.length=_:=nb;have n:Sl Q 226 5 (j_ f) ao.length (ao.flatMap ET.E):=by rw[aH];exact F
   have x:(lW j jg jg 0 0 (j_ f) ao.length ao).g_=_:=rfl;simp only[ST.iu,lW,aH]at x;refine H.out _ _ C (G_ _ _) ⟨lW j jg jg 0 0 (j_ f) ao.length ao,?_,jR.es _ _ _ _ _ n L λu hu=>(y u hu).1,SG.leaf (t:=lW j jg jg 0 0 (j_ f) ao.length ao) (by show nh _ j jg jg 0 0 ao.length _ _;rw[aH];exact(by rcases bD with rfl|rfl;exact .ret;exact .FF)) rfl rfl λu hu=>(y u hu).2⟩;show Value.agg _=Value.agg (lW j jg jg 0 0 (j_ f) ao.length ao).g_;exact NT
  .refine jE [(some 124,11)] ?_;exact Km
  exact LB
 subst dg;go_upto_region 25 with fail;exact Jk
def F5(p:Nat)(B g m:Nat)(left loops fn:Int)(w:World)(e:Ending)(w':World):Prop:=
 ∃(t:ST) (N:Nat) (l:Int),e=.returned (.agg t.g_)/\jR (jK w.heap.size) w' t/\SG hV (4-p) N t/\0<=l/\l<=left/\(N:Int)+2*l<=2+2*left/\Bk w' m 222 #[q_ g,Y l,Y loops,Y fn]/\iV w' B g/\J [g,m] w w'
def F3(p:Nat)(B g m:Nat)(fn:Int):Prop:=∀(P left loops:Int) (w:World),P=p->iV w B g->Bk w m 222 #[q_ g,Y left,Y loops,Y fn]->B<=m->0<=left->left<=100->0<=loops->loops<=50+p->
 Calls prog 176 #[q_ m,Y P] w (F5 p B g m left loops fn w)
def FB(p:Nat)(n:Int)(B g m:Nat)(left loops fn:Int)(w:World)(e:Ending)(w':World):Prop:=
 ∃(A:OA) (c:Nat) (ts:QW) (N:Nat) (l:Int),e=.returned (.slice A ts.length c)/\(ts.length:Int)<=n+1/\lP hV w.heap.size (4-p) N w' A c ts/\0<=l/\l<=left/\(N:Int)+2*l<=2*left/\Bk w' m 222 #[q_ g,Y l,Y loops,Y fn]/\iV w' B g/\J [g,m] w w'
def FR(p:Nat)(B g m:Nat)(fn:Int):Prop:=∀(P n left loops:Int) (w:World),P=p->0<=n->n<=10->iV w B g->Bk w m 222 #[q_ g,Y left,Y loops,Y fn]->B<=m->0<=left->left<=100->0<=loops->loops<=50+p->
 Calls prog 139 #[q_ m,Y P,Y n] w (FB p n B g m left loops fn w)
def tb(hp:p<=3)(B g m:Nat)(F:Int)(ao:F3 p B g m F):FR p B g m F:=by
 obtain⟨i1,bR,cf,cg,ct⟩:=info_parts infoSt;intro ad y left loops w hP hn0 hn1 hd s hBm hl0 hl1 hq0 hq1;have aQ:=O hP;clear hP;have aV:=hd.yw;have bH:=s.lt;have ag:m≠g:=X;obtain⟨i,P⟩:=nm_<|FB p y B g m left loops F w;rw[<-P];have ax:=O P;clear P;have aC:IntKind.i64.wrap (y+1)=y+1:=G9 _ X;have ae:=s.f_ 0;go_enter func139,ntmps139;go_wp2_with (go_at_call 19;refine(iD B g (y+1) hd X X).mono ?_;rintro ah w1⟨k,rfl,ce,bY,bP,Q⟩);clear aC ae;replace s:=s.gr Q p_;have L:J [g,m] w w1:=Q.mono s_;clear Q hd;obtain⟨j,b9⟩:=nm_ w.heap.size;have ak:j<=w1.heap.size:=by rw[b9];exact L.size
 have o:=O b9;clear b9;go_loopw [7,8] (λov T w'=>∃(l:Int) (A:OA) (c:Nat) (ts:QW) (N:Nat) (d:Int),T=Y l/\ -1<=l/\(ts.length:Int)+l<=y/\ov=.slice A ts.length c/\lP hV j (4-p) N w' A c ts/\0<=d/\d<=left/\(N:Int)+2*d<=2*left/\Bk w' m 222 #[q_ g,Y d,Y loops,Y F]/\iV w' B g/\J [g,m] w w'/\j<=w'.heap.size) (λ_ T _=>(intOf T+1).toNat)
 case atStart=>exact⟨k,none,0,[],0,left,rfl,X,p_,rfl,lP.nil _ _ _ _,hl0,X,X,s,bP,L,ak⟩
 obtain⟨l,A,c,ts,N,d,rfl,bF,bB,rfl,hL,bt,bA,bC,u,ca,al,V⟩:=hrel;obtain⟨an,b⟩:=nm_ ts.length;have bl:=O b;have r:=hL.own;rw[<-b]at bB r |-;clear b s bP L
 by_cases aq:0<=l/\0<d
 .obtain⟨hg1,N3⟩:=aq;have cA:=u.hW 1<|Y<|d-1;have n:J [m] wr (wr.setCell (Z m 1)<|Y<|d-1):=(G_ [m] wr).setCell (.inl s_) _;have cX:=ca.ir n p_;have af:=u.f_ 1;have aM:=u.hG 1;go_upto_region 6 with fail;clear af aM;go_wp2_with (first|(go_at_call 176;refine(ao ad (d-1) loops _ aQ.out cX cA hBm X X hq0 hq1).mono ?_;rintro ah f⟨H,au,l2,rfl,N1,bW,bO,av,ay,dF,em,z⟩;have ar:=oe (oe r n λe a x=>by have:=(kK r x).1;simp at a;have:=bH;have:=o.out;omega) z (λe a x=>by have:=(kK r x).1;simp at a;have:=o.out;omega);have q:j<=(f.alloc<|.cells H.g_ 229).heap.size:=(by have h1:=n.size;have h2:=z.size;simp;omega);have K:=oe ar ((G_ [] f).alloc<|.cells H.g_ 229) s_;obtain⟨h,v⟩:=nm_ H;have t:=O v;rw[<-v]at N1 bW K q;clear v;obtain⟨s1,bT,cj,c7,b8,bU,cn,dn,cH,bu,sb,sc,dJ,dK⟩:=H;simp only[ST.iu])|(at_builtin;refine kf rfl rfl j 229 i1 8 128 underlying211 bR cf cg ct rfl I I A an c (ts.flatMap ST.E) rfl (by rw[t.out]at K;exact K) _ 1 1 ([h].flatMap ST.E) rfl (by rw[t.out];exact rT _<|T_ f 229 _) (lh) X (by rw[t.out]at q;exact q) ?_;intro U S NY aj E bJ));go_roundw
  case rel=>
   have az:lP hV j (4-p) N (f.alloc<|.cells h.g_ 229) A c ts:=by
    have h1:=hL.iF n (by intro e a;simp at a;have:=o.out;omega);have h2:=h1.iF z (by intro e a;simp at a;have:=o.out;omega);exact h2.iF ((G_ [] f).alloc _) s_
   have v:jR (Ah j (Value.slice A an c).ownBlock) (f.alloc<|.cells h.g_ 229) h:=by
    refine(N1.imp λe a=>⟨H_ (H_ V n.size) a,λx=>?_⟩).hF<|(G_ [] f).alloc _;have h1:=(kK r x).2;have h2:=n.size;have:(wr.setCell (Z m 1)<|Y<|d-1).heap.size<=e:=a;omega
   have b:=bl.out;subst b;replace E:(f.alloc<|.cells h.g_ 229).grownBy NY (Value.slice A ts.length c).ownBlock:=by rw[t.out];exact E
   replace bJ:(Value.slice U (ts.length+1) S).ownBlock=(Value.slice A ts.length c).ownBlock\/(Value.slice U (ts.length+1) S).ownBlock=some (f.alloc<|.cells h.g_ 229).heap.size:=by rw[t.out];exact bJ
   have df:=az.add (us:=[h]) aj E bJ (λaA hu=>by have:aA=h:=(zu hu);subst this;exact v) bW;have bI:∀e∈oX (Value.slice A ts.length c).ownBlock,j<=e:=λe a=>(kK r<|jQ.1 a).1;have C:=J.i6 E;have dX:=Nat.le_of_eq o.out.symm;have aB:m<j:=ov o.out;refine⟨l-1,U,S,ts++[h],N+au,l2,rfl,X,p_,s_,by simpa using df,bO,X,by push_cast;omega,(dF.alloc _).gr C (λa=>by have:=bI m a;omega),(em.hF<|(G_ [] f).alloc _).ir C (λe a=>by have:=bI e a;omega),?_,?_⟩;exact(((al.trans<|n.mono s_).trans z).alloc _).hJ C λe a=>.inr<|ov<|bI e a;exact H_ q C.size
  case measure=>exact mz
 have a:¬(0<=l)\/(0<=l/\¬(0<d)):=X;have af:=u.f_ 1;rcases a with a|⟨a,e⟩
 all_goals
  go_wp2;rw[ax.out,bl.out];exact⟨A,c,ts,N,d,rfl,ov bl.out,by have:=o.out;subst this;exact hL,bt,bA,bC,u,ca,al⟩
def DH:∀k,k<3->∃s,s∈hV/\(#[.string {data:=#[105]},.string {data:=#[106]},.string {data:=#[107]}]:Array Value)[k]?=some (.string s)
 |0,_=>⟨oY,by simp[hV],rfl⟩
 |1,_=>⟨yt,by simp[hV],rfl⟩
 |2,_=>⟨yr,by simp[hV],rfl⟩
def Lf(g m:Nat)(loops fn hi:Int)(w:World):Prop:=∃l,0<=l/\l<=hi/\Bk w m 222 #[q_ g,Y l,Y loops,Y fn]
def Lf.gr{g m:Nat}{e a d:Int}{w w':World}(h:Lf g m e a d w)(n:J M w w')(o:m∉M):Lf g m e a d w':=by
 obtain⟨q,f,j,l⟩:=h;exact⟨q,f,j,l.gr n o⟩
def Lf.le{g m:Nat}{e d a b:Int}{w:World}(h:Lf g m e d a w)(o:a<=b):Lf g m e d b w:=by
 obtain⟨l,f,n,j⟩:=h;exact⟨l,f,X,j⟩
def GL(M:QY)(g m:Nat)(loops fn:Int)(a b:World):Prop:=J M a b/\∀hi,Lf g m loops fn hi a->Lf g m loops fn hi b
def GL.of{g m:Nat}{l e:Int}{a b:World}(h:J [g] a b)(z:g∈M)(d:m≠g):GL M g m l e a b:=⟨h.mono (by intro n j;have:n=g:=(zu j);subst this;exact z),λ_ f=>f.gr h<|zu d⟩
def GL.jS{g m:Nat}{f d:Int}{a b:World}(h:J [] a b):GL M g m f d a b:=⟨h.mono s_,λ_ e=>e.gr h s_⟩
structure Es(B g m R:Nat)(tr:TypeId)(left loops fn:Int)(zc:Array Value)(W w:World):Prop where
 d:iV w B g
 lf:Lf g m loops fn left w
 r:Bk w R tr zc
 g:J [g,m] W w
def Es.step{B g m R:Nat}{left loops fn:Int}{zc:Array Value}{W w w':World}(h:Es B g m R tr left loops fn zc W w)(a:J [g] w w')(f:iV w' B g)(d:m≠g)(e:R≠g):Es B g m R tr left loops fn zc W w':=
 ⟨f,h.lf.gr a<|zu d,h.r.gr a<|zu e,h.g.trans<|a.mono s_⟩
def Es.hF{B g m R:Nat}{left loops fn:Int}{zc:Array Value}{W w w':World}(h:Es B g m R tr left loops fn zc W w)(a:J [] w w'):Es B g m R tr left loops fn zc W w':=
 ⟨h.d.hF a,h.lf.gr a s_,h.r.hF a,h.g.trans<|a.mono s_⟩
def Es.k7{B g m R:Nat}{left l loops fn:Int}{zc:Array Value}{W w w':World}(h:Es B g m R tr left loops fn zc W w)(a:J [g,m] w w')(j:iV w' B g)(f:Lf g m loops fn l w')(n:l<=left)(d:R≠m)(e:R≠g):Es B g m R tr left loops fn zc W w':=
 ⟨j,f.le n,h.r.gr a (by simp;exact⟨e,d⟩),h.g.trans a⟩
def SU.l1{M:QY}{lo:Nat}(z:∀y∈M,y<lo)(D g m:Nat)(left loops fn:Int):SU (λ_=>GL M g m loops fn):=
 SU.of (λv w=>∃(A:OA) (c:Nat) (ts:QW) (N:Nat) (l:Int),v=.slice A ts.length c/\lP hV lo D N w A c ts/\0<=l/\l<=left/\(N:Int)+2*l<=2*left/\Lf g m loops fn l w)
  (λ_ _ _ hg⟨A,c,ts,N,l,h1,h2,h3,ar,au,a8⟩=>⟨A,c,ts,N,l,h1,h2.iF hg.1 z,h3,ar,au,hg.2 _ a8⟩)
def SU.l2{M:QY}{lo:Nat}(z:∀y∈M,y<lo)(i D g m:Nat)(left loops fn:Int):SU (λ_=>GL M g m loops fn):=
 ⟨λvs v w=>∃(A1:OA) (c1:Nat) (a:QW) (e:Nat) (A:OA) (c:Nat) (ts:QW) (N:Nat) (l:Int),vs i=.slice A1 a.length c1/\lP hV lo D e w A1 c1 a/\v=.slice A ts.length c/\lP hV lo D N w A c ts/\0<=l/\l<=left/\(e:Int)+N+2*l<=2*left/\Lf g m loops fn l w,
   [],λ_ _ _ _ _ _ hg⟨A1,c1,a,e,A,c,ts,N,l,h1,h2,h3,ar,au,a8,bQ,bW⟩=>⟨A1,c1,a,e,A,c,ts,N,l,h1,h2.iF hg.1 z,h3,ar.iF hg.1 z,au,a8,bQ,hg.2 _ bW⟩,
   [i],λ_ _ _ _ hv⟨A1,c1,a,e,A,c,ts,N,l,h1,h2⟩=>⟨A1,c1,a,e,A,c,ts,N,l,(hv i s_).symm.trans h1,h2⟩⟩
def lP.sl{base D N c:Nat}{w:World}{A:OA}{ts:QW}(h:lP V base D N w A c ts):Sl w 229 8 A ts.length (ts.flatMap ST.E):=Sl.iZ h.own
def lP.from{base D N c:Nat}{w:World}{A:OA}{ts:QW}(h:lP V base D N w A c ts):∀u∈ts,jR (jK base) w u:=λu a=>(h.ju u a).imp λ_ d=>d.1
def jR.node{d D e E:Nat}{w:World}(k:Int)(x f:ByteArray)(n K:Int)(o:OA)(z:Nat)(es:QF){q t:OA}{v s:Nat}{C r:QW}(I:Sl w 226 5 o es.length<|es.flatMap ET.E)(H:es.length<=z)(F:∀y h,o=some (Z y h)->d<=y)(J:∀u∈es,kB (jK d) w u)(j:lP V d D e w q v C)(l:lP V d D E w t s r):jR (jK d) w (ST.mk k x f n K o z es q v C t s r):=
 .mk _ I H (λy h a _=>F y h a) J j.sl (jq j.own) (λy h a _=>wZ j.own a) j.from l.sl (jq l.own) (λy h a _=>wZ l.own a) l.from
def te{w:World}{g m:Nat}{e b q l f d:Int}(h:Bk w m 222 #[q_ g,Y e,Y q,Y f])(k:Bk w m 222 #[q_ g,Y b,Y l,Y d]):e=b:=by
 have j:w.heap[m]?=_:=h;have a:w.heap[m]?=_:=k;rw[j]at a;simp at a;exact a.1
structure D4(B g m R R7 x:Nat)(mc zc sc xc:Array Value)(W w:World):Prop where
 d:iV w B g
 m:Bk w m 222 mc
 r:Bk w R 229 zc
 s:Bk w R7 229 sc
 x:Bk w x 226 xc
 g:J [g] W w
def D4.step{B g m R R7 x:Nat}{mc zc sc d:Array Value}{W w w':World}(h:D4 B g m R R7 x mc zc sc d W w)(a:J [g] w w')(n:iV w' B g)(f:m≠g)(j:R≠g)(l:R7≠g)(e:x≠g):D4 B g m R R7 x mc zc sc d W w':=
 ⟨n,h.m.gr a<|zu f,h.r.gr a<|zu j,h.s.gr a<|zu l,h.x.gr a<|zu e,h.g.trans a⟩
def D4.hF{B g m R R7 x:Nat}{mc zc sc d:Array Value}{W w w':World}(h:D4 B g m R R7 x mc zc sc d W w)(a:J [] w w'):D4 B g m R R7 x mc zc sc d W w':=
 ⟨h.d.hF a,h.m.hF a,h.r.hF a,h.s.hF a,h.x.hF a,h.g.trans<|a.mono s_⟩
def G2(k:Nat)(M d:QY)(i:Nat)(a b:World):Prop:=J (if i=k then d else M) a b
def G2.gr{d:QY}{a b:World}(h:G2 k M d i a b)(z:∀y∈M,y∈d):J d a b:=by
 unfold G2 at h;split at h;exact h;exact h.mono z
def G2.ne{d:QY}{a b:World}(h:G2 k M d i a b)(e:i≠k):J M a b:=by
 unfold G2 at h;rw[K_ e]at h;exact h
structure Ws(B g q R R7 base D N:Nat)(A:OA)(c:Nat)(ts:QW)(mc zc sc:Array Value)(W:World)(b:Bool)(w:World):Prop where
 d:iV w B g
 m:Bk w q 222 mc
 r:Bk w R 229 zc
 s:Bk w R7 229 sc
 lf:b=false->lP hV base D N w A c ts
 g:J (g::oX (Value.slice A ts.length c).ownBlock) W w
 h1:q<base
 h2:R<base
 h3:R7<base
section
variable{B g m R R7 base D N:Nat}{A:OA}{c:Nat}{ts:QW}{mc zc sc:Array Value}{W w w':World}{b:Bool}
def Ws.hz(h:Ws B g m R R7 base D N A c ts mc zc sc W b w):W.heap.size<=w.heap.size:=h.g.size
def Ws.step(h:Ws B g m R R7 base D N A c ts mc zc sc W b w)(a:J [g] w w')(n:iV w' B g)(e:m≠g)(f:R≠g)(j:R7≠g)(d:g<base):Ws B g m R R7 base D N A c ts mc zc sc W b w':=
 ⟨n,h.m.gr a<|zu e,h.r.gr a<|zu f,h.s.gr a<|zu j,λl=>(h.lf l).iF a<|zu d,h.g.trans<|a.mono s_,h.h1,h.h2,h.h3⟩
def Ws.hF(h:Ws B g m R R7 base D N A c ts mc zc sc W b w)(a:J [] w w'):Ws B g m R R7 base D N A c ts mc zc sc W b w':=
 ⟨h.d.hF a,h.m.hF a,h.r.hF a,h.s.hF a,λd=>(h.lf d).iF a s_,h.g.trans<|a.mono s_,h.h1,h.h2,h.h3⟩
def Ws.app(h:Ws B g m R R7 base D N A c ts mc zc sc W b w)(a:J (oX (Value.slice A ts.length c).ownBlock) w w')(e:∀y∈oX (Value.slice A ts.length c).ownBlock,base<=y)(f:B<=base):Ws B g m R R7 base D N A c ts mc zc sc W true w':=
 ⟨h.d.ir a λo l=>H_ f<|e o l,h.m.gr a (λd=>by have:=e _ d;have:=h.h1;omega),h.r.gr a (λd=>by have:=e _ d;have:=h.h2;omega),h.s.gr a (λd=>by have:=e _ d;have:=h.h3;omega),(λj=>by cases j),h.g.trans (a.mono<|by intro y n;simp[n]),h.h1,h.h2,h.h3⟩
end
def Al(l:Int)(h:0<=l):0<=l.tmod 3/\l.tmod 3<3/\0<=l % 3/\l % 3<3:=⟨Int.tmod_nonneg _ h,Int.tmod_lt_of_pos _ X,by omega,by omega⟩
def vM(hp:p<3)(B g m:Nat)(fn:Int)(bl:FR (p+1) B g m fn):F3 p B g m fn:=by
 obtain⟨i1,bR,cf,cg,ct⟩:=info_parts infoSt;intro P left loops w hP hd hm hBm hl0 hl1 hq0 hq1;have aQ:=O hP;have d8:0<=P:=X;have cG:P<=2:=X;clear hP;have aV:=hd.yw;have bH:=hm.lt;go_enter func176,ntmps176;go_upto_region 1 with fail;have a7:J [] w (w.alloc<|.cells S_ 229):=(G_ [] w).alloc _;replace hd:=hd.hF a7;replace hm:=hm.hF a7;have hR:=T_ w 229 S_;have N2:J [g] w (w.alloc<|.cells S_ 229):=(G_ [g] w).alloc _;clear a7;obtain⟨bw,b9⟩:=nm_<|w.alloc<|.cells S_ 229;rw[<-b9]at hd hm hR N2 |-;clear b9;obtain⟨R0,cw⟩:=nm_ w.heap.size;rw[<-cw]at hR |-;have du:w.heap.size<=R0:=X;have cV:g<R0:=X;have al:B<=R0:=X;have cW:m<R0:=ov bH;clear cw;have aK:∀y∈[g,R0],y<R0+1:=p_;have ag:m≠g:=X;have z:R0≠g:=X;have eS:R0≠m:=X;have U:=hm.f_ 0
 go_upto_region 2 with(go_at_call 19;refine(iD B g 10 hd X X).mono ?_;rintro e w1⟨k,rfl,ce,bY,bP,aW⟩);clear U;replace hm:=hm.gr aW p_;replace hR:=hR.gr aW p_;replace N2:=N2.trans aW;replace hd:=bP;clear aW;have bB:¬(3<=P):=X;have af:=hm.f_ 1;by_cases dM:left<2
 .exact Jp
 by_cases dW:k<5
 .exact Jp
 have ay:=hm.f_ 2;go_upto_region 4 with fail;clear af ay;obtain⟨W,aJ⟩:=nm_ w1;rw[<-aJ]at hd hm hR N2 |-;clear aJ;have aG:Ex B g m R0 229 #[q_ g,Y left,Y loops,Y fn] S_ W W:=⟨hd,hm,hR,G_ [g] W⟩;refine iU (Ex B g m R0 229 #[q_ g,Y left,Y loops,Y fn] S_ W) (λ_ _=>True) (J [g,R0]) [SU.Cq aK 9 #[.string {data:=#[105]},.string {data:=#[106]},.string {data:=#[107]}] 3,SU.val _<|q_ m,SU.val _<|q_ m,SU.val _<|.pointer<|some<|Z m 2,SU.val _<|Y loops,SU.num _ 0 3,SU.elem aK 9 #[.string {data:=#[105]},.string {data:=#[106]},.string {data:=#[107]}] 3,SU.pure _ λj=>∃s,s∈hV/\j=.string s,SU.pure _ λj=>∃s,s∈hV/\j=.string s] (SU.any _) [[],[],[1],[2],[3],[4],[0,5],[6],[7]] false [(some 28,0),(some 29,1),(some 30,2),(some 31,3),(some 32,4),(some 33,5),(some 34,6),(some 35,7),(some 6,8)] k_ k_ (λ_ _ _ _ _ h=>h) k_ rfl rfl k_ aG ⟨?_,?_,?_,?_,?_,?_,?_,?_,?_,trivial⟩ ?_
 exact K6;exact L6;exact Ll;exact Lm;exact Kt
 .refine hU [(some 32,4)] ?_;intro vs Q C N3 K H;obtain⟨o, -⟩:=N3;replace o:_=_:=o;try simp only[b_,o]at H |-
  go_simp;have aI:=Al loops hq0;refine H.out _ _ C (G_ _ _) ⟨_,rfl,?_,?_⟩<;>omega
 exact Kn;refine hU [(some 34,6)] ?_;intro vs Q C N3 K H;obtain⟨⟨aX,E,o,aY,bt,bn⟩, -⟩:=N3;try simp only[b_,o]at H |-
 obtain⟨s,hs,bj⟩:=DH E X;exact M4
 .refine hU [(some 35,7)] ?_;exact LE
 rintro vs a2⟨C,N3⟩;obtain⟨⟨aR,aT,NZ,cz⟩,aC,av,bO,bV,⟨et,bN,cv,dk⟩,⟨bo,dO,dm,d1,bE,dX⟩,⟨cn,dr,dT⟩,⟨dn,de,dU⟩, -⟩:=N3;replace aC:vs 1=q_ m:=aC;replace av:vs 2=q_ m:=av;replace bO:vs 3=.pointer (some<|Z m 2):=bO;replace bV:vs 4=Y loops:=bV;simp only[b_,aT,aC,av,bO,bV,bN,dm,dT,dU];clear aT aC av bO bV bN dm dT dU;obtain⟨n,bX,cr⟩:∃j,j∈hV/\j=dn:=⟨dn,de,rfl⟩;rw[<-cr];have aN:=O bX;clear cr bX;clear hd hm hR;obtain⟨hd,hm,hR,G⟩:=C;replace N2:=N2.trans G;clear G;obtain⟨w1,a6⟩:=nm_ a2;rw[<-a6]at hd hm hR N2 |-;clear a6
 rcases(by omega:(k=5)\/(k=6)\/(k=7\/k=8\/k=9))with ce|bY|bq
 .subst ce;go_upto_region 7 with fail;obtain⟨W,aJ⟩:=nm_ w1;rw[<-aJ]at hd hm hR N2 |-;clear aJ;have eQ:=aK;clear aK;have aK:∀y∈[g,m,R0],y<R0+1:=p_;have aG:Es B g m R0 229 left loops fn S_ W W:=⟨hd,⟨left,hl0,Hl _,hm⟩,hR,G_ [g,m] W⟩;refine iU (Es B g m R0 229 left loops fn S_ W) (λ_ N0=>∃(t:ST) (N:Nat) (l:Int),Bk N0 R0 229 t.g_/\jR (jK<|R0+1) N0 t/\SG hV (4-p) N t/\0<=l/\l<=left/\(N:Int)+2*l<=2+2*left/\Bk N0 m 222 #[q_ g,Y l,Y loops,Y fn]/\iV N0 B g/\J [g,m,R0] W N0) (GL [g,m,R0] g m loops fn) [SU.val _<|q_ m,(SU.tree aK<|2).less λ_ _ h=>h.1,(SU.trees aK 2 1).less λ_ _ h=>h.1,SU.val _<|q_ m,SU.val _<|Y P,SU.val _<|Y<|P+1,SU.l1 aK (4-(p+1)) g m left loops fn,SU.val _<|q_ m,SU.val _<|Y P,SU.val _<|Y<|P+1,SU.l2 aK 6 (4-(p+1)) g m left loops fn,SU.of (λj w=>∃(t:ST) (N:Nat) (l:Int),j=.agg t.g_/\jR (jK<|R0+1) w t/\SG hV (4-p) N t/\0<=l/\l<=left/\(N:Int)+2*l<=2+2*left/\Lf g m loops fn l w) λ_ _ _ v⟨t,N,l,h1,L,T,ar,au,a8,bQ⟩=>⟨t,N,l,h1,L.ir v.1 λx hx=>Hx.2<|aK x hx,T,ar,au,a8,v.2 _ bQ⟩,SU.any _] (SU.any _) [[],[0],[1],[],[],[4],[3,5],[],[],[8],[7,9,6],[2,6,10],[11]] true [(some 39,0),(some 40,1),(some 41,2),(some 42,3),(some 43,4),(some 44,5),(some 45,6),(some 46,7),(some 47,8),(some 48,9),(some 49,10),(some 50,11),(none,12)] k_ k_ (λ_ _ _ _ _ h=>h) k_ rfl rfl k_ aG ⟨?_,?_,?_,?_,?_,?_,?_,?_,?_,?_,?_,?_,?_,trivial⟩ ?_
  exact LW
  .refine hU [(some 39,0)] ?_;intro vs Q C N3 K H;obtain⟨o, -⟩:=N3;replace o:_=_:=o;try simp only[b_,o]at H |-
   obtain⟨cZ,er,ez,cC⟩:=C.lf;go_simp;go_at_call 140;refine(kP B g m cZ loops fn 2 X _ rfl _ C.d cC hBm).mono ?_;rintro e w1⟨t,rfl,N1,aj,bg,hg1⟩;exact H.out _ _ (C.step hg1 bg ag z) (GL.of hg1 s_ ag) ⟨t,rfl,N1.le C.r.lt,aj⟩
  .refine hU [(some 40,1)] ?_;intro vs Q C N3 K H;obtain⟨⟨ta,o,ap,E⟩, -⟩:=N3;try simp only[b_,o]at H |-
   obtain⟨bK,bM,b0,b4,b5,b6,b7⟩:=ta;simp only[ET.iu]at H |-;go_simp;refine H.out _ _ (C.hF<|(G_ [] _).alloc _) (GL.jS<|(G_ [] _).alloc _) ⟨_,[ET.mk bK bM b0 b4 b5 b6 b7],rfl,rfl,C.r.lt,nO (ET.mk bK bM b0 b4 b5 b6 b7)<|T_ _ _ _,?_⟩;exact Mo
  exact LW;exact LW;refine hU [(some 43,4)] ?_;exact KY;refine hU [(some 42,3),(some 44,5)] ?_;exact JM;exact LW;exact LW;refine hU [(some 47,8)] ?_;exact KY;refine hU [(some 46,7),(some 48,9),(some 45,6)] ?_;exact JE
  .refine hU [(some 41,2),(some 45,6),(some 49,10)] ?_;intro vs Q C N3 K H;obtain⟨⟨aX,ta,o,cJ,bt,bn,c8⟩, -,⟨dq,dw,dH,d2,Ac,cc,tc,cO,lc,d4,dL,ec,cK,da,db,dF,cU⟩, -⟩:=N3;try simp only[b_,o,d4,ec]at H |-
   go_simp;refine H.out _ _ C (GL.jS<|G_ [] _) ⟨(ST.mk 4 jg jg 0 0 (j_ aX) 1 ta dq dw dH Ac cc tc),1+d2+cO,lc,?_,?_,?_,da,db,by push_cast;omega,cU⟩;show Value.agg _=Value.agg (ST.mk 4 jg jg 0 0 (j_ aX) 1 ta dq dw dH Ac cc tc).g_;simp only[ST.iu,cJ];rfl;exact jR.node _ _ _ _ _ _ _ _ (by rw[cJ];exact bn) (by rw[cJ];exact I_ _) (λy off h=>by injection h with h;injection h with h;omega) (λu hu=>(c8 u hu).1) dL cK;have hD:4-p=(4-(p+1))+1:=X;rw[hD];exact SG.node (t:=(ST.mk 4 jg jg 0 0 (j_ aX) 1 ta dq dw dH Ac cc tc)) (by show nh _ 4 jg jg 0 0 ta.length true true;rw[cJ];exact .E2) (λu hu=>(c8 u hu).2) dL.sg cK.sg
  .refine jE [(some 50,11)] ?_;exact J5
  exact K2
 .subst bY;go_upto_region 9 with fail;obtain⟨W,aJ⟩:=nm_ w1;rw[<-aJ]at hd hm hR N2 |-;clear aJ;have eQ:=aK;clear aK;have aK:∀y∈[g,m,R0],y<R0+1:=p_;have aG:Es B g m R0 229 left loops fn S_ W W.drew:=⟨hd.hF (G_ [] W).drew,⟨left,hl0,Hl _,hm.hF (G_ [] W).drew⟩,hR.hF (G_ [] W).drew,(G_ [g,m] W).drew⟩;refine ku (Es B g m R0 229 left loops fn S_ W) (λ_ N0=>∃(t:ST) (N:Nat) (l:Int),Bk N0 R0 229 t.g_/\jR (jK<|R0+1) N0 t/\SG hV (4-p) N t/\0<=l/\l<=left/\(N:Int)+2*l<=2+2*left/\Bk N0 m 222 #[q_ g,Y l,Y loops,Y fn]/\iV N0 B g/\J [g,m,R0] W N0) (GL [g,m,R0] g m loops fn) [(SU.Cq aK 9 mj 5).less λ_ _ h=>h.1,SU.val _<|q_ m,SU.val _<|q_ m,SU.val _<|q_ m,SU.val _<|q_ g,SU.num _ 0 3,(SU.elem aK 9 mj 5).less λ_ _ h=>h.1,SU.pure _ λj=>∃s,s∈hV/\j=.string s,SU.val _<|q_ m,SU.val _<|Y P,SU.val _<|Y<|P+1,SU.l1 aK (4-(p+1)) g m left loops fn,SU.val _<|q_ m,SU.val _<|Y P,SU.val _<|Y<|P+1,SU.l2 aK 11 (4-(p+1)) g m left loops fn,SU.of (λj w=>∃(t:ST) (N:Nat) (l:Int),j=.agg t.g_/\jR (jK<|R0+1) w t/\SG hV (4-p) N t/\0<=l/\l<=left/\(N:Int)+2*l<=2+2*left/\Lf g m loops fn l w) λ_ _ _ v⟨t,N,l,h1,L,T,ar,au,a8,bQ⟩=>⟨t,N,l,h1,L.ir v.1 λx hx=>Hx.2<|aK x hx,T,ar,au,a8,v.2 _ bQ⟩,SU.any _] (SU.any _) [[],[],[1],[2],[3],[4],[0,5],[6],[],[],[9],[8,10],[],[],[13],[12,14,11],[7,11,15],[16]] true [(some 53,0),(some 54,1),(some 55,2),(some 56,3),(some 57,4),(some 58,5),(some 59,6),(some 60,7),(some 61,8),(some 62,9),(some 63,10),(some 64,11),(some 65,12),(some 66,13),(some 67,14),(some 68,15),(some 69,16),(none,17)] k_ k_ k_ (λ_ _ _ _ _ h=>h) k_ rfl rfl k_ aG ⟨?_,?_,?_,?_,?_,?_,?_,?_,?_,?_,?_,?_,?_,?_,?_,?_,?_,?_,trivial⟩ ?_
  .refine hU [] ?_;intro vs Q C N3 K H;clear N3;try simp only[b_]at H |-
   go_simp;go_at_call 177;refine(l0).mono ?_;rintro e w1⟨rfl,rfl⟩;exact H.out _ _ (C.hF<|(G_ [] _).alloc _) (GL.jS<|(G_ [] _).alloc _) ⟨_,rfl,C.r.lt,T_ _ _ _⟩
  exact LW;refine hU [(some 54,1)] ?_;exact LD;refine hU [(some 55,2)] ?_;exact LD;refine hU [(some 56,3)] ?_;intro vs Q C N3 K H;obtain⟨o, -⟩:=N3;replace o:_=_:=o;try simp only[b_,o]at H |-
  obtain⟨c9,⟨ft,eu,ew,a⟩,be,cQ⟩:=id C;have U:=a.f_ 0;have af:=a.f_ 1;have ay:=a.f_ 2;have aS:=a.f_ 3;exact Nz
  .refine hU [(some 57,4)] ?_;intro vs Q C N3 K H;obtain⟨o, -⟩:=N3;replace o:_=_:=o;try simp only[b_,o]at H |-
   go_simp;go_at_call 19;refine(iD B g _ C.d X X).mono ?_;rintro e w1⟨r,rfl,h0,h1,bg,hg1⟩;exact H.out _ _ (C.step hg1 bg ag z) (GL.of hg1 s_ ag) ⟨r,rfl,h0,h1⟩
  .refine hU [(some 53,0),(some 58,5)] ?_;intro vs Q C N3 K H;obtain⟨⟨aX,o,bt,bn⟩,⟨rb,ax,dj,c6⟩, -⟩:=N3;try simp only[b_,o,ax]at H |-
   obtain⟨k,rfl⟩:∃k:Nat,rb=k:=⟨rb.toNat,X⟩;have dZ:(k:Int)<5:=X;go_simp;exact H.out _ _ C (GL.jS<|G_ [] _) ⟨aX,k,rfl,X,bt,bn⟩
  .refine hU [(some 59,6)] ?_;intro vs Q C N3 K H;obtain⟨⟨aX,E,o,aY,bt,bn⟩, -⟩:=N3;try simp only[b_,o]at H |-
   obtain⟨s,hs,bj⟩:=Cw E X;have af:=(bn.f_ E).trans bj;go_simp;exact H.out _ _ C (GL.jS<|G_ [] _) ⟨s,hs,rfl⟩
  exact LW;exact LW;refine hU [(some 62,9)] ?_;exact KY;refine hU [(some 61,8),(some 63,10)] ?_;exact JM;exact LW;exact LW;refine hU [(some 66,13)] ?_;exact KY;refine hU [(some 65,12),(some 67,14),(some 64,11)] ?_;exact JE
  .refine hU [(some 60,7),(some 64,11),(some 68,15)] ?_;intro vs Q C N3 K H;obtain⟨⟨bu,bD,o⟩, -,⟨dt,dz,dI,d3,Ac,cc,tc,cO,lc,d5,dN,ec,cK,da,db,dF,cU⟩, -⟩:=N3;try simp only[b_,o,d5,ec]at H |-
   go_simp;refine H.out _ _ C (GL.jS<|G_ [] _) ⟨(ST.mk 9 bu jg 0 0 none 0 [] dt dz dI Ac cc tc),1+d3+cO,lc,?_,?_,?_,da,db,by push_cast;omega,cU⟩;show Value.agg _=Value.agg (ST.mk 9 bu jg 0 0 none 0 [] dt dz dI Ac cc tc).g_;simp only[ST.iu];rfl;exact jR.node _ _ _ _ _ _ _ _ (HB _ _ _ _) (I_ _) (λ_ _ h=>by cases h) (λu hu=>by cases hu) dN cK;have hD:4-p=(4-(p+1))+1:=X;rw[hD];exact SG.node (t:=(ST.mk 9 bu jg 0 0 none 0 [] dt dz dI Ac cc tc)) (.CX _ bD) (λu hu=>by cases hu) dN.sg cK.sg
  .refine jE [(some 69,16)] ?_;exact J5
  exact K2
 have eh:(k==5)=false:=p_;have ei:(k==6)=false:=p_;have d6:IntKind.i64.wrap (loops+1)=loops+1:=G9 _ X;have ay:=hm.f_ 2;have aU:=hm.hG 2;go_upto_region 11 with fail;clear ay aU d6;have M:J [m] w1 (w1.setCell (Z m 2)<|Y<|loops+1):=(G_ [m] w1).setCell (.inl s_) _;replace hm:Bk (w1.setCell (Z m 2)<|Y<|loops+1) m 222 #[q_ g,Y left,Y<|loops+1,Y fn]:=hm.hW 2 _;replace hd:=hd.ir M p_;replace hR:=hR.gr M p_;have bI:J [g,m] w (w1.setCell (Z m 2)<|Y<|loops+1):=(N2.mono s_).trans<|M.mono s_;clear N2 M;obtain⟨W,aJ⟩:=nm_<|w1.setCell (Z m 2)<|Y<|loops+1;rw[<-aJ]at hd hm hR bI |-;clear aJ;have aG:Ex B g m R0 229 #[q_ g,Y left,Y<|loops+1,Y fn] S_ W W.drew:=⟨hd.hF (G_ [] W).drew,hm.hF (G_ [] W).drew,hR.hF (G_ [] W).drew,(G_ [g] W).drew⟩;refine ku (Ex B g m R0 229 #[q_ g,Y left,Y<|loops+1,Y fn] S_ W) (λvs N0=>∃(R7 x:Nat) (r:Int),vs 10=q_ R7/\0<=r/\r<=9/\R0+1<=R7/\R0+1<=x/\x≠R7/\Bk N0 R7 229 #[Y 5,.string n,.string jg,Y 0,Y 0,.slice (j_ x) 2 2,n_,n_]/\Bk N0 x 226 #[Y 1,Y 0,.string jg,Y 0,n_,Y 1,Y r,.string jg,Y 0,n_]/\iV N0 B g/\Bk N0 m 222 #[q_ g,Y left,Y<|loops+1,Y fn]/\Bk N0 R0 229 S_/\J [g,R7] W N0) (J [g,R0]) [SU.val _<|.string n,SU.pure _ λj=>j=.agg #[Y 1,Y 0,.string jg,Y 0,n_],SU.val _<|q_ m,SU.val _<|q_ m,SU.val _<|q_ m,SU.val _<|q_ g,SU.num _ 0 5,SU.pure _ (λj=>∃r:Int,0<=r/\r<=9/\j=.agg #[Y 1,Y r,.string jg,Y 0,n_]),SU.of (λj w=>∃(x:Nat) (r:Int),0<=r/\r<=9/\j=.slice (j_ x) 2 2/\R0+1<=x/\Bk w x 226 #[Y 1,Y 0,.string jg,Y 0,n_,Y 1,Y r,.string jg,Y 0,n_]) λ_ _ _ v⟨x,r,h0,h1,L,T,ar⟩=>⟨x,r,h0,h1,L,T,ar.gr v λhm=>by have:=aK x hm;omega⟩,SU.of (λj w=>∃(x:Nat) (r:Int),0<=r/\r<=9/\j=.agg #[Y 5,.string n,.string jg,Y 0,Y 0,.slice (j_ x) 2 2,n_,n_]/\R0+1<=x/\Bk w x 226 #[Y 1,Y 0,.string jg,Y 0,n_,Y 1,Y r,.string jg,Y 0,n_]) λ_ _ _ v⟨x,r,h0,h1,L,T,ar⟩=>⟨x,r,h0,h1,L,T,ar.gr v λhm=>by have:=aK x hm;omega⟩,SU.of (λj w=>∃R7,j=q_ R7/\R0+1<=R7/\Bk w R7 229 #[Y 0,.string jg,.string jg,Y 0,Y 0,n_,n_,n_]) λ_ _ _ v⟨x,L,T,ar⟩=>⟨x,L,T,ar.gr v λhm=>by have:=aK x hm;omega⟩,SU.any _] (SU.any _) [[],[],[],[2],[3],[4],[5],[6],[1,7],[0,8],[],[10,9]] true [(some 77,0),(some 78,1),(some 79,2),(some 80,3),(some 81,4),(some 82,5),(some 83,6),(some 84,7),(some 85,8),(some 86,9),(some 7,10),(none,11)] k_ k_ k_ (λ_ _ _ _ _ h=>h) k_ rfl rfl k_ aG ⟨?_,?_,?_,?_,?_,?_,?_,?_,?_,?_,?_,?_,trivial⟩ ?_
 exact L6
 .refine hU [] ?_;intro vs Q C N3 K H;clear N3;try simp only[b_]at H |-
  go_simp;go_at_call 144;refine(ki 0).mono ?_;exact Nl
 exact L6;refine hU [(some 79,2)] ?_;exact LL;refine hU [(some 80,3)] ?_;exact LL;refine hU [(some 81,4)] ?_;exact KB;refine hU [(some 82,5)] ?_;exact Ks;refine hU [(some 83,6)] ?_;exact KD
 .refine hU [(some 78,1),(some 84,7)] ?_;intro vs Q C N3 K H;obtain⟨o,⟨rb,dj,c6,ax⟩, -⟩:=N3;replace o:_=_:=o;try simp only[b_,o,ax]at H |-
  go_simp;exact H.out _ _ (C.hF<|(G_ [] _).alloc _) ((G_ _ _).alloc _) ⟨_,rb,dj,c6,rfl,C.r.lt,T_ _ _ _⟩
 .refine hU [(some 77,0),(some 85,8)] ?_;intro vs Q C N3 K H;obtain⟨o,⟨aO,rb,dj,c6,ax,cD,bG⟩, -⟩:=N3;replace o:_=_:=o;try simp only[b_,o,ax]at H |-
  go_simp;exact H.out _ _ C (G_ _ _) ⟨aO,rb,dj,c6,rfl,cD,bG⟩
 exact K6
 .refine jE [(some 7,10),(some 86,9)] ?_;intro vs Q C N3 K H;obtain⟨⟨aX,o,bt,bn⟩,⟨aO,rb,dj,c6,ax,cD,bG⟩, -⟩:=N3;try simp only[b_,o,ax]at H |-
  refine i5 k_ ?_;refine h9 229 rfl aX r_ #[Y 5,.string n,.string jg,Y 0,Y 0,.slice (j_ aO) 2 2,n_,n_] r_ 229 bn rfl k_ (by simp[Value.oneCell']) ?_;intro N0 az G;have aq:aO≠aX:=Bk.mm bG bn I;have dy:=C.g.size;exact H.out undef _ λ_=>⟨aX,aO,rb,o,dj,c6,bt,cD,aq,az,bG.gr G<|zu aq,C.d.ir G p_,C.m.gr G p_,C.r.gr G p_,(C.g.mono s_).trans<|G.mono s_⟩
 intro vs a2 C;simp only[b_];clear hd hm hR aG;obtain⟨R7,x,r,e10,bF,d0,bQ,cp,di,aM,an,hd,hm,hR,G⟩:=C;rw[e10];clear e10;have dR:=du;replace bI:=bI.hJ G p_;clear G;by_cases ca:0<P
 focus
  go_upto_region 13 with fail;have eQ:=aK;clear aK;have aK:∀y∈[g,x],y<x+1:=p_;obtain⟨W,aJ⟩:=nm_ a2;rw[<-aJ]at hd hm hR aM an bI |-;clear aJ;have aG:D4 B g m R0 R7 x #[q_ g,Y left,Y<|loops+1,Y fn] S_ #[Y 5,.string n,.string jg,Y 0,Y 0,.slice (j_ x) 2 2,n_,n_] #[Y 1,Y 0,.string jg,Y 0,n_,Y 1,Y r,.string jg,Y 0,n_] W W.drew:=⟨hd.hF (G_ [] W).drew,hm.hF (G_ [] W).drew,hR.hF (G_ [] W).drew,aM.hF (G_ [] W).drew,an.hF (G_ [] W).drew,(G_ [g] W).drew⟩;have aF:x≠g:=X;have dB:R7≠g:=X;refine ku (D4 B g m R0 R7 x #[q_ g,Y left,Y<|loops+1,Y fn] S_ #[Y 5,.string n,.string jg,Y 0,Y 0,.slice (j_ x) 2 2,n_,n_] #[Y 1,Y 0,.string jg,Y 0,n_,Y 1,Y r,.string jg,Y 0,n_] W) (λ_ N0=>∃r:Int,0<=r/\r<=9/\Bk N0 x 226 #[Y 1,Y 0,.string jg,Y 0,n_,Y 1,Y r,.string jg,Y 0,n_]/\Bk N0 R7 229 #[Y 5,.string n,.string jg,Y 0,Y 0,.slice (j_ x) 2 2,n_,n_]/\iV N0 B g/\Bk N0 m 222 #[q_ g,Y left,Y<|loops+1,Y fn]/\Bk N0 R0 229 S_/\J [g,x] W N0) (J [g,x]) [SU.val _<|.pointer<|some<|Z R7 5,SU.val _<|.slice (j_ x) 2 2,SU.val _<|q_ m,SU.val _<|q_ m,SU.val _<|q_ m,SU.val _<|q_ g,SU.num _ 0 3,SU.pure _ (λj=>∃r:Int,0<=r/\r<=9/\j=.agg #[Y 1,Y r,.string jg,Y 0,n_]),SU.val _<|.pointer<|some<|Z x 5,SU.any _] (SU.any _) [[],[0],[],[2],[3],[4],[5],[6],[1],[8,7]] true [(some 89,0),(some 90,1),(some 91,2),(some 92,3),(some 93,4),(some 94,5),(some 95,6),(some 96,7),(some 97,8),(none,9)] k_ k_ k_ (λ_ _ _ _ _ h=>h) k_ rfl rfl k_ aG ⟨?_,?_,?_,?_,?_,?_,?_,?_,?_,?_,trivial⟩ ?_
  exact L6;refine hU [(some 89,0)] ?_;exact KS;exact L6;refine hU [(some 91,2)] ?_;exact LL;refine hU [(some 92,3)] ?_;exact LL;refine hU [(some 93,4)] ?_;exact KS
  .refine hU [(some 94,5)] ?_;intro vs Q C N3 K H;obtain⟨o, -⟩:=N3;replace o:_=_:=o;try simp only[b_,o]at H |-
   go_simp;go_at_call 19;refine(iD B g _ C.d X X).mono ?_;rintro e w1⟨r,rfl,h0,h1,bg,hg1⟩;exact H.out _ _ (C.step hg1 bg ag z dB aF) (hg1.mono s_) ⟨r,rfl,h0,h1⟩
  refine hU [(some 95,6)] ?_;exact KD;refine hU [(some 90,1)] ?_;exact LL
  .refine jE [(some 97,8),(some 96,7)] ?_;intro vs Q C N3 K H;obtain⟨o,⟨rb,dj,c6,ax⟩, -⟩:=N3;replace o:_=_:=o;try simp only[b_,o,ax]at H |-
   refine i5 k_ ?_;refine jL 226 _ _ rfl x 5 r_ #[Y 1,Y rb,.string jg,Y 0,n_] r_ 226 _ C.x s_ k_ (by simp[Value.oneCell']) ?_;intro N0 az G;exact H.out undef _ λ_=>⟨rb,dj,c6,az,C.s.gr G<|zu di.symm,C.d.ir G p_,C.m.gr G p_,C.r.gr G p_,(C.g.mono s_).trans<|G.mono s_⟩
  intro vs a2 C;simp only[b_];clear hd hm hR aM an aG bF d0;obtain⟨r,bF,d0,an,aM,hd,hm,hR,G⟩:=C;replace bI:=bI.hJ G p_;clear G
 all_goals
  obtain⟨ae,cy⟩:=nm_ a2;rw[<-cy]at hd hm hR aM an bI |-;clear cy;have bO:IntKind.i64.wrap (P+1)=P+1:=G9 _ X
  go_upto_region 15 with(go_at_call 139;refine(bl (P+1) 3 left (loops+1) _ (ov aQ.out) X X hd hm hBm X X X (by push_cast;omega)).mono ?_;rintro e aA⟨A,c,ts,N,l,rfl,dh,co,cu,dY,bC,cx,bP,aW⟩;obtain⟨n0,hn0⟩:=nm_ ts.length;rw[<-hn0];have aZ:=O hn0;rw[<-hn0]at dh;clear hn0;have d7:=(aM.gr aW p_).f_ 6;have dP:=(aM.gr aW p_).hG 6);clear d7 dP bO;have eo:R7<ae.heap.size/\x<ae.heap.size/\R0<ae.heap.size:=⟨aM.lt,an.lt,hR.lt⟩;have ah:J [R7] aA (aA.setCell (Z R7 6)<|.slice A n0 c):=(G_ [R7] aA).setCell (.inl s_) _;have aL:Bk (aA.setCell (Z R7 6)<|.slice A n0 c) R7 229 #[Y 5,.string n,.string jg,Y 0,Y 0,.slice (j_ x) 2 2,.slice A n0 c,n_]:=(aM.gr aW p_).hW 6 _;have am:=co.iF ah p_;have bi:=(an.gr aW p_).gr ah<|zu di;have bW:=bP.ir ah p_;have bZ:=cx.gr ah p_;have aE:=(hR.gr aW p_).gr ah p_;have F:J [g,m] w (aA.setCell (Z R7 6)<|.slice A n0 c):=(bI.trans aW).hJ ah p_;have dQ:ae.heap.size<=(aA.setCell (Z R7 6)<|.slice A n0 c).heap.size:=H_ aW.size ah.size;clear aM an hd hm hR bI co bP cx aW ah;obtain⟨NY,ck⟩:=nm_<|aA.setCell (Z R7 6)<|.slice A n0 c;rw[<-ck]at aL am bi bW bZ aE F dQ |-;clear ck;have bz:ae.heap.size<=NY.heap.size:=dQ
  by_cases dg:k=9
  .have d9:(k==9)=true:=by simp[dg]
   have U:=bZ.f_ 0;go_wp2_with fail;go_at_call 19;refine(iD B g 2 bW X X).mono ?_;rintro e aB⟨q,rfl,ej,ek,bS,aD⟩;clear U bW;have bW:=bS;replace bZ:=bZ.gr aD p_;replace aE:=aE.gr aD p_;replace aL:=aL.gr aD p_;replace bi:=bi.gr aD p_;replace am:=am.iF aD p_;replace F:=F.trans<|aD.mono s_;replace bz:=H_ bz aD.size;clear aD bS;obtain⟨NY,ck⟩:=nm_ aB;rw[<-ck]at bW bZ aE aL bi am F bz |-;clear ck
   by_cases cA:q=0
   .subst cA;go_upto_region 16 with fail;have aq:=aZ.out;subst aq;obtain⟨W,aJ⟩:=nm_ NY;rw[<-aJ]at bW bZ aE aL am F bz |-;clear aJ;have cS:∀y∈[g],y∈(g::oX (Value.slice A ts.length c).ownBlock):=s_
    have eE:∀y∈oX (Value.slice A ts.length c).ownBlock,ae.heap.size<=y:=λy hy=>(kK am.own<|jQ.1 hy).1;have eU:∀y,(Value.slice A ts.length c).ownBlock=some y->y<W.heap.size:=λy hy=>(kK am.own hy).2;have ea:ae.heap.size<=W.heap.size:=bz;have eQ:=aK;clear aK;have aK:∀y∈(g::oX (Value.slice A ts.length c).ownBlock),y<W.heap.size:=Ng;have dB:R7≠g:=X;have hbg:g<ae.heap.size:=X;have aG:Ws B g m R0 R7 ae.heap.size (4-(p+1)) N A c ts #[q_ g,Y l,Y<|loops+1,Y fn] S_ #[Y 5,.string n,.string jg,Y 0,Y 0,.slice (j_ x) 2 2,.slice A ts.length c,n_] W false W.drew:=⟨bW.hF (G_ [] W).drew,bZ.hF (G_ [] W).drew,aE.hF (G_ [] W).drew,aL.hF (G_ [] W).drew,λ_=>am.iF (G_ [] W).drew s_,(G_ (g::oX (Value.slice A ts.length c).ownBlock) W).drew,X,X,X⟩;refine oy (λf=>Ws B g m R0 R7 ae.heap.size (4-(p+1)) N A c ts #[q_ g,Y l,Y<|loops+1,Y fn] S_ #[Y 5,.string n,.string jg,Y 0,Y 0,.slice (j_ x) 2 2,.slice A ts.length c,n_] W<|f 19) (λ_ N0=>∃(t:ST) (K:Nat),Bk N0 R7 229 t.g_/\jR (jK<|R7+1) N0 t/\SG hV (4-p) K t/\(K:Int)<=N+2/\iV N0 B g/\Bk N0 m 222 #[q_ g,Y l,Y<|loops+1,Y fn]/\Bk N0 R0 229 S_/\J (R7::(g::oX (Value.slice A ts.length c).ownBlock)) W N0) (G2 19 [g]<|g::oX (Value.slice A ts.length c).ownBlock) [SU.mH _<|.string n,(SU.tree aK<|0).wj λ_ _ _ h=>h.gr cS,SU.mH _<|q_ m,SU.mH _<|q_ m,SU.mH _<|q_ m,SU.mH _<|q_ g,(SU.num _ 0 4).wj λ_ _ _ h=>h.gr cS,(SU.tree aK<|0).wj λ_ _ _ h=>h.gr cS,(SU.tree aK<|0+1).wj λ_ _ _ h=>h.gr cS,(SU.trees aK 2 1).wj λ_ _ _ h=>h.gr cS,SU.mH _<|.pointer<|some<|Z R7 6,SU.mH _<|.slice A ts.length c,SU.mH _<|.string n,SU.mH _<|.string n,(SU.tree aK<|0).wj λ_ _ _ h=>h.gr cS,(SU.tree aK<|0).wj λ_ _ _ h=>h.gr cS,(SU.tree aK<|0+1).wj λ_ _ _ h=>h.gr cS,(SU.stmt aK (1)<|1).wj λ_ _ _ h=>h.gr cS,(SU.of (λj w=>∃(x:Nat) (t:ST),j=.slice (j_ x) 1 1/\W.heap.size<=x/\Bk w x 229 t.g_/\jR (jK W.heap.size) w t/\SG hV 1 1 t) λ_ _ _ v⟨x,t,h1,L,T,ar,au⟩=>⟨x,t,h1,L,T.gr v (λhm=>by have:=aK x hm;omega),ar.ir v λy hy=>Hx.2<|aK y hy,au⟩).wj λ_ _ _ h=>h.gr cS,SU.AR [19] (λj w=>∃(aw:OA) (ai:Nat) (us:QW) (K:Nat),j=.slice aw us.length ai/\lP hV ae.heap.size (4-(p+1)) K w aw ai us/\K<=N+1) λi hi j w w' v⟨aw,ai,us,K,h1,L,T⟩=>⟨aw,ai,us,K,h1,L.iF (v.ne<|zu hi) p_,T⟩,SU.AR [19] (λj w=>∃(t:ST) (K:Nat),j=.agg t.g_/\jR (jK<|R7+1) w t/\SG hV (4-p) K t/\(K:Int)<=N+2) λi hi j w w' v⟨t,K,h1,L,T,ar⟩=>⟨t,K,h1,L.ir (v.ne<|zu hi) p_,T,ar⟩,SU.anyI _] (SU.anyI _) [[],[0],[],[2],[3],[4],[5],[6],[1,7],[8],[],[10],[],[],[13],[],[14,15],[12,16],[17],[11,18],[9,19],[20]] true [(some 113,0),(some 114,1),(some 115,2),(some 116,3),(some 117,4),(some 118,5),(some 119,6),(some 120,7),(some 121,8),(some 122,9),(some 123,10),(some 124,11),(some 125,12),(some 126,13),(some 127,14),(some 128,15),(some 129,16),(some 130,17),(some 131,18),(some 132,19),(some 133,20),(none,21)] k_ k_ k_ (λ_ _ _ _ _ h=>h) k_ rfl rfl k_ aG ⟨?_,?_,?_,?_,?_,?_,?_,?_,?_,?_,?_,?_,?_,?_,?_,?_,?_,?_,?_,?_,?_,?_,trivial⟩ ?_;exact L3;refine jp [(some 113,0)] ?_;exact Kr;exact L3;refine jp [(some 115,2)] ?_;exact LJ;refine jp [(some 116,3)] ?_;exact LJ;refine jp [(some 117,4)] ?_;exact KN
    .refine jp [(some 118,5)] ?_;intro f vs Q hf C N3 K H;obtain⟨o, -⟩:=N3;replace o:_=_:=o;try simp only[b_,o]at H |-
     go_simp;go_at_call 19;refine(iD B g _ C.d X X).mono ?_;rintro e w1⟨r,rfl,h0,h1,bg,hg1⟩;exact H.out _ _ (C.step hg1 bg ag z dB hbg) hg1 ⟨r,rfl,h0,h1⟩
    refine jp [(some 119,6)] ?_;intro f vs Q hf C N3 K H;exact Ky;refine jp [(some 114,1),(some 120,7)] ?_;intro f vs Q hf C N3 K H;exact Kg;refine jp [(some 121,8)] ?_;exact JR;exact L3;refine jp [(some 123,10)] ?_;exact KN;exact L3;exact L3;refine jp [(some 126,13)] ?_;exact Kr;refine jp [] ?_;intro f vs Q hf C N3 K H;exact KO
    .refine jp [(some 127,14),(some 128,15)] ?_;intro f vs Q hf C N3 K H;obtain⟨⟨ta,o,ap,E⟩,⟨ao,ax,V,d⟩, -⟩:=N3;try simp only[b_,o,ax]at H |-
     go_simp;go_at_call 143;refine(oR W.heap.size 1 ta ao C.hz ap V).mono ?_;rintro e w1⟨A,rfl,N1,hg1⟩;exact H.out _ _ (C.hF hg1) (hg1.mono s_) ⟨qw 1 A ta ao,rfl,N1,.bin 0 _ _ _ _ X X (E.mono X)<|d.mono X⟩
    .refine jp [(some 125,12),(some 129,16)] ?_;intro f vs Q hf C N3 K H;obtain⟨o,⟨ao,ax,V,d⟩, -⟩:=N3;replace o:_=_:=o;try simp only[b_,o,ax]at H |-
     go_simp;go_at_call 142;refine(kW W.heap.size _ _ _ C.hz V).mono ?_;rintro e w1⟨A,rfl,N1,hg1⟩;exact H.out _ _ (C.hF hg1) (hg1.mono s_) ⟨jc _ A _,rfl,N1,SG.leaf (.we _ aN.out) rfl rfl<|by intro u hu;rcases N_.1 hu with rfl|hu;exact d.mono X;cases hu⟩
    refine jp [(some 130,17)] ?_;exact J6;refine jp [(some 124,11),(some 131,18)] ?_;intro f vs Q hf C N3 K H;obtain⟨o,⟨aO,ao,ax,cD,bG,V,d⟩, -⟩:=N3;replace o:_=_:=o;try simp only[b_,o,ax]at H |-
    have co:=C.lf hf;have fb:=C.hz;refine i5 k_ ?_;refine o1 _ _ _ rfl ae.heap.size 229 i1 _ 8 128 underlying211 bR cf cg ct rfl I I A ts.length c (ts.flatMap ST.E) r_ co.own _ 1 1 ([ao].flatMap ST.E) r_ (rT ao bG) (lh) X X ?_;intro aw ai bA cq bp bJ;have df:=co.add (us:=[ao]) cq bp bJ (λu hu=>by have:u=ao:=(zu hu);subst this;exact V.imp λy hy=>⟨by have:W.heap.size<=y:=hy;omega,λhe=>by have h1:=eU y he;have:W.heap.size<=y:=hy;omega⟩)<|d.mono X;exact H.out (.slice aw (ts.length+1) ai) _ (C.app (J.i6 bp) eE X) ((J.i6 bp).mono<|by intro y hy;simp[hy]) ⟨aw,ai,ts++[ao],N+1,s_,by simpa using df,I_ _⟩
    .refine jp [(some 122,9),(some 132,19)] ?_;intro f vs Q hf C N3 K H;obtain⟨⟨aX,ta,o,cJ,bt,bn,c8⟩,⟨dx,cb,ao,eN,ax,dS,nb⟩, -⟩:=N3;try simp only[b_,o,ax]at H |-
     go_simp;refine H.out _ _ C (G_ _ _) ⟨(ST.mk 6 jg jg 0 0 (j_ aX) 1 ta dx cb ao none 0 []),1+eN,?_,?_,?_,by push_cast;omega⟩;show Value.agg _=Value.agg (ST.mk 6 jg jg 0 0 (j_ aX) 1 ta dx cb ao none 0 []).g_;simp only[ST.iu,cJ];rfl;have gi:=ea;exact jR.node _ _ _ _ _ _ _ _ (by rw[cJ];exact bn) (by rw[cJ];exact I_ _) (λy off h=>by injection h with h;injection h with h;omega) (λu hu=>(c8 u hu).1.le X) (dS.le X)<|lP.nil _ _ _ _;have hD:4-p=(4-(p+1))+1:=X;rw[hD];exact SG.loop (t:=(ST.mk 6 jg jg 0 0 (j_ aX) 1 ta dx cb ao none 0 [])) (by show nh _ 6 jg jg 0 0 ta.length true false;rw[cJ];exact .FH) rfl (λu hu=>(c8 u hu).2) dS.sg
    .refine wM [(some 133,20)] ?_;intro f vs Q hf C N3 K H;obtain⟨⟨ta,ev,o,ap,E,aY⟩, -⟩:=N3;try simp only[b_,o]at H |-
     refine i5 k_ ?_;refine h9 229 rfl R7 r_ ta.g_ r_ 229 C.s rfl k_ (ST.one _) ?_;intro N0 az G;exact H.out undef _ λ_=>⟨ta,ev,az,ap.ir G s_,E,aY,C.d.ir G p_,C.m.gr G p_,C.r.gr G p_,(C.g.mono<|by intro y hy;simp[hy]).trans<|G.mono s_⟩
    intro f vs a2 hf C;simp only[b_];clear bW bZ aE aL am aG;obtain⟨t,K,S,N1,aj,cM,bW,bZ,aE,G⟩:=C;have dV:(K:Int)+2*l<=2+2*left:=X;replace N1:=N1.le (show R0+1<=R7+1 by omega);replace F:=F.hJ G (by
     intro y hy;rcases N_.1 hy with rfl|hy
     right;omega;rcases N_.1 hy with rfl|hy
     .left;simp
     right;have:=eE y hy;omega)
    clear G;obtain⟨NY,ck⟩:=nm_ a2;rw[<-ck]at S N1 bW bZ aE F |-;clear ck;exact Jy
   have em:(q==0)=false:=by simp[cA]
   exact Jo
  have d9:(k==9)=false:=by simp[dg]
  exact Jo
def stmt_3(B g m:Nat)(fn:Int):F3 3 B g m fn:=by
 intro x left loops w hP d a hBm hl0 hl1 hq0 hq1;have d8:3<=x:=X;clear hP;obtain⟨p,n⟩:=nm_ 3;rw[<-n];have s:=n;clear n;have aV:=d.yw;have L:=a.lt;go_enter func176,ntmps176;go_upto_region 1 with fail;have l:J [] w (w.alloc<|.cells S_ 229):=(G_ [] w).alloc _;replace d:=d.hF l;replace a:=a.hF l;have f:=T_ w 229 S_;have h:J [g] w (w.alloc<|.cells S_ 229):=(G_ [g] w).alloc _;clear l;obtain⟨bw,u⟩:=nm_<|w.alloc<|.cells S_ 229;rw[<-u]at d a f h |-;clear u;obtain⟨R0,v⟩:=nm_ w.heap.size;rw[<-v]at f |-;have du:w.heap.size<=R0:=X;have cV:g<R0:=X;have ad:B<=R0:=X;have cW:m<R0:=ov L;clear v;have I:∀Z∈[g,R0],Z<R0+1:=p_;have ag:m≠g:=X;have z:R0≠g:=X;have y:=a.f_ 0;have T:=O s;clear s
 go_upto_region 2 with(go_at_call 19;refine(iD B g 10 d X X).mono ?_;rintro e w1⟨k,rfl,ce,bY,P,j⟩);clear y;replace a:=a.gr j p_;replace f:=f.gr j p_;replace h:=h.trans j;replace d:=P;clear j;go_upto_region 3 with fail;obtain⟨W,r⟩:=nm_ w1;rw[<-r]at d a f h |-;clear r;have F:Ex B g m R0 229 #[q_ g,Y left,Y loops,Y fn] S_ W W:=⟨d,a,f,G_ [g] W⟩;refine iU (Ex B g m R0 229 #[q_ g,Y left,Y loops,Y fn] S_ W) (λ_ N0=>∃t,Bk N0 R0 229 t.g_/\jR (jK<|R0+1) N0 t/\SG hV 1 1 t/\iV N0 B g/\J [g,R0] W N0) (J [g,R0]) [SU.val _<|q_ m,SU.stmt I (1)<|1,SU.any _] (SU.any _) [[],[0],[1]] true [(some 26,0),(some 27,1),(none,2)] k_ k_ (λ_ _ _ _ _ U=>U) k_ rfl rfl k_ F ⟨?_,?_,?_,trivial⟩ ?_
 exact L6;exact Ke
 .exact Kf
 intro vs a2 C;simp only[b_];obtain⟨t,az,N1,aj,S,G⟩:=C;go_wp2;exact rr_ t.g_ az underlying229 ⟨t,1,left,rfl,N1.le X,l8.mono aj<|ov T.out,hl0,Hl _,X,a.gr G p_,S,(h.hJ G p_).mono s_⟩
def t7(B g m:Nat)(a:Int):FR 0 B g m a/\FR 1 B g m a:=by
 have h:=stmt_3 B g m a;have f:=tb 3 X B g m a h;have e:=vM 2 X B g m a f;have j:=tb 2 X B g m a e;have n:=vM 1 X B g m a j;have d:=tb 1 X B g m a n;have l:=vM 0 X B g m a d;exact⟨tb 0 X B g m a l,d⟩
def tR{w:World}{g base:Nat}{t:TypeId}{cs:Array Value}{n s:Nat}(h:Bk w g t cs)(a:cs.size=n*s)(d:base<=g)(e:n<=maxLen):w.ownsRow base t s (.slice (j_ g) n n) n cs.toList:=
 ⟨by simpa using a,.inr ⟨g,n,cs,rfl,d,h,I_ _,e,a,by rw[GY p_]⟩⟩
def tG{l:QU}:∀u∈l.map Value.string,u.oneCell'=true:=by
 intro u a;obtain⟨d,_,rfl⟩:=GJ.1 a;rfl
def D9(k:Nat)(a:k<8):∃s,s∈hV/\hV[k]?=some s/\hV.take (k+1)=hV.take k++[s]:=by
 match k,a with
 |0,_=>exact⟨w6,by simp[hV],rfl,rfl⟩
 |1,_=>exact⟨vW,by simp[hV],rfl,rfl⟩
 |2,_=>exact⟨wl,by simp[hV],rfl,rfl⟩
 |3,_=>exact⟨py,by simp[hV],rfl,rfl⟩
 |4,_=>exact⟨nj,by simp[hV],rfl,rfl⟩
 |5,_=>exact⟨oY,by simp[hV],rfl,rfl⟩
 |6,_=>exact⟨yt,by simp[hV],rfl,rfl⟩
 |7,_=>exact⟨yr,by simp[hV],rfl,rfl⟩
def FC(cz D N:Nat)(ls:QW)(w:World)(e:Ending)(w':World):Prop:=
 ∃(A:OA) (c:Nat) (ss:QW),e=.returned (.slice A (ss++ls).length c)/\lP hV cz (D+1) (8+N) w' A c (ss++ls)/\ss.map ST.name=hV/\(∀s∈ss,s.h7=1)/\J [] w w'/\w.heap.size<=w'.heap.size/\(∀x,(Value.slice A (ss++ls).length c).ownBlock=some x->w.heap.size<=x)
def vu(E D N:Nat)(A:OA)(n c:Nat)(r:QW)(Z:OA)(cm:Nat)(W:TypeId){w:World}(hn:r.length=n)(hl:Sl w 229 8 A n<|r.flatMap ST.E)(aH:n<=1000)(B:∀u∈r,jR (jK E) w u)(bW:l8 hV (D+1) N r)(H:E<=w.heap.size)
 (hm:Sl w W 1 Z 3<|[oY,yt,yr].map Value.string):
 Calls prog 141 #[.slice A n c,.slice Z 3 cm] w (FC E D N r w):=by
 obtain⟨i1,bR,cf,cg,ct⟩:=info_parts infoSt;obtain⟨i2,ad,cp,ck,cv⟩:=info_parts infoStr;obtain⟨i,ai⟩:=nm_<|FC E D N r w;rw[<-ai];have ax:=O ai;have aZ:=O hn;obtain⟨h,b9⟩:=nm_ w.heap.size;have ak:h<=w.heap.size:=X;have bD:w.heap.size<=h:=X;have cr:E<=h:=X;go_enter func141,ntmps141;go_wp2_with (first|(go_at_call 177;refine(l0).mono ?_;rintro al w1⟨rfl,rfl⟩)|(at_builtin;refine kf rfl rfl h 9 i2 1 16 underlying207 ad cp ck cv rfl I I (j_ w.heap.size) 5 5 _ rfl (tR (n:=5) (s:=1) (T_ w 9 mj) rfl ak I) Z 3 cm _ rfl (hm.alloc _) (tG) X p_ ?_;intro bY cM w2 cq bE dZ));have bI:=((G_ [] w).alloc _).hJ (J.i6 bE) (λe a=>by have:=jQ.1 a;simp[Value.ownBlock]at this;right;omega);have a2:Sl w2 9 1 bY 8 (hV.map Value.string):=Sl.iZ cq;go_loopw [5,12] (λov T w'=>∃(k:Nat) (l:OA) (g:Nat) (d:QW),k<=8/\T=Y k/\d.length=k/\ov=.slice l d.length g/\lP hV h (D+1) k w' l g d/\d.map ST.name=hV.take k/\(∀s∈d,s.h7=1)/\J [] w w'/\Sl w' 9 1 bY 8 (hV.map Value.string)/\w2.heap.size<=w'.heap.size) (λ_ T _=>8-(intOf T).toNat)
 case atStart=>exact⟨0,none,0,[],X,rfl,rfl,rfl,lP.nil _ _ _ _,rfl,(by intro s hs;cases hs),bI,a2,I_ _⟩
 obtain⟨k,l,g,d,hk,rfl,aF,rfl,S,d7,an,o,ao,V⟩:=hrel;have bO:=O aF;have eZ:=O d7;have C:=S.own;rw[aF]at C |-
 by_cases ag:k<8
 .obtain⟨s,hs,aq,aT⟩:=D9 k ag;have bi:=O aT;obtain⟨b,off,au,av⟩:=ao.f_ X;subst au;have af:=av k (.string s) (by rw[Hg,aq];rfl);go_wp2_with (first|(go_at_call 144;refine(ki 0).mono ?_;rintro al L⟨rfl,t⟩)|(go_at_call 142;refine(kW L.heap.size s (jF 0) L (I_ _)<|kB.leaf _ _ _ _ _ _).mono ?_;rintro al v⟨As,rfl,N1,x⟩;have aw:=iO (iO (iO C t) x)<|(G_ [] v).alloc<|.cells (jc s As<|jF 0).g_ 229;have hbs:h<=(v.alloc<|.cells (jc s As<|jF 0).g_ 229).heap.size:=(by have:=t.size;have:=x.size;have:=o.size;simp;omega);simp only[jc,ST.iu])|(at_builtin;refine kf rfl rfl h 229 i1 8 128 underlying211 bR cf cg ct rfl I I l k g (d.flatMap ST.E) rfl aw _ 1 1 ([jc s As<|jF 0].flatMap ST.E) rfl (rT (jc s As<|jF 0)<|T_ v 229 _) (lh) X hbs ?_;intro F Q NY P y U));go_roundw
  case rel=>
   have j:=bO.out;subst j;have e5:lP hV h (D+1) d.length (v.alloc<|.cells (jc s As<|jF 0).g_ 229) l g d:=((S.iF t s_).iF x s_).iF ((G_ [] v).alloc _) s_;have M:jR (Ah h (Value.slice l d.length g).ownBlock) (v.alloc<|.cells (jc s As<|jF 0).g_ 229) (jc s As<|jF 0):=by
    have h3:=t.size;have ar:=o.size;refine(N1.imp λe a=>⟨?_,λhe=>?_⟩).hF<|(G_ [] v).alloc _;have:L.heap.size<=e:=a;omega;have h1:=(kK C he).2;have:L.heap.size<=e:=a;omega
   have p:l8 hV (D+1) 1 [jc s As<|jF 0]:=SG.leaf (.we _ hs) rfl rfl (by intro u f;rcases N_.1 f with rfl|f;exact .num _ _ X X;cases f);have df:=e5.add (us:=[jc s As<|jF 0]) P y U (λu f=>by have:u=jc s As (jF 0):=(zu f);subst this;exact M) p;have z:=J.i6 y;have ay:=(((o.trans t).trans x).alloc _).hJ z (λe a=>by have:=(kK C<|jQ.1 a).1;right;omega);refine⟨d.length+1,F,Q,d++[jc s As<|jF 0],X,gn,s_,s_,by simpa using df,by rw[GN,eZ.out,bi.out];rfl,?_,ay,?_,?_⟩;intro u f;rcases X_.1 f with f|f
   exact an u f;have:u=jc s As (jF 0):=(zu f);subst this;rfl;exact(App.i6 aw y).sl (((ao.hF t).hF x).alloc _) I;have:=t.size;have:=x.size;have:=z.size;simp at this;omega
  case measure=>exact mz
 have v:k=8:=X;subst v;go_wp2_with (at_builtin;refine kf rfl rfl h 229 i1 8 128 underlying211 bR cf cg ct rfl I I l 8 g (d.flatMap ST.E) rfl C A n c (r.flatMap ST.E) rfl (hl.hF o) (lh) X (ov o.size) ?_;intro F Q NY P y U);have j:=bO.out;have t:=aZ.out;subst t;rw[ax.out];have z:=J.i6 y;have mI:∀e∈oX (Value.slice l d.length g).ownBlock,h<=e:=λe a=>(kK S.own<|jQ.1 a).1;have m:∀e∈oX (Value.slice l 8 g).ownBlock,h<=e:=by rw[<-j];exact mI
 have df:=(S.le cr).add (K:=N) (us:=r) (c':=Q) (A':=F) (by rw[j];exact oL P cr) (by rw[j];exact y) (by rw[j];exact U) (λu f=>((B u f).lt.imp λe a=>⟨a.1,λhe=>by have:=mI e<|jQ.2 he;have:=a.2;omega⟩).hF o) bW;refine⟨F,Q,d,by rw[M_,j];rfl,?_,by rw[eZ.out];rfl,an,o.hJ z (λe a=>by have:=m e a;right;omega),?_,?_⟩;simpa[j]using df;exact H_ o.size z.size;intro e a;rw[M_,j]at a;have:=kK P a;omega
end
section
variable{G:Prop}{t:TypeId}{x:ByteArray}{D N R lo:Nat}{cs:Array Value}{p:Nat->Prop}{u:ST}{V:QU}{ts:QW}{aB:World}{aL:OA}
def JC(h:G:=by
 intro f vs Q hf C N3 K H;obtain⟨⟨aX,ta,o,cJ,bt,bn,c8⟩, -⟩:=N3;try simp only[b_,o]at H |-
 go_simp;have aH:ta.length=_:=cJ;have bi:Sl Q 226 5 (j_ aX) ta.length (ta.flatMap ET.E):=by rw[aH];exact bn
 have hcl:(lW 7 jg jg 0 0 (j_ aX) ta.length ta).g_=_:=rfl;simp only[ST.iu,lW,aH]at hcl;refine H.out _ _ C (G_ _ _) ⟨lW 7 jg jg 0 0 (j_ aX) ta.length ta,?_,jR.es _ _ _ _ _ bi bt λu hu=>(c8 u hu).1,SG.leaf (t:=lW 7 jg jg 0 0 (j_ aX) ta.length ta) (by show nh _ 7 jg jg 0 0 ta.length _ _;rw[aH];exact .ret) rfl rfl λu hu=>(c8 u hu).2⟩;show Value.agg _=Value.agg (lW 7 jg jg 0 0 (j_ aX) ta.length ta).g_;exact NT):G:=h
def Ku(h:G:=by
 refine hU [] ?_;intro vs Q C N3 K H;clear N3;try simp only[b_]at H |-
 go_simp;go_at_call 145;refine(kk _).mono ?_;rintro e w1⟨rfl,hg1⟩;exact H.out _ _ (C.hF hg1) (hg1.mono s_) ⟨jG Dh,rfl,kB.leaf _ _ _ _ _ _,.var _ _<|by simp[iq]⟩):G:=h
def KM(h:G:=by
 refine jX [] ?_;intro f vs Q hf hp C N3 K H;clear N3;try simp only[b_]at H |-
 go_simp;go_at_call 144;refine(ki 0).mono ?_;exact Nb):G:=h
def KU(h:G:=by
 refine jX [] ?_;intro f vs Q hf hp C N3 K H;clear N3;try simp only[b_]at H |-
 go_simp;exact H.out _ _ (C.sS I<|(G_ [] _).alloc _) (G8.jS I<|(G_ [] _).alloc _) ⟨_,rfl,C.hz,T_ _ _ _⟩):G:=h
def Lr(h:G:=by
 refine jX [] ?_;intro f vs Q hf hp C N3 K H;clear N3;try simp only[b_]at H |-
 exact No):G:=h
def Mq(h:G:=by
 rintro e w1⟨t,rfl,N1,aj,bg,hg1⟩;exact H.out _ _ (C.step hg1 bg) hg1 ⟨t,rfl,N1.le C.hz,aj⟩):G:=h
def M0(h:G:=by
 intro a b;obtain⟨x,A,h1,h2,h3⟩:=h.h2 a b;exact⟨x,A,h1,h2,h3.iF hg s_⟩):G:=h
def Nb(h:G:=by
 rintro e w1⟨rfl,hg1⟩;exact H.out _ _ (C.sS I hg1) (G8.jS I hg1) rfl):G:=h
def No(h:G:=by
 go_simp;exact H.out _ _ (C.add I<|G_ [] _) (AX.of I<|G_ [] _) rfl):G:=h
structure Ps(B g q:Nat)(fn hi:Int)(M:QY)(F L:World->Prop)(W:World)(b:Bool)(w:World):Prop where
 d:iV w B g
 lf:Lf g q 0 fn hi w
 f:F w
 l:b=false->L w
 gr:J M W w
 sF:∀a b,J M a b->F a->F b
 sL:∀a b,J [g] a b->L a->L b
 gM:g∈M
 qg:q≠g
section
variable{B g q:Nat}{fn hi:Int}{M:QY}{F L:World->Prop}{W w w':World}{b:Bool}
def Ps.hz(h:Ps B g q fn hi M F L W b w):W.heap.size<=w.heap.size:=h.gr.size
def Ps.step(h:Ps B g q fn hi M F L W b w)(a:J [g] w w')(e:iV w' B g):Ps B g q fn hi M F L W b w':=
 have c:J M w w':=a.mono (by intro x j;have:x=g:=(zu j);subst this;exact h.gM)
 ⟨e,h.lf.gr a<|zu h.qg,h.sF _ _ c h.f,λd=>h.sL _ _ a<|h.l d,h.gr.trans c,h.sF,h.sL,h.gM,h.qg⟩
def Ps.hF(h:Ps B g q fn hi M F L W b w)(a:J [] w w'):Ps B g q fn hi M F L W b w':=h.step (a.mono s_)<|h.d.hF a
def Ps.app{c:Option Nat}(h:Ps B g q fn hi M F L W b w)(a:J (oX c) w w')(d:∀y∈oX c,B<=y/\q≠y)(z:∀y∈oX c,y∈M):Ps B g q fn hi M F L W true w':=
 ⟨h.d.ir a λx k=>(d x k).1,h.lf.gr a λj=>(d _ j).2 rfl,h.sF _ _ (a.mono z) h.f,(λe=>by cases e),h.gr.trans<|a.mono z,h.sF,h.sL,h.gM,h.qg⟩
end
def iq:List ByteArray:=Dh::hV
def Sl.AS{w:World}{e:TypeId}{s x r n:Nat}{y:QX}(h:Sl w e s (some<|Z x r) n y)(o:0<n)(k:Bk w R t cs)(d:e≠t):x≠R:=by
 intro l;subst l;obtain⟨b,C,z,A,a,j,_⟩:=h.2 o;injection a with a;injection a with a;subst a;have c:w.heap[x]?=_:=k;rw[j]at c;simp at c;exact d c.2.1
def kB.AS{w:World}{u:ET}(h:kB p w u)(k:Bk w R t cs)(e:226≠t):kB (λx=>p x/\x≠R) w u:=by
 induction h with
 |mk u h l j _ d=>exact .mk u h l (λx n a c=>⟨j x n a c,by rw[a]at h;exact h.AS c k e⟩) d
def jR.AS{w:World}(h:jR p w u)(k:Bk w R t cs)(o:226≠t)(n:229≠t):jR (λx=>p x/\x≠R) w u:=by
 induction h with
 |mk u j C y H e A J _ l E z _ r s=>
  exact .mk u j C (λx d a c=>⟨y x d a c,by rw[a]at j;exact j.AS c k o⟩) (λv I=>(H v I).AS k o) e A (λx d a c=>⟨J x d a c,by rw[a]at e;exact e.AS c k n⟩) r l E (λx d a c=>⟨z x d a c,by rw[a]at l;exact l.AS c k n⟩) s
def jR.Gx{w:World}(h:jR p w u)(n:u.bs=[])(o:u.ls=[])(k:Bk w R t cs)(l:226≠t):jR (λx=>p x/\x≠R) w u:=by
 cases h with
 |mk u e y r A C s K I E z H J=>
  exact .mk u e y (λx j d a=>⟨r x j d a,by rw[d]at e;exact e.AS a k l⟩) (λv c=>(A v c).AS k l) C s (λx j d a=>by rw[n]at a;cases a) (λv c=>by rw[n]at c;cases c) E z (λx j d a=>by rw[o]at a;cases a) (λv c=>by rw[o]at c;cases c)
def SU.tD{M:QY}{lo:Nat}(V:QU)(z:∀y∈M,y<lo)(d:Nat):SU (λ_=>J M):=
 SU.of (λv w=>∃t:ET,v=.agg t.g_/\kB (jK lo) w t/\EG V d t) λ_ _ _ hg⟨t,h1,h2,h3⟩=>⟨t,h1,h2.ir hg λx hx=>Hx.2<|z x hx,h3⟩
def SU.Bg{M:QY}{lo:Nat}(V:QU)(z:∀y∈M,y<lo)(d n:Nat):SU (λ_=>J M):=
 SU.of (λv w=>∃(x:Nat) (ts:QF),v=.slice (j_ x) n n/\ts.length=n/\lo<=x/\Sl w 226 5 (j_ x) n (ts.flatMap ET.E)/\∀t∈ts,kB (jK lo) w t/\EG V d t)
  (λ_ _ _ hg⟨x,ts,h1,h2,h3,ar,au⟩=>⟨x,ts,h1,h2,h3,ar.iF λy off hA hx=>hg.block y hx (λhm=>by injection hA with hA;injection hA with hA;have:=z y hm;omega),λt ht=>⟨(au t ht).1.ir hg λx hx=>Hx.2<|z x hx,(au t ht).2⟩⟩)
def Ga(us:QW):Prop:=∃(cn:QW) (ej:ST),us=cn++[ej]/\cn.map ST.name=[w6,vW,wl,nj,oY,yt,yr]/\∀s∈cn,s.h7=1
def G8(g m HA:Nat)(i:Nat)(a b:World):Prop:=if i=19 then(∃M,J M a b/\∀x∈M,HA<=x/\∀t cs,Bk a x t cs->t=229) else J (if i=18 then[g,m] else[g]) a b
def G8.of{g m HA i:Nat}{a b:World}(hi:i≠19)(h:J [g] a b):G8 g m HA i a b:=by
 unfold G8;rw[K_ hi];split;exact h.mono s_;exact h
def G8.jS{g m HA i:Nat}{a b:World}(hi:i≠19)(h:J [] a b):G8 g m HA i a b:=G8.of hi<|h.mono s_
def G8.gr{g m HA i:Nat}{a b:World}(h:G8 g m HA i a b)(hi:i∉[19]):J [g,m] a b:=by
 unfold G8 at h;rw[K_<|zu hi]at h;split at h;exact h;exact h.mono s_
def G8.bk{g m HA i x:Nat}{a b:World}(h:G8 g m HA i a b)(k:Bk a x t cs)(l:t≠229)(e:x≠g)(j:x≠m):Bk b x t cs:=by
 by_cases hi:i=19;unfold G8 at h;rw[L_ hi]at h;obtain⟨M,c,d⟩:=h;exact k.gr c λn=>l<|(d x n).2 t cs k;exact k.gr (h.gr<|zu hi) (by simp;exact⟨e,j⟩)
def FQ(b1 HA:Nat)(v:Value)(w:World):Prop:=∃(x:Nat) (us:QW),v=.slice (j_ x) 8 8/\us.length=8/\Ga us/\lP iq b1 5 9 w (j_ x) 8 us/\HA<=x
def FP(b1 HA:Nat)(v:Value)(w:World):Prop:=∃(A:OA) (c:Nat) (ts:QW) (N:Nat),v=.slice A ts.length c/\ts.length<=3/\N<=6/\lP hV b1 3 N w A c ts
def J8(b1 HA:Nat)(a d:Value)(w:World):Prop:=∃(x:Nat) (us:QW) (A:OA) (c:Nat) (ts:QW) (N:Nat),a=.slice (j_ x) 8 8/\us.length=8/\Ga us/\lP iq b1 5 9 w (j_ x) 8 us/\HA<=x/\
 d=.slice A ts.length c/\ts.length<=3/\N<=6/\lP hV b1 3 N w A c ts/\∀u∈ts,jR (λy=>b1<=y/\y≠x) w u
def FQ.iF{b1 HA:Nat}{v:Value}{w w':World}{M:QY}(h:FQ b1 HA v w)(k:J M w w')(z:∀x∈M,x<b1):FQ b1 HA v w':=by
 obtain⟨x,l,d,e,j,a,c⟩:=h;exact⟨x,l,d,e,j,a.iF k z,c⟩
def FP.iF{b1 HA:Nat}{v:Value}{w w':World}{M:QY}(h:FP b1 HA v w)(l:J M w w')(z:∀x∈M,x<b1):FP b1 HA v w':=by
 obtain⟨a,d,ts,N,e,j,k,c⟩:=h;exact⟨a,d,ts,N,e,j,k,c.iF l z⟩
def J8.iF{b1 HA:Nat}{v v':Value}{w w':World}{M:QY}(h:J8 b1 HA v v' w)(a:J M w w')(z:∀x∈M,x<b1):J8 b1 HA v v' w':=by
 obtain⟨x,I,c,o,ts,N,r,y,A,j,k,e,l,n,d,s⟩:=h;exact⟨x,I,c,o,ts,N,r,y,A,j.iF a z,k,e,l,n,d.iF a z,λu E=>(s u E).ir a λK H C=>by have:=z K H;have:=C.1;omega⟩
def lP.bd{b c:Nat}{w:World}{A:OA}(h:lP V b D N w A c ts){x:Nat}(e:w.heap.size<=x):∀u∈ts,jR (λy=>b<=y/\y≠x) w u:=λu d=>((h.ju u d).lt).imp λy a=>⟨a.1.1,by have:=a.2;omega⟩
def w5:ByteArray:={data:=#[109,97,105,110]}
structure AY(lo hi:Nat)(w:World)(AP:OA)(cP:Nat)(ps:QU)(A:OA)(c:Nat)(bs:QW):Prop where
 hp:Sl w 9 1 AP ps.length<|ps.map Value.string
 wm:ps.length<=cP
 Dq:∀x off,AP=some (Z x off)->0<ps.length->lo<=x/\x<hi
 hb:Sl w 229 8 A bs.length<|bs.flatMap ST.E
 Du:bs.length<=c
 oF:∀x off,A=some (Z x off)->0<bs.length->lo<=x/\x<hi
 hs:∀t∈bs,jR (λx=>lo<=x/\x<hi) w t
def AY.iF{hi r c:Nat}{w w':World}{n A:OA}{ps:QU}{o:QW}{M:QY}(h:AY lo hi w n r ps A c o)(e:J M w w')(z:∀x∈M,x<lo\/hi<=x):AY lo hi w' n r ps A c o:=
 ⟨h.hp.sH λk x l d a=>e.block x a (λj=>by have:=z x j;have:=h.Dq x l d k;omega),h.wm,h.Dq,
   h.hb.sH λk x l d a=>e.block x a (λj=>by have:=z x j;have:=h.oF x l d k;omega),h.Du,h.oF,λt s=>(h.hs t s).ir e λx a y=>by have:=z x a;omega⟩
def lP.fin{c hi:Nat}{w:World}{A:OA}(h:lP V lo D N w A c ts)(j:w.heap.size<=hi):AY lo hi w none 0 [] A c ts:=
 ⟨HB _ _ _ _,I_ _,(λ_ _ h _=>by cases h),h.sl,jq h.own,λx k d _=>by subst d;have:=kK h.own (x:=x) rfl;omega,λt e=>((h.ju t e).lt).imp λx a=>⟨a.1.1,ov a.2⟩⟩
def AY.DM{hi c d:Nat}{w:World}{A a:OA}{ps:QU}(h:AY lo hi w none 0 [] A c ts)(j:Sl w 9 1 a ps.length<|ps.map Value.string)(hc:ps.length<=d)(e:∀x k,a=some (Z x k)->0<ps.length->lo<=x/\x<hi):AY lo hi w a d ps A c ts:=
 ⟨j,hc,e,h.hb,h.Du,h.oF,h.hs⟩
def BZ{b1 R0 h c j:Nat}{T a:World}{A As:OA}(z:jR (jK T.heap.size) a<|jc py As<|eNew 3)(l:J [] T a)(o:lP hV b1 4 N T A c ts)(H:h=ts.length)(y:aB.ownsRow a.heap.size 229 8 (.slice aL (1+h) j) (1+h)<|(jc py As<|eNew 3).g_.toList++ts.flatMap ST.E)(E:(a.alloc<|.cells (jc py As<|eNew 3).g_ 229).grownBy aB (Value.slice (j_ a.heap.size) 1 1).ownBlock)(C:(Value.slice aL (1+h) j).ownBlock=(Value.slice (j_ a.heap.size) 1 1).ownBlock\/(Value.slice aL (1+h) j).ownBlock=some (a.alloc<|.cells (jc py As<|eNew 3).g_ 229).heap.size)(P:R0<=b1)(O:R0<=T.heap.size):
 lP hV R0 5 (1+N) aB aL j ([jc py As<|eNew 3]++ts):=by
 subst H;have K:=l.size;have r:lP hV R0 5 1 (a.alloc<|.cells (jc py As<|eNew 3).g_ 229) (j_ a.heap.size) 1 [jc py As<|eNew 3]:=by
  refine⟨oL (tR (n:=1) (s:=8) (T_ a 229 (jc py As<|eNew 3).g_) rfl (I_ _) I) X,?_,SG.leaf (.we _ (show py∈hV by simp[hV])) rfl rfl<|by intro u d;rcases N_.1 d with rfl|d;exact .new _ _ X X;cases d⟩;intro u d;have:u=jc py As (eNew 3):=zu d;subst this;exact(z.lt.imp λx e=>⟨by have:T.heap.size<=x:=e.1;omega,λk=>by have:=e.2;simp[Value.ownBlock]at k;omega⟩).hF<|(G_ [] a).alloc _
 exact r.add (us:=ts) (oL y X) E C (λu d=>(((o.ju u d).lt.imp λx e=>⟨ov e.1.1,λk=>by have:=e.2;simp[Value.ownBlock]at k;omega⟩).hF l).hF<|(G_ [] a).alloc _)<|o.sg.mono X
def Dk{b a c:Nat}{s:ST}(h:lP V b D N aB aL c<|[s]++ts)(d:a=ts.length):Sl aB 229 8 aL (1+a) (([s]++ts).flatMap ST.E):=by
 subst d;have:=h.sl;rw[M_]at this;exact this
def CJ(bs:QW):Prop:=∃(ss ls:QW) (N:Nat),bs=ss++ls/\ss.map ST.name=hV/\(∀s∈ss,s.h7=1)/\l8 hV 5 N bs/\N<=28/\bs.length<=30
def mW(lo hi RM:Nat)(w:World):Prop:=∃(A:OA) (c:Nat) (bs:QW),Bk w RM 213 #[.string w5,n_,.slice A bs.length c]/\AY lo hi w none 0 [] A c bs/\CJ bs/\lo<=RM/\RM<hi
def mW.iF{hi RM:Nat}{w w':World}{M:QY}(h:mW lo hi RM w)(a:J M w w')(z:∀x∈M,x<lo\/hi<=x):mW lo hi RM w':=by
 obtain⟨c,k,j,l,n,o,d,e⟩:=h;exact⟨c,k,j,l.gr a (λr=>by have:=z RM r;omega),n.iF a z,o,d,e⟩
def FG(us:QW):Prop:=∃(cn:QW) (ej:ST) (ls:QW),us=cn++(ej::ls)/\cn.map ST.name=[w6,vW,wl,nj,oY,yt,yr]/\∀s∈cn,s.h7=1
def Cz(HA:Nat)(x:ByteArray)(v:Value)(w:World):Prop:=∃(A:OA) (a:ET),v=.agg (jc x A a).g_/\jR (jK HA) w (jc x A a)/\SG iq 1 1 (jc x A a)
def m9:List (Nat × ByteArray):=[(2,w6),(4,vW),(6,wl),(8,nj),(10,oY),(12,yt),(14,yr)]
def Cz.iF{HA:Nat}{v:Value}{w w':World}{M:QY}(h:Cz HA x v w)(k:J M w w')(z:∀y∈M,y<HA):Cz HA x v w':=by
 obtain⟨a,c,d,e,j⟩:=h;exact⟨a,c,d,e.ir k λy l=>Hx.2<|z y l,j⟩
structure ti(B g m R0 b1 H9 RM RA HA:Nat)(tA:ST)(W:World)(f:Nat->Bool)(vs:Nat->Value)(w:World):Prop where
 d:iV w B g
 lf:Lf g m 0 1 3 w
 r:Bk w R0 150 #[n_]
 mo:mW b1 H9 RM w
 a:Bk w RA 229 tA.g_
 ta:jR (λx=>b1<=x/\x<HA) w tA
 pf:f 19=false->∀i x,(i,x)∈m9->f i=true->Cz HA x (vs i) w
 Dw:f 16=true->f 18=false->FQ b1 HA (vs 16) w
 Dv:f 18=true->f 16=false->FP b1 HA (vs 18) w
 hj:f 16=true->f 18=true->f 19=false->J8 b1 HA (vs 16) (vs 18) w
 FJ:f 19=true->f 16=true
 gr:J [g,m] W w
 o:g<B/\B<=m/\R0<m/\g<R0/\m<b1/\b1<=HA/\H9<=HA/\RA<HA/\b1<=RA/\W.heap.size=HA
def s6{i:Nat}(h:(i,x)∈m9):i∈[2,4,6,8,10,12,14]:=by
 simp[m9]at h;simp;omega
section
variable{B g m R0 b1 H9 RM RA HA:Nat}{tA:ST}{W w w':World}{f:Nat->Bool}{vs:Nat->Value}{v:Value}{i:Nat}
def ti.hz(h:ti B g m R0 b1 H9 RM RA HA tA W f vs w):HA<=w.heap.size:=by have:=h.gr.size;have:=h.o;omega
def ti.base(h:ti B g m R0 b1 H9 RM RA HA tA W f vs w){M:QY}(c:J M w w')(z:∀x∈M,x=g\/x=m\/HA<=x):
 Bk w' R0 150 #[n_]/\mW b1 H9 RM w'/\Bk w' RA 229 tA.g_/\jR (λx=>b1<=x/\x<HA) w' tA/\J [g,m] W w':=by
 have d:=h.o;exact⟨h.r.gr c (λa=>by have:=z _ a;omega),h.mo.iF c (λx a=>by have:=z x a;omega),h.a.gr c (λa=>by have:=z _ a;omega),h.ta.ir c (λx a e=>by have:=z x a;omega),h.gr.hJ c λx a=>by have:=z x a;simp;omega⟩
def iz{f:Nat->Bool}{i a:Nat}(h:a≠i):(a==i||f a)=f a:=by
 have:(a==i)=false:=zu h;rw[this,IG]
def lx{vs:Nat->Value}{v:Value}{i a:Nat}(h:a≠i):sZ vs i v a=vs a:=by simp[sZ,h]
def nN{vs:Nat->Value}{v:Value}{i:Nat}:sZ vs i v i=v:=by simp[sZ]
def ti.add(h:ti B g m R0 b1 H9 RM RA HA tA W f vs w)(hi:i∉[2,4,6,8,10,12,14,16,18,19])(d:J [g] w w')(K:iV w' B g):ti B g m R0 b1 H9 RM RA HA tA W (λk=>k==i||f k) (sZ vs i v) w':=by
 have O:=h.o;obtain⟨E,H,I,z,A⟩:=h.base d s_;have n:∀x∈[g],x<b1:=p_;have C:∀x∈[g],x<HA:=p_;have c:(16:Nat)≠i:=λa=>hi (by simp[<-a]);have j:(18:Nat)≠i:=λa=>hi (by simp[<-a]);have l:(19:Nat)≠i:=λa=>hi (by simp[<-a]);refine⟨K,h.lf.gr d p_,E,H,I,z,?_,?_,?_,?_,(by rw[iz l,iz c];exact h.FJ),A,O⟩;intro o k x y s;rw[iz l]at o;have r:k≠i:=λa=>by
  have:=s6 y;subst a;exact hi (by simp at this |-;omega)
 rw[iz r]at s;rw[lx r];exact(h.pf o k x y s).iF d C;rw[iz c,iz j,lx c];exact λe b=>(h.Dw e b).iF d n;rw[iz c,iz j,lx j];exact λe b=>(h.Dv e b).iF d n;rw[iz c,iz j,iz l,lx c,lx j];exact λe b o=>(h.hj e b o).iF d n
def ti.sS(h:ti B g m R0 b1 H9 RM RA HA tA W f vs w)(hi:i∉[2,4,6,8,10,12,14,16,18,19])(a:J [] w w'):ti B g m R0 b1 H9 RM RA HA tA W (λc=>c==i||f c) (sZ vs i v) w':=h.add hi (a.mono s_)<|h.d.hF a
def ti.yR(h:ti B g m R0 b1 H9 RM RA HA tA W f vs w)(hi:(i,x)∈m9)(P:∀y,(i,y)∈m9->y=x)(a:J [] w w')(K:Cz HA x v w'):ti B g m R0 b1 H9 RM RA HA tA W (λk=>k==i||f k) (sZ vs i v) w':=by
 have O:=h.o;have o:=s6 hi;obtain⟨E,H,I,A,C⟩:=h.base a s_;have c:(16:Nat)≠i:=λj=>by subst j;simp at o
 have e:(18:Nat)≠i:=λj=>by subst j;simp at o
 have n:(19:Nat)≠i:=λj=>by subst j;simp at o
 refine⟨h.d.hF a,h.lf.gr a s_,E,H,I,A,?_,?_,?_,?_,(by rw[iz n,iz c];exact h.FJ),C,O⟩;intro r k y z s;rw[iz n]at r;by_cases l:k=i;subst l;rw[nN,P y z];exact K;rw[iz l]at s;rw[lx l];exact(h.pf r k y z s).iF a s_;rw[iz c,iz e,lx c];exact λd b=>(h.Dw d b).iF a s_;rw[iz c,iz e,lx e];exact λd b=>(h.Dv d b).iF a s_;rw[iz c,iz e,iz n,lx c,lx e];exact λd b l=>(h.hj d b l).iF a s_
def ti.F1(h:ti B g m R0 b1 H9 RM RA HA tA W f vs w)(K:f 16=false)(a:J [] w w'){us:QW}(z:v=.slice (j_ w.heap.size) 8 8)(y:us.length=8)(s:Ga us)(o:lP iq b1 5 9 w' (j_ w.heap.size) 8 us):ti B g m R0 b1 H9 RM RA HA tA W (λc=>c==16||f c) (sZ vs 16 v) w':=by
 have A:=h.hz;obtain⟨e,j,k,d,E⟩:=h.base a s_;refine⟨h.d.hF a,h.lf.gr a s_,e,j,k,d,?_,?_,?_,?_,(λ_=>by simp),E,h.o⟩;intro l c O r C;have n:c≠16:=λH=>by have:=s6 r;subst H;simp at this
 rw[iz I]at l;rw[iz n]at C;rw[lx n];exact(h.pf l c O r C).iF a s_;intro _ _;rw[nN];exact⟨_,us,z,y,s,o,A⟩;intro _ l;simp at l;intro _ l _;rw[iz I]at l;rw[nN,lx I];obtain⟨n,r,ts,N,e,j,k,d⟩:=h.Dv l K;exact⟨_,us,n,r,ts,N,z,y,s,o,A,e,j,k,d.iF a s_,λu C=>(d.bd (I_ _) u C).hF a⟩
def ti.F0(h:ti B g m R0 b1 H9 RM RA HA tA W f vs w)(S:f 18=false)(e:J [g,m] w w')(Q:iV w' B g)(H:Lf g m 0 1 3 w'){A:OA}{c:Nat}(r:v=.slice A ts.length c)(o:ts.length<=3)(l:N<=6)(d:lP hV w.heap.size 3 N w' A c ts):ti B g m R0 b1 H9 RM RA HA tA W (λa=>a==18||f a) (sZ vs 18 v) w':=by
 have T:=h.o;have hz:=h.hz;obtain⟨K,O,P,z,C⟩:=h.base e s_;refine⟨Q,H,K,O,P,z,?_,?_,?_,?_,(by rw[iz I,iz I];exact h.FJ),C,T⟩;intro j a y n s;have k:a≠18:=λE=>by have:=s6 n;subst E;simp at this
 rw[iz I]at j;rw[iz k]at s;rw[lx k];exact(h.pf j a y n s).iF e p_;intro _ j;simp at j;intro _ _;rw[nN];exact⟨A,c,ts,N,r,o,l,d.le X⟩;intro j _ _;rw[iz I]at j;rw[nN,lx I];obtain⟨x,Z,s,D,Y,k,E⟩:=h.Dw j S;have hx:=(kK k.own (x:=x) rfl).2;exact⟨x,Z,A,c,ts,N,s,D,Y,k.iF e p_,E,r,o,l,d.le X,λu U=>(d.ju u U).imp λy n=>⟨ov n.1,by have:=n.1;omega⟩⟩
def jR.fresh{b n c:Nat}{C:Array Value}(h:jR p w u)(e:∀x,p x->b<=x):jR (Ah b (Value.slice (j_ w.heap.size) n c).ownBlock) (w.alloc<|.cells C t) u:=
 (h.lt.imp λx a=>⟨e x a.1,λd=>by simp[Value.ownBlock]at d;have:=a.2;omega⟩).hF ((G_ [] w).alloc _)
def lP.Fb{b c:Nat}{A:OA}(h:lP V b D N w A c ts)(k:Bk w R 213 cs)(n:J [R] w w'):lP V b D N w' A c ts:=by
 refine⟨oe h.own n λx a d=>?_,λu r=>((h.ju u r).AS k I I).ir n (λx a e=>e.2<|zu a) |>.imp λ_ e=>e.1,h.sg⟩;have a:=zu a;subst a;rcases h.own.2 with⟨j,_⟩|⟨q,y,s,j,_,o,_⟩
 rw[j]at d;cases d
 rw[j]at d;have:q=x:=by simpa[Value.ownBlock]using d
 subst this;have l:w.heap[q]?=_:=k;rw[o]at l;simp at l
def ti.FZ(h:ti B g m R0 b1 H9 RM RA HA tA W f vs w)(j:f 16=true)(d:f 18=true){M:QY}(e:J M w w')(z:∀x∈M,HA<=x):ti B g m R0 b1 H9 RM RA HA tA W (λk=>k==19||f k) (sZ vs 19 v) w':=by
 have A:=h.o;obtain⟨r,s,y,n,o⟩:=h.base e λx c=>.inr<|.inr<|z x c;refine⟨h.d.ir e (λx c=>by have:=z x c;omega),h.lf.gr e (λc=>by have:=z _ c;omega),r,s,y,n,(λl=>by simp at l),(λ_ a=>by rw[iz I,d]at a;cases a),(λ_ a=>by rw[iz I,j]at a;cases a),(λ_ _ a=>by simp at a),(λ_=>by rw[iz I];exact j),o,A⟩
end
def Gl(v:Value)(w:World)(H:Nat):Prop:=∃(A:OA),v=.agg (jc oY A<|jG nj).g_/\jR (jK H) w (jc oY A<|jG nj)
def Gj(b1 H:Nat)(v:Value)(w:World):Prop:=∃(x:Nat) (A:OA),v=.slice (j_ x) 1 1/\H<=x/\lP hV b1 3 1 w (j_ x) 1 [jc oY A<|jG nj]
structure rG(b1:Nat)(W:World)(f:Nat->Bool)(vs:Nat->Value)(w:World):Prop where
 h1:f 5=false->f 1=true->Gl (vs 1) w W.heap.size
 h2:f 5=false->f 2=true->Gj b1 W.heap.size (vs 2) w
 o5:f 5=true->f 2=true
 gr:J [] W w
def AX(H:Nat)(i:Nat)(a b:World):Prop:=if i=5 then(∃M,J M a b/\∀x∈M,H<=x) else J [] a b
def AX.of{H i:Nat}{a b:World}(hi:i≠5)(h:J [] a b):AX H i a b:=by
 unfold AX;rw[K_ hi];exact h
section
variable{b1:Nat}{W w w':World}{f:Nat->Bool}{vs:Nat->Value}{v:Value}{i:Nat}
def rG.add(h:rG b1 W f vs w)(hi:i∉[1,2,5])(hg:J [] w w'):rG b1 W (λk=>k==i||f k) (sZ vs i v) w':=by
 have j:(1:Nat)≠i:=λc=>hi (by simp[<-c]);have d:(2:Nat)≠i:=λc=>hi (by simp[<-c]);have e:(5:Nat)≠i:=λc=>hi (by simp[<-c]);refine⟨?_,?_,(by rw[iz e,iz d];exact h.o5),h.gr.trans hg⟩;rw[iz j,iz e,lx j];intro a b;obtain⟨A,h1,h2⟩:=h.h1 a b;exact⟨A,h1,h2.hF hg⟩;rw[iz d,iz e,lx d];exact M0
def rG.qt(h:rG b1 W f vs w)(hg:J [] w w')(d:Gl v w' W.heap.size):rG b1 W (λc=>c==1||f c) (sZ vs 1 v) w':=by
 refine⟨λ_ _=>by rw[nN];exact d,?_,(by rw[iz I,iz I];exact h.o5),h.gr.trans hg⟩;rw[iz I,iz I,lx I];exact M0
def rG.GE(h:rG b1 W f vs w)(a:J [] w w')(l:Gj b1 W.heap.size v w'):rG b1 W (λc=>c==2||f c) (sZ vs 2 v) w':=by
 refine⟨?_,λ_ _=>by rw[nN];exact l,(λ_=>by simp),h.gr.trans a⟩;rw[iz I,iz I,lx I];intro e b;obtain⟨d,j,k⟩:=h.h1 e b;exact⟨d,j,k.hF a⟩
def rG.GD(h:rG b1 W f vs w)(d:f 2=true){M:QY}(e:J M w w')(z:∀x∈M,W.heap.size<=x):rG b1 W (λc=>c==5||f c) (sZ vs 5 v) w':=
 ⟨(λa=>by simp at a),(λa=>by simp at a),(λ_=>by rw[iz I];exact d),h.gr.hJ e λx j=>.inr<|z x j⟩
end
structure FT where
 name:ByteArray
 AP:Option Addr
 cP:Nat
 ps:List ByteArray
 A:Option Addr
 c:Nat
 bs:List ST
abbrev QG:=List FT
def FT.E(f:FT):List Value:=[.string f.name,.slice f.AP f.ps.length f.cP,.slice f.A f.bs.length f.c]
def FT.In(lo hi:Nat)(w:World)(f:FT):Prop:=AY lo hi w f.AP f.cP f.ps f.A f.c f.bs
def Gp(bs:QW):Prop:=FG bs/\∃K,l8 iq 5 K bs/\K<=16/\bs.length<=12
def Gn(bs:QW):Prop:=∃(s:ST) (ss ls:QW) (K:Nat),bs=s::(ss++ls)/\s.h7=1/\s.name=oY/\ss.map ST.name=hV/\(∀u∈ss,u.h7=1)/\l8 hV 3 K bs/\K<=15/\bs.length<=21
def AY.wide{hi l k o c:Nat}{w:World}{j A:OA}{ps:QU}{n:QW}(h:AY lo hi w j o ps A c n)(y:l<=lo)(s:hi<=k):AY l k w j o ps A c n:=
 ⟨h.hp,h.wm,λx e a d=>by have:=h.Dq x e a d;omega,h.hb,h.Du,λx e a d=>by have:=h.oF x e a d;omega,λt r=>(h.hs t r).imp λx z=>by omega⟩
def F6(B g:Nat)(w:World)(e:Ending)(w':World):Prop:=∃(x:Nat) (p j n:FT),e=.returned (.agg #[.slice (j_ x) 3 3])/\Sl w' 213 3 (j_ x) 3 ([p,j,n].flatMap FT.E)/\
 p.In w.heap.size w'.heap.size w'/\j.In w.heap.size w'.heap.size w'/\n.In w.heap.size w'.heap.size w'/\(p.name=w5/\p.ps=[]/\CJ p.bs)/\(j.name=qv/\j.ps=[py,Dh]/\Gp j.bs)/\(n.name=pW/\n.ps=[nj]/\Gn n.bs)/\iV w' B g/\J [g] w w'
def Ek{w:World}{x:Nat}{s:ByteArray}(h:Bk w x 9 #[.string s]):Sl w 9 1 (j_ x) [s].length ([s].map Value.string):=jv (n:=1) (s:=1) h rfl
def BO(B g:Nat)(w:World)(r:iV w B g)(hB:B<=w.heap.size):
 Calls prog 89 #[q_ g] w (F6 B g w):=by
 obtain⟨i1,bR,cf,cg,ct⟩:=info_parts infoSt;have aV:=r.yw;go_enter func89,ntmps89;go_upto_region 2 with fail;obtain⟨-,-,a7⟩:=qU w 150 #[n_] 222 #[q_ g,Y 9,Y 0,Y 0];have cX:=r.hF a7;have ck:=(T_ w 150 #[n_]).alloc<|.cells #[q_ g,Y 9,Y 0,Y 0] 222;obtain⟨-,cA,-⟩:=qU w 150 #[n_] 222 #[q_ g,Y 9,Y 0,Y 0];obtain⟨bw,b9⟩:=nm_<|(w.alloc<|.cells #[n_] 150).alloc<|.cells #[q_ g,Y 9,Y 0,Y 0] 222;rw[<-b9]at a7 cX ck cA |-;clear b9;obtain⟨R0,cw⟩:=nm_ w.heap.size;obtain⟨m,fK⟩:=nm_<|w.heap.size+1;rw[<-cw]at ck |-;rw[<-fK]at cA;have du:w.heap.size<=R0:=X;have eS:R0<m:=X;have fL:R0+1=m:=X;have hBm:B<=m:=X;rw[fL];clear cw fK fL
 go_upto_region 3 with(go_at_call 139;refine((t7 B g m 0).1 0 6 9 0 _ rfl X X cX cA hBm X X X s_).mono ?_;rintro e w2⟨A,j,ts,N,al,rfl,dh,hL,hl0,hl1,bC,dF,em,an⟩);obtain⟨b1,aR⟩:=nm_ bw.heap.size;rw[<-aR]at hL;have dG:m<b1:=by rw[aR];exact cA.lt
 have fm:=an.size;rw[<-aR]at fm;clear aR;have cz:=ck.gr an p_;have cI:J [g] w w2:=(a7.mono s_).hJ an p_;clear cX cA ck an a7 r;go_upto_if 16 with(go_at_call 19;refine(iD B g 3 em X X).mono ?_;rintro e ae⟨aA,rfl,bF,bB,r,NZ⟩)
 have h:=dF.gr NZ p_;have P:=cz.gr NZ p_;have U:=cI.trans NZ;replace hL:=hL.iF NZ p_;have be:=H_ fm NZ.size;clear em dF cz cI NZ fm;go_cut [4] (λx bd=>∃(A:OA) (j:Nat) (ts:QW) (e0:Nat) (al:Int),x=.slice A ts.length j/\lP hV b1 4 e0 bd A j ts/\ts.length<=8/\(e0:Int)<=19/\Bk bd m 222 #[q_ g,Y al,Y 0,Y 0]/\Bk bd R0 150 #[n_]/\iV bd B g/\J [g] w bd/\b1<=bd.heap.size)
 case first=>
  by_cases hr:0<aA
  .have eA:decide (0<aA)=true:=by simp[hr]
   simp only[eA];clear hr eA;go_upto_region 4 with fail;obtain⟨W,aJ⟩:=nm_ ae;rw[<-aJ]at r h P hL U be |-;clear aJ;have cS:∀y∈[g],y∈(g::oX (Value.slice A ts.length j).ownBlock):=s_
   have l:∀y∈oX (Value.slice A ts.length j).ownBlock,b1<=y:=λy hy=>(kK hL.own<|jQ.1 hy).1;have eE:∀y∈oX (Value.slice A ts.length j).ownBlock,B<=y/\m≠y:=λy hy=>by have:=l y hy;omega
   have eU:∀y,(Value.slice A ts.length j).ownBlock=some y->y<W.heap.size:=λy hy=>(kK hL.own hy).2;have T:∀y∈(g::oX (Value.slice A ts.length j).ownBlock),y<W.heap.size:=Ng;have aG:Ps B g m 0 100 (g::oX (Value.slice A ts.length j).ownBlock) (λw=>Bk w R0 150 #[n_]) (λw=>lP hV b1 4 N w A j ts) W false W:=⟨r,⟨al,hl0,X,h⟩,P,λ_=>hL,G_ _ W,λbf b a k=>k.gr a (λh=>by rcases N_.1 h with a|a;omega;have:=l _ a;omega),λbf b a k=>k.iF a p_,s_,X⟩;refine qy (λf=>Ps B g m 0 100 (g::oX (Value.slice A ts.length j).ownBlock) (λw=>Bk w R0 150 #[n_]) (λw=>lP hV b1 4 N w A j ts) W<|f 6) (λ_ _=>True) (G2 6 [g]<|g::oX (Value.slice A ts.length j).ownBlock) [SU.mH _<|.slice A ts.length j,SU.mH _<|q_ m,(SU.tree T<|0).wj λ_ _ _ a=>a.gr cS,(SU.trees T 2 1).wj λ_ _ _ a=>a.gr cS,(SU.stmt T (1)<|1).wj λ_ _ _ a=>a.gr cS,(SU.of (λv w=>∃(x:Nat) (t:ST),v=.slice (j_ x) 1 1/\W.heap.size<=x/\Bk w x 229 t.g_/\jR (jK W.heap.size) w t/\SG hV 1 1 t) λ_ _ _ S⟨x,t,z,k,h3,ar,au⟩=>⟨x,t,z,k,h3.gr S (λh=>by have:=T x h;omega),ar.ir S λy hy=>Hx.2<|T y hy,au⟩).wj λ_ _ _ a=>a.gr cS,SU.AR [6] (λv w=>∃(aw:OA) (ai:Nat) (us:QW) (K:Nat),v=.slice aw us.length ai/\lP hV b1 4 K w aw ai us/\us.length<=8/\K<=N+1) λi hi v w w' S⟨aw,ai,us,K,z,k,h3⟩=>⟨aw,ai,us,K,z,k.iF (S.ne<|zu hi) p_,h3⟩,SU.AR [6] (λv w=>∃(aw:OA) (ai:Nat) (us:QW) (K:Nat),v=.slice aw us.length ai/\lP hV b1 4 K w aw ai us/\us.length<=8/\K<=N+1) λi hi v w w' S⟨aw,ai,us,K,z,k,h3⟩=>⟨aw,ai,us,K,z,k.iF (S.ne<|zu hi) p_,h3⟩] (SU.anyI _) [[],[],[1],[2],[3],[4],[0,5],[6]] false [(some 17,0),(some 18,1),(some 19,2),(some 20,3),(some 21,4),(some 22,5),(some 23,6),(some 4,7)] k_ k_ (λ_ _ _ _ _ a=>a) k_ rfl rfl k_ aG ⟨?_,?_,?_,?_,?_,?_,?_,?_,trivial⟩ ?_;exact L3;exact L3
   .refine jp [(some 18,1)] ?_;intro f vs Q hf C N3 K H;obtain⟨o, -⟩:=N3;replace o:_=_:=o;try simp only[b_,o]at H |-
    obtain⟨cZ,er,ez,cC⟩:=C.lf;go_simp;go_at_call 140;refine(kP B g m cZ 0 0 0 X _ rfl _ C.d cC hBm).mono ?_;exact Mq
   refine jp [(some 19,2)] ?_;exact JR;refine jp [(some 20,3)] ?_;exact JC;refine jp [(some 21,4)] ?_;exact J6;refine jp [(some 17,0),(some 22,5)] ?_;intro f vs Q hf C N3 K H;obtain⟨o,⟨aO,ao,ax,cD,bG,V,d⟩, -⟩:=N3;replace o:_=_:=o;try simp only[b_,o,ax]at H |-
   have co:=C.l hf;have fb:=C.hz;refine i5 k_ ?_;refine o1 _ _ _ rfl b1 229 i1 _ 8 128 underlying211 bR cf cg ct rfl I I A ts.length j (ts.flatMap ST.E) r_ co.own _ 1 1 ([ao].flatMap ST.E) r_ (rT ao bG) (lh) X X ?_;intro aw ai bA cq bp bJ;have df:=co.add (us:=[ao]) cq bp bJ (λu hu=>by have:u=ao:=(zu hu);subst this;exact V.imp λy hy=>⟨by have:W.heap.size<=y:=hy;omega,λhe=>by have z:=eU y he;have:W.heap.size<=y:=hy;omega⟩)<|d.mono X;exact H.out (.slice aw (ts.length+1) ai) _ (C.app (J.i6 bp) eE λy hy=>by simp[hy]) ((J.i6 bp).mono<|by intro y hy;simp[hy]) ⟨aw,ai,ts++[ao],N+1,s_,by simpa using df,p_,I_ _⟩
   .refine jp [(some 23,6)] ?_;intro f vs Q hf C N3 K H;obtain⟨⟨fV,f0,ta,ev,o,fY,cJ⟩, -⟩:=N3;try simp only[b_,o]at H |-
    go_simp;exact H.out _ _ C (G_ _ _) ⟨fV,f0,ta,ev,rfl,fY,cJ⟩
   rintro f vs a2 hf⟨C,N3⟩;obtain⟨c,aC,⟨ad,av,i2,D⟩,⟨am,t3,bO,n3,cT,b3,g9⟩,⟨t4,bV,fQ,dB⟩,⟨bS,t5,bN,dC,ew,g7,dI⟩,⟨aL,aI,g8,gJ,dm,eM,eB⟩,⟨aN,br,gI,fZ,dT,fx,n7⟩, -⟩:=N3;replace c:vs 0=.slice A ts.length j:=c;replace aC:vs 1=q_ m:=aC;simp only[b_,c,aC,av,bO,bV,bN,dm,dT];clear c aC av bO bV bN dm dT;clear r h P hL aG;obtain⟨r,⟨l',cu,dY,h⟩,P, -,G, -, -, -, -⟩:=C;have eI:=H_ be G.size;replace U:=U.hJ G (by intro y hy;rcases N_.1 hy with a|a;left;simp[a];right;have:=l _ a;omega);go_wp2;go_meet;exact⟨aN,br,gI,fZ,l',rfl,fx,n7.1,ov n7.2,h,P,r,U,eI⟩
  have eA:decide (0<aA)=false:=by simp[hr]
  go_wp2;go_meet;exact⟨A,j,ts,N,al,rfl,hL,X,X,h,P,r,U,be⟩
 clear r h P U be hL hl0 hl1 bC dh A j ts N al;obtain⟨A,j,ts,e0,al,rfl,hL,iS,dV,h,P,r,U,eI⟩:=hcut;obtain⟨bd,dN⟩:=nm_ wc;rw[<-dN]at hL h P r U eI |-;clear dN;obtain⟨n0,hn0⟩:=nm_ ts.length;have aZ:=O hn0;have cN:=hL.own;have gv:=eI;rw[<-hn0]at cN iS |-;clear hn0
 go_upto_region 6 with(first|(go_at_call 142;refine(kW bd.heap.size py (eNew 3) bd (I_ _)<|kB.leaf _ _ _ _ _ _).mono ?_;rintro e NY⟨As,rfl,cp,ah⟩;simp only[jc,ST.iu])|(at_builtin;refine kf rfl rfl NY.heap.size 229 i1 8 128 underlying211 bR cf cg ct rfl I I (j_ NY.heap.size) 1 1 _ rfl (tR (n:=1) (s:=8) (T_ NY 229 (jc py As<|eNew 3).g_) rfl (I_ _) I) A n0 j (ts.flatMap ST.E) rfl (((Sl.iZ cN).hF ah).alloc _) (lh) X s_ ?_;intro aL aI aB ce ey dz;have eM:=BZ cp ah hL aZ.out ce ey dz (I_ _) gv)|(go_at_call 141;go_loud (refine(vu b1 4 (1+e0) aL (1+n0) aI ([jc py As<|eNew 3]++ts) (j_ aB.heap.size) 3 9 (by have:=aZ.out;simp;omega) (Dk (eM.iF ((G_ [] aB).alloc<|.cells #[.string {data:=#[105]},.string {data:=#[106]},.string {data:=#[107]}] 9) s_) aZ.out) X (λu hu=>(eM.iF ((G_ [] aB).alloc<|.cells #[.string {data:=#[105]},.string {data:=#[106]},.string {data:=#[107]}] 9) s_).from u hu) eM.sg (by have z:=(J.i6 ey).size;have k:=ah.size;simp at z |-;omega)<|jv (n:=3) (s:=1) (T_ aB 9 #[.string {data:=#[105]},.string {data:=#[106]},.string {data:=#[107]}]) rfl).mono ?_;rintro e bA⟨bY,cM,ss,rfl,d9,eF,e8,bE,eW,dZ⟩;obtain⟨cK,d5⟩:=nm_<|ss++([jc py As<|eNew 3]++ts);rw[<-d5]at d9 dZ;rw[<-d5];have da:=O d5;obtain⟨bI,dH⟩:=nm_ cK.length;have eu:=O dH;rw[<-dH];clear d5 dH)));have eT:J [] bd (bA.alloc<|.cells #[.string w5,n_,.slice bY bI cM] 213):=by
  have z:=(ah.alloc _).hJ (J.i6 ey) (λx c=>by have:=jQ.1 c;simp[Value.ownBlock]at this;have:=ah.size;right;omega);exact((z.alloc _).trans bE).alloc _
 have p:mW b1 (bA.alloc<|.cells #[.string w5,n_,.slice bY bI cM] 213).heap.size bA.heap.size (bA.alloc<|.cells #[.string w5,n_,.slice bY bI cM] 213):=by
  refine⟨bY,cM,cK,?_,(d9.iF ((G_ [] bA).alloc<|.cells #[.string w5,n_,.slice bY bI cM] 213) s_).fin<|I_ _,⟨ss,_,_,da.out,eF,e8,d9.sg,X,?_⟩,?_,s_⟩;rw[<-eu.out];exact T_ bA 213 #[.string w5,n_,.slice bY bI cM];have bW:=by have:=GG List.length eF;simpa[hV]using this
  rw[da.out];simp[bW];have:=aZ.out;omega;have:=bE.size;have:=P.lt;have:=ah.size;have:=(J.i6 ey).size;simp at*;omega
 replace h:=h.hF eT;replace r:=r.hF eT;replace P:=P.hF eT;replace U:=U.trans<|eT.mono s_;clear hL cN ce ey dz eM d9 bE eW dZ da eu eT cp ah eI eF e8;obtain⟨RM,d4⟩:=nm_ bA.heap.size;obtain⟨l,cr⟩:=nm_<|bA.alloc<|.cells #[.string w5,n_,.slice bY bI cM] 213;rw[<-d4]at p |-;rw[show(bA.alloc<|.cells #[.string {data:=#[109,97,105,110]},n_,.slice bY bI cM] 213)=l from cr.symm];rw[<-cr]at p h r P U;clear d4 cr;obtain⟨H9,e3⟩:=nm_ l.heap.size;rw[<-e3]at p
 have g1:m<H9:=by rw[e3];exact h.lt
 have aS:=h.f_ 3;have z3:=h.hG 3;have af:=h.f_ 1;have aM:=h.hG 1;go_upto_region 7 with fail;clear aS z3 af aM;have bl:J [m] l ((l.setCell (Z m 3)<|Y 1).setCell (Z m 1)<|Y 3):=((G_ [m] l).setCell (.inl s_) _).setCell (.inl s_) _;replace h:Bk ((l.setCell (Z m 3)<|Y 1).setCell (Z m 1)<|Y 3) m 222 #[q_ g,Y 3,Y 0,Y 1]:=(h.hW 3 _).hW 1 _;replace r:=r.ir bl p_;replace P:=P.gr bl p_;replace p:=p.iF bl p_;replace U:=U.hJ bl p_;have fa:=bl.size;rw[<-e3]at fa;obtain⟨a6,et⟩:=nm_<|(l.setCell (Z m 3)<|Y 1).setCell (Z m 1)<|Y 3;rw[<-et]at h r P p U fa |-;clear et bl e3;obtain⟨W,aJ⟩:=nm_ a6;rw[<-aJ]at r h P p U fa |-;clear aJ;have T:∀y∈[g],y<W.heap.size:=p_;have aG:Ps B g m 1 3 [g] (λw=>Bk w R0 150 #[n_]/\mW b1 H9 RM w) (λ_=>True) W true W:=⟨r,⟨3,X,X,h⟩,⟨P,p⟩,(λa=>by cases a),G_ _ W,λbf b a k=>⟨k.1.gr a p_,k.2.iF a p_⟩,λ_ _ _ a=>a,s_,X⟩;refine iU (Ps B g m 1 3 [g] (λw=>Bk w R0 150 #[n_]/\mW b1 H9 RM w) (λ_=>True) W true) (λvs l=>∃(RA:Nat) (t:ST),vs 12=q_ RA/\W.heap.size<=RA/\Bk l RA 229 t.g_/\jR (jK W.heap.size) l t/\SG iq 2 2 t/\iV l B g/\Lf g m 0 1 3 l/\(Bk l R0 150 #[n_]/\mW b1 H9 RM l)/\J [g,RA] W l) (J [g]) [SU.tD iq T<|0,SU.tD iq T<|0,SU.tD iq T<|0+1,SU.Bg iq T 2 1,SU.tD iq T<|0,SU.tD iq T<|0,SU.tD iq T<|0,SU.tD iq T<|0+1,SU.Bg iq T 2 2,SU.of (λv w=>∃t:ST,v=.agg t.g_/\jR (jK W.heap.size) w t/\SG iq 1 1 t/\t.h7=3/\t.bs=[]/\t.ls=[]) λ_ _ _ S⟨t,z,k,h3⟩=>⟨t,z,k.ir S λx c=>Hx.2<|T x c,h3⟩,SU.of (λv w=>∃(y:Nat) (t:ST),v=.slice (j_ y) 1 1/\W.heap.size<=y/\Bk w y 229 t.g_/\jR (jK W.heap.size) w t/\SG iq 1 1 t/\t.h7=3/\t.bs=[]/\t.ls=[]) λ_ _ _ S⟨y,t,h0,z,k,h3,ar⟩=>⟨y,t,h0,z,k.gr S (λh=>by have:=T y h;omega),h3.ir S λx c=>Hx.2<|T x c,ar⟩,SU.of (λv w=>∃(x y:Nat) (t3:QF) (t:ST),v=.agg #[Y 4,.string jg,.string jg,Y 0,Y 0,.slice (j_ x) 1 1,.slice (j_ y) 1 1,n_]/\t3.length=1/\W.heap.size<=x/\Sl w 226 5 (j_ x) 1 (t3.flatMap ET.E)/\(∀u∈t3,kB (jK W.heap.size) w u/\EG iq 2 u)/\W.heap.size<=y/\Bk w y 229 t.g_/\jR (jK W.heap.size) w t/\SG iq 1 1 t/\t.h7=3/\t.bs=[]/\t.ls=[]) λ_ _ _ S⟨x,y,t3,t,h0,z,k,h3,ar,au,a8,bQ,bW⟩=>⟨x,y,t3,t,h0,z,k,h3.iF λbh off hA c=>S.block bh c (λh=>by injection hA with hA;injection hA with hA;have:=T bh h;omega),λu hu=>⟨(ar u hu).1.ir S λx c=>Hx.2<|T x c,(ar u hu).2⟩,au,a8.gr S (λh=>by have:=T y h;omega),bQ.ir S λx c=>Hx.2<|T x c,bW⟩,SU.of (λv w=>∃R,v=q_ R/\W.heap.size<=R/\Bk w R 229 #[Y 0,.string jg,.string jg,Y 0,Y 0,n_,n_,n_]) λ_ _ _ S⟨x,k,h3,ar⟩=>⟨x,k,h3,ar.gr S λh=>by have:=T x h;omega⟩,SU.any _] (SU.any _) [[],[],[0,1],[2],[],[],[],[5,6],[4,7],[8],[9],[3,10],[],[12,11]] true [(some 38,0),(some 39,1),(some 40,2),(some 41,3),(some 42,4),(some 43,5),(some 44,6),(some 45,7),(some 46,8),(some 47,9),(some 48,10),(some 49,11),(some 6,12),(none,13)] k_ k_ (λ_ _ _ _ _ a=>a) k_ rfl rfl k_ aG ⟨?_,?_,?_,?_,?_,?_,?_,?_,?_,?_,?_,?_,?_,?_,trivial⟩ ?_
 .refine hU [] ?_;intro vs Q C N3 K H;clear N3;try simp only[b_]at H |-
  go_simp;go_at_call 144;refine(ki _).mono ?_;rintro e w1⟨rfl,hg1⟩;exact H.out _ _ (C.hF hg1) (hg1.mono s_) ⟨jF 0,rfl,kB.leaf _ _ _ _ _ _,.num _ _ X X⟩
 exact Ku;refine hU [(some 38,0),(some 39,1)] ?_;intro vs Q C N3 K H;exact Kg;refine hU [(some 40,2)] ?_;intro vs Q C N3 K H;exact JX
 .refine hU [] ?_;intro vs Q C N3 K H;clear N3;try simp only[b_]at H |-
  go_simp;go_at_call 145;refine(kk _).mono ?_;rintro e w1⟨rfl,hg1⟩;exact H.out _ _ (C.hF hg1) (hg1.mono s_) ⟨jG w6,rfl,kB.leaf _ _ _ _ _ _,.var _ _<|by simp[iq,hV]⟩
 exact Ku;refine hU [] ?_;intro vs Q C N3 K H;exact KO
 .refine hU [(some 43,5),(some 44,6)] ?_;intro vs Q C N3 K H;obtain⟨⟨ta,o,ap,E⟩,⟨ao,ax,V,d⟩, -⟩:=N3;try simp only[b_,o,ax]at H |-
  go_simp;go_at_call 143;refine(oR W.heap.size 2 ta ao C.hz ap V).mono ?_;rintro e w1⟨A,rfl,N1,hg1⟩;exact H.out _ _ (C.hF hg1) (hg1.mono s_) ⟨qw 2 A ta ao,rfl,N1,.bin 0 _ _ _ _ X X (E.mono X)<|d.mono X⟩
 .refine hU [(some 42,4),(some 45,7)] ?_;intro vs Q C N3 K H;obtain⟨⟨ta,o,ap,E⟩,⟨ao,ax,V,d⟩, -⟩:=N3;try simp only[b_,o,ax]at H |-
  obtain⟨bK,bM,b0,b4,b5,b6,b7⟩:=ta;obtain⟨ea,eb,ed,ef,eg,eh,ei⟩:=ao;simp only[ET.iu]at H |-;go_simp;refine H.out _ _ (C.hF<|(G_ [] _).alloc _) ((G_ _ _).alloc _) ⟨_,[ET.mk bK bM b0 b4 b5 b6 b7,ET.mk ea eb ed ef eg eh ei],rfl,rfl,C.hz,tI (ET.mk bK bM b0 b4 b5 b6 b7) (ET.mk ea eb ed ef eg eh ei)<|T_ _ _ _,?_⟩;exact K1
 .refine hU [(some 46,8)] ?_;intro vs Q C N3 K H;obtain⟨⟨aX,ta,o,cJ,bt,bn,c8⟩, -⟩:=N3;try simp only[b_,o]at H |-
  go_simp;refine H.out _ _ C (G_ _ _) ⟨(lW 3 vW qv 0 0 (j_ aX) ta.length ta),?_,jR.es _ _ _ _ _ (by rw[cJ];exact bn) bt λu hu=>(c8 u hu).1,SG.leaf (t:=(lW 3 vW qv 0 0 (j_ aX) ta.length ta)) (by show nh _ 3 vW qv 0 0 ta.length _ _;rw[cJ];exact .xx _<|by simp[iq,hV]) rfl rfl λu hu=>(c8 u hu).2,rfl,rfl,rfl⟩;show Value.agg _=Value.agg (lW 3 vW qv 0 0 (j_ aX) ta.length ta).g_;simp only[lW,ST.iu,cJ];rfl
 .refine hU [(some 47,9)] ?_;intro vs Q C N3 K H;obtain⟨⟨ta,o,ap,E,f3⟩, -⟩:=N3;try simp only[b_,o]at H |-
  obtain⟨s1,bT,cj,c7,b8,bU,cn,dn,cH,bu,sb,sc,dJ,dK⟩:=ta;simp only[ST.iu]at H |-;go_simp;exact H.out _ _ (C.hF<|(G_ [] _).alloc _) ((G_ _ _).alloc _) ⟨_,ST.mk s1 bT cj c7 b8 bU cn dn cH bu sb sc dJ dK,rfl,C.hz,T_ _ _ _,ap.hF<|(G_ [] _).alloc _,E,f3⟩
 .refine hU [(some 41,3),(some 48,10)] ?_;intro vs Q C N3 K H;obtain⟨⟨aX,ta,o,cJ,bt,bn,c8⟩,⟨dw,ao,ax,cD,bG,V,d⟩, -⟩:=N3;try simp only[b_,o,ax]at H |-
  go_simp;exact H.out _ _ C (G_ _ _) ⟨aX,dw,ta,ao,rfl,cJ,bt,bn,c8,cD,bG,V,d⟩
 .refine hU [] ?_;intro vs Q C N3 K H;clear N3;try simp only[b_]at H |-
  go_simp;exact H.out _ _ (C.hF<|(G_ [] _).alloc _) ((G_ _ _).alloc _) ⟨_,rfl,C.hz,T_ _ _ _⟩
 .refine jE [(some 6,12),(some 49,11)] ?_;intro vs Q C N3 K H;obtain⟨⟨aX,o,bt,bn⟩,⟨aO,dw,sb,ao,ax,nb,cD,bG,cy,dj,c6,V,d,fg⟩, -⟩:=N3;try simp only[b_,o,ax]at H |-
  have g4:dw≠aX:=by
   intro he;subst he;have z:Q.heap[dw]?=_:=c6;have k:Q.heap[dw]?=_:=bn;rw[z]at k;have h3:=fg.1;obtain⟨s1,bT,cj,c7,b8,bU,cn,dn,cH,bu,sb,sc,dJ,dK⟩:=ao;simp only[ST.iu]at k;simp at k;have ar:s1=3:=h3;omega
  have g2:=bG.AS I bn I;refine i5 k_ ?_;refine h9 229 rfl aX r_ #[Y 4,.string jg,.string jg,Y 0,Y 0,.slice (j_ aO) 1 1,.slice (j_ dw) 1 1,n_] r_ 229 bn rfl k_ (by simp[Value.oneCell']) ?_;intro l az G;refine H.out undef _ λ_=>⟨aX,ST.mk 4 jg jg 0 0 (j_ aO) 1 sb (j_ dw) 1 [ao] none 0 [],o,bt,?_,?_,?_,C.d.ir G p_,C.lf.gr G p_,⟨C.f.1.gr G p_,C.f.2.iF G p_⟩,(C.gr.mono s_).trans<|G.mono s_⟩;simp only[ST.iu,nb];exact az;refine jR.mk _ (by rw[show((ST.mk 4 jg jg 0 0 (j_ aO) 1 sb (j_ dw) 1 [ao] none 0 []).es.length)=1 from nb];exact bG.iF λbh off hA c=>G.block bh c λh=>by injection hA with hA;injection hA with hA;simp at h;omega) (Nat.le_of_eq nb) (λbh off a _=>by injection a with a;injection a with a;omega) (λu hu=>(((cy u hu).1.AS bn I).ir G<|by intro bh hz hp;simp at hz;exact hp.2 hz).imp λ_ hp=>hp.1) ((rT ao c6).iF λbh off hA c=>G.block bh c λh=>by injection hA with hA;injection hA with hA;simp at h;omega) (I_ _) (λbh off a _=>by injection a with a;injection a with a;omega) ?_ (HB _ _ _ _) (I_ _) (λ_ _ a _=>by cases a) (λu hu=>by cases hu);intro u hu;have:u=ao:=J_.1 hu;subst this;exact((V.Gx fg.2.1 fg.2.2 bn I).ir G<|by intro bh hz hp;simp at hz;exact hp.2 hz).imp λ_ hp=>hp.1;exact SG.node (nb:=1) (nl:=0) (t:=ST.mk 4 jg jg 0 0 (j_ aO) 1 sb (j_ dw) 1 [ao] none 0 []) (by show nh _ 4 jg jg 0 0 sb.length true true;rw[nb];exact .E2) (λu hu=>(cy u hu).2) d<|.nil _
 intro vs a2 C;simp only[b_];clear r h P p aG;obtain⟨RA,tA,fA,gK,hA,ek,fM,r,dM,⟨P,p⟩,G⟩:=C;rw[fA];clear fA;replace U:=U.hJ G p_;have e9:=H_ fa G.size;go_upto_region 8 with fail;have gU:b1<=H9:=by obtain⟨_,_,_,_,_,_,z,k⟩:=p;omega
 replace ek:=ek.lt.imp (q:=λx=>b1<=x/\x<a2.heap.size) λx c=>⟨by have:W.heap.size<=x:=c.1;omega,c.2⟩;have gP:b1<=RA:=X;obtain⟨W,aJ⟩:=nm_ a2;rw[<-aJ]at r dM P p hA ek U e9 |-;clear aJ;obtain⟨HA,e4⟩:=nm_ W.heap.size
 have gO:RA<HA:=by rw[e4];exact hA.lt
 rw[<-e4]at ek e9;have eQ:=T;clear T;have T:∀y∈[g,m],y<HA:=p_;have eV:g<B/\B<=m/\R0<m/\g<R0/\m<b1/\b1<=HA/\H9<=HA/\RA<HA/\b1<=RA/\W.heap.size=HA:=⟨X,X,X,X,X,X,X,X,X,e4.symm⟩;have ca:=(G_ [] W).drew;obtain⟨s1,bT,cj,c7,b8,bU,cn,dn,cH,bu,sb,sc,dJ,dK,fI⟩:∃s1 bT cj c7 b8 bU cn dn cH bu sb sc dJ dK,tA=ST.mk s1 bT cj c7 b8 bU cn dn cH bu sb sc dJ dK:=by
  cases tA
  exact⟨_,_,_,_,_,_,_,_,_,_,_,_,_,_,rfl⟩
 have fd:=O fI;clear fI e4;have aG:∀vs,ti B g m R0 b1 H9 RM RA HA tA W (λ_=>false) vs W.drew:=λvs=>⟨r.hF ca,dM.gr ca s_,P.hF ca,p.iF ca s_,hA.hF ca,ek.hF ca,(λ_ _ _ _ a=>by cases a),(λa=>by cases a),(λa=>by cases a),(λa=>by cases a),(λa=>a),ca.mono s_,eV⟩;refine ox (λf vs=>ti B g m R0 b1 H9 RM RA HA tA W f vs) (λvs l=>∃(db x:Nat) (A:OA) (j:Nat) (us:QW) (K:Nat),vs 21=q_ db/\HA<=db/\Bk l db 213 #[.string qv,.slice (j_ x) 2 2,.slice A us.length j]/\HA<=x/\Bk l x 9 #[.string {data:=#[112]},.string {data:=#[110]}]/\lP iq b1 5 K l A j us/\(K<=15/\us.length<=11/\FG us/\∀y,(Value.slice A us.length j).ownBlock=some y->HA<=y)/\iV l B g/\Lf g m 0 1 3 l/\Bk l R0 150 #[n_]/\mW b1 H9 RM l/\J [g,m] W l/\True) (G8 g m HA) [SU.AR [] (λv w=>∃x,v=.slice (j_ x) 2 2/\HA<=x/\Bk w x 9 #[.string {data:=#[112]},.string {data:=#[110]}]) λ_ _ _ _ _ S⟨x,z,k,h3⟩=>⟨x,z,k,S.bk h3 I X X⟩,SU.mH _<|.agg (jF 1).g_,SU.anyI _,SU.mH _<|.agg (jF 0).g_,SU.anyI _,SU.mH _<|.agg (jF 2).g_,SU.anyI _,SU.mH _<|.agg (jG py).g_,SU.anyI _,SU.mH _<|.agg (jF 0).g_,SU.anyI _,SU.mH _<|.agg (jF 0).g_,SU.anyI _,SU.mH _<|.agg (jF 0).g_,SU.anyI _,SU.mH _<|.agg tA.g_,SU.anyI _,SU.mH _<|q_ m,SU.anyI _,SU.AR [19] (λv w=>∃(A:OA) (j:Nat) (us:QW) (K:Nat),v=.slice A us.length j/\lP iq b1 5 K w A j us/\K<=15/\us.length<=11/\FG us/\∀y,(Value.slice A us.length j).ownBlock=some y->HA<=y) λi hi v w w' S⟨A,j,us,K,z,k,h3⟩=>⟨A,j,us,K,z,k.iF (S.gr hi) p_,h3⟩,SU.AR [19] (λv w=>∃(x:Nat) (A:OA) (j:Nat) (us:QW) (K:Nat),v=.agg #[.string qv,.slice (j_ x) 2 2,.slice A us.length j]/\HA<=x/\Bk w x 9 #[.string {data:=#[112]},.string {data:=#[110]}]/\lP iq b1 5 K w A j us/\K<=15/\us.length<=11/\FG us/\∀y,(Value.slice A us.length j).ownBlock=some y->HA<=y) λi hi v w w' S⟨x,A,j,us,K,z,h0,c,k,h3⟩=>⟨x,A,j,us,K,z,h0,S.bk c I X X,k.iF (S.gr hi) p_,h3⟩,SU.AR [] (λv w=>∃R,v=q_ R/\HA<=R/\Bk w R 213 #[.string jg,n_,n_]) λ_ _ _ _ _ S⟨x,z,k,h3⟩=>⟨x,z,k,S.bk h3 I X X⟩,SU.anyI _] (SU.anyI _) [[],[],[1],[],[3],[],[5],[],[7],[],[9],[],[11],[],[13],[],[2,4,6,8,10,12,14,15],[],[17],[16,18],[0,19],[],[21,20]] true [(some 50,0),(some 51,1),(some 52,2),(some 53,3),(some 54,4),(some 55,5),(some 56,6),(some 57,7),(some 58,8),(some 59,9),(some 60,10),(some 61,11),(some 62,12),(some 63,13),(some 64,14),(some 65,15),(some 66,16),(some 67,17),(some 68,18),(some 69,19),(some 70,20),(some 7,21),(none,22)] k_ k_ k_ (λ_ _ _ _ _ a=>a) k_ rfl rfl k_ aG ⟨?_,?_,?_,?_,?_,?_,?_,?_,?_,?_,?_,?_,?_,?_,?_,?_,?_,?_,?_,?_,?_,?_,?_,trivial⟩ ?_;exact KU
 .refine jX [] ?_;intro f vs Q hf hp C N3 K H;clear N3;try simp only[b_]at H |-
  go_simp;go_at_call 144;refine(ki 1).mono ?_;exact Nb
 .refine jX [(some 51,1)] ?_;intro f vs Q hf hp C N3 K H;obtain⟨o, -⟩:=N3;replace o:_=_:=o;try simp only[b_,o]at H |-
  go_simp;go_at_call 142;refine(kW HA w6 (jF 1) _ C.hz<|kB.leaf _ _ _ _ _ _).mono ?_;rintro e w1⟨A,rfl,N1,hg1⟩;exact H.out _ _ (C.yR (x:=w6) (by simp[m9]) (by intro y hy;simp[m9]at hy;exact hy) hg1 ⟨A,jF 1,rfl,N1,SG.leaf (t:=jc w6 A<|jF 1) (.we _ (show w6∈iq by simp[iq,hV])) rfl rfl<|by intro u hu;rcases N_.1 hu with rfl|hu;exact .num _ _ X X;cases hu⟩) (G8.jS I hg1) trivial
 exact KM
 .refine jX [(some 53,3)] ?_;intro f vs Q hf hp C N3 K H;obtain⟨o, -⟩:=N3;replace o:_=_:=o;try simp only[b_,o]at H |-
  go_simp;go_at_call 142;refine(kW HA vW (jF 0) _ C.hz<|kB.leaf _ _ _ _ _ _).mono ?_;rintro e w1⟨A,rfl,N1,hg1⟩;exact H.out _ _ (C.yR (x:=vW) (by simp[m9]) (by intro y hy;simp[m9]at hy;exact hy) hg1 ⟨A,jF 0,rfl,N1,SG.leaf (t:=jc vW A<|jF 0) (.we _ (show vW∈iq by simp[iq,hV])) rfl rfl<|by intro u hu;rcases N_.1 hu with rfl|hu;exact .num _ _ X X;cases hu⟩) (G8.jS I hg1) trivial
 .refine jX [] ?_;intro f vs Q hf hp C N3 K H;clear N3;try simp only[b_]at H |-
  go_simp;go_at_call 144;refine(ki 2).mono ?_;exact Nb
 .refine jX [(some 55,5)] ?_;intro f vs Q hf hp C N3 K H;obtain⟨o, -⟩:=N3;replace o:_=_:=o;try simp only[b_,o]at H |-
  go_simp;go_at_call 142;refine(kW HA wl (jF 2) _ C.hz<|kB.leaf _ _ _ _ _ _).mono ?_;rintro e w1⟨A,rfl,N1,hg1⟩;exact H.out _ _ (C.yR (x:=wl) (by simp[m9]) (by intro y hy;simp[m9]at hy;exact hy) hg1 ⟨A,jF 2,rfl,N1,SG.leaf (t:=jc wl A<|jF 2) (.we _ (show wl∈iq by simp[iq,hV])) rfl rfl<|by intro u hu;rcases N_.1 hu with rfl|hu;exact .num _ _ X X;cases hu⟩) (G8.jS I hg1) trivial
 .refine jX [] ?_;intro f vs Q hf hp C N3 K H;clear N3;try simp only[b_]at H |-
  go_simp;go_at_call 145;refine(kk py).mono ?_;exact Nb
 .refine jX [(some 57,7)] ?_;intro f vs Q hf hp C N3 K H;obtain⟨o, -⟩:=N3;replace o:_=_:=o;try simp only[b_,o]at H |-
  go_simp;go_at_call 142;refine(kW HA nj (jG py) _ C.hz<|kB.leaf _ _ _ _ _ _).mono ?_;rintro e w1⟨A,rfl,N1,hg1⟩;exact H.out _ _ (C.yR (x:=nj) (by simp[m9]) (by intro y hy;simp[m9]at hy;exact hy) hg1 ⟨A,jG py,rfl,N1,SG.leaf (t:=jc nj A<|jG py) (.we _ (show nj∈iq by simp[iq,hV])) rfl rfl<|by intro u hu;rcases N_.1 hu with rfl|hu;exact .var _ _ (by simp[iq,hV]);cases hu⟩) (G8.jS I hg1) trivial
 exact KM
 .refine jX [(some 59,9)] ?_;intro f vs Q hf hp C N3 K H;obtain⟨o, -⟩:=N3;replace o:_=_:=o;try simp only[b_,o]at H |-
  go_simp;go_at_call 142;refine(kW HA oY (jF 0) _ C.hz<|kB.leaf _ _ _ _ _ _).mono ?_;rintro e w1⟨A,rfl,N1,hg1⟩;exact H.out _ _ (C.yR (x:=oY) (by simp[m9]) (by intro y hy;simp[m9]at hy;exact hy) hg1 ⟨A,jF 0,rfl,N1,SG.leaf (t:=jc oY A<|jF 0) (.we _ (show oY∈iq by simp[iq,hV])) rfl rfl<|by intro u hu;rcases N_.1 hu with rfl|hu;exact .num _ _ X X;cases hu⟩) (G8.jS I hg1) trivial
 exact KM
 .refine jX [(some 61,11)] ?_;intro f vs Q hf hp C N3 K H;obtain⟨o, -⟩:=N3;replace o:_=_:=o;try simp only[b_,o]at H |-
  go_simp;go_at_call 142;refine(kW HA yt (jF 0) _ C.hz<|kB.leaf _ _ _ _ _ _).mono ?_;rintro e w1⟨A,rfl,N1,hg1⟩;exact H.out _ _ (C.yR (x:=yt) (by simp[m9]) (by intro y hy;simp[m9]at hy;exact hy) hg1 ⟨A,jF 0,rfl,N1,SG.leaf (t:=jc yt A<|jF 0) (.we _ (show yt∈iq by simp[iq,hV])) rfl rfl<|by intro u hu;rcases N_.1 hu with rfl|hu;exact .num _ _ X X;cases hu⟩) (G8.jS I hg1) trivial
 exact KM
 .refine jX [(some 63,13)] ?_;intro f vs Q hf hp C N3 K H;obtain⟨o, -⟩:=N3;replace o:_=_:=o;try simp only[b_,o]at H |-
  go_simp;go_at_call 142;refine(kW HA yr (jF 0) _ C.hz<|kB.leaf _ _ _ _ _ _).mono ?_;rintro e w1⟨A,rfl,N1,hg1⟩;exact H.out _ _ (C.yR (x:=yr) (by simp[m9]) (by intro y hy;simp[m9]at hy;exact hy) hg1 ⟨A,jF 0,rfl,N1,SG.leaf (t:=jc yr A<|jF 0) (.we _ (show yr∈iq by simp[iq,hV])) rfl rfl<|by intro u hu;rcases N_.1 hu with rfl|hu;exact .num _ _ X X;cases hu⟩) (G8.jS I hg1) trivial
 refine jX [] ?_;intro f vs Q hf hp C N3 K H;clear N3;try simp only[b_]at H |-
 refine i5 k_ ?_;refine o0 229 _ rfl RA 0 r_ 229 tA.g_ tA.g_ C.a (λbk _=>by rw[U_]) _ underlying229 rfl k_ ?_;exact H.out _ _ (C.sS I<|G_ [] _) (G8.jS I<|G_ [] _) rfl
 .refine jX [(some 52,2),(some 54,4),(some 56,6),(some 58,8),(some 60,10),(some 62,12),(some 64,14),(some 65,15)] ?_;intro f vs Q hf hp C N3 K H;obtain⟨-, -, -, -, -, -, -,d3, -⟩:=N3;replace d3:_=_:=d3;try simp only[b_,d3]at H |-
  have bv:f 19=false:=by
   cases a:f 19 with
   |false=>rfl
   |true=>rw[C.FJ a]at hf;cases hf
  obtain⟨aw,eX,av,i2,D⟩:=C.pf bv 2 w6 (by simp[m9])<|hp 2 I;obtain⟨aP,fT,bV,fQ,dB⟩:=C.pf bv 4 vW (by simp[m9])<|hp 4 I;obtain⟨aL,fU,dm,gE,dO⟩:=C.pf bv 6 wl (by simp[m9])<|hp 6 I;obtain⟨bY,u8,dU,gF,eJ⟩:=C.pf bv 8 nj (by simp[m9])<|hp 8 I;obtain⟨di,eC,e10,gB,fo⟩:=C.pf bv 10 oY (by simp[m9])<|hp 10 I;obtain⟨fu,fR,f1,gC,gG⟩:=C.pf bv 12 yt (by simp[m9])<|hp 12 I;obtain⟨fv,fS,f2,gD,gH⟩:=C.pf bv 14 yr (by simp[m9])<|hp 14 I;have fJ:=C.ta;rw[fd.out]at fJ fM;have dW:tA.g_=(ST.mk s1 bT cj c7 b8 bU cn dn cH bu sb sc dJ dK).g_:=by rw[fd.out]
  simp only[av,bV,dm,dU,e10,f1,f2]at H |-;simp only[jc,ST.iu,dW]at H |-;go_simp;have cW:b1<=HA:=X;refine H.out _ _ (C.F1 hf ((G_ [] _).alloc _) (us:=[jc w6 aw eX,jc vW aP fT,jc wl aL fU,jc nj bY u8,jc oY di eC,jc yt fu fR,jc yr fv fS,tA]) rfl rfl ?_ ?_) (G8.jS I<|(G_ [] _).alloc _) trivial
  refine⟨[jc w6 aw eX,jc vW aP fT,jc wl aL fU,jc nj bY u8,jc oY di eC,jc yt fu fR,jc yr fv fS],tA,rfl,rfl,?_⟩;intro s hs;iterate 7 (rcases N_.1 hs with rfl|hs;exact rfl)
  cases hs
  rw[fd.out];refine⟨oL (tR (n:=8) (s:=8) (T_ Q 229 _) rfl (I_ _) I)<|ov C.hz,?_,?_⟩
  .intro u hu;rcases N_.1 hu with rfl|hu
   .exact i2.fresh λx c=>H_ cW c
   rcases N_.1 hu with rfl|hu
   .exact fQ.fresh λx c=>H_ cW c
   rcases N_.1 hu with rfl|hu
   .exact gE.fresh λx c=>H_ cW c
   rcases N_.1 hu with rfl|hu
   .exact gF.fresh λx c=>H_ cW c
   rcases N_.1 hu with rfl|hu
   .exact gB.fresh λx c=>H_ cW c
   rcases N_.1 hu with rfl|hu
   .exact gC.fresh λx c=>H_ cW c
   rcases N_.1 hu with rfl|hu
   .exact gD.fresh λx c=>H_ cW c
   rcases N_.1 hu with rfl|hu
   exact fJ.fresh λx c=>c.1;cases hu
  exact(((((((D.mono I).append<|dB.mono I).append<|dO.mono I).append<|eJ.mono I).append<|fo.mono I).append<|gG.mono I).append<|gH.mono I).append<|fM.mono I
 .refine jX [] ?_;intro f vs Q hf hp C N3 K H;clear N3;try simp only[b_]at H |-
  go_simp;exact H.out _ _ (C.sS I<|G_ [] _) (G8.jS I<|G_ [] _) rfl
 .refine jX [(some 67,17)] ?_;intro f vs Q hf hp C N3 K H;obtain⟨o, -⟩:=N3;replace o:_=_:=o;try simp only[b_,o]at H |-
  obtain⟨cZ,er,ez,cC⟩:=C.lf;go_simp;go_at_call 139;refine((t7 B g m 1).2 1 2 cZ 0 _ rfl X X C.d cC hBm er X X s_).mono ?_;rintro e w1⟨A,j,ts,N,al,rfl,dh,co,cu,dY,bC,cx,bP,aW⟩;exact H.out _ _ (C.F0 hf aW bP ⟨al,cu,X,cx⟩ rfl X X co) (by unfold G8;rw[K_ I,L_ I];exact aW) trivial
 refine jX [(some 66,16),(some 68,18)] ?_;intro f vs Q hf hp C N3 K H;obtain⟨-, -, -⟩:=N3;try simp only[b_]at H |-
 obtain⟨x,us,A,j,ts,N,dr,d6,eo,fE,fk,dD,ag,gN,fF,gl⟩:=C.hj (hp 16 I) (hp 18 I) hf;have fb:=C.hz;simp only[dr,dD]at H |-;have cq:=fE.own;rw[d6]at cq;refine i5 k_ ?_;refine o1 _ _ _ rfl b1 229 i1 _ 8 128 underlying211 bR cf cg ct rfl I I (j_ x) 8 8 (us.flatMap ST.E) r_ cq A ts.length j (ts.flatMap ST.E) r_ fF.sl (lh) X X ?_;intro aw ai bA dg bp bJ;have df:=fE.add (us:=ts) (A':=aw) (c':=ai) (by rw[d6];exact dg) (by rw[d6];exact bp) (by rw[d6];exact bJ) (λu hu=>(gl u hu).imp λy hy=>⟨hy.1,λhe=>by simp[Value.ownBlock]at he;exact hy.2 he.symm⟩)<|(fF.sg.sub λs hs=>by simp[iq,hs]).mono X;have aE:=J.i6 bp
 have eR:∀y∈oX (Value.slice (j_ x) 8 8).ownBlock,y=x:=λy hy=>by have:=jQ.1 hy;simp[Value.ownBlock]at this;exact this.symm
 refine H.out (.slice aw (8+ts.length) ai) _ (C.FZ (hp 16 I) (hp 18 I) aE λy hy=>by rw[eR y hy];exact fk) ?_ ⟨aw,ai,us++ts,9+N,by rw[M_,d6],df,X,by rw[M_,d6];omega,?_,?_⟩;unfold G8;rw[L_ I];refine⟨_,aE,λy hy=>?_⟩;rw[eR y hy];refine⟨fk,λt cs hk=>?_⟩;rcases cq.2 with⟨hv,_⟩|⟨q,l6,cur,hv,_,hh,_⟩
 cases hv
 injection hv with hv;injection hv with hv;injection hv with hv;subst hv;have cY:Q.heap[x]?=_:=hk;rw[hh]at cY;simp at cY;exact cY.2.symm;obtain⟨cn,ej,hu,hn,hk⟩:=eo;exact⟨cn,ej,ts,by rw[hu];simp,hn,hk⟩;intro y hy;rw[M_,d6]at hy;rcases bJ with bJ|bJ
 rw[bJ]at hy;simp[Value.ownBlock]at hy;omega;rw[bJ]at hy;injection hy with hy;omega
 .refine jX [(some 50,0),(some 69,19)] ?_;intro f vs Q hf hp C N3 K H;obtain⟨⟨aX,o,bt,bn⟩,⟨dx,cb,ao,eN,ax,dS,nb⟩, -⟩:=N3;try simp only[b_,o,ax]at H |-
  go_simp;exact H.out _ _ (C.sS I<|G_ [] _) (G8.jS I<|G_ [] _) ⟨aX,dx,cb,ao,eN,rfl,bt,bn,dS,nb⟩
 exact KU
 .refine wL [(some 7,21),(some 70,20)] ?_;intro f vs Q hf hp C N3 K H;obtain⟨⟨aX,o,bt,bn⟩,⟨aO,dx,cb,ao,eN,ax,cD,bG,dS,nb⟩, -⟩:=N3;try simp only[b_,o,ax]at H |-
  have aq:=Bk.mm bG bn I;refine i5 k_ ?_;refine h9 213 rfl aX r_ #[.string qv,.slice (j_ aO) 2 2,.slice dx ao.length cb] r_ 213 bn rfl k_ (by simp[Value.oneCell']) ?_;intro l az G;obtain⟨z,k,h3,ar,au⟩:=C.base G p_;exact H.out undef _ λ_=>⟨aX,aO,dx,cb,ao,eN,o,bt,az,cD,bG.gr G<|zu aq,dS.Fb bn G,nb,C.d.ir G p_,C.lf.gr G p_,z,k,au,trivial⟩
 intro f vs a2 hf C;simp only[b_];clear r dM P p hA ek aG;obtain⟨db,aD,cU,cR,bx,eL,fB,gR,bL,g3,cG,de,e2,r,dM,P,p,G, -⟩:=C;rw[fB];clear fB;replace U:=U.hJ G p_;obtain⟨cT,gY,gZ,h⟩:=dM;clear G;have aS:=h.f_ 3;have z3:=h.hG 3;have af:=h.f_ 1;have aM:=h.hG 1;go_upto_region 10 with fail;clear aS z3 af aM;have bl:J [m] a2 ((a2.setCell (Z m 3)<|Y 2).setCell (Z m 1)<|Y 3):=((G_ [m] a2).setCell (.inl s_) _).setCell (.inl s_) _;replace h:Bk ((a2.setCell (Z m 3)<|Y 2).setCell (Z m 1)<|Y 3) m 222 #[q_ g,Y 3,Y 0,Y 2]:=(h.hW 3 _).hW 1 _;replace r:=r.ir bl p_;replace P:=P.gr bl p_;replace p:=p.iF bl p_;replace bL:=bL.gr bl p_;replace cG:=cG.gr bl p_;replace de:=de.iF bl p_;replace U:=U.hJ bl p_;have gz:=bl.size;obtain⟨aQ,cF⟩:=nm_<|(a2.setCell (Z m 3)<|Y 2).setCell (Z m 1)<|Y 3;rw[<-cF]at h r P p bL cG de U gz |-;clear cF bl;have cX:=r.hF<|(G_ [] aQ).alloc<|.cells #[.string {data:=#[113]}] 9;have cA:=h.alloc<|.cells #[.string {data:=#[113]}] 9
 have gp:∀y,(Value.slice cU bx.length cR).ownBlock=some y->y<aQ.heap.size:=λy hy=>(kK de.own hy).2;have gd:db<aQ.heap.size/\aD<aQ.heap.size:=⟨bL.lt,cG.lt⟩;have g6:b1<=aQ.heap.size:=ov bL.lt;go_upto_region 11 with(first|(go_at_call 139;refine((t7 B g m 2).2 1 2 3 0 _ rfl X X cX cA hBm X X X s_).mono ?_;rintro e eD⟨A,j,ts,N,al,rfl,dh,co,cu,dY,bC,cx,bP,aW⟩;obtain⟨n0,hn0⟩:=nm_ ts.length;have aZ:=O hn0;rw[<-hn0];rw[<-hn0]at dh;clear hn0)|(go_at_call 141;go_loud (refine(vu aQ.heap.size 2 N A n0 j ts (j_ eD.heap.size) 3 9 aZ.out.symm (by rw[aZ.out];exact(co.iF ((G_ [] eD).alloc<|.cells #[.string {data:=#[105]},.string {data:=#[106]},.string {data:=#[107]}] 9) s_).sl) X (λu hu=>((co.iF ((G_ [] eD).alloc<|.cells #[.string {data:=#[105]},.string {data:=#[106]},.string {data:=#[107]}] 9) s_).from u hu).le s_) co.sg (by have:=aW.size;simp at this |-;omega)<|jv (n:=3) (s:=1) (T_ eD 9 #[.string {data:=#[105]},.string {data:=#[106]},.string {data:=#[107]}]) rfl).mono ?_;rintro e bA⟨bY,cM,ss,rfl,d9,eF,e8,bE,eW,dZ⟩;obtain⟨cK,d5⟩:=nm_<|ss++ts;rw[<-d5]at d9 dZ;rw[<-d5];have da:=O d5;obtain⟨bI,dH⟩:=nm_ cK.length;have eu:=O dH;rw[<-dH];clear d5 dH)));obtain⟨wc,d0⟩:=nm_<|bA.alloc<|.cells #[.string pW,.slice (j_ aQ.heap.size) 1 1,.slice bY bI cM] 213;have aV:J [g,m] aQ wc:=by rw[d0];exact(((((G_ [g,m] aQ).alloc _).trans aW).alloc _).trans<|bE.mono s_).alloc _
 have dX:J [] eD wc:=by rw[d0];exact(((G_ [] eD).alloc _).trans bE).alloc _
 replace r:=bP.hF dX;clear h;have h:=cx.hF dX;replace P:=P.gr aV p_;replace p:=p.iF aV p_;replace bL:=bL.gr aV p_;replace cG:=cG.gr aV p_;replace de:=de.iF aV p_;replace U:=U.hJ aV p_;have dy:lP hV aQ.heap.size 3 (8+N) wc bY cM cK:=by rw[d0];exact d9.iF ((G_ [] bA).alloc _) s_
 have aF:Bk wc aQ.heap.size 9 #[.string nj]:=by rw[d0];exact(((T_ aQ 9 #[.string nj]).gr aW p_).alloc _ |>.hF bE).alloc _
 have cV:Bk wc bA.heap.size 213 #[.string pW,.slice (j_ aQ.heap.size) 1 1,.slice bY bI cM]:=by rw[d0];exact T_ bA 213 #[.string pW,.slice (j_ aQ.heap.size) 1 1,.slice bY bI cM]
 obtain⟨dL,fh⟩:=nm_ bA.heap.size;obtain⟨xg,eH⟩:=nm_ aQ.heap.size;have gW:b1<=xg:=X;have gV:xg<dL:=by have:=bE.size;have:=aW.size;simp at*;omega
 have g0:bI<=20:=by
  have bW:=by have:=GG List.length eF;simpa[hV]using this
  rw[eu.out,da.out,M_,bW,<-aZ.out];omega
 have gL:N<=6:=X;rw[<-fh,<-eH]at cV;rw[<-eH]at aF dy;have fN:∀y,(Value.slice cU bx.length cR).ownBlock=some y->y<xg:=λy hy=>by rw[eH];exact gp y hy
 have gQ:db<xg/\aD<xg:=by rw[eH];exact gd
 rw[show bA.alloc (.cells #[.string {data:=#[103]},.slice (j_ aQ.heap.size) 1 1,.slice bY bI cM] 213)=wc from d0.symm,<-fh,<-eH];clear d0 aV dX bP cx aW d9 bE eW dZ co fh eH cX cA;have f6:=de;obtain⟨W,aJ⟩:=nm_ wc;rw[<-aJ]at r h P p bL cG de U dy aF cV |-;clear aJ f6;have gj:xg<=W.heap.size:=ov cV.lt
 have aG:∀vs,rG xg W (λ_=>false) vs W.drew:=λvs=>⟨(λ_ a=>by cases a),(λ_ a=>by cases a),(λa=>by cases a),(G_ [] W).drew⟩;refine ox (λf vs=>rG xg W f vs) (λvs l=>∃(A:OA) (j:Nat) (A1:OA),Bk l dL 213 #[.string pW,.slice (j_ xg) 1 1,.slice A ([(jc oY A1<|jG nj)]++cK).length j]/\lP hV xg 3 (1+(8+N)) l A j ([(jc oY A1<|jG nj)]++cK)/\J [dL] W l) (AX W.heap.size) [SU.mH _<|.agg (jG nj).g_,SU.anyI _,SU.anyI _,SU.mH _<|.pointer<|some<|Z dL 2,SU.mH _<|.slice bY bI cM,SU.AR [5] (λv w=>∃(A:OA) (j:Nat) (A1:OA),v=.slice A ([(jc oY A1<|jG nj)]++cK).length j/\lP hV xg 3 (1+(8+N)) w A j ([(jc oY A1<|jG nj)]++cK)) λi hi v w w' S⟨A,j,A1,z,k⟩=>⟨A,j,A1,z,by unfold AX at S;rw[K_<|zu hi]at S;exact k.iF S s_⟩,SU.mH _<|.pointer<|some<|Z dL 2,SU.anyI _] (SU.anyI _) [[],[0],[1],[],[3],[2,4],[],[6,5]] true [(some 83,0),(some 84,1),(some 85,2),(some 86,3),(some 87,4),(some 88,5),(some 89,6),(none,7)] k_ k_ k_ (λ_ _ _ _ _ a=>a) k_ rfl rfl k_ aG ⟨?_,?_,?_,?_,?_,?_,?_,?_,trivial⟩ ?_
 .refine jX [] ?_;intro f vs Q hf hp C N3 K H;clear N3;try simp only[b_]at H |-
  go_simp;go_at_call 145;refine(kk nj).mono ?_;rintro e w1⟨rfl,hg1⟩;exact H.out _ _ (C.add I hg1) (AX.of I hg1) rfl
 .refine jX [(some 83,0)] ?_;intro f vs Q hf hp C N3 K H;obtain⟨o, -⟩:=N3;replace o:_=_:=o;try simp only[b_,o]at H |-
  go_simp;go_at_call 142;refine(kW W.heap.size oY (jG nj) _ C.gr.size<|kB.leaf _ _ _ _ _ _).mono ?_;rintro e w1⟨A,rfl,N1,hg1⟩;exact H.out _ _ (C.qt hg1 ⟨A,rfl,N1⟩) (AX.of I hg1) trivial
 .refine jX [(some 84,1)] ?_;intro f vs Q hf hp C N3 K H;obtain⟨-, -⟩:=N3;try simp only[b_]at H |-
  have au:f 5=false:=by
   cases a:f 5 with
   |false=>rfl
   |true=>rw[C.o5 a]at hf;cases hf
  obtain⟨A1,aC,gA⟩:=C.h1 au<|hp 1 I;simp only[aC]at H |-;simp only[jc,ST.iu]at H |-;go_simp;refine H.out _ _ (C.GE ((G_ [] _).alloc _) ⟨Q.heap.size,A1,rfl,C.gr.size,?_⟩) (AX.of I<|(G_ [] _).alloc _) trivial;refine⟨oL (tR (n:=1) (s:=8) (T_ Q 229 (jc oY A1<|jG nj).g_) rfl (I_ _) I)<|ov C.gr.size,λu hu=>?_,SG.leaf (t:=(jc oY A1<|jG nj)) (.we _ (show oY∈hV by simp[hV])) rfl rfl<|by intro u hu;rcases N_.1 hu with rfl|hu;exact .var _ _ (by simp[hV]);cases hu⟩
  have:u=(jc oY A1<|jG nj):=J_.1 hu;subst this;exact gA.fresh λx c=>H_ gj c
 exact Lr;refine jX [(some 86,3)] ?_;intro f vs Q hf hp C N3 K H;obtain⟨o, -⟩:=N3;replace o:_=_:=o;try simp only[b_,o]at H |-
 obtain⟨aM,aU,hw,cQ⟩:=id C;have ay:=(cV.hF cQ).f_ 2;exact No;refine jX [(some 85,2),(some 87,4)] ?_;intro f vs Q hf hp C N3 K H;obtain⟨-,ax, -⟩:=N3;replace ax:_=_:=ax;try simp only[b_,ax]at H |-
 obtain⟨cc,A1,av,cv,e5⟩:=C.h2 hf<|hp 2 I;have f9:=dy.iF C.gr s_;have fb:=C.gr.size;simp only[av]at H |-;refine i5 k_ ?_;refine o1 _ _ _ rfl xg 229 i1 _ 8 128 underlying211 bR cf cg ct rfl I I (j_ cc) 1 1 _ r_ e5.own bY bI cM (cK.flatMap ST.E) r_ (by rw[eu.out];exact f9.sl) (lh) X X ?_;intro aw ai l dg bp bJ;have dH:=eu.out;have df:=e5.add (us:=cK) (A':=aw) (c':=ai) (by rw[<-dH];exact dg) bp (by rw[<-dH];exact bJ) (λu hu=>((dy.ju u hu).lt.imp λy hy=>⟨hy.1.1,λhe=>by simp[Value.ownBlock]at he;have:=hy.2;omega⟩).hF C.gr)<|dy.sg;have aE:=J.i6 bp
 have eR:∀y∈oX (Value.slice (j_ cc) 1 1).ownBlock,W.heap.size<=y:=λy hy=>by have:=jQ.1 hy;simp[Value.ownBlock]at this;omega
 refine H.out (.slice aw (1+bI) ai) _ (C.GD (hp 2 I) aE eR) (by unfold AX;rw[L_ I];exact⟨_,aE,eR⟩) ⟨aw,ai,A1,by rw[M_,<-dH];rfl,df⟩;exact Lr
 .refine wL [(some 89,6),(some 88,5)] ?_;intro f vs Q hf hp C N3 K H;obtain⟨o,⟨dx,cb,fy,ax,dS⟩, -⟩:=N3;replace o:_=_:=o;try simp only[b_,o,ax]at H |-
  have e6:=cV.hF C.gr;have ay:=e6.f_ 2;have aU:=e6.hG 2;go_simp;have G:J [dL] Q (Q.setCell (Z dL 2)<|.slice dx ([jc oY fy<|jG nj]++cK).length cb):=(G_ [dL] Q).setCell (.inl s_) _;exact H.out undef _ λ_=>⟨dx,cb,fy,e6.hW 2 _,dS.Fb e6 G,(C.gr.mono s_).trans G⟩
 intro f vs a2 hf C;simp only[b_];have fG:=cV;clear dy aG cV;obtain⟨Ag,dP,a1,cV,dy,G⟩:=C;have gS:b1<=dL:=X;have gy:=Bk.mm cG bL I;replace r:=r.ir G p_;replace h:=h.gr G p_;replace P:=P.gr G p_;replace p:=p.iF G p_;replace bL:=bL.gr G p_;replace cG:=cG.gr G p_;replace aF:=aF.gr G p_;replace de:=de.Fb fG G;clear fG;replace U:=U.hJ G p_;clear G;go_upto_region 12 with fail;obtain⟨W,aJ⟩:=nm_ a2;rw[<-aJ]at r h P p bL cG de U dy aF cV |-;clear aJ;have gi:=cV.lt;have cS:∀y∈[g],y∈(g::oX (Value.slice cU bx.length cR).ownBlock):=s_
 have e7:∀y∈oX (Value.slice cU bx.length cR).ownBlock,HA<=y/\y<xg:=λy hy=>⟨e2.2.2.2 y<|jQ.1 hy,fN y<|jQ.1 hy⟩;have fO:∀y∈oX (Value.slice cU bx.length cR).ownBlock,y≠db/\y≠aD:=λy hy=>by
  rcases de.own.2 with⟨hv,_⟩|⟨q,l6,cur,hv,_,hh,_⟩
  have:=jQ.1 hy;rw[hv]at this;cases this
  have z:=jQ.1 hy;rw[hv]at z;have k:=by simpa[Value.ownBlock]using z
  subst k;refine⟨λhe=>?_,λhe=>?_⟩;have cY:W.heap[db]?=_:=bL;rw[<-he,hh]at cY;simp at cY;have cY:W.heap[aD]?=_:=cG;rw[<-he,hh]at cY;simp at cY
 have eE:∀y∈oX (Value.slice cU bx.length cR).ownBlock,B<=y/\m≠y:=λy hy=>by have:=e7 y hy;omega
 have fP:∀y,(Value.slice cU bx.length cR).ownBlock=some y->y<W.heap.size:=λy hy=>by have:=fN y hy;omega
 have eQ:=T;clear T;have T:∀y∈(g::oX (Value.slice cU bx.length cR).ownBlock),y<W.heap.size:=by
  intro y hy;rcases N_.1 hy with rfl|hy
  omega;exact fP y<|jQ.1 hy
 have aG:Ps B g m 2 3 (g::oX (Value.slice cU bx.length cR).ownBlock) (λw=>Bk w R0 150 #[n_]/\mW b1 H9 RM w/\Bk w db 213 #[.string qv,.slice (j_ aD) 2 2,.slice cU bx.length cR]/\Bk w aD 9 #[.string {data:=#[112]},.string {data:=#[110]}]/\Bk w dL 213 #[.string pW,.slice (j_ xg) 1 1,.slice Ag ([jc oY a1<|jG nj]++cK).length dP]/\Bk w xg 9 #[.string nj]/\lP hV xg 3 (1+(8+N)) w Ag dP ([jc oY a1<|jG nj]++cK)) (λw=>lP iq b1 5 eL w cU cR bx) W false W.drew:=⟨r.hF (G_ [] W).drew,⟨al,cu,X,h.hF (G_ [] W).drew⟩,⟨P.hF (G_ [] W).drew,p.iF (G_ [] W).drew s_,bL.hF (G_ [] W).drew,cG.hF (G_ [] W).drew,cV.hF (G_ [] W).drew,aF.hF (G_ [] W).drew,dy.iF (G_ [] W).drew s_⟩,λ_=>de.iF (G_ [] W).drew s_,(G_ _ W).drew,
  λbf b a⟨bz,bX,dt,dQ,f5,dR,f7⟩=>by
   have dE:∀x∈(g::oX (Value.slice cU bx.length cR).ownBlock),x=g\/(HA<=x/\x<xg/\x≠db/\x≠aD):=λx c=>by
    rcases N_.1 c with rfl|c
    exact .inl rfl;exact .inr ⟨(e7 x c).1,(e7 x c).2,(fO x c).1,(fO x c).2⟩
   exact⟨bz.gr a (λc=>by have:=dE _ c;omega),bX.iF a (λx c=>by have:=dE x c;omega),dt.gr a (λc=>by have:=dE _ c;omega),dQ.gr a (λc=>by have:=dE _ c;omega),f5.gr a (λc=>by have:=dE _ c;omega),dR.gr a (λc=>by have:=dE _ c;omega),f7.iF a λx c=>by have:=dE x c;omega⟩,
  λbf b a k=>k.iF a p_,s_,X⟩
 refine oy (λf=>Ps B g m 2 3 (g::oX (Value.slice cU bx.length cR).ownBlock) (λw=>Bk w R0 150 #[n_]/\mW b1 H9 RM w/\Bk w db 213 #[.string qv,.slice (j_ aD) 2 2,.slice cU bx.length cR]/\Bk w aD 9 #[.string {data:=#[112]},.string {data:=#[110]}]/\Bk w dL 213 #[.string pW,.slice (j_ xg) 1 1,.slice Ag ([jc oY a1<|jG nj]++cK).length dP]/\Bk w xg 9 #[.string nj]/\lP hV xg 3 (1+(8+N)) w Ag dP ([jc oY a1<|jG nj]++cK)) (λw=>lP iq b1 5 eL w cU cR bx) W<|f 7) (λvs l=>∃(A:OA) (j:Nat) (us:QW),us.length=1/\Bk l db 213 #[.string qv,.slice (j_ aD) 2 2,.slice A (bx++us).length j]/\lP iq b1 5 (eL+1) l A j (bx++us)/\iV l B g/\Bk l R0 150 #[n_]/\mW b1 H9 RM l/\Bk l aD 9 #[.string {data:=#[112]},.string {data:=#[110]}]/\Bk l dL 213 #[.string pW,.slice (j_ xg) 1 1,.slice Ag ([jc oY a1<|jG nj]++cK).length dP]/\Bk l xg 9 #[.string nj]/\lP hV xg 3 (1+(8+N)) l Ag dP ([jc oY a1<|jG nj]++cK)/\J (db::(g::oX (Value.slice cU bx.length cR).ownBlock)) W l) (G2 7 [g]<|g::oX (Value.slice cU bx.length cR).ownBlock) [SU.mH _<|.pointer<|some<|Z db 2,SU.mH _<|.slice cU bx.length cR,SU.mH _<|q_ m,(SU.tree T<|1).wj λ_ _ _ a=>a.gr cS,(SU.trees T 2 1).wj λ_ _ _ a=>a.gr cS,(SU.stmt T (1)<|1).wj λ_ _ _ a=>a.gr cS,(SU.of (λv w=>∃(x:Nat) (t:ST),v=.slice (j_ x) 1 1/\W.heap.size<=x/\Bk w x 229 t.g_/\jR (jK W.heap.size) w t/\SG hV 1 1 t) λ_ _ _ S⟨x,t,z,k,h3,ar,au⟩=>⟨x,t,z,k,h3.gr S (λh=>by have:=T x h;omega),ar.ir S λy hy=>Hx.2<|T y hy,au⟩).wj λ_ _ _ a=>a.gr cS,SU.AR [7] (λv w=>∃(aw:OA) (ai:Nat) (us:QW) (n2:Nat),v=.slice aw n2 ai/\(us.length=1/\n2=(bx++us).length)/\lP iq b1 5 (eL+1) w aw ai (bx++us)) λi hi v w w' S⟨aw,ai,us,n2,z,h0,k⟩=>⟨aw,ai,us,n2,z,h0,k.iF (S.ne<|zu hi) p_⟩,SU.mH _<|.pointer<|some<|Z db 2,SU.anyI _] (SU.anyI _) [[],[0],[],[2],[3],[4],[5],[1,6],[],[8,7]] true [(some 90,0),(some 91,1),(some 92,2),(some 93,3),(some 94,4),(some 95,5),(some 96,6),(some 97,7),(some 98,8),(none,9)] k_ k_ k_ (λ_ _ _ _ _ a=>a) k_ rfl rfl k_ aG ⟨?_,?_,?_,?_,?_,?_,?_,?_,?_,?_,trivial⟩ ?_;exact L3;refine jp [(some 90,0)] ?_;intro f vs Q hf C N3 K H;obtain⟨o, -⟩:=N3;replace o:_=_:=o;try simp only[b_,o]at H |-
 obtain⟨c9,ft,eY,hq,cQ, -⟩:=id C;have ay:=eY.2.2.1.f_ 2;exact NJ;exact L3
 .refine jp [(some 92,2)] ?_;intro f vs Q hf C N3 K H;obtain⟨o, -⟩:=N3;replace o:_=_:=o;try simp only[b_,o]at H |-
  obtain⟨cZ,er,ez,cC⟩:=C.lf;go_simp;go_at_call 140;refine(kP B g m cZ 0 2 1 X _ rfl _ C.d cC hBm).mono ?_;exact Mq
 refine jp [(some 93,3)] ?_;exact JR;refine jp [(some 94,4)] ?_;exact JC;refine jp [(some 95,5)] ?_;exact J6;refine jp [(some 91,1),(some 96,6)] ?_;intro f vs Q hf C N3 K H;obtain⟨o,⟨aO,ao,ax,cD,bG,V,d⟩, -⟩:=N3;replace o:_=_:=o;try simp only[b_,o,ax]at H |-
 have co:=C.l hf;have fb:=C.hz;refine i5 k_ ?_;refine o1 _ _ _ rfl b1 229 i1 _ 8 128 underlying211 bR cf cg ct rfl I I cU bx.length cR (bx.flatMap ST.E) r_ co.own _ 1 1 ([ao].flatMap ST.E) r_ (rT ao bG) (lh) X X ?_;intro aw ai bA cq bp bJ;have df:=co.add (us:=[ao]) cq bp bJ (λu hu=>by have:u=ao:=(zu hu);subst this;exact V.imp λy hy=>⟨by have:W.heap.size<=y:=hy;omega,λhe=>by have z:=fP y he;have:W.heap.size<=y:=hy;omega⟩)<|(d.sub λs hs=>by simp[iq,hs]).mono X;exact H.out (.slice aw (bx.length+1) ai) _ (C.app (J.i6 bp) eE λy hy=>by simp[hy]) ((J.i6 bp).mono<|by intro y hy;simp[hy]) ⟨aw,ai,[ao],bx.length+1,rfl,⟨rfl,s_⟩,df⟩;exact L3
 .refine wM [(some 98,8),(some 97,7)] ?_;intro f vs Q hf C N3 K H;obtain⟨o,⟨dx,cb,ao,mb,ax,nb,dS⟩, -⟩:=N3;replace o:_=_:=o;try simp only[b_,o,ax]at H |-
  have fw:=O nb;clear nb;have fH:=C.f.2.2.1;have ay:=fH.f_ 2;have aU:=fH.hG 2;go_simp;have G:J [db] Q (Q.setCell (Z db 2)<|.slice dx mb cb):=(G_ [db] Q).setCell (.inl s_) _;obtain⟨bz,bX,dt,dQ,f5,dR,f7⟩:=C.f;exact H.out undef _ λ_=>⟨dx,cb,ao,fw.out.1,by rw[<-fw.out.2];exact dt.hW 2 _,dS.Fb dt G,C.d.ir G p_,bz.gr G p_,bX.iF G p_,dQ.gr G (by simp;exact gy),f5.gr G p_,dR.gr G p_,f7.Fb dt G,(C.gr.mono<|by intro y hy;simp[hy]).trans<|G.mono s_⟩
 intro f vs a2 hf C;simp only[b_];clear r h P p bL cG de dy aF cV aG;obtain⟨eK,eO,us,gu,bL,de,r,P,p,cG,cV,aF,dy,G⟩:=C;replace U:=U.hJ G (by intro x c;rcases N_.1 c with rfl|c;right;omega;rcases N_.1 c with rfl|c;left;simp;right;have:=e7 x c;omega);clear G;obtain⟨d2,cm,bm,d4,fD,ga,aR,bD⟩:=p;obtain⟨nm,d7⟩:=nm_ bm.length;obtain⟨fp,fi⟩:=nm_<|(bx++us).length;obtain⟨fq,fj⟩:=nm_<|([jc oY a1<|jG nj]++cK).length;rw[<-d7]at d4;rw[<-fi]at bL;rw[<-fj]at cV;have eZ:=O d7;have fW:=O fi;have fX:=O fj;have gm:([jc oY a1<|jG nj]++cK).length=1+bI:=by rw[M_,<-eu.out];rfl
 have gk:b1<a2.heap.size/\R0<m/\m<b1:=⟨ov d4.lt,X,X⟩;have f4:H9<=a2.heap.size:=ov cV.lt;have eP:=(de.fin<|I_ _).DM (ps:=[py,Dh]) (jv (n:=2) (s:=1) cG rfl) (I_ 2) (λy off a _=>by injection a with a;injection a with a;have:=cG.lt;omega);have fC:=((dy.fin<|I_ _).DM (ps:=[nj]) (Ek aF) (I_ 1) λy off a _=>by injection a with a;injection a with a;have:=aF.lt;omega);have gf:=de.sg;have gh:=dy.sg;clear d7 fi fj cG aF de dy;obtain⟨dq,eG⟩:=nm_ a2;rw[<-eG]at r P d4 bL cV fD eP fC U gk f4 |-;clear eG;have bq:=d4.f_ 0;have aY:=d4.f_ 1;have bj:=d4.f_ 2;have bH:=bL.f_ 0;have bZ:=bL.f_ 1;have dk:=bL.f_ 2;have d1:=cV.f_ 0;have cO:=cV.f_ 1;have c3:=cV.f_ 2
 go_wp2_with (refine k6 #[.slice (j_ dq.heap.size) 3 3] (P.alloc _) (by simp[Value.oneCell']) ?_;intro l az G);have ak:Bk (dq.alloc<|.cells #[.string w5,n_,.slice d2 nm cm,.string qv,.slice (j_ aD) 2 2,.slice eK fp eO,.string pW,.slice (j_ xg) 1 1,.slice Ag fq dP] 213) dq.heap.size 213 #[.string w5,n_,.slice d2 nm cm,.string qv,.slice (j_ aD) 2 2,.slice eK fp eO,.string pW,.slice (j_ xg) 1 1,.slice Ag fq dP]:=T_ dq 213 _;have g5:dq.heap.size<=l.heap.size:=by have:=G.size;simp at this;omega
 have cF:w.heap.size<=b1:=X;have e1:=(G_ [] dq).alloc<|.cells #[.string w5,n_,.slice d2 nm cm,.string qv,.slice (j_ aD) 2 2,.slice eK fp eO,.string pW,.slice (j_ xg) 1 1,.slice Ag fq dP] 213;have bi:Sl l 213 3 (j_ dq.heap.size) 3 ([(⟨w5,none,0,[],d2,cm,bm⟩:FT),⟨qv,some<|Z aD 0,2,[py,Dh],eK,eO,bx++us⟩,⟨pW,some<|Z xg 0,1,[nj],Ag,dP,([jc oY a1<|jG nj]++cK)⟩].flatMap FT.E):=by
  have:=jv (n:=3) (s:=3) (ak.gr G p_) rfl;rw[eZ.out,fW.out,fX.out]at this;exact this
 refine rr_ #[.slice (j_ dq.heap.size) 3 3] az underlying150 ⟨dq.heap.size,⟨w5,none,0,[],d2,cm,bm⟩,⟨qv,some<|Z aD 0,2,[py,Dh],eK,eO,bx++us⟩,⟨pW,some<|Z xg 0,1,[nj],Ag,dP,([jc oY a1<|jG nj]++cK)⟩,rfl,bi,?_,?_,?_,⟨rfl,rfl,ga⟩,⟨rfl,rfl,?_⟩,⟨rfl,rfl,?_⟩,(r.hF e1).ir G p_,(U.alloc _).hJ G p_⟩;exact((fD.iF e1 s_).iF G p_).wide cF X;exact((eP.iF e1 s_).iF G p_).wide cF X;exact((fC.iF e1 s_).iF G p_).wide X X;refine⟨?_,eL+1,gf,ov e2.1,by rw[M_,gu];have:=e2.2.1;omega⟩;obtain⟨cn,ej,ls,bo,D,k3⟩:=e2.2.2.1;exact⟨cn,ej,ls++us,by rw[bo];simp,D,k3⟩;exact⟨jc oY a1<|jG nj,ss,ts,1+(8+N),by rw[da.out];rfl,rfl,rfl,eF,e8,gh,X,by rw[gm];omega⟩
end
variable{w:World}{k:Nat}(A:OA)(l:QU)(s:ByteArray)
def Nk{G:Prop} (h:G:=by
 go_wp2;go_round;exact⟨k+1,X,gn⟩;exact mz):G:=h
def Bs(w:World)(A:OA)(l:QU):Prop:=Sl w 9 1 A l.length<|l.map Value.string
def hasB(l:QU)(s:ByteArray):Bool:=l.any λx=>x.toList==s.toList
def oQ(n c:Nat)(l:QU)(s:ByteArray)(w:World)(r:l.length=n)(h:Bs w A l)(B:n<=1000000):
 Calls prog 171 #[.slice A n c,.string s] w λe w'=>e=.returned (.bool<|hasB l s)/\w=w':=by
 obtain⟨t,a⟩:∃t:Ending->World->Prop,t=λe w'=>e=.returned (.bool<|hasB l s)/\w=w':=⟨_,rfl⟩;rw[<-a];have m:=O a;have j:=O r;clear a r;go_enter func171,ntmps171;go_wp2
 go_loop [9] (λf=>∃k:Nat,k<=n/\f=Y k/\hasB l s=hasB (l.drop k) s) (λf=>n-(intOf f).toNat)
 case atStart=>exact⟨0,R_ _,gn,s_⟩
 obtain⟨k,C,rfl,i⟩:=hrel;have HI:=O i;clear i;by_cases y:k<n
 .have b:k<l.length:=ov j.out;obtain⟨z,D,v,p⟩:=h.f_ X;subst v;have u:=p k (.string l[k]) (by rw[Hg,O_ b];rfl);obtain⟨x,g⟩:=nm_<|l[k];have o:=O g;rw[<-g]at u;clear g p;go_wp2
  .rw[m.out];refine⟨?_,rfl⟩;rw[HI.out,W_ b,<-o.out];have d:(x.toList==s.toList)=true:=by assumption
   unfold hasB;rw[I2,d,Ja]
  go_round
  case rel=>
   refine⟨k+1,X,gn,?_⟩;rw[HI.out,W_ b,<-o.out];have d:=by assumption
   unfold hasB;rw[I2,d,IG]
  case measure=>exact mz
 go_wp2;rw[m.out];refine⟨?_,rfl⟩;rw[HI.out,Hd<|ov j.out];rfl
def rE(l:QU)(s:ByteArray):List ByteArray:=if hasB l s=true then l else l++[s]
def qx(base:Nat)(w:World)(A:OA)(c:Nat)(l:QU):Prop:=w.ownsRow base 9 1 (.slice A l.length c) l.length<|l.map Value.string
def DI(base:Nat)(o:Option Nat)(l:QU)(w:World)(e:Ending)(w':World):Prop:=∃(A:OA) (c:Nat),e=.returned (.slice A l.length c)/\qx base w' A c l/\J (oX o) w w'
def qx.bs{base c:Nat}{A:OA}{l:QU}(h:qx base w A c l):Bs w A l:=Sl.iZ h
def vC(base:Nat)(A:OA){n:Nat}(c:Nat)(l:QU)(s:ByteArray)(w:World)(i:l.length=n)(h:qx base w A c l)(G:n<=100000)(H:base<=w.heap.size):
 Calls prog 173 #[.slice A n c,.string s] w (DI base (Value.slice A n c).ownBlock (rE l s) w):=by
 obtain⟨C,E,y,x,z⟩:=info_parts infoStr;obtain⟨K,f⟩:=nm_<|DI base (Value.slice A n c).ownBlock (rE l s) w;rw[<-f];have m:=O f;have b:=O i;have j:w.ownsRow base 9 1 (.slice A n c) n (l.map Value.string):=by rw[<-i];exact h
 have o:=h.bs;clear f i h;cases d:hasB l s with
 |true=>
  have a:=oQ A n c l s w b.out o X;rw[d]at a;have g:=O a;have e:=O (show rE l s=l by unfold rE;rw[L_ d]);clear a d;go_enter func173,ntmps173;go_wp2_with (go_at_call 171;refine g.out.mono ?_;rintro B D⟨rfl,rfl⟩);rw[m.out];unfold DI;rw[e.out];exact⟨A,c,by rw[b.out];rfl,by unfold qx;rw[b.out];exact j,G_ _ _⟩
 |false=>
  have a:=oQ A n c l s w b.out o X;rw[d]at a;have g:=O a;have e:=O (show rE l s=l++[s] by unfold rE;rw[K_<|by rw[d];decide]);clear a d;have q:=iO j<|(G_ [] w).alloc<|.cells #[.string s] 9;go_enter func173,ntmps173;go_wp2_with (first|(go_at_call 171;refine g.out.mono ?_;rintro B D⟨rfl,rfl⟩)|(at_builtin;refine kf rfl rfl base 9 C 1 16 underlying207 E y x z rfl I I A n c _ rfl q _ 1 1 ([s].map Value.string) rfl (jv (n:=1) (s:=1) (T_ w 9 #[.string s]) rfl) (by intro L p;simp at p;subst p;rfl) X p_ ?_;intro u r M t v F));rw[m.out];unfold DI;rw[e.out];refine⟨u,r,by rw[M_,b.out];rfl,?_,(((G_ _ w).alloc _).trans<|J.i6 v)⟩;unfold qx;rw[M_,GN,b.out];exact t
structure FD where
 ex:Int
 name:Bool
 fn:Bool
 n:Bool
 op:Bool
 body:Bool
 els:Bool
def prt(k:Int):FD:=
 if k=1\/k=11 then⟨1,true,false,false,false,false,false⟩
 else if k=2 then⟨2,false,false,true,false,false,false⟩
 else if k=3 then⟨-1,true,true,false,false,false,false⟩
 else if k=4 then⟨1,false,false,false,false,true,true⟩
 else if k=5 then⟨2,true,false,false,false,true,false⟩
 else if k=6 then⟨1,false,false,false,false,true,false⟩
 else if k=7\/k=8\/k=10 then⟨1,false,false,false,false,false,false⟩
 else if k=9 then⟨0,true,false,false,false,true,true⟩
 else⟨1,true,false,false,true,false,false⟩
def FD.v(p:FD):Value:=.tuple #[Y p.ex,.bool p.name,.bool p.fn,.bool p.n,.bool p.op,.bool p.body,.bool p.els,.bool true]
def F4(v:Value)(w:World)(e:Ending)(w':World):Prop:=e=.returned v/\w=w'
def vl(k:Int)(w:World)(a:1<=k)(b:k<=12):Calls prog 216 #[Y k] w (F4 (prt k).v w):=by
 rcases(by omega:k=1\/k=2\/k=3\/k=4\/k=5\/k=6\/k=7\/k=8\/k=9\/k=10\/k=11\/k=12)with rfl|rfl|rfl|rfl|rfl|rfl|rfl|rfl|rfl|rfl|rfl|rfl
 all_goals
  clear a b;go_enter func216,ntmps216;go_wp2;refine⟨rfl,(prt _).v,?_,rfl,rfl⟩
  kernel_rfl
def w7{k:Int}(b:1<=k)(c:k<=12):Calls prog 200 #[Y k] w λe w'=>e=.returned (.bool (prt k).name)/\w=w':=by
 have a:=O<|vl k w b c;clear b c;obtain⟨f,d⟩:=nm_<|prt k;rw[<-d]at a |-;clear d;obtain⟨g,h,i,j,e,m,n⟩:=f
 go_enter func200,ntmps200;go_wp2_with (go_at_call 216;refine a.out.mono ?_;rintro e w'⟨rfl,rfl⟩;simp only[FD.v]);go_ret;exact NV
def FT.Er(f:FT):f.E.length=3:=rfl
def CK(w:World)(A:OA)(fs:QG):Prop:=Sl w 213 3 A fs.length<|fs.flatMap FT.E
def CK.at_{A:OA}{fs:QG}(h:CK w A fs)(e:k<fs.length):∃b a,A=some (Z b a)/\w.cell? (Z b<|a+k*3)=some (.string fs[k].name)/\w.cell? (Z b<|a+k*3+1)=some (.slice fs[k].AP fs[k].ps.length fs[k].cP)/\w.cell? (Z b<|a+k*3+2)=some (.slice fs[k].A fs[k].bs.length fs[k].c):=by
 obtain⟨b,a,f,d⟩:=Sl.f_ h X;refine⟨b,a,f,?_,?_,?_⟩;exact d (k*3) _ (by have:=jr FT.E 3 FT.Er fs k 0 e X;rw[Id]at this;rw[this];rfl);rw[Ik];exact d (k*3+1) _ (by rw[jr FT.E 3 FT.Er fs k 1 e X];rfl);rw[Ik];exact d (k*3+2) _ (by rw[jr FT.E 3 FT.Er fs k 2 e X];rfl)
def ux(s:ByteArray):List FT->Int->Int
 |[],_=> -1
 |f::l,k=>if(f.name.toList==s.toList)=true then k else ux s l (k+1)
def nV(n c:Nat)(fs:QG)(s:ByteArray)(w:World)(x:fs.length=n)(h:CK w A fs)(K:n<=1000):
 Calls prog 170 #[.agg #[.slice A n c],.string s] w λe w'=>e=.returned (Y<|ux s fs 0)/\J [] w w':=by
 obtain⟨y,b⟩:∃y:Ending->World->Prop,y=λe w'=>e=.returned (Y<|ux s fs 0)/\J [] w w':=⟨_,rfl⟩;rw[<-b];have t:=O b;have r:=O x;clear b x;have j:=T_ w 150 #[.slice A n c];have d:=(G_ [] w).alloc<|.cells #[.slice A n c] 150;go_enter func170,ntmps170;go_upto_region 1 with fail;obtain⟨G,p⟩:=nm_<|w.alloc<|.cells #[.slice A n c] 150;rw[<-p]at j d |-;clear p;obtain⟨F,v⟩:=nm_ w.heap.size;rw[<-v]at j |-;clear v;have z:=j.f_ 0
 go_upto_region 2 with fail;clear z;go_loopw [10] (λi w'=>∃k:Nat,k<=n/\i=Y k/\ux s fs 0=ux s (fs.drop k) k/\J [] w w') (λi _=>n-(intOf i).toNat)
 case atStart=>exact⟨0,R_ _,gn,s_,d⟩
 obtain⟨k,L,rfl,o,a⟩:=hrel;have HI:=O o;clear o d;by_cases H:k<n
 .have f:k<fs.length:=ov r.out;obtain⟨I,M,E,C,D,B⟩:=CK.at_ (Sl.hF h a) f;subst E;obtain⟨N,m⟩:=nm_<|fs[k];have u:=O m;rw[<-m]at C D B;clear m;go_wp2
  .rw[t.out];refine⟨?_,a.alloc _⟩;rw[HI.out,W_ f,<-u.out];have g:=by assumption
   rw[ux,L_ g];rfl
  go_roundw
  case rel=>
   refine⟨k+1,X,gn,?_,a.alloc _⟩;rw[HI.out,W_ f,<-u.out];have g:=by assumption
   rw[ux,K_<|by rw[g];decide];rfl
  case measure=>exact mz
 go_wp2;rw[t.out];refine⟨?_,a⟩;rw[HI.out,Hd<|ov r.out];rfl
def opWords:List ByteArray:=[{data:=#[]},{data:=#[97,100,100]},{data:=#[115,117,98]},{data:=#[109,117,108]},{data:=#[100,105,118]},{data:=#[109,105,110]},{data:=#[109,97,120]},{data:=#[97,110,100]},{data:=#[111,114]},{data:=#[120,111,114]},{data:=#[108,101,115,115]},{data:=#[101,113,117,97,108]}]
def nP:List ByteArray:=[{data:=#[110,105,108]},{data:=#[102,105,101,108,100]},{data:=#[110,101,119]},{data:=#[102,117,110,99]},{data:=#[115,101,116]},{data:=#[115,116,111,114,101]},{data:=#[99,97,108,108]},{data:=#[105,102]},{data:=#[101,108,115,101]},{data:=#[102,111,114]},{data:=#[119,104,105,108,101]},{data:=#[114,101,116,117,114,110]},{data:=#[116,104,114,111,119]},{data:=#[116,114,121]},{data:=#[99,97,116,99,104]},{data:=#[101,109,105,116]},{data:=#[97,115,107]},{data:=#[114,101,100,117,99,101]},{data:=#[101,110,100]}]
def BT:Array Value:=#[e_,.string {data:=#[97,100,100]},.string {data:=#[115,117,98]},.string {data:=#[109,117,108]},.string {data:=#[100,105,118]},.string {data:=#[109,105,110]},.string {data:=#[109,97,120]},.string {data:=#[97,110,100]},.string {data:=#[111,114]},.string {data:=#[120,111,114]},.string {data:=#[108,101,115,115]},.string {data:=#[101,113,117,97,108]}]
def Af:Calls prog 208 #[] w λe w'=>e=.returned (.slice (j_ w.heap.size) 12 12)/\w'=w.alloc (.cells BT 9):=by
 go_enter func208,ntmps208;go_wp2_with fail;go_ret;exact NV
def xh{l:QU}{s:ByteArray}(h:hasB l s=false)(a:k<l.length):(l[k].toList==s.toList)=false:=by
 unfold hasB at h;rw[List.any_eq_false]at h;simpa using h l[k] (P_ a)
def Dd(h:hasB opWords s=false):Calls prog 221 #[.string s] w λe w'=>e=.returned (.tuple #[Y 0,.bool false])/\J [] w w':=by
 obtain⟨g,a⟩:∃g:Ending->World->Prop,g=λe w'=>e=.returned (.tuple #[Y 0,.bool false])/\J [] w w':=⟨_,rfl⟩;rw[<-a];have ax:=O a;clear a;have hg:=(G_ [] w).alloc<|.cells BT 9;have n:=T_ w 9 BT;go_enter func221,ntmps221;go_wp2_with (go_at_call 208;refine(Af).mono ?_;rintro e w'⟨rfl,rfl⟩)
 go_loop [8] (λb=>∃k:Nat,k<=12/\b=Y k) (λb=>12-(intOf b).toNat)
 case atStart=>exact⟨0,X,gn⟩
 obtain⟨k,p,rfl⟩:=hrel;by_cases j:k<12
 .have c:k<opWords.length:=j;have m:=xh h c;have d:BT[k]?=some (.string opWords[k]):=by
   have:BT=(opWords.map Value.string).toArray:=rfl;rw[this];simp[O_ c]
  have i:=(n.f_ k).trans d;obtain⟨q,f⟩:=nm_<|opWords[k];rw[<-f]at m i;clear f d;by_cases o:0<k;all_goals
   go_wp2;go_round;exact⟨k+1,X,gn⟩;exact mz
 exact NK
def BH:Array Value:=#[.string {data:=#[110,105,108]},.string {data:=#[102,105,101,108,100]},.string {data:=#[110,101,119]},.string {data:=#[102,117,110,99]},.string {data:=#[115,101,116]},.string {data:=#[115,116,111,114,101]},.string {data:=#[99,97,108,108]},.string {data:=#[105,102]},.string {data:=#[101,108,115,101]},.string {data:=#[102,111,114]},.string {data:=#[119,104,105,108,101]},.string {data:=#[114,101,116,117,114,110]},.string {data:=#[116,104,114,111,119]},.string {data:=#[116,114,121]},.string {data:=#[99,97,116,99,104]},.string {data:=#[101,109,105,116]},.string {data:=#[97,115,107]},.string {data:=#[114,101,100,117,99,101]},.string {data:=#[101,110,100]}]
def BI(h:hasB opWords s=false)(y:hasB nP s=false):Calls prog 214 #[.string s] w λe w'=>e=.returned (.bool false)/\J [] w w':=by
 obtain⟨n,a⟩:∃n:Ending->World->Prop,n=λe w'=>e=.returned (.bool false)/\J [] w w':=⟨_,rfl⟩;rw[<-a];have u:=O a;clear a;have j:=(G_ [] w).alloc<|.cells BH 9;have f:=T_ w 9 BH;obtain⟨p,b⟩:=nm_<|w.alloc<|.cells BH 9;have x:=O b;rw[<-b]at j f;obtain⟨z,d⟩:=nm_ w.heap.size;have v:=O d;rw[<-d]at f;clear b d;have o:=O h;clear h;go_enter func214,ntmps214;go_upto_region 2 with fail;rw[show w.alloc (.cells #[.string {data:=#[110,105,108]},.string {data:=#[102,105,101,108,100]},.string {data:=#[110,101,119]},.string {data:=#[102,117,110,99]},.string {data:=#[115,101,116]},.string {data:=#[115,116,111,114,101]},.string {data:=#[99,97,108,108]},.string {data:=#[105,102]},.string {data:=#[101,108,115,101]},.string {data:=#[102,111,114]},.string {data:=#[119,104,105,108,101]},.string {data:=#[114,101,116,117,114,110]},.string {data:=#[116,104,114,111,119]},.string {data:=#[116,114,121]},.string {data:=#[99,97,116,99,104]},.string {data:=#[101,109,105,116]},.string {data:=#[97,115,107]},.string {data:=#[114,101,100,117,99,101]},.string {data:=#[101,110,100]}] 9)=p from x.out.symm,<-v.out]
 go_loop [9] (λc=>∃k:Nat,k<=19/\c=Y k) (λc=>19-(intOf c).toNat)
 case atStart=>exact⟨0,X,gn⟩
 obtain⟨k,B,rfl⟩:=hrel;by_cases r:k<19;have g:k<nP.length:=r;have t:=xh y g;have i:BH[k]?=some (.string nP[k]):=by
  have:BH=(nP.map Value.string).toArray:=rfl;rw[this];simp[O_ g]
 have q:=(f.f_ k).trans i;obtain⟨C,m⟩:=nm_<|nP[k];rw[<-m]at t q;clear m i;exact Nk;go_wp2_with (go_at_call 221;refine(Dd s o.out).mono ?_;rintro e w'⟨rfl,g⟩);rw[u.out];exact⟨rfl,j.trans g⟩
structure mG(s:ByteArray):Prop where
 ch:∀(k:Nat) (h:k<s.size),97<=(s[k].toNat:Int)/\(s[k].toNat:Int)<=122
 pos:0<s.size
 le:s.size<=16
 op:hasB opWords s=false
 res:hasB nP s=false
def nS{s:ByteArray}(h:mG s):Calls prog 197 #[.string s] w λe w'=>e=.returned (.bool true)/\J [] w w':=by
 obtain⟨d,a⟩:∃d:Ending->World->Prop,d=λe w'=>e=.returned (.bool true)/\J [] w w':=⟨_,rfl⟩;rw[<-a];have m:=O a;clear a;have c:=h.ch;have r:=h.pos;have q:=h.le;have f:=O h.op;have j:=O h.res;clear h;have n:(s.size:Int)<=16:=X;go_enter func197,ntmps197;go_wp2
 go_loop [3] (λb=>∃k:Nat,k<=s.size/\b=Y k) (λb=>s.size-(intOf b).toNat)
 case atStart=>exact⟨0,X,gn⟩
 obtain⟨k,p,rfl⟩:=hrel;by_cases i:k<s.size;obtain⟨g,o⟩:=c k i;clear c;exact Nk;go_wp2_with (go_at_call 214;refine(BI s f.out j.out).mono ?_;rintro e w'⟨rfl,g⟩);rw[m.out];exact⟨rfl,g⟩
def s9{s:ByteArray}(h:(s.size==1||s.size==4)=true)(hc:(s.data.toList.all λc=>decide (97<=c.toNat)&&decide (c.toNat<=122))=true)(d:hasB opWords s=false)(e:hasB nP s=false):mG s:=by
 have f:=zu h;refine⟨λk a=>?_,X,X,d,e⟩;have b:=G6.1 hc s[k] (by
  have:s[k]=s.data[k]'a:=rfl;rw[this];exact Array.getElem_mem_toList a)
 simp at b;omega
def ol:hasB l s=l.any (λx=>x.data.toList==s.data.toList):=by
 unfold hasB;simp only[Il]
def D_:∀s∈iq,mG s:=by
 intro s a;simp[iq,hV]at a;rcases a with rfl|rfl|rfl|rfl|rfl|rfl|rfl|rfl|rfl<;>exact s9 I I (by rw[ol];decide) (by rw[ol];decide)
def zj:mG w5/\mG qv/\mG pW:=⟨s9 I I (by rw[ol];decide) (by rw[ol];decide),s9 I I (by rw[ol];decide) (by rw[ol];decide),s9 I I (by rw[ol];decide)<|by rw[ol];decide⟩
