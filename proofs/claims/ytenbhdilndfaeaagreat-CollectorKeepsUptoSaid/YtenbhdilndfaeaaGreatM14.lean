import Derived.Test.YtenbhdilndfaeaaGreatM13
set_option maxRecDepth 100000
set_option maxHeartbeats 0
set_option linter.all false
namespace Go.Proofs.YtenbhdilndfaeaaGreat
open Go.RowKit Go.Proofs.Tryz
variable{G:Prop}{M:QY}{tr:TypeId}{V:QU}{i k:Nat}(p:Nat)
def IM(h:G:=by
 obtain⟨W,aH⟩:=nm_ w1;rw[<-aH]at hd hm hR Nv |-;clear aH;have aV:Ex B g m R0 229 #[q_ g,Y left,Y loops,Y fn] S_ W W:=⟨hd,hm,hR,F_ [g] W⟩;refine iO (Ex B g m R0 229 #[q_ g,Y left,Y loops,Y fn] S_ W) (λ_ Nr=>∃t,Bk Nr R0 229 t.g_/\jL (jC (R0+1)) Nr t/\SG hV 1 1 t/\iN Nr B g/\J [g,R0] W Nr) (J [g,R0]) [SU.val _ (.string v),SU.val _ (q_ m),SU.tree aN (1),SU.stmt aN (1) (1),SU.any _] (SU.any _) [[],[],[1],[0,2],[3]] true [(some 125,0),(some 126,1),(some 127,2),(some 128,3),(none,4)] k_ k_ (λ_ _ _ _ _ h=>h) k_ rfl rfl k_ aV ⟨?_,?_,?_,?_,?_,trivial⟩ ?_
 exact LA;exact LA;refine hS [(some 126,1)] ?_;exact JO;refine hS [(some 125,0),(some 127,2)] ?_;exact Jv
 .refine ju [(some 128,3)] ?_;exact JP
 exact K6):G:=h
def IR(h:G:=by
 obtain⟨t,K,S,Nt,ar,d3⟩:∃(t:ST) (K:Nat),Bk Nq R7 229 t.g_/\jL (jC (R0+1)) Nq t/\SG hV (4-p) K t/\(K:Int)+2*l<=2+2*left:=by
  refine⟨(ST.mk 5 n i6 0 0 (j_ x) 2 [jx 0,jx r] A c ts none 0 []),1+N,(by have:=aX.out;subst this;exact bn),jL.node _ _ _ _ _ _ _ _ (sX (jx 0) (jx r) aO) (H_ _) (λy off h=>by injection h with h;injection h with h;omega) ?_ (ak.le X) (lL.nil _ _ _ _),?_,by push_cast;omega⟩;intro u hu;rcases O_.1 hu with rfl|hu
  exact kw.leaf _ _ _ _ _ _;rcases O_.1 hu with rfl|hu
  .exact kw.leaf _ _ _ _ _ _
  cases hu
  have hD:4-p=(4-(p+1))+1:=X;rw[hD];refine SG.loop (t:=(ST.mk 5 n i6 0 0 (j_ x) 2 [jx 0,jx r] A c ts none 0 [])) (.AF _ aK.out) rfl ?_ ak.sg;intro u hu;rcases O_.1 hu with rfl|hu
  exact .num _ _ X X;rcases O_.1 hu with rfl|hu
  .exact .num _ _ X X
  cases hu
 clear bn ak aO;exact I4):G:=h
def IT(h:G:=by
 go_upto_region 3 with fail;clear ah;obtain⟨W,aH⟩:=nm_ w1;rw[<-aH]at hd hm hR Nv |-;clear aH;have aV:Ex B g m R0 229 #[q_ g,Y left,Y loops,Y fn] S_ W W:=⟨hd,hm,hR,F_ [g] W⟩;refine iO (Ex B g m R0 229 #[q_ g,Y left,Y loops,Y fn] S_ W) (λ_ Nr=>∃t,Bk Nr R0 229 t.g_/\jL (jC (R0+1)) Nr t/\SG hV 1 1 t/\iN Nr B g/\J [g,R0] W Nr) (J [g,R0]) [SU.val _ (q_ m),SU.stmt aN (1) (1),SU.any _] (SU.any _) [[],[0],[1]] true [(some 26,0),(some 27,1),(none,2)] k_ k_ (λ_ _ _ _ _ h=>h) k_ rfl rfl k_ aV ⟨?_,?_,?_,trivial⟩ ?_
 exact LA;exact JH
 .exact JK
 intro vs bw C;simp only[b_];obtain⟨t,aB,Nt,ar,aI,T⟩:=C;go_wp2;exact rr_ t.g_ aB underlying229 ⟨t,1,left,rfl,Nt.le X,l4.mono ar X,hl0,GH _,X,hm.gr T p_,aI,(Nv.hI T p_).mono H⟩):G:=h
def I4(h:G:=by
 obtain⟨az,cw⟩:=nm_ Nq;rw[<-cw]at S Nt bj bi aM F |-;clear cw;have ay:=bi.f_ 2;have aZ:=bi.hG 2;have c7:IntKind.i64.wrap (loops+1-1)=loops+1-1:=Gm _ X
 go_upto_region 18 with fail;clear ay aZ c7;have Q:J [m] az (az.setCell (Z m 2) (Y loops)):=(F_ [m] az).setCell (.inl H) _;replace bi:Bk (az.setCell (Z m 2) (Y loops)) m 222 #[q_ g,Y l,Y loops,Y fn]:=bi.hU 2 _;replace bj:=bj.ih Q p_;replace aM:=aM.gr Q p_;replace S:=S.gr Q p_;replace Nt:=Nt.ih Q p_;replace F:J [g,m] w (az.setCell (Z m 2) (Y loops)):=F.trans (Q.mono H);clear Q;obtain⟨aF,cf⟩:=nm_ (az.setCell (Z m 2) (Y loops));rw[<-cf]at S Nt bj bi aM F |-;clear cf
 go_wp2_with (first|(refine k2 S underlying229 ?_)|(refine kP (t.g_) aM (ST.one _) ?_;intro Nr aB T));exact rr_ t.g_ aB underlying229 ⟨t,K,l,rfl,(Nt.ih T H).le X,ar,cy,d4,d3,bi.gr T p_,bj.ih T p_,F.hI T p_⟩):G:=h
def Jb(h:G:=by
 intro vs V C Nw K Nu;obtain⟨o,aq,⟨Ac,cc,tc,cR,lc,ec,cg,db,de,dJ,cY⟩, -⟩:=Nw;replace o:_=_:=o;replace aq:_=_:=aq;try simp only[b_,o,aq,ec]at Nu |-
 obtain⟨cT,eA,eG,cI⟩:=cY;go_simp;go_at_call 139;refine(bg (P+1) 1 cT loops _ (ov aU.out) X X C.d cI hBm X X hq0 (by push_cast;omega)).mono ?_;rintro e w1⟨A,c,ts,N,l,rfl,_,ct,cy,d4,bt,cF,bH,a6⟩;exact Nu.out _ _ (C.kZ a6 bH ⟨l,cy,GH _,cF⟩ X eV z) ⟨a6.mono H,λhi⟨q,ar,cM,cU⟩=>⟨l,cy,ov (sz cU cI),cF⟩⟩ ⟨Ac,cc,tc,cR,A,c,ts,N,l,ec,(cg.iy a6 p_),rfl,ct.le C.r.lt,cy,X,X,⟨l,cy,GH _,cF⟩⟩):G:=h
def Jj(h:G:=by
 intro vs V C Nw K Nu;obtain⟨o,aq, -⟩:=Nw;replace o:_=_:=o;replace aq:_=_:=aq;try simp only[b_,o,aq]at Nu |-
 obtain⟨cT,eA,eG,cI⟩:=C.lf;go_simp;go_at_call 139;refine(bg (P+1) 2 cT loops _ (ov aU.out) X X C.d cI hBm X X hq0 (by push_cast;omega)).mono ?_;rintro e w1⟨A,c,ts,N,l,rfl,_,ct,cy,d4,bt,cF,bH,a6⟩;exact Nu.out _ _ (C.kZ a6 bH ⟨l,cy,GH _,cF⟩ X eV z) ⟨a6.mono H,λhi⟨q,ar,cM,cU⟩=>⟨l,cy,ov (sz cU cI),cF⟩⟩ ⟨A,c,ts,N,l,rfl,ct.le C.r.lt,cy,X,X,⟨l,cy,GH _,cF⟩⟩):G:=h
def Jv(h:G:=by
 intro vs V C Nw K Nu;obtain⟨o,⟨tb,aq,ao,d⟩, -⟩:=Nw;replace o:_=_:=o;try simp only[b_,o,aq]at Nu |-
 go_simp;go_at_call 142;refine(kQ (R0+1) _ _ _ C.r.lt ao).mono ?_;rintro e w1⟨A,rfl,Nt,hg1⟩;exact Nu.out _ _ (C.hF hg1) (hg1.mono H) ⟨i3 _ A _,rfl,Nt,SG.leaf (.vC _ av.out) rfl rfl (by intro u hu;rcases O_.1 hu with rfl|hu;exact d.mono X;cases hu)⟩):G:=h
def JA(h:G:=by
 intro vs V C Nw K Nu;obtain⟨⟨ta,eD,bu,o,ap,E,ef,eg,eh,dK⟩, -⟩:=Nw;try simp only[b_,o]at Nu |-
 refine iZ k_ ?_;refine ic 229 rfl R0 r_ ta.g_ r_ 229 C.r rfl k_ (ST.one _) ?_;intro Nr aB T;obtain⟨cT,da,dH,dE⟩:=dK;exact Nu.out undef _ (λ_=>⟨ta,eD,cT,aB,ap.ih T H,E,da,X,X,dE.gr T p_,C.d.ih T p_,(C.g.mono H).trans (T.mono H)⟩)):G:=h
def JH(h:G:=by
 refine hS [(some 26,0)] ?_;intro vs V C Nw K Nu;obtain⟨o, -⟩:=Nw;replace o:_=_:=o;try simp only[b_,o]at Nu |-
 go_simp;go_at_call 207;refine(qh B g m left loops fn C.d C.m hBm).mono ?_;exact Lx):G:=h
def JK(h:G:=by
 refine ju [(some 27,1)] ?_;exact JP):G:=h
def JO(h:G:=by
 intro vs V C Nw K Nu;obtain⟨o, -⟩:=Nw;replace o:_=_:=o;try simp only[b_,o]at Nu |-
 go_simp;go_at_call 218;refine(pB B g m left loops fn C.d C.m hBm).mono ?_;exact Lx):G:=h
def JT(h:G:=by
 refine hS [(some 28,0),(some 33,5)] ?_;exact J6):G:=h
def JU(h:G:=by
 intro f vs V hf C Nw K Nu;obtain⟨o, -⟩:=Nw;replace o:_=_:=o;try simp only[b_,o]at Nu |-
 go_simp;go_at_call 145;refine(ki _).mono ?_;rintro e w1⟨rfl,hg1⟩;exact Nu.out _ _ (C.hF hg1) (hg1.mono H) ⟨jy n,rfl,kw.leaf _ _ _ _ _ _,.var _ _ aK.out⟩):G:=h
def JW(h:G:=by
 refine hS [(some 31,3)] ?_;exact J5):G:=h
def J1(h:G:=by
 refine hS [] ?_;intro vs V C Nw K Nu;clear Nw;try simp only[b_]at Nu |-
 go_simp;go_at_call 177;refine(lY).mono ?_;rintro e w1⟨rfl,rfl⟩;exact L8):G:=h
def J7(h:G:=by
 intro vs V C Nw K Nu;obtain⟨⟨ad,o,cN,a7⟩, -⟩:=Nw;try simp only[b_,o]at Nu |-
 go_simp;go_at_call 144;refine(kf ad).mono ?_;rintro e w1⟨rfl,hg1⟩;exact Nu.out _ _ (C.hF hg1) (hg1.mono H) ⟨ad,X,X,rfl⟩):G:=h
def Kh(h:G:=by
 intro f vs V hf C Nw K Nu;obtain⟨o, -⟩:=Nw;replace o:_=_:=o;try simp only[b_,o]at Nu |-
 obtain⟨dh,a,bz,zs,fu,cV⟩:=id C;have U:=a.f_ 0;have bQ:=zs.f_ 6;exact Nc):G:=h
def Kn(h:G:=by
 intro vs V C Nw K Nu;obtain⟨o, -⟩:=Nw;replace o:_=_:=o;try simp only[b_,o]at Nu |-
 obtain⟨dh,a,bz,zs,ei,cV⟩:=id C;have U:=a.f_ 0;have bP:=zs.f_ 5;exact Nc):G:=h
def Ku(h:G:=by
 intro vs V C Nw K Nu;obtain⟨o, -⟩:=Nw;replace o:_=_:=o;try simp only[b_,o]at Nu |-
 have bD:IntKind.i64.wrap (P+1)=P+1:=Gm _ X;exact M3):G:=h
def Kx(h:G:=by
 intro vs bw C;simp only[b_];obtain⟨t,N,l,aB,Nt,ar,c9,dI,cW,cI,aI,T⟩:=C;go_wp2;exact rr_ t.g_ aB underlying229 ⟨t,N,l,rfl,Nt.le X,ar,c9,dI,cW,cI,aI,(Nv.mono H).hI T p_⟩):G:=h
def KP(h:G:=by
 refine hS [(some 29,1)] ?_;exact Le):G:=h
def KQ(h:G:=by
 refine hS [(some 30,2)] ?_;exact Le):G:=h
def K8(h:G:=by
 intro vs V C Nw K Nu;obtain⟨o, -⟩:=Nw;replace o:_=_:=o;try simp only[b_,o]at Nu |-
 exact M3):G:=h
def K9(h:G:=by
 intro vs V C Nw K Nu;obtain⟨⟨bB,bK,o⟩, -⟩:=Nw;try simp only[b_,o]at Nu |-
 go_simp;exact Nu.out _ _ C (F_ _ _) ⟨bB,bK,rfl⟩):G:=h
def Lb(h:G:=by
 intro f vs V hf C Nw K Nu;exact LI):G:=h
def Lp(h:G:=by
 refine hS [] ?_;intro vs V C Nw K Nu;clear Nw;try simp only[b_]at Nu |-
 exact M3):G:=h
def M3(h:G:=by
 go_simp;exact Nu.out _ _ C (GL.jD (F_ [] _)) rfl):G:=h
def BP:∀k,k<5->∃s,s∈hV/\mf[k]?=some (.string s)
 |0,_=>⟨wt,by simp[hV],rfl⟩
 |1,_=>⟨vm,by simp[hV],rfl⟩
 |2,_=>⟨vI,by simp[hV],rfl⟩
 |3,_=>⟨ph,by simp[hV],rfl⟩
 |4,_=>⟨nc,by simp[hV],rfl⟩
def DT:∀k,k<2->∃s,s∈hV/\(#[.string {data:=#[115]},.string {data:=#[97]}]:Array Value)[k]?=some (.string s)
 |0,_=>⟨vI,by simp[hV],rfl⟩
 |1,_=>⟨wt,by simp[hV],rfl⟩
def DU:∀k,k<4->∃r:Int,(r=1∨r=6∨r=9)/\(#[Y 1,Y 6,Y 9,Y 1]:Array Value)[k]?=some (Y r)
 |0,_=>⟨1,H,rfl⟩
 |1,_=>⟨6,H,rfl⟩
 |2,_=>⟨9,H,rfl⟩
 |3,_=>⟨1,H,rfl⟩
def DS:∀k,k<2->∃r:Int,(r=7∨r=8)/\(#[Y 8,Y 7]:Array Value)[k]?=some (Y r)
 |0,_=>⟨8,H,rfl⟩
 |1,_=>⟨7,H,rfl⟩
def qh(B g m:Nat)(left loops fn:Int){w:World}(hd:iN w B g)(hm:Bk w m 222 #[q_ g,Y left,Y loops,Y fn])(hBm:B<=m):
 Calls prog 207 #[q_ m] w λe w'=>∃t,e=.returned (.agg t.g_)/\jL (jC w.heap.size) w' t/\SG hV 1 1 t/\iN w' B g/\J [g] w w':=by
 have bq:=hd.wx;have cz:=hm.lt;go_enter func207,ntmps207;go_upto_region 1 with fail;have aY:J [] w (w.alloc (.cells S_ 229)):=(F_ [] w).alloc _;replace hd:=hd.hF aY;replace hm:=hm.hF aY;have hR:=P_ w 229 S_;have Nv:J [g] w (w.alloc (.cells S_ 229)):=(F_ [g] w).alloc _;clear aY;obtain⟨bo,co⟩:=nm_ (w.alloc (.cells S_ 229));rw[<-co]at hd hm hR Nv |-;clear co;obtain⟨R0,cC⟩:=nm_ w.heap.size;rw[<-cC]at hR |-;have dC:w.heap.size<=R0:=X;have cH:g<R0:=X;have ae:B<=R0:=X;have c8:m<R0:=ov cz;clear cC;have aN:∀af∈[g,R0],af<R0+1:=p_;have ag:m≠g:=X;have z:R0≠g:=X;obtain⟨W,aH⟩:=nm_ bo;rw[<-aH]at hd hm hR Nv |-;clear aH;have aV:Ex B g m R0 229 #[q_ g,Y left,Y loops,Y fn] S_ W W.drew:=⟨hd.hF (F_ [] W).drew,hm.hF (F_ [] W).drew,hR.hF (F_ [] W).drew,(F_ [g] W).drew⟩;refine kq (Ex B g m R0 229 #[q_ g,Y left,Y loops,Y fn] S_ W) (λ_ _=>True) (J [g,R0]) [SU.BI aN 9 mf 5,SU.val _ (q_ m),SU.val _ (q_ m),SU.val _ (q_ m),SU.val _ (q_ g),SU.BI aN 9 mf 5,SU.val _ (Y 5),SU.num _ 0 5,SU.elem aN 9 mf 5,SU.pure _ (λv=>∃s,s∈hV/\v=.string s),SU.pure _ (λv=>∃s,s∈hV/\v=.string s)] (SU.any _) [[],[],[1],[2],[3],[],[5],[4,6],[0,7],[8],[9]] false [(some 4,0),(some 5,1),(some 6,2),(some 7,3),(some 8,4),(some 9,5),(some 10,6),(some 11,7),(some 12,8),(some 13,9),(some 3,10)] k_ k_ k_ (λ_ _ _ _ _ h=>h) k_ rfl rfl k_ aV ⟨?_,?_,?_,?_,?_,?_,?_,?_,?_,?_,?_,trivial⟩ ?_
 exact J1;exact LA;refine hS [(some 5,1)] ?_;exact Le;refine hS [(some 6,2)] ?_;exact Le;refine hS [(some 7,3)] ?_;exact J5;exact J1;refine hS [(some 9,5)] ?_;intro vs V C Nw K Nu;obtain⟨⟨a8,o,bu,be⟩, -⟩:=Nw;try simp only[b_,o]at Nu |-
 exact Nc;refine hS [(some 8,4),(some 10,6)] ?_;intro vs V C Nw K Nu;obtain⟨o,aq, -⟩:=Nw;replace o:_=_:=o;replace aq:_=_:=aq;try simp only[b_,o,aq]at Nu |-
 exact KE;refine hS [(some 4,0),(some 11,7)] ?_;exact J6;refine hS [(some 12,8)] ?_;intro vs V C Nw K Nu;obtain⟨⟨a8,E,o,a7,bu,be⟩, -⟩:=Nw;try simp only[b_,o]at Nu |-
 obtain⟨s,hs,bG⟩:=BP E X;exact Mz
 .refine hS [(some 13,9)] ?_;exact K9
 rintro vs bw⟨C,Nw⟩;obtain⟨⟨aT,aQ,M,aR⟩,Z,S,F,b4,⟨bV,bR,cJ,d9⟩,dx,⟨p,dS,aj,aK⟩,⟨ce,ej,dT,de,ak,dJ⟩,⟨cQ,ai,cT⟩,⟨b,al,e10⟩, -⟩:=Nw;replace Z:vs 1=q_ m:=Z;replace S:vs 2=q_ m:=S;replace F:vs 3=q_ m:=F;replace b4:vs 4=q_ g:=b4;replace dx:vs 6=Y 5:=dx;simp only[b_,aQ,Z,S,F,b4,bR,dx,dS,dT,cT,e10];clear aQ Z S F b4 bR dx dS dT cT e10;obtain⟨v,hv,bS⟩:∃v,v∈hV/\v=b:=⟨b,al,rfl⟩;rw[<-bS];have av:=O hv;clear bS hv;clear hd hm hR;obtain⟨hd,hm,hR,T⟩:=C;replace Nv:=Nv.trans T;clear T;have U:=hm.f_ 0;go_upto_region 3 with(go_at_call 19;refine(ij B g 13 hd X X).mono ?_;rintro e w1⟨k,rfl,cq,b0,bH,Q⟩);clear U;replace hm:=hm.gr Q p_;replace hR:=hR.gr Q p_;replace Nv:=Nv.trans Q;replace hd:=bH;clear Q;rcases(by omega:(k=0∨k=1)∨(k=2)∨(k=3∨k=4)∨(k=5∨k=6)∨(k=7)∨(k=8)∨(k=9)∨(k=10)∨(k=11)∨(k=12))with cq|b0|bZ|cg|aW|dY|cj|e0|ez|dj
 .rcases cq with rfl|rfl
  all_goals
   go_upto_region 5 with fail;obtain⟨W,aH⟩:=nm_ w1;rw[<-aH]at hd hm hR Nv |-;clear aH;have aV:Ex B g m R0 229 #[q_ g,Y left,Y loops,Y fn] S_ W W:=⟨hd,hm,hR,F_ [g] W⟩;refine iO (Ex B g m R0 229 #[q_ g,Y left,Y loops,Y fn] S_ W) (λ_ Nr=>∃t,Bk Nr R0 229 t.g_/\jL (jC (R0+1)) Nr t/\SG hV 1 1 t/\iN Nr B g/\J [g,R0] W Nr) (J [g,R0]) [SU.val _ (.string v),SU.val _ (q_ m),SU.tree aN (2),SU.stmt aN (1) (1),SU.any _] (SU.any _) [[],[],[1],[0,2],[3]] true [(some 22,0),(some 23,1),(some 24,2),(some 25,3),(none,4)] k_ k_ (λ_ _ _ _ _ h=>h) k_ rfl rfl k_ aV ⟨?_,?_,?_,?_,?_,trivial⟩ ?_
   exact LA;exact LA
   .refine hS [(some 23,1)] ?_;intro vs V C Nw K Nu;obtain⟨o, -⟩:=Nw;replace o:_=_:=o;try simp only[b_,o]at Nu |-
    go_simp;go_at_call 140;refine(kL B g m left loops fn 2 X _ rfl _ C.d C.m hBm).mono ?_;exact Lx
   refine hS [(some 22,0),(some 24,2)] ?_;exact Jv
   .refine ju [(some 25,3)] ?_;exact JP
   intro vs bw C;simp only[b_];obtain⟨t,aB,Nt,ar,aI,T⟩:=C;go_wp2;exact rr_ t.g_ aB underlying229 ⟨t,rfl,Nt.le X,ar,aI,Nv.hI T p_⟩
 .subst b0;go_upto_region 7 with fail;obtain⟨W,aH⟩:=nm_ w1;rw[<-aH]at hd hm hR Nv |-;clear aH;have aV:Ex B g m R0 229 #[q_ g,Y left,Y loops,Y fn] S_ W W.drew:=⟨hd.hF (F_ [] W).drew,hm.hF (F_ [] W).drew,hR.hF (F_ [] W).drew,(F_ [g] W).drew⟩;refine kq (Ex B g m R0 229 #[q_ g,Y left,Y loops,Y fn] S_ W) (λ_ Nr=>∃t,Bk Nr R0 229 t.g_/\jL (jC (R0+1)) Nr t/\SG hV 1 1 t/\iN Nr B g/\J [g,R0] W Nr) (J [g,R0]) [SU.BI aN 9 #[.string {data:=#[112]},.string {data:=#[113]}] 2,SU.val _ (q_ m),SU.val _ (q_ m),SU.val _ (q_ m),SU.val _ (q_ g),SU.num _ 0 2,SU.elem aN 9 #[.string {data:=#[112]},.string {data:=#[113]}] 2,SU.pure _ (λv=>∃s,s∈hV/\v=.string s),SU.val _ (q_ m),SU.val _ (q_ m),SU.val _ (q_ m),SU.val _ (q_ g),SU.num _ 0 2,SU.pure _ (λv=>∃r:Int,v=Y r/\2<=r/\r<=3),SU.tree aN (0),SU.stmt aN (1) (1),SU.any _] (SU.any _) [[],[],[1],[2],[3],[4],[0,5],[6],[],[8],[9],[10],[11],[12],[13],[7,14],[15]] true [(some 28,0),(some 29,1),(some 30,2),(some 31,3),(some 32,4),(some 33,5),(some 34,6),(some 35,7),(some 36,8),(some 37,9),(some 38,10),(some 39,11),(some 40,12),(some 41,13),(some 42,14),(some 43,15),(none,16)] k_ k_ k_ (λ_ _ _ _ _ h=>h) k_ rfl rfl k_ aV ⟨?_,?_,?_,?_,?_,?_,?_,?_,?_,?_,?_,?_,?_,?_,?_,?_,?_,trivial⟩ ?_
  exact KC;exact LA;exact KP;exact KQ;exact JW;refine hS [(some 32,4)] ?_;exact JV;exact JT;refine hS [(some 34,6)] ?_;exact Kj;exact LA;refine hS [(some 36,8)] ?_;exact Le;refine hS [(some 37,9)] ?_;exact Le;refine hS [(some 38,10)] ?_;exact J5;refine hS [(some 39,11)] ?_;exact JV
  .refine hS [(some 40,12)] ?_;intro vs V C Nw K Nu;obtain⟨⟨j,o,cN,a7⟩, -⟩:=Nw;try simp only[b_,o]at Nu |-
   have F:IntKind.i64.wrap (2+j)=2+j:=Gm _ X;go_simp;exact Nu.out _ _ C (F_ _ _) ⟨_,rfl,X,X⟩
  .refine hS [(some 41,13)] ?_;intro vs V C Nw K Nu;obtain⟨⟨j,o,cN,a7⟩, -⟩:=Nw;try simp only[b_,o]at Nu |-
   go_simp;exact Nu.out (.agg (eNew j).g_) _ C (F_ _ _) ⟨eNew j,rfl,kw.leaf _ _ _ _ _ _,.new _ _ X X⟩
  .refine hS [(some 35,7),(some 42,14)] ?_;intro vs V C Nw K Nu;obtain⟨⟨bB,bK,o⟩,⟨tb,aq,ao,d⟩, -⟩:=Nw;try simp only[b_,o,aq]at Nu |-
   go_simp;go_at_call 142;refine(kQ (R0+1) _ _ _ C.r.lt ao).mono ?_;rintro e w1⟨A,rfl,Nt,hg1⟩;exact Nu.out _ _ (C.hF hg1) (hg1.mono H) ⟨i3 _ A _,rfl,Nt,SG.leaf (.vC _ bK) rfl rfl (by intro u hu;rcases O_.1 hu with rfl|hu;exact d.mono X;cases hu)⟩
  .refine ju [(some 43,15)] ?_;exact JP
  exact K6
 .rcases bZ with rfl|rfl
  all_goals
   go_upto_region 10 with fail;obtain⟨W,aH⟩:=nm_ w1;rw[<-aH]at hd hm hR Nv |-;clear aH;have aV:Ex B g m R0 229 #[q_ g,Y left,Y loops,Y fn] S_ W W:=⟨hd,hm,hR,F_ [g] W⟩;refine iO (Ex B g m R0 229 #[q_ g,Y left,Y loops,Y fn] S_ W) (λ_ Nr=>∃t,Bk Nr R0 229 t.g_/\jL (jC (R0+1)) Nr t/\SG hV 1 1 t/\iN Nr B g/\J [g,R0] W Nr) (J [g,R0]) [SU.val _ (q_ m),SU.val _ (q_ m),SU.val _ (q_ m),SU.val _ (q_ g),SU.num _ 0 3,SU.val _ (q_ m),SU.tree aN (1),SU.val _ (q_ m),SU.tree aN (1),SU.trees aN 2 2,SU.stmt aN (1) (1),SU.any _] (SU.any _) [[],[0],[1],[2],[3],[],[5],[],[7],[6,8],[4,9],[10]] true [(some 47,0),(some 48,1),(some 49,2),(some 50,3),(some 51,4),(some 52,5),(some 53,6),(some 54,7),(some 55,8),(some 56,9),(some 57,10),(none,11)] k_ k_ (λ_ _ _ _ _ h=>h) k_ rfl rfl k_ aV ⟨?_,?_,?_,?_,?_,?_,?_,?_,?_,?_,?_,?_,trivial⟩ ?_
   exact LA;refine hS [(some 47,0)] ?_;exact Le;refine hS [(some 48,1)] ?_;exact Le;refine hS [(some 49,2)] ?_;exact J5;refine hS [(some 50,3)] ?_;exact JV;exact LA;refine hS [(some 52,5)] ?_;exact JO;exact LA;refine hS [(some 54,7)] ?_;exact JM;refine hS [(some 53,6),(some 55,8)] ?_;exact Ja
   .refine hS [(some 51,4),(some 56,9)] ?_;intro vs V C Nw K Nu;obtain⟨⟨j,o,cN,a7⟩,⟨f,tb,aq,nb,L,I,y⟩, -⟩:=Nw;try simp only[b_,o,aq]at Nu |-
    go_simp;have bF:tb.length=_:=nb;have n:Sl V 226 5 (j_ f) tb.length (tb.flatMap ET.E):=by rw[bF];exact I
    have x:(lT 2 i6 i6 j 0 (j_ f) tb.length tb).g_=_:=rfl;simp only[ST.ik,lT,bF]at x;refine Nu.out _ _ C (F_ _ _) ⟨lT 2 i6 i6 j 0 (j_ f) tb.length tb,?_,jL.es _ _ _ _ _ n L (λu hu=>(y u hu).1),SG.leaf (t:=lT 2 i6 i6 j 0 (j_ f) tb.length tb) (by show m_ _ 2 i6 i6 j 0 tb.length _ _;rw[bF];exact .EO _ X X) rfl rfl (λu hu=>(y u hu).2)⟩;show Value.agg _=Value.agg (lT 2 i6 i6 j 0 (j_ f) tb.length tb).g_;exact Nl
   .refine ju [(some 57,10)] ?_;exact JP
   intro vs bw C;simp only[b_];obtain⟨t,aB,Nt,ar,aI,T⟩:=C;go_wp2;exact rr_ t.g_ aB underlying229 ⟨t,rfl,Nt.le X,ar,aI,Nv.hI T p_⟩
 .rcases cg with rfl|rfl
  all_goals
   go_upto_region 13 with fail;obtain⟨W,aH⟩:=nm_ w1;rw[<-aH]at hd hm hR Nv |-;clear aH;have aV:Ex B g m R0 229 #[q_ g,Y left,Y loops,Y fn] S_ W W.drew:=⟨hd.hF (F_ [] W).drew,hm.hF (F_ [] W).drew,hR.hF (F_ [] W).drew,(F_ [g] W).drew⟩;refine kq (Ex B g m R0 229 #[q_ g,Y left,Y loops,Y fn] S_ W) (λ_ Nr=>∃t,Bk Nr R0 229 t.g_/\jL (jC (R0+1)) Nr t/\SG hV 1 1 t/\iN Nr B g/\J [g,R0] W Nr) (J [g,R0]) [SU.BI aN 9 #[.string {data:=#[115]},.string {data:=#[97]}] 2,SU.val _ (q_ m),SU.val _ (q_ m),SU.val _ (q_ m),SU.val _ (q_ g),SU.num _ 0 2,SU.elem aN 9 #[.string {data:=#[115]},.string {data:=#[97]}] 2,SU.pure _ (λv=>∃s,s∈hV/\v=.string s),SU.BI aN 3 #[Y 1,Y 6,Y 9,Y 1] 4,SU.val _ (q_ m),SU.val _ (q_ m),SU.val _ (q_ m),SU.val _ (q_ g),SU.num _ 0 4,SU.elem aN 3 #[Y 1,Y 6,Y 9,Y 1] 4,SU.pure _ (λv=>∃r:Int,(r=1∨r=6∨r=9)/\v=Y r),SU.val _ (q_ m),SU.tree aN (1),SU.trees aN 2 1,SU.stmt aN (1) (1),SU.any _] (SU.any _) [[],[],[1],[2],[3],[4],[0,5],[6],[],[],[9],[10],[11],[12],[8,13],[14],[],[16],[17],[7,15,18],[19]] true [(some 61,0),(some 62,1),(some 63,2),(some 64,3),(some 65,4),(some 66,5),(some 67,6),(some 68,7),(some 69,8),(some 70,9),(some 71,10),(some 72,11),(some 73,12),(some 74,13),(some 75,14),(some 76,15),(some 77,16),(some 78,17),(some 79,18),(some 80,19),(none,20)] k_ k_ k_ (λ_ _ _ _ _ h=>h) k_ rfl rfl k_ aV ⟨?_,?_,?_,?_,?_,?_,?_,?_,?_,?_,?_,?_,?_,?_,?_,?_,?_,?_,?_,?_,?_,trivial⟩ ?_
   exact KC;exact LA;refine hS [(some 62,1)] ?_;exact Le;refine hS [(some 63,2)] ?_;exact Le;refine hS [(some 64,3)] ?_;exact J5;refine hS [(some 65,4)] ?_;exact JV;refine hS [(some 61,0),(some 66,5)] ?_;exact J6;refine hS [(some 67,6)] ?_;intro vs V C Nw K Nu;obtain⟨⟨a8,E,o,a7,bu,be⟩, -⟩:=Nw;try simp only[b_,o]at Nu |-
   obtain⟨s,hs,bG⟩:=DT E X;exact Mz;exact KC;exact LA;refine hS [(some 70,9)] ?_;exact Le;refine hS [(some 71,10)] ?_;exact Le;refine hS [(some 72,11)] ?_;exact J5;refine hS [(some 73,12)] ?_;exact JV;refine hS [(some 69,8),(some 74,13)] ?_;exact J6;refine hS [(some 75,14)] ?_;intro vs V C Nw K Nu;obtain⟨⟨a8,E,o,a7,bu,be⟩, -⟩:=Nw;try simp only[b_,o]at Nu |-
   obtain⟨s,hs,bG⟩:=DU E X;exact Mz;exact LA;refine hS [(some 77,16)] ?_;exact JM;refine hS [(some 78,17)] ?_;exact Jn
   .refine hS [(some 68,7),(some 76,15),(some 79,18)] ?_;intro vs V C Nw K Nu;obtain⟨⟨bB,bK,o⟩,⟨rb,mb,aq⟩,⟨P,l,ec,am,lc,i,c⟩, -⟩:=Nw;try simp only[b_,o,aq,ec]at Nu |-
    go_simp;have bF:l.length=_:=am;have n:Sl V 226 5 (j_ P) l.length (l.flatMap ET.E):=by rw[bF];exact i
    have x:(lT 12 bB i6 0 rb (j_ P) l.length l).g_=_:=rfl;simp only[ST.ik,lT,bF]at x;refine Nu.out _ _ C (F_ _ _) ⟨lT 12 bB i6 0 rb (j_ P) l.length l,?_,jL.es _ _ _ _ _ n lc (λu hu=>(c u hu).1),SG.leaf (t:=lT 12 bB i6 0 rb (j_ P) l.length l) (by show m_ _ 12 bB i6 0 rb l.length _ _;rw[bF];exact .red _ bK _ mb) rfl rfl (λu hu=>(c u hu).2)⟩;show Value.agg _=Value.agg (lT 12 bB i6 0 rb (j_ P) l.length l).g_;exact Nl
   .refine ju [(some 80,19)] ?_;exact JP
   intro vs bw C;simp only[b_];obtain⟨t,aB,Nt,ar,aI,T⟩:=C;go_wp2;exact rr_ t.g_ aB underlying229 ⟨t,rfl,Nt.le X,ar,aI,Nv.hI T p_⟩
 .subst aW;go_upto_region 15 with fail;obtain⟨W,aH⟩:=nm_ w1;rw[<-aH]at hd hm hR Nv |-;clear aH;have aV:Ex B g m R0 229 #[q_ g,Y left,Y loops,Y fn] S_ W W:=⟨hd,hm,hR,F_ [g] W⟩;refine iO (Ex B g m R0 229 #[q_ g,Y left,Y loops,Y fn] S_ W) (λ_ Nr=>∃t,Bk Nr R0 229 t.g_/\jL (jC (R0+1)) Nr t/\SG hV 1 1 t/\iN Nr B g/\J [g,R0] W Nr) (J [g,R0]) [SU.val _ (q_ m),SU.tree aN (1),SU.trees aN 2 1,SU.stmt aN (1) (1),SU.any _] (SU.any _) [[],[0],[1],[2],[3]] true [(some 83,0),(some 84,1),(some 85,2),(some 86,3),(none,4)] k_ k_ (λ_ _ _ _ _ h=>h) k_ rfl rfl k_ aV ⟨?_,?_,?_,?_,?_,trivial⟩ ?_
  exact LA;refine hS [(some 83,0)] ?_;exact JM;refine hS [(some 84,1)] ?_;exact Jn
  .refine hS [(some 85,2)] ?_;intro vs V C Nw K Nu;obtain⟨⟨a8,ta,o,P,bu,be,l⟩, -⟩:=Nw;try simp only[b_,o]at Nu |-
   go_simp;have bF:ta.length=_:=P;have n:Sl V 226 5 (j_ a8) ta.length (ta.flatMap ET.E):=by rw[bF];exact be
   have x:(lT 10 i6 i6 0 0 (j_ a8) ta.length ta).g_=_:=rfl;simp only[ST.ik,lT,bF]at x;refine Nu.out _ _ C (F_ _ _) ⟨lT 10 i6 i6 0 0 (j_ a8) ta.length ta,?_,jL.es _ _ _ _ _ n bu (λu hu=>(l u hu).1),SG.leaf (t:=lT 10 i6 i6 0 0 (j_ a8) ta.length ta) (by show m_ _ 10 i6 i6 0 0 ta.length _ _;rw[bF];exact .ES) rfl rfl (λu hu=>(l u hu).2)⟩;show Value.agg _=Value.agg (lT 10 i6 i6 0 0 (j_ a8) ta.length ta).g_;exact Nl
  .refine ju [(some 86,3)] ?_;exact JP
  exact K6
 .subst dY;go_upto_region 17 with fail;obtain⟨W,aH⟩:=nm_ w1;rw[<-aH]at hd hm hR Nv |-;clear aH;have aV:Ex B g m R0 229 #[q_ g,Y left,Y loops,Y fn] S_ W W:=⟨hd,hm,hR,F_ [g] W⟩;refine iO (Ex B g m R0 229 #[q_ g,Y left,Y loops,Y fn] S_ W) (λ_ Nr=>∃t,Bk Nr R0 229 t.g_/\jL (jC (R0+1)) Nr t/\SG hV 1 1 t/\iN Nr B g/\J [g,R0] W Nr) (J [g,R0]) [SU.val _ (.string v),SU.val _ (q_ m),SU.tree aN (1),SU.trees aN 2 1,SU.stmt aN (1) (1),SU.any _] (SU.any _) [[],[],[1],[2],[0,3],[4]] true [(some 89,0),(some 90,1),(some 91,2),(some 92,3),(some 93,4),(none,5)] k_ k_ (λ_ _ _ _ _ h=>h) k_ rfl rfl k_ aV ⟨?_,?_,?_,?_,?_,?_,trivial⟩ ?_
  exact LA;exact LA;refine hS [(some 90,1)] ?_;exact JM;refine hS [(some 91,2)] ?_;exact Jn
  .refine hS [(some 89,0),(some 92,3)] ?_;intro vs V C Nw K Nu;obtain⟨o,⟨f,tb,aq,nb,L,I,y⟩, -⟩:=Nw;replace o:_=_:=o;try simp only[b_,o,aq]at Nu |-
   go_simp;have bF:tb.length=_:=nb;have n:Sl V 226 5 (j_ f) tb.length (tb.flatMap ET.E):=by rw[bF];exact I
   have x:(lT 11 v i6 0 0 (j_ f) tb.length tb).g_=_:=rfl;simp only[ST.ik,lT,bF]at x;refine Nu.out _ _ C (F_ _ _) ⟨lT 11 v i6 0 0 (j_ f) tb.length tb,?_,jL.es _ _ _ _ _ n L (λu hu=>(y u hu).1),SG.leaf (t:=lT 11 v i6 0 0 (j_ f) tb.length tb) (by show m_ _ 11 v i6 0 0 tb.length _ _;rw[bF];exact .ask _ av.out) rfl rfl (λu hu=>(y u hu).2)⟩;show Value.agg _=Value.agg (lT 11 v i6 0 0 (j_ f) tb.length tb).g_;exact Nl
  .refine ju [(some 93,4)] ?_;exact JP
  exact K6
 .subst cj;go_upto_region 19 with fail;obtain⟨W,aH⟩:=nm_ w1;rw[<-aH]at hd hm hR Nv |-;clear aH;have aV:Ex B g m R0 229 #[q_ g,Y left,Y loops,Y fn] S_ W W:=⟨hd,hm,hR,F_ [g] W⟩;refine iO (Ex B g m R0 229 #[q_ g,Y left,Y loops,Y fn] S_ W) (λ_ Nr=>∃t,Bk Nr R0 229 t.g_/\jL (jC (R0+1)) Nr t/\SG hV 1 1 t/\iN Nr B g/\J [g,R0] W Nr) (J [g,R0]) [SU.tree aN (0),SU.val _ (q_ m),SU.tree aN (1),SU.tree aN (1+1),SU.stmt aN (1) (1),SU.any _] (SU.any _) [[],[],[1],[0,2],[3],[4]] true [(some 96,0),(some 97,1),(some 98,2),(some 99,3),(some 100,4),(none,5)] k_ k_ (λ_ _ _ _ _ h=>h) k_ rfl rfl k_ aV ⟨?_,?_,?_,?_,?_,?_,trivial⟩ ?_
  .refine hS [] ?_;intro vs V C Nw K Nu;clear Nw;try simp only[b_]at Nu |-
   go_simp;go_at_call 145;refine(ki _).mono ?_;rintro e w1⟨rfl,hg1⟩;exact Nu.out _ _ (C.hF hg1) (hg1.mono H) ⟨jy vI,rfl,kw.leaf _ _ _ _ _ _,.var _ _ (by simp[hV])⟩
  exact LA;refine hS [(some 97,1)] ?_;exact JM
  .refine hS [(some 96,0),(some 98,2)] ?_;intro vs V C Nw K Nu;obtain⟨⟨ta,o,ap,E⟩,⟨tb,aq,ao,d⟩, -⟩:=Nw;try simp only[b_,o,aq]at Nu |-
   go_simp;go_at_call 143;refine(oG (R0+1) 1 ta tb C.r.lt ap ao).mono ?_;rintro e w1⟨A,rfl,Nt,hg1⟩;exact Nu.out _ _ (C.hF hg1) (hg1.mono H) ⟨p5 1 A ta tb,rfl,Nt,.bin 1 _ _ _ _ X X (E.mono X) (d.mono X)⟩
  .refine hS [(some 99,3)] ?_;intro vs V C Nw K Nu;obtain⟨⟨ta,o,ap,E⟩, -⟩:=Nw;try simp only[b_,o]at Nu |-
   go_simp;go_at_call 142;refine(kQ (R0+1) _ _ _ C.r.lt ap).mono ?_;rintro e w1⟨A,rfl,Nt,hg1⟩;exact Nu.out _ _ (C.hF hg1) (hg1.mono H) ⟨i3 _ A _,rfl,Nt,SG.leaf (.vC _ (show vI∈hV by simp[hV])) rfl rfl (by intro u hu;rcases O_.1 hu with rfl|hu;exact E.mono X;cases hu)⟩
  .refine ju [(some 100,4)] ?_;exact JP
  exact K6
 .subst e0;have aS:=hm.f_ 3;by_cases l:fn<2
  .have R:decide (fn<2)=true:=by simp[l]
   go_upto_region 22 with fail;clear aS;obtain⟨W,aH⟩:=nm_ w1;rw[<-aH]at hd hm hR Nv |-;clear aH;have aV:Ex B g m R0 229 #[q_ g,Y left,Y loops,Y fn] S_ W W:=⟨hd,hm,hR,F_ [g] W⟩;refine iO (Ex B g m R0 229 #[q_ g,Y left,Y loops,Y fn] S_ W) (λ_ Nr=>∃t,Bk Nr R0 229 t.g_/\jL (jC (R0+1)) Nr t/\SG hV 1 1 t/\iN Nr B g/\J [g,R0] W Nr) (J [g,R0]) [SU.val _ (q_ m),SU.val _ (.string v),SU.stmt aN (1) (1),SU.any _] (SU.any _) [[],[],[0,1],[2]] true [(some 108,0),(some 109,1),(some 110,2),(none,3)] k_ k_ (λ_ _ _ _ _ h=>h) k_ rfl rfl k_ aV ⟨?_,?_,?_,?_,trivial⟩ ?_
   exact LA;exact LA
   .refine hS [(some 108,0),(some 109,1)] ?_;intro vs V C Nw K Nu;obtain⟨o,aq, -⟩:=Nw;replace o:_=_:=o;replace aq:_=_:=aq;try simp only[b_,o,aq]at Nu |-
    go_simp;go_at_call 219;refine(BH B g m left loops fn v av.out C.d C.m hBm).mono ?_;exact Lx
   .refine ju [(some 110,2)] ?_;exact JP
   exact K6
  have R:decide (fn<2)=false:=by simp[l]
  go_upto_region 25 with fail;clear aS;exact IM
 .subst ez;go_upto_region 24 with fail;obtain⟨W,aH⟩:=nm_ w1;rw[<-aH]at hd hm hR Nv |-;clear aH;have aV:Ex B g m R0 229 #[q_ g,Y left,Y loops,Y fn] S_ W W.drew:=⟨hd.hF (F_ [] W).drew,hm.hF (F_ [] W).drew,hR.hF (F_ [] W).drew,(F_ [g] W).drew⟩;refine kq (Ex B g m R0 229 #[q_ g,Y left,Y loops,Y fn] S_ W) (λ_ Nr=>∃t,Bk Nr R0 229 t.g_/\jL (jC (R0+1)) Nr t/\SG hV 1 1 t/\iN Nr B g/\J [g,R0] W Nr) (J [g,R0]) [SU.BI aN 3 #[Y 8,Y 7] 2,SU.val _ (q_ m),SU.val _ (q_ m),SU.val _ (q_ m),SU.val _ (q_ g),SU.num _ 0 2,SU.elem aN 3 #[Y 8,Y 7] 2,SU.pure _ (λv=>∃r:Int,(r=7∨r=8)/\v=Y r),SU.val _ (q_ m),SU.tree aN (1),SU.trees aN 2 1,SU.stmt aN (1) (1),SU.any _] (SU.any _) [[],[],[1],[2],[3],[4],[0,5],[6],[],[8],[9],[7,10],[11]] true [(some 113,0),(some 114,1),(some 115,2),(some 116,3),(some 117,4),(some 118,5),(some 119,6),(some 120,7),(some 121,8),(some 122,9),(some 123,10),(some 124,11),(none,12)] k_ k_ k_ (λ_ _ _ _ _ h=>h) k_ rfl rfl k_ aV ⟨?_,?_,?_,?_,?_,?_,?_,?_,?_,?_,?_,?_,?_,trivial⟩ ?_
  exact KC;exact LA;refine hS [(some 114,1)] ?_;exact Le;refine hS [(some 115,2)] ?_;exact Le;refine hS [(some 116,3)] ?_;exact J5;refine hS [(some 117,4)] ?_;exact JV;refine hS [(some 113,0),(some 118,5)] ?_;exact J6;refine hS [(some 119,6)] ?_;intro vs V C Nw K Nu;obtain⟨⟨a8,E,o,a7,bu,be⟩, -⟩:=Nw;try simp only[b_,o]at Nu |-
  obtain⟨s,hs,bG⟩:=DS E X;exact Mz;exact LA;refine hS [(some 121,8)] ?_;exact JM;refine hS [(some 122,9)] ?_;exact Jn
  .refine hS [(some 120,7),(some 123,10)] ?_;intro vs V C Nw K Nu;obtain⟨⟨j,bK,o⟩,⟨f,tb,aq,nb,L,I,y⟩, -⟩:=Nw;try simp only[b_,o,aq]at Nu |-
   go_simp;have bF:tb.length=_:=nb;have n:Sl V 226 5 (j_ f) tb.length (tb.flatMap ET.E):=by rw[bF];exact I
   have x:(lT j i6 i6 0 0 (j_ f) tb.length tb).g_=_:=rfl;simp only[ST.ik,lT,bF]at x;refine Nu.out _ _ C (F_ _ _) ⟨lT j i6 i6 0 0 (j_ f) tb.length tb,?_,jL.es _ _ _ _ _ n L (λu hu=>(y u hu).1),SG.leaf (t:=lT j i6 i6 0 0 (j_ f) tb.length tb) (by show m_ _ j i6 i6 0 0 tb.length _ _;rw[bF];exact(by rcases bK with rfl|rfl;exact .ret;exact .EL)) rfl rfl (λu hu=>(y u hu).2)⟩;show Value.agg _=Value.agg (lT j i6 i6 0 0 (j_ f) tb.length tb).g_;exact Nl
  .refine ju [(some 124,11)] ?_;exact JP
  exact K6
 subst dj;go_upto_region 25 with fail;exact IM
def Fk(p:Nat)(B g m:Nat)(left loops fn:Int)(w:World)(e:Ending)(w':World):Prop:=
 ∃(t:ST) (N:Nat) (l:Int),e=.returned (.agg t.g_)/\jL (jC w.heap.size) w' t/\SG hV (4-p) N t/\0<=l/\l<=left/\(N:Int)+2*l<=2+2*left/\Bk w' m 222 #[q_ g,Y l,Y loops,Y fn]/\iN w' B g/\J [g,m] w w'
def Fi(p:Nat)(B g m:Nat)(fn:Int):Prop:=∀(P left loops:Int) (w:World),P=p->iN w B g->Bk w m 222 #[q_ g,Y left,Y loops,Y fn]->B<=m->0<=left->left<=100->0<=loops->loops<=50+p->
 Calls prog 176 #[q_ m,Y P] w (Fk p B g m left loops fn w)
def EI(p:Nat)(n:Int)(B g m:Nat)(left loops fn:Int)(w:World)(e:Ending)(w':World):Prop:=
 ∃(A:OA) (c:Nat) (ts:QV) (N:Nat) (l:Int),e=.returned (.slice A ts.length c)/\(ts.length:Int)<=n+1/\lL hV w.heap.size (4-p) N w' A c ts/\0<=l/\l<=left/\(N:Int)+2*l<=2*left/\Bk w' m 222 #[q_ g,Y l,Y loops,Y fn]/\iN w' B g/\J [g,m] w w'
def EX(p:Nat)(B g m:Nat)(fn:Int):Prop:=∀(P n left loops:Int) (w:World),P=p->0<=n->n<=10->iN w B g->Bk w m 222 #[q_ g,Y left,Y loops,Y fn]->B<=m->0<=left->left<=100->0<=loops->loops<=50+p->
 Calls prog 139 #[q_ m,Y P,Y n] w (EI p n B g m left loops fn w)
def sy(hp:p<=3)(B g m:Nat)(K:Int)(bD:Fi p B g m K):EX p B g m K:=by
 obtain⟨i1,bT,cj,cn,cr⟩:=info_parts infoSt;intro ae y left loops w hP hn0 hn1 hd s hBm hl0 hl1 hq0 hq1;have aU:=O hP;clear hP;have bq:=hd.wx;have cz:=s.lt;have ag:m≠g:=X;obtain⟨i,S⟩:=nm_ (EI p y B g m left loops K w);rw[<-S];have ao:=O S;clear S;have aJ:IntKind.i64.wrap (y+1)=y+1:=Gm _ X;have af:=s.f_ 0;go_enter func139,ntmps139;go_wp2_with (go_at_call 19;refine(ij B g (y+1) hd X X).mono ?_;rintro ai w1⟨k,rfl,cq,b0,bH,T⟩);clear aJ af;replace s:=s.gr T p_;have Q:J [g,m] w w1:=T.mono H;clear T hd;obtain⟨j,co⟩:=nm_ w.heap.size;have aS:j<=w1.heap.size:=by rw[co];exact Q.size
 have o:=O co;clear co;go_loopw [7,8] (λov aq w'=>∃(l:Int) (A:OA) (c:Nat) (ts:QV) (N:Nat) (d:Int),aq=Y l/\ -1<=l/\(ts.length:Int)+l<=y/\ov=.slice A ts.length c/\lL hV j (4-p) N w' A c ts/\0<=d/\d<=left/\(N:Int)+2*d<=2*left/\Bk w' m 222 #[q_ g,Y d,Y loops,Y K]/\iN w' B g/\J [g,m] w w'/\j<=w'.heap.size) (λ_ aq _=>(intOf aq+1).toNat)
 case atStart=>exact⟨k,none,0,[],0,left,rfl,X,p_,rfl,lL.nil _ _ _ _,hl0,X,X,s,bH,Q,aS⟩
 obtain⟨l,A,c,ts,N,d,rfl,bC,bJ,rfl,hL,bj,bn,bt,u,bZ,al,M⟩:=hrel;obtain⟨am,b⟩:=nm_ ts.length;have bg:=O b;have r:=hL.own;rw[<-b]at bJ r |-;clear b s bH Q
 by_cases an:0<=l/\0<d
 .obtain⟨hg1,Np⟩:=an;have cH:=u.hU 1 (Y (d-1));have n:J [m] wr (wr.setCell (Z m 1) (Y (d-1))):=(F_ [m] wr).setCell (.inl H) _;have cM:=bZ.ih n p_;have ah:=u.f_ 1;have aR:=u.hG 1;go_upto_region 6 with fail;clear ah aR;go_wp2_with (first|(go_at_call 176;refine(bD ae (d-1) loops _ aU.out cM cH hBm X X hq0 hq1).mono ?_;rintro ai f⟨L,ap,l2,rfl,Nt,bX,bG,au,Nu,dK,dD,E⟩;have ax:=n6 (n6 r n (λe a x=>by have:=(kD r x).1;simp at a;have:=cz;have:=o.out;omega)) E (λe a x=>by have:=(kD r x).1;simp at a;have:=o.out;omega);have z:j<=(f.alloc (.cells L.g_ 229)).heap.size:=(by have h1:=n.size;have h2:=E.size;simp;omega);have P:=n6 ax ((F_ [] f).alloc (.cells L.g_ 229)) H;obtain⟨h,v⟩:=nm_ L;have t:=O v;rw[<-v]at Nt bX P z;clear v;obtain⟨s1,aW,cx,df,bY,bU,cp,dt,cQ,bB,sb,sc,dO,dP⟩:=L;simp only[ST.ik])|(at_builtin;refine jZ rfl rfl j 229 i1 8 128 underlying211 bT cj cn cr rfl I I A am c (ts.flatMap ST.E) rfl (by rw[t.out]at P;exact P) _ 1 1 ([h].flatMap ST.E) rfl (by rw[t.out];exact rf _ (P_ f 229 _)) (k7) X (by rw[t.out]at z;exact z) ?_;intro aw U Nq ar F bO));go_roundw
  case rel=>
   have av:lL hV j (4-p) N (f.alloc (.cells h.g_ 229)) A c ts:=by
    have h1:=hL.iy n (by intro e a;simp at a;have:=o.out;omega);have h2:=h1.iy E (by intro e a;simp at a;have:=o.out;omega);exact h2.iy ((F_ [] f).alloc _) H
   have v:jL (zq j (Value.slice A am c).ownBlock) (f.alloc (.cells h.g_ 229)) h:=by
    refine(Nt.imp λe a=>⟨G_ (G_ M n.size) a,λx=>?_⟩).hF ((F_ [] f).alloc _);have h1:=(kD r x).2;have h2:=n.size;have:(wr.setCell (Z m 1) (Y (d-1))).heap.size<=e:=a;omega
   have b:=bg.out;subst b;replace F:(f.alloc (.cells h.g_ 229)).grownBy Nq (Value.slice A ts.length c).ownBlock:=by rw[t.out];exact F
   replace bO:(Value.slice aw (ts.length+1) U).ownBlock=(Value.slice A ts.length c).ownBlock∨(Value.slice aw (ts.length+1) U).ownBlock=some (f.alloc (.cells h.g_ 229)).heap.size:=by rw[t.out];exact bO
   have dm:=av.add (us:=[h]) ar F bO (λay hu=>by have:ay=h:=(zu hu);subst this;exact v) bX;have bK:∀e∈oK (Value.slice A ts.length c).ownBlock,j<=e:=λe a=>(kD r (jK.1 a)).1;have C:=J.iR F;have d1:=Nat.le_of_eq o.out.symm;have q:m<j:=ov o.out;refine⟨l-1,aw,U,ts++[h],N+ap,l2,rfl,X,p_,H,by simpa using dm,bG,X,by push_cast;omega,(dK.alloc _).gr C (λa=>by have:=bK m a;omega),(dD.hF ((F_ [] f).alloc _)).ih C (λe a=>by have:=bK e a;omega),?_,?_⟩;exact(((al.trans (n.mono H)).trans E).alloc _).hI C (λe a=>.inr (ov (bK e a)));exact G_ z C.size
  case measure=>exact mz
 have a:¬(0<=l)∨(0<=l/\¬(0<d)):=X;have ah:=u.f_ 1;rcases a with a|⟨a,e⟩
 all_goals
  go_wp2;rw[ao.out,bg.out];exact⟨A,c,ts,N,d,rfl,ov bg.out,by have:=o.out;subst this;exact hL,bj,bn,bt,u,bZ,al⟩
def CY:∀k,k<3->∃s,s∈hV/\(#[.string {data:=#[105]},.string {data:=#[106]},.string {data:=#[107]}]:Array Value)[k]?=some (.string s)
 |0,_=>⟨oL,by simp[hV],rfl⟩
 |1,_=>⟨xJ,by simp[hV],rfl⟩
 |2,_=>⟨xI,by simp[hV],rfl⟩
def Lf(g m:Nat)(loops fn hi:Int)(w:World):Prop:=∃l,0<=l/\l<=hi/\Bk w m 222 #[q_ g,Y l,Y loops,Y fn]
def Lf.gr{g m:Nat}{e a d:Int}{w w':World}(h:Lf g m e a d w)(n:J M w w')(o:m∉M):Lf g m e a d w':=by
 obtain⟨q,f,j,l⟩:=h;exact⟨q,f,j,l.gr n o⟩
def Lf.le{g m:Nat}{e d a b:Int}{w:World}(h:Lf g m e d a w)(o:a<=b):Lf g m e d b w:=by
 obtain⟨l,f,n,j⟩:=h;exact⟨l,f,X,j⟩
def GL(M:QY)(g m:Nat)(loops fn:Int)(a b:World):Prop:=J M a b/\∀hi,Lf g m loops fn hi a->Lf g m loops fn hi b
def GL.of{g m:Nat}{l e:Int}{a b:World}(h:J [g] a b)(o:g∈M)(d:m≠g):GL M g m l e a b:=⟨h.mono (by intro n j;have:n=g:=(zu j);subst this;exact o),λ_ f=>f.gr h (zu d)⟩
def GL.jD{g m:Nat}{f d:Int}{a b:World}(h:J [] a b):GL M g m f d a b:=⟨h.mono H,λ_ e=>e.gr h H⟩
structure Es(B g m R:Nat)(tr:TypeId)(left loops fn:Int)(zc:Array Value)(W w:World):Prop where
 d:iN w B g
 lf:Lf g m loops fn left w
 r:Bk w R tr zc
 g:J [g,m] W w
def Es.step{B g m R:Nat}{left loops fn:Int}{zc:Array Value}{W w w':World}(h:Es B g m R tr left loops fn zc W w)(a:J [g] w w')(f:iN w' B g)(d:m≠g)(e:R≠g):Es B g m R tr left loops fn zc W w':=
 ⟨f,h.lf.gr a (zu d),h.r.gr a (zu e),h.g.trans (a.mono H)⟩
def Es.hF{B g m R:Nat}{left loops fn:Int}{zc:Array Value}{W w w':World}(h:Es B g m R tr left loops fn zc W w)(a:J [] w w'):Es B g m R tr left loops fn zc W w':=
 ⟨h.d.hF a,h.lf.gr a H,h.r.hF a,h.g.trans (a.mono H)⟩
def Es.kZ{B g m R:Nat}{left l loops fn:Int}{zc:Array Value}{W w w':World}(h:Es B g m R tr left loops fn zc W w)(a:J [g,m] w w')(j:iN w' B g)(f:Lf g m loops fn l w')(n:l<=left)(d:R≠m)(e:R≠g):Es B g m R tr left loops fn zc W w':=
 ⟨j,f.le n,h.r.gr a (by simp;exact⟨e,d⟩),h.g.trans a⟩
def SU.l1{M:QY}{lo:Nat}(z:∀y∈M,y<lo)(D g m:Nat)(left loops fn:Int):SU (λ_=>GL M g m loops fn):=
 SU.of (λv w=>∃(A:OA) (c:Nat) (ts:QV) (N:Nat) (l:Int),v=.slice A ts.length c/\lL hV lo D N w A c ts/\0<=l/\l<=left/\(N:Int)+2*l<=2*left/\Lf g m loops fn l w)
  (λ_ _ _ hg⟨A,c,ts,N,l,h1,h2,h3,am,au,bl⟩=>⟨A,c,ts,N,l,h1,h2.iy hg.1 z,h3,am,au,hg.2 _ bl⟩)
def SU.l2{M:QY}{lo:Nat}(z:∀y∈M,y<lo)(i D g m:Nat)(left loops fn:Int):SU (λ_=>GL M g m loops fn):=
 ⟨λvs v w=>∃(A1:OA) (c1:Nat) (a:QV) (e:Nat) (A:OA) (c:Nat) (ts:QV) (N:Nat) (l:Int),vs i=.slice A1 a.length c1/\lL hV lo D e w A1 c1 a/\v=.slice A ts.length c/\lL hV lo D N w A c ts/\0<=l/\l<=left/\(e:Int)+N+2*l<=2*left/\Lf g m loops fn l w,
   [],λ_ _ _ _ _ _ hg⟨A1,c1,a,e,A,c,ts,N,l,h1,h2,h3,am,au,bl,bM,bS⟩=>⟨A1,c1,a,e,A,c,ts,N,l,h1,h2.iy hg.1 z,h3,am.iy hg.1 z,au,bl,bM,hg.2 _ bS⟩,
   [i],λ_ _ _ _ hv⟨A1,c1,a,e,A,c,ts,N,l,h1,h2⟩=>⟨A1,c1,a,e,A,c,ts,N,l,(hv i H).symm.trans h1,h2⟩⟩
def lL.sl{base D N c:Nat}{w:World}{A:OA}{ts:QV}(h:lL V base D N w A c ts):Sl w 229 8 A ts.length (ts.flatMap ST.E):=Sl.iP h.own
def lL.from{base D N c:Nat}{w:World}{A:OA}{ts:QV}(h:lL V base D N w A c ts):∀u∈ts,jL (jC base) w u:=λu a=>(h.jo u a).imp λ_ d=>d.1
def jL.node{d D e C:Nat}{w:World}(k:Int)(x f:ByteArray)(n o:Int)(q:OA)(v:Nat)(es:QE){r t:OA}{c1 s:Nat}{z Q:QV}(H:Sl w 226 5 q es.length (es.flatMap ET.E))(F:es.length<=v)(E:∀y h,q=some (Z y h)->d<=y)(I:∀u∈es,kw (jC d) w u)(j:lL V d D e w r c1 z)(l:lL V d D C w t s Q):jL (jC d) w (ST.mk k x f n o q v es r c1 z t s Q):=
 .mk _ H F (λy h a _=>E y h a) I j.sl (iY j.own) (λy h a _=>te j.own a) j.from l.sl (iY l.own) (λy h a _=>te l.own a) l.from
def sz{w:World}{g m:Nat}{d b q j f s:Int}(h:Bk w m 222 #[q_ g,Y d,Y q,Y f])(k:Bk w m 222 #[q_ g,Y b,Y j,Y s]):d=b:=by
 have e:w.heap[m]?=_:=h;have a:w.heap[m]?=_:=k;rw[e]at a;simp at a;exact a.1
structure Dn(B g m R R7 x:Nat)(mc zc sc xc:Array Value)(W w:World):Prop where
 d:iN w B g
 m:Bk w m 222 mc
 r:Bk w R 229 zc
 s:Bk w R7 229 sc
 x:Bk w x 226 xc
 g:J [g] W w
def Dn.step{B g m R R7 x:Nat}{mc zc sc d:Array Value}{W w w':World}(h:Dn B g m R R7 x mc zc sc d W w)(a:J [g] w w')(n:iN w' B g)(f:m≠g)(j:R≠g)(l:R7≠g)(e:x≠g):Dn B g m R R7 x mc zc sc d W w':=
 ⟨n,h.m.gr a (zu f),h.r.gr a (zu j),h.s.gr a (zu l),h.x.gr a (zu e),h.g.trans a⟩
def Dn.hF{B g m R R7 x:Nat}{mc zc sc d:Array Value}{W w w':World}(h:Dn B g m R R7 x mc zc sc d W w)(a:J [] w w'):Dn B g m R R7 x mc zc sc d W w':=
 ⟨h.d.hF a,h.m.hF a,h.r.hF a,h.s.hF a,h.x.hF a,h.g.trans (a.mono H)⟩
def G2(k:Nat)(M d:QY)(i:Nat)(a b:World):Prop:=J (if i=k then d else M) a b
def G2.gr{d:QY}{a b:World}(h:G2 k M d i a b)(e:∀y∈M,y∈d):J d a b:=by
 unfold G2 at h;split at h;exact h;exact h.mono e
def G2.ne{d:QY}{a b:World}(h:G2 k M d i a b)(e:i≠k):J M a b:=by
 unfold G2 at h;rw[T_ e]at h;exact h
structure Ws(B g q R R7 base D N:Nat)(A:OA)(c:Nat)(ts:QV)(mc zc sc:Array Value)(W:World)(b:Bool)(w:World):Prop where
 d:iN w B g
 m:Bk w q 222 mc
 r:Bk w R 229 zc
 s:Bk w R7 229 sc
 lf:b=false->lL hV base D N w A c ts
 g:J (g::oK (Value.slice A ts.length c).ownBlock) W w
 h1:q<base
 h2:R<base
 h3:R7<base
section
variable{B g m R R7 base D N:Nat}{A:OA}{c:Nat}{ts:QV}{mc zc sc:Array Value}{W w w':World}{b:Bool}
def Ws.hz(h:Ws B g m R R7 base D N A c ts mc zc sc W b w):W.heap.size<=w.heap.size:=h.g.size
def Ws.step(h:Ws B g m R R7 base D N A c ts mc zc sc W b w)(a:J [g] w w')(n:iN w' B g)(e:m≠g)(f:R≠g)(j:R7≠g)(d:g<base):Ws B g m R R7 base D N A c ts mc zc sc W b w':=
 ⟨n,h.m.gr a (zu e),h.r.gr a (zu f),h.s.gr a (zu j),λl=>(h.lf l).iy a (zu d),h.g.trans (a.mono H),h.h1,h.h2,h.h3⟩
def Ws.hF(h:Ws B g m R R7 base D N A c ts mc zc sc W b w)(a:J [] w w'):Ws B g m R R7 base D N A c ts mc zc sc W b w':=
 ⟨h.d.hF a,h.m.hF a,h.r.hF a,h.s.hF a,λd=>(h.lf d).iy a H,h.g.trans (a.mono H),h.h1,h.h2,h.h3⟩
def Ws.app(h:Ws B g m R R7 base D N A c ts mc zc sc W b w)(a:J (oK (Value.slice A ts.length c).ownBlock) w w')(e:∀y∈oK (Value.slice A ts.length c).ownBlock,base<=y)(f:B<=base):Ws B g m R R7 base D N A c ts mc zc sc W true w':=
 ⟨h.d.ih a (λo l=>G_ f (e o l)),h.m.gr a (λd=>by have:=e _ d;have:=h.h1;omega),h.r.gr a (λd=>by have:=e _ d;have:=h.h2;omega),h.s.gr a (λd=>by have:=e _ d;have:=h.h3;omega),(λj=>by cases j),h.g.trans (a.mono (by intro y n;simp[n])),h.h1,h.h2,h.h3⟩
end
def zw(l:Int)(h:0<=l):0<=l.tmod 3/\l.tmod 3<3/\0<=l % 3/\l % 3<3:=⟨Int.tmod_nonneg _ h,Int.tmod_lt_of_pos _ X,by omega,by omega⟩
def vd(hp:p<3)(B g m:Nat)(fn:Int)(bg:EX (p+1) B g m fn):Fi p B g m fn:=by
 obtain⟨i1,bT,cj,cn,cr⟩:=info_parts infoSt;intro P left loops w hP hd hm hBm hl0 hl1 hq0 hq1;have aU:=O hP;have ea:0<=P:=X;have bF:P<=2:=X;clear hP;have bq:=hd.wx;have cz:=hm.lt;go_enter func176,ntmps176;go_upto_region 1 with fail;have aY:J [] w (w.alloc (.cells S_ 229)):=(F_ [] w).alloc _;replace hd:=hd.hF aY;replace hm:=hm.hF aY;have hR:=P_ w 229 S_;have Nv:J [g] w (w.alloc (.cells S_ 229)):=(F_ [g] w).alloc _;clear aY;obtain⟨bo,co⟩:=nm_ (w.alloc (.cells S_ 229));rw[<-co]at hd hm hR Nv |-;clear co;obtain⟨R0,cC⟩:=nm_ w.heap.size;rw[<-cC]at hR |-;have dC:w.heap.size<=R0:=X;have cH:g<R0:=X;have al:B<=R0:=X;have c8:m<R0:=ov cz;clear cC;have aN:∀y∈[g,R0],y<R0+1:=p_;have ag:m≠g:=X;have z:R0≠g:=X;have eV:R0≠m:=X;have U:=hm.f_ 0
 go_upto_region 2 with(go_at_call 19;refine(ij B g 10 hd X X).mono ?_;rintro e w1⟨k,rfl,cq,b0,bH,a6⟩);clear U;replace hm:=hm.gr a6 p_;replace hR:=hR.gr a6 p_;replace Nv:=Nv.trans a6;replace hd:=bH;clear a6;have bJ:¬(3<=P):=X;have ah:=hm.f_ 1;by_cases dV:left<2
 .exact IT
 by_cases dY:k<5
 .exact IT
 have ay:=hm.f_ 2;go_upto_region 4 with fail;clear ah ay;obtain⟨W,aH⟩:=nm_ w1;rw[<-aH]at hd hm hR Nv |-;clear aH;have aV:Ex B g m R0 229 #[q_ g,Y left,Y loops,Y fn] S_ W W:=⟨hd,hm,hR,F_ [g] W⟩;refine iO (Ex B g m R0 229 #[q_ g,Y left,Y loops,Y fn] S_ W) (λ_ _=>True) (J [g,R0]) [SU.BI aN 9 #[.string {data:=#[105]},.string {data:=#[106]},.string {data:=#[107]}] 3,SU.val _ (q_ m),SU.val _ (q_ m),SU.val _ (.pointer (some (Z m 2))),SU.val _ (Y loops),SU.num _ 0 3,SU.elem aN 9 #[.string {data:=#[105]},.string {data:=#[106]},.string {data:=#[107]}] 3,SU.pure _ (λj=>∃s,s∈hV/\j=.string s),SU.pure _ (λj=>∃s,s∈hV/\j=.string s)] (SU.any _) [[],[],[1],[2],[3],[4],[0,5],[6],[7]] false [(some 28,0),(some 29,1),(some 30,2),(some 31,3),(some 32,4),(some 33,5),(some 34,6),(some 35,7),(some 6,8)] k_ k_ (λ_ _ _ _ _ h=>h) k_ rfl rfl k_ aV ⟨?_,?_,?_,?_,?_,?_,?_,?_,?_,trivial⟩ ?_
 exact KC;exact LA;exact KP;exact KQ;exact JW
 .refine hS [(some 32,4)] ?_;intro vs V C Nw K Nu;obtain⟨o, -⟩:=Nw;replace o:_=_:=o;try simp only[b_,o]at Nu |-
  go_simp;have aD:=zw loops hq0;refine Nu.out _ _ C (F_ _ _) ⟨_,rfl,?_,?_⟩<;>omega
 exact JT;refine hS [(some 34,6)] ?_;intro vs V C Nw K Nu;obtain⟨⟨a8,E,o,a7,bu,be⟩, -⟩:=Nw;try simp only[b_,o]at Nu |-
 obtain⟨s,hs,bG⟩:=CY E X;exact Mz
 .refine hS [(some 35,7)] ?_;exact K9
 rintro vs bw⟨C,Nw⟩;obtain⟨⟨aT,aQ,M,aR⟩,aJ,aG,bD,b4,⟨dL,bR,cA,cZ⟩,⟨aL,cO,dx,dN,bA,dG⟩,⟨cp,dk,dS⟩,⟨dt,di,dT⟩, -⟩:=Nw;replace aJ:vs 1=q_ m:=aJ;replace aG:vs 2=q_ m:=aG;replace bD:vs 3=.pointer (some (Z m 2)):=bD;replace b4:vs 4=Y loops:=b4;simp only[b_,aQ,aJ,aG,bD,b4,bR,dx,dS,dT];clear aQ aJ aG bD b4 bR dx dS dT;obtain⟨n,bX,bS⟩:∃j,j∈hV/\j=dt:=⟨dt,di,rfl⟩;rw[<-bS];have aK:=O bX;clear bS bX;clear hd hm hR;obtain⟨hd,hm,hR,T⟩:=C;replace Nv:=Nv.trans T;clear T;obtain⟨w1,cD⟩:=nm_ bw;rw[<-cD]at hd hm hR Nv |-;clear cD
 rcases(by omega:(k=5)∨(k=6)∨(k=7∨k=8∨k=9))with cq|b0|bZ
 .subst cq;go_upto_region 7 with fail;obtain⟨W,aH⟩:=nm_ w1;rw[<-aH]at hd hm hR Nv |-;clear aH;have eT:=aN;clear aN;have aN:∀y∈[g,m,R0],y<R0+1:=p_;have aV:Es B g m R0 229 left loops fn S_ W W:=⟨hd,⟨left,hl0,GH _,hm⟩,hR,F_ [g,m] W⟩;refine iO (Es B g m R0 229 left loops fn S_ W) (λ_ Nr=>∃(t:ST) (N:Nat) (l:Int),Bk Nr R0 229 t.g_/\jL (jC (R0+1)) Nr t/\SG hV (4-p) N t/\0<=l/\l<=left/\(N:Int)+2*l<=2+2*left/\Bk Nr m 222 #[q_ g,Y l,Y loops,Y fn]/\iN Nr B g/\J [g,m,R0] W Nr) (GL [g,m,R0] g m loops fn) [SU.val _ (q_ m),(SU.tree aN (2)).less (λ_ _ h=>h.1),(SU.trees aN 2 1).less (λ_ _ h=>h.1),SU.val _ (q_ m),SU.val _ (Y P),SU.val _ (Y (P+1)),SU.l1 aN (4-(p+1)) g m left loops fn,SU.val _ (q_ m),SU.val _ (Y P),SU.val _ (Y (P+1)),SU.l2 aN 6 (4-(p+1)) g m left loops fn,SU.of (λj w=>∃(t:ST) (N:Nat) (l:Int),j=.agg t.g_/\jL (jC (R0+1)) w t/\SG hV (4-p) N t/\0<=l/\l<=left/\(N:Int)+2*l<=2+2*left/\Lf g m loops fn l w) (λ_ _ _ v⟨t,N,l,h1,L,h3,am,au,bl,bM⟩=>⟨t,N,l,h1,L.ih v.1 (λx hx=>G3.2 (aN x hx)),h3,am,au,bl,v.2 _ bM⟩),SU.any _] (SU.any _) [[],[0],[1],[],[],[4],[3,5],[],[],[8],[7,9,6],[2,6,10],[11]] true [(some 39,0),(some 40,1),(some 41,2),(some 42,3),(some 43,4),(some 44,5),(some 45,6),(some 46,7),(some 47,8),(some 48,9),(some 49,10),(some 50,11),(none,12)] k_ k_ (λ_ _ _ _ _ h=>h) k_ rfl rfl k_ aV ⟨?_,?_,?_,?_,?_,?_,?_,?_,?_,?_,?_,?_,?_,trivial⟩ ?_
  exact Lp
  .refine hS [(some 39,0)] ?_;intro vs V C Nw K Nu;obtain⟨o, -⟩:=Nw;replace o:_=_:=o;try simp only[b_,o]at Nu |-
   obtain⟨cT,eA,eG,cI⟩:=C.lf;go_simp;go_at_call 140;refine(kL B g m cT loops fn 2 X _ rfl _ C.d cI hBm).mono ?_;rintro e w1⟨t,rfl,Nt,ar,a2,hg1⟩;exact Nu.out _ _ (C.step hg1 a2 ag z) (GL.of hg1 H ag) ⟨t,rfl,Nt.le C.r.lt,ar⟩
  .refine hS [(some 40,1)] ?_;intro vs V C Nw K Nu;obtain⟨⟨ta,o,ap,E⟩, -⟩:=Nw;try simp only[b_,o]at Nu |-
   obtain⟨Np,b5,b6,b7,b8,b9,ca⟩:=ta;simp only[ET.ik]at Nu |-;go_simp;refine Nu.out _ _ (C.hF ((F_ [] _).alloc _)) (GL.jD ((F_ [] _).alloc _)) ⟨_,[ET.mk Np b5 b6 b7 b8 b9 ca],rfl,rfl,C.r.lt,nJ (ET.mk Np b5 b6 b7 b8 b9 ca) (P_ _ _ _),?_⟩;exact LT
  exact Lp;exact Lp;refine hS [(some 43,4)] ?_;exact Ku;refine hS [(some 42,3),(some 44,5)] ?_;exact Jj;exact Lp;exact Lp;refine hS [(some 47,8)] ?_;exact Ku;refine hS [(some 46,7),(some 48,9),(some 45,6)] ?_;exact Jb
  .refine hS [(some 41,2),(some 45,6),(some 49,10)] ?_;intro vs V C Nw K Nu;obtain⟨⟨a8,ta,o,cS,bu,be,dg⟩, -,⟨dr,dz,dM,d1,Ac,cc,tc,cR,lc,d6,dR,ec,cg,db,de,dJ,cY⟩, -⟩:=Nw;try simp only[b_,o,d6,ec]at Nu |-
   go_simp;refine Nu.out _ _ C (GL.jD (F_ [] _)) ⟨(ST.mk 4 i6 i6 0 0 (j_ a8) 1 ta dr dz dM Ac cc tc),1+d1+cR,lc,?_,?_,?_,db,de,by push_cast;omega,cY⟩;show Value.agg _=Value.agg (ST.mk 4 i6 i6 0 0 (j_ a8) 1 ta dr dz dM Ac cc tc).g_;simp only[ST.ik,cS];rfl;exact jL.node _ _ _ _ _ _ _ _ (by rw[cS];exact be) (by rw[cS];exact H_ _) (λy off h=>by injection h with h;injection h with h;omega) (λu hu=>(dg u hu).1) dR cg;have hD:4-p=(4-(p+1))+1:=X;rw[hD];exact SG.node (t:=(ST.mk 4 i6 i6 0 0 (j_ a8) 1 ta dr dz dM Ac cc tc)) (by show m_ _ 4 i6 i6 0 0 ta.length true true;rw[cS];exact .Ea) (λu hu=>(dg u hu).2) dR.sg cg.sg
  .refine ju [(some 50,11)] ?_;exact JA
  exact Kx
 .subst b0;go_upto_region 9 with fail;obtain⟨W,aH⟩:=nm_ w1;rw[<-aH]at hd hm hR Nv |-;clear aH;have eT:=aN;clear aN;have aN:∀y∈[g,m,R0],y<R0+1:=p_;have aV:Es B g m R0 229 left loops fn S_ W W.drew:=⟨hd.hF (F_ [] W).drew,⟨left,hl0,GH _,hm.hF (F_ [] W).drew⟩,hR.hF (F_ [] W).drew,(F_ [g,m] W).drew⟩;refine kq (Es B g m R0 229 left loops fn S_ W) (λ_ Nr=>∃(t:ST) (N:Nat) (l:Int),Bk Nr R0 229 t.g_/\jL (jC (R0+1)) Nr t/\SG hV (4-p) N t/\0<=l/\l<=left/\(N:Int)+2*l<=2+2*left/\Bk Nr m 222 #[q_ g,Y l,Y loops,Y fn]/\iN Nr B g/\J [g,m,R0] W Nr) (GL [g,m,R0] g m loops fn) [(SU.BI aN 9 mf 5).less (λ_ _ h=>h.1),SU.val _ (q_ m),SU.val _ (q_ m),SU.val _ (q_ m),SU.val _ (q_ g),SU.num _ 0 3,(SU.elem aN 9 mf 5).less (λ_ _ h=>h.1),SU.pure _ (λj=>∃s,s∈hV/\j=.string s),SU.val _ (q_ m),SU.val _ (Y P),SU.val _ (Y (P+1)),SU.l1 aN (4-(p+1)) g m left loops fn,SU.val _ (q_ m),SU.val _ (Y P),SU.val _ (Y (P+1)),SU.l2 aN 11 (4-(p+1)) g m left loops fn,SU.of (λj w=>∃(t:ST) (N:Nat) (l:Int),j=.agg t.g_/\jL (jC (R0+1)) w t/\SG hV (4-p) N t/\0<=l/\l<=left/\(N:Int)+2*l<=2+2*left/\Lf g m loops fn l w) (λ_ _ _ v⟨t,N,l,h1,L,h3,am,au,bl,bM⟩=>⟨t,N,l,h1,L.ih v.1 (λx hx=>G3.2 (aN x hx)),h3,am,au,bl,v.2 _ bM⟩),SU.any _] (SU.any _) [[],[],[1],[2],[3],[4],[0,5],[6],[],[],[9],[8,10],[],[],[13],[12,14,11],[7,11,15],[16]] true [(some 53,0),(some 54,1),(some 55,2),(some 56,3),(some 57,4),(some 58,5),(some 59,6),(some 60,7),(some 61,8),(some 62,9),(some 63,10),(some 64,11),(some 65,12),(some 66,13),(some 67,14),(some 68,15),(some 69,16),(none,17)] k_ k_ k_ (λ_ _ _ _ _ h=>h) k_ rfl rfl k_ aV ⟨?_,?_,?_,?_,?_,?_,?_,?_,?_,?_,?_,?_,?_,?_,?_,?_,?_,?_,trivial⟩ ?_
  .refine hS [] ?_;intro vs V C Nw K Nu;clear Nw;try simp only[b_]at Nu |-
   go_simp;go_at_call 177;refine(lY).mono ?_;rintro e w1⟨rfl,rfl⟩;exact Nu.out _ _ (C.hF ((F_ [] _).alloc _)) (GL.jD ((F_ [] _).alloc _)) ⟨_,rfl,C.r.lt,P_ _ _ _⟩
  exact Lp;refine hS [(some 54,1)] ?_;exact K8;refine hS [(some 55,2)] ?_;exact K8;refine hS [(some 56,3)] ?_;intro vs V C Nw K Nu;obtain⟨o, -⟩:=Nw;replace o:_=_:=o;try simp only[b_,o]at Nu |-
  obtain⟨dh,⟨fu,er,et,a⟩,bz,cV⟩:=id C;have U:=a.f_ 0;have ah:=a.f_ 1;have ay:=a.f_ 2;have aS:=a.f_ 3;exact M3
  .refine hS [(some 57,4)] ?_;intro vs V C Nw K Nu;obtain⟨o, -⟩:=Nw;replace o:_=_:=o;try simp only[b_,o]at Nu |-
   go_simp;go_at_call 19;refine(ij B g _ C.d X X).mono ?_;rintro e w1⟨r,rfl,h0,h1,a2,hg1⟩;exact Nu.out _ _ (C.step hg1 a2 ag z) (GL.of hg1 H ag) ⟨r,rfl,h0,h1⟩
  .refine hS [(some 53,0),(some 58,5)] ?_;intro vs V C Nw K Nu;obtain⟨⟨a8,o,bu,be⟩,⟨rb,aq,dw,c6⟩, -⟩:=Nw;try simp only[b_,o,aq]at Nu |-
   obtain⟨k,rfl⟩:∃k:Nat,rb=k:=⟨rb.toNat,X⟩;have d0:(k:Int)<5:=X;go_simp;exact Nu.out _ _ C (GL.jD (F_ [] _)) ⟨a8,k,rfl,X,bu,be⟩
  .refine hS [(some 59,6)] ?_;intro vs V C Nw K Nu;obtain⟨⟨a8,E,o,a7,bu,be⟩, -⟩:=Nw;try simp only[b_,o]at Nu |-
   obtain⟨s,hs,bG⟩:=BP E X;have ah:=(be.f_ E).trans bG;go_simp;exact Nu.out _ _ C (GL.jD (F_ [] _)) ⟨s,hs,rfl⟩
  exact Lp;exact Lp;refine hS [(some 62,9)] ?_;exact Ku;refine hS [(some 61,8),(some 63,10)] ?_;exact Jj;exact Lp;exact Lp;refine hS [(some 66,13)] ?_;exact Ku;refine hS [(some 65,12),(some 67,14),(some 64,11)] ?_;exact Jb
  .refine hS [(some 60,7),(some 64,11),(some 68,15)] ?_;intro vs V C Nw K Nu;obtain⟨⟨bB,bK,o⟩, -,⟨du,dB,dQ,d5,Ac,cc,tc,cR,lc,d7,dU,ec,cg,db,de,dJ,cY⟩, -⟩:=Nw;try simp only[b_,o,d7,ec]at Nu |-
   go_simp;refine Nu.out _ _ C (GL.jD (F_ [] _)) ⟨(ST.mk 9 bB i6 0 0 none 0 [] du dB dQ Ac cc tc),1+d5+cR,lc,?_,?_,?_,db,de,by push_cast;omega,cY⟩;show Value.agg _=Value.agg (ST.mk 9 bB i6 0 0 none 0 [] du dB dQ Ac cc tc).g_;simp only[ST.ik];rfl;exact jL.node _ _ _ _ _ _ _ _ (GU _ _ _ _) (H_ _) (λ_ _ h=>by cases h) (λu hu=>by cases hu) dU cg;have hD:4-p=(4-(p+1))+1:=X;rw[hD];exact SG.node (t:=(ST.mk 9 bB i6 0 0 none 0 [] du dB dQ Ac cc tc)) (.Cc _ bK) (λu hu=>by cases hu) dU.sg cg.sg
  .refine ju [(some 69,16)] ?_;exact JA
  exact Kx
 have ej:(k==5)=false:=p_;have ek:(k==6)=false:=p_;have d8:IntKind.i64.wrap (loops+1)=loops+1:=Gm _ X;have ay:=hm.f_ 2;have aZ:=hm.hG 2;go_upto_region 11 with fail;clear ay aZ d8;have an:J [m] w1 (w1.setCell (Z m 2) (Y (loops+1))):=(F_ [m] w1).setCell (.inl H) _;replace hm:Bk (w1.setCell (Z m 2) (Y (loops+1))) m 222 #[q_ g,Y left,Y (loops+1),Y fn]:=hm.hU 2 _;replace hd:=hd.ih an p_;replace hR:=hR.gr an p_;have av:J [g,m] w (w1.setCell (Z m 2) (Y (loops+1))):=(Nv.mono H).trans (an.mono H);clear Nv an;obtain⟨W,aH⟩:=nm_ (w1.setCell (Z m 2) (Y (loops+1)));rw[<-aH]at hd hm hR av |-;clear aH;have aV:Ex B g m R0 229 #[q_ g,Y left,Y (loops+1),Y fn] S_ W W.drew:=⟨hd.hF (F_ [] W).drew,hm.hF (F_ [] W).drew,hR.hF (F_ [] W).drew,(F_ [g] W).drew⟩;refine kq (Ex B g m R0 229 #[q_ g,Y left,Y (loops+1),Y fn] S_ W) (λvs Nr=>∃(R7 x:Nat) (r:Int),vs 10=q_ R7/\0<=r/\r<=9/\R0+1<=R7/\R0+1<=x/\x≠R7/\Bk Nr R7 229 #[Y 5,.string n,.string i6,Y 0,Y 0,.slice (j_ x) 2 2,n_,n_]/\Bk Nr x 226 #[Y 1,Y 0,.string i6,Y 0,n_,Y 1,Y r,.string i6,Y 0,n_]/\iN Nr B g/\Bk Nr m 222 #[q_ g,Y left,Y (loops+1),Y fn]/\Bk Nr R0 229 S_/\J [g,R7] W Nr) (J [g,R0]) [SU.val _ (.string n),SU.pure _ (λj=>j=.agg #[Y 1,Y 0,.string i6,Y 0,n_]),SU.val _ (q_ m),SU.val _ (q_ m),SU.val _ (q_ m),SU.val _ (q_ g),SU.num _ 0 5,SU.pure _ (λj=>∃r:Int,0<=r/\r<=9/\j=.agg #[Y 1,Y r,.string i6,Y 0,n_]),SU.of (λj w=>∃(x:Nat) (r:Int),0<=r/\r<=9/\j=.slice (j_ x) 2 2/\R0+1<=x/\Bk w x 226 #[Y 1,Y 0,.string i6,Y 0,n_,Y 1,Y r,.string i6,Y 0,n_]) (λ_ _ _ v⟨x,r,h0,h1,L,h3,am⟩=>⟨x,r,h0,h1,L,h3,am.gr v (λhm=>by have:=aN x hm;omega)⟩),SU.of (λj w=>∃(x:Nat) (r:Int),0<=r/\r<=9/\j=.agg #[Y 5,.string n,.string i6,Y 0,Y 0,.slice (j_ x) 2 2,n_,n_]/\R0+1<=x/\Bk w x 226 #[Y 1,Y 0,.string i6,Y 0,n_,Y 1,Y r,.string i6,Y 0,n_]) (λ_ _ _ v⟨x,r,h0,h1,L,h3,am⟩=>⟨x,r,h0,h1,L,h3,am.gr v (λhm=>by have:=aN x hm;omega)⟩),SU.of (λj w=>∃R7,j=q_ R7/\R0+1<=R7/\Bk w R7 229 #[Y 0,.string i6,.string i6,Y 0,Y 0,n_,n_,n_]) (λ_ _ _ v⟨x,L,h3,am⟩=>⟨x,L,h3,am.gr v (λhm=>by have:=aN x hm;omega)⟩),SU.any _] (SU.any _) [[],[],[],[2],[3],[4],[5],[6],[1,7],[0,8],[],[10,9]] true [(some 77,0),(some 78,1),(some 79,2),(some 80,3),(some 81,4),(some 82,5),(some 83,6),(some 84,7),(some 85,8),(some 86,9),(some 7,10),(none,11)] k_ k_ k_ (λ_ _ _ _ _ h=>h) k_ rfl rfl k_ aV ⟨?_,?_,?_,?_,?_,?_,?_,?_,?_,?_,?_,?_,trivial⟩ ?_
 exact LA
 .refine hS [] ?_;intro vs V C Nw K Nu;clear Nw;try simp only[b_]at Nu |-
  go_simp;go_at_call 144;refine(kf 0).mono ?_;exact MP
 exact LA;refine hS [(some 79,2)] ?_;exact Le;refine hS [(some 80,3)] ?_;exact Le;refine hS [(some 81,4)] ?_;exact J5;refine hS [(some 82,5)] ?_;exact JV;refine hS [(some 83,6)] ?_;exact J7
 .refine hS [(some 78,1),(some 84,7)] ?_;intro vs V C Nw K Nu;obtain⟨o,⟨rb,dw,c6,aq⟩, -⟩:=Nw;replace o:_=_:=o;try simp only[b_,o,aq]at Nu |-
  go_simp;exact Nu.out _ _ (C.hF ((F_ [] _).alloc _)) ((F_ _ _).alloc _) ⟨_,rb,dw,c6,rfl,C.r.lt,P_ _ _ _⟩
 .refine hS [(some 77,0),(some 85,8)] ?_;intro vs V C Nw K Nu;obtain⟨o,⟨aP,rb,dw,c6,aq,cK,bE⟩, -⟩:=Nw;replace o:_=_:=o;try simp only[b_,o,aq]at Nu |-
  go_simp;exact Nu.out _ _ C (F_ _ _) ⟨aP,rb,dw,c6,rfl,cK,bE⟩
 exact KC
 .refine ju [(some 7,10),(some 86,9)] ?_;intro vs V C Nw K Nu;obtain⟨⟨a8,o,bu,be⟩,⟨aP,rb,dw,c6,aq,cK,bE⟩, -⟩:=Nw;try simp only[b_,o,aq]at Nu |-
  refine iZ k_ ?_;refine ic 229 rfl a8 r_ #[Y 5,.string n,.string i6,Y 0,Y 0,.slice (j_ aP) 2 2,n_,n_] r_ 229 be rfl k_ (by simp[Value.oneCell']) ?_;intro Nr aB T;have ax:aP≠a8:=Bk.l8 bE be I;have dy:=C.g.size;exact Nu.out undef _ (λ_=>⟨a8,aP,rb,o,dw,c6,bu,cK,ax,aB,bE.gr T (zu ax),C.d.ih T p_,C.m.gr T p_,C.r.gr T p_,(C.g.mono H).trans (T.mono H)⟩)
 intro vs bw C;simp only[b_];clear hd hm hR aV;obtain⟨R7,x,r,e10,bC,dZ,bM,bV,dn,bL,G,hd,hm,hR,T⟩:=C;rw[e10];clear e10;have cG:=dC;replace av:=av.hI T p_;clear T;by_cases ck:0<P
 focus
  go_upto_region 13 with fail;have eT:=aN;clear aN;have aN:∀y∈[g,x],y<x+1:=p_;obtain⟨W,aH⟩:=nm_ bw;rw[<-aH]at hd hm hR bL G av |-;clear aH;have aV:Dn B g m R0 R7 x #[q_ g,Y left,Y (loops+1),Y fn] S_ #[Y 5,.string n,.string i6,Y 0,Y 0,.slice (j_ x) 2 2,n_,n_] #[Y 1,Y 0,.string i6,Y 0,n_,Y 1,Y r,.string i6,Y 0,n_] W W.drew:=⟨hd.hF (F_ [] W).drew,hm.hF (F_ [] W).drew,hR.hF (F_ [] W).drew,bL.hF (F_ [] W).drew,G.hF (F_ [] W).drew,(F_ [g] W).drew⟩;have aE:x≠g:=X;have dD:R7≠g:=X;refine kq (Dn B g m R0 R7 x #[q_ g,Y left,Y (loops+1),Y fn] S_ #[Y 5,.string n,.string i6,Y 0,Y 0,.slice (j_ x) 2 2,n_,n_] #[Y 1,Y 0,.string i6,Y 0,n_,Y 1,Y r,.string i6,Y 0,n_] W) (λ_ Nr=>∃r:Int,0<=r/\r<=9/\Bk Nr x 226 #[Y 1,Y 0,.string i6,Y 0,n_,Y 1,Y r,.string i6,Y 0,n_]/\Bk Nr R7 229 #[Y 5,.string n,.string i6,Y 0,Y 0,.slice (j_ x) 2 2,n_,n_]/\iN Nr B g/\Bk Nr m 222 #[q_ g,Y left,Y (loops+1),Y fn]/\Bk Nr R0 229 S_/\J [g,x] W Nr) (J [g,x]) [SU.val _ (.pointer (some (Z R7 5))),SU.val _ (.slice (j_ x) 2 2),SU.val _ (q_ m),SU.val _ (q_ m),SU.val _ (q_ m),SU.val _ (q_ g),SU.num _ 0 3,SU.pure _ (λj=>∃r:Int,0<=r/\r<=9/\j=.agg #[Y 1,Y r,.string i6,Y 0,n_]),SU.val _ (.pointer (some (Z x 5))),SU.any _] (SU.any _) [[],[0],[],[2],[3],[4],[5],[6],[1],[8,7]] true [(some 89,0),(some 90,1),(some 91,2),(some 92,3),(some 93,4),(some 94,5),(some 95,6),(some 96,7),(some 97,8),(none,9)] k_ k_ k_ (λ_ _ _ _ _ h=>h) k_ rfl rfl k_ aV ⟨?_,?_,?_,?_,?_,?_,?_,?_,?_,?_,trivial⟩ ?_
  exact LA;refine hS [(some 89,0)] ?_;exact Kn;exact LA;refine hS [(some 91,2)] ?_;exact Le;refine hS [(some 92,3)] ?_;exact Le;refine hS [(some 93,4)] ?_;exact Kn
  .refine hS [(some 94,5)] ?_;intro vs V C Nw K Nu;obtain⟨o, -⟩:=Nw;replace o:_=_:=o;try simp only[b_,o]at Nu |-
   go_simp;go_at_call 19;refine(ij B g _ C.d X X).mono ?_;rintro e w1⟨r,rfl,h0,h1,a2,hg1⟩;exact Nu.out _ _ (C.step hg1 a2 ag z dD aE) (hg1.mono H) ⟨r,rfl,h0,h1⟩
  refine hS [(some 95,6)] ?_;exact J7;refine hS [(some 90,1)] ?_;exact Le
  .refine ju [(some 97,8),(some 96,7)] ?_;intro vs V C Nw K Nu;obtain⟨o,⟨rb,dw,c6,aq⟩, -⟩:=Nw;replace o:_=_:=o;try simp only[b_,o,aq]at Nu |-
   refine iZ k_ ?_;refine jE 226 _ _ rfl x 5 r_ #[Y 1,Y rb,.string i6,Y 0,n_] r_ 226 _ C.x H k_ (by simp[Value.oneCell']) ?_;intro Nr aB T;exact Nu.out undef _ (λ_=>⟨rb,dw,c6,aB,C.s.gr T (zu dn.symm),C.d.ih T p_,C.m.gr T p_,C.r.gr T p_,(C.g.mono H).trans (T.mono H)⟩)
  intro vs bw C;simp only[b_];clear hd hm hR bL G aV bC dZ;obtain⟨r,bC,dZ,G,bL,hd,hm,hR,T⟩:=C;replace av:=av.hI T p_;clear T
 all_goals
  obtain⟨af,ce⟩:=nm_ bw;rw[<-ce]at hd hm hR bL G av |-;clear ce;have bD:IntKind.i64.wrap (P+1)=P+1:=Gm _ X
  go_upto_region 15 with(go_at_call 139;refine(bg (P+1) 3 left (loops+1) _ (ov aU.out) X X hd hm hBm X X X (by push_cast;omega)).mono ?_;rintro e ae⟨A,c,ts,N,l,rfl,dq,ct,cy,d4,bt,cF,bH,a6⟩;obtain⟨n0,hn0⟩:=nm_ ts.length;rw[<-hn0];have aX:=O hn0;rw[<-hn0]at dq;clear hn0;have d9:=(bL.gr a6 p_).f_ 6;have dW:=(bL.gr a6 p_).hG 6);clear d9 dW bD;have bp:R7<af.heap.size/\x<af.heap.size/\R0<af.heap.size:=⟨bL.lt,G.lt,hR.lt⟩;have ai:J [R7] ae (ae.setCell (Z R7 6) (.slice A n0 c)):=(F_ [R7] ae).setCell (.inl H) _;have bn:Bk (ae.setCell (Z R7 6) (.slice A n0 c)) R7 229 #[Y 5,.string n,.string i6,Y 0,Y 0,.slice (j_ x) 2 2,.slice A n0 c,n_]:=(bL.gr a6 p_).hU 6 _;have ak:=ct.iy ai p_;have aO:=(G.gr a6 p_).gr ai (zu dn);have bj:=bH.ih ai p_;have bi:=cF.gr ai p_;have aM:=(hR.gr a6 p_).gr ai p_;have F:J [g,m] w (ae.setCell (Z R7 6) (.slice A n0 c)):=(av.trans a6).hI ai p_;have dX:af.heap.size<=(ae.setCell (Z R7 6) (.slice A n0 c)).heap.size:=G_ a6.size ai.size;clear bL G hd hm hR av ct bH cF a6 ai;obtain⟨Nq,bW⟩:=nm_ (ae.setCell (Z R7 6) (.slice A n0 c));rw[<-bW]at bn ak aO bj bi aM F dX |-;clear bW;have br:af.heap.size<=Nq.heap.size:=dX
  by_cases dj:k=9
  .have eb:(k==9)=true:=by simp[dj]
   have U:=bi.f_ 0;go_wp2_with fail;go_at_call 19;refine(ij B g 2 bj X X).mono ?_;rintro e az⟨q,rfl,em,eo,cv,aC⟩;clear U bj;have bj:=cv;replace bi:=bi.gr aC p_;replace aM:=aM.gr aC p_;replace bn:=bn.gr aC p_;replace aO:=aO.gr aC p_;replace ak:=ak.iy aC p_;replace F:=F.trans (aC.mono H);replace br:=G_ br aC.size;clear aC cv;obtain⟨Nq,bW⟩:=nm_ az;rw[<-bW]at bj bi aM bn aO ak F br |-;clear bW
   by_cases cM:q=0
   .subst cM;go_upto_region 16 with fail;have ax:=aX.out;subst ax;obtain⟨W,aH⟩:=nm_ Nq;rw[<-aH]at bj bi aM bn ak F br |-;clear aH;have cX:∀y∈[g],y∈(g::oK (Value.slice A ts.length c).ownBlock):=H
    have eJ:∀y∈oK (Value.slice A ts.length c).ownBlock,af.heap.size<=y:=λy hy=>(kD ak.own (jK.1 hy)).1;have eX:∀y,(Value.slice A ts.length c).ownBlock=some y->y<W.heap.size:=λy hy=>(kD ak.own hy).2;have ed:af.heap.size<=W.heap.size:=br;have eT:=aN;clear aN;have aN:∀y∈(g::oK (Value.slice A ts.length c).ownBlock),y<W.heap.size:=ML;have dD:R7≠g:=X;have hbg:g<af.heap.size:=X;have aV:Ws B g m R0 R7 af.heap.size (4-(p+1)) N A c ts #[q_ g,Y l,Y (loops+1),Y fn] S_ #[Y 5,.string n,.string i6,Y 0,Y 0,.slice (j_ x) 2 2,.slice A ts.length c,n_] W false W.drew:=⟨bj.hF (F_ [] W).drew,bi.hF (F_ [] W).drew,aM.hF (F_ [] W).drew,bn.hF (F_ [] W).drew,λ_=>ak.iy (F_ [] W).drew H,(F_ (g::oK (Value.slice A ts.length c).ownBlock) W).drew,X,X,X⟩;refine ol (λf=>Ws B g m R0 R7 af.heap.size (4-(p+1)) N A c ts #[q_ g,Y l,Y (loops+1),Y fn] S_ #[Y 5,.string n,.string i6,Y 0,Y 0,.slice (j_ x) 2 2,.slice A ts.length c,n_] W (f 19)) (λ_ Nr=>∃(t:ST) (K:Nat),Bk Nr R7 229 t.g_/\jL (jC (R7+1)) Nr t/\SG hV (4-p) K t/\(K:Int)<=N+2/\iN Nr B g/\Bk Nr m 222 #[q_ g,Y l,Y (loops+1),Y fn]/\Bk Nr R0 229 S_/\J (R7::(g::oK (Value.slice A ts.length c).ownBlock)) W Nr) (G2 19 [g] (g::oK (Value.slice A ts.length c).ownBlock)) [SU.mB _ (.string n),(SU.tree aN (0)).vG (λ_ _ _ h=>h.gr cX),SU.mB _ (q_ m),SU.mB _ (q_ m),SU.mB _ (q_ m),SU.mB _ (q_ g),(SU.num _ 0 4).vG (λ_ _ _ h=>h.gr cX),(SU.tree aN (0)).vG (λ_ _ _ h=>h.gr cX),(SU.tree aN (0+1)).vG (λ_ _ _ h=>h.gr cX),(SU.trees aN 2 1).vG (λ_ _ _ h=>h.gr cX),SU.mB _ (.pointer (some (Z R7 6))),SU.mB _ (.slice A ts.length c),SU.mB _ (.string n),SU.mB _ (.string n),(SU.tree aN (0)).vG (λ_ _ _ h=>h.gr cX),(SU.tree aN (0)).vG (λ_ _ _ h=>h.gr cX),(SU.tree aN (0+1)).vG (λ_ _ _ h=>h.gr cX),(SU.stmt aN (1) (1)).vG (λ_ _ _ h=>h.gr cX),(SU.of (λj w=>∃(x:Nat) (t:ST),j=.slice (j_ x) 1 1/\W.heap.size<=x/\Bk w x 229 t.g_/\jL (jC W.heap.size) w t/\SG hV 1 1 t) (λ_ _ _ v⟨x,t,h1,L,h3,am,au⟩=>⟨x,t,h1,L,h3.gr v (λhm=>by have:=aN x hm;omega),am.ih v (λy hy=>G3.2 (aN y hy)),au⟩)).vG (λ_ _ _ h=>h.gr cX),SU.zV [19] (λj w=>∃(aw:OA) (aj:Nat) (us:QV) (K:Nat),j=.slice aw us.length aj/\lL hV af.heap.size (4-(p+1)) K w aw aj us/\K<=N+1) (λi hi j w w' v⟨aw,aj,us,K,h1,L,h3⟩=>⟨aw,aj,us,K,h1,L.iy (v.ne (zu hi)) p_,h3⟩),SU.zV [19] (λj w=>∃(t:ST) (K:Nat),j=.agg t.g_/\jL (jC (R7+1)) w t/\SG hV (4-p) K t/\(K:Int)<=N+2) (λi hi j w w' v⟨t,K,h1,L,h3,am⟩=>⟨t,K,h1,L.ih (v.ne (zu hi)) p_,h3,am⟩),SU.anyI _] (SU.anyI _) [[],[0],[],[2],[3],[4],[5],[6],[1,7],[8],[],[10],[],[],[13],[],[14,15],[12,16],[17],[11,18],[9,19],[20]] true [(some 113,0),(some 114,1),(some 115,2),(some 116,3),(some 117,4),(some 118,5),(some 119,6),(some 120,7),(some 121,8),(some 122,9),(some 123,10),(some 124,11),(some 125,12),(some 126,13),(some 127,14),(some 128,15),(some 129,16),(some 130,17),(some 131,18),(some 132,19),(some 133,20),(none,21)] k_ k_ k_ (λ_ _ _ _ _ h=>h) k_ rfl rfl k_ aV ⟨?_,?_,?_,?_,?_,?_,?_,?_,?_,?_,?_,?_,?_,?_,?_,?_,?_,?_,?_,?_,?_,?_,trivial⟩ ?_;exact Lw;refine jg [(some 113,0)] ?_;exact JU;exact Lw;refine jg [(some 115,2)] ?_;exact Lb;refine jg [(some 116,3)] ?_;exact Lb;refine jg [(some 117,4)] ?_;exact Kh
    .refine jg [(some 118,5)] ?_;intro f vs V hf C Nw K Nu;obtain⟨o, -⟩:=Nw;replace o:_=_:=o;try simp only[b_,o]at Nu |-
     go_simp;go_at_call 19;refine(ij B g _ C.d X X).mono ?_;rintro e w1⟨r,rfl,h0,h1,a2,hg1⟩;exact Nu.out _ _ (C.step hg1 a2 ag z dD hbg) hg1 ⟨r,rfl,h0,h1⟩
    refine jg [(some 119,6)] ?_;intro f vs V hf C Nw K Nu;exact J2;refine jg [(some 114,1),(some 120,7)] ?_;intro f vs V hf C Nw K Nu;exact JI;refine jg [(some 121,8)] ?_;exact Jm;exact Lw;refine jg [(some 123,10)] ?_;exact Kh;exact Lw;exact Lw;refine jg [(some 126,13)] ?_;exact JU;refine jg [] ?_;intro f vs V hf C Nw K Nu;exact Kl
    .refine jg [(some 127,14),(some 128,15)] ?_;intro f vs V hf C Nw K Nu;obtain⟨⟨ta,o,ap,E⟩,⟨tb,aq,ao,d⟩, -⟩:=Nw;try simp only[b_,o,aq]at Nu |-
     go_simp;go_at_call 143;refine(oG W.heap.size 1 ta tb C.hz ap ao).mono ?_;rintro e w1⟨A,rfl,Nt,hg1⟩;exact Nu.out _ _ (C.hF hg1) (hg1.mono H) ⟨p5 1 A ta tb,rfl,Nt,.bin 0 _ _ _ _ X X (E.mono X) (d.mono X)⟩
    .refine jg [(some 125,12),(some 129,16)] ?_;intro f vs V hf C Nw K Nu;obtain⟨o,⟨tb,aq,ao,d⟩, -⟩:=Nw;replace o:_=_:=o;try simp only[b_,o,aq]at Nu |-
     go_simp;go_at_call 142;refine(kQ W.heap.size _ _ _ C.hz ao).mono ?_;rintro e w1⟨A,rfl,Nt,hg1⟩;exact Nu.out _ _ (C.hF hg1) (hg1.mono H) ⟨i3 _ A _,rfl,Nt,SG.leaf (.vC _ aK.out) rfl rfl (by intro u hu;rcases O_.1 hu with rfl|hu;exact d.mono X;cases hu)⟩
    refine jg [(some 130,17)] ?_;exact JB;refine jg [(some 124,11),(some 131,18)] ?_;intro f vs V hf C Nw K Nu;obtain⟨o,⟨aP,tb,aq,cK,bE,ao,d⟩, -⟩:=Nw;replace o:_=_:=o;try simp only[b_,o,aq]at Nu |-
    have ct:=C.lf hf;have fd:=C.hz;refine iZ k_ ?_;refine oO _ _ _ rfl af.heap.size 229 i1 _ 8 128 underlying211 bT cj cn cr rfl I I A ts.length c (ts.flatMap ST.E) r_ ct.own _ 1 1 ([tb].flatMap ST.E) r_ (rf tb bE) (k7) X X ?_;intro aw aj bN cu bI bO;have dm:=ct.add (us:=[tb]) cu bI bO (λu hu=>by have:u=tb:=(zu hu);subst this;exact ao.imp (λy hy=>⟨by have:W.heap.size<=y:=hy;omega,λhe=>by have h1:=eX y he;have:W.heap.size<=y:=hy;omega⟩)) (d.mono X);exact Nu.out (.slice aw (ts.length+1) aj) _ (C.app (J.iR bI) eJ X) ((J.iR bI).mono (by intro y hy;simp[hy])) ⟨aw,aj,ts++[tb],N+1,H,by simpa using dm,H_ _⟩
    .refine jg [(some 122,9),(some 132,19)] ?_;intro f vs V hf C Nw K Nu;obtain⟨⟨a8,ta,o,cS,bu,be,dg⟩,⟨dF,cb,tb,eQ,aq,d2,nb⟩, -⟩:=Nw;try simp only[b_,o,aq]at Nu |-
     go_simp;refine Nu.out _ _ C (F_ _ _) ⟨(ST.mk 6 i6 i6 0 0 (j_ a8) 1 ta dF cb tb none 0 []),1+eQ,?_,?_,?_,by push_cast;omega⟩;show Value.agg _=Value.agg (ST.mk 6 i6 i6 0 0 (j_ a8) 1 ta dF cb tb none 0 []).g_;simp only[ST.ik,cS];rfl;have gk:=ed;exact jL.node _ _ _ _ _ _ _ _ (by rw[cS];exact be) (by rw[cS];exact H_ _) (λy off h=>by injection h with h;injection h with h;omega) (λu hu=>(dg u hu).1.le X) (d2.le X) (lL.nil _ _ _ _);have hD:4-p=(4-(p+1))+1:=X;rw[hD];exact SG.loop (t:=(ST.mk 6 i6 i6 0 0 (j_ a8) 1 ta dF cb tb none 0 [])) (by show m_ _ 6 i6 i6 0 0 ta.length true false;rw[cS];exact .EM) rfl (λu hu=>(dg u hu).2) d2.sg
    .refine wb [(some 133,20)] ?_;intro f vs V hf C Nw K Nu;obtain⟨⟨ta,eD,o,ap,E,a7⟩, -⟩:=Nw;try simp only[b_,o]at Nu |-
     refine iZ k_ ?_;refine ic 229 rfl R7 r_ ta.g_ r_ 229 C.s rfl k_ (ST.one _) ?_;intro Nr aB T;exact Nu.out undef _ (λ_=>⟨ta,eD,aB,ap.ih T H,E,a7,C.d.ih T p_,C.m.gr T p_,C.r.gr T p_,(C.g.mono (by intro y hy;simp[hy])).trans (T.mono H)⟩)
    intro f vs bw hf C;simp only[b_];clear bj bi aM bn ak aV;obtain⟨t,K,S,Nt,ar,cJ,bj,bi,aM,T⟩:=C;have d3:(K:Int)+2*l<=2+2*left:=X;replace Nt:=Nt.le (show R0+1<=R7+1 by omega);replace F:=F.hI T (by
     intro y hy;rcases O_.1 hy with rfl|hy
     right;omega;rcases O_.1 hy with rfl|hy
     .left;simp
     right;have:=eJ y hy;omega)
    clear T;obtain⟨Nq,bW⟩:=nm_ bw;rw[<-bW]at S Nt bj bi aM F |-;clear bW;exact I4
   have ep:(q==0)=false:=by simp[cM]
   exact IR
  have eb:(k==9)=false:=by simp[dj]
  exact IR
def stmt_3(B g m:Nat)(fn:Int):Fi 3 B g m fn:=by
 intro x left loops w hP d a hBm hl0 hl1 hq0 hq1;have ea:3<=x:=X;clear hP;obtain⟨p,n⟩:=nm_ 3;rw[<-n];have s:=n;clear n;have bq:=d.wx;have S:=a.lt;go_enter func176,ntmps176;go_upto_region 1 with fail;have l:J [] w (w.alloc (.cells S_ 229)):=(F_ [] w).alloc _;replace d:=d.hF l;replace a:=a.hF l;have f:=P_ w 229 S_;have h:J [g] w (w.alloc (.cells S_ 229)):=(F_ [g] w).alloc _;clear l;obtain⟨bo,v⟩:=nm_ (w.alloc (.cells S_ 229));rw[<-v]at d a f h |-;clear v;obtain⟨R0,u⟩:=nm_ w.heap.size;rw[<-u]at f |-;have dC:w.heap.size<=R0:=X;have cH:g<R0:=X;have ad:B<=R0:=X;have c8:m<R0:=ov S;clear u;have I:∀Z∈[g,R0],Z<R0+1:=p_;have ag:m≠g:=X;have z:R0≠g:=X;have y:=a.f_ 0;have Q:=O s;clear s
 go_upto_region 2 with(go_at_call 19;refine(ij B g 10 d X X).mono ?_;rintro e w1⟨k,rfl,cq,b0,P,j⟩);clear y;replace a:=a.gr j p_;replace f:=f.gr j p_;replace h:=h.trans j;replace d:=P;clear j;go_upto_region 3 with fail;obtain⟨W,r⟩:=nm_ w1;rw[<-r]at d a f h |-;clear r;have L:Ex B g m R0 229 #[q_ g,Y left,Y loops,Y fn] S_ W W:=⟨d,a,f,F_ [g] W⟩;refine iO (Ex B g m R0 229 #[q_ g,Y left,Y loops,Y fn] S_ W) (λ_ Nr=>∃t,Bk Nr R0 229 t.g_/\jL (jC (R0+1)) Nr t/\SG hV 1 1 t/\iN Nr B g/\J [g,R0] W Nr) (J [g,R0]) [SU.val _ (q_ m),SU.stmt I (1) (1),SU.any _] (SU.any _) [[],[0],[1]] true [(some 26,0),(some 27,1),(none,2)] k_ k_ (λ_ _ _ _ _ U=>U) k_ rfl rfl k_ L ⟨?_,?_,?_,trivial⟩ ?_
 exact LA;exact JH
 .exact JK
 intro vs bw C;simp only[b_];obtain⟨t,aB,Nt,ar,F,T⟩:=C;go_wp2;exact rr_ t.g_ aB underlying229 ⟨t,1,left,rfl,Nt.le X,l4.mono ar (ov Q.out),hl0,GH _,X,a.gr T p_,F,(h.hI T p_).mono H⟩
def tv(B g m:Nat)(a:Int):EX 0 B g m a/\EX 1 B g m a:=by
 have h:=stmt_3 B g m a;have f:=sy 3 X B g m a h;have e:=vd 2 X B g m a f;have j:=sy 2 X B g m a e;have n:=vd 1 X B g m a j;have d:=sy 1 X B g m a n;have l:=vd 0 X B g m a d;exact⟨sy 0 X B g m a l,d⟩
def s9{w:World}{g base:Nat}{t:TypeId}{cs:Array Value}{n s:Nat}(h:Bk w g t cs)(a:cs.size=n*s)(d:base<=g)(e:n<=maxLen):w.ownsRow base t s (.slice (j_ g) n n) n cs.toList:=
 ⟨by simpa using a,.inr ⟨g,n,cs,rfl,d,h,H_ _,e,a,by rw[F7 p_]⟩⟩
def sV{l:QU}:∀u∈l.map Value.string,u.oneCell'=true:=by
 intro u a;obtain⟨d,_,rfl⟩:=Ge.1 a;rfl
def Dt(k:Nat)(a:k<8):∃s,s∈hV/\hV[k]?=some s/\hV.take (k+1)=hV.take k++[s]:=by
 match k,a with
 |0,_=>exact⟨wt,by simp[hV],rfl,rfl⟩
 |1,_=>exact⟨vm,by simp[hV],rfl,rfl⟩
 |2,_=>exact⟨vI,by simp[hV],rfl,rfl⟩
 |3,_=>exact⟨ph,by simp[hV],rfl,rfl⟩
 |4,_=>exact⟨nc,by simp[hV],rfl,rfl⟩
 |5,_=>exact⟨oL,by simp[hV],rfl,rfl⟩
 |6,_=>exact⟨xJ,by simp[hV],rfl,rfl⟩
 |7,_=>exact⟨xI,by simp[hV],rfl,rfl⟩
def EJ(aR D N:Nat)(ls:QV)(w:World)(e:Ending)(w':World):Prop:=
 ∃(A:OA) (c:Nat) (ss:QV),e=.returned (.slice A (ss++ls).length c)/\lL hV aR (D+1) (8+N) w' A c (ss++ls)/\ss.map ST.name=hV/\(∀s∈ss,s.h7=1)/\J [] w w'/\w.heap.size<=w'.heap.size/\(∀x,(Value.slice A (ss++ls).length c).ownBlock=some x->w.heap.size<=x)
def uI(C D N:Nat)(A:OA)(n c:Nat)(r:QV)(d8:OA)(cm:Nat)(T:TypeId){w:World}(hn:r.length=n)(hl:Sl w 229 8 A n (r.flatMap ST.E))(bF:n<=1000)(Nw:∀u∈r,jL (jC C) w u)(bX:l4 hV (D+1) N r)(y:C<=w.heap.size)
 (hm:Sl w T 1 d8 3 ([oL,xJ,xI].map Value.string)):
 Calls prog 141 #[.slice A n c,.slice d8 3 cm] w (EJ C D N r w):=by
 obtain⟨i1,bT,cj,cn,cr⟩:=info_parts infoSt;obtain⟨i2,ap,bV,b9,cz⟩:=info_parts infoStr;obtain⟨i,al⟩:=nm_ (EJ C D N r w);rw[<-al];have ao:=O al;have aX:=O hn;obtain⟨h,co⟩:=nm_ w.heap.size;have aS:h<=w.heap.size:=X;have bJ:w.heap.size<=h:=X;have bL:C<=h:=X;go_enter func141,ntmps141;go_wp2_with (first|(go_at_call 177;refine(lY).mono ?_;rintro an w1⟨rfl,rfl⟩)|(at_builtin;refine jZ rfl rfl h 9 i2 1 16 underlying207 ap bV b9 cz rfl I I (j_ w.heap.size) 5 5 _ rfl (s9 (n:=5) (s:=1) (P_ w 9 mf) rfl aS I) d8 3 cm _ rfl (hm.alloc _) (sV) X p_ ?_;intro b0 cq w2 cu bA d5));have av:=((F_ [] w).alloc _).hI (J.iR bA) (λe a=>by have:=jK.1 a;simp[Value.ownBlock]at this;right;omega);have aN:Sl w2 9 1 b0 8 (hV.map Value.string):=Sl.iP cu;go_loopw [5,12] (λov Z w'=>∃(k:Nat) (l:OA) (g:Nat) (d:QV),k<=8/\Z=Y k/\d.length=k/\ov=.slice l d.length g/\lL hV h (D+1) k w' l g d/\d.map ST.name=hV.take k/\(∀s∈d,s.h7=1)/\J [] w w'/\Sl w' 9 1 b0 8 (hV.map Value.string)/\w2.heap.size<=w'.heap.size) (λ_ Z _=>8-(intOf Z).toNat)
 case atStart=>exact⟨0,none,0,[],X,rfl,rfl,rfl,lL.nil _ _ _ _,rfl,(by intro s hs;cases hs),av,aN,H_ _⟩
 obtain⟨k,l,g,d,hk,rfl,aE,rfl,U,eg,B,o,au,M⟩:=hrel;have bK:=O aE;have e3:=O eg;have F:=U.own;rw[aE]at F |-
 by_cases ag:k<8
 .obtain⟨s,hs,ax,bw⟩:=Dt k ag;have aw:=O bw;obtain⟨b,off,ay,az⟩:=au.f_ X;subst ay;have ah:=az k (.string s) (by rw[GF,ax];rfl);go_wp2_with (first|(go_at_call 144;refine(kf 0).mono ?_;rintro an P⟨rfl,t⟩)|(go_at_call 142;refine(kQ P.heap.size s (jx 0) P (H_ _) (kw.leaf _ _ _ _ _ _)).mono ?_;rintro an v⟨As,rfl,Nt,x⟩;have aA:=iD (iD (iD F t) x) ((F_ [] v).alloc (.cells (i3 s As (jx 0)).g_ 229));have hbs:h<=(v.alloc (.cells (i3 s As (jx 0)).g_ 229)).heap.size:=(by have:=t.size;have:=x.size;have:=o.size;simp;omega);simp only[i3,ST.ik])|(at_builtin;refine jZ rfl rfl h 229 i1 8 128 underlying211 bT cj cn cr rfl I I l k g (d.flatMap ST.E) rfl aA _ 1 1 ([i3 s As (jx 0)].flatMap ST.E) rfl (rf (i3 s As (jx 0)) (P_ v 229 _)) (k7) X hbs ?_;intro L S Nq Q z bO));go_roundw
  case rel=>
   have j:=bK.out;subst j;have eE:lL hV h (D+1) d.length (v.alloc (.cells (i3 s As (jx 0)).g_ 229)) l g d:=((U.iy t H).iy x H).iy ((F_ [] v).alloc _) H;have aj:jL (zq h (Value.slice l d.length g).ownBlock) (v.alloc (.cells (i3 s As (jx 0)).g_ 229)) (i3 s As (jx 0)):=by
    have h3:=t.size;have am:=o.size;refine(Nt.imp λe a=>⟨?_,λhe=>?_⟩).hF ((F_ [] v).alloc _);have:P.heap.size<=e:=a;omega;have h1:=(kD F he).2;have:P.heap.size<=e:=a;omega
   have p:l4 hV (D+1) 1 [i3 s As (jx 0)]:=SG.leaf (.vC _ hs) rfl rfl (by intro u f;rcases O_.1 f with rfl|f;exact .num _ _ X X;cases f);have dm:=eE.add (us:=[i3 s As (jx 0)]) Q z bO (λu f=>by have:u=i3 s As (jx 0):=(zu f);subst this;exact aj) p;have E:=J.iR z;have aB:=(((o.trans t).trans x).alloc _).hI E (λe a=>by have:=(kD F (jK.1 a)).1;right;omega);refine⟨d.length+1,L,S,d++[i3 s As (jx 0)],X,gn,H,H,by simpa using dm,by rw[Gd,e3.out,aw.out];rfl,?_,aB,?_,?_⟩;intro u f;rcases W_.1 f with f|f
   exact B u f;have:u=i3 s As (jx 0):=(zu f);subst this;rfl;exact(App.iR aA z).sl (((au.hF t).hF x).alloc _) I;have:=t.size;have:=x.size;have:=E.size;simp at this;omega
  case measure=>exact mz
 have t:k=8:=X;subst t;go_wp2_with (at_builtin;refine jZ rfl rfl h 229 i1 8 128 underlying211 bT cj cn cr rfl I I l 8 g (d.flatMap ST.E) rfl F A n c (r.flatMap ST.E) rfl (hl.hF o) (k7) X (ov o.size) ?_;intro L S Nq Q z bO);have j:=bK.out;have v:=aX.out;subst v;rw[ao.out];have E:=J.iR z;have o1:∀e∈oK (Value.slice l d.length g).ownBlock,h<=e:=λe a=>(kD U.own (jK.1 a)).1;have m:∀e∈oK (Value.slice l 8 g).ownBlock,h<=e:=by rw[<-j];exact o1
 have dm:=(U.le bL).add (K:=N) (us:=r) (c':=S) (A':=L) (by rw[j];exact oA Q bL) (by rw[j];exact z) (by rw[j];exact bO) (λu f=>((Nw u f).lt.imp (λe a=>⟨a.1,λhe=>by have:=o1 e (jK.2 he);have:=a.2;omega⟩)).hF o) bX;refine⟨L,S,d,by rw[I_,j];rfl,?_,by rw[e3.out];rfl,B,o.hI E (λe a=>by have:=m e a;right;omega),?_,?_⟩;simpa[j]using dm;exact G_ o.size E.size;intro e a;rw[I_,j]at a;have:=kD Q a;omega
