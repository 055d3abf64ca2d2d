import Derived.Test.YtenbhdilndfaeaaGreatM16
set_option maxRecDepth 100000
set_option maxHeartbeats 0
set_option linter.all false
namespace Go.Proofs.YtenbhdilndfaeaaGreat
open Go.RowKit Go.Proofs.Tryz
variable{G:Prop}{P:Program}{ops:Array Oper}{o:Oper}{a:Act}{K:Act->World->Prop}{Q:Exit->Act->World->Prop}{t:TypeId}{l:List In}(b w:World)(gx:Nat)(x:X1)(E:Nat)(V c n:Int)
def Iu(h:G:=by
 refine kU rfl rfl r_ r_ r_ bl ?_;have f:I [] M0 aS:=pC aM aV (H_ _);clear C
 refine h4 MY (Q.hF f).c5 λC=>?_
 clear MY K
 refine hZ 7 λK MY=>?_
 go_simp
 refine h4 MY C λC=>?_
 clear MY K
 refine hZ 10 λK MY=>?_
 have bT:(Instr.lookup 263 (.map (some M0.heap.size)) (Y 15) false).run prog aS=.ok (Y 1) aS:=dJ.lookup (show(Lit.int .i64 15).wf=true by decide);refine nV rfl rfl r_ r_ bT ?_;clear bT
 refine h4 MY C λC=>?_
 clear MY K;have m:=B.hF f;have q:=l.hF f;have o:=Q.hF f;clear C i dJ bl k W aC aM aV f B Q l
 refine hZ 11 λK MY=>?_
 go_simp
 (go_at_call 118;((with_reducible refine(jS b gx ak 1 1 m b6).mono ?_);unfold mZ;rintro e ad⟨ao,rfl,ap,aR,MS⟩;have aY:=U aR;clear aR;rw[az.out]))
 exact IC):G:=h
def Iv(h:G:=by
 refine kU rfl rfl r_ r_ r_ bl ?_;have f:I [] M0 aS:=pC aM aV (H_ _);clear C
 refine h4 MY (Q.hF f).c5 λC=>?_
 clear MY K
 refine hZ 7 λK MY=>?_
 go_simp
 refine h4 MY C λC=>?_
 clear MY K
 refine hZ 10 λK MY=>?_
 have bT:(Instr.lookup 263 (.map (some M0.heap.size)) (Y 18) false).run prog aS=.ok (Y 2) aS:=dJ.lookup (show(Lit.int .i64 18).wf=true by decide);refine nV rfl rfl r_ r_ bT ?_;clear bT
 refine h4 MY C λC=>?_
 clear MY K;have m:=B.hF f;have q:=l.hF f;have o:=Q.hF f;clear C i dJ bl k W aC aM aV f B Q l
 refine hZ 11 λK MY=>?_
 go_simp
 (go_at_call 118;((with_reducible refine(jS b gx ak 1 2 m b6).mono ?_);unfold mZ;rintro e ad⟨ao,rfl,ap,aR,MS⟩;have aY:=U aR;clear aR;rw[az.out]))
 exact IC):G:=h
def IC(h:G:=by
 have aE:=o.xg MS t
 refine h4 MY aE.c5 λC=>?_
 clear MY K;refine iv 16 C ?_;have bq:ad.cell? (Z gx (40+E*2))=some (.bool (ao.e.r E).r):=(ap.bk.f_ _).trans (kh ao E ha).1;have bo:ad.cell? (Z gx (40+E*2+1))=some (Y (ao.e.r E).n):=(ap.bk.f_ _).trans (kh ao E ha).2;have bB:=ap.bk.hG (40+E*2);have bM:=ap.bk.hG (40+E*2+1)
 refine hZ 17 λK MY=>?_
 go_simp
 have aU:Bk ((ad.setCell (Z gx (40+E*2)) (.bool v.r)).setCell (Z gx (40+E*2+1)) (Y v.n)) gx 186 (({ao with e:={ao.e with r:=rf ao.e.r E v}}:X1)).g_:=by rw[<-mA ao v E ha];exact(ap.bk.hV (40+E*2) (.bool v.r)).hV (40+E*2+1) (Y v.n)
 have T:I [gx] ad ((ad.setCell (Z gx (40+E*2)) (.bool v.r)).setCell (Z gx (40+E*2+1)) (Y v.n)):=(((H [gx] ad).setCell (p:=(Z gx (40+E*2))) (.inl J) (.bool v.r)).setCell (p:=(Z gx (40+E*2+1))) (.inl J) (Y v.n));refine MY.out _ _ (λh=>FU h O) ?_;clear MY K
 try simp only[a_]
 refine hM k_ ?_ _;go_wp2;refine en_ ?_;rw[a6.out,<-aY.out];exact⟨_,rfl,ap.r5 T aU rfl rfl rfl rfl rfl rfl rfl,rfl,(q.trans MS).it T⟩):G:=h
def Jf(h:G:=by
 have HM:Hid (P=({bp with hO:=true}:X1).p):=U (by rw[av.out,U_ aH];rfl);clear aH av;have d:aI.cell? (Z gx 81)=some (.bool bp.hO):=(u.bk.f_ 81).trans rfl;exact JS):G:=h
def JS(h:G:=by
 have aj:=u.bk.hG 81;go_wp2;have bT:=u.set (x':={bp with hO:=true}) 81 (.bool true) rfl rfl rfl rfl rfl rfl rfl rfl;refine rn_ ?_;rw[HM.out];exact⟨_,rfl,bT,rfl,h.it ((H [gx] _).setCell (.inl J) _)⟩):G:=h
def LZ(h:G:=by
 rw[F]at d;clear F;go_wp2;refine en_ ?_;rw[HM.out];exact⟨ak,rfl,B,rfl,l⟩):G:=h
def rest_6(d:Nat)(c:Int)(n:Int)(M:kw b w gx x)(A:E<16)(hb:d<16)(hs:x.p.e.sm 800000):
 Calls prog 121 #[q_ gx,.agg #[Y 6,Y (E:Int),Y (d:Int),Y c,Y n]] w (kR (.tuple #[]) (j5 x.p ⟨6,E,d,c,n⟩) b gx w):=by
 obtain⟨P,z⟩:=mn_ (j5 x.p ⟨6,E,d,c,n⟩);rw[z];have v:=U z;clear z;obtain⟨y,a,aG,ae,m,g,J,t⟩:=r7 M #[Y 6,Y (E:Int),Y (d:Int),Y c,Y n]
 go_enter func121,ntmps121
 go_upto_region 1 with fail
 clear aG ae;have F:=g.f_ 0;have af:I [] y y.drew:=(H [] y).drew;refine hN (λw'=>(w'.cell? (Z a 0)=some (Y 6)/\w'.cell? (Z a 1)=some (Y (E:Int))/\w'.cell? (Z a 2)=some (Y (d:Int))/\w'.cell? (Z a 3)=some (Y c)/\w'.cell? (Z a 4)=some (Y n))/\w'.cell? (Z gx (4+E*2))=some (.bool (x.sr E).r)/\w'.cell? (Z gx (4+E*2+1))=some (Y (x.sr E).n)) 10 k_ ?_;have e:=And.intro g.drew.c5 (vh (m.bk.drew) A);have aT:(0:Int)<=(E:Int):=X;have aN:(E:Int)<16:=X
 iterate 8 refine jQ e ?_
 refine hZ 8 λK f=>?_
 go_simp;clear e
 refine h4 f (rK g m.bk A) λe=>?_
 clear f K
 refine hZ 9 λK f=>?_
 go_simp;clear e
 refine h4 f (rK g m.bk A) λe=>?_
 clear f K;refine hM k_ ?_ _;obtain⟨j,aP,R,D,u,s,S,L,aW⟩:=y_ m g J #[.bool (x.sr E).r,Y (x.sr E).n];rw[R,D];clear R D m g J af e;have F:=s.f_ 0
 go_upto_region 8 with fail
 clear F;obtain⟨⟨p,id,ok⟩,hy⟩:∃ah,iA x.p (x.sr d) n=ah:=⟨_,rfl⟩;have k:=U hy;clear hy;have C:I [] j j.drew:=(H [] j).drew;refine hN (λw'=>(w'.cell? (Z a 0)=some (Y 6)/\w'.cell? (Z a 1)=some (Y (E:Int))/\w'.cell? (Z a 2)=some (Y (d:Int))/\w'.cell? (Z a 3)=some (Y c)/\w'.cell? (Z a 4)=some (Y n))/\w'.cell? (Z gx (4+d*2))=some (.bool (x.sr d).r)/\w'.cell? (Z gx (4+d*2+1))=some (Y (x.sr d).n)) 17 k_ ?_;have e:=And.intro s.drew.c5 (vh (u.bk.drew) hb);have aK:(0:Int)<=(d:Int):=X;have bQ:(d:Int)<16:=X;have W:=u.hF C
 iterate 11 refine jQ e ?_
 refine hZ 11 λK f=>?_
 go_simp
 (go_at_call 168;((with_reducible refine(qK b gx x (x.sr d) n W hs).mono ?_);rw[k.out];unfold BR;rintro aj ag⟨ak,rfl,B,T,i⟩;have ai:=U T;clear T))
 have o:ak.sr=x.sr:=Ln;have i:XG gx j ag:=((XG.refl gx j).hF C).trans i;have Q:=s.xg i t;clear e
 refine h4 f ⟨Q.c5,by rw[<-o];exact(vh (B.bk) hb)⟩ λe=>?_
 clear f K
 (iterate 5 refine jQ e ?_)
 refine hM k_ ?_ _;have al:=S.xg i aW;have l:=L.trans i
 have a2:p.e.sm 800010:=by
  have q:=qc hs (x.sr d) n;rw[k.out]at q;exact q.mono O
 clear W u s S L i e C;replace ai:Hid (ak.p=p):=ai
 cases ok with
 |false=>
  have HM:Hid (P=p):=U (by rw[<-v.out];show(if(iA x.p (x.sr d) n).2.2=true then ib (iA x.p (x.sr d) n).1 (iA x.p (x.sr d) n).2.1 n (x.sr E) else(iA x.p (x.sr d) n).1)=_;rw[k.out];rfl);go_wp2;refine en_ ?_;exact MB
 |true=>
  have b6:ak.e.ws.l.length<=1000000:=by have q:=a2.ws;rw[<-ai.out]at q;exact G_ q O
  have a6:Hid (P=ib ak.p id n (x.sr E)):=U (by rw[<-v.out];show(if(iA x.p (x.sr d) n).2.2=true then ib (iA x.p (x.sr d) n).1 (iA x.p (x.sr d) n).2.1 n (x.sr E) else(iA x.p (x.sr d) n).1)=_;rw[k.out];show ib p id n (x.sr E)=_;rw[<-ai.out]);clear v k;have v0:=al.f_ 0;have v1:=al.f_ 1;have ar:=Q.f_ 4
  go_wp2_with (go_at_call 163;((with_reducible refine(j6 b gx ak id n (x.sr E) B b6).mono ?_);unfold kR;rintro aj ad⟨ao,rfl,ap,N,MS⟩;have aY:=U N;clear N))
  refine en_ ?_;rw[a6.out,<-aY.out];exact⟨ao,rfl,ap,rfl,l.trans MS⟩
def rest_7(M:kw b w gx x)(C:E<16)(h0:0<=n)(h1:n<=1000000):
 Calls prog 121 #[q_ gx,.agg #[Y 7,Y (E:Int),Y V,Y c,Y n]] w (kR (.tuple #[]) (j5 x.p ⟨7,E,V,c,n⟩) b gx w):=by
 obtain⟨am,a,aG,ad,F,A,aD,t⟩:=r7 M #[Y 7,Y (E:Int),Y V,Y c,Y n]
 go_enter func121,ntmps121
 go_upto_region 1 with fail
 clear aG ad;have MV:=A.f_ 0;have ag:I [] am am.drew:=(H [] am).drew;refine hN (λw'=>(w'.cell? (Z a 0)=some (Y 7)/\w'.cell? (Z a 1)=some (Y (E:Int))/\w'.cell? (Z a 2)=some (Y V)/\w'.cell? (Z a 3)=some (Y c)/\w'.cell? (Z a 4)=some (Y n))/\w'.cell? (Z gx (4+E*2))=some (.bool (x.sr E).r)/\w'.cell? (Z gx (4+E*2+1))=some (Y (x.sr E).n)) 10 k_ ?_;have d:=And.intro A.drew.c5 (vh (F.bk.drew) C);have aT:(0:Int)<=(E:Int):=X;have aN:(E:Int)<16:=X
 iterate 8 refine jQ d ?_
 refine hZ 8 λK f=>?_
 go_simp;clear d
 refine h4 f (rK A F.bk C) λd=>?_
 clear f K
 refine hZ 9 λK f=>?_
 go_simp;clear d
 refine h4 f (rK A F.bk C) λd=>?_
 clear f K;refine hM k_ ?_ _;obtain⟨S,aP,bE,ai,MX,aO,bL,aL,aW⟩:=y_ F A aD #[.bool (x.sr E).r,Y (x.sr E).n];rw[bE,ai];clear bE ai F A aD ag d;have MV:=aO.f_ 0
 go_upto_region 12 with fail
 clear MV;obtain⟨ah,aj,M0,ak,aC⟩:=info_parts infoVl;have v:I [] S S.drew:=(H [] S).drew;refine hN (λw'=>(w'.cell? (Z a 0)=some (Y 7)/\w'.cell? (Z a 1)=some (Y (E:Int))/\w'.cell? (Z a 2)=some (Y V)/\w'.cell? (Z a 3)=some (Y c)/\w'.cell? (Z a 4)=some (Y n))/\w'.cell? (Z gx 37)=some (Y x.nx)) 13 k_ ?_;have L:=MX.hF v;have Q:=aO.hF v;have l:=aL.hF v;clear MX aO bL aL v;obtain⟨s,cf⟩:=nm_ S.drew;rw[<-cf]at L Q l |-;clear cf
 refine m5 ⟨Q.c5,(L.bk.f_ 37).trans rfl⟩ λd=>?_
 iterate 7 refine jQ d ?_
 refine hZ 7 λK f=>?_
 refine uk rfl _ _ _ rfl 38 ah _ 2 16 underlying54 aj M0 ak aC .i64 .i64 n r_ r_ h0 X X ?_;have k:I [] s (s.alloc (.cells (madeCells #[.bool false,Y 0] (n.toNat*2)) 38)):=(H [] s).alloc _;have aH:Vs (s.alloc (.cells (madeCells #[.bool false,Y 0] (n.toNat*2)) 38)) (j_ s.heap.size) (List.replicate n.toNat default):=B3 s n.toNat;have W:=L.hF k;have N:=Q.hF k;have al:=l.hF k;obtain⟨T,an⟩:=nm_ (s.alloc (.cells (madeCells #[.bool false,Y 0] (n.toNat*2)) 38));have ao:s.alloc (.cells (madeCells (Value.cells (.agg #[.bool false,Y 0])) (n.toNat*2)) 38)=T:=an.symm;rw[<-an]at aH W N al;rw[ao];clear an ao k L Q l;generalize s.heap.size=m at*;clear d
 refine h4 f ⟨N.c5,(W.bk.f_ 37).trans rfl⟩ λd=>?_
 clear f K;refine iv 8 d ?_
 refine hZ 9 λK f=>?_
 go_simp;obtain⟨av,k⟩:=EO T 56 #[Y x.nx,.slice (j_ m) n.toNat n.toNat];have j:=W.hF k;have aq:=N.hF k;have bj:=al.hF k;have ax:=aH.hF k;clear d
 refine h4 f ⟨aq.c5,(j.bk.f_ 37).trans rfl⟩ λd=>?_
 clear f K;clear W N al aH;obtain⟨z,bV⟩:=nm_ (T.alloc (.cells #[Y x.nx,.slice (j_ m) n.toNat n.toNat] 56));rw[<-bV]at av j aq bj ax d |-;clear bV;clear k;generalize T.heap.size=u at*
 (iterate 3 refine jQ d ?_)
 have ar:z.cell? (Z gx 74)=some (.slice x.e.nw.A x.e.nw.l.length x.e.nw.c):=(j.bk.f_ 74).trans rfl;have G:=j.bk.hG 74;have y:=(H [gx] z).setCell (p:=(Z gx 74)) (.inl J) (.slice (j_ u) 1 1);have R:Bk (z.setCell (Z gx 74) (.slice (j_ u) 1 1)) gx 186 ({x with e:={x.e with nw:=⟨some (Z u 0),1,[⟨⟨x.nx,List.replicate n.toNat default⟩,some (Z m 0),n.toNat⟩]⟩}}:X1).g_:=j.bk.hV 74 (.slice (j_ u) 1 1)
 have aJ:Os z (j_ u) [⟨⟨x.nx,List.replicate n.toNat default⟩,some (Z m 0),n.toNat⟩]:=by
  have q:=BJ (r:=⟨⟨x.nx,List.replicate n.toNat default⟩,some (Z m 0),n.toNat⟩) (by
   show Bk z u 56 #[Y x.nx,.slice (j_ m) (List.replicate n.toNat (default:Vl)).length n.toNat]
   rw[Gh]
   exact av)
  exact q
 have ae:l5 z [⟨⟨x.nx,List.replicate n.toNat default⟩,some (Z m 0),n.toNat⟩]:=by
  intro r hr
  have:r=⟨⟨x.nx,List.replicate n.toNat default⟩,some (Z m 0),n.toNat⟩:=zu hr
  subst this;exact⟨ax,by show(List.replicate n.toNat (default:Vl)).length<=1000000000;rw[Gh];omega⟩
 have i:=j.B5 (x':=({x with e:={x.e with nw:=⟨some (Z u 0),1,[⟨⟨x.nx,List.replicate n.toNat default⟩,some (Z m 0),n.toNat⟩]⟩}}:X1)) y R rfl rfl rfl rfl aJ ae j.ds j.h8 (H_ 1) j.r8 j.pN;have D:=bj.it y;have o:=aq.gr y (zu t)
 refine hZ 13 λK f=>?_
 go_simp;refine f.out _ _ (λh=>FU h O) ?_;clear f K
 try simp only[a_]
 clear d j aq bj ax av aJ ae R ar G y;obtain⟨g,MZ⟩:=nm_ ({x with e:={x.e with nw:=⟨some (Z u 0),1,[⟨⟨x.nx,List.replicate n.toNat default⟩,some (Z m 0),n.toNat⟩]⟩}}:X1);rw[<-MZ]at i;have HM:Hid ((j5 x.p ⟨7,E,V,c,n⟩)=kY g.p E ⟨true,g.nx⟩):=U (by rw[MZ];rfl);clear MZ;obtain⟨bH,b4⟩:=nm_ (z.setCell (Z gx 74) (.slice (j_ u) 1 1));rw[<-b4]at i o D |-;clear b4;refine hM k_ ?_ _
 go_upto_region 13 with fail
 refine hN (λw'=>(w'.cell? (Z a 0)=some (Y 7)/\w'.cell? (Z a 1)=some (Y (E:Int))/\w'.cell? (Z a 2)=some (Y V)/\w'.cell? (Z a 3)=some (Y c)/\w'.cell? (Z a 4)=some (Y n))/\w'.cell? (Z gx 37)=some (Y g.nx)) 13 k_ ?_;have v:I [] bH bH.drew:=(H [] bH).drew;replace i:=i.hF v;replace o:=o.hF v;replace D:=D.hF v;clear v;obtain⟨B,au⟩:=nm_ bH.drew;rw[<-au]at i o D |-;clear au
 refine m5 ⟨o.c5,(i.bk.f_ 37).trans rfl⟩ λd=>?_
 (iterate 13 refine jQ d ?_)
 have bq:B.cell? (Z gx (40+E*2))=some (.bool (g.e.r E).r):=(i.bk.f_ _).trans (kh g E C).1;have bo:B.cell? (Z gx (40+E*2+1))=some (Y (g.e.r E).n):=(i.bk.f_ _).trans (kh g E C).2;have bB:=i.bk.hG (40+E*2);have bM:=i.bk.hG (40+E*2+1)
 refine hZ 13 λK f=>?_
 go_simp
 have R:Bk ((B.setCell (Z gx (40+E*2)) (.bool true)).setCell (Z gx (40+E*2+1)) (Y g.nx)) gx 186 ({g with e:={g.e with r:=rf g.e.r E ⟨true,g.nx⟩}}:X1).g_:=by rw[<-mA g ⟨true,g.nx⟩ E C];exact(i.bk.hV (40+E*2) (.bool true)).hV (40+E*2+1) (Y g.nx)
 have y:I [gx] B ((B.setCell (Z gx (40+E*2)) (.bool true)).setCell (Z gx (40+E*2+1)) (Y g.nx)):=(((H [gx] B).setCell (p:=(Z gx (40+E*2))) (.inl J) (.bool true)).setCell (p:=(Z gx (40+E*2+1))) (.inl J) (Y g.nx));refine f.out _ _ (λh=>FU h O) ?_;clear f K
 try simp only[a_]
 refine hM k_ ?_ _;go_wp2;refine en_ ?_;rw[HM.out];exact⟨_,rfl,i.r5 y R rfl rfl rfl rfl rfl rfl rfl,rfl,D.it y⟩
def qz{w:World}{E:Prop}(L:o.guard=none)(f:o.op=.makeMap t none)(h:K (a.put o.dst (.map (some w.heap.size))) (w.alloc (.map #[] 0))):
 if Region.wanted o (yielded ops a.tmps)=true then Oper.wp P o a w K Q else E:=by
 have e:Region.wanted o (yielded ops a.tmps)=true:=by simp[Region.wanted,L]
 rw[U_ e];have d:(Instr.makeMap t none).run P w=.ok (.map (some w.heap.size)) (w.alloc (.map #[] 0)):=rfl;unfold Oper.wp execOp;simp only[f,Option.map_none,Sem.run_bind,Sem.run_pure,Result.andThen_ok,d];exact h
def pC{b:Nat}{w w':World}(f:w.grownBy w' (some b)){a:World}(h:I [] a w)(e:a.heap.size<=b):I [] a w':=
 h.grown f (λg d=>by injection d with d;subst d;exact .inr e)
def rest_15(M:kw b w gx x)(ha:E<16)(hs:x.p.e.sm 800000):
 Calls prog 121 #[q_ gx,.agg #[Y 15,Y (E:Int),Y V,Y c,Y n]] w (kR (.tuple #[]) (j5 x.p ⟨15,E,V,c,n⟩) b gx w):=by
 obtain⟨P,R⟩:=mn_ (j5 x.p ⟨15,E,V,c,n⟩);rw[R];have z:=U R;clear R;obtain⟨L,a,aG,ae,s,g,aD,t⟩:=r7 M #[Y 15,Y (E:Int),Y V,Y c,Y n]
 go_enter func121,ntmps121
 go_upto_region 1 with fail
 clear aG ae;have MV:=g.f_ 0;have af:I [] L L.drew:=(H [] L).drew;refine hN (λw'=>(w'.cell? (Z a 0)=some (Y 15)/\w'.cell? (Z a 1)=some (Y (E:Int))/\w'.cell? (Z a 2)=some (Y V)/\w'.cell? (Z a 3)=some (Y c)/\w'.cell? (Z a 4)=some (Y n))/\w'.cell? (Z gx (4+E*2))=some (.bool (x.sr E).r)/\w'.cell? (Z gx (4+E*2+1))=some (Y (x.sr E).n)) 10 k_ ?_;have C:=And.intro g.drew.c5 (vh (s.bk.drew) ha);have aT:(0:Int)<=(E:Int):=X;have aN:(E:Int)<16:=X
 iterate 8 refine jQ C ?_
 refine hZ 8 λK MY=>?_
 go_simp;clear C
 refine h4 MY (rK g s.bk ha) λC=>?_
 clear MY K
 refine hZ 9 λK MY=>?_
 go_simp;clear C
 refine h4 MY (rK g s.bk ha) λC=>?_
 clear MY K;refine hM k_ ?_ _;obtain⟨aX,aP,bE,S,MX,D,bL,aL,aW⟩:=y_ s g aD #[.bool (x.sr E).r,Y (x.sr E).n];rw[bE,S];clear bE S s g aD af C;have MV:=D.f_ 0
 go_upto_region 36 with(go_at_call 116;((with_reducible refine(qG b gx x MX).mono ?_);unfold kR;rintro e j⟨ak,rfl,B,bO,A⟩;have u:=U bO;clear bO))
 clear MV;have Q:=D.xg A t;have l:=aL.trans A
 have a2:ak.p.e.sm 800010:=by rw[u.out];exact(show(iL x.p).e.sm 800010 from hs.mono O)
 have b6:ak.e.rs.l.length<=1000000:=G_ a2.rs O;have d:j.cell? (Z gx 81)=some (.bool ak.hO):=(B.bk.f_ 81).trans rfl;clear MX D aL bL A a2
 cases F:ak.hO with
 |true=>
  have HM:Hid (P=ak.p):=U (by rw[<-z.out];show(if(iL x.p).hO=true then iL x.p else kY (hW (iL x.p) 1 1).1 E (hW (iL x.p) 1 1).2)=_;rw[<-u.out];exact U_ F);exact LZ
 |false=>
  obtain⟨v,hv⟩:=mn_ ((hW ak.p 1 1).2);have az:=U hv;clear hv;have a6:Hid (P=kY (hW ak.p 1 1).1 E v):=U (by rw[<-z.out];show(if(iL x.p).hO=true then iL x.p else kY (hW (iL x.p) 1 1).1 E (hW (iL x.p) 1 1).2)=_;rw[<-u.out,az.out];exact R_ (by show ¬ak.hO=true;rw[F];decide));clear z u;rw[F]at d;clear F
  go_upto_region 37 with fail
  clear d;refine hN (λw'=>w'.cell? (Z a 0)=some (Y 15)/\w'.cell? (Z a 1)=some (Y (E:Int))/\w'.cell? (Z a 2)=some (Y V)/\w'.cell? (Z a 3)=some (Y c)/\w'.cell? (Z a 4)=some (Y n)) 17 k_ ?_;have y:I [] j j.drew:=(H [] j).drew;replace B:=B.hF y;replace Q:=Q.hF y;replace l:=l.hF y;clear y;obtain⟨M0,ah⟩:=nm_ j.drew;rw[<-ah]at B Q l |-;clear ah
  refine m5 Q.c5 λC=>?_
  refine iv 0 C ?_;refine iv 1 C ?_;refine iv 2 C ?_;refine iv 3 C ?_;refine iv 8 C ?_;refine iv 9 C ?_;refine iv 12 C ?_;refine iv 13 C ?_;refine iv 14 C ?_;refine iv 15 C ?_
  refine hZ 4 λK MY=>?_
  refine qz rfl rfl ?_;have W:Im (M0.alloc (.map #[] 0)) M0.heap.size 0 (λ_=>0):=Im.made M0;clear C
  refine h4 MY (Q.hF ((H [] M0).alloc _)).c5 λC=>?_
  clear MY K;refine ji 5 6 rfl rfl k_ (λK MY=>?_) (λK MY=>?_)
  ·
   obtain⟨N,k,i,aC⟩:=W.update O (show(Lit.int .i64 15).wf=true by decide) (show(Lit.int .i64 1).wf=true by decide);refine kU rfl rfl r_ r_ r_ k ?_;have aV:I [] M0 N:=pC aC ((H [] M0).alloc _) (H_ _);clear C
   refine h4 MY (Q.hF aV).c5 λC=>?_
   clear MY K
   refine hZ 6 λK MY=>?_
   obtain⟨aS,bl,dJ,aM⟩:=i.update O (show(Lit.int .i64 18).wf=true by decide) (show(Lit.int .i64 2).wf=true by decide);exact Iu
  ·
   obtain⟨N,k,i,aC⟩:=W.update O (show(Lit.int .i64 18).wf=true by decide) (show(Lit.int .i64 2).wf=true by decide);refine kU rfl rfl r_ r_ r_ k ?_;have aV:I [] M0 N:=pC aC ((H [] M0).alloc _) (H_ _);clear C
   refine h4 MY (Q.hF aV).c5 λC=>?_
   clear MY K
   refine hZ 5 λK MY=>?_
   obtain⟨aS,bl,dJ,aM⟩:=i.update O (show(Lit.int .i64 15).wf=true by decide) (show(Lit.int .i64 1).wf=true by decide);exact Iu
def rest_18(M:kw b w gx x)(ha:E<16)(hs:x.p.e.sm 800000):
 Calls prog 121 #[q_ gx,.agg #[Y 18,Y (E:Int),Y V,Y c,Y n]] w (kR (.tuple #[]) (j5 x.p ⟨18,E,V,c,n⟩) b gx w):=by
 obtain⟨P,R⟩:=mn_ (j5 x.p ⟨18,E,V,c,n⟩);rw[R];have z:=U R;clear R;obtain⟨L,a,aG,ae,s,g,aD,t⟩:=r7 M #[Y 18,Y (E:Int),Y V,Y c,Y n]
 go_enter func121,ntmps121
 go_upto_region 1 with fail
 clear aG ae;have MV:=g.f_ 0;have af:I [] L L.drew:=(H [] L).drew;refine hN (λw'=>(w'.cell? (Z a 0)=some (Y 18)/\w'.cell? (Z a 1)=some (Y (E:Int))/\w'.cell? (Z a 2)=some (Y V)/\w'.cell? (Z a 3)=some (Y c)/\w'.cell? (Z a 4)=some (Y n))/\w'.cell? (Z gx (4+E*2))=some (.bool (x.sr E).r)/\w'.cell? (Z gx (4+E*2+1))=some (Y (x.sr E).n)) 10 k_ ?_;have C:=And.intro g.drew.c5 (vh (s.bk.drew) ha);have aT:(0:Int)<=(E:Int):=X;have aN:(E:Int)<16:=X
 iterate 8 refine jQ C ?_
 refine hZ 8 λK MY=>?_
 go_simp;clear C
 refine h4 MY (rK g s.bk ha) λC=>?_
 clear MY K
 refine hZ 9 λK MY=>?_
 go_simp;clear C
 refine h4 MY (rK g s.bk ha) λC=>?_
 clear MY K;refine hM k_ ?_ _;obtain⟨aX,aP,bE,S,MX,D,bL,aL,aW⟩:=y_ s g aD #[.bool (x.sr E).r,Y (x.sr E).n];rw[bE,S];clear bE S s g aD af C;have MV:=D.f_ 0
 go_upto_region 36 with(go_at_call 116;((with_reducible refine(qG b gx x MX).mono ?_);unfold kR;rintro e j⟨ak,rfl,B,bO,A⟩;have u:=U bO;clear bO))
 clear MV;have Q:=D.xg A t;have l:=aL.trans A
 have a2:ak.p.e.sm 800010:=by rw[u.out];exact(show(iL x.p).e.sm 800010 from hs.mono O)
 have b6:ak.e.rs.l.length<=1000000:=G_ a2.rs O;have d:j.cell? (Z gx 81)=some (.bool ak.hO):=(B.bk.f_ 81).trans rfl;clear MX D aL bL A a2
 cases F:ak.hO with
 |true=>
  have HM:Hid (P=ak.p):=U (by rw[<-z.out];show(if(iL x.p).hO=true then iL x.p else kY (hW (iL x.p) 1 2).1 E (hW (iL x.p) 1 2).2)=_;rw[<-u.out];exact U_ F);exact LZ
 |false=>
  obtain⟨v,hv⟩:=mn_ ((hW ak.p 1 2).2);have az:=U hv;clear hv;have a6:Hid (P=kY (hW ak.p 1 2).1 E v):=U (by rw[<-z.out];show(if(iL x.p).hO=true then iL x.p else kY (hW (iL x.p) 1 2).1 E (hW (iL x.p) 1 2).2)=_;rw[<-u.out,az.out];exact R_ (by show ¬ak.hO=true;rw[F];decide));clear z u;rw[F]at d;clear F
  go_upto_region 37 with fail
  clear d;refine hN (λw'=>w'.cell? (Z a 0)=some (Y 18)/\w'.cell? (Z a 1)=some (Y (E:Int))/\w'.cell? (Z a 2)=some (Y V)/\w'.cell? (Z a 3)=some (Y c)/\w'.cell? (Z a 4)=some (Y n)) 17 k_ ?_;have y:I [] j j.drew:=(H [] j).drew;replace B:=B.hF y;replace Q:=Q.hF y;replace l:=l.hF y;clear y;obtain⟨M0,ah⟩:=nm_ j.drew;rw[<-ah]at B Q l |-;clear ah
  refine m5 Q.c5 λC=>?_
  refine iv 0 C ?_;refine iv 1 C ?_;refine iv 2 C ?_;refine iv 3 C ?_;refine iv 8 C ?_;refine iv 9 C ?_;refine iv 12 C ?_;refine iv 13 C ?_;refine iv 14 C ?_;refine iv 15 C ?_
  refine hZ 4 λK MY=>?_
  refine qz rfl rfl ?_;have W:Im (M0.alloc (.map #[] 0)) M0.heap.size 0 (λ_=>0):=Im.made M0;clear C
  refine h4 MY (Q.hF ((H [] M0).alloc _)).c5 λC=>?_
  clear MY K;refine ji 5 6 rfl rfl k_ (λK MY=>?_) (λK MY=>?_)
  ·
   obtain⟨N,k,i,aC⟩:=W.update O (show(Lit.int .i64 15).wf=true by decide) (show(Lit.int .i64 1).wf=true by decide);refine kU rfl rfl r_ r_ r_ k ?_;have aV:I [] M0 N:=pC aC ((H [] M0).alloc _) (H_ _);clear C
   refine h4 MY (Q.hF aV).c5 λC=>?_
   clear MY K
   refine hZ 6 λK MY=>?_
   obtain⟨aS,bl,dJ,aM⟩:=i.update O (show(Lit.int .i64 18).wf=true by decide) (show(Lit.int .i64 2).wf=true by decide);exact Iv
  ·
   obtain⟨N,k,i,aC⟩:=W.update O (show(Lit.int .i64 18).wf=true by decide) (show(Lit.int .i64 2).wf=true by decide);refine kU rfl rfl r_ r_ r_ k ?_;have aV:I [] M0 N:=pC aC ((H [] M0).alloc _) (H_ _);clear C
   refine h4 MY (Q.hF aV).c5 λC=>?_
   clear MY K
   refine hZ 5 λK MY=>?_
   obtain⟨aS,bl,dJ,aM⟩:=i.update O (show(Lit.int .i64 15).wf=true by decide) (show(Lit.int .i64 1).wf=true by decide);exact Iv
def qH(l:List In)(p r:Vl):Bool:=decide (p.r=false∨r.r=true∨jb l r.n=false)
def xW(a:XP × Int × Int)(v:Vl):XP:=
 if a.1.hO=true then a.1 else
 let p:=hW a.1 a.2.1 0
 if p.2.r=true/\p.2.n=0 then{p.1 with e:={p.1.e with h6:=2,v:=v,pc:=p.1.j2,r:=p.1.sr}} else
 let r:=hW p.1 a.2.1 1
 if qH r.1.jt p.2 r.2=true then kN r.1 else
 tP (ib (ib r.1 1 0 p.2) 1 1 v) r.2.n
def B2(x:XP)(E:Nat)(V c n:Int):j5 x ⟨14,E,V,c,n⟩=xW (hT x) (x.sr E):=by
 have d:j5 x ⟨14,E,V,c,n⟩=(if(hT x).1.hO=true then(hT x).1 else
  if(hW (hT x).1 (hT x).2.1 0).2.r=true/\(hW (hT x).1 (hT x).2.1 0).2.n=0 then{(hW (hT x).1 (hT x).2.1 0).1 with e:={(hW (hT x).1 (hT x).2.1 0).1.e with h6:=2,v:=x.sr E,pc:=(hW (hT x).1 (hT x).2.1 0).1.j2,r:=(hW (hT x).1 (hT x).2.1 0).1.sr}} else
  if(hW (hT x).1 (hT x).2.1 0).2.r=false∨(hW (hW (hT x).1 (hT x).2.1 0).1 (hT x).2.1 1).2.r=true∨jb (hW (hW (hT x).1 (hT x).2.1 0).1 (hT x).2.1 1).1.jt (hW (hW (hT x).1 (hT x).2.1 0).1 (hT x).2.1 1).2.n=false then kN (hW (hW (hT x).1 (hT x).2.1 0).1 (hT x).2.1 1).1 else
  tP (ib (ib (hW (hW (hT x).1 (hT x).2.1 0).1 (hT x).2.1 1).1 1 0 (hW (hT x).1 (hT x).2.1 0).2) 1 1 (x.sr E)) (hW (hW (hT x).1 (hT x).2.1 0).1 (hT x).2.1 1).2.n):=by
  unfold j5;dsimp only;rw[R_ O,R_ O,R_ O,R_ O,U_ rfl]
  rfl
 rw[d];unfold xW qH;simp only[GE]
def pq(l:List In)(p r:Vl):Nat:=if p.r=false then 2 else if r.r=true then 3 else if jb l r.n=false then 4 else 5
def AI(l:List In)(p r:Vl):pq l p r=2∨pq l p r=3∨pq l p r=4∨pq l p r=5:=by
 unfold pq
 repeat' split
 all_goals simp
def retKC_2{p r:Vl}(h:pq l p r=2):p.r=false:=by
 unfold pq at h
 cases d:p.r with
 |false=>rfl
 |true=>rw[R_ (by rw[d];decide)]at h;split at h<;>first|(cases h;done)|(split at h<;>cases h)
def retKC_3{p r:Vl}(h:pq l p r=3):p.r=true/\r.r=true:=by
 unfold pq at h
 cases d:p.r with
 |false=>rw[U_ d]at h;cases h
 |true=>
  rw[R_ (by rw[d];decide)]at h
  cases e:r.r with
  |true=>exact⟨rfl,rfl⟩
  |false=>rw[R_ (by rw[e];decide)]at h;split at h<;>cases h
def retKC_45{p r:Vl}{k:Nat}(g:k=4∨k=5)(h:pq l p r=k):p.r=true/\r.r=false/\jb l r.n=decide (k=5):=by
 unfold pq at h
 cases e:p.r with
 |false=>rw[U_ e]at h;omega
 |true=>
  rw[R_ (by rw[e];decide)]at h
  cases f:r.r with
  |true=>rw[U_ f]at h;omega
  |false=>
   rw[R_ (by rw[f];decide)]at h;refine⟨rfl,rfl,?_⟩
   cases d:jb l r.n with
   |false=>rw[U_ d]at h;subst h;rfl
   |true=>rw[R_ (by rw[d];decide)]at h;subst h;rfl
def rest_14(M:kw b w gx x)(ha:E<16)(hs:x.p.e.sm 800000):
 Calls prog 121 #[q_ gx,.agg #[Y 14,Y (E:Int),Y V,Y c,Y n]] w (kR (.tuple #[]) (j5 x.p ⟨14,E,V,c,n⟩) b gx w):=by
 obtain⟨P,hP⟩:=mn_ (j5 x.p ⟨14,E,V,c,n⟩);have MZ:=U ((B2 x.p E V c n).symm.trans hP);rw[hP];clear hP;obtain⟨am,a,aG,al,an,aA,aD,t⟩:=r7 M #[Y 14,Y (E:Int),Y V,Y c,Y n]
 go_enter func121,ntmps121
 go_upto_region 1 with fail
 clear aG al;have C:=aA.f_ 0;have bd:I [] am am.drew:=(H [] am).drew;refine hN (λw'=>(w'.cell? (Z a 0)=some (Y 14)/\w'.cell? (Z a 1)=some (Y (E:Int))/\w'.cell? (Z a 2)=some (Y V)/\w'.cell? (Z a 3)=some (Y c)/\w'.cell? (Z a 4)=some (Y n))/\w'.cell? (Z gx (4+E*2))=some (.bool (x.sr E).r)/\w'.cell? (Z gx (4+E*2+1))=some (Y (x.sr E).n)) 10 k_ ?_;have f:=And.intro aA.drew.c5 (vh (an.bk.drew) ha);have aT:(0:Int)<=(E:Int):=X;have aN:(E:Int)<16:=X
 iterate 8 refine jQ f ?_
 refine hZ 8 λK m=>?_
 go_simp;clear f
 refine h4 m (rK aA an.bk ha) λf=>?_
 clear m K
 refine hZ 9 λK m=>?_
 go_simp;clear f
 refine h4 m (rK aA an.bk ha) λf=>?_
 clear m K;refine hM k_ ?_ _;obtain⟨aX,aP,bE,bf,MX,aO,bL,aL,S⟩:=y_ an aA aD #[.bool (x.sr E).r,Y (x.sr E).n];rw[bE,bf];clear bE bf an aA aD bd f;have C:=aO.f_ 0
 go_upto_region 23 with(go_at_call 161;((with_reducible refine(mU b gx x MX (G_ hs.rs O)).mono ?_);unfold uL;rintro e ag⟨A,rfl,bh,bO,bm⟩;have ai:=U bO;clear bO))
 have a2:=lY hs;rw[<-ai.out]at a2;obtain⟨z,aS⟩:=mn_ ((hT x.p).2.1);rw[aS];have bo:=U aS;clear aS;generalize (hT x.p).2.2=bZ at*;have bv:=bL.xg bm S;have l:=aL.trans bm;have d:ag.cell? (Z gx 81)=some (.bool A.hO):=(bh.bk.f_ 81).trans rfl;clear MX aO aL bL bm C
 cases bx:A.hO with
 |true=>
  have HM:Hid (P=A.p):=U (by rw[<-MZ.out];unfold xW;rw[U_ (by rw[<-ai.out];exact bx),ai.out]);rw[bx]at d;clear bx;go_wp2;refine rn_ ?_;rw[HM.out];exact⟨A,rfl,bh,rfl,l⟩
 |false=>
  rw[bx]at d;obtain⟨p,hv⟩:=mn_ ((hW A.p z 0).2);have az:=U hv;clear hv
  have a6:Hid (P=(if p.r=true/\p.n=0 then{(hW A.p z 0).1 with e:={(hW A.p z 0).1.e with h6:=2,v:=x.sr E,pc:=(hW A.p z 0).1.j2,r:=(hW A.p z 0).1.sr}} else
   let r:=hW (hW A.p z 0).1 z 1
   if qH r.1.jt p r.2=true then kN r.1 else tP (ib (ib r.1 1 0 p) 1 1 (x.sr E)) r.2.n)):=U (by
   rw[<-MZ.out];unfold xW;rw[R_ (by rw[<-ai.out];show ¬A.hO=true;rw[bx];decide),bo.out,<-ai.out,<-az.out]
   rfl)
  clear MZ ai bo bx;have b6:A.e.rs.l.length<=1000000:=G_ a2.rs O
  go_upto_region 25 with(go_at_call 118;((with_reducible refine(jS b gx A z 0 bh b6).mono ?_);unfold mZ;rintro e ad⟨g,rfl,ap,aR,MS⟩;have aY:=U aR;clear aR;rw[az.out]))
  have br:=kg a2 z 0;rw[<-aY.out]at br
  have bH:Hid (P=(if p.r=true/\p.n=0 then{g.p with e:={g.p.e with h6:=2,v:=x.sr E,pc:=g.p.j2,r:=g.p.sr}} else
   let r:=hW g.p z 1
   if qH r.1.jt p r.2=true then kN r.1 else tP (ib (ib r.1 1 0 p) 1 1 (x.sr E)) r.2.n)):=U (by rw[a6.out,<-aY.out])
  clear a6 az d;have W:=ap.hF ((H [] ad).alloc (.cells #[.bool p.r,Y p.n] 38));have cK:=P_ ad 38 #[.bool p.r,Y p.n];have aQ:=(bv.xg MS S).alloc (.cells #[.bool p.r,Y p.n] 38);have bj:=(l.trans MS).hF ((H [] ad).alloc (.cells #[.bool p.r,Y p.n] 38));have ce:ad.heap.size≠gx:=ov ap.bk.lt;obtain⟨o,bR⟩:=nm_ (ad.alloc (.cells #[.bool p.r,Y p.n] 38));rw[<-bR]at W cK aQ bj |-;clear bR;clear ap MS bh l bv;generalize ad.heap.size=bD at*;have C:=cK.f_ 0;have MU:=cK.f_ 1
  go_cut [189] (λcb a7=>cb=.bool (decide (p.r=true/\p.n=0))/\a7=o)
  case first=>
   cases j:p.r with
   |false=>
    rw[j]at C;have bi:=U (show decide (p.r=true/\p.n=0)=false by simp[j]);clear j;exact My
   |true=>
    rw[j]at C;have bi:=U (show decide (p.r=true/\p.n=0)=(p.n==0) by simp[j,Bool.beq_eq_decide_eq]);clear j;exact My
  case rest=>
   obtain⟨rfl,d6⟩:=hcut;subst wc
   by_cases aJ:p.r=true/\p.n=0
   .have HM:Hid (P={g.p with e:={g.p.e with h6:=2,v:=x.sr E,pc:=g.p.j2,r:=g.p.sr}}):=U (by rw[bH.out,U_ aJ]);have q:decide (p.r=true/\p.n=0)=true:=Gd aJ;rw[q];clear q aJ bH;clear C MU cK
    go_upto_region 26 with fail
    have cc:=W.bk.drew;refine hN (λw'=>(∀i,i<33->w'.cell? (Z gx (3+i))=(iM g.j2 g.sr)[i]?)/\w'.cell? (Z aP 0)=some (.bool (x.sr E).r)/\w'.cell? (Z aP 1)=some (Y (x.sr E).n)) 20 k_ ?_
    refine m5 ⟨λi k=>by rw[cc.f_];exact mB g i k,aQ.drew.f_ 0,aQ.drew.f_ 1⟩ λf=>?_
    (iterate 7 refine jQ f ?_)
    refine iv 7 (v:=.agg (iM g.j2 g.sr)) f ?_ (hy:=(Or.inl ⟨r_,λw' bu=>lS 49 rfl gx 3 r_ (λi k=>bu.1 i k) underlying49 rfl k_⟩))
    (iterate 3 refine jQ f ?_)
    have bY:o.cell? (Z gx 38)=some (Y g.e.h6):=(W.bk.f_ 38).trans rfl;have bQ:=W.bk.hG 38
    refine hZ 11 λK m=>?_
    go_simp;have s:Bk ((o.setCell (Z gx 38) (Y 2)).drew) gx 186 ({g with e:={g.e with h6:=2}}:X1).g_:=(W.bk).hV 38 (Y 2);have B:Bk ((o.setCell (Z gx 38) (Y 2)).drew) aP 38 #[.bool (x.sr E).r,Y (x.sr E).n]:=(aQ).ih (p:=(Z gx 38)) S (Y 2);have R:I [gx] o ((o.setCell (Z gx 38) (Y 2)).drew):=I.drew <| ((H [gx] o)).setCell (p:=(Z gx 38)) (.inl J) (Y 2);obtain⟨y,bV⟩:=nm_ ((o.setCell (Z gx 38) (Y 2)).drew);rw[<-bV]at s B R |-;clear bV f
    refine h4 m ⟨λi k=>by rw[s.f_];exact mB ({g with e:={g.e with h6:=2}}:X1) i k,B.f_ 0,B.f_ 1⟩ λf=>?_
    clear m K;clear bY bQ
    (iterate 3 refine jQ f ?_)
    have b9:y.cell? (Z gx 79)=some (.bool g.e.v.r):=(s.f_ 79).trans rfl;have ca:y.cell? (Z gx 80)=some (Y g.e.v.n):=(s.f_ 80).trans rfl;have b7:=s.hG 79;have b8:=s.hG 80
    refine hZ 15 λK m=>?_
    go_simp;have N:Bk ((y.setCell (Z gx 79) (.bool (x.sr E).r)).setCell (Z gx 80) (Y (x.sr E).n)) gx 186 ({g with e:={g.e with h6:=2,v:=x.sr E}}:X1).g_:=((s).hV 79 (.bool (x.sr E).r)).hV 80 (Y (x.sr E).n);have D:Bk ((y.setCell (Z gx 79) (.bool (x.sr E).r)).setCell (Z gx 80) (Y (x.sr E).n)) aP 38 #[.bool (x.sr E).r,Y (x.sr E).n]:=((B).ih (p:=(Z gx 79)) S (.bool (x.sr E).r)).ih (p:=(Z gx 80)) S (Y (x.sr E).n);have L:I [gx] o ((y.setCell (Z gx 79) (.bool (x.sr E).r)).setCell (Z gx 80) (Y (x.sr E).n)):=((R).setCell (p:=(Z gx 79)) (.inl J) (.bool (x.sr E).r)).setCell (p:=(Z gx 80)) (.inl J) (Y (x.sr E).n);obtain⟨aM,bX⟩:=nm_ ((y.setCell (Z gx 79) (.bool (x.sr E).r)).setCell (Z gx 80) (Y (x.sr E).n));rw[<-bX]at N D L |-;clear bX f
    refine h4 m ⟨λi k=>by rw[N.f_];exact mB ({g with e:={g.e with h6:=2,v:=x.sr E}}:X1) i k,D.f_ 0,D.f_ 1⟩ λf=>?_
    clear m K;clear b9 b7 ca b8
    iterate 3 refine jQ f ?_
    refine hZ 19 λK m=>?_
    rw[U_ r_];refine jE 49 _ _ rfl gx 39 r_ (iM g.j2 g.sr) r_ 186 _ N (by show 39+33<=82;decide) k_ (n9) ?_;intro ae F G;rw[nu]at F;have T:=D.gr G (zu S);clear f
    refine h4 m ⟨λi k=>by rw[F.f_];exact mB ({g with e:={g.e with h6:=2,v:=x.sr E,pc:=g.j2,r:=g.sr}}:X1) i k,T.f_ 0,T.f_ 1⟩ λf=>?_
    clear m K;refine hM k_ ?_ _;go_wp2;refine en_ ?_;rw[HM.out];exact⟨_,rfl,W.r5 (x':=({g with e:={g.e with h6:=2,v:=x.sr E,pc:=g.j2,r:=g.sr}}:X1)) (L.trans G) F rfl rfl rfl rfl rfl rfl rfl,rfl,bj.it (L.trans G)⟩
   .have q:decide (p.r=true/\p.n=0)=false:=GX aJ;rw[q];obtain⟨r,hr⟩:=mn_ ((hW g.p z 1).2);have aU:=U hr;clear hr;have bJ:Hid (P=if qH (hW g.p z 1).1.jt p r=true then kN (hW g.p z 1).1 else tP (ib (ib (hW g.p z 1).1 1 0 p) 1 1 (x.sr E)) r.n):=U (by rw[bH.out,R_ aJ,<-aU.out]);clear q bH;have b5:g.e.rs.l.length<=1000000:=G_ br.rs O
    go_upto_region 28 with(go_at_call 118;((with_reducible refine(jS b gx g z 1 W b5).mono ?_);unfold mZ;rintro e ax⟨bp,rfl,bl,bq,ay⟩;have bA:=U bq;clear bq;rw[aU.out]))
    have bS:=kg br z 1;rw[<-bA.out]at bS;have av:Hid (P=if qH bp.jt.l p r=true then kN bp.p else tP (ib (ib bp.p 1 0 p) 1 1 (x.sr E)) r.n):=U (by rw[bJ.out,<-bA.out];rfl);clear bJ C MU;have u:=bl.hF ((H [] ax).alloc (.cells #[.bool r.r,Y r.n] 38));have k:=P_ ax 38 #[.bool r.r,Y r.n];have R:=(aQ.xg ay S).alloc (.cells #[.bool r.r,Y r.n] 38);have s:=(cK.xg ay ce).alloc (.cells #[.bool r.r,Y r.n] 38);have h:=(bj.trans ay).hF ((H [] ax).alloc (.cells #[.bool r.r,Y r.n] 38));have ah:ax.heap.size≠gx:=ov bl.bk.lt;obtain⟨y,bI⟩:=nm_ (ax.alloc (.cells #[.bool r.r,Y r.n] 38));rw[<-bI]at u k R s h |-;clear bI;clear bl ay W bj aQ cK;generalize ax.heap.size=gr at*;clear aY bA aU aJ
    rcases AI bp.jt.l p r with F|F|F|F
    .have D:=U F;clear F;have j:=retKC_2 D.out;refine hN (λw'=>w'.cell? (Z bD 0)=some (.bool false)/\w'.cell? (Z gr 0)=some (.bool r.r)/\w'.cell? (Z gr 1)=some (Y r.n)/\w'.cell? (Z gx 0)=some (.slice bp.jt.A bp.jt.l.length bp.jt.c)/\w'.cell? (Z gx 1)=some (Y bp.hH)/\w'.cell? (Z gx 2)=some (Y bp.hC)) 17 k_ ?_;have i:I [] y y.drew:=(H [] y).drew;obtain⟨aI,N⟩:=nm_ y.drew;rw[<-N]at i |-;clear N
     refine m5 ⟨(((s.hF i)).f_ 0).trans (by rw[j];rfl),(((k.hF i)).f_ 0).trans r_,((k.hF i)).f_ 1,(((u.hF i)).bk.f_ 0).trans rfl,(((u.hF i)).bk.f_ 1).trans rfl,(((u.hF i)).bk.f_ 2).trans rfl⟩ λf=>?_
     (iterate 4 refine jQ f ?_)
     refine iv 4 (v:=undef) f ?_ (hy:=(Or.inr ⟨k_,rfl⟩));refine iv 5 (v:=undef) f ?_ (hy:=(Or.inr ⟨k_,rfl⟩))
     (iterate 2 refine jQ f ?_)
     refine iv 8 (v:=undef) f ?_ (hy:=(Or.inr ⟨k_,rfl⟩));refine iv 9 (v:=undef) f ?_ (hy:=(Or.inr ⟨k_,rfl⟩));refine iv 10 (v:=undef) f ?_ (hy:=(Or.inr ⟨k_,rfl⟩));refine iv 11 (v:=undef) f ?_ (hy:=(Or.inr ⟨k_,rfl⟩));refine iv 12 (v:=undef) f ?_ (hy:=(Or.inr ⟨k_,rfl⟩));refine iv 13 (v:=undef) f ?_ (hy:=(Or.inr ⟨k_,rfl⟩));refine iv 14 (v:=undef) f ?_ (hy:=(Or.inr ⟨k_,rfl⟩));refine iv 15 (v:=undef) f ?_ (hy:=(Or.inr ⟨k_,rfl⟩));refine iv 16 f ?_;have Q:=i;refine hM k_ ?_ _;clear f;replace u:=u.hF Q;replace k:=k.hF Q;replace s:=s.hF Q;replace R:=R.hF Q;replace h:=h.hF Q;clear Q i
     have aH:qH bp.jt.l p r=true:=by unfold qH;simp[j]
     clear j D;exact Jf
    .have D:=U F;clear F;obtain⟨j,B⟩:=retKC_3 D.out;refine hN (λw'=>w'.cell? (Z bD 0)=some (.bool true)/\w'.cell? (Z gr 0)=some (.bool true)/\w'.cell? (Z gr 1)=some (Y r.n)/\w'.cell? (Z gx 0)=some (.slice bp.jt.A bp.jt.l.length bp.jt.c)/\w'.cell? (Z gx 1)=some (Y bp.hH)/\w'.cell? (Z gx 2)=some (Y bp.hC)) 17 k_ ?_;have i:I [] y y.drew:=(H [] y).drew;obtain⟨aI,N⟩:=nm_ y.drew;rw[<-N]at i |-;clear N
     refine m5 ⟨(((s.hF i)).f_ 0).trans (by rw[j];rfl),(((k.hF i)).f_ 0).trans (by rw[B];rfl),((k.hF i)).f_ 1,(((u.hF i)).bk.f_ 0).trans rfl,(((u.hF i)).bk.f_ 1).trans rfl,(((u.hF i)).bk.f_ 2).trans rfl⟩ λf=>?_
     (iterate 8 refine jQ f ?_)
     refine iv 8 (v:=undef) f ?_ (hy:=(Or.inr ⟨k_,rfl⟩));refine iv 9 (v:=undef) f ?_ (hy:=(Or.inr ⟨k_,rfl⟩));refine iv 10 (v:=undef) f ?_ (hy:=(Or.inr ⟨k_,rfl⟩));refine iv 11 (v:=undef) f ?_ (hy:=(Or.inr ⟨k_,rfl⟩));refine iv 12 (v:=undef) f ?_ (hy:=(Or.inr ⟨k_,rfl⟩));refine iv 13 (v:=undef) f ?_ (hy:=(Or.inr ⟨k_,rfl⟩));refine iv 14 (v:=undef) f ?_ (hy:=(Or.inr ⟨k_,rfl⟩));refine iv 15 (v:=undef) f ?_ (hy:=(Or.inr ⟨k_,rfl⟩));refine iv 16 f ?_;have Q:=i;refine hM k_ ?_ _;clear f;replace u:=u.hF Q;replace k:=k.hF Q;replace s:=s.hF Q;replace R:=R.hF Q;replace h:=h.hF Q;clear Q i
     have aH:qH bp.jt.l p r=true:=by unfold qH;simp[B]
     clear j B D;exact Jf
    .have D:=U F;clear F;obtain⟨j,B,L⟩:=retKC_45 (.inl rfl) D.out;replace L:jb bp.jt.l r.n=false:=L;refine hN (λw'=>w'.cell? (Z bD 0)=some (.bool true)/\w'.cell? (Z gr 0)=some (.bool false)/\w'.cell? (Z gr 1)=some (Y r.n)/\w'.cell? (Z gx 0)=some (.slice bp.jt.A bp.jt.l.length bp.jt.c)/\w'.cell? (Z gx 1)=some (Y bp.hH)/\w'.cell? (Z gx 2)=some (Y bp.hC)) 17 k_ ?_;have i:I [] y y.drew:=(H [] y).drew;obtain⟨aI,N⟩:=nm_ y.drew;rw[<-N]at i |-;clear N
     refine m5 ⟨(((s.hF i)).f_ 0).trans (by rw[j];rfl),(((k.hF i)).f_ 0).trans (by rw[B];rfl),((k.hF i)).f_ 1,(((u.hF i)).bk.f_ 0).trans rfl,(((u.hF i)).bk.f_ 1).trans rfl,(((u.hF i)).bk.f_ 2).trans rfl⟩ λf=>?_
     iterate 14 refine jQ f ?_
     refine hZ 14 λK m=>?_
     go_simp
     (go_at_call 162;have q:=oX bp.jt.A bp.jt.c bp.jt.l bp.hH bp.hC r.n aI (u.hF i).Ed u.il;rw[L]at q;refine q.mono ?_;rintro e bP⟨rfl,bB⟩)
     have Q:=i.trans bB;clear f
     refine h4 m ⟨(((s.hF Q)).f_ 0).trans (by rw[j];rfl),(((k.hF Q)).f_ 0).trans (by rw[B];rfl),((k.hF Q)).f_ 1,(((u.hF Q)).bk.f_ 0).trans rfl,(((u.hF Q)).bk.f_ 1).trans rfl,(((u.hF Q)).bk.f_ 2).trans rfl⟩ λf=>?_
     clear m K
     (iterate 2 refine jQ f ?_)
     refine hM k_ ?_ _;clear f;replace u:=u.hF Q;replace k:=k.hF Q;replace s:=s.hF Q;replace R:=R.hF Q;replace h:=h.hF Q;clear Q i
     have aH:qH bp.jt.l p r=true:=by unfold qH;simp[L]
     clear j B L D;have HM:Hid (P=({bp with hO:=true}:X1).p):=U (by rw[av.out,U_ aH];rfl);clear aH av;have d:bP.cell? (Z gx 81)=some (.bool bp.hO):=(u.bk.f_ 81).trans rfl;exact JS
    .have D:=U F;clear F;obtain⟨j,B,L⟩:=retKC_45 (.inr rfl) D.out;replace L:jb bp.jt.l r.n=true:=L;refine hN (λw'=>w'.cell? (Z bD 0)=some (.bool true)/\w'.cell? (Z gr 0)=some (.bool false)/\w'.cell? (Z gr 1)=some (Y r.n)/\w'.cell? (Z gx 0)=some (.slice bp.jt.A bp.jt.l.length bp.jt.c)/\w'.cell? (Z gx 1)=some (Y bp.hH)/\w'.cell? (Z gx 2)=some (Y bp.hC)) 17 k_ ?_;have i:I [] y y.drew:=(H [] y).drew;obtain⟨aI,N⟩:=nm_ y.drew;rw[<-N]at i |-;clear N
     refine m5 ⟨(((s.hF i)).f_ 0).trans (by rw[j];rfl),(((k.hF i)).f_ 0).trans (by rw[B];rfl),((k.hF i)).f_ 1,(((u.hF i)).bk.f_ 0).trans rfl,(((u.hF i)).bk.f_ 1).trans rfl,(((u.hF i)).bk.f_ 2).trans rfl⟩ λf=>?_
     iterate 14 refine jQ f ?_
     refine hZ 14 λK m=>?_
     go_simp
     (go_at_call 162;have q:=oX bp.jt.A bp.jt.c bp.jt.l bp.hH bp.hC r.n aI (u.hF i).Ed u.il;rw[L]at q;refine q.mono ?_;rintro e bP⟨rfl,bB⟩)
     have Q:=i.trans bB;clear f
     refine h4 m ⟨(((s.hF Q)).f_ 0).trans (by rw[j];rfl),(((k.hF Q)).f_ 0).trans (by rw[B];rfl),((k.hF Q)).f_ 1,(((u.hF Q)).bk.f_ 0).trans rfl,(((u.hF Q)).bk.f_ 1).trans rfl,(((u.hF Q)).bk.f_ 2).trans rfl⟩ λf=>?_
     clear m K
     (iterate 2 refine jQ f ?_)
     refine hM k_ ?_ _;clear f;replace u:=u.hF Q;replace k:=k.hF Q;replace s:=s.hF Q;replace R:=R.hF Q;replace h:=h.hF Q;clear Q i
     have aH:qH bp.jt.l p r=false:=by unfold qH;simp[j,B,L]
     clear j B L D;have HM:Hid (P=tP (ib (ib bp.p 1 0 p) 1 1 (x.sr E)) r.n):=U (by rw[av.out,R_ (by rw[aH];decide)]);clear aH av;have d9:bp.e.ws.l.length<=1000000:=G_ bS.ws O;have C:=s.f_ 0;have MU:=s.f_ 1
     go_upto_region 31 with(go_at_call 163;((with_reducible refine(j6 b gx bp 1 0 p u d9).mono ?_);unfold kR;rintro e bP⟨bN,rfl,au,ar,T⟩;have cg:=U ar;clear ar))
     have bW:=U cg.out;clear cg;have aC:=au;have cf:=h.trans T;have be:=R.xg T S;have aq:=k.xg T ah
     have dK:bN.e.ws.l.length<=1000000:=by
      have e:bN.e.ws.l=bp.e.ws.l++[⟨1,0,p⟩]:=Z_ (λp:XP=>p.e.ws) bW.out;rw[e,J_]
      have:=bS.ws
      have aK:bp.p.e.ws.length=bp.e.ws.l.length:=rfl;simp only[FK,F7];omega
     clear au T C MU;have C:=be.f_ 0;have MU:=be.f_ 1
     go_upto_region 32 with(go_at_call 163;((with_reducible refine(j6 b gx bN 1 1 (x.sr E) aC dK).mono ?_);unfold kR;rintro e ae⟨aw,rfl,au,ar,T⟩;have cg:=U ar;clear ar))
     have MT:=U cg.out;clear cg;have ch:=au;have aV:=cf.trans T;have aB:=aq.xg T ah;clear au T C MU
     have ci:Hid (P=({aw with e:={aw.e with pc:=r.n}}:X1).p):=U (by
      rw[HM.out,<-bW.out,<-MT.out]
      rfl)
     have MU:=aB.f_ 1;have bU:ae.cell? (Z gx 39)=some (Y aw.e.pc):=(ch.bk.f_ 39).trans rfl;have bM:=ch.bk.hG 39;go_wp2;have bT:=ch.set (x':={aw with e:={aw.e with pc:=r.n}}) 39 (Y r.n) rfl rfl rfl rfl rfl rfl rfl rfl;refine en_ ?_;rw[ci.out];exact⟨_,rfl,bT,rfl,aV.it ((H [gx] _).setCell (.inl J) _)⟩
def yQ{w:World}{E:Prop}(L:o.guard=none){s x:Operand}(ho:o.op=.call {callee:=.builtin .append,args:=#[s,x],argTypes:=#[t,t]})(base:Nat)(e:TypeId)(i:TypeInfo){z:Value}(j bytes:Nat)(R:P.underlying t=some (.slice e))(M:P.info? e=some i)(S:i.zero=some z)(q:i.size=j)(p:i.bytes=bytes)(C:z.cells.size=j)(F:0<j){v:Value}(n:Nat){r:List Value}(hs:a.eval s=v)(H:w.ownsRow base e j v n r)(d:Addr)(m c:Nat)(k:List Value)(hx:a.eval x=.slice (some d) m c)(O:k.length=m*j)(f:∀A u,k[A]?=some u->w.cell? (d.add A)=some u)(I:∀u∈k,u.oneCell'=true)(l:n+m<=maxLen)(y:(n+m)*bytes<=140737488355328)(D:base<=w.heap.size)(h:∀(A':OA) (c':Nat) (w':World),w'.ownsRow base e j (.slice A' (n+m) c') (n+m) (r++k)->w.grownBy w' v.ownBlock->K (a.put o.dst (.slice A' (n+m) c')) w'):
 if Region.wanted o (yielded ops a.tmps)=true then Oper.wp P o a w K Q else E:=by
 have B:Region.wanted o (yielded ops a.tmps)=true:=by simp[Region.wanted,L]
 rw[U_ B];obtain⟨T,w',N,h2,h3,_⟩:=run_append_own (P:=P) w base t o.type e i z j bytes R M S q p C F v n r H d m c k O f I l y D;have J:∃A' c',T=.slice A' (n+m) c':=Lc;obtain⟨A',c',rfl⟩:=J;exact KE
def Am(k:Nat)(q:k<=16):∀d u,(iO ((List.range k).map x.sr))[d]?=some u->x.g_[4+d]?=some u:=by
 intro d u i
 have p:d<k*2:=by
  have:=(He.1 i).1
  rw[lU,Ge,Hw]at this;exact this
 have h:d=(d / 2)*2+d % 2:=X
 have e:(iO ((List.range k).map x.sr))[(d / 2)*2+d % 2]?=(Vl.E (x.sr (d / 2)))[d % 2]?:=by
  unfold iO;rw[j0 Vl.E (λ_=>rfl) _ (d / 2) (d % 2) (by rw[Ge,Hw];omega) X,G9,Ht]
 rw[<-h,i]at e;obtain⟨m,j⟩:=uR x (d / 2) X
 rcases Hx d with g|g
 .rw[g]at e h;have f:4+d=4+d / 2*2:=X;rw[f,m];exact e.symm
 .rw[g]at e h;have f:4+d=4+d / 2*2+1:=X;rw[f,j];exact e.symm
def AY(u v d:Vl):(w.alloc (.cells #[.bool u.r,Y u.n,.bool v.r,Y v.n,.bool d.r,Y d.n] 38)).ownsRow w.heap.size 38 2 (.slice (j_ w.heap.size) 3 3) 3 (iO [u,v,d]):=
 ⟨rfl,.inr ⟨w.heap.size,3,_,rfl,H_ _,HX w _,H_ _,O,rfl,rfl⟩⟩
def rest_13(d m:Nat)(n:Int)(M:kw b w gx x)(hb:d<=16)(hm:m<=1000000)(bY: -1<=x.j2)(br:x.j2<=1000000)(ha:E<16)(hs:x.p.e.sm 800000):
 Calls prog 121 #[q_ gx,.agg #[Y 13,Y (E:Int),Y (d:Int),Y ((d:Int)+(m:Int)),Y n]] w (kR (.tuple #[]) (j5 x.p ⟨13,E,d,((d:Int)+(m:Int)),n⟩) b gx w):=by
 obtain⟨am,a,aG,al,W,N,aD,t⟩:=r7 M #[Y 13,Y (E:Int),Y (d:Int),Y ((d:Int)+(m:Int)),Y n]
 go_enter func121,ntmps121
 go_upto_region 1 with fail
 clear aG al;have MV:=N.f_ 0;have an:I [] am am.drew:=(H [] am).drew;refine hN (λw'=>(w'.cell? (Z a 0)=some (Y 13)/\w'.cell? (Z a 1)=some (Y (E:Int))/\w'.cell? (Z a 2)=some (Y (d:Int))/\w'.cell? (Z a 3)=some (Y ((d:Int)+(m:Int)))/\w'.cell? (Z a 4)=some (Y n))/\w'.cell? (Z gx (4+E*2))=some (.bool (x.sr E).r)/\w'.cell? (Z gx (4+E*2+1))=some (Y (x.sr E).n)) 10 k_ ?_;have g:=And.intro N.drew.c5 (vh (W.bk.drew) ha);have aT:(0:Int)<=(E:Int):=X;have aN:(E:Int)<16:=X
 iterate 8 refine jQ g ?_
 refine hZ 8 λK j=>?_
 go_simp;clear g
 refine h4 j (rK N W.bk ha) λg=>?_
 clear j K
 refine hZ 9 λK j=>?_
 go_simp;clear g
 refine h4 j (rK N W.bk ha) λg=>?_
 clear j K;refine hM k_ ?_ _;obtain⟨aX,aP,bE,az,MX,aO,bL,aL,aW⟩:=y_ W N aD #[.bool (x.sr E).r,Y (x.sr E).n];rw[bE,az];clear bE az W N aD an g;have MV:=aO.f_ 0
 go_upto_region 16 with(go_at_call 161;((with_reducible refine(mU b gx x MX (G_ hs.rs O)).mono ?_);unfold uL;rintro e k⟨f,rfl,F,bO,aA⟩;have ai:=U bO;clear bO))
 clear MV;have a2:=lY hs;rw[<-ai.out]at a2;have bD:=ud x.p;rw[<-ai.out]at bD;obtain⟨i,aS⟩:=mn_ ((hT x.p).2.1);rw[aS];have bo:=U aS;clear aS;generalize (hT x.p).2.2=bZ at*
 have a6:Hid ((j5 x.p ⟨13,E,d,((d:Int)+(m:Int)),n⟩)=tP (ib {f.p with e:={f.p.e with nw:=[⟨f.nx,[⟨true,i⟩,⟨false,f.j2+1⟩,default]++((List.range d).map f.sr++List.replicate m default)⟩]}} 1 0 ⟨true,f.nx⟩) n):=U (by
  have aN:(((d:Int)+(m:Int))-(d:Int)).toNat=m:=X
  show tP (ib {(hT x.p).1 with e:={(hT x.p).1.e with nw:=[⟨(hT x.p).1.nx,[⟨true,(hT x.p).2.1⟩,⟨false,(hT x.p).1.j2+1⟩,default]++((List.range (d:Int).toNat).map (hT x.p).1.sr++List.replicate (((d:Int)+(m:Int))-(d:Int)).toNat default)⟩]}} 1 0 ⟨true,(hT x.p).1.nx⟩) n=_
  rw[aN,bo.out,<-ai.out]
  rfl)
 clear ai bo;have bG:f.j2=x.j2:=bD.j2
 have hq0: -1<=f.j2:=by rw[bG];exact bY
 have hq1:f.j2<=1000000:=by rw[bG];exact br
 clear bG bD;have Q:=aO.xg aA t;have l:=aL.trans aA;have aq:f.e.ws.l.length<=1000000:=G_ a2.ws O;clear MX aO bL aL aA a2;have aw:k.cell? (Z gx 3)=some (Y f.j2):=(F.bk.f_ 3).trans rfl
 go_upto_region 17 with fail
 clear aw;obtain⟨ah,aB,M0,aF,aC⟩:=info_parts infoVl;have cK:=AY k ⟨true,i⟩ ⟨false,f.j2+1⟩ default;have z:I [] k (k.alloc (.cells #[.bool true,Y i,.bool false,Y (f.j2+1),.bool false,Y 0] 38)).drew:=((H [] k).alloc _).drew;refine hN (λw'=>w'.cell? (Z a 0)=some (Y 13)/\w'.cell? (Z a 1)=some (Y (E:Int))/\w'.cell? (Z a 2)=some (Y (d:Int))/\w'.cell? (Z a 3)=some (Y ((d:Int)+(m:Int)))/\w'.cell? (Z a 4)=some (Y n)) 10 k_ ?_;have c:(k.alloc (.cells #[.bool true,Y i,.bool false,Y (f.j2+1),.bool false,Y 0] 38)).drew.ownsRow k.heap.size 38 2 (.slice (j_ k.heap.size) 3 3) 3 (iO [⟨true,i⟩,⟨false,f.j2+1⟩,default]):=iy cK ((H [] _).drew);clear cK;obtain⟨T,P⟩:=nm_ ((k.alloc (.cells #[.bool true,Y i,.bool false,Y (f.j2+1),.bool false,Y 0] 38)).drew);rw[<-P]at z c |-;clear P;have g:T.cell? (Z a 0)=some (Y 13)/\T.cell? (Z a 1)=some (Y (E:Int))/\T.cell? (Z a 2)=some (Y (d:Int))/\T.cell? (Z a 3)=some (Y ((d:Int)+(m:Int)))/\T.cell? (Z a 4)=some (Y n):=(Q.hF z).c5;have aK:(0:Int)<=(d:Int):=X;have bQ:(d:Int)<=16:=X
 iterate 8 refine jQ g ?_
 refine hZ 8 λK j=>?_
 refine yQ rfl rfl k.heap.size 38 ah 2 16 underlying54 aB M0 aF aC rfl O 3 r_ c (Z gx 4) d 16 (iO ((List.range d).map f.sr)) r_ (by rw[lU,Ge,Hw]) (λaQ aZ hj=>by rw[nS,(F.hF z).bk.f_];exact Am f d X aQ aZ hj) (nD _) (by simp only[maxLen];omega) X z.size ?_;intro a8 c5 MT R dB;have A:I [] k MT:=z.grown dB (λbd hk=>.inr (c.lt bd hk).1);clear g
 refine h4 j (Q.hF A).c5 λg=>?_
 clear j K;refine iv 9 g ?_;refine hM k_ ?_ _;clear g c dB z
 go_upto_region 18 with fail
 refine hN (λw'=>(w'.cell? (Z a 0)=some (Y 13)/\w'.cell? (Z a 1)=some (Y (E:Int))/\w'.cell? (Z a 2)=some (Y (d:Int))/\w'.cell? (Z a 3)=some (Y ((d:Int)+(m:Int)))/\w'.cell? (Z a 4)=some (Y n))/\w'.cell? (Z gx 37)=some (Y f.nx)) 17 k_ ?_;replace R:MT.drew.ownsRow k.heap.size 38 2 (.slice a8 (3+d) c5) (3+d) (iO [⟨true,i⟩,⟨false,f.j2+1⟩,default]++iO ((List.range d).map f.sr)):=R;replace A:I [] k MT.drew:=A.drew;obtain⟨aM,be⟩:=nm_ MT.drew;rw[<-be]at A R |-;clear be
 refine m5 ⟨(Q.hF A).c5,((F.hF A).bk.f_ 37).trans rfl⟩ λg=>?_
 (iterate 10 refine jQ g ?_)
 refine iv 10 (v:=Y (m:Int)) g ?_ (hy:=(Or.inl ⟨r_,by(intro w' bu;(try dsimp only at bu);(have e:IntKind.i64.wrap ((d:Int)+(m:Int)-(d:Int))=(m:Int):=(by rw[Ha];omega);go_simp;try(first|with_reducible rfl|(rw[e]))))⟩))
 refine hZ 11 λK j=>?_
 refine yP rfl rfl .i64 underlying3 k.heap.size 38 ah 2 16 underlying54 aB M0 aF aC rfl O O m (uP m) (3+d) r_ R .i64 r_ (by simp only[maxLen];omega) X A.size ?_;intro s u y cw V;have ay:I [] k y:=A.grown V (λbd hk=>.inr (R.lt bd hk).1);clear g V R A
 refine h4 j ⟨(Q.hF ay).c5,((F.hF ay).bk.f_ 37).trans rfl⟩ λg=>?_
 clear j K;refine iv 12 g ?_
 refine hZ 13 λK j=>?_
 go_simp;have bl:I [] y (y.alloc (.cells #[Y f.nx,.slice s (3+d+m) u] 56)):=(H [] y).alloc _;have L:I [] k (y.alloc (.cells #[Y f.nx,.slice s (3+d+m) u] 56)):=ay.trans bl;have av:Bk (y.alloc (.cells #[Y f.nx,.slice s (3+d+m) u] 56)) y.heap.size 56 #[Y f.nx,.slice s (3+d+m) u]:=P_ y _ _;have cq:=iy cw bl;clear g
 refine h4 j ⟨(Q.hF L).c5,((F.hF L).bk.f_ 37).trans rfl⟩ λg=>?_
 clear j K;clear cw ay bl;obtain⟨D,bV⟩:=nm_ (y.alloc (.cells #[Y f.nx,.slice s (3+d+m) u] 56));rw[<-bV]at av L cq g |-;clear bV;generalize y.heap.size=C at*;have B:=F.hF L;have bf:=Q.hF L;have bj:=l.hF L
 (iterate 3 refine jQ g ?_)
 have bg:D.cell? (Z gx 74)=some (.slice f.e.nw.A f.e.nw.l.length f.e.nw.c):=(B.bk.f_ 74).trans rfl;have G:=B.bk.hG 74;have bh:=(H [gx] D).setCell (p:=(Z gx 74)) (.inl J) (.slice (j_ C) 1 1);have aU:Bk (D.setCell (Z gx 74) (.slice (j_ C) 1 1)) gx 186 ({f with e:={f.e with nw:=⟨some (Z C 0),1,[⟨⟨f.nx,[⟨true,i⟩,⟨false,f.j2+1⟩,default]++((List.range d).map f.sr++List.replicate m default)⟩,s,u⟩]⟩}}:X1).g_:=B.bk.hV 74 (.slice (j_ C) 1 1)
 have bi:([⟨true,i⟩,⟨false,f.j2+1⟩,default]++((List.range d).map f.sr++List.replicate m default):List Vl).length=3+d+m:=by simp only[J_,FK,F7,Ge,Hw,Gh];omega
 have ax:Vs D s ([⟨true,i⟩,⟨false,f.j2+1⟩,default]++((List.range d).map f.sr++List.replicate m default)):=by
  have q:=Sl.iR cq
  have e:iO ([⟨true,i⟩,⟨false,f.j2+1⟩,default]++((List.range d).map f.sr++List.replicate m default))=(iO [⟨true,i⟩,⟨false,f.j2+1⟩,default]++iO ((List.range d).map f.sr)++(Builtin.zeroCells #[.bool false,Y 0] m).toList):=by rw[p4,p4,vk,Gc]
  unfold Vs;rw[e,bi];exact q
 have aJ:Os D (j_ C) [⟨⟨f.nx,[⟨true,i⟩,⟨false,f.j2+1⟩,default]++((List.range d).map f.sr++List.replicate m default)⟩,s,u⟩]:=by
  have q:=BJ (r:=⟨⟨f.nx,[⟨true,i⟩,⟨false,f.j2+1⟩,default]++((List.range d).map f.sr++List.replicate m default)⟩,s,u⟩) (by
   show Bk D C 56 #[Y f.nx,.slice s ([⟨true,i⟩,⟨false,f.j2+1⟩,default]++((List.range d).map f.sr++List.replicate m default):List Vl).length u]
   rw[bi]
   exact av)
  exact q
 have ae:l5 D [⟨⟨f.nx,[⟨true,i⟩,⟨false,f.j2+1⟩,default]++((List.range d).map f.sr++List.replicate m default)⟩,s,u⟩]:=by
  intro r hr
  have:r=⟨⟨f.nx,[⟨true,i⟩,⟨false,f.j2+1⟩,default]++((List.range d).map f.sr++List.replicate m default)⟩,s,u⟩:=zu hr
  subst this;exact⟨ax,by show([⟨true,i⟩,⟨false,f.j2+1⟩,default]++((List.range d).map f.sr++List.replicate m default):List Vl).length<=1000000000;rw[bi];omega⟩
 have bm:=B.B5 (x':=({f with e:={f.e with nw:=⟨some (Z C 0),1,[⟨⟨f.nx,[⟨true,i⟩,⟨false,f.j2+1⟩,default]++((List.range d).map f.sr++List.replicate m default)⟩,s,u⟩]⟩}}:X1)) bh aU rfl rfl rfl rfl aJ ae B.ds B.h8 (H_ 1) B.r8 B.pN;have aV:=bj.it bh;have o:=bf.gr bh (zu t)
 refine hZ 17 λK j=>?_
 go_simp;refine j.out _ _ (λh=>FU h O) ?_;clear j K
 try simp only[a_]
 clear g B bf bj ax av aJ ae aU bg G bh cq L F Q l;obtain⟨S,MZ⟩:=nm_ ({f with e:={f.e with nw:=⟨some (Z C 0),1,[⟨⟨f.nx,[⟨true,i⟩,⟨false,f.j2+1⟩,default]++((List.range d).map f.sr++List.replicate m default)⟩,s,u⟩]⟩}}:X1);rw[<-MZ]at bm;have HM:Hid ((j5 x.p ⟨13,E,d,((d:Int)+(m:Int)),n⟩)=tP (ib S.p 1 0 ⟨true,S.nx⟩) n):=U (by rw[a6.out,MZ];rfl)
 have ea:S.e.ws.l.length<=1000000:=by rw[MZ];exact aq
 clear MZ a6 bi;obtain⟨bH,b4⟩:=nm_ (D.setCell (Z gx 74) (.slice (j_ C) 1 1));rw[<-b4]at bm o aV |-;clear b4;refine hM k_ ?_ _;have bq:bH.cell? (Z gx 37)=some (Y S.nx):=(bm.bk.f_ 37).trans rfl
 go_upto_region 20 with(go_at_call 163;((with_reducible refine(j6 b gx S 1 0 ⟨true,S.nx⟩ bm ea).mono ?_);unfold kR;rintro e ad⟨ao,rfl,ap,aR,z⟩;have aY:=U aR;clear aR))
 have au:=aV.trans z;have MU:=o.xg z t;have ar:=MU.f_ 4;have bU:ad.cell? (Z gx 39)=some (Y ao.e.pc):=(ap.bk.f_ 39).trans rfl;have bM:=ap.bk.hG 39;clear bq;go_wp2;have bT:=ap.set (x':={ao with e:={ao.e with pc:=n}}) 39 (Y n) rfl rfl rfl rfl rfl rfl rfl rfl;refine en_ ?_;rw[HM.out,<-aY.out];exact⟨_,rfl,bT,rfl,au.it ((H [gx] _).setCell (.inl J) _)⟩
