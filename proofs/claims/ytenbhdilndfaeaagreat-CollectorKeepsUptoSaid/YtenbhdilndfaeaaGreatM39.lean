import Derived.Test.YtenbhdilndfaeaaGreatM33
import Derived.Test.YtenbhdilndfaeaaGreatM38
import Derived.ChangeSame
import Derived.Deep.Fields
import Derived.Deep.Slices
set_option maxRecDepth 100000
set_option maxHeartbeats 0
set_option linter.all false
namespace Go.Proofs.YtenbhdilndfaeaaGreat
open Go.RowKit Go.Proofs.Tryz
variable{α:Type}{fuel:Nat}{cs:QW}{v:Value}
def KX{G:Prop} (h:G:=by
 go_enter func6,ntmps6;go_upto_region 3 with(go_at_call 27;refine(qi).mono ?_;rintro e w1⟨rfl,hg1⟩);go_wp2;rw[ao.out];exact⟨rfl,hg1⟩):G:=h
def uE(dF:∀(G g:Nat) (w:World),iN w G g->G<=w.heap.size->Calls prog 11 #[q_ g] w (BW G g w))(a0:OA)(o r:Nat)(R:QR)(bR:TypeId)(w:World)(P:Sl w bR 1 a0 o (R.map (.int .u8)))(hz:∀i,0<=R.getD i 0/\R.getD i 0<256)(cj:o<=r)(hl0:o<=9223372036854775807)
 {aJ a8:TypeId} (RA TA:OA) (ap tc:Nat) (rs:QR) (ts:QB) (aE:Sl w aJ 1 RA rs.length (zs rs)) (b9:rs.length<=2000000) (Nt:Sl w a8 48 TA ts.length (ts.flatMap λt=>t.g_.toList)) (al:∀t∈ts,rC w t) (dq:ts.length<=2000000)
 (hb:∀t∈ts,t.gs.l.length<=2000000/\t.rs.l.length<=2000000/\t.ws.l.length<=2000000/\t.ds.l.length<=2000000/\t.nw.l.length<=2000000/\(jr (hX t.nw.l)).length<=2000000):
 Calls prog 6 #[.slice a0 o r,.slice RA rs.length ap,.slice TA ts.length tc] w λe w'=>e=.returned (.bool true)/\J [] w w':=by
 refine h6 λan ao=>?_;have aN:=O al;have b5:=O hb;clear al hb;by_cases cu:12<rs.length;exact KX;by_cases am:4<ts.length
 .exact KX
 have dM:((12:Int)<(rs.length:Int))=False:=p_;have cU:((4:Int)<(ts.length:Int))=False:=p_;go_enter func6,ntmps6;go_upto_region 3 with(go_at_call 27;refine(qi).mono ?_;rintro e w1⟨rfl,hg1⟩);go_wp2_with fail;go_loopw [29] (λA wr=>∃k:Nat,k<=ts.length/\A=Y k/\J [] w wr) (λA _=>ts.length-(intOf A).toNat)
 case atStart=>exact⟨0,L_ _,gn,hg1⟩
 clear hg1;obtain⟨k,hk,rfl,d⟩:=hrel;by_cases ag:k<ts.length
 .obtain⟨z,F,D,hc⟩:=Ao Nt ag;subst D;have B:=b5.out _ (N_ ag);generalize ts[k]=t at*
  have x:∀i,i<48->wr.cell? (Z z (F+k*48+i))=t.g_[i]?:=λi hj=>by
   have y:=hc i hj;have P:i<t.g_.size:=by rw[Tk.size];exact hj
   rw[Gb P]at y|-;exact d.f_ y H
  clear hc;go_upto_region 8 with(first|(refine FC x ?_)|(refine kP (t.g_) (P_ wr 53 lE) (Tk.one _) ?_;intro C c l));have u:J [] wr C:=((F_ [] wr).alloc _).hI l (λaA E=>.inr (by rw[J_]at E;omega));have m:=d.trans u;generalize wr.heap.size=gt at*;have N:C.cell? (Z gt 36)=some (.slice t.gs.A t.gs.l.length t.gs.c):=(c.f_ 36).trans rfl;have Q:C.cell? (Z gt 37)=some (.slice t.rs.A t.rs.l.length t.rs.c):=(c.f_ 37).trans rfl;have S:C.cell? (Z gt 38)=some (.slice t.ws.A t.ws.l.length t.ws.c):=(c.f_ 38).trans rfl;have K:C.cell? (Z gt 39)=some (.slice t.nw.A t.nw.l.length t.nw.c):=(c.f_ 39).trans rfl;have M:C.cell? (Z gt 40)=some (.slice t.ds.A t.ds.l.length t.ds.c):=(c.f_ 40).trans rfl;obtain⟨U,V,W,n4,n5,_⟩:=B;clear x l u d c;generalize t.gs.l.length=j at*;generalize t.rs.l.length=a at*;generalize t.ws.l.length=p at*;generalize t.ds.l.length=f at*;generalize t.nw.l.length=b at*;have w1:IntKind.i64.wrap ((a:Int)+(p:Int))=(a:Int)+(p:Int):=Gm _ X;have w2:IntKind.i64.wrap ((a:Int)+(p:Int)+(b:Int))=(a:Int)+(p:Int)+(b:Int):=Gm _ X;have af:IntKind.i64.wrap ((a:Int)+(p:Int)+(b:Int)+(f:Int))=(a:Int)+(p:Int)+(b:Int)+(f:Int):=Gm _ X;have L:IntKind.i64.wrap ((a:Int)+(p:Int)+(b:Int)+(f:Int)+(j:Int))=(a:Int)+(p:Int)+(b:Int)+(f:Int)+(j:Int):=Gm _ X;by_cases T:20<(a:Int)+(p:Int)+(b:Int)+(f:Int)+(j:Int)
  .go_wp2;rw[ao.out];exact⟨rfl,m⟩
  go_wp2;go_roundw;exact⟨k+1,X,gn,m⟩;exact mz
 obtain⟨w1,cD⟩:=nm_ wr;rw[<-cD]at d|-;clear cD;have cY:=O ((TB.raw (tc:=tc) Nt aN.out X b5.out).gr (F_ _ _));clear aN Nt b5
 go_upto_region 13 with(first
  |(go_at_call 12;refine(wv a0 o r R bR (Sl.hF P d) hz cj hl0).mono ?_;rintro e af⟨D,rfl,aQ,hd,Q⟩)
  |(go_at_call 11;refine(dF af.heap.size D af hd (H_ _)).mono ?_;unfold BW;rintro e L⟨f,rfl,bN,S,c,ad⟩)
  |(refine kP (f.g_) (P_ L 43 Fv) (Md.one _) ?_;intro T aO F))
 have cn:J [] L T:=((F_ [] L).alloc _).hI F H;have cz:w.heap.size<=D:=G_ d.size aQ;have eZ:J [] w L:=(d.trans Q).hI ad (zu cz);have bW:J [] w T:=eZ.trans cn;replace bN:=bN.hF cn;have bj:=c.hF cn;have br:af.heap.size<=T.heap.size:=G_ ad.size cn.size;have dh:=O (λ(w':World)(q:qr w' f)=>Md.hm q S);have di:=O (λ(w':World)(q:qr w' f)=>Md.tm q S);have db:=O (Md.fl S);have ca:=O (Md.tb S);obtain⟨dc,N⟩:=bj.bk;have dG:L.heap.size≠D:=λe=>Gc rfl ((e▸aO:Bk T D 43 f.g_).l8 N I);clear hd Q c ad F S cn eZ P ag;generalize L.heap.size=gx at*;generalize af.heap.size=G at*
 go_upto_region 14 with(first
  |(go_at_call 20;refine(Bo _ D T bj br).mono ?_;rintro e az⟨K,c3,p,rfl,_,bE,dw,dt,cv,W,_⟩)
  |(refine kP #[.slice K p.length c3] (P_ az 35 #[n_]) (by simp[Value.oneCell']) ?_;intro x cr aP))
 have E:J [] az x:=((F_ [] az).alloc _).hI aP H;have V:=(bN.iq N I (.inl I) W).hF E;have aG:=(aO.gr W (zu dG)).hF E;have bw:J [] w x:=(bW.hI W (zu cz)).trans E;have cQ:=cv.hF E;have bD:HB x (.agg #[.slice f.s.h.A f.s.h.l.length f.s.h.c]):=by
  have q:=dh.out x V;exact⟨_,_,f.s.h.l,rfl,V.s.h.os,V.s.h.k8,q.len,q.zero,q.wf,db.out⟩
 have cM:HB x (.agg #[.slice K p.length c3]):=HB.ok (Sl.hF bE E) (dw.hF E) dt;have c6:TB x (.slice f.tA f.ts.length f.tc):=⟨_,_,f.ts,rfl,di.out x V,ca.out.1,ca.out.2⟩;have cX:=cY.out.gr bw;have bV:x.cell? (Z gx 5)=some (.slice f.s.h.A f.s.h.l.length f.s.h.c):=(aG.f_ 5).trans rfl;have dm:x.cell? (Z gx 15)=some (.slice f.tA f.ts.length f.tc):=(aG.f_ 15).trans rfl;have bq:G<=x.heap.size:=G_ br (G_ W.size E.size);clear bN V dh di db ca bE dw dt W aP E cv bj N aO br bW cY d aG;generalize f.g_=mc at*;generalize f.s.h.A=hA at*;generalize f.s.h.c=hc at*;generalize f.s.h.l.length=bF at*;generalize f.tA=tA at*;generalize f.tc=dH at*;generalize f.ts.length=dI at*;generalize az.heap.size=aZ at*;obtain⟨U,dE,aV,d1,B,bn⟩:=box1 x 41 #[.slice tA dI dH,.slice TA ts.length tc,n_];have bg:=O (show ∀k,k<3->∃v,U.cell? (Z dE k)=some v/\TB U v from λk hk=>by
  obtain rfl|rfl|rfl:k=0∨k=1∨k=2:=by omega
  exact⟨_,bn.f_ 0,c6.gr B⟩;exact⟨_,bn.f_ 1,cX.gr B⟩;exact⟨_,bn.f_ 2,TB.nil U⟩)
 have cT:=O (bD.gr B);have bU:=O (cM.gr B);have dB:=B.f_ bV H;have bd:x.cell? (Z aZ 0)=some (.slice K p.length c3):=(cr.f_ 0).trans rfl;have dC:=B.f_ bd H;have dj:=cQ.hF B;have bL:=cr.hF B;have dx:=bw.trans B;clear bD cM c6 cX bn bV bd B;go_wp2_with fail;go_loopw [65] (λA wr=>∃k:Nat,k<=3/\A=Y k/\J [] U wr) (λA _=>3-(intOf A).toNat)
 case atStart=>exact⟨0,L_ _,gn,F_ _ _⟩
 obtain⟨k,hk,rfl,d⟩:=hrel;by_cases ag:k<3
 .obtain⟨v,hv,cw⟩:=bg.out k ag;have R:=d.f_ hv H;obtain⟨bf,Nv,b8⟩:=cw.roots;have cV:=O cw;clear hv cw;have bP:((k:Int)<3)=True:=p_;go_upto_region 19 with(first
   |(go_at_call 28;refine((b8 wr d).1).mono ?_;unfold jR;rintro e Nr⟨cy,cK,rfl,aT,-,bh⟩)
   |(go_at_call 29;refine((b8 Nr (d.trans bh)).2).mono ?_;unfold jR;rintro e ct⟨c8,c7,rfl,h10,-,cp⟩)
   |(go_at_call 21;refine(oQ cy c8 cK c7 bf bf ct (Sl.hF aT cp) h10 Nv Nv).mono ?_;rw[Gv rfl];rintro e cx⟨rfl,aw⟩))
  have aM:=d.trans (bh.trans (cp.trans aw));have dJ:=aM.f_ dB H;have dK:=aM.f_ dC H;obtain⟨a2,m,bI,aD,dk,a6⟩:=box1 cx 35 #[.slice hA bF hc,.slice K p.length c3];have h:=aM.trans dk;have dD:=O (show ∀i,i<2->∃(bk:OA) (n bm:Nat),a2.cell? (Z m i)=some (.slice bk n bm)/\HB U (.agg #[.slice bk n bm]) from λi hj=>by
   obtain rfl|rfl:i=0∨i=1:=by omega
   exact⟨_,_,_,a6.f_ 0,cT.out⟩;exact⟨_,_,_,a6.f_ 1,bU.out⟩)
  clear aT h10 bh cp aw dk a6 b8 R d;go_wp2_with fail;go_loopw [81] (λA wr=>∃i:Nat,i<=2/\A=Y i/\J [] a2 wr) (λA _=>2-(intOf A).toNat)
  case atStart=>exact⟨0,L_ _,gn,F_ _ _⟩
  clear dJ dK;obtain⟨i,hj,rfl,d⟩:=hrel;by_cases bC:i<2
  .obtain⟨As,cF,cs,P,bv⟩:=dD.out i bC;have aR:=d.f_ P H;obtain⟨bx,n,hn,da⟩:=bv.coll cV.out;obtain⟨cb,dg,de⟩:=bv.E9 cV.out;have bG:((i:Int)<2)=True:=p_;have cS:=O da;have df:=O de;clear P bv da de;go_upto_region 22 with fail;obtain⟨ar,gt,ce,bY,Q,cc⟩:=box1 wr 35 #[.slice As cF cs];rw[ce,bY];have t0:ar.cell? (Z gt 0)=some (.slice As cF cs):=cc.f_ 0;have l:=h.trans (d.trans Q);have u:=d.trans Q;clear aR ce bY Q cc d;refine hN (λw'=>w'.cell? (Z gt 0)=some (.slice As cF cs)) 18 k_ ?_;obtain⟨bO,M⟩:=nm_ ar.drew;have c:J [] ar bO:=by rw[M];exact(F_ [] ar).drew
   rw[<-M];clear M;refine mC (c.f_ t0 H) λa=>?_;replace l:=l.trans c;replace u:=u.trans c;clear t0 c;refine ir 0 a ?_;refine ir 1 a ?_;refine ir 3 a ?_;refine ir 4 a ?_;refine hY 2 λj b=>?_;go_simp;go_at_call 31;refine(cS.out _ l).1.mono ?_;unfold uT;rintro e C⟨aW,c5,cA,rfl,o5,dL,cZ,n5,z⟩;refine h4 b (z.f_ a H) λa=>?_;clear b j;replace l:=l.trans z;replace u:=u.trans z;refine hY 5 λj b=>?_;go_simp;go_at_call 32;refine(cS.out _ l).2.mono ?_;unfold uT;rintro e aU⟨aL,aI,cO,rfl,dz,ch,dN,eB,m⟩;refine h4 b (m.f_ a H) λa=>?_;clear b j;replace l:=l.trans m;replace u:=u.trans m;refine hY 6 λj b=>?_;go_simp;go_at_call 30;refine(y_ aW aL c5 aI cA cO aU (Sl.hF dL m) (cZ.hF m) ch dN (o5.trans dz.symm) X).mono ?_;rintro e wc⟨rfl,y⟩;refine h4 b (y.f_ a H) λa=>?_;clear b j z m dL cZ ch dN o5 dz;replace l:=l.trans y;replace u:=u.trans y;refine ir 7 a ?_;refine ir 8 a ?_;refine ir 9 a ?_;refine ir 10 a ?_;refine ir 12 a ?_;refine ir 13 a ?_;refine hY 11 λj b=>?_;rw[U_ k_];go_simp;go_at_call 33;refine(df.out _ l).1.mono ?_;unfold jR;rintro e dQ⟨bp,bi,rfl,bM,-,av⟩;refine h4 b (av.f_ a H) λa=>?_;clear b j;replace l:=l.trans av;replace u:=u.trans av;refine hY 14 λj b=>?_;rw[U_ k_];go_simp;go_at_call 34;refine(df.out _ l).2.mono ?_;unfold jR;rintro e d6⟨b0,cq,rfl,bS,-,bz⟩;refine h4 b (bz.f_ a H) λa=>?_;clear b j;replace l:=l.trans bz;replace u:=u.trans bz;refine hY 15 λj b=>?_;rw[U_ k_];go_simp;go_at_call 21;refine(oQ bp b0 bi cq cb cb d6 (Sl.hF bM bz) bS dg dg).mono ?_;rw[Gv rfl];rintro e wf⟨rfl,ah⟩;refine h4 b (ah.f_ a H) λa=>?_;clear b j bM bS av bz y;replace u:=u.trans ah;clear l ah;refine ir 16 a ?_;refine ir 17 a ?_;refine hM k_ ?_ _;go_wp2;go_roundw;exact⟨i+1,X,gn,u⟩;exact mz
  have bG:((i:Int)<2)=False:=p_;have l:=h.trans d;go_wp2;go_roundw;exact⟨k+1,X,gn,l⟩;exact mz
 have bP:((k:Int)<3)=False:=p_;have bZ:=dj.hF d;have aj:=bL.hF d;have cR:=bU.out.gr d;have pe:=dx.trans d;obtain⟨dc,N⟩:=bZ.bk;have Nw:aZ≠D:=aj.l8 N I;have dr:HB wr (.agg #[.slice K p.length c3]):=cR;clear bg cT bU dB dC dj bL dx cQ cr bw dm;go_upto_region 27 with(first
  |(go_at_call 19;refine(ij G D 9 bZ I I).mono ?_;rintro e wp⟨r1,rfl,_,_,ci,bT⟩)
  |(go_at_call 19;refine(ij G D 9 ci I I).mono ?_;rintro e cm⟨r2,rfl,_,_,ay,co⟩))
 have u:J [D] wr cm:=bT.trans co;have cN:=dr.iq N I I u;have bu:=aj.gr u (zu Nw);have cC:J [] w cm:=pe.hI u (zu cz);obtain⟨l,ah,ax,dn,F,c9⟩:=box1 cm 2 #[Y 1,Y r1,Y r2];rw[ax,dn];have aX:Sl l 2 1 (j_ ah) [1,r1,r2].length (zs [1,r1,r2]):=jh (n:=3) (s:=1) c9 rfl;have cf:Sl l aJ 1 RA rs.length (zs rs):=Sl.hF aE (cC.trans F);have b4:=cN.gr F;have t0:l.cell? (Z aZ 0)=some (.slice K p.length c3):=(bu.hF F).f_ 0;have bW:=cC.trans F;obtain⟨L1,bt,aS⟩:=b4.reach cf X ap;obtain⟨cW,eE,cg⟩:=b4.reach aX (Nat.le_of_ble_eq_true rfl) 3;have b7:=O aS;have bA:=O cg;clear aS cg aX cf b4 bu cC F c9 ax dn cN u bT co ci ay dr cR aj bZ N d pe aE;go_upto_region 27 with fail;refine hN (λw'=>w'.cell? (Z aZ 0)=some (.slice K p.length c3)) 17 k_ ?_;obtain⟨bO,M⟩:=nm_ l.drew;have c:J [] l bO:=by rw[M];exact(F_ [] l).drew
 rw[<-M];clear M;refine mC (c.f_ t0 H) λa=>?_;clear t0;refine ir 0 a ?_;refine ir 1 a ?_;refine ir 3 a ?_;refine ir 4 a ?_;refine hY 2 λj b=>?_;go_simp;go_at_call 35;refine(b7.out _ c).1.mono ?_;unfold jR;rintro e C⟨aW,c5,rfl,au,-,z⟩;refine h4 b (z.f_ a H) λa=>?_;clear b j;replace c:=c.trans z;refine hY 5 λj b=>?_;go_simp;go_at_call 36;refine(b7.out _ c).2.mono ?_;unfold jR;rintro e aU⟨aL,aI,rfl,bl,-,m⟩;refine h4 b (m.f_ a H) λa=>?_;clear b j;replace c:=c.trans m;refine hY 6 λj b=>?_;go_simp;go_at_call 21;refine(oQ aW aL c5 aI L1 L1 aU (Sl.hF au m) bl bt bt).mono ?_;rw[Gv rfl];rintro e wc⟨rfl,y⟩;refine h4 b (y.f_ a H) λa=>?_;clear b j au bl z m;replace c:=c.trans y;clear y;refine ir 7 a ?_;refine ir 8 a ?_;refine ir 9 a ?_;refine ir 11 a ?_;refine ir 12 a ?_;refine hY 10 λj b=>?_;rw[U_ k_];go_simp;go_at_call 35;refine(bA.out _ c).1.mono ?_;unfold jR;rintro e C⟨bp,bi,rfl,bM,-,z⟩;refine h4 b (z.f_ a H) λa=>?_;clear b j;replace c:=c.trans z;refine hY 13 λj b=>?_;rw[U_ k_];go_simp;go_at_call 36;refine(bA.out _ c).2.mono ?_;unfold jR;rintro e aU⟨b0,cq,rfl,bS,-,m⟩;refine h4 b (m.f_ a H) λa=>?_;clear b j;replace c:=c.trans m;refine hY 14 λj b=>?_;rw[U_ k_];go_simp;go_at_call 21;refine(oQ bp b0 bi cq cW cW aU (Sl.hF bM m) bS eE eE).mono ?_;rw[Gv rfl];rintro e wc⟨rfl,y⟩;refine h4 b (y.f_ a H) λa=>?_;clear b j bM bS z m;replace c:=c.trans y;clear y;refine ir 15 a ?_;refine ir 16 a ?_;refine hM k_ ?_ _;go_wp2;rw[ao.out];exact⟨rfl,bW.trans c⟩
section
open Go.RowKit Go.ChangeShapes Go.WideShapes
def wO{Nw:Type}(f:Nat->DataW Nw)(g:Nat->Nat)(n:Nat)(h:∀i,i<n->g i<=Rows.uptoBulk (f i)):((List.range n).map g).sum<=Rows.uptoBulkAll ((List.range n).map f):=by
 have e:∀a:List Nat,(∀i∈a,i<n)->(a.map g).sum<=Rows.uptoBulkAll (a.map f):=by
  intro a;induction a with
  |nil=>intro _;simp[Rows.uptoBulkAll]
  |cons c a j=>
   intro d;have k:=h c (d c GM);have l:=j λi b=>d i (Gj _ b);simp only[Gx,If,Rows.uptoBulkAll];omega
 exact e _ λi b=>GI.1 b
section
variable{Nw:Type}{enc:TypeId × Value->Nw}{w:World}{base:Nat}{spare:Nat->Bool}{held:Bool}
def l7{α:Type}[Inhabited α]{t e:TypeId}{s:Nat}(E:α->List Value)(hE:∀b,(E b).length=s)(J:0<s)(K:prog.underlying t=some (.slice e))(hc:prog.cellsOf e=s)(P:α->Prop)(g:α->Nat)
 (I:∀{n:Nat} {cs:QW} {x:DataW Nw × List MemPlace},cs.length=s->DataW.trod enc prog w base spare held n e cs=some x->∃b,cs=E b/\P b/\g b<=Rows.uptoBulk x.1)
 {fuel:Nat} {v:Value} {x:DataW Nw × List MemPlace} (h:DataW.trod enc prog w base spare held fuel t [v]=some x):
 ∃(A:OA) (c:Nat) (l:List α) (C:TypeId),v=.slice A l.length c/\Sl w C s A l.length (l.flatMap E)/\(∀b∈l,P b)/\(l.map g).sum+1<=Rows.uptoBulk x.1/\l.length<=c/\c<=maxLen:=by
 rcases Go.Deep.open_slice K h with⟨k,p⟩|⟨b,len,u,M,n,r,V,k,_,D,B,N,p,d⟩
 obtain rfl:v=n_:=by simpa using k
 refine⟨none,0,[],0,rfl,GU _ _ _ _,(λb a=>(by cases a)),?_,H_ _,L_ _⟩;rw[p];simp[Rows.uptoBulk];obtain rfl:v=.slice (some b) len u:=by simpa using k
 have T:len<=M:=by rw[N];split<;>omega
 have L:∀a,∃i:α,a<len->(∀j q,(E i)[j]?=some q->w.cell? (b.add (a*s+j))=some q)/\P i/\g i<=Rows.uptoBulk (r a):=by
  intro a;by_cases z:a<len;obtain⟨U,y,S⟩:=d a X;rw[hc]at y;obtain⟨_,F,R⟩:=World.cells?_some y;obtain⟨i,m,Q⟩:=I F S;refine⟨i,λ_=>⟨λj q hu=>?_,Q⟩⟩;have G:j<s:=Mi;have:=R j G;rw[m,hu,BS]at this;exact this;exact⟨default,λh=>Gc h z⟩
 obtain⟨f,o⟩:=Classical.axiomOfChoice L;obtain⟨C,O⟩:=xt E s J hE (w:=w) (x:=b) (len:=len) (f:=f) (λa d=>(o a d).1);refine⟨some b,u,(List.range len).map f,C,H,by rw[Gg,HL];exact O,λi m=>?_,?_,by simpa using D,B⟩;obtain⟨a,d,rfl⟩:=Ge.1 m;exact(o a (GI.1 d)).2.1;rw[p];have:=wO r (λa=>g (f a)) len λa d=>(o a d).2.2;rw[List.map_map];simp only[Rows.uptoBulk];have e:((List.range len).map (g∘f)).sum=((List.range len).map λa=>g (f a)).sum:=rfl;rw[e];omega
def vb(l:List α):(l.map λ_=>(1:Nat)).sum=l.length:=by
 induction l with
 |nil=>rfl
 |cons b l a=>rw[Gx,If,a,Y_];omega
def c1:prog.cellsOf 2=1:=by kernel_rfl
def c3:prog.cellsOf 3=1:=by kernel_rfl
def Fc:prog.cellsOf 4=1:=by kernel_rfl
def D4:prog.cellsOf 38=2:=by kernel_rfl
def qw{x:DataW Nw × List MemPlace}(q:cs.length=2)(h:DataW.trod enc prog w base spare held fuel 38 cs=some x):∃v:Vl,cs=v.E/\1<=Rows.uptoBulk x.1:=by
 obtain⟨s,d,_,i,_,r,c⟩:=DataW.trod_struct underlying38 h
 match cs,q with
 |[g,o],_=>
  have j:=c 0 _ rfl;have m:=c 1 _ rfl
  match s,r with
  |[e,k],_=>
   have f:DataW.trod enc prog w base spare held d 4 [g]=some e:=by simpa[Fc]using j
   have p:DataW.trod enc prog w base spare held d 2 [o]=some k:=by simpa[c1]using m
   obtain⟨l,a,_⟩:=DataW.trod_bool underlying4 f;obtain⟨n,b,_,_⟩:=DataW.trod_int underlying2 p;refine⟨⟨l,n⟩,?_,by rw[i];simp[Rows.uptoBulk]⟩;simp only[List.cons.injEq,and_true]at a b;rw[a,b];rfl
def vy{x:DataW Nw × List MemPlace}(y:cs.length=4)(h:DataW.trod enc prog w base spare held fuel 116 cs=some x):∃v:Cl,cs=v.E/\1<=Rows.uptoBulk x.1:=by
 obtain⟨C,c,_,m,_,A,b⟩:=DataW.trod_struct underlying116 h
 match cs,y with
 |[j,k,f,l],_=>
  have n:=b 0 _ rfl;have s:=b 1 _ rfl;have o:=b 2 _ rfl
  match C,A with
  |[g,p,q],_=>
   have i:DataW.trod enc prog w base spare held c 2 [j]=some g:=by simpa[c1]using n
   have u:DataW.trod enc prog w base spare held c 3 [k]=some p:=by simpa[c3]using s
   have r:DataW.trod enc prog w base spare held c 38 [f,l]=some q:=by simpa[D4]using o
   obtain⟨t,d,_,_⟩:=DataW.trod_int underlying2 i;obtain⟨z,e,_,_⟩:=DataW.trod_int underlying3 u;obtain⟨B,a,_⟩:=qw rfl r;refine⟨⟨t,z,B⟩,?_,by rw[m];simp[Rows.uptoBulk]⟩;simp only[List.cons.injEq,and_true]at d e;unfold Vl.E at a;simp only[List.cons.injEq,and_true]at a;rw[d,e,a.1,a.2];rfl
def CS{x:DataW Nw × List MemPlace}(D:cs.length=5)(h:DataW.trod enc prog w base spare held fuel 124 cs=some x):∃v:Dl,cs=v.E/\1<=Rows.uptoBulk x.1:=by
 obtain⟨I,c,_,p,_,G,b⟩:=DataW.trod_struct underlying124 h
 match cs,D with
 |[l,m,i,n,o],_=>
  have q:=b 0 _ rfl;have z:=b 1 _ rfl;have r:=b 2 _ rfl;have B:=b 3 _ rfl
  match I,G with
  |[j,t,u,s],_=>
   have k:DataW.trod enc prog w base spare held c 2 [l]=some j:=by simpa[c1]using q
   have C:DataW.trod enc prog w base spare held c 3 [m]=some t:=by simpa[c3]using z
   have y:DataW.trod enc prog w base spare held c 3 [i]=some u:=by simpa[c3]using r
   have g:DataW.trod enc prog w base spare held c 38 [n,o]=some s:=by simpa[D4]using B
   obtain⟨A,d,_,_⟩:=DataW.trod_int underlying2 k;obtain⟨E,e,_,_⟩:=DataW.trod_int underlying3 C;obtain⟨F,f,_,_⟩:=DataW.trod_int underlying3 y;obtain⟨H,a,_⟩:=qw rfl g;refine⟨⟨A,E,F,H⟩,?_,by rw[p];simp[Rows.uptoBulk]⟩;simp only[List.cons.injEq,and_true]at d e f;unfold Vl.E at a;simp only[List.cons.injEq,and_true]at a;rw[d,e,f,a.1,a.2];rfl
end
end
section
open Go.RowKit Go.ChangeShapes Go.WideShapes
instance E7:Inhabited Rw:=⟨⟨⟨0,[]⟩,none,0⟩⟩
def c49:prog.cellsOf 49=33:=by kernel_rfl
def FZ:prog.cellsOf 47=32:=by kernel_rfl
def FY:prog.cellsOf 54=1:=by kernel_rfl
def Fb:prog.cellsOf 50=1:=by kernel_rfl
def F1:prog.cellsOf 33=1:=by kernel_rfl
def c51:prog.cellsOf 51=1:=by kernel_rfl
def F0:prog.cellsOf 36=1:=by kernel_rfl
def FX:prog.cellsOf 56=2:=by kernel_rfl
def c116:prog.cellsOf 116=4:=by kernel_rfl
def c124:prog.cellsOf 124=5:=by kernel_rfl
def c53:prog.cellsOf 53=48:=by kernel_rfl
section
variable{Nw:Type}{enc:TypeId × Value->Nw}{w:World}{base:Nat}{spare:Nat->Bool}{held:Bool}
def Cu{x:DataW Nw × List MemPlace}(a:cs.length=2)(h:DataW.trod enc prog w base spare held fuel 56 cs=some x):∃r:Rw,cs=r.E/\(∃e,vK e w r.A r.o.fs)/\r.o.fs.length+1<=Rows.uptoBulk x.1:=by
 obtain⟨D,f,_,m,_,C,d⟩:=DataW.trod_struct underlying56 h
 match cs,a with
 |[k,l],_=>
  have n:=d 0 _ rfl;have q:=d 1 _ rfl
  match D,C with
  |[i,o],_=>
   have j:DataW.trod enc prog w base spare held f 2 [k]=some i:=by simpa[c1]using n
   have u:DataW.trod enc prog w base spare held f 54 [l]=some o:=by simpa[FY]using q
   obtain⟨s,c,_,_⟩:=DataW.trod_int underlying2 j;obtain⟨g,t,b,e,y,A,_,z,_,_⟩:=l7 Vl.E (λ_=>rfl) X underlying54 D4 (λ_=>True) (λ_=>1) (λa B=>by obtain⟨v,e,p⟩:=qw a B;exact⟨v,e,trivial,p⟩) u;rw[vb]at z;refine⟨⟨⟨s,b⟩,g,t⟩,?_,⟨e,A⟩,?_⟩;simp only[List.cons.injEq,and_true]at c;rw[c,y];rfl;rw[m];simp only[Gx,Hf,Rows.uptoBulk,Rows.uptoBulkAll];show b.length+1<=_;omega
def chunks{f:Nat->List Value}:∀(n:Nat) {L:QW},L.length=n*2->(∀i,i<n->(L.drop (i*2)).take 2=f i)->L=(List.range n).flatMap f
 |0,L,d,_=>by
  have:=List.length_eq_zero_iff.1 (by omega:L.length=0);exact No
 |n+1,L,d,a=>by
  have c:L.take (n*2)=(List.range n).flatMap f:=chunks n (by rw[Gp];omega) λi g=>by
   have e:=a i X;rw[List.drop_take,List.take_take,Ig X];exact e
  have b:=a n X;rw[F7 (by rw[GQ];omega)]at b;rw[List.range_succ,Gs,<-c];simp only[Gi,List.flatMap_nil,Hv];rw[<-b,Hm]
def lQ(cs:QW)(o c:Nat):cs.drop o=(cs.drop o).take c++cs.drop (o+c):=by
 rw[<-List.drop_drop,Hm]
def Fa(pc:Int)(r:Nat->Vl):List Value:=[Y pc]++(List.range 16).flatMap λi=>(r i).E
def BE{x:DataW Nw × List MemPlace}(C:cs.length=33)(h:DataW.trod enc prog w base spare held fuel 49 cs=some x):∃(pc:Int) (r:Nat->Vl),cs=Fa pc r:=by
 obtain⟨A,i,_,_,_,z,g⟩:=DataW.trod_struct underlying49 h;have m:=g 0 _ rfl;have p:=g 1 _ rfl
 match A,z with
 |[k,n],_=>
  have l:DataW.trod enc prog w base spare held i 3 ((cs.drop 0).take 1)=some k:=by simpa[c3]using m
  have q:DataW.trod enc prog w base spare held i 47 ((cs.drop 1).take 32)=some n:=by simpa[FZ]using p
  obtain⟨pc,s,_,_⟩:=DataW.trod_int underlying3 l;obtain⟨E,D,_,_,_,B,c⟩:=Go.DataW.trod_array underlying47 q;rw[D4]at c;have f:((cs.drop 1).take 32).length=32:=by rw[Gp,GQ];omega
  have o:(cs.drop 1).take 32=cs.drop 1:=F7 (by rw[GQ];omega);rw[o]at c f;generalize t:cs.drop 1=L at c f;have y:∀a,∃v:Vl,a<16->(L.drop (a*2)).take 2=v.E:=by
   intro a;by_cases b:a<16;have j:=c a b;rw[K_ X]at j;obtain⟨v,e,_⟩:=qw (by rw[Gp,GQ];omega) j;exact⟨v,λ_=>e⟩;exact⟨default,λh=>Gc h b⟩
  obtain⟨r,u⟩:=Classical.axiomOfChoice y;have e:=chunks 16 (L:=L) X (λa b=>u a b);refine⟨pc,r,?_⟩;have d:=lQ cs 0 1;rw[s]at d;simp only[List.drop_zero,X_]at d;rw[d,t,e];rfl
def rl{o:Nat}(h:o<cs.length):∃v,(cs.drop o).take 1=[v]:=
 List.length_eq_one_iff.1 (by rw[Gp,GQ];omega)
def zS{t e:TypeId}{x:DataW Nw × List MemPlace}(d:prog.underlying t=some (.slice e))(h:DataW.trod enc prog w base spare held fuel t [v]=some x):∃(A:OA) (n c:Nat),v=.slice A n c:=by
 rcases Go.Deep.open_slice d h with⟨a,_⟩|⟨b,g,f,j,n,i,k,a,_⟩
 exact⟨none,0,0,by simpa using a⟩;exact⟨some b,g,f,by simpa using a⟩
def yt(f:α->Nat){l:List α}{a:α}(h:a∈l):f a<=(l.map f).sum:=by
 induction l with
 |nil=>cases h
 |cons c l b=>
  rw[Gx,If];rcases O_.1 h with rfl|h
  omega;have:=b h;omega
def tw(t:Tk):Nat:=t.gs.l.length+t.rs.l.length+t.ws.l.length+t.ds.l.length+(t.nw.l.map λr=>r.o.fs.length+1).sum+1
def B9{x:DataW Nw × List MemPlace}(e:cs.length=48)(h:DataW.trod enc prog w base spare held fuel 53 cs=some x):
 ∃t:Tk,cs=t.g_.toList/\(tw t<=1048576->rC w t)/\tw t<=Rows.uptoBulk x.1:=by
 obtain⟨ys,d,_,aE,_,ag,c⟩:=DataW.trod_struct underlying53 h;have B:=c 0 _ rfl;have Q:=c 1 _ rfl;have D:=c 2 _ rfl;have ai:=c 3 _ rfl;have k:=c 4 _ rfl;have aj:=c 5 _ rfl;have C:=c 6 _ rfl;have al:=c 7 _ rfl;have W:=c 8 _ rfl;have an:=c 9 _ rfl;have ao:=c 10 _ rfl;have m:=c 11 _ rfl;have p:=c 12 _ rfl;have q:=c 13 _ rfl;have u:=c 14 _ rfl
 match ys,ag with
 |[ap,ah,ay,aS,ax,bP,bQ,aq,ar,av,aw,aA,aB,Np,ad],_=>
  have k0:DataW.trod enc prog w base spare held d 3 ((cs.drop 0).take 1)=some ap:=by simpa[c3]using B
  have bK:DataW.trod enc prog w base spare held d 2 ((cs.drop 1).take 1)=some ah:=by simpa[c1]using Q
  have bj:DataW.trod enc prog w base spare held d 4 ((cs.drop 2).take 1)=some ay:=by simpa[Fc]using D
  have k3:DataW.trod enc prog w base spare held d 49 ((cs.drop 3).take 33)=some aS:=by simpa[c49]using ai
  have Y:DataW.trod enc prog w base spare held d 50 ((cs.drop 36).take 1)=some ax:=by simpa[Fb]using k
  have T:DataW.trod enc prog w base spare held d 50 ((cs.drop 37).take 1)=some bP:=by simpa[Fb]using aj
  have V:DataW.trod enc prog w base spare held d 50 ((cs.drop 38).take 1)=some bQ:=by simpa[Fb]using C
  have n:DataW.trod enc prog w base spare held d 33 ((cs.drop 39).take 1)=some aq:=by simpa[F1]using al
  have ej:DataW.trod enc prog w base spare held d 51 ((cs.drop 40).take 1)=some ar:=by simpa[c51]using W
  have S:DataW.trod enc prog w base spare held d 36 ((cs.drop 41).take 1)=some av:=by simpa[F0]using an
  have e0:DataW.trod enc prog w base spare held d 3 ((cs.drop 42).take 1)=some aw:=by simpa[c3]using ao
  have aC:DataW.trod enc prog w base spare held d 3 ((cs.drop 43).take 1)=some aA:=by simpa[c3]using m
  have fo:DataW.trod enc prog w base spare held d 4 ((cs.drop 44).take 1)=some aB:=by simpa[Fc]using p
  have aG:DataW.trod enc prog w base spare held d 38 ((cs.drop 45).take 2)=some Np:=by simpa[D4]using q
  have fp:DataW.trod enc prog w base spare held d 3 ((cs.drop 47).take 1)=some ad:=by simpa[c3]using u
  clear B Q D ai k aj C al W an ao m p q u c;rw[aE];simp only[Gx,Hf,Rows.uptoBulk,Rows.uptoBulkAll];obtain⟨hQ,h0,_,_⟩:=DataW.trod_int underlying3 k0;obtain⟨run,h1,_,_⟩:=DataW.trod_int underlying2 bK;obtain⟨ip,h2,_⟩:=DataW.trod_bool underlying4 bj;obtain⟨pc,a,h3⟩:=BE (by rw[Gp,GQ];omega) k3;obtain⟨v4,J⟩:=rl (cs:=cs) (o:=36) X;obtain⟨v5,K⟩:=rl (cs:=cs) (o:=37) X;obtain⟨bn,R⟩:=rl (cs:=cs) (o:=38) X;obtain⟨aD,N⟩:=rl (cs:=cs) (o:=39) X;obtain⟨aH,P⟩:=rl (cs:=cs) (o:=40) X;obtain⟨v9,E⟩:=rl (cs:=cs) (o:=41) X;rw[J]at Y;rw[K]at T;rw[R]at V;rw[N]at n;rw[P]at ej;rw[E]at S;obtain⟨aO,aN,I,b4,rfl,df,_,dC,_,_⟩:=l7 Cl.E (λ_=>rfl) X underlying50 c116 (λ_=>True) (λ_=>1) (λe g=>by obtain⟨v,b,f⟩:=vy e g;exact⟨v,b,trivial,f⟩) Y;obtain⟨aW,aI,U,bR,rfl,bY,_,d9,_,_⟩:=l7 Cl.E (λ_=>rfl) X underlying50 c116 (λ_=>True) (λ_=>1) (λe g=>by obtain⟨v,b,f⟩:=vy e g;exact⟨v,b,trivial,f⟩) T;obtain⟨aL,cj,M,dx,rfl,bU,_,dG,_,_⟩:=l7 Cl.E (λ_=>rfl) X underlying50 c116 (λ_=>True) (λ_=>1) (λe g=>by obtain⟨v,b,f⟩:=vy e g;exact⟨v,b,trivial,f⟩) V;obtain⟨bp,ck,i,dS,rfl,cp,aP,dD,_,_⟩:=l7 Rw.E (λ_=>rfl) X underlying33 FX (λa=>∃b,vK b w a.A a.o.fs) (λa=>a.o.fs.length+1) (λe g=>by obtain⟨v,b,aQ,f⟩:=Cu e g;exact⟨v,b,aQ,f⟩) n;obtain⟨b0,Nu,l,dT,rfl,dt,_,dJ,_,_⟩:=l7 Dl.E (λ_=>rfl) X underlying51 c124 (λ_=>True) (λ_=>1) (λe g=>by obtain⟨v,b,f⟩:=CS e g;exact⟨v,b,trivial,f⟩) ej;obtain⟨cy,y,Nv,rfl⟩:=zS underlying36 S;obtain⟨cT,rfl⟩:∃aR:List Ac,y=aR.length:=⟨List.replicate y default,H⟩;obtain⟨h9,h10,_,_⟩:=DataW.trod_int underlying3 e0;obtain⟨next,aU,_,_⟩:=DataW.trod_int underlying3 aC;obtain⟨hZ,cu,_⟩:=DataW.trod_bool underlying4 fo;obtain⟨aV,h13,_⟩:=qw (by rw[Gp,GQ];omega) aG;obtain⟨hK,aX,_,_⟩:=DataW.trod_int underlying3 fp;rw[vb]at dC d9 dG dJ;have hE:∀a:Rw,∃b:TypeId,a∈i->vK b w a.A a.o.fs:=λa=>by
   by_cases j:a∈i;obtain⟨b,r⟩:=aP a j;exact⟨b,λ_=>r⟩;exact⟨0,λh=>Gc h j⟩
  obtain⟨aY,aZ⟩:=Classical.axiomOfChoice hE;refine⟨⟨hQ,run,ip,pc,a,⟨aO,aN,I⟩,⟨aW,aI,U⟩,⟨aL,cj,M⟩,⟨bp,ck,i⟩,⟨b0,Nu,l⟩,⟨cy,Nv,cT⟩,h9,next,hZ,aV,hK⟩,?_,λhb=>⟨⟨b4,df⟩,⟨bR,bY⟩,⟨dx,bU⟩,⟨dT,dt⟩,⟨dS,cp⟩,⟨aY,λa j=>⟨aZ a j,?_⟩⟩⟩,?_⟩;have e9:cs.drop 48=[]:=GG X;have w0:cs.drop 0=(cs.drop 0).take 1++cs.drop 1:=lQ cs 0 1;rw[h0]at w0;have w1:cs.drop 1=(cs.drop 1).take 1++cs.drop 2:=lQ cs 1 1;rw[h1]at w1;have w2:cs.drop 2=(cs.drop 2).take 1++cs.drop 3:=lQ cs 2 1;rw[h2]at w2;have G:cs.drop 3=(cs.drop 3).take 33++cs.drop 36:=lQ cs 3 33;rw[h3]at G;have F:cs.drop 36=(cs.drop 36).take 1++cs.drop 37:=lQ cs 36 1;rw[J]at F;have r:cs.drop 37=(cs.drop 37).take 1++cs.drop 38:=lQ cs 37 1;rw[K]at r;have L:cs.drop 38=(cs.drop 38).take 1++cs.drop 39:=lQ cs 38 1;rw[R]at L;have A:cs.drop 39=(cs.drop 39).take 1++cs.drop 40:=lQ cs 39 1;rw[N]at A;have O:cs.drop 40=(cs.drop 40).take 1++cs.drop 41:=lQ cs 40 1;rw[P]at O;have s:cs.drop 41=(cs.drop 41).take 1++cs.drop 42:=lQ cs 41 1;rw[E]at s;have Z:cs.drop 42=(cs.drop 42).take 1++cs.drop 43:=lQ cs 42 1;rw[h10]at Z;have cx:cs.drop 43=(cs.drop 43).take 1++cs.drop 44:=lQ cs 43 1;rw[aU]at cx;have d7:cs.drop 44=(cs.drop 44).take 1++cs.drop 45:=lQ cs 44 1;rw[cu]at d7;have z:cs.drop 45=(cs.drop 45).take 2++cs.drop 47:=lQ cs 45 2;rw[h13]at z;have eL:cs.drop 47=(cs.drop 47).take 1++cs.drop 48:=lQ cs 47 1;rw[aX]at eL;have b:cs=cs.drop 0:=rfl;rw[w0,w1,w2,G,F,r,L,A,O,s,Z,cx,d7,z,eL,e9]at b;rw[b];rfl;have:a.o.fs.length+1<=(i.map λa=>a.o.fs.length+1).sum:=yt (λa:Rw=>a.o.fs.length+1) j;unfold tw at hb;dsimp only at hb;omega;show I.length+U.length+M.length+l.length+(i.map λa=>a.o.fs.length+1).sum+1<=_;omega
def ux:∀l:List Rw,(jr (hX l)).length<=(l.map λr=>r.o.fs.length+1).sum
 |[]=>by simp[hX,jr]
 |r::l=>by
  have a:=ux l;have b:(jO r.o.fs).length<=r.o.fs.length:=by unfold jO;rw[Gg];exact GC _ _
  unfold hX jr at a|-;simp only[Gx,Gi,I_,If];omega
def yu:∀l:List Rw,l.length<=(l.map λr=>r.o.fs.length+1).sum
 |[]=>H_ _
 |r::l=>by
  have a:=yu l;rw[Y_,Gx,If];omega
instance E6:Inhabited Tk:=⟨Tk.zero⟩
def AZ{x:DataW Nw × List MemPlace}(h:DataW.trod enc prog w base spare held fuel 41 [v]=some x)(q:Rows.uptoBulk x.1<=1048576):
 ∃(A:OA) (c:Nat) (ts:QB) (e:TypeId),v=.slice A ts.length c/\Sl w e 48 A ts.length (ts.flatMap λt=>t.g_.toList)/\(∀t∈ts,rC w t)/\ts.length<=2000000/\∀t∈ts,t.gs.l.length<=2000000/\t.rs.l.length<=2000000/\t.ws.l.length<=2000000/\t.ds.l.length<=2000000/\t.nw.l.length<=2000000/\(jr (hX t.nw.l)).length<=2000000:=by
 obtain⟨A,c,ts,e,rfl,m,l,u,_,_⟩:=l7 (λt:Tk=>t.g_.toList) (λ_=>rfl) X underlying41 c53 (λt=>tw t<=1048576->rC w t) tw (λf o=>by obtain⟨v,e,n,k⟩:=B9 f o;exact⟨v,e,n,k⟩) h;have g:∀t∈ts,tw t<=1048576:=λt a=>by
  have d:tw t<=(ts.map tw).sum:=yt tw a;omega
 have f:ts.length<=(ts.map tw).sum:=by
  have i:∀b:List Tk,b.length<=(b.map tw).sum:=by
   intro b;induction b with
   |nil=>exact H_ _
   |cons j b p=>
    rw[Y_,Gx,If];have:1<=tw j:=by unfold tw;omega
    omega
  exact i ts
 refine⟨A,c,ts,e,rfl,m,λt a=>l t a (g t a),X,λt a=>?_⟩;have d:=g t a;have r:=ux t.nw.l;have s:=yu t.nw.l;unfold tw at d;omega
def x9:∀l:List Int,zs l=l.flatMap λn:Int=>[Y n]
 |[]=>rfl
 |b::l=>by
  have a:=x9 l;unfold zs at a|-;rw[Gx,Gi,a]
  rfl
def zx{x:DataW Nw × List MemPlace}(h:DataW.trod enc prog w base spare held fuel 27 [v]=some x):
 ∃(A:OA) (c:Nat) (l:QR) (e:TypeId),v=.slice A l.length c/\Sl w e 1 A l.length (zs l)/\l.length+1<=Rows.uptoBulk x.1:=by
 obtain⟨A,c,l,e,rfl,d,_,b,_,_⟩:=l7 (s:=1) (λa:Int=>[Y a]) (λ_=>rfl) X underlying27 c1 (λ_=>True) (λ_=>1) (λi g=>by
  obtain⟨a,e,f,_⟩:=DataW.trod_int underlying2 g;exact⟨a,e,trivial,by rw[f];simp[Rows.uptoBulk]⟩) h
 rw[vb]at b;refine⟨A,c,l,e,rfl,?_,b⟩;rw[x9];exact d
end
end
