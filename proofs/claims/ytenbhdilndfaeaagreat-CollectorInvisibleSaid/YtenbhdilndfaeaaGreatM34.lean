import Derived.Test.YtenbhdilndfaeaaGreatM30
import Derived.Great.Walk
set_option maxRecDepth 100000
set_option maxHeartbeats 0
set_option linter.all false
namespace Go.Proofs.YtenbhdilndfaeaaGreat
open Go.RowKit Go.Proofs.Tryz
variable{l:List In}{hC hH:Int}{A:OA}{w w':World}{t:TypeId}{cs cur:Array Value}{base gb k o:Nat}{vs:List Value}{ts:List Tk}
def BW(B g:Nat)(P:List Int)(w:World)(e:Ending)(w':World):Prop:=∃(A:OA) (d:Nat) (Q:List Int),e=.returned (.agg #[.slice A Q.length d])/\Ns w' 3 A Q/\Q.length<=d/\Q.Sublist P/\iQ w' B g/\I [g] w w'
def xG(l:List In)(hH hC:Int):(kI l hH hC).length<=2049:=by
 unfold kI;split
 .rename_i c
  have:=ks c
  simp;omega
 .simp
def u4(B g:Nat)(A:OA)(c:Nat)(l:List In)(hH hC:Int)(h:Is w A l)(hn:l.length<=1000000000)(u:iQ w B g)(hB:B<=w.heap.size):
 Calls prog 46 #[.pointer (some ⟨g,0,none⟩),.agg #[.slice A l.length c,Y hH,Y hC]] w (BW B g (kI l hH hC) w):=by
 obtain⟨bJ,bG,bA,a6,be⟩:=info_parts infoInt;have bt:=u.xw;have bZ:=xG l hH hC;obtain⟨L,d,v⟩:=pZ w 26 #[.slice A l.length c,Y hH,Y hC] 32 #[n_];obtain⟨al,an⟩:=nm_ (BW B g (kI l hH hC) w);rw[<-an];have aq:=U an;clear an
 go_enter func46,ntmps46
 go_upto_region 1 with fail
 obtain⟨aA,aO⟩:=nm_ ((w.alloc (.cells #[.slice A l.length c,Y hH,Y hC] 26)).alloc (.cells #[n_] 32));rw[<-aO]at L d v |-;clear aO;obtain⟨aH,h3⟩:=nm_ w.heap.size;obtain⟨D,aw⟩:=nm_ (w.heap.size+1);rw[<-h3]at L;rw[<-aw]at d;rw[<-h3];have aK:aH+1=D:=X;rw[aK];have aW:w.heap.size<=aH:=X;clear h3 aw;have z0:=L.f_ 0;have aR:=L.f_ 1;have aZ:=L.f_ 2;have bd:=Is.hF h v;replace u:=u.hF v;have cD:=d.lt
 go_upto_region 2 with(go_at_call 90;refine(zw A c l hH hC aA bd hn).mono ?_;rintro bf w2⟨C,bh,rfl,f,aF,V⟩)
 obtain⟨i,j⟩:=EO w2 32 #[.slice C (kI l hH hC).length bh];obtain⟨aI,av⟩:=nm_ w2.heap.size;have aS:D<aI:=ov V.size;replace d:=(d.hF V).hF j;replace u:=(u.hF V).hF j;replace f:=f.hF j;replace v:=(v.trans V).trans j;obtain⟨e,az⟩:=nm_ (kI l hH hC);rw[<-az]at f aF i d u v bZ |-;have bi:=U az;obtain⟨ag,bj⟩:=nm_ (w2.alloc (.cells #[.slice C e.length bh] 32));rw[<-bj]at f i d u v |-;rw[<-av]at i |-;clear bj av j az z0 aR aZ bd L V;obtain⟨n,hn0⟩:=nm_ e.length;have a2:=U hn0;rw[<-hn0]at aF i bZ |-;clear hn0
 go_wp2_with fail
 go_at_call 19
 refine(iw B g 3 u X X).mono ?_;rintro bf ad⟨bk,rfl,bL,bO,Q,W⟩;replace d:=d.gr W p_;replace i:=i.gr W p_;obtain⟨dy,N⟩:=u.bk;replace f:=Sl.it f N O W;have t:=(v.mono J).trans W;have dx:=i.lt;clear u N v W
 by_cases hr:bk=0
 .have eE:(bk==0)=true:=by simp[hr]
  clear hr;have P:=i.f_ 0;have bB:=d.hG 0;have bW:=d.f_ 0;go_wp2;have b5:=d.hV 0 (.slice C n bh);have a:=(H [D] ad).setCell (p:=⟨D,0,none⟩) (.inl J) (.slice C n bh);refine F6 (G5 rfl _ _ _ _ _ _ _ rfl b5 underlying32 rfl k_) rfl ?_;rw[aq.out];refine⟨C,bh,e,by rw[a2.out];rfl,?_,by rw[<-a2.out];exact aF,by rw[bi.out];exact List.Sublist.refl _,Q.ih a p_,t.hJ a p_⟩;exact Sl.it f d O a
 .have eE:(bk==0)=false:=by simp[hr]
  clear hr;have P:=i.f_ 0
  go_upto_region 5 with fail
  obtain⟨y,j⟩:=EO ad 32 #[n_];obtain⟨Z,aY⟩:=nm_ ad.heap.size;have ap:aI<Z:=X;replace d:=d.hF j;replace i:=i.hF j;replace Q:=Q.hF j;replace f:=f.hF j;replace t:=t.trans (j.mono J);obtain⟨MT,bN⟩:=nm_ (ad.alloc (.cells #[n_] 32));rw[<-bN,<-aY]at y;rw[<-bN]at f i d Q t |-;rw[<-aY];clear bN aY j P;have P:=i.f_ 0
  go_upto_region 6 with fail
  clear P;obtain⟨E,aX⟩:=nm_ MT.heap.size
  have aT:Z<E:=by rw[aX];exact y.lt
  have aQ:w.heap.size<=E:=X;have aM:E<=MT.heap.size:=X
  have aL:∀R off,C=some ⟨R,off,none⟩->0<e.length->R<E:=λR off hA hn=>by
   have h1:=f;rw[hA]at h1;rw[aX];exact h1.lt hn
  clear aX
  go_loopw [18] (λah w'=>∃(k:Nat) (x:OA) (z:Nat) (vs:List Int),k<=n/\ah=Y k/\vs.Sublist (e.take k)/\Bk w' D 32 #[n_]/\Bk w' Z 32 #[.slice x vs.length z]/\w'.ownsRow E 3 1 (.slice x vs.length z) vs.length (vs.map (Value.int .i64))/\Ns w' 3 C e/\iQ w' B g/\I [g] w w'/\E<=w'.heap.size/\vs.length<=k) (λah _=>n-(intOf ah).toNat)
  case atStart=>exact⟨0,none,0,[],N_ _,gn,J,d,y,iT _ _ _ _,f,Q,t,aM,H_ _⟩
  case round=>
   obtain⟨k,x,z,vs,hk,rfl,bl,M,ae,ak,au,ai,ar,bm,cN⟩:=hrel;obtain⟨K,hj⟩:=nm_ vs.length;have S:=U hj;rw[<-hj]at ae ak cN;clear hj d y f Q t
   by_cases af:k<n
   .obtain⟨b,off,hA,hc⟩:=au.at_ (k:=k) (ov a2.out);subst hA;have aP:k<e.length:=ov a2.out;have MU:=hc
    go_wp2_with fail
    go_at_call 19
    refine(iw B g 2 ai X X).mono ?_;rintro bf F⟨q,rfl,hq0,hq1,cM,G⟩;obtain⟨dy,N⟩:=ai.bk;have bo:=M.gr G p_;have y:=ae.gr G p_;have cw:=kD ak N O G;have dn:Ns F 3 (some ⟨b,off,none⟩) e:=Sl.it au N O G;have c6:=ar.trans G;have aD:=G_ bm G.size
    have aU:e.take (k+1)=e.take k++[e[k]]:=by rw[T_ aP]
    have bn:=U aU;have bu:=U bl;clear aU bl MU hc M ae ak au ai ar bm N G
    by_cases ao:q=0
    .have dz:(q==0)=true:=by simp[ao]
     clear ao;obtain⟨r,aG⟩:=nm_ (e[k]);rw[<-aG]at bn |-;clear aG;have P:=y.f_ 0;have aN:=y.alloc (.cells #[Y r] 3);have bp:=iy cw ((H [] F).alloc (.cells #[Y r] 3));have aj:Sl (F.alloc (.cells #[Y r] 3)) 3 1 (some ⟨F.heap.size,0,none⟩) 1 [Y r]:=jj (n:=1) (s:=1) (P_ F 3 #[Y r]) rfl
     go_wp2_with (at_builtin;refine j7 rfl rfl E 3 bJ 1 8 underlying30 bG bA a6 be rfl O O x K z (vs.map (Value.int .i64)) rfl bp _ 1 1 [Y r] rfl aj (by intro br hu;simp at hu;subst hu;rfl) X p_ ?_;intro bv ce aJ b9 bE bD;have T:=App.iW bp bE;have bg:=T.bk aN O;have bq:=bg.f_ 0;have bM:=bg.hG 0)
     go_roundw
     case rel=>
      have a:=(H [Z] aJ).setCell (p:=⟨Z,0,none⟩) (.inl J) (.slice bv (K+1) ce);have am:=S.out;have m:=T.bk (bo.alloc (.cells #[Y r] 3)) O;refine⟨k+1,bv,ce,vs++[r],X,gn,by rw[bn.out];exact bu.out.append (List.Sublist.refl _),m.gr a p_,?_,?_,?_,?_,?_,?_,p_⟩
      .have:=bg.hV 0 (.slice bv (K+1) ce)
       have hl:(vs++[r]).length=K+1:=by rw[J_,<-am];rfl
       rw[hl];exact this
      .have:=kD b9 bg O a
       have hl:(vs++[r]).length=K+1:=by rw[J_,<-am];rfl
       rw[hl,FV];exact this
      .have aE:Sl (F.alloc (.cells #[Y r] 3)) 3 1 (some ⟨b,off,none⟩) e.length (e.map (Value.int .i64)):=Sl.alloc dn _;refine Sl.it (aE.rT λhn R o hA hx=>bE.block R hx (λhe=>?_)) bg O a;have h1:=(kk bp (he.symm)).1;have h2:=aL R o hA hn;omega
      .exact((cM.hF ((H [] F).alloc _)).app T X).ih a p_
      .exact(T.gr [g] w aQ (c6.alloc _)).setCell (.inr p_) _
      .have h1:=T.size;have h2:=a.size;simp at h1;omega
     case measure=>exact mz
    .have dz:(q==0)=false:=by simp[ao]
     clear ao;go_wp2;go_roundw
     case rel=>
      have am:=S.out;subst am;exact⟨k+1,x,z,vs,X,gn,by rw[bn.out];exact bu.out.trans (List.sublist_append_left _ _),bo,y,cw,dn,cM,c6,aD,X⟩
     case measure=>exact mz
   .have r:k=n:=X;have P:=ae.f_ 0;have bB:=M.hG 0;have bW:=M.f_ 0;have bu:=U bl;clear bl;go_wp2;have b5:=M.hV 0 (.slice x K z);have a:=(H [D] wr).setCell (p:=⟨D,0,none⟩) (.inl J) (.slice x K z);refine F6 (G5 rfl _ _ _ _ _ _ _ rfl b5 underlying32 rfl k_) rfl ?_;rw[aq.out];refine⟨x,z,vs,by rw[S.out];rfl,?_,by rw[<-S.out];exact iY ak,by rw[<-bi.out];exact bu.out.trans (List.take_sublist _ _),ai.ih a p_,ar.hJ a p_⟩
    have:=Sl.iR ak
    rw[S.out]at this;exact Sl.it this M O a
def rC.it{m:Md}{x:Nat}(h:rC w m)(d:Bk w x t cs)(n:189≠t/\2≠t/\3≠t/\56≠t/\38≠t/\162≠t/\116≠t/\124≠t)(e:53≠t∨m.ts=[])(c:I [x] w w'):rC w' m:=by
 obtain⟨r,s,u,i,j,f,v,p⟩:=n;refine⟨Sl.it h.l d r c,Sl.it h.k7 d s c,h.al,Sl.it h.d d u c,h.dl,h.s.it d ⟨i,j,f⟩ c,⟨?_,λt q=>(h.ts.yO t q).it d ⟨v,i,j,p,f⟩ c⟩⟩
 rcases e with e|e
 .exact Sl.it h.ts.row d e c
 .rw[e];exact Gw _ _ _ _
def Fg:Array Value:=#[n_,Y 0,Y 0,n_,n_,n_,Y 0,Y 0,n_,.bool false,.bool false,.bool false,Y 0,Y 0,Y 0,n_,Y 0]
structure MW(w0:World)(B g gr gx:Nat)(m:Md)(w:World):Prop where
 r:Bk w gr 43 Fg
 x:Bk w gx 43 m.g_
 i:rC w m
 d:iQ w B g
 g:I [g] w0 w
 hB:B<=w0.heap.size
 b1:w0.heap.size<=gr
 b2:w0.heap.size<=gx
 ne:gr≠gx
section
variable{w0 a b:World}{B g gr gx:Nat}{m m':Md}
def MW.hF(h:MW w0 B g gr gx m a)(k:I [] a b):MW w0 B g gr gx m b:=
 ⟨h.r.hF k,h.x.hF k,h.i.hF k,h.d.hF k,h.g.trans (k.of_nil [g]),h.hB,h.b1,h.b2,h.ne⟩
def MW.ih(h:MW w0 B g gr gx m a):g≠gr/\g≠gx:=by
 have d:=h.d.xw;have e:=h.hB;have f:=h.b1;have c:=h.b2;omega
def MW.dice(h:MW w0 B g gr gx m a)(k:I [g] a b)(c:iQ b B g):MW w0 B g gr gx m b:=by
 obtain⟨cs,d⟩:=h.d.bk;obtain⟨e,f⟩:=h.ih;exact⟨h.r.gr k (zu e.symm),h.x.gr k (zu f.symm),h.i.it d O (.inl O) k,c,h.g.trans k,h.hB,h.b1,h.b2,h.ne⟩
def MW.one(h:MW w0 B g gr gx m a){x:Nat}(e:Bk a x t cs)(i:189≠t/\2≠t/\3≠t/\56≠t/\38≠t/\162≠t/\116≠t/\124≠t)(j:53≠t∨m.ts=[])(c:t≠43)(f:w0.heap.size<=x)(k:I [x] a b):MW w0 B g gr gx m b:=
 ⟨h.r.gr k (zu (h.r.l8 e c.symm)),h.x.gr k (zu (h.x.l8 e c.symm)),h.i.it e i j k,h.d.ih k (λn d=>by rw[I_]at d;rw[d];exact G_ h.hB f),
   h.g.hJ k (λn d=>.inr (by rw[I_]at d;rw[d];exact f)),h.hB,h.b1,h.b2,h.ne⟩
def MW.set(h:MW w0 B g gr gx m a)(k:I [gx] a b)(e:Bk b gx 43 m'.g_)(d:rC b m->rC b m'):MW w0 B g gr gx m' b:=
 ⟨h.r.gr k (zu h.ne),e,d (h.i.it h.x O (.inl O) k),h.d.ih k (λf c=>by rw[I_]at c;rw[c];exact G_ h.hB h.b2),
   h.g.hJ k (λf c=>.inr (by rw[I_]at c;rw[c];exact h.b2)),h.hB,h.b1,h.b2,h.ne⟩
def MW.fin(h:MW w0 B g gr gx m a)(k:I [gr] a b):rC b m/\iQ b B g/\I [g] w0 b:=
 ⟨h.i.it h.r O (.inl O) k,h.d.ih k (λd c=>by rw[I_]at c;rw[c];exact G_ h.hB h.b1),
   h.g.hJ k (λd c=>.inr (by rw[I_]at c;rw[c];exact h.b1))⟩
end
structure MQ(w0:World)(gq:Nat)(sA:OA)(fl:List Fo)(sc:Nat)(w:World):Prop where
 q:Bk w gq 96 #[.slice sA fl.length sc]
 f:Fs w sA fl
 b:w0.heap.size<=gq
section
variable{w0 a b:World}{gq:Nat}{sA:OA}{fl:List Fo}{sc:Nat}
def MQ.hF(h:MQ w0 gq sA fl sc a)(k:I [] a b):MQ w0 gq sA fl sc b:=⟨h.q.hF k,h.f.hF k,h.b⟩
def MQ.one(h:MQ w0 gq sA fl sc a){x:Nat}(c:Bk a x t cs)(d:168≠t)(e:96≠t)(k:I [x] a b):MQ w0 gq sA fl sc b:=
 ⟨h.q.gr k (zu (h.q.l8 c e)),Sl.it h.f c d k,h.b⟩
end
structure Df(k:Nat)(fl:List Fo):Prop where
 len:fl.length<=k
 n:∀f∈fl,1<=f.n/\f.n<=3
 dst:∀f∈fl, -1<=f.dst/\f.dst<=3000
def Df.mono{c:Nat}{fl:List Fo}(h:Df k fl)(d:k<=c):Df c fl:=⟨G_ h.len d,h.n,h.dst⟩
def Df.DY{fl:List Fo}(h:Df k fl)(e dst:Int)(h0: -1<=dst)(p:dst<=3000):Df (k+1) (lk fl e dst):=by
 have u:∀c∈([⟨e,dst,1⟩]:List Fo),(1<=c.n/\c.n<=3)/\ -1<=c.dst/\c.dst<=3000:=λc d=>by rw[I_.1 d];exact⟨⟨Gg 1,(by decide:(1:Int)<=3)⟩,h0,p⟩
 unfold lk;split
 .rename_i i
  have j:lw fl e<fl.length:=by unfold pd at i;simp at i;exact i.1
  have s:fl.getD (lw fl e) default=fl[lw fl e]:=by simp[List.getD,K_ j]
  have f:=O_ j;have v:=h.n _ f;have q:=h.dst _ f;rw[s]
  have r:(1<=(lK fl[lw fl e] dst).n/\(lK fl[lw fl e] dst).n<=3)/\ -1<=(lK fl[lw fl e] dst).dst/\(lK fl[lw fl e] dst).dst<=3000:=by
   generalize fl[lw fl e]=c at*;unfold lK;split
   .refine⟨?_,q⟩
    show 1<=(if 3<c.n+1 then 3 else c.n+1)/\(if 3<c.n+1 then 3 else c.n+1)<=3
    split<;>omega
   .split
    .exact⟨⟨Gg 1,(by decide:(1:Int)<=3)⟩,h0,p⟩
    .exact⟨by show 1<=c.n-1/\c.n-1<=3;omega,q⟩
  refine⟨by rw[F1];exact Nat.le_succ_of_le h.len,λc d=>?_,λc d=>?_⟩
  .rcases F3 d with d|d
   .exact h.n c d
   .rw[d];exact r.1
  .rcases F3 d with d|d
   .exact h.dst c d
   .rw[d];exact r.2
 .have f:∀c∈fl.take (lw fl e)++([⟨e,dst,1⟩]++fl.drop (lw fl e)),(1<=c.n/\c.n<=3)/\ -1<=c.dst/\c.dst<=3000:=by
   intro c d
   rcases X_.1 d with d|d
   .have:=Gp d
    exact⟨h.n c this,h.dst c this⟩
   .rcases X_.1 d with d|d
    .exact u c d
    .have:=Hz d
     exact⟨h.n c this,h.dst c this⟩
  refine⟨?_,λc d=>(f c d).1,λc d=>(f c d).2⟩
  have:=h.len
  simp only[J_,Gj,G7,HL];omega
def wY{d:List Int}(e:ic l hH hC=true)(h:d.Sublist (kI l hH hC)):(∀x∈d,0<=x/\x<=hC)/\d.Pairwise (· < ·):=by
 have n:=ks e
 have i:kI l hH hC=(List.range (hC.toNat+1)).map Int.ofNat:=by unfold kI;rw[U_ e]
 rw[i]at h;refine⟨λx j=>?_,?_⟩
 .obtain⟨k,c,f⟩:=FQ.1 (h.subset j);have c:=Gn.1 c;rw[<-f]
  show 0<=(k:Int)/\(k:Int)<=hC
  omega
 .refine List.Pairwise.sublist h ?_;rw[List.pairwise_map]
  exact List.pairwise_lt_range.imp λ{a b} hab=>by show(a:Int)<(b:Int);omega
def tC{d:List Int}(f:ic l hH hC=true)(h:d.Sublist (kI l hH hC)):qT l hH hC d=true:=by
 obtain⟨n,p⟩:=wY f h;unfold qT;rw[f,Bool.and_true]
 have:i0 (bad d hC) (List.range d.length)=false:=by
  unfold i0;rw[List.any_eq_false];intro k c;have c:=Gn.1 c
  have j:d.getD k 0=d[k]:=by simp[List.getD,K_ c]
  have s:=n _ (O_ c);unfold bad;rw[j]
  by_cases q:0<k
  .have e:k-1<d.length:=X
   have i:d.getD (k-1) 0=d[k-1]:=by simp[List.getD,K_ e]
   have r:=List.pairwise_iff_getElem.1 p (k-1) k e c X;rw[i];simp;omega
  .simp;omega
 rw[this]
 rfl
def uF{d:List Int}(c:ic l hH hC=true)(h:d.Sublist (kI l hH hC)):d.length<=2049:=by
 have i:=ks c;have e:=h.length_le
 have f:kI l hH hC=(List.range (hC.toNat+1)).map Int.ofNat:=by unfold kI;rw[U_ c]
 rw[f,Ge,Hw]at e;omega
def Md.code(m:Md):∀c,c<3->m.g_[0+c]?=(#[.slice m.A m.l.length m.c,Y m.hH,Y m.hC]:Array Value)[c]?:=λc d=>by
 match c,d with
 |0,_=>rfl
 |1,_=>rfl
 |2,_=>rfl
def Md.world(m:Md):∀c,c<1->m.g_[3+c]?=(#[.slice m.aA m.k7.length m.ac]:Array Value)[c]?:=λc d=>by
 match c,d with
 |0,_=>rfl
def Md.div(m:Md):∀c,c<1->m.g_[4+c]?=(#[.slice m.dA m.d.length m.dc]:Array Value)[c]?:=λc d=>by
 match c,d with
 |0,_=>rfl
def Md.heap(m:Md):∀c,c<1->m.g_[5+c]?=(#[.slice m.s.h.A m.s.h.l.length m.s.h.c]:Array Value)[c]?:=λc d=>by
 match c,d with
 |0,_=>rfl
def Md.com(m:Md):∀c,c<10->m.g_[5+c]?=m.s.g_[c]?:=λc d=>by
 match c,d with
 |0,_=>rfl
 |1,_=>rfl
 |2,_=>rfl
 |3,_=>rfl
 |4,_=>rfl
 |5,_=>rfl
 |6,_=>rfl
 |7,_=>rfl
 |8,_=>rfl
 |9,_=>rfl
def Md.one(m:Md):m.g_.all (·.oneCell')=true:=by unfold Md.g_;simp[Value.oneCell']
def wt{a:Value}{x y c:Value}(hc:cs=#[x,y,c]):(Instr.build 43 #[(0,.agg cs),(1,.agg #[a])]).run prog w=.ok (.agg #[x,y,c,a,n_,n_,Y 0,Y 0,n_,.bool false,.bool false,.bool false,Y 0,Y 0,Y 0,n_,Y 0]) w:=by
 subst hc
 kernel_rfl
def lh.app{t:Tk}(h:lh w t)(k:App base 53 w w'):lh w' t:=
 ⟨k.sl h.gs O,k.sl h.rs O,k.sl h.ws O,k.sl h.nw O,k.Dz O h.nr,k.sl h.ds O,k.sl h.h8 O,h.yi,h.k5,h.vp,h.td,h.r8,h.pN⟩
def l6.app{s:Cm}(h:l6 w s)(k:App base 53 w w'):l6 w' s:=
 ⟨⟨k.sl h.h.os O,k.Dz O h.h.k5,h.h.l3⟩,k.sl h.h8 O,h.pN⟩
def Dx(h:o+vs.length<=cs.size)(c:Nat)(d:c<vs.length):(uU cs o vs)[o+c]?=vs[c]?:=by
 unfold uU;simp only[Ic];rw[GT p_,GH p_];congr 1;simp;omega
def Cc(h:o+vs.length<=cs.size)(i:Nat)(c:i<o∨o+vs.length<=i):(uU cs o vs)[i]?=cs[i]?:=by
 unfold uU;simp only[Ic]
 rcases c with c|c
 .rw[GH p_,Gv,U_ c];simp
 .rw[GT p_,GT p_,HE];simp only[Gj,HT];rw[show o+vs.length+(i-min o cs.size-vs.length)=i by omega];simp
structure pf(w:World)(gb:Nat)(cur:Array Value)(ts:List Tk):Prop where
 bk:Bk w gb 53 cur
 row:∀(i:Nat) (u:Value),(ts.flatMap λt=>t.g_.toList)[i]?=some u->cur[i]?=some u
def pf.sl(h:pf w gb cur ts):Ts w (j_ gb) ts:=
 ⟨ko _ 48 sT ts,λ_=>⟨gb,0,cur,_,rfl,h.bk,λd e c=>by rw[W_];exact h.row d e c⟩⟩
def pf.size(h:pf w gb cur ts):ts.length*48<=cur.size:=by
 rcases FW cur.size (ts.length*48)with c|c
 .have iN:(ts.flatMap λt=>t.g_.toList).length=ts.length*48:=ko _ 48 sT ts
  have:=h.row _ _ (K_ (by omega:cur.size<(ts.flatMap λt=>t.g_.toList).length))
  simp at this
 .exact c
def pf.f_(h:pf w gb cur ts)(j:k<ts.length)(c:Nat)(d:c<48):w.cell? (Z gb (k*48+c))=(ts[k]).g_[c]?:=by
 have i:=jh (λt:Tk=>t.g_.toList) 48 sT ts k c j d
 have e:c<(ts[k]).g_.size:=by rw[Tk.size];exact d
 have f:(ts[k]).g_.toList[c]?=some (ts[k]).g_[c]:=by simp[e]
 rw[FR e,h.bk.f_];exact h.row _ _ (i.trans f)
def pf.at(h:pf w gb cur ts)(e:k<ts.length):∀c,c<(ts[k]).g_.size->cur[k*48+c]?=(ts[k]).g_[c]?:=by
 intro c d;rw[Tk.size]at d;rw[<-h.f_ e c d,h.bk.f_]
def pf.set(h:pf w gb cur ts)(j:k<ts.length)(t:Tk)(f:Bk w' gb 53 (uU cur (k*48) t.g_.toList)):pf w' gb (uU cur (k*48) t.g_.toList) (ts.set k t):=by
 have r:=h.size;have n:t.g_.toList.length=48:=rfl
 have e:k*48+t.g_.toList.length<=cur.size:=by rw[n];omega
 refine⟨f,qF (λt:Tk=>t.g_.toList) 48 sT O ts k j t cur h.row (λd s c=>?_) (λp q=>?_)⟩
 .have i:d<t.g_.toList.length:=by
   rcases FW d t.g_.toList.length with h|h
   .exact h
   .rw[F2 h]at c
    cases c
  rw[Dx e d i];exact c
 .rw[Cc e p X]
def pf.iR{c:Nat}(h:w.ownsRow base 53 48 (.slice A ts.length c) ts.length (ts.flatMap λt=>t.g_.toList))(h0:0<ts.length):∃gb cur,A=some (Z gb 0)/\base<=gb/\pf w gb cur ts:=by
 obtain⟨g,cur,e,f,i,d⟩:=kE h h0;exact⟨g,cur,e,f,i,d⟩
def Md.BF(m:Md)(ts:List Tk)(h:ts.length=m.ts.length):{m with ts:=ts}.g_=m.g_:=by
 unfold Md.g_;rw[h]
def MW.row{w0 a b:World}{B g gr gx:Nat}{m:Md}(h:MW w0 B g gr gx m a)(c:Bk a gb 53 cs)(k:I [gb] a b)(f:w0.heap.size<=gb)(i:ts.length=m.ts.length)(j:Ts b m.tA ts)(n:∀t∈ts,lh a t):MW w0 B g gr gx {m with ts:=ts} b:=by
 have d:=h.i
 refine⟨h.r.gr k (zu (h.r.l8 c O)),by rw[Md.BF m ts i];exact h.x.gr k (zu (h.x.l8 c O)),?_,h.d.ih k (λp e=>by rw[I_]at e;rw[e];exact G_ h.hB f),
  h.g.hJ k (λp e=>.inr (by rw[I_]at e;rw[e];exact f)),h.hB,h.b1,h.b2,h.ne⟩
 exact⟨Sl.it d.l c O k,Sl.it d.k7 c O k,d.al,Sl.it d.d c O k,d.dl,d.s.it c O k,j,λt h=>(n t h).it c O k⟩
def Du(t:Tk):∀u∈t.g_.toList,u.oneCell'=true:=λu d=>by
 have c:=Tk.one t;rw[HI]at c;exact c u (zu d)
def MW.append{w0 a b:World}{B g gr gx:Nat}{m:Md}(h:MW w0 B g gr gx m a)(k:App w0.heap.size 53 a b){c n:Nat}(j:ts.length=n)(p:Ts b A ts)(r:∀t∈ts,lh a t):
 MW w0 B g gr gx {m with tA:=A,tc:=c,ts:=ts} (b.setCell (Z gx 15) (.slice A n c)):=by
 subst j;have e:=k.bk h.x O;have d:I [gx] b (b.setCell (Z gx 15) (.slice A ts.length c)):=(H [gx] b).setCell (.inl J) _;have f:=h.i;refine⟨(k.bk h.r O).gr d (zu h.ne),e.hV 15 _,?_,(h.d.app k h.hB).ih d (λs i=>by rw[I_]at i;rw[i];exact G_ h.hB h.b2),?_,h.hB,h.b1,h.b2,h.ne⟩
 .exact⟨Sl.it (k.sl f.l O) e O d,Sl.it (k.sl f.k7 O) e O d,f.al,Sl.it (k.sl f.d O) e O d,f.dl,(f.s.app k).it e O d,Sl.it p e O d,λt h=>((r t h).app k).it e O d⟩
 .exact(k.gr [g] w0 (H_ _) h.g).hJ d (λs i=>.inr (by rw[I_]at i;rw[i];exact h.b2))
