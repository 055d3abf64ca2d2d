import Derived.Test.YtenbhdilndfaeaaGreatH30
import Derived.Great.Walk
set_option maxRecDepth 100000
set_option maxHeartbeats 0
set_option linter.all false
namespace Go.Proofs.YtenbhdilndfaeaaGreat
open Go.RowKit Go.Proofs.Tryz
section
variable{l:QR}{hC hH:Int}{A:OA}{w w':World}{t:TypeId}{cs cur:Array Value}{base gb k o:Nat}{vs:QX}{ts:QE}
def CH(B g:Nat)(P:QS)(w:World)(e:Ending)(w':World):Prop:=∃(A:OA) (d:Nat) (Q:QS),e=.returned (.agg #[.slice A Q.length d])/\Ns w' 3 A Q/\Q.length<=d/\Q.Sublist P/\iV w' B g/\J [g] w w'
def yF(l:QR)(hH hC:Int):(kT l hH hC).length<=2049:=by
 unfold kT;split;rename_i c;have:=kq c;simp;omega;simp
def v6(B g:Nat)(A:OA)(c:Nat)(l:QR)(hH hC:Int)(h:Is w A l)(hn:l.length<=1000000000)(u:iV w B g)(hB:B<=w.heap.size):
 Calls prog 46 #[.pointer<|some ⟨g,0,none⟩,.agg #[.slice A l.length c,Y hH,Y hC]] w (CH B g (kT l hH hC) w):=by
 obtain⟨bM,bK,bC,be,bu⟩:=info_parts infoInt;have aV:=u.yw;have bU:=yF l hH hC;obtain⟨M,d,v⟩:=qU w 26 #[.slice A l.length c,Y hH,Y hC] 32 #[n_];obtain⟨al,a⟩:=nm_<|CH B g (kT l hH hC) w;rw[<-a];have ax:=O a;clear a;go_enter func46,ntmps46;go_upto_region 1 with fail;obtain⟨an,aJ⟩:=nm_<|(w.alloc<|.cells #[.slice A l.length c,Y hH,Y hC] 26).alloc<|.cells #[n_] 32;rw[<-aJ]at M d v |-;clear aJ;obtain⟨aE,h3⟩:=nm_ w.heap.size;obtain⟨E,ar⟩:=nm_<|w.heap.size+1;rw[<-h3]at M;rw[<-ar]at d;rw[<-h3];have aL:aE+1=E:=X;rw[aL];have a2:w.heap.size<=aE:=X;clear h3 ar;have z0:=M.f_ 0;have aM:=M.f_ 1;have aU:=M.f_ 2;have aA:=Is.hF h v;replace u:=u.hF v;have dR:=d.lt
 go_upto_region 2 with(go_at_call 90;refine(Ay A c l hH hC an aA hn).mono ?_;rintro bd w2⟨C,bf,rfl,j,ay,U⟩);obtain⟨i,r⟩:=FO w2 32 #[.slice C (kT l hH hC).length bf];obtain⟨aI,au⟩:=nm_ w2.heap.size;have aX:E<aI:=ov U.size;replace d:=(d.hF U).hF r;replace u:=(u.hF U).hF r;replace j:=j.hF r;replace v:=(v.trans U).trans r;obtain⟨e,aw⟩:=nm_<|kT l hH hC;rw[<-aw]at j ay i d u v bU |-;have bg:=O aw;obtain⟨ae,bh⟩:=nm_<|w2.alloc<|.cells #[.slice C e.length bf] 32;rw[<-bh]at j i d u v |-;rw[<-au]at i |-;clear bh au r aw z0 aM aU aA M U;obtain⟨n,hn0⟩:=nm_ e.length;have aZ:=O hn0;rw[<-hn0]at ay i bU |-;clear hn0
 go_wp2_with fail;go_at_call 19;refine(iD B g 3 u X X).mono ?_;rintro bd bj⟨bk,rfl,bF,bB,P,V⟩;replace d:=d.gr V p_;replace i:=i.gr V p_;obtain⟨dB,R⟩:=u.bk;replace j:=Sl.iy j R I V;have N:=(v.mono s_).trans V;have eI:=i.lt;clear u R v V;by_cases hr:bk=0
 .have eA:(bk==0)=true:=by simp[hr]
  clear hr;have L:=i.f_ 0;have bE:=d.hG 0;have bQ:=d.f_ 0;go_wp2;have bG:=d.hW 0<|.slice C n bf;have f:=(G_ [E] bj).setCell (p:=⟨E,0,none⟩) (.inl s_)<|.slice C n bf;refine Ha (Ia rfl _ _ _ _ _ _ _ rfl bG underlying32 rfl k_) rfl ?_;rw[ax.out];refine⟨C,bf,e,by rw[aZ.out];rfl,?_,by rw[<-aZ.out];exact ay,by rw[bg.out];exact List.Sublist.refl _,P.ir f p_,N.hJ f p_⟩;exact Sl.iy j d I f
 have eA:(bk==0)=false:=by simp[hr]
 clear hr;have L:=i.f_ 0;go_upto_region 5 with fail;obtain⟨x,r⟩:=FO bj 32 #[n_];obtain⟨T,a8⟩:=nm_ bj.heap.size;have aK:aI<T:=X;replace d:=d.hF r;replace i:=i.hF r;replace P:=P.hF r;replace j:=j.hF r;replace N:=N.trans<|r.mono s_;obtain⟨NY,ck⟩:=nm_<|bj.alloc<|.cells #[n_] 32;rw[<-ck,<-a8]at x;rw[<-ck]at j i d P N |-;rw[<-a8];clear ck a8 r L;have L:=i.f_ 0
 go_upto_region 6 with fail;clear L;obtain⟨D,cg⟩:=nm_ NY.heap.size;have aY:T<D:=by rw[cg];exact x.lt
 have aW:w.heap.size<=D:=X;have aO:D<=NY.heap.size:=X;have aN:∀Q off,C=some ⟨Q,off,none⟩->0<e.length->Q<D:=λQ off hA hn=>by
  have h1:=j;rw[hA]at h1;rw[cg];exact h1.lt hn
 clear cg;go_loopw [18] (λap w'=>∃(k:Nat) (y:OA) (z:Nat) (vs:QS),k<=n/\ap=Y k/\vs.Sublist (e.take k)/\Bk w' E 32 #[n_]/\Bk w' T 32 #[.slice y vs.length z]/\w'.ownsRow D 3 1 (.slice y vs.length z) vs.length (vs.map<|Value.int .i64)/\Ns w' 3 C e/\iV w' B g/\J [g] w w'/\D<=w'.heap.size/\vs.length<=k) (λap _=>n-(intOf ap).toNat)
 case atStart=>exact⟨0,none,0,[],R_ _,gn,s_,d,x,i4 _ _ _ _,j,P,N,aO,I_ _⟩
 obtain⟨k,y,z,vs,hk,rfl,N0,K,bl,Z,av,ad,aq,bm,b9⟩:=hrel;obtain⟨H,hj⟩:=nm_ vs.length;have S:=O hj;rw[<-hj]at bl Z b9;clear hj d x j P N;by_cases ag:k<n
 .obtain⟨b,off,hA,hc⟩:=av.at_ (k:=k)<|ov aZ.out;subst hA;have aS:k<e.length:=ov aZ.out;have af:=hc;go_wp2_with fail;go_at_call 19;refine(iD B g 2 ad X X).mono ?_;rintro bd F⟨q,rfl,hq0,hq1,bS,G⟩;obtain⟨dB,R⟩:=ad.bk;have bn:=K.gr G p_;have x:=bl.gr G p_;have ce:=kX Z R I G;have de:Ns F 3 (some ⟨b,off,none⟩) e:=Sl.iy av R I G;have c6:=aq.trans G;have aC:=H_ bm G.size;have aT:e.take (k+1)=e.take k++[e[k]]:=by rw[Y_ aS]
  have bi:=O aT;have ao:=O N0;clear aT N0 af hc K bl Z av ad aq bm R G;by_cases aj:q=0
  .have dr:(q==0)=true:=by simp[aj]
   clear aj;obtain⟨t,az⟩:=nm_<|e[k];rw[<-az]at bi |-;clear az;have L:=x.f_ 0;have aQ:=x.alloc<|.cells #[Y t] 3;have bo:=iO ce<|(G_ [] F).alloc<|.cells #[Y t] 3;have br:Sl (F.alloc<|.cells #[Y t] 3) 3 1 (some ⟨F.heap.size,0,none⟩) 1 [Y t]:=jv (n:=1) (s:=1) (T_ F 3 #[Y t]) rfl
   go_wp2_with (at_builtin;refine kf rfl rfl D 3 bM 1 8 underlying30 bK bC be bu rfl I I y H z (vs.map<|Value.int .i64) rfl bo _ 1 1 [Y t] rfl br (by intro bv hu;simp at hu;subst hu;rfl) X p_ ?_;intro bw bX aH b8 bp bJ;have bx:=App.i6 bo bp;have W:=bx.bk aQ I;have bq:=W.f_ 0;have bz:=W.hG 0);go_roundw
   case rel=>
    have f:=(G_ [T] aH).setCell (p:=⟨T,0,none⟩) (.inl s_)<|.slice bw (H+1) bX;have ah:=S.out;have m:=bx.bk (bn.alloc<|.cells #[Y t] 3) I;refine⟨k+1,bw,bX,vs++[t],X,gn,by rw[bi.out];exact ao.out.append<|List.Sublist.refl _,m.gr f p_,?_,?_,?_,?_,?_,?_,p_⟩;have:=W.hW 0<|.slice bw (H+1) bX;have hl:(vs++[t]).length=H+1:=by rw[M_,<-ah];rfl
    rw[hl];exact this;have:=kX b8 W I f;have hl:(vs++[t]).length=H+1:=by rw[M_,<-ah];rfl
    rw[hl,GN];exact this;have aP:Sl (F.alloc<|.cells #[Y t] 3) 3 1 (some ⟨b,off,none⟩) e.length (e.map<|Value.int .i64):=Sl.alloc de _;refine Sl.iy (aP.sH λhn Q o hA hx=>bp.block Q hx λhe=>?_) W I f;have h1:=(kK bo<|he.symm).1;have h2:=aN Q o hA hn;omega;exact((bS.hF<|(G_ [] F).alloc _).app bx X).ir f p_;exact(bx.gr [g] w aW<|c6.alloc _).setCell (.inr p_) _;have h1:=bx.size;have h2:=f.size;simp at h1;omega
   case measure=>exact mz
  have dr:(q==0)=false:=by simp[aj]
  clear aj;go_wp2;go_roundw
  case rel=>
   have ah:=S.out;subst ah;exact⟨k+1,y,z,vs,X,gn,by rw[bi.out];exact ao.out.trans<|List.sublist_append_left _ _,bn,x,ce,de,bS,c6,aC,X⟩
  case measure=>exact mz
 have F:k=n:=X;have L:=bl.f_ 0;have bE:=K.hG 0;have bQ:=K.f_ 0;have ao:=O N0;clear N0;go_wp2;have bG:=K.hW 0<|.slice y H z;have f:=(G_ [E] wr).setCell (p:=⟨E,0,none⟩) (.inl s_)<|.slice y H z;refine Ha (Ia rfl _ _ _ _ _ _ _ rfl bG underlying32 rfl k_) rfl ?_;rw[ax.out];refine⟨y,z,vs,by rw[S.out];rfl,?_,by rw[<-S.out];exact jq Z,by rw[<-bg.out];exact ao.out.trans<|List.take_sublist _ _,ad.ir f p_,aq.hJ f p_⟩;have:=Sl.iZ Z;rw[S.out]at this;exact Sl.iy this K I f
def sh.iy{m:Md}{x:Nat}(h:sh w m)(d:Bk w x t cs)(n:189≠t/\2≠t/\3≠t/\56≠t/\38≠t/\162≠t/\116≠t/\124≠t)(e:53≠t\/m.ts=[])(c:J [x] w w'):sh w' m:=by
 obtain⟨r,s,u,i,j,f,v,p⟩:=n;refine⟨Sl.iy h.l d r c,Sl.iy h.k8 d s c,h.al,Sl.iy h.d d u c,h.dl,h.s.iy d ⟨i,j,f⟩ c,⟨?_,λt q=>(h.ts.y0 t q).iy d ⟨v,i,j,p,f⟩ c⟩⟩;rcases e with e|e
 exact Sl.iy h.ts.row d e c;rw[e];exact HB _ _ _ _
def Gc:Array Value:=#[n_,Y 0,Y 0,n_,n_,n_,Y 0,Y 0,n_,.bool false,.bool false,.bool false,Y 0,Y 0,Y 0,n_,Y 0]
structure MW(w0:World)(B g gr gx:Nat)(m:Md)(w:World):Prop where
 r:Bk w gr 43 Gc
 x:Bk w gx 43 m.g_
 i:sh w m
 d:iV w B g
 g:J [g] w0 w
 hB:B<=w0.heap.size
 b1:w0.heap.size<=gr
 b2:w0.heap.size<=gx
 ne:gr≠gx
section
variable{w0 a b:World}{B g gr gx:Nat}{m m':Md}
def MW.hF(h:MW w0 B g gr gx m a)(k:J [] a b):MW w0 B g gr gx m b:=
 ⟨h.r.hF k,h.x.hF k,h.i.hF k,h.d.hF k,h.g.trans<|k.of_nil [g],h.hB,h.b1,h.b2,h.ne⟩
def MW.ir(h:MW w0 B g gr gx m a):g≠gr/\g≠gx:=by
 have d:=h.d.yw;have e:=h.hB;have f:=h.b1;have c:=h.b2;omega
def MW.dice(h:MW w0 B g gr gx m a)(k:J [g] a b)(c:iV b B g):MW w0 B g gr gx m b:=by
 obtain⟨cs,d⟩:=h.d.bk;obtain⟨e,f⟩:=h.ir;exact⟨h.r.gr k<|zu e.symm,h.x.gr k<|zu f.symm,h.i.iy d I (.inl I) k,c,h.g.trans k,h.hB,h.b1,h.b2,h.ne⟩
def MW.one(h:MW w0 B g gr gx m a){x:Nat}(e:Bk a x t cs)(i:189≠t/\2≠t/\3≠t/\56≠t/\38≠t/\162≠t/\116≠t/\124≠t)(j:53≠t\/m.ts=[])(c:t≠43)(f:w0.heap.size<=x)(k:J [x] a b):MW w0 B g gr gx m b:=
 ⟨h.r.gr k<|zu<|h.r.mm e c.symm,h.x.gr k<|zu<|h.x.mm e c.symm,h.i.iy e i j k,h.d.ir k (λn d=>by rw[J_]at d;rw[d];exact H_ h.hB f),
   h.g.hJ k (λn d=>.inr<|by rw[J_]at d;rw[d];exact f),h.hB,h.b1,h.b2,h.ne⟩
def MW.set(h:MW w0 B g gr gx m a)(k:J [gx] a b)(e:Bk b gx 43 m'.g_)(d:sh b m->sh b m'):MW w0 B g gr gx m' b:=
 ⟨h.r.gr k<|zu h.ne,e,d<|h.i.iy h.x I (.inl I) k,h.d.ir k (λf c=>by rw[J_]at c;rw[c];exact H_ h.hB h.b2),
   h.g.hJ k (λf c=>.inr<|by rw[J_]at c;rw[c];exact h.b2),h.hB,h.b1,h.b2,h.ne⟩
def MW.fin(h:MW w0 B g gr gx m a)(k:J [gr] a b):sh b m/\iV b B g/\J [g] w0 b:=
 ⟨h.i.iy h.r I (.inl I) k,h.d.ir k (λd c=>by rw[J_]at c;rw[c];exact H_ h.hB h.b1),
   h.g.hJ k λd c=>.inr<|by rw[J_]at c;rw[c];exact h.b1⟩
end
structure MQ(w0:World)(gq:Nat)(sA:OA)(fl:QD)(sc:Nat)(w:World):Prop where
 q:Bk w gq 96 #[.slice sA fl.length sc]
 f:Fs w sA fl
 b:w0.heap.size<=gq
section
variable{w0 a b:World}{gq:Nat}{sA:OA}{fl:QD}{sc:Nat}
def MQ.hF(h:MQ w0 gq sA fl sc a)(k:J [] a b):MQ w0 gq sA fl sc b:=⟨h.q.hF k,h.f.hF k,h.b⟩
def MQ.one(h:MQ w0 gq sA fl sc a){x:Nat}(c:Bk a x t cs)(d:168≠t)(e:96≠t)(k:J [x] a b):MQ w0 gq sA fl sc b:=
 ⟨h.q.gr k<|zu<|h.q.mm c e,Sl.iy h.f c d k,h.b⟩
end
structure D3(k:Nat)(fl:QD):Prop where
 len:fl.length<=k
 n:∀f∈fl,1<=f.n/\f.n<=3
 dst:∀f∈fl, -1<=f.dst/\f.dst<=3000
def D3.mono{c:Nat}{fl:QD}(h:D3 k fl)(d:k<=c):D3 c fl:=⟨H_ h.len d,h.n,h.dst⟩
def D3.EX{fl:QD}(h:D3 k fl)(e dst:Int)(h0: -1<=dst)(p:dst<=3000):D3 (k+1) (lA fl e dst):=by
 have u:∀c∈([⟨e,dst,1⟩]:QD),(1<=c.n/\c.n<=3)/\ -1<=c.dst/\c.dst<=3000:=λc d=>by rw[J_.1 d];exact⟨⟨Hl 1,(by decide:(1:Int)<=3)⟩,h0,p⟩
 unfold lA;split;rename_i i;have j:lG fl e<fl.length:=by unfold pz at i;simp at i;exact i.1
 have s:fl.getD (lG fl e) default=fl[lG fl e]:=by simp[List.getD,O_ j]
 have f:=P_ j;have v:=h.n _ f;have q:=h.dst _ f;rw[s];have r:(1<=(lT fl[lG fl e] dst).n/\(lT fl[lG fl e] dst).n<=3)/\ -1<=(lT fl[lG fl e] dst).dst/\(lT fl[lG fl e] dst).dst<=3000:=by
  generalize fl[lG fl e]=c at*;unfold lT;split;refine⟨?_,q⟩;show 1<=(if 3<c.n+1 then 3 else c.n+1)/\(if 3<c.n+1 then 3 else c.n+1)<=3;split<;>omega;split
  .exact⟨⟨Hl 1,(by decide:(1:Int)<=3)⟩,h0,p⟩
  exact⟨by show 1<=c.n-1/\c.n-1<=3;omega,q⟩
 refine⟨by rw[G3];exact Nat.le_succ_of_le h.len,λc d=>?_,λc d=>?_⟩;rcases GX d with d|d
 .exact h.n c d
 rw[d];exact r.1;rcases GX d with d|d
 .exact h.dst c d
 rw[d];exact r.2;have f:∀c∈fl.take (lG fl e)++([⟨e,dst,1⟩]++fl.drop (lG fl e)),(1<=c.n/\c.n<=3)/\ -1<=c.dst/\c.dst<=3000:=by
  intro c d;rcases X_.1 d with d|d
  have:=Hk d;exact⟨h.n c this,h.dst c this⟩;rcases X_.1 d with d|d
  .exact u c d
  have:=If d;exact⟨h.n c this,h.dst c this⟩
 refine⟨?_,λc d=>(f c d).1,λc d=>(f c d).2⟩;have:=h.len;simp only[M_,Hj,Ib,IM];omega
def x6{d:QS}(e:ih l hH hC=true)(h:d.Sublist<|kT l hH hC):(∀x∈d,0<=x/\x<=hC)/\d.Pairwise (· < ·):=by
 have n:=kq e;have i:kT l hH hC=(List.range<|hC.toNat+1).map Int.ofNat:=by unfold kT;rw[L_ e]
 rw[i]at h;refine⟨λx j=>?_,?_⟩;obtain⟨k,c,f⟩:=GJ.1<|h.subset j;have c:=Ho.1 c;rw[<-f];show 0<=(k:Int)/\(k:Int)<=hC;omega;refine List.Pairwise.sublist h ?_;rw[List.pairwise_map];exact List.pairwise_lt_range.imp λ{a b} hab=>by show(a:Int)<(b:Int);omega
def qR{d:QS}(f:ih l hH hC=true)(h:d.Sublist<|kT l hH hC):rz l hH hC d=true:=by
 obtain⟨n,p⟩:=x6 f h;unfold rz;rw[f,Bool.and_true];have:i7 (bad d hC) (List.range d.length)=false:=by
  unfold i7;rw[List.any_eq_false];intro k c;have c:=Ho.1 c;have j:d.getD k 0=d[k]:=by simp[List.getD,O_ c]
  have s:=n _<|P_ c;unfold bad;rw[j];by_cases q:0<k;have e:k-1<d.length:=X;have i:d.getD (k-1) 0=d[k-1]:=by simp[List.getD,O_ e]
  have r:=List.pairwise_iff_getElem.1 p (k-1) k e c X;rw[i];simp;omega;simp;omega
 rw[this];rfl
def r7{d:QS}(c:ih l hH hC=true)(h:d.Sublist<|kT l hH hC):d.length<=2049:=by
 have i:=kq c;have e:=h.length_le;have f:kT l hH hC=(List.range<|hC.toNat+1).map Int.ofNat:=by unfold kT;rw[L_ c]
 rw[f,Hf,Iv]at e;omega
def Md.code(m:Md):∀c,c<3->m.g_[0+c]?=(#[.slice m.A m.l.length m.c,Y m.hH,Y m.hC]:Array Value)[c]?:=λc d=>by
 match c,d with
 |0,_=>rfl
 |1,_=>rfl
 |2,_=>rfl
def Md.world(m:Md):∀c,c<1->m.g_[3+c]?=(#[.slice m.aA m.k8.length m.ac]:Array Value)[c]?:=λc d=>by
 match c,d with
 |0,_=>rfl
def Md.div(m:Md):∀c,c<1->m.g_[4+c]?=(#[.slice m.dA m.d.length m.dc]:Array Value)[c]?:=λc d=>by
 match c,d with
 |0,_=>rfl
def Md.heap(m:Md):∀c,c<1->m.g_[5+c]?=(#[.slice m.s.h.A m.s.h.l.length m.s.h.c]:Array Value)[c]?:=λc d=>by
 match c,d with
 |0,_=>rfl
def Md.com(m:Md):∀c,c<10->m.g_[5+c]?=m.s.g_[c]?:=λc d=>by
 match c,d with
 |0,_=>rfl
 |1,_=>rfl
 |2,_=>rfl
 |3,_=>rfl
 |4,_=>rfl
 |5,_=>rfl
 |6,_=>rfl
 |7,_=>rfl
 |8,_=>rfl
 |9,_=>rfl
def Md.one(m:Md):m.g_.all (·.oneCell')=true:=by unfold Md.g_;simp[Value.oneCell']
def xy{a:Value}{x y z:Value}(hc:cs=#[x,y,z]):(Instr.build 43 #[(0,.agg cs),(1,.agg #[a])]).run prog w=.ok (.agg #[x,y,z,a,n_,n_,Y 0,Y 0,n_,.bool false,.bool false,.bool false,Y 0,Y 0,Y 0,n_,Y 0]) w:=by
 subst hc
 kernel_rfl
def kV.app{t:Tk}(h:kV w t)(k:App base 53 w w'):kV w' t:=
 ⟨k.sl h.gs I,k.sl h.rs I,k.sl h.ws I,k.sl h.nw I,k.El I h.nr,k.sl h.ds I,k.sl h.ia I,h.zi,h.ll,h.wy,h.tX,h.sQ,h.qf⟩
def mi.app{s:Cm}(h:mi w s)(k:App base 53 w w'):mi w' s:=
 ⟨⟨k.sl h.h.os I,k.El I h.h.ll,h.h.l6⟩,k.sl h.ia I,h.qf⟩
def Ej(h:o+vs.length<=cs.size)(c:Nat)(d:c<vs.length):(vN cs o vs)[o+c]?=vs[c]?:=by
 unfold vN;simp only[I8];rw[HV p_,HN p_];congr 1;simp;omega
def CY(h:o+vs.length<=cs.size)(i:Nat)(c:i<o\/o+vs.length<=i):(vN cs o vs)[i]?=cs[i]?:=by
 unfold vN;simp only[I8];rcases c with c|c
 rw[HN p_,Hv,L_ c];simp;rw[HV p_,HV p_,IF];simp only[Hj,IU];rw[show o+vs.length+(i-min o cs.size-vs.length)=i by omega];simp
structure pA(w:World)(gb:Nat)(cur:Array Value)(ts:QE):Prop where
 bk:Bk w gb 53 cur
 row:∀(i:Nat) (u:Value),(ts.flatMap λt=>t.g_.toList)[i]?=some u->cur[i]?=some u
def pA.sl(h:pA w gb cur ts):Ts w (j_ gb) ts:=
 ⟨kA _ 48 tE ts,λ_=>⟨gb,0,cur,_,rfl,h.bk,λd e c=>by rw[U_];exact h.row d e c⟩⟩
def pA.size(h:pA w gb cur ts):ts.length*48<=cur.size:=by
 rcases GU cur.size (ts.length*48)with c|c
 have iS:(ts.flatMap λt=>t.g_.toList).length=ts.length*48:=kA _ 48 tE ts;have:=h.row _ _<|O_ (by omega:cur.size<(ts.flatMap λt=>t.g_.toList).length);simp at this;exact c
def pA.f_(h:pA w gb cur ts)(j:k<ts.length)(c:Nat)(d:c<48):w.cell? (Z gb<|k*48+c)=(ts[k]).g_[c]?:=by
 have i:=jr (λt:Tk=>t.g_.toList) 48 tE ts k c j d;have e:c<(ts[k]).g_.size:=by rw[Tk.size];exact d
 have f:(ts[k]).g_.toList[c]?=some (ts[k]).g_[c]:=by simp[e]
 rw[GQ e,h.bk.f_];exact h.row _ _<|i.trans f
def pA.at(h:pA w gb cur ts)(e:k<ts.length):∀c,c<(ts[k]).g_.size->cur[k*48+c]?=(ts[k]).g_[c]?:=by
 intro c d;rw[Tk.size]at d;rw[<-h.f_ e c d,h.bk.f_]
def pA.set(h:pA w gb cur ts)(j:k<ts.length)(t:Tk)(f:Bk w' gb 53<|vN cur (k*48) t.g_.toList):pA w' gb (vN cur (k*48) t.g_.toList) (ts.set k t):=by
 have r:=h.size;have n:t.g_.toList.length=48:=rfl;have e:k*48+t.g_.toList.length<=cur.size:=by rw[n];omega
 refine⟨f,q8 (λt:Tk=>t.g_.toList) 48 tE I ts k j t cur h.row (λd s c=>?_) λp q=>?_⟩;have i:d<t.g_.toList.length:=by
  rcases GU d t.g_.toList.length with h|h
  exact h;rw[G7 h]at c;cases c
 rw[Ej e d i];exact c;rw[CY e p X]
def pA.iZ{c:Nat}(h:w.ownsRow base 53 48 (.slice A ts.length c) ts.length<|ts.flatMap λt=>t.g_.toList)(h0:0<ts.length):∃gb cur,A=some (Z gb 0)/\base<=gb/\pA w gb cur ts:=by
 obtain⟨g,cur,e,f,i,d⟩:=kN h h0;exact⟨g,cur,e,f,i,d⟩
def Md.Co(m:Md)(ts:QE)(h:ts.length=m.ts.length):{m with ts:=ts}.g_=m.g_:=by
 unfold Md.g_;rw[h]
def MW.row{w0 a b:World}{B g gr gx:Nat}{m:Md}(h:MW w0 B g gr gx m a)(c:Bk a gb 53 cs)(k:J [gb] a b)(f:w0.heap.size<=gb)(i:ts.length=m.ts.length)(j:Ts b m.tA ts)(n:∀t∈ts,kV a t):MW w0 B g gr gx {m with ts:=ts} b:=by
 have d:=h.i;refine⟨h.r.gr k<|zu<|h.r.mm c I,by rw[Md.Co m ts i];exact h.x.gr k<|zu<|h.x.mm c I,?_,h.d.ir k (λp e=>by rw[J_]at e;rw[e];exact H_ h.hB f),
  h.g.hJ k (λp e=>.inr<|by rw[J_]at e;rw[e];exact f),h.hB,h.b1,h.b2,h.ne⟩
 exact⟨Sl.iy d.l c I k,Sl.iy d.k8 c I k,d.al,Sl.iy d.d c I k,d.dl,d.s.iy c I k,j,λt h=>(n t h).iy c I k⟩
def Eg(t:Tk):∀u∈t.g_.toList,u.oneCell'=true:=λu d=>by
 have c:=Tk.one t;rw[IH]at c;exact c u<|zu d
def MW.append{w0 a b:World}{B g gr gx:Nat}{m:Md}(h:MW w0 B g gr gx m a)(k:App w0.heap.size 53 a b){c n:Nat}(j:ts.length=n)(p:Ts b A ts)(r:∀t∈ts,kV a t):
 MW w0 B g gr gx {m with tA:=A,tc:=c,ts:=ts} (b.setCell (Z gx 15)<|.slice A n c):=by
 subst j;have e:=k.bk h.x I;have d:J [gx] b (b.setCell (Z gx 15)<|.slice A ts.length c):=(G_ [gx] b).setCell (.inl s_) _;have f:=h.i;refine⟨(k.bk h.r I).gr d<|zu h.ne,e.hW 15 _,?_,(h.d.app k h.hB).ir d (λs i=>by rw[J_]at i;rw[i];exact H_ h.hB h.b2),?_,h.hB,h.b1,h.b2,h.ne⟩;exact⟨Sl.iy (k.sl f.l I) e I d,Sl.iy (k.sl f.k8 I) e I d,f.al,Sl.iy (k.sl f.d I) e I d,f.dl,(f.s.app k).iy e I d,Sl.iy p e I d,λt h=>((r t h).app k).iy e I d⟩;exact(k.gr [g] w0 (I_ _) h.g).hJ d (λs i=>.inr<|by rw[J_]at i;rw[i];exact h.b2)
end
variable{G:Prop}{k:Nat}{m:Md}{s:Cm}
def Jj(h:G:=by
 clear H K;refine h4 19 λK H=>?_;go_simp;(go_at_call 39;((with_reducible refine(bY.out aL vc o cf aN cA cC).mono ?_));unfold lp;rintro e ws⟨t1,rfl,b6,cU,M⟩);clear C;refine hZ H (by
  have hx:=(z.hF<|aN.trans M).x;exact⟨(hx.f_ 0).trans rfl,(hx.f_ 1).trans rfl,(hx.f_ 2).trans rfl,(hx.f_ 4).trans rfl,(hx.f_ 5).trans rfl,(by rw[<-a.out];exact(hx.f_ 15).trans rfl)⟩) λC=>?_
 clear H K;refine iC 20 C ?_;refine iC 21 C ?_;refine iC 23 C ?_;refine js 22 24 rfl rfl k_ (λK H=>?_) λK H=>?_
 .go_simp;refine hZ H C λC=>?_;clear H K;refine h4 24 λK H=>?_;rw[L_ r_];refine jL 53 _ _ rfl gb (i*48) r_ t1.g_ r_ 53 _ (hR.bk.hF<|aN.trans M) ak k_ (Tk.one _) ?_;intro a2 cG V;clear C;refine hZ H (by
   have hx:=(z.hF<|aN.trans M).x.gr V<|zu<|((hR.bk.hF<|aN.trans M).mm (z.hF<|aN.trans M).x I).symm;exact⟨(hx.f_ 0).trans rfl,(hx.f_ 1).trans rfl,(hx.f_ 2).trans rfl,(hx.f_ 4).trans rfl,(hx.f_ 5).trans rfl,(by rw[<-a.out];exact(hx.f_ 15).trans rfl)⟩) λC=>?_
  exact JN
 rw[L_ r_];refine jL 53 _ _ rfl gb (i*48) r_ t1.g_ r_ 53 _ (hR.bk.hF<|aN.trans M) ak k_ (Tk.one _) ?_;intro a2 cG V;clear C;refine hZ H (by
  have hx:=(z.hF<|aN.trans M).x.gr V<|zu<|((hR.bk.hF<|aN.trans M).mm (z.hF<|aN.trans M).x I).symm;exact⟨(hx.f_ 0).trans rfl,(hx.f_ 1).trans rfl,(hx.f_ 2).trans rfl,(hx.f_ 4).trans rfl,(hx.f_ 5).trans rfl,(by rw[<-a.out];exact(hx.f_ 15).trans rfl)⟩) λC=>?_
 clear H K;refine h4 22 λK H=>?_;go_simp;refine hZ H C λC=>?_;exact JN):G:=h
def Jq(h:G:=by
 refine h4 8 λK H=>?_;go_simp;(go_at_call 49;((with_reducible refine(ot m.A m.c m.l m.hH m.hC xs[k] (m.run+k) ip _ z.i.l X X X X X).mono ?_));unfold lp;rintro e aH⟨t0,rfl,cw,U,aO⟩);replace z:=z.hF aO;replace HG:J [g] wr aH:=HG.trans<|aO.of_nil [g];replace hb:=hb.hF aO;clear C;have C:aH.cell? (Z gx 0)=some (.slice m.A m.l.length m.c)/\aH.cell? (Z gx 1)=some (Y m.hH)/\aH.cell? (Z gx 2)=some (Y m.hC)/\aH.cell? (Z gx 16)=some (Y<|m.run+k):=⟨(z.x.f_ 0).trans rfl,(z.x.f_ 1).trans rfl,(z.x.f_ 2).trans rfl,(z.x.f_ 16).trans rfl⟩;clear aO;refine hZ H C λC=>?_;clear H K;repeat refine j8 C ?_
 exact JA):G:=h
def JA(h:G:=by
 refine h4 13 λK H=>?_;rw[L_ r_];refine h9 53 rfl x r_ t0.g_ r_ 53 hb rfl k_ (Tk.one _) ?_;intro aQ bD aP;have b7:aQ.cell? (Z gx 0)=some (.slice m.A m.l.length m.c)/\aQ.cell? (Z gx 1)=some (Y m.hH)/\aQ.cell? (Z gx 2)=some (Y m.hC)/\aQ.cell? (Z gx 16)=some (Y<|m.run+k):=by
  have cv:=z.x.gr aP (by have:=hb.mm z.x I;simpa using this.symm);exact⟨(cv.f_ 0).trans rfl,(cv.f_ 1).trans rfl,(cv.f_ 2).trans rfl,(cv.f_ 16).trans rfl⟩
 clear C;have C:=b7;clear b7;refine hZ H C λC=>?_;clear H K;refine h4 14 λK H=>?_;go_simp;refine hZ H C λC=>?_;clear H K;refine hN k_ ?_ _;go_wp2;go_meet;exact⟨t0,x,ip,rfl,bD,cw.iy hb I aP,U,z.d.ir aP (λy hy=>by rw[J_]at hy;rw[hy];exact H_ z.hB<|H_ dY cZ),HG.hJ aP λy hy=>.inr<|by rw[J_]at hy;rw[hy];exact cZ⟩):G:=h
def JJ(h:G:=by
 go_wp2_with (first|(refine la z.x underlying43 ?_)|(refine k6 (({m with run:=m.run+k,tA:=tA,tc:=tc,ts:=ts}:Md).g_) z.r (Md.one _) ?_;intro a2 v V));obtain⟨aM,aU,z3⟩:=z.fin V;exact rr_ ({m with run:=m.run+k,tA:=tA,tc:=tc,ts:=ts}:Md).g_ v underlying43<|by rw[ax.out];exact⟨({m with run:=m.run+k,tA:=tA,tc:=tc,ts:=ts}:Md),rfl,aM,⟨bl.out.val,bl.out.dv,⟨dk,m.run,ey,bl.out.cm,.inr ⟨dn.out,(by show m.run+(k:Int)=m.run+(ts.length:Int);rw[a.out]),j,X,dx.out⟩⟩,by show ts.length<=tc;rw[a.out];exact d7.out⟩,aU,z3⟩):G:=h
def JN(h:G:=by
 clear H K;refine hN k_ ?_ _;have v:=hR.set (w':=a2) hi t1 cG;have db:=((z.hF<|aN.trans M).row (hR.bk.hF<|aN.trans M) V aP (ts:=ts.set i t1) s_ v.sl (λt ht=>by
  rcases GX ht with ht|rfl
  exact(z.i.ts.y0 t ht).hF<|aN.trans M;exact b6))
 have bJ:=O cU;clear z hR C cU bY dz dt cp ak b6 aN M cA cC cG V;go_wp2;go_roundw;exact⟨n-1,j+1,ts.set i t1,rfl,X,X,by rw[G3];exact a.out,db,co.out t1 bJ.out,.inr ⟨gb,_,rfl,aP,v⟩⟩;exact mz):G:=h
def KF(h:G:=by
 go_wp2_with (first|(refine la z.x underlying43 ?_)|(refine k6 (m.g_) z.r (Md.one _) ?_;intro a2 v V));obtain⟨aM,aU,z3⟩:=z.fin V;exact rr_ m.g_ v underlying43<|by rw[ax.out];exact⟨m,rfl,aM,cS.out,aU,z3⟩):G:=h
def infoTk:(prog.info? 53).map (λi=>(i.zero,i.size,i.bytes))=some (some<|.agg Tk.zero.g_,48,480):=by kernel_rfl
structure L1(k:Nat)(m:Md):Prop where
 val:ih m.l m.hH m.hC=true
 dv:m.d.Sublist<|kT m.l m.hH m.hC
 ts:m.ts=[]
 tn:m.tA=none/\m.tc=0
 cm:vH m.l m.hH m.hC m.d m.k8 k m.run m.s.p
def L1.m0(h:L1 k m):({m with run:=m.run+((0:Nat):Int),tA:=none,tc:=0,ts:=[]}:Md)=m:=by
 have a:=h.ts;obtain⟨b,c⟩:=h.tn;obtain⟨e,G,f,g,i,d,q,l,j,n,o,p,r,t,u,v⟩:=m;simp only at a b c;subst a;subst b;subst c;simp
def L1.ask(h:L1 k m)(a:m.s.jO=false)(h0:(n6 m.l m.hH m.hC m.k8 m.s.p).2=0)(b:s.p=(n6 m.l m.hH m.hC m.k8 m.s.p).1):L1 (k+1) {m with s:=s}:=
 ⟨h.val,h.dv,h.ts,h.tn,by show vH _ _ _ _ _ (k+1) m.run s.p;rw[b];exact h.cm.ask a h0⟩
def L1.commit(h:L1 k m)(a:m.s.jO=false)(h0:(n6 m.l m.hH m.hC m.k8 m.s.p).2≠0)(b:s.p=(kY true m.s.p<|nu m.l m.hH m.hC m.d m.s.p m.run).1):L1 (k+1) {m with s:=s,run:=m.run+1}:=
 ⟨h.val,h.dv,h.ts,h.tn,by show vH _ _ _ _ _ (k+1) (m.run+1) s.p;rw[b];exact h.cm.commit a h0⟩
def w9(B g:Nat)(w:World)(hd:iV w B g)(hB:B<=w.heap.size):
 Calls prog 11 #[q_ g] w (CE B g w):=by
 refine ig λal ax=>?_;obtain⟨bM,bK,bC,be,bu⟩:=info_parts infoTk;obtain⟨r,gr,L,an,a7,hR⟩:=box1 w 43 #[n_,Y 0,Y 0,n_,n_,n_,Y 0,Y 0,n_,.bool false,.bool false,.bool false,Y 0,Y 0,Y 0,n_,Y 0];go_enter func11,ntmps11;go_upto_region 2 with(first
  |(go_at_call 44;refine(Cn B g (hd.hF a7)<|H_ hB a7.size).mono ?_;unfold D1;rintro e f⟨bd,c,l,hH,hC,rfl,hl,hv,cV,bg,hg1⟩)
  |(go_at_call 45;refine(zC B g bg<|H_ hB<|H_ a7.size hg1.size).mono ?_;rintro e w2⟨aA,ac,k8,rfl,c6,em,cX,N3⟩)
  |(refine wpList_build rfl rfl #[(0,.agg #[.slice bd l.length c,Y hH,Y hC]),(1,.agg #[.slice aA k8.length ac])] k_ (xy rfl) ?_))
 obtain⟨aj,gx,cy,aJ,bf,bh⟩:=box1 w2 43 #[.slice bd l.length c,Y hH,Y hC,.slice aA k8.length ac,n_,n_,Y 0,Y 0,n_,.bool false,.bool false,.bool false,Y 0,Y 0,Y 0,n_,Y 0];rw[cy,aJ];obtain⟨m,hm⟩:=nm_ (⟨bd,c,l,hH,hC,aA,ac,k8,none,0,[],Cm.zero,none,0,[],0⟩:Md);have z:MW w B g gr gx m aj:=by
  obtain⟨dc,bP⟩:=bg.bk;have hbg:=bg.yw;have b0:=a7.size;have cg:=hg1.size;have cJ:=N3.size;have ag:=hR.lt;have n1:gr≠g:=X;have cz:=((hR.gr hg1<|zu n1).gr N3<|zu n1).hF bf;refine⟨cz,by rw[hm];exact bh,?_,cX.hF bf,((a7.of_nil [g]).trans<|hg1.trans N3).trans<|bf.of_nil [g],hB,X,X,X⟩;subst hm;exact⟨Sl.hF (Sl.iy hl bP I N3) bf,Sl.hF em bf,c6,HB _ _ _ _,I_ _,mi.zero _ _ rfl rfl,⟨HB _ _ _ _,λt ht=>by cases ht⟩⟩
 have d1:ih m.l m.hH m.hC=true:=by rw[hm];exact hv
 have eC:m.ts=[]:=by rw[hm]
 have di:m.run=0:=by rw[hm]
 have ez:m.tA=none/\m.tc=0:=by rw[hm];exact⟨rfl,rfl⟩
 clear hm bh aJ bf hl c6 em cX N3 cV bg hg1 hR an a7 hd hv L;have bR:=kq d1;go_upto_region 3 with(first
  |(refine iH rfl 26 _ rfl gx 0 r_ 43 m.g_ #[.slice m.A m.l.length m.c,Y m.hH,Y m.hC] z.x (m.code) _ underlying26 rfl k_ ?_)
  |(go_at_call 46;refine(v6 B g m.A m.c m.l m.hH m.hC z.i.l X z.d<|H_ z.hB z.g.size).mono ?_;unfold CH;rintro e bk⟨dA,dc,d,rfl,de,dD,c7,cM,NZ⟩)
  |(refine jn rfl 32 _ _ rfl gx 4 r_ (#[.slice dA d.length dc]) r_ 43 m.g_ (z.dice NZ cM).x (by first|decide|(simp[Md.g_,Cm.g_])) k_ (by simp[Value.oneCell']) ?_;intro b eK dE))
 replace z:=z.dice NZ cM;have da:MW w B g gr gx {m with dA:=dA,d:=d,dc:=dc} b:=z.set dE eK λhi=>⟨hi.l,hi.k8,hi.al,Sl.iy de z.x I dE,dD,hi.s,hi.ts⟩;clear z dE eK de dD NZ cM;obtain⟨u,bZ⟩:=nm_<|{m with dA:=dA,d:=d,dc:=dc};rw[<-bZ]at da;have dO:ih u.l u.hH u.hC=true:=by rw[bZ];exact d1
 have eD:u.ts=[]:=by rw[bZ];exact eC
 have eB:u.run=0:=by rw[bZ];exact di
 have eA:u.tA=none/\u.tc=0:=by rw[bZ];exact ez
 have er:u.d.Sublist (kT u.l u.hH u.hC):=by rw[bZ];exact c7
 clear bZ d1 eC di ez c7 bR;have bR:=kq dO;go_upto_region 4 with(first
  |(refine iH rfl 26 _ rfl gx 0 r_ 43 u.g_ #[.slice u.A u.l.length u.c,Y u.hH,Y u.hC] da.x (u.code) _ underlying26 rfl k_ ?_)
  |(go_at_call 47;refine(xz u.A u.c u.l u.hH u.hC da.i.l X).mono ?_;unfold vF;rintro e aB⟨s,rfl,hs,dF,S⟩)
  |(refine jn rfl 40 _ _ rfl gx 5 r_ (s.g_) r_ 43 u.g_ (da.hF S).x (by first|decide|(simp[Md.g_,Cm.g_])) k_ (Cm.one _) ?_;intro aH dP dm))
 replace da:=da.hF S;have R:MW w B g gr gx {u with s:=s} aH:=da.set dm dP λhi=>⟨hi.l,hi.k8,hi.al,hi.d,hi.dl,hs.iy da.x I dm,hi.ts⟩;obtain⟨dr,dZ⟩:=nm_<|{u with s:=s};rw[<-dZ]at R;have eb:L1 0 dr:=by
  rw[dZ];refine⟨dO,er,eD,eA,?_⟩;show vH _ _ _ _ _ 0 u.run s.p;rw[eB,dF,dO];exact .hT
 clear da dm dP hs dF S dZ dO eD eB eA er bR;have d8:=O eb;clear eb;obtain⟨b4,gq,eV,c8,bE,ef⟩:=box1 aH 96 #[n_];have T:=R.hF bE;have eh:MQ w gq none [] 0 b4:=⟨ef,HB _ _ _ _,ov R.g.size⟩;clear R bE ef;go_upto_region 6 with(go_at_call 19;refine(iD B g 9 T.d I I).mono ?_;rintro e D⟨n0,rfl,hn0,hn1,br,G⟩);obtain⟨dB,eo⟩:=T.d.bk;have aK:=T.dice G br;have eg:=eh.one eo I I G;clear T eh eo br G;go_loopw [5] (λap wr=>∃(n:Int) (k:Nat) (m:Md) (sA:OA) (fl:QD) (sc:Nat),ap=Y n/\0<=n/\n+k<=8/\MW w B g gr gx m wr/\MQ w gq sA fl sc wr/\L1 k m/\D3 k fl) (λap _=>(intOf ap).toNat)
 case atStart=>exact⟨n0,0,dr,none,[],0,rfl,hn0,X,aK,eg,d8.out,⟨I_ _,λbm hf=>(by cases hf),λbm hf=>(by cases hf)⟩⟩
 clear aK eg d8 hn0 hn1;obtain⟨n,k,m,sA,fl,sc,rfl,hn0,eF,z,f,N,au⟩:=hrel;have aI:wr.cell? (Z gx 9)=some (.bool m.s.jO):=(z.x.f_ 9).trans rfl;cases bL:m.s.jO with
 |true=>
  rw[bL]at aI;have cS:=O (show AO m from⟨N.val,N.dv,⟨k,m.run,X,N.cm,.inl ⟨bL,N.ts,rfl⟩⟩,by rw[N.ts];exact R_ _⟩);clear N au bL;by_cases hp:0<n;have aY:(0<n)=True:=by simp[hp]
  exact KF;have aY:(0<n)=False:=by simp[hp]
  exact KF
 |false=>
  rw[bL]at aI;by_cases hp:0<n
  .have aY:(0<n)=True:=by simp[hp]
   have A:=N.cm.cb N.val;have bR:=kq N.val;have b1:m.s.h.l.length<=4000002:=by have F:=A.1.h;have e:m.s.p.h.length=m.s.h.l.length:=ib _;omega
   have b2:m.s.ia.l.length<=4000000:=by have F:=A.1.ia;have e:m.s.p.ia.length=m.s.ia.l.length:=rfl;omega
   have b3: -1<=m.s.hT:=A.1.st0;have dK:m.s.hT<=3000:=A.1.st1;have ew:0<=m.s.hK:=A.1.p0;have dX:m.s.hK<=100000:=by have F:=A.1.p1;have e:m.s.p.hK=m.s.hK:=rfl;omega
   have dH:0<=m.s.jC:=A.1.a0;have ej:m.s.jC<=8:=by have F:=A.1.a1;have e:m.s.p.jC=m.s.jC:=rfl;omega
   have eS:0<=m.s.iW:=A.1.t0;have eQ:m.s.iW<=8:=by have F:=A.1.t1;have e:m.s.p.iW=m.s.iW:=rfl;omega
   have dW:0<=m.run:=A.2.1;have eR:m.run<=8:=by have F:=A.2.2;omega
   obtain⟨⟨bv,cb⟩,c3⟩:∃q,q=n6 m.l m.hH m.hC m.k8 m.s.p:=⟨_,rfl⟩;have aZ:=O c3;have bl:=O N;have dn:=O bL;clear c3 A N bL;go_upto_region 9 with(first|(refine iH rfl 26 _ rfl gx 0 r_ 43 m.g_ #[.slice m.A m.l.length m.c,Y m.hH,Y m.hC] z.x (m.code) _ underlying26 rfl k_ ?_)|(refine iH rfl 29 _ rfl gx 3 r_ 43 m.g_ #[.slice m.aA m.k8.length m.ac] z.x (m.world) _ underlying29 rfl k_ ?_)|(refine iH rfl 40 _ rfl gx 5 r_ 43 m.g_ m.s.g_ z.x (m.com) _ underlying40 rfl k_ ?_)|(go_at_call 48;have ad:=AJ m.A m.c m.l m.hH m.hC m.aA m.ac m.k8 m.s z.i.l X z.i.k8 (ov z.i.al) z.i.s X X X X X X X X;rw[<-aZ.out]at ad;refine ad.mono ?_;clear ad;unfold vF;rintro e bk⟨s,rfl,hs,dF,NZ⟩)|(refine k6 (s.g_) (T_ bk 40 #[n_,Y 0,Y 0,n_,.bool false,.bool false,.bool false,Y 0,Y 0,Y 0]) (Cm.one _) ?_;intro b bG E));have ct:J [] bk b:=((G_ [] bk).alloc _).jT E<|I_ _;replace z:=z.hF<|NZ.trans ct;replace f:=f.hF<|NZ.trans ct;replace hs:=hs.hF ct;clear NZ ct E aI;generalize bk.heap.size=ay at*
   by_cases h0:cb=0
   .have bj:(cb==0)=true:=by simp[h0]
    have dU:=O (bl.out.ask dn.out (by rw[<-aZ.out];exact h0) (s:=s)<|by rw[<-aZ.out];exact dF);clear h0 bl aZ dn dF;go_wp2_with (first|(refine la bG underlying40 ?_)|(refine jn rfl 40 _ _ rfl gx 5 r_ (s.g_) r_ 43 m.g_ z.x (by first|decide|(simp[Md.g_,Cm.g_])) k_ (Cm.one _) ?_;intro aH dP dm));go_roundw;exact⟨n-1,k+1,{m with s:=s},sA,fl,sc,rfl,X,X,z.set dm dP λhi=>⟨hi.l,hi.k8,hi.al,hi.d,hi.dl,hs.iy z.x I dm,hi.ts⟩,f.one z.x I I dm,dU.out,au.mono X⟩;exact mz
   have bj:(cb==0)=false:=by simp[h0]
   have ae:=O h0;clear h0 dF hs bG;have bo:b.cell? (Z gx 6)=some (Y m.s.hT):=(z.x.f_ 6).trans rfl;have dQ:b.cell? (Z gx 16)=some (Y m.run):=(z.x.f_ 16).trans rfl;have bS:=O (show nu m.l m.hH m.hC m.d m.s.p m.run=BC m.l m.hH m.hC m.d m.s.p.h (jm m.l m.hH m.hC m.s.hT m.run true).1 from rfl);go_upto_region 12 with(first|(refine iH rfl 26 _ rfl gx 0 r_ 43 m.g_ #[.slice m.A m.l.length m.c,Y m.hH,Y m.hC] z.x (m.code) _ underlying26 rfl k_ ?_)|(go_at_call 49;((with_reducible refine(ot m.A m.c m.l m.hH m.hC m.s.hT m.run true _ z.i.l X X X X X).mono ?_));unfold lp;rintro e aB⟨t0,rfl,cw,U,S⟩)|(refine k6 (t0.g_) (T_ aB 53 ks) (Tk.one _) ?_;intro aH Q aO));have eY:w.heap.size<=aB.heap.size:=H_ z.g.size S.size;have cH:J [] aB aH:=((G_ [] aB).alloc _).jT aO<|I_ _;replace z:=z.hF<|S.trans cH;replace f:=f.hF<|S.trans cH;have b6:=cw.hF cH;have d6:=z.x.hG 16;replace dQ:aH.cell? (Z gx 16)=some (Y m.run):=(z.x.f_ 16).trans rfl;clear S cH aO cw bo;generalize aB.heap.size=c9 at*
   go_upto_region 13 with fail;have M:J [gx] aH (aH.setCell (Z gx 16)<|Y<|m.run+1):=(G_ [gx] aH).setCell (.inl s_) _;have et:c9≠gx:=Q.mm z.x I;replace Q:=Q.gr M<|zu et;replace b6:=b6.iy z.x I M;replace f:=f.one z.x I I M;have T:MW w B g gr gx ({m with run:=m.run+1}:Md) (aH.setCell (Z gx 16)<|Y<|m.run+1):=z.set M (z.x.hW 16 _) λhi=>⟨hi.l,hi.k8,hi.al,hi.d,hi.dl,hi.s,hi.ts⟩;clear dQ d6 z M et;have z:=T;clear T;obtain⟨bA,dj⟩:=nm_<|aH.setCell (Z gx 16)<|Y<|m.run+1;rw[<-dj]at z f b6 Q |-;clear dj;have dS:=O<|qR bl.out.val bl.out.dv;have dD:=r7 bl.out.val bl.out.dv;have dJ:=O U;have cu:=nZ m.l m.hH m.hC m.s.hT m.run true;rw[<-U]at cu
   have bF:0<=t0.run:=by have e:t0.p.run=t0.run:=rfl;omega
   have bB:t0.run<=1099511627776:=by have e:t0.p.run=t0.run:=rfl;omega
   have ea:=O (show t0.h5=0->Way m.l t0.p from λ_=>by rw[U];exact nY);clear U cu;go_upto_region 14 with(first|(refine iH rfl 26 _ rfl gx 0 r_ 43 ({m with run:=m.run+1}:Md).g_ #[.slice m.A m.l.length m.c,Y m.hH,Y m.hC] z.x (Md.code _) _ underlying26 rfl k_ ?_)|(refine iH rfl 32 _ rfl gx 4 r_ 43 ({m with run:=m.run+1}:Md).g_ #[.slice m.dA m.d.length m.dc] z.x (Md.div _) _ underlying32 rfl k_ ?_)|(refine iH rfl 35 _ rfl gx 5 r_ 43 ({m with run:=m.run+1}:Md).g_ #[.slice m.s.h.A m.s.h.l.length m.s.h.c] z.x (Md.heap _) _ underlying35 rfl k_ ?_)|(refine la Q underlying53 ?_)|(go_at_call 50;((with_reducible refine(zX m.A m.c m.l m.hH m.hC m.dA m.dc m.d t0 m.s.h.A m.s.h.c m.s.h.l z.i.l X z.i.d X b6 z.i.s.h dS.out X bF bB ea.out).mono ?_));unfold lp;rintro e D⟨t1,rfl,cc,cU,G⟩)|(refine k6 (t1.g_) (Q.hF G) (Tk.one _) ?_;intro a6 W aG));replace z:=(z.hF G).one (Q.hF G) I (.inr bl.out.ts) I eY aG;replace f:=(f.hF G).one (Q.hF G) I I aG;replace cc:=cc.iy (Q.hF G) I aG;clear Q G aG b6 ea bF bB;have W:=W;have bt:t1.p=nu m.l m.hH m.hC m.d m.s.p m.run:=by rw[cU,bS.out,dJ.out];rfl
   clear cU;have dy:=O bl.out.val;have cn:=O (show TF t1.p by rw[bt];exact r9 bl.out.val bR.2.1 _ _);have dw:Hid (TG m5 t1.p):=O (by rw[bt];exact ul bl.out.val bR.2.1 (bl.out.cm.EU bl.out.val X) dW X);have eM:=O (show ∀P∈t1.nw.l,m5 P.o.id from λP hr=>(dw.out.nw P.o<|GJ.2 ⟨P,hr,rfl⟩).1);have eO:=O (show ∀c∈t1.ws.l,m5 c.id from λc hc=>(dw.out.ws c hc).1.elim id λe=>e▸wf64_1);have eN:=O bt;clear bt dw bS dJ;have hn0: -1<=t1.next:=cn.out.n0;have e0:t1.next<=3000:=cn.out.n1;have cj:a6.cell? (Z c9 42)=some (Y t1.h5):=(W.f_ 42).trans rfl;go_upto_if 89 with fail
   go_cut [7] (λ_ aX=>∃(d4:OA) (dL:QD) (d5:Nat),MW w B g gr gx ({m with run:=m.run+1}:Md) aX/\MQ w gq d4 dL d5 aX/\D3 (k+1) dL/\Bk aX c9 53 t1.g_/\kV aX t1)
   case first=>
    by_cases cg:t1.h5=2
    .have bH:(t1.h5==2)=true:=by simp[cg]
     have z0:a6.cell? (Z c9 0)=some (Y t1.hT):=(W.f_ 0).trans rfl;have dR:a6.cell? (Z c9 43)=some (Y t1.next):=(W.f_ 43).trans rfl;have bq:a6.cell? (Z gq 0)=some (.slice sA fl.length sc):=(f.q.f_ 0).trans rfl;clear cg;go_wp2_with (first|(go_at_call 51;((with_reducible refine(zK sA sc fl t1.hT t1.next f.f (ov au.len) λbm hf=>by have:=au.n bm hf;omega).mono ?_));unfold zp;rintro e aQ⟨aw,bw,rfl,eT,cX,aP⟩)|(refine k6 (#[.slice aw (lA fl t1.hT t1.next).length bw]) (f.q.hF aP) (by simp[Value.oneCell']) ?_;intro wc Du bN));go_meet;have dM:=f.hF aP;exact⟨aw,lA fl t1.hT t1.next,bw,(z.hF aP).one dM.q I (.inl I) I f.b bN,⟨Du,Sl.iy eT dM.q I bN,f.b⟩,au.EX _ _ hn0 e0,(W.hF aP).gr bN<|zu<|(W.hF aP).mm dM.q I,(cc.hF aP).iy dM.q I bN⟩
    have bH:(t1.h5==2)=false:=by simp[cg]
    clear cg;go_wp2;go_meet;exact⟨sA,fl,sc,z,f,au.mono X,W,cc⟩
   obtain⟨d4,dL,d5,cx,eU,ch,eX,cQ⟩:=hcut;clear z f au W cc cj;have z:=cx;have cc:=cQ;clear cx cQ;go_wp2_with (first|(refine iH rfl 26 _ rfl gx 0 r_ 43 ({m with run:=m.run+1}:Md).g_ #[.slice m.A m.l.length m.c,Y m.hH,Y m.hC] z.x (Md.code _) _ underlying26 rfl k_ ?_)|(refine iH rfl 40 _ rfl gx 5 r_ 43 ({m with run:=m.run+1}:Md).g_ m.s.g_ z.x (Md.com _) _ underlying40 rfl k_ ?_)|(refine la eX underlying53 ?_)|(go_at_call 52;have dT:=v8 m.A m.c m.l m.hH m.hC m.s t1 z.i.l X z.i.s cc cn.out.sm X X eM.out eO.out X X X X cn.out.s0 (by have F:=cn.out.s1;have e:t1.p.hK=t1.hK:=rfl;omega);rw[dy.out]at dT;refine dT.mono ?_;clear dT;unfold vF;rintro e dq⟨bT,rfl,cg,e2,ao⟩)|(refine jn rfl 40 _ _ rfl gx 5 r_ (bT.g_) r_ 43 ({m with run:=m.run+1}:Md).g_ (z.hF ao).x (by simp[Md.g_,Cm.g_]) k_ (Cm.one _) ?_;intro e7 ci bI));have dU:=O (bl.out.commit dn.out (by rw[<-aZ.out];exact ae.out) (s:=bT)<|by rw[e2,eN.out]);go_roundw;exact⟨n-1,k+1,{m with s:=bT,run:=m.run+1},d4,dL,d5,rfl,X,X,(z.hF ao).set bI ci λhi=>⟨hi.l,hi.k8,hi.al,hi.d,hi.dl,cg.iy (z.hF ao).x I bI,hi.ts⟩,(eU.hF ao).one (z.hF ao).x I I bI,dU.out,ch⟩;exact mz
  have aY:(0<n)=False:=by simp[hp]
  have A:=N.cm.cb N.val;have bR:=kq N.val;have b1:m.s.h.l.length<=4000002:=by have F:=A.1.h;have e:m.s.p.h.length=m.s.h.l.length:=ib _;omega
  have b2:m.s.ia.l.length<=4000000:=by have F:=A.1.ia;have e:m.s.p.ia.length=m.s.ia.l.length:=rfl;omega
  have b3: -1<=m.s.hT:=A.1.st0;have dK:m.s.hT<=3000:=A.1.st1;have ew:0<=m.s.hK:=A.1.p0;have dX:m.s.hK<=100000:=by have F:=A.1.p1;have e:m.s.p.hK=m.s.hK:=rfl;omega
  have dH:0<=m.s.jC:=A.1.a0;have ej:m.s.jC<=8:=by have F:=A.1.a1;have e:m.s.p.jC=m.s.jC:=rfl;omega
  have eS:0<=m.s.iW:=A.1.t0;have eQ:m.s.iW<=8:=by have F:=A.1.t1;have e:m.s.p.iW=m.s.iW:=rfl;omega
  have dW:0<=m.run:=A.2.1;have eR:m.run<=8:=by have F:=A.2.2;omega
  have aR:wr.cell? (Z gx 0)=some (.slice m.A m.l.length m.c):=(z.x.f_ 0).trans rfl;have bl:=O N;have dn:=O bL;clear A N bL aR;go_upto_region 19 with fail;refine hS (λw'=>w'.cell? (Z gx 0)=some (.slice m.A m.l.length m.c)/\w'.cell? (Z gx 1)=some (Y m.hH)/\w'.cell? (Z gx 2)=some (Y m.hC)/\w'.cell? (Z gq 0)=some (.slice sA fl.length sc)/\w'.cell? (Z gx 6)=some (Y m.s.hT)) 11 k_ ?_;obtain⟨r,L⟩:=nm_ wr.drew;rw[<-L];replace z:MW w B g gr gx m r:=by rw[L];exact z.hF (G_ [] wr).drew
  replace f:MQ w gq sA fl sc r:=by rw[L];exact f.hF (G_ [] wr).drew
  clear L;refine m6 ⟨(z.x.f_ 0).trans rfl,(z.x.f_ 1).trans rfl,(z.x.f_ 2).trans rfl,(f.q.f_ 0).trans rfl,(z.x.f_ 6).trans rfl⟩ λC=>?_;repeat refine j8 C ?_
  refine h4 7 λK H=>?_;go_simp;(go_at_call 19;refine(iD B g 5 z.d X X).mono ?_;rintro e b⟨P,rfl,bF,bB,Q,E⟩);obtain⟨dB,bP⟩:=z.d.bk;replace f:=f.one bP I I E;replace z:=z.dice E Q;clear C bP Q E;refine hZ H ⟨(z.x.f_ 0).trans rfl,(z.x.f_ 1).trans rfl,(z.x.f_ 2).trans rfl,(f.q.f_ 0).trans rfl,(z.x.f_ 6).trans rfl⟩ λC=>?_;clear H K;have oi:IntKind.i64.wrap (1+P)=1+P:=G9 _ X;refine iC 8 C ?_;refine h4 9 λK H=>?_;go_simp;(go_at_call 53;((with_reducible refine(AF m.A m.c m.l m.hH m.hC sA sc fl m.s.hT (1+P) z.i.l X f.f (ov au.len) (λbm hf=>by have:=au.dst bm hf;omega) X X).mono ?_));unfold D0;rintro e aB⟨eP,xc,xs,rfl,cl,cY,bp,S⟩);replace z:=z.hF S;replace f:=f.hF S;clear C S oi bF bB;refine hZ H ⟨(z.x.f_ 0).trans rfl,(z.x.f_ 1).trans rfl,(z.x.f_ 2).trans rfl,(f.q.f_ 0).trans rfl,(z.x.f_ 6).trans rfl⟩ λC=>?_;clear H K;refine iC 10 C ?_;refine hN k_ ?_ _;clear C f au;clear aI;go_wp2;have dS:=O<|qR bl.out.val bl.out.dv;have dD:=r7 bl.out.val bl.out.dv;go_loopw [122] (λap wr=>∃(k:Nat) (ts:QE) (tA:OA) (tc:Nat),ap=Y k/\k<=xs.length/\ts.length=k/\MW w B g gr gx ({m with run:=m.run+k,tA:=tA,tc:=tc,ts:=ts}:Md) wr/\wr.ownsRow w.heap.size 53 48 (.slice tA k tc) k (ts.flatMap λt:Tk=>t.g_.toList)/\Ns wr 3 eP xs/\(∀(j:Nat) (hj:j<ts.length) (hx:j<xs.length),∃ip:Bool,ts[j].p=(jm m.l m.hH m.hC xs[j] (m.run+j) ip).1)) (λap _=>xs.length-(intOf ap).toNat)
  case atStart=>exact⟨0,[],none,0,gn,R_ _,rfl,(by rw[bl.out.m0];exact z),i4 _ _ _ _,cl,λj hj=>by cases hj⟩
  obtain⟨dk,ca⟩:=nm_ k;rw[<-ca]at bl eF;have ey:dk<=8:=X;clear z cl eF ca;obtain⟨k,ts,tA,tc,rfl,hk,dh,z,am,cl,cK⟩:=hrel;have a:=O dh;have co:=O cK;clear dh cK;by_cases ag:k<xs.length
  .obtain⟨bx,eL,eW,d3⟩:=cl.at_ ag;have d2:=bp _<|P_ ag;have cp: -1000000000<=xs[k]:=d2.2.2.1;have ck:xs[k]<=1000000000:=d2.2.2.2;subst eW;go_upto_region 23 with fail;go_cut [13] (λp aX=>∃(t0:Tk) (x:Nat) (ip:Bool),p=q_ x/\Bk aX x 53 t0.g_/\kV aX t0/\t0.p=(jm m.l m.hH m.hC xs[k] (m.run+k) ip).1/\iV aX B g/\J [g] wr aX)
   case first=>
    refine hS (λw'=>w'.cell? (Z gx 0)=some (.slice m.A m.l.length m.c)/\w'.cell? (Z gx 1)=some (Y m.hH)/\w'.cell? (Z gx 2)=some (Y m.hC)/\w'.cell? (Z gx 16)=some (Y<|m.run+k)) 15 k_ ?_;obtain⟨r,L⟩:=nm_ wr.drew;rw[<-L];have dY:w.heap.size<=wr.heap.size:=z.g.size;have HG:J [g] wr r:=by rw[L];exact(G_ [g] wr).drew
    replace z:MW w B g gr gx ({m with run:=m.run+k,tA:=tA,tc:=tc,ts:=ts}:Md) r:=by rw[L];exact z.hF (G_ [] wr).drew
    clear L;refine m6 ⟨(z.x.f_ 0).trans rfl,(z.x.f_ 1).trans rfl,(z.x.f_ 2).trans rfl,(z.x.f_ 16).trans rfl⟩ λC=>?_;(repeat refine j8 C ?_);refine js 6 12 rfl rfl k_ (λK H=>?_) λK H=>?_
    .go_simp;(go_at_call 19;refine(iD B g 3 z.d X X).mono ?_;rintro e b⟨P,rfl,bF,bB,Q,E⟩);replace z:=z.dice E Q;replace HG:J [g] wr b:=HG.trans E;clear C;have C:b.cell? (Z gx 0)=some (.slice m.A m.l.length m.c)/\b.cell? (Z gx 1)=some (Y m.hH)/\b.cell? (Z gx 2)=some (Y m.hC)/\b.cell? (Z gx 16)=some (Y<|m.run+k):=⟨(z.x.f_ 0).trans rfl,(z.x.f_ 1).trans rfl,(z.x.f_ 2).trans rfl,(z.x.f_ 16).trans rfl⟩;clear Q E;refine hZ H C λC=>?_;clear H K;obtain⟨ip,bU⟩:=mn_<|P==0;refine iC 7 C ?_;try simp only[bU]
     clear bU bF bB;refine js 8 12 rfl rfl k_ (λK H=>?_) λK H=>?_
     .go_simp;(go_at_call 49;((with_reducible refine(ot m.A m.c m.l m.hH m.hC xs[k] (m.run+k) ip _ z.i.l X X X X X).mono ?_));unfold lp;rintro e aH⟨t0,rfl,cw,U,aO⟩);replace z:=z.hF aO;replace HG:J [g] wr aH:=HG.trans<|aO.of_nil [g];clear C;have C:aH.cell? (Z gx 0)=some (.slice m.A m.l.length m.c)/\aH.cell? (Z gx 1)=some (Y m.hH)/\aH.cell? (Z gx 2)=some (Y m.hC)/\aH.cell? (Z gx 16)=some (Y<|m.run+k):=⟨(z.x.f_ 0).trans rfl,(z.x.f_ 1).trans rfl,(z.x.f_ 2).trans rfl,(z.x.f_ 16).trans rfl⟩;clear aO;refine hZ H C λC=>?_;clear H K;repeat refine j8 C ?_
      refine h4 12 λK H=>?_;go_simp;have hb:Bk (aH.alloc<|.cells ks 53) aH.heap.size 53 ks:=T_ aH _ _;have aF:aH.heap.size≠g:=ov z.d.lt;have cZ:wr.heap.size<=aH.heap.size:=HG.size;replace z:=z.hF<|(G_ [] aH).alloc<|.cells ks 53;replace HG:J [g] wr (aH.alloc<|.cells ks 53):=HG.alloc _;replace cw:=cw.hF<|(G_ [] aH).alloc<|.cells ks 53;obtain⟨D,W⟩:=nm_<|aH.alloc<|.cells ks 53;rw[<-W]at hb z HG cw |-;clear C;have C:D.cell? (Z gx 0)=some (.slice m.A m.l.length m.c)/\D.cell? (Z gx 1)=some (Y m.hH)/\D.cell? (Z gx 2)=some (Y m.hC)/\D.cell? (Z gx 16)=some (Y<|m.run+k):=⟨(z.x.f_ 0).trans rfl,(z.x.f_ 1).trans rfl,(z.x.f_ 2).trans rfl,(z.x.f_ 16).trans rfl⟩;clear W;generalize aH.heap.size=x at*
      refine hZ H C λC=>?_;clear H K;exact JA
     go_simp;have hb:Bk (b.alloc<|.cells ks 53) b.heap.size 53 ks:=T_ b _ _;have aF:b.heap.size≠g:=ov z.d.lt;have cZ:wr.heap.size<=b.heap.size:=HG.size;replace z:=z.hF<|(G_ [] b).alloc<|.cells ks 53;replace HG:J [g] wr (b.alloc<|.cells ks 53):=HG.alloc _;obtain⟨D,W⟩:=nm_<|b.alloc<|.cells ks 53;rw[<-W]at hb z HG |-;clear C;have C:D.cell? (Z gx 0)=some (.slice m.A m.l.length m.c)/\D.cell? (Z gx 1)=some (Y m.hH)/\D.cell? (Z gx 2)=some (Y m.hC)/\D.cell? (Z gx 16)=some (Y<|m.run+k):=⟨(z.x.f_ 0).trans rfl,(z.x.f_ 1).trans rfl,(z.x.f_ 2).trans rfl,(z.x.f_ 16).trans rfl⟩;clear W;generalize b.heap.size=x at*
     refine hZ H C λC=>?_;clear H K;exact Jq
    go_simp;have hb:Bk (r.alloc<|.cells ks 53) r.heap.size 53 ks:=T_ r _ _;have aF:r.heap.size≠g:=ov z.d.lt;have cZ:wr.heap.size<=r.heap.size:=HG.size;replace z:=z.hF<|(G_ [] r).alloc<|.cells ks 53;replace HG:J [g] wr (r.alloc<|.cells ks 53):=HG.alloc _;obtain⟨D,W⟩:=nm_<|r.alloc<|.cells ks 53;rw[<-W]at hb z HG |-;clear C;have C:D.cell? (Z gx 0)=some (.slice m.A m.l.length m.c)/\D.cell? (Z gx 1)=some (Y m.hH)/\D.cell? (Z gx 2)=some (Y m.hC)/\D.cell? (Z gx 16)=some (Y<|m.run+k):=⟨(z.x.f_ 0).trans rfl,(z.x.f_ 1).trans rfl,(z.x.f_ 2).trans rfl,(z.x.f_ 16).trans rfl⟩;clear W;generalize r.heap.size=x at*
    refine hZ H C λC=>?_;clear H K;refine h4 6 λK H=>?_;go_simp;(go_at_call 19;refine(iD B g 3 z.d X X).mono ?_;rintro e b⟨P,rfl,bF,bB,Q,E⟩);replace z:=z.dice E Q;replace HG:J [g] wr b:=HG.trans E;replace hb:=hb.gr E<|zu aF;clear C;have C:b.cell? (Z gx 0)=some (.slice m.A m.l.length m.c)/\b.cell? (Z gx 1)=some (Y m.hH)/\b.cell? (Z gx 2)=some (Y m.hC)/\b.cell? (Z gx 16)=some (Y<|m.run+k):=⟨(z.x.f_ 0).trans rfl,(z.x.f_ 1).trans rfl,(z.x.f_ 2).trans rfl,(z.x.f_ 16).trans rfl⟩;clear Q E;refine hZ H C λC=>?_;clear H K;obtain⟨ip,bU⟩:=mn_<|P==0;refine iC 7 C ?_;try simp only[bU]
    clear bU bF bB;exact Jq
   obtain⟨t0,x,ip,rfl,hb,cw,U,dC,aO⟩:=hcut;obtain⟨dB,bP⟩:=z.d.bk;have eI:Ns wc 3 (some<|Z bx eL) xs:=Sl.iy cl bP I aO;have b8:=kX am bP I aO;have R:=z.dice aO dC;have dJ:=O U;clear z am cl bP aO dC d3 U d2 cp ck;have dQ:wc.cell? (Z gx 16)=some (Y<|m.run+k):=(R.x.f_ 16).trans rfl;have d6:=R.x.hG 16;go_upto_region 25 with fail;have M:J [gx] wc (wc.setCell (Z gx 16)<|Y<|m.run+k+1):=(G_ [gx] wc).setCell (.inl s_) _;have eH:x≠gx:=hb.mm R.x I;replace hb:=hb.gr M<|zu eH;replace cw:=cw.iy R.x I M;have eJ:Ns (wc.setCell (Z gx 16)<|Y<|m.run+k+1) 3 (some<|Z bx eL) xs:=Sl.iy eI R.x I M;replace b8:=kX b8 R.x I M;have T:MW w B g gr gx ({m with run:=m.run+k+1,tA:=tA,tc:=tc,ts:=ts}:Md) (wc.setCell (Z gx 16)<|Y<|m.run+k+1):=R.set M (R.x.hW 16 _) λhi=>⟨hi.l,hi.k8,hi.al,hi.d,hi.dl,hi.s,hi.ts⟩;clear R M eH dQ d6 eI;obtain⟨bA,dj⟩:=nm_<|wc.setCell (Z gx 16)<|Y<|m.run+k+1;rw[<-dj]at T eJ b8 cw hb |-;clear dj
   have dG:bA.cell? (Z gx 15)=some (.slice tA k tc):=by rw[<-a.out];exact(T.x.f_ 15).trans rfl
   have W:J [] bA (bA.alloc<|.cells t0.g_ 53):=(G_ [] bA).alloc _;have aK:=T.hF W;have dg:=iO b8 W;have cT:Sl (bA.alloc<|.cells t0.g_ 53) 53 48 (j_ bA.heap.size) 1 t0.g_.toList:=jv (n:=1) (s:=48) (T_ bA 53 t0.g_) rfl;have hbs:w.heap.size<=(bA.alloc<|.cells t0.g_ 53).heap.size:=H_ T.g.size W.size;refine wp_region_lit ?_;refine Eb rfl ?_;try simp only[a_]
   refine Eb rfl ?_;try simp only[a_]
   refine la hb underlying53 ?_;try simp only[a_]
   refine Great.wpList_buildSliceTo rfl 41 53 1 _ rfl bA.heap.size rfl _ rfl underlying41 t0.g_ k_ ?_;try simp only[a_]
   refine iQ _ rfl (.tmp 143) (.tmp 145) 41 rfl w.heap.size 53 bM _ 48 480 underlying41 bK bC be bu r_ I I tA k tc _ rfl dg (j_ bA.heap.size) 1 1 t0.g_.toList rfl cT (Eg t0) X hbs ?_;intro aw ai D ar aq;have dG:D.cell? (Z gx 15)=some (.slice tA k tc):=(by rw[<-a.out];exact((aq.bk aK.x I).f_ 15).trans rfl);have e8:=(aq.bk aK.x I).hG 15;try simp only[a_]
   refine Eb rfl ?_;try simp only[a_]
   refine nK rfl λK H=>?_;go_simp;refine H.out _ _ ?_;clear H K;refine wpList_nil ?_;go_wp2;go_roundw
   case rel=>
    have b9:D.ownsRow w.heap.size 53 48 (.slice aw (k+1) ai) (k+1) ((ts++[t0]).flatMap λt:Tk=>t.g_.toList):=by
     simpa using ar
    have b5:(ts++[t0]).length=k+1:=by rw[M_,a.out];rfl
    have az:Ts D aw (ts++[t0]):=by
     have h:=Sl.iZ b9;show Sl D 53 48 aw (ts++[t0]).length _;rw[b5];exact h
    have db:=aK.append (c:=ai) aq b5 az (λt ht=>by
     rcases X_.1 ht with ht|ht
     exact aK.i.ts.y0 t ht;rw[J_.1 ht];exact cw.hF W)
    have cD:=aq.bk aK.x I;have V:J [gx] D (D.setCell (Z gx 15)<|.slice aw (k+1) ai):=(G_ [gx] D).setCell (.inl s_) _;refine⟨k+1,ts++[t0],aw,ai,gn,X,b5,?_,kX b9 cD I V,Sl.iy (aq.sl (Sl.hF eJ W) I) cD I V,?_⟩;have e:m.run+((k+1:Nat):Int)=m.run+k+1:=X;rw[e];exact db;intro j hj hx;by_cases N2:j<ts.length;rw[Ht N2];exact co.out j N2 hx;have:j=k:=by rw[b5]at hj;have:=a.out;omega
    subst this;rw[HC X];refine⟨ip,?_⟩;have aT:([t0]:QE)[j-ts.length]'(by have:=a.out;simp;omega)=t0:=s_;rw[aT];exact dJ.out
   case measure=>exact mz
  have dI:k=xs.length:=X;have d9:=O (show vD m.l m.hH m.hC m.d m.s.p.h m.run 0 (ts.map Tk.p) from .hT _ (by rw[Hf,a.out];omega) (λj hj=>by
   have eZ:j<ts.length:=zu hj;have ev:j<xs.length:=ov a.out;obtain⟨ip,hp⟩:=co.out j eZ ev;exact⟨xs[j],ip,bp _<|P_ ev,by rw[HF];exact hp⟩))
  have e4:k<=16:=X;have e6:((k:Int)<(xs.length:Int))=False:=p_;clear hk ag co cl bp dI;obtain⟨dB,bP⟩:=z.d.bk;go_upto_region 28 with(go_at_call 19;refine(iD B g 40 z.d X X).mono ?_;rintro e b⟨n1,rfl,eE,e1,Q,E⟩);have az:k=0\/∃gb W,tA=some (Z gb 0)/\w.heap.size<=gb/\pA b gb W ts:=by
   rcases Hr k with h|h
   exact .inl h;have eG:=kX am bP I E;rw[<-a.out]at eG;obtain⟨gb,W,F,h2,h3⟩:=pA.iZ eG (by rw[a.out];exact h);exact .inr ⟨gb,W,F,h2,h3⟩
  have d7:=O<|jq am;have ed:=z.dice E Q;clear z am bP E Q;go_loopw [15] (λap wr=>∃(n:Int) (j:Nat) (ts:QE),ap=Y n/\0<=n/\n+j<=39/\ts.length=k/\MW w B g gr gx ({m with run:=m.run+k,tA:=tA,tc:=tc,ts:=ts}:Md) wr/\vD m.l m.hH m.hC m.d m.s.p.h m.run j (ts.map Tk.p)/\(k=0\/∃gb W,tA=some (Z gb 0)/\w.heap.size<=gb/\pA wr gb W ts)) (λap _=>(intOf ap).toNat)
  case atStart=>exact⟨n1,0,ts,rfl,eE,X,a.out,ed,d9.out,az⟩
  clear ed az eE e1 d9 a ts;obtain⟨n,j,ts,rfl,hn0,e5,dh,z,N1,az⟩:=hrel;have a:=O dh;have dx:=O N1;have dG:wr.cell? (Z gx 15)=some (.slice tA k tc):=by rw[<-dh];exact(z.x.f_ 15).trans rfl
  clear dh N1;by_cases hp:0<n
  .have aY:(0<n)=True:=by simp[hp]
   rcases Hr k with ce|aV
   have bj:((0:Int)<(k:Int))=False:=by simp[ce]
   have e3:(0<k)=False:=by simp[ce]
   clear ce az;exact JJ;obtain⟨gb,W,hA,aP,hR⟩:=az.resolve_left X;clear az;subst hA;have bj:((0:Int)<(k:Int))=True:=by simp[aV]
   have e3:(0<k)=True:=by simp[aV]
   go_upto_region 31 with(go_at_call 19;refine(iD B g (k:Int) z.d X X).mono ?_;rintro e b⟨P,rfl,bF,bB,Q,E⟩);obtain⟨i,rfl⟩:∃i:Nat,P=i:=⟨P.toNat,X⟩;have dN:i<k:=X;have hi:i<ts.length:=by rw[a.out];exact dN
   have df:gb≠g:=by have F:=z.d.yw;have h2:=z.hB;omega
   replace hR:pA b gb W ts:=⟨hR.bk.gr E<|zu df,hR.row⟩;replace z:=z.dice E Q;clear E Q df dG bF bB;have dG:b.cell? (Z gx 15)=some (.slice (j_ gb) k tc):=by rw[<-a.out];exact(z.x.f_ 15).trans rfl
   have cj:b.cell? (Z gb<|i*48+42)=some (Y (ts[i]).h5):=(hR.f_ hi 42 I).trans rfl;have ei:=dx.out.tf bl.out.val bR.2.1;have cn:=O (show ∀t∈ts,TF t.p/\(t.h5=0->Way m.l t.p) from λt ht=>ei _<|GJ.2 ⟨t,ht,rfl⟩);have ek:=dx.out.EU bl.out.val bR.2.1 (bl.out.cm.EU bl.out.val X) dW X;have dw:=O (show ∀t∈ts,TG m5 t.p/\0<=t.p.run/\t.p.run<=1000000016 from λt ht=>ek _<|GJ.2 ⟨t,ht,rfl⟩);clear ei ek;obtain⟨aB,cF⟩:=nm_ b;rw[<-cF]at z hR dG cj |-;clear cF
   by_cases bn:(ts[i]).h5=0
   .rw[bn]at cj;have dV:=O bn;clear bn;go_upto_region 32 with fail;have co:=O (show ∀t1:Tk,t1.p=iT m.l m.hH m.hC m.d (ts[i]).p (j3 (hY m.s.h.l) (ts.map Tk.p) i)->vD m.l m.hH m.hC m.d m.s.p.h m.run (j+1) ((ts.set i t1).map Tk.p) from λt1 hp=>by
     have cO:=vD.step (l:=m.l) (hH:=m.hH) (hC:=m.hC) (d:=m.d) i (zu hi) dx.out (by rw[HF];exact dV.out);rw[List.map_set,hp];rw[HF]at cO;exact cO)
    refine hS (λw'=>w'.cell? (Z gx 0)=some (.slice m.A m.l.length m.c)/\w'.cell? (Z gx 1)=some (Y m.hH)/\w'.cell? (Z gx 2)=some (Y m.hC)/\w'.cell? (Z gx 4)=some (.slice m.dA m.d.length m.dc)/\w'.cell? (Z gx 5)=some (.slice m.s.h.A m.s.h.l.length m.s.h.c)/\w'.cell? (Z gx 15)=some (.slice (j_ gb) k tc)) 25 k_ ?_;obtain⟨r,L⟩:=nm_ aB.drew;rw[<-L];replace z:MW w B g gr gx ({m with run:=m.run+k,tA:=(j_ gb),tc:=tc,ts:=ts}:Md) r:=by rw[L];exact z.hF (G_ [] aB).drew
    replace hR:pA r gb W ts:=by rw[L];exact⟨hR.bk.hF (G_ [] aB).drew,hR.row⟩
    clear L dG cj;have dt:=G_ [] r;have cp:=z.x;have C:r.cell? (Z gx 0)=some (.slice m.A m.l.length m.c)/\r.cell? (Z gx 1)=some (Y m.hH)/\r.cell? (Z gx 2)=some (Y m.hC)/\r.cell? (Z gx 4)=some (.slice m.dA m.d.length m.dc)/\r.cell? (Z gx 5)=some (.slice m.s.h.A m.s.h.l.length m.s.h.c)/\r.cell? (Z gx 15)=some (.slice (j_ gb) k tc):=⟨(cp.f_ 0).trans rfl,(cp.f_ 1).trans rfl,(cp.f_ 2).trans rfl,(cp.f_ 4).trans rfl,(cp.f_ 5).trans rfl,(by rw[<-a.out];exact(cp.f_ 15).trans rfl)⟩;have dz:Hid (∀w',J [] r w'->Calls prog 40 #[.agg #[.slice m.s.h.A m.s.h.l.length m.s.h.c],.slice (j_ gb) k tc,Y i] w' (lO (j3 (hY m.s.h.l) (ts.map Tk.p) i) w')):=O (by
     intro w' hg;have h:=Bc m.s.h.A m.s.h.c m.s.h.l (j_ gb) tc ts i w' (z.i.s.h.hF hg) X (z.i.ts.hF hg) (by rw[a.out];omega) (λt ht=>(cn.out t ht).1.sm) X;rw[a.out]at h;exact h)
    have bY:Hid (∀(aL:OA) (vc:Nat) (o:QT) (w':World),J [] r w'->mh w' aL vc o->hY o=j3 (hY m.s.h.l) (ts.map Tk.p) i->Calls prog 39 #[.agg #[.slice m.A m.l.length m.c,Y m.hH,Y m.hC],.agg #[.slice m.dA m.d.length m.dc],.agg (ts[i]).g_,.agg #[.slice aL o.length vc]] w' (lp (iT m.l m.hH m.hC m.d (ts[i]).p<|j3 (hY m.s.h.l) (ts.map Tk.p) i) 0 w')):=O (by
     intro aL vc o w' hg hv ho;have d0:=P_ hi;obtain⟨bz,bX⟩:=cn.out _ d0;have cW:=bX dV.out;have cR:=cW.lo;have eu:=cW.hi;have bi:=cW.s0;have cJ:=bz.s1;obtain⟨_,bQ,r1⟩:=dw.out _ d0;have iS:o.length<=99999999:=by
      have aC:=ib o;rw[ho]at aC;have av:=tx ((ts.map Tk.p).take (i:Int).toNat) (hY m.s.h.l) (n:=500000) (λt ht=>by
       obtain⟨cm,hu,rfl⟩:=GJ.1<|Hk ht;exact(cn.out cm hu).1.sm.nw)
      have bO:=ib m.s.h.l;have bV:((ts.map Tk.p).take (i:Int).toNat).length<=16:=by
       rw[Hj,Hf,a.out];omega
      unfold j3 at aC;omega
     have h:=rS m.A m.c m.l m.hH m.hC m.dA m.dc m.d (ts[i]) aL vc o w' (Sl.hF z.i.l hg) X (Sl.hF z.i.d hg) X ((z.i.ts.y0 _ d0).hF hg) hv dS.out dV.out bz.sm iS cR (by have e:(ts[i]).p.pc=(ts[i]).pc:=rfl;omega) bQ (by have e:(ts[i]).p.run=(ts[i]).run:=rfl;omega) bi (by have e:(ts[i]).p.hK=(ts[i]).hK:=rfl;omega);rw[ho]at h;exact h)
    have ak:i*48+48<=W.size:=by
     have F:=hR.size;rw[a.out]at F;omega
    (iterate 11 refine j8 C ?_)
    refine iC 12 C ?_;refine iC 13 C ?_;refine iC 14 C ?_;refine iC 15 C ?_;refine iC 16 C ?_;refine iC 17 C ?_;refine js 11 18 rfl rfl k_ (λK H=>?_) λK H=>?_
    .rw[L_ r_];refine o0 53 _ rfl gb (i*48) r_ 53 W (ts[i]).g_ hR.bk (hR.at hi) _ underlying53 rfl k_ ?_;refine hZ H C λC=>?_;clear H K;refine h4 18 λK H=>?_;go_simp;(go_at_call 40;((with_reducible refine(dz.out _ dt).mono ?_));unfold lO;rintro e cf⟨aL,vc,o,rfl,cA,cC,aN⟩);clear C;refine hZ H (by
      have hx:=(z.hF aN).x;exact⟨(hx.f_ 0).trans rfl,(hx.f_ 1).trans rfl,(hx.f_ 2).trans rfl,(hx.f_ 4).trans rfl,(hx.f_ 5).trans rfl,(by rw[<-a.out];exact(hx.f_ 15).trans rfl)⟩) λC=>?_
     exact Jj
    go_simp;(go_at_call 40;((with_reducible refine(dz.out _ dt).mono ?_));unfold lO;rintro e cf⟨aL,vc,o,rfl,cA,cC,aN⟩);clear C;refine hZ H (by
     have hx:=(z.hF aN).x;exact⟨(hx.f_ 0).trans rfl,(hx.f_ 1).trans rfl,(hx.f_ 2).trans rfl,(hx.f_ 4).trans rfl,(hx.f_ 5).trans rfl,(by rw[<-a.out];exact(hx.f_ 15).trans rfl)⟩) λC=>?_
    clear H K;refine h4 11 λK H=>?_;rw[L_ r_];refine o0 53 _ rfl gb (i*48) r_ 53 W (ts[i]).g_ (hR.bk.hF aN) (hR.at hi) _ underlying53 rfl k_ ?_;refine hZ H C λC=>?_;exact Jj
   have bH:((ts[i]).h5==0)=false:=by simp[bn]
   obtain⟨st,du⟩:=mn_<|(ts[i]).h5;rw[du]at cj bH;clear bn du cn dw;go_wp2;go_roundw;exact⟨n-1,j,ts,rfl,X,X,a.out,z,dx.out,.inr ⟨gb,W,rfl,aP,hR⟩⟩;exact mz
  have aY:(0<n)=False:=by simp[hp]
  clear az;exact JJ
