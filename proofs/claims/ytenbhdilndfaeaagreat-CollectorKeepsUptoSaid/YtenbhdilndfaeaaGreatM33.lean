import Derived.Test.YtenbhdilndfaeaaGreatM30
import Derived.Great.Walk
set_option maxRecDepth 100000
set_option maxHeartbeats 0
set_option linter.all false
namespace Go.Proofs.YtenbhdilndfaeaaGreat
open Go.RowKit Go.Proofs.Tryz
variable{l:QS}{hC hH:Int}{A:OA}{w w':World}{t:TypeId}{cs cur:Array Value}{base gb k o:Nat}{vs:QW}{ts:QB}
def BZ(B g:Nat)(P:QR)(w:World)(e:Ending)(w':World):Prop:=∃(A:OA) (d:Nat) (Q:QR),e=.returned (.agg #[.slice A Q.length d])/\Ns w' 3 A Q/\Q.length<=d/\Q.Sublist P/\iN w' B g/\J [g] w w'
def xV(l:QS)(hH hC:Int):(kO l hH hC).length<=2049:=by
 unfold kO;split;rename_i c;have:=kn c;simp;omega;simp
def vu(B g:Nat)(A:OA)(c:Nat)(l:QS)(hH hC:Int)(h:Is w A l)(hn:l.length<=1000000000)(u:iN w B g)(hB:B<=w.heap.size):
 Calls prog 46 #[.pointer (some ⟨g,0,none⟩),.agg #[.slice A l.length c,Y hH,Y hC]] w (BZ B g (kO l hH hC) w):=by
 obtain⟨bu,bB,bt,a7,a6⟩:=info_parts infoInt;have bq:=u.wx;have bZ:=xV l hH hC;obtain⟨L,d,v⟩:=pZ w 26 #[.slice A l.length c,Y hH,Y hC] 32 #[n_];obtain⟨al,a⟩:=nm_ (BZ B g (kO l hH hC) w);rw[<-a];have ao:=O a;clear a;go_enter func46,ntmps46;go_upto_region 1 with fail;obtain⟨an,aH⟩:=nm_ ((w.alloc (.cells #[.slice A l.length c,Y hH,Y hC] 26)).alloc (.cells #[n_] 32));rw[<-aH]at L d v |-;clear aH;obtain⟨aG,h3⟩:=nm_ w.heap.size;obtain⟨E,am⟩:=nm_ (w.heap.size+1);rw[<-h3]at L;rw[<-am]at d;rw[<-h3];have aL:aG+1=E:=X;rw[aL];have aW:w.heap.size<=aG:=X;clear h3 am;have z0:=L.f_ 0;have aR:=L.f_ 1;have aZ:=L.f_ 2;have aA:=Is.hF h v;replace u:=u.hF v;have cG:=d.lt
 go_upto_region 2 with(go_at_call 90;refine(zH A c l hH hC an aA hn).mono ?_;rintro aY w2⟨C,bd,rfl,i,aB,T⟩);obtain⟨t,j⟩:=EU w2 32 #[.slice C (kO l hH hC).length bd];obtain⟨aI,au⟩:=nm_ w2.heap.size;have aU:E<aI:=ov T.size;replace d:=(d.hF T).hF j;replace u:=(u.hF T).hF j;replace i:=i.hF j;replace v:=(v.trans T).trans j;obtain⟨e,ay⟩:=nm_ (kO l hH hC);rw[<-ay]at i aB t d u v bZ |-;have be:=O ay;obtain⟨af,bf⟩:=nm_ (w2.alloc (.cells #[.slice C e.length bd] 32));rw[<-bf]at i t d u v |-;rw[<-au]at t |-;clear bf au j ay z0 aR aZ aA L T;obtain⟨n,hn0⟩:=nm_ e.length;have aX:=O hn0;rw[<-hn0]at aB t bZ |-;clear hn0
 go_wp2_with fail;go_at_call 19;refine(ij B g 3 u X X).mono ?_;rintro aY ae⟨bh,rfl,bC,bJ,P,W⟩;replace d:=d.gr W p_;replace t:=t.gr W p_;obtain⟨df,N⟩:=u.bk;replace i:=Sl.iq i N I W;have R:=(v.mono H).trans W;have dX:=t.lt;clear u N v W;by_cases hr:bh=0
 .have eH:(bh==0)=true:=by simp[hr]
  clear hr;have Q:=t.f_ 0;have bA:=d.hG 0;have b0:=d.f_ 0;go_wp2;have aO:=d.hU 0 (.slice C n bd);have f:=(F_ [E] ae).setCell (p:=⟨E,0,none⟩) (.inl H) (.slice C n bd);refine Gu (Hb rfl _ _ _ _ _ _ _ rfl aO underlying32 rfl k_) rfl ?_;rw[ao.out];refine⟨C,bd,e,by rw[aX.out];rfl,?_,by rw[<-aX.out];exact aB,by rw[be.out];exact List.Sublist.refl _,P.ih f p_,R.hI f p_⟩;exact Sl.iq i d I f
 have eH:(bh==0)=false:=by simp[hr]
 clear hr;have Q:=t.f_ 0;go_upto_region 5 with fail;obtain⟨z,j⟩:=EU ae 32 #[n_];obtain⟨U,bl⟩:=nm_ ae.heap.size;have aK:aI<U:=X;replace d:=d.hF j;replace t:=t.hF j;replace P:=P.hF j;replace i:=i.hF j;replace R:=R.trans (j.mono H);obtain⟨Nq,bW⟩:=nm_ (ae.alloc (.cells #[n_] 32));rw[<-bW,<-bl]at z;rw[<-bW]at i t d P R |-;rw[<-bl];clear bW bl j Q;have Q:=t.f_ 0
 go_upto_region 6 with fail;clear Q;obtain⟨D,cC⟩:=nm_ Nq.heap.size;have aV:U<D:=by rw[cC];exact z.lt
 have aS:w.heap.size<=D:=X;have aN:D<=Nq.heap.size:=X;have aM:∀S off,C=some ⟨S,off,none⟩->0<e.length->S<D:=λS off hA hn=>by
  have h1:=i;rw[hA]at h1;rw[cC];exact h1.lt hn
 clear cC;go_loopw [18] (λaq w'=>∃(k:Nat) (x:OA) (y:Nat) (vs:QR),k<=n/\aq=Y k/\vs.Sublist (e.take k)/\Bk w' E 32 #[n_]/\Bk w' U 32 #[.slice x vs.length y]/\w'.ownsRow D 3 1 (.slice x vs.length y) vs.length (vs.map (Value.int .i64))/\Ns w' 3 C e/\iN w' B g/\J [g] w w'/\D<=w'.heap.size/\vs.length<=k) (λaq _=>n-(intOf aq).toNat)
 case atStart=>exact⟨0,none,0,[],L_ _,gn,H,d,z,iS _ _ _ _,i,P,R,aN,H_ _⟩
 obtain⟨k,x,y,vs,hk,rfl,Nr,M,bi,Z,ax,ai,av,Nt,b9⟩:=hrel;obtain⟨K,hj⟩:=nm_ vs.length;have bk:=O hj;rw[<-hj]at bi Z b9;clear hj d z i P R;by_cases ag:k<n
 .obtain⟨b,off,hA,hc⟩:=ax.at_ (k:=k) (ov aX.out);subst hA;have aQ:k<e.length:=ov aX.out;have ah:=hc;go_wp2_with fail;go_at_call 19;refine(ij B g 2 ai X X).mono ?_;rintro aY G⟨q,rfl,hq0,hq1,cv,F⟩;obtain⟨df,N⟩:=ai.bk;have ap:=M.gr F p_;have z:=bi.gr F p_;have cw:=j9 Z N I F;have dg:Ns G 3 (some ⟨b,off,none⟩) e:=Sl.iq ax N I F;have cZ:=av.trans F;have aJ:=G_ Nt F.size;have bw:e.take (k+1)=e.take k++[e[k]]:=by rw[Q_ aQ]
  have aw:=O bw;have bD:=O Nr;clear bw Nr ah hc M bi Z ax ai av Nt N F;by_cases ar:q=0
  .have dx:(q==0)=true:=by simp[ar]
   clear ar;obtain⟨r,aD⟩:=nm_ (e[k]);rw[<-aD]at aw |-;clear aD;have Q:=z.f_ 0;have aP:=z.alloc (.cells #[Y r] 3);have bm:=iD cw ((F_ [] G).alloc (.cells #[Y r] 3));have bn:Sl (G.alloc (.cells #[Y r] 3)) 3 1 (some ⟨G.heap.size,0,none⟩) 1 [Y r]:=jh (n:=1) (s:=1) (P_ G 3 #[Y r]) rfl
   go_wp2_with (at_builtin;refine jZ rfl rfl D 3 bu 1 8 underlying30 bB bt a7 a6 rfl I I x K y (vs.map (Value.int .i64)) rfl bm _ 1 1 [Y r] rfl bn (by intro bo hu;simp at hu;subst hu;rfl) X p_ ?_;intro Nu cf aF bY bI bO;have br:=App.iR bm bI;have V:=br.bk aP I;have bp:=V.f_ 0;have bL:=V.hG 0);go_roundw
   case rel=>
    have f:=(F_ [U] aF).setCell (p:=⟨U,0,none⟩) (.inl H) (.slice Nu (K+1) cf);have aj:=bk.out;have m:=br.bk (ap.alloc (.cells #[Y r] 3)) I;refine⟨k+1,Nu,cf,vs++[r],X,gn,by rw[aw.out];exact bD.out.append (List.Sublist.refl _),m.gr f p_,?_,?_,?_,?_,?_,?_,p_⟩;have:=V.hU 0 (.slice Nu (K+1) cf);have hl:(vs++[r]).length=K+1:=by rw[I_,<-aj];rfl
    rw[hl];exact this;have:=j9 bY V I f;have hl:(vs++[r]).length=K+1:=by rw[I_,<-aj];rfl
    rw[hl,Gd];exact this;have bg:Sl (G.alloc (.cells #[Y r] 3)) 3 1 (some ⟨b,off,none⟩) e.length (e.map (Value.int .i64)):=Sl.alloc dg _;refine Sl.iq (bg.rV λhn S o hA hx=>bI.block S hx (λhe=>?_)) V I f;have h1:=(kD bm (he.symm)).1;have h2:=aM S o hA hn;omega;exact((cv.hF ((F_ [] G).alloc _)).app br X).ih f p_;exact(br.gr [g] w aS (cZ.alloc _)).setCell (.inr p_) _;have h1:=br.size;have h2:=f.size;simp at h1;omega
   case measure=>exact mz
  have dx:(q==0)=false:=by simp[ar]
  clear ar;go_wp2;go_roundw
  case rel=>
   have aj:=bk.out;subst aj;exact⟨k+1,x,y,vs,X,gn,by rw[aw.out];exact bD.out.trans (List.sublist_append_left _ _),ap,z,cw,dg,cv,cZ,aJ,X⟩
  case measure=>exact mz
 have r:k=n:=X;have Q:=bi.f_ 0;have bA:=M.hG 0;have b0:=M.f_ 0;have bD:=O Nr;clear Nr;go_wp2;have aO:=M.hU 0 (.slice x K y);have f:=(F_ [E] wr).setCell (p:=⟨E,0,none⟩) (.inl H) (.slice x K y);refine Gu (Hb rfl _ _ _ _ _ _ _ rfl aO underlying32 rfl k_) rfl ?_;rw[ao.out];refine⟨x,y,vs,by rw[bk.out];rfl,?_,by rw[<-bk.out];exact iY Z,by rw[<-be.out];exact bD.out.trans (List.take_sublist _ _),ai.ih f p_,av.hI f p_⟩;have:=Sl.iP Z;rw[bk.out]at this;exact Sl.iq this M I f
def qr.iq{m:Md}{x:Nat}(h:qr w m)(d:Bk w x t cs)(n:189≠t/\2≠t/\3≠t/\56≠t/\38≠t/\162≠t/\116≠t/\124≠t)(e:53≠t∨m.ts=[])(c:J [x] w w'):qr w' m:=by
 obtain⟨r,s,u,i,j,f,v,p⟩:=n;refine⟨Sl.iq h.l d r c,Sl.iq h.lh d s c,h.al,Sl.iq h.d d u c,h.dl,h.s.iq d ⟨i,j,f⟩ c,⟨?_,λt q=>(h.ts.ye t q).iq d ⟨v,i,j,p,f⟩ c⟩⟩;rcases e with e|e
 exact Sl.iq h.ts.row d e c;rw[e];exact GU _ _ _ _
def Fv:Array Value:=#[n_,Y 0,Y 0,n_,n_,n_,Y 0,Y 0,n_,.bool false,.bool false,.bool false,Y 0,Y 0,Y 0,n_,Y 0]
structure MW(w0:World)(B g gr gx:Nat)(m:Md)(w:World):Prop where
 r:Bk w gr 43 Fv
 x:Bk w gx 43 m.g_
 i:qr w m
 d:iN w B g
 g:J [g] w0 w
 hB:B<=w0.heap.size
 b1:w0.heap.size<=gr
 b2:w0.heap.size<=gx
 ne:gr≠gx
section
variable{w0 a b:World}{B g gr gx:Nat}{m m':Md}
def MW.hF(h:MW w0 B g gr gx m a)(k:J [] a b):MW w0 B g gr gx m b:=
 ⟨h.r.hF k,h.x.hF k,h.i.hF k,h.d.hF k,h.g.trans (k.of_nil [g]),h.hB,h.b1,h.b2,h.ne⟩
def MW.ih(h:MW w0 B g gr gx m a):g≠gr/\g≠gx:=by
 have d:=h.d.wx;have e:=h.hB;have f:=h.b1;have c:=h.b2;omega
def MW.dice(h:MW w0 B g gr gx m a)(k:J [g] a b)(c:iN b B g):MW w0 B g gr gx m b:=by
 obtain⟨cs,d⟩:=h.d.bk;obtain⟨e,f⟩:=h.ih;exact⟨h.r.gr k (zu e.symm),h.x.gr k (zu f.symm),h.i.iq d I (.inl I) k,c,h.g.trans k,h.hB,h.b1,h.b2,h.ne⟩
def MW.one(h:MW w0 B g gr gx m a){x:Nat}(e:Bk a x t cs)(i:189≠t/\2≠t/\3≠t/\56≠t/\38≠t/\162≠t/\116≠t/\124≠t)(j:53≠t∨m.ts=[])(c:t≠43)(f:w0.heap.size<=x)(k:J [x] a b):MW w0 B g gr gx m b:=
 ⟨h.r.gr k (zu (h.r.l8 e c.symm)),h.x.gr k (zu (h.x.l8 e c.symm)),h.i.iq e i j k,h.d.ih k (λn d=>by rw[J_]at d;rw[d];exact G_ h.hB f),
   h.g.hI k (λn d=>.inr (by rw[J_]at d;rw[d];exact f)),h.hB,h.b1,h.b2,h.ne⟩
def MW.set(h:MW w0 B g gr gx m a)(k:J [gx] a b)(e:Bk b gx 43 m'.g_)(d:qr b m->qr b m'):MW w0 B g gr gx m' b:=
 ⟨h.r.gr k (zu h.ne),e,d (h.i.iq h.x I (.inl I) k),h.d.ih k (λf c=>by rw[J_]at c;rw[c];exact G_ h.hB h.b2),
   h.g.hI k (λf c=>.inr (by rw[J_]at c;rw[c];exact h.b2)),h.hB,h.b1,h.b2,h.ne⟩
def MW.fin(h:MW w0 B g gr gx m a)(k:J [gr] a b):qr b m/\iN b B g/\J [g] w0 b:=
 ⟨h.i.iq h.r I (.inl I) k,h.d.ih k (λd c=>by rw[J_]at c;rw[c];exact G_ h.hB h.b1),
   h.g.hI k (λd c=>.inr (by rw[J_]at c;rw[c];exact h.b1))⟩
end
structure MQ(w0:World)(gq:Nat)(sA:OA)(fl:QC)(sc:Nat)(w:World):Prop where
 q:Bk w gq 96 #[.slice sA fl.length sc]
 f:Fs w sA fl
 b:w0.heap.size<=gq
section
variable{w0 a b:World}{gq:Nat}{sA:OA}{fl:QC}{sc:Nat}
def MQ.hF(h:MQ w0 gq sA fl sc a)(k:J [] a b):MQ w0 gq sA fl sc b:=⟨h.q.hF k,h.f.hF k,h.b⟩
def MQ.one(h:MQ w0 gq sA fl sc a){x:Nat}(c:Bk a x t cs)(d:168≠t)(e:96≠t)(k:J [x] a b):MQ w0 gq sA fl sc b:=
 ⟨h.q.gr k (zu (h.q.l8 c e)),Sl.iq h.f c d k,h.b⟩
end
structure Dm(k:Nat)(fl:QC):Prop where
 len:fl.length<=k
 n:∀f∈fl,1<=f.n/\f.n<=3
 dst:∀f∈fl, -1<=f.dst/\f.dst<=3000
def Dm.mono{c:Nat}{fl:QC}(h:Dm k fl)(d:k<=c):Dm c fl:=⟨G_ h.len d,h.n,h.dst⟩
def Dm.D7{fl:QC}(h:Dm k fl)(e dst:Int)(h0: -1<=dst)(p:dst<=3000):Dm (k+1) (lq fl e dst):=by
 have u:∀c∈([⟨e,dst,1⟩]:QC),(1<=c.n/\c.n<=3)/\ -1<=c.dst/\c.dst<=3000:=λc d=>by rw[J_.1 d];exact⟨⟨GH 1,(by decide:(1:Int)<=3)⟩,h0,p⟩
 unfold lq;split;rename_i i;have j:lB fl e<fl.length:=by unfold pi at i;simp at i;exact i.1
 have s:fl.getD (lB fl e) default=fl[lB fl e]:=by simp[List.getD,K_ j]
 have f:=N_ j;have v:=h.n _ f;have q:=h.dst _ f;rw[s];have r:(1<=(lO fl[lB fl e] dst).n/\(lO fl[lB fl e] dst).n<=3)/\ -1<=(lO fl[lB fl e] dst).dst/\(lO fl[lB fl e] dst).dst<=3000:=by
  generalize fl[lB fl e]=c at*;unfold lO;split;refine⟨?_,q⟩;show 1<=(if 3<c.n+1 then 3 else c.n+1)/\(if 3<c.n+1 then 3 else c.n+1)<=3;split<;>omega;split
  .exact⟨⟨GH 1,(by decide:(1:Int)<=3)⟩,h0,p⟩
  exact⟨by show 1<=c.n-1/\c.n-1<=3;omega,q⟩
 refine⟨by rw[Gl];exact Nat.le_succ_of_le h.len,λc d=>?_,λc d=>?_⟩;rcases Gw d with d|d
 .exact h.n c d
 rw[d];exact r.1;rcases Gw d with d|d
 .exact h.dst c d
 rw[d];exact r.2;have f:∀c∈fl.take (lB fl e)++([⟨e,dst,1⟩]++fl.drop (lB fl e)),(1<=c.n/\c.n<=3)/\ -1<=c.dst/\c.dst<=3000:=by
  intro c d;rcases W_.1 d with d|d
  have:=GX d;exact⟨h.n c this,h.dst c this⟩;rcases W_.1 d with d|d
  .exact u c d
  have:=Hs d;exact⟨h.n c this,h.dst c this⟩
 refine⟨?_,λc d=>(f c d).1,λc d=>(f c d).2⟩;have:=h.len;simp only[I_,Gp,GQ,Id];omega
def xn{d:QR}(e:ia l hH hC=true)(h:d.Sublist (kO l hH hC)):(∀x∈d,0<=x/\x<=hC)/\d.Pairwise (· < ·):=by
 have n:=kn e;have i:kO l hH hC=(List.range (hC.toNat+1)).map Int.ofNat:=by unfold kO;rw[U_ e]
 rw[i]at h;refine⟨λx j=>?_,?_⟩;obtain⟨k,c,f⟩:=Ge.1 (h.subset j);have c:=GI.1 c;rw[<-f];show 0<=(k:Int)/\(k:Int)<=hC;omega;refine List.Pairwise.sublist h ?_;rw[List.pairwise_map];exact List.pairwise_lt_range.imp λ{a b} hab=>by show(a:Int)<(b:Int);omega
def tJ{d:QR}(f:ia l hH hC=true)(h:d.Sublist (kO l hH hC)):qS l hH hC d=true:=by
 obtain⟨n,p⟩:=xn f h;unfold qS;rw[f,Bool.and_true];have:i0 (bad d hC) (List.range d.length)=false:=by
  unfold i0;rw[List.any_eq_false];intro k c;have c:=GI.1 c;have j:d.getD k 0=d[k]:=by simp[List.getD,K_ c]
  have s:=n _ (N_ c);unfold bad;rw[j];by_cases q:0<k;have e:k-1<d.length:=X;have i:d.getD (k-1) 0=d[k-1]:=by simp[List.getD,K_ e]
  have r:=List.pairwise_iff_getElem.1 p (k-1) k e c X;rw[i];simp;omega;simp;omega
 rw[this];rfl
def uK{d:QR}(c:ia l hH hC=true)(h:d.Sublist (kO l hH hC)):d.length<=2049:=by
 have i:=kn c;have e:=h.length_le;have f:kO l hH hC=(List.range (hC.toNat+1)).map Int.ofNat:=by unfold kO;rw[U_ c]
 rw[f,Gg,HL]at e;omega
def Md.code(m:Md):∀c,c<3->m.g_[0+c]?=(#[.slice m.A m.l.length m.c,Y m.hH,Y m.hC]:Array Value)[c]?:=λc d=>by
 match c,d with
 |0,_=>rfl
 |1,_=>rfl
 |2,_=>rfl
def Md.world(m:Md):∀c,c<1->m.g_[3+c]?=(#[.slice m.aA m.lh.length m.ac]:Array Value)[c]?:=λc d=>by
 match c,d with
 |0,_=>rfl
def Md.div(m:Md):∀c,c<1->m.g_[4+c]?=(#[.slice m.dA m.d.length m.dc]:Array Value)[c]?:=λc d=>by
 match c,d with
 |0,_=>rfl
def Md.heap(m:Md):∀c,c<1->m.g_[5+c]?=(#[.slice m.s.h.A m.s.h.l.length m.s.h.c]:Array Value)[c]?:=λc d=>by
 match c,d with
 |0,_=>rfl
def Md.com(m:Md):∀c,c<10->m.g_[5+c]?=m.s.g_[c]?:=λc d=>by
 match c,d with
 |0,_=>rfl
 |1,_=>rfl
 |2,_=>rfl
 |3,_=>rfl
 |4,_=>rfl
 |5,_=>rfl
 |6,_=>rfl
 |7,_=>rfl
 |8,_=>rfl
 |9,_=>rfl
def Md.one(m:Md):m.g_.all (·.oneCell')=true:=by unfold Md.g_;simp[Value.oneCell']
def wP{a:Value}{x y c:Value}(hc:cs=#[x,y,c]):(Instr.build 43 #[(0,.agg cs),(1,.agg #[a])]).run prog w=.ok (.agg #[x,y,c,a,n_,n_,Y 0,Y 0,n_,.bool false,.bool false,.bool false,Y 0,Y 0,Y 0,n_,Y 0]) w:=by
 subst hc
 kernel_rfl
def lm.app{t:Tk}(h:lm w t)(k:App base 53 w w'):lm w' t:=
 ⟨k.sl h.gs I,k.sl h.rs I,k.sl h.ws I,k.sl h.nw I,k.DF I h.nr,k.sl h.ds I,k.sl h.h8 I,h.yy,h.k8,h.vQ,h.tj,h.r9,h.pP⟩
def me.app{s:Cm}(h:me w s)(k:App base 53 w w'):me w' s:=
 ⟨⟨k.sl h.h.os I,k.DF I h.h.k8,h.h.lR⟩,k.sl h.h8 I,h.pP⟩
def DD(h:o+vs.length<=cs.size)(c:Nat)(d:c<vs.length):(ve cs o vs)[o+c]?=vs[c]?:=by
 unfold ve;simp only[Iw];rw[Hk p_,GT p_];congr 1;simp;omega
def Cd(h:o+vs.length<=cs.size)(i:Nat)(c:i<o∨o+vs.length<=i):(ve cs o vs)[i]?=cs[i]?:=by
 unfold ve;simp only[Iw];rcases c with c|c
 rw[GT p_,G1,U_ c];simp;rw[Hk p_,Hk p_,H6];simp only[Gp,Ih];rw[show o+vs.length+(i-min o cs.size-vs.length)=i by omega];simp
structure pk(w:World)(gb:Nat)(cur:Array Value)(ts:QB):Prop where
 bk:Bk w gb 53 cur
 row:∀(i:Nat) (u:Value),(ts.flatMap λt=>t.g_.toList)[i]?=some u->cur[i]?=some u
def pk.sl(h:pk w gb cur ts):Ts w (j_ gb) ts:=
 ⟨kj _ 48 sT ts,λ_=>⟨gb,0,cur,_,rfl,h.bk,λd e c=>by rw[X_];exact h.row d e c⟩⟩
def pk.size(h:pk w gb cur ts):ts.length*48<=cur.size:=by
 rcases Ga cur.size (ts.length*48)with c|c
 have iF:(ts.flatMap λt=>t.g_.toList).length=ts.length*48:=kj _ 48 sT ts;have:=h.row _ _ (K_ (by omega:cur.size<(ts.flatMap λt=>t.g_.toList).length));simp at this;exact c
def pk.f_(h:pk w gb cur ts)(j:k<ts.length)(c:Nat)(d:c<48):w.cell? (Z gb (k*48+c))=(ts[k]).g_[c]?:=by
 have i:=ja (λt:Tk=>t.g_.toList) 48 sT ts k c j d;have e:c<(ts[k]).g_.size:=by rw[Tk.size];exact d
 have f:(ts[k]).g_.toList[c]?=some (ts[k]).g_[c]:=by simp[e]
 rw[Gb e,h.bk.f_];exact h.row _ _ (i.trans f)
def pk.at(h:pk w gb cur ts)(e:k<ts.length):∀c,c<(ts[k]).g_.size->cur[k*48+c]?=(ts[k]).g_[c]?:=by
 intro c d;rw[Tk.size]at d;rw[<-h.f_ e c d,h.bk.f_]
def pk.set(h:pk w gb cur ts)(j:k<ts.length)(t:Tk)(f:Bk w' gb 53 (ve cur (k*48) t.g_.toList)):pk w' gb (ve cur (k*48) t.g_.toList) (ts.set k t):=by
 have r:=h.size;have n:t.g_.toList.length=48:=rfl;have e:k*48+t.g_.toList.length<=cur.size:=by rw[n];omega
 refine⟨f,qF (λt:Tk=>t.g_.toList) 48 sT I ts k j t cur h.row (λd s c=>?_) (λp q=>?_)⟩;have i:d<t.g_.toList.length:=by
  rcases Ga d t.g_.toList.length with h|h
  exact h;rw[Gk h]at c;cases c
 rw[DD e d i];exact c;rw[Cd e p X]
def pk.iP{c:Nat}(h:w.ownsRow base 53 48 (.slice A ts.length c) ts.length (ts.flatMap λt=>t.g_.toList))(h0:0<ts.length):∃gb cur,A=some (Z gb 0)/\base<=gb/\pk w gb cur ts:=by
 obtain⟨g,cur,e,f,i,d⟩:=kK h h0;exact⟨g,cur,e,f,i,d⟩
def Md.BG(m:Md)(ts:QB)(h:ts.length=m.ts.length):{m with ts:=ts}.g_=m.g_:=by
 unfold Md.g_;rw[h]
def MW.row{w0 a b:World}{B g gr gx:Nat}{m:Md}(h:MW w0 B g gr gx m a)(c:Bk a gb 53 cs)(k:J [gb] a b)(f:w0.heap.size<=gb)(i:ts.length=m.ts.length)(j:Ts b m.tA ts)(n:∀t∈ts,lm a t):MW w0 B g gr gx {m with ts:=ts} b:=by
 have d:=h.i;refine⟨h.r.gr k (zu (h.r.l8 c I)),by rw[Md.BG m ts i];exact h.x.gr k (zu (h.x.l8 c I)),?_,h.d.ih k (λp e=>by rw[J_]at e;rw[e];exact G_ h.hB f),
  h.g.hI k (λp e=>.inr (by rw[J_]at e;rw[e];exact f)),h.hB,h.b1,h.b2,h.ne⟩
 exact⟨Sl.iq d.l c I k,Sl.iq d.lh c I k,d.al,Sl.iq d.d c I k,d.dl,d.s.iq c I k,j,λt h=>(n t h).iq c I k⟩
def DA(t:Tk):∀u∈t.g_.toList,u.oneCell'=true:=λu d=>by
 have c:=Tk.one t;rw[Ia]at c;exact c u (zu d)
def MW.append{w0 a b:World}{B g gr gx:Nat}{m:Md}(h:MW w0 B g gr gx m a)(k:App w0.heap.size 53 a b){c n:Nat}(j:ts.length=n)(p:Ts b A ts)(r:∀t∈ts,lm a t):
 MW w0 B g gr gx {m with tA:=A,tc:=c,ts:=ts} (b.setCell (Z gx 15) (.slice A n c)):=by
 subst j;have e:=k.bk h.x I;have d:J [gx] b (b.setCell (Z gx 15) (.slice A ts.length c)):=(F_ [gx] b).setCell (.inl H) _;have f:=h.i;refine⟨(k.bk h.r I).gr d (zu h.ne),e.hU 15 _,?_,(h.d.app k h.hB).ih d (λs i=>by rw[J_]at i;rw[i];exact G_ h.hB h.b2),?_,h.hB,h.b1,h.b2,h.ne⟩;exact⟨Sl.iq (k.sl f.l I) e I d,Sl.iq (k.sl f.lh I) e I d,f.al,Sl.iq (k.sl f.d I) e I d,f.dl,(f.s.app k).iq e I d,Sl.iq p e I d,λt h=>((r t h).app k).iq e I d⟩;exact(k.gr [g] w0 (H_ _) h.g).hI d (λs i=>.inr (by rw[J_]at i;rw[i];exact h.b2))
