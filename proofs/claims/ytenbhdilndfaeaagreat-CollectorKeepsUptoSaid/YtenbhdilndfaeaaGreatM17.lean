import Derived.Test.YtenbhdilndfaeaaGreatM06
import Derived.Test.YtenbhdilndfaeaaGreatM16
set_option maxRecDepth 100000
set_option maxHeartbeats 0
set_option linter.all false
namespace Go.Proofs.YtenbhdilndfaeaaGreat
open Go.RowKit Go.Proofs.Tryz
variable{G:Prop}(d:Nat)(r:Int)
def Jf(h:G:=by
 have cp:=bX.trans aP;clear aK bX aP;go_wp2_with fail;go_at_call 138;refine(iu base g _ bM (ov bg.len)).mono ?_;rintro e bN⟨rfl,bS,bA⟩;have cF:=N.simp (x:=⟨15,0,0,0,0⟩) I;have df:=bg.trans (GP.put _ ⟨15,0,0,0,0⟩);have aI:=cp.trans bA;go_wp2_with fail;go_at_call 138;refine(iu base g _ bS (ov df.len)).mono ?_;rintro e Nr⟨rfl,aT,T⟩;have b4:=cF.simp (x:=⟨9,0,0,0,r⟩) (lI 0 r X X bC X);have dO:=df.trans (GP.put _ ⟨9,0,0,0,r⟩);have aJ:=aI.trans T;go_wp2;refine en_ ?_;rw[ao.out];exact⟨rfl,_,_,aT,aJ,b4,dO.le X⟩):G:=h
def Ko(h:G:=by
 go_wp2_with (go_at_call 138;refine(iu base g v1 av X).mono ?_;rintro e w2⟨rfl,h2,Np⟩);refine en_ ?_;rw[ao.out];exact⟨rfl,_,_,h2,bw.trans Np,y.simp I,(a.trans (GP.put v1 _)).le X⟩):G:=h
def Lj(h:G:=by
 have e:s1.pv=.slice PA 3 pc:=by rw[<-dq,<-a.pv,<-b5];rfl
 have:=bT.hg.f_ 0;unfold GS.g_ at this;rw[e]at this;exact this):G:=h
def Ma(h:G:=by
 go_wp2;refine en_ ?_;rw[ao.out];exact⟨rfl,_,_,dG,(Gt.jD hg).trans dJ,dL,dN.le X⟩):G:=h
def infoIn:(prog.info? 189).map (λi=>(i.zero,i.size,i.bytes))=some (some (.agg #[Y 0,Y 0,Y 0,Y 0,Y 0]),5,40):=by kernel_rfl
def infoPa:(prog.info? 219).map (λi=>(i.zero,i.size,i.bytes))=some (some (.agg #[Y 0,Y 0]),2,16):=by kernel_rfl
def infoPI:(prog.info? 313).map (λi=>(i.zero,i.size,i.bytes))=some (some (.pointer none),1,8):=by kernel_rfl
def mW(e:TypeId)(w w':World):Prop:=w.heap.size<=w'.heap.size/\∀(k:Nat) (cs:Array Value) (fz:Nat × Nat),w.heap[k]?=some (.cells cs e fz)->w'.heap[k]?=some (.cells cs e fz)
section
variable{e t:TypeId}{w w' w'':World}{g base size n:Nat}{cs:Array Value}{v:Value}{xs:QW}
def mW.trans(h:mW e w w')(k:mW e w' w''):mW e w w'':=⟨G_ h.1 k.1,λf cs c i=>k.2 f cs c (h.2 f cs c i)⟩
def mW.jD(h:J [] w w'):mW e w w':=⟨h.size,λ_ _ _ c=>(h.block _ (kX c) H).trans c⟩
def mW.one(h:J [g] w w')(f:Bk w g t cs)(k:t≠e):mW e w w':=⟨h.size,λi d p c=>by
 have a:i≠g:=by
  rintro rfl;unfold Bk at f;rw[f]at c;injection c with c;injection c with _ m;exact k m
 exact(h.block i (kX c) (zu a)).trans c⟩
def mW.set(f:Bk w g t cs)(c:t≠e)(i:Nat)(u:Value):mW e w (w.setCell (Z g i) u):=.one ((F_ [g] w).setCell (p:=(Z g i)) (.inl H) u) f c
def qJ(h:w.ownsRow base t size v n xs){k:Nat}(c:v.ownBlock=some k):base<=k/\∃cs,Bk w k t cs:=by
 rcases h.2 with⟨rfl,_⟩|⟨g,p,f,rfl,i,m,_⟩
 cases c
 have:g=k:=by simpa[Value.ownBlock]using c
 subst this;exact⟨i,f,m⟩
def mW.app(i:w.grownBy w' v.ownBlock)(h:w.ownsRow base t size v n xs)(k:t≠e):mW e w w':=⟨i.size,λq d u c=>by
 refine(i.block q (kX c) λm=>?_).trans c;obtain⟨_,cs,f⟩:=qJ h m.symm;unfold Bk at f;rw[f]at c;injection c with c;injection c with _ p;exact k p⟩
def mW.own(k:mW e w w')(h:w.ownsRow base e size v n xs):w'.ownsRow base e size v n xs:=by
 refine⟨h.1,?_⟩;rcases h.2 with i|⟨g,q,f,rfl,m,p,c⟩
 exact .inl i;exact .inr ⟨g,q,f,rfl,m,k.2 _ _ _ p,c⟩
def mW.sl{A:OA}(k:mW e w w')(h:Sl w e size A n xs):Sl w' e size A n xs:=⟨h.1,λp=>by
 obtain⟨b,q,cs,c,f,i,m⟩:=h.2 p;exact⟨b,q,cs,c,f,k.2 _ _ _ i,m⟩⟩
def mW.bk(k:mW e w w')(h:Bk w g e cs):Bk w' g e cs:=k.2 _ _ _ h
def Gt.app{T:List TypeId}(i:w.grownBy w' v.ownBlock)(h:w.ownsRow base t size v n xs)(m:t∈T):Gt base T w w':=.grown i λg k=>by
 obtain⟨c,cs,f⟩:=qJ h k;exact⟨c,cs,t,_,f,m⟩
end
structure At where
 box:Nat
 A:Option Addr
 c:Nat
 is:List Int
structure GS where
 pv:Value
 VA:Option Addr
 vc:Nat
 vs:List ByteArray
 L:Option Addr
 lc:Nat
 l:List In
 hC:Int
 EA:Option Addr
 ec:Nat
 es:List Int
 FA:Option Addr
 fc:Nat
 fs:List Int
 CA:Option Addr
 cc:Nat
 cs:List (Int × Int)
 hidden:Int
 most:Int
 OA:Option Addr
 oc:Nat
 os:List At
 rt:List At
def GS.lg(s:GS):iX:=⟨s.pv,s.vs,s.l,s.hC,s.es,s.fs,s.cs,s.hidden,s.most,(s.os.map λa=>(a.box,a.is)),s.rt.map λa=>(a.box,a.is)⟩
def GS.g_(s:GS):Array Value:=#[s.pv,.slice s.L s.l.length s.lc,Y s.hC,.slice s.EA s.es.length s.ec,.slice s.FA s.fs.length s.fc,.slice s.CA s.cs.length s.cc,.slice s.VA s.vs.length s.vc,Y s.hidden,Y s.most,.slice s.OA s.os.length s.oc]
def nh(cs:List (Int × Int)):List Value:=cs.flatMap λp=>[Y p.1,Y p.2]
def GS.rows(s:GS):List (Value × List Int):=(.slice s.EA s.es.length s.ec,s.es)::(.slice s.FA s.fs.length s.fc,s.fs)::(s.rt++s.os).map λa=>(.slice a.A a.is.length a.c,a.is)
def gT:List TypeId:=[210,189,3,219,313,30]
structure ni(base:Nat)(w:World)(g:Nat)(s:GS):Prop where
 hg:Bk w g 210 s.g_
 hbg:base<=g
 hl:w.ownsRow base 189 5 (.slice s.L s.l.length s.lc) s.l.length (l3 s.l)
 hc:w.ownsRow base 219 2 (.slice s.CA s.cs.length s.cc) s.cs.length (nh s.cs)
 ho:w.ownsRow base 313 1 (.slice s.OA s.os.length s.oc) s.os.length (s.os.map λa=>q_ a.box)
 hb:∀a∈s.rt++s.os,Bk w a.box 30 #[.slice a.A a.is.length a.c]/\base<=a.box
 hbn:((s.rt++s.os).map At.box).Nodup
 hi:∀r∈s.rows,w.ownsRow base 3 1 r.1 r.2.length (r.2.map (Y))
 ku:(s.rows.filterMap λr=>r.1.ownBlock).Nodup
 hv:Bs w s.VA s.vs
 hz:base<=w.heap.size
def lM(base:Nat)(w:World)(g:Nat)(v:iX):Prop:=∃s:GS,s.lg=v/\ni base w g s
section
variable{base g:Nat}{w w':World}{s:GS}
def ni.hF(h:ni base w g s)(k:J [] w w'):ni base w' g s:=
 ⟨h.hg.hF k,h.hbg,iD h.hl k,iD h.hc k,iD h.ho k,λa c=>⟨(h.hb a c).1.hF k,(h.hb a c).2⟩,h.hbn,λr f=>iD (h.hi r f) k,h.ku,Sl.hF h.hv k,G_ h.hz k.size⟩
def lM.hF{v:iX}(h:lM base w g v)(k:J [] w w'):lM base w' g v:=by
 obtain⟨s,c,f⟩:=h;exact⟨s,c,f.hF k⟩
def ni.r6(h:ni base w g s){L:OA}{lc:Nat}{l:QS}{hC hidden most:Int}(f:Bk w' g 210 (GS.g_ {s with L:=L,lc:=lc,l:=l,hC:=hC,hidden:=hidden,most:=most}))
 (i:w'.ownsRow base 189 5 (.slice L l.length lc) l.length (l3 l)) (k:∀e∈[219,313,30,3,9],mW e w w'):
 ni base w' g {s with L:=L,lc:=lc,l:=l,hC:=hC,hidden:=hidden,most:=most}:=
 ⟨f,h.hbg,i,(k _ H).own h.hc,(k _ H).own h.ho,λa c=>⟨(k 30 H).bk (h.hb a c).1,(h.hb a c).2⟩,h.hbn,λr m=>(k 3 H).own (h.hi r m),h.ku,(k 9 H).sl h.hv,G_ h.hz (k 9 H).1⟩
end
def BY(base g:Nat)(v:iX)(u:Value)(w:World)(e:Ending)(w':World):Prop:=e=.returned u/\lM base w' g v/\Gt base gT w w'
def EB(base g:Nat)(s:GS)(x:In)(w:World)(e:Ending)(w':World):Prop:=∃(L:OA) (lc:Nat),e=.returned (Y s.l.length)/\ni base w' g {s with L:=L,lc:=lc,l:=s.l++[x]}/\Gt base gT w w'/\∀e,e≠189->e≠210->mW e w w'
def mM(base g:Nat)(s:GS)(o a b c n:Int)(w:World)(h:ni base w g s)(hn:s.l.length<=100000):
 Calls prog 138 #[q_ g,Y o,Y a,Y b,Y c,Y n] w (EB base g s ⟨o,a,b,c,n⟩ w):=by
 refine h6 λQ E=>?_;obtain⟨M,F,L,D,C⟩:=info_parts infoIn;have W:w.cell? (Z g 1)=some (.slice s.L s.l.length s.lc):=h.hg.f_ 1;obtain⟨B,U,V,hx,p,R⟩:=box1 w 189 #[Y o,Y a,Y b,Y c,Y n];have i:=h.hF p;have k:=i.hl;have K:Sl B 189 5 (j_ U) 1 (l3 [⟨o,a,b,c,n⟩]):=jh (n:=1) R rfl;have T:=i.hz;go_enter func138,ntmps138;go_wp2_with (at_builtin;refine jZ rfl rfl base 189 M 5 40 underlying24 F L D C rfl I I s.L s.l.length s.lc _ rfl k _ 1 1 _ rfl K (xP) X T ?_;intro m u x J q _;have f:=(mW.app (e:=210) q k I).bk i.hg;have f7:=f.hG 1;have ad:x.cell? (Z g 1)=some (.slice s.L s.l.length s.lc):=f.f_ 1);rw[E.out];have A:=f.hU 1 (.slice m (s.l.length+1) u);have y:∀e,e≠189->e≠210->mW e w (x.setCell (Z g 1) (.slice m (s.l.length+1) u)):=λe O d=>((mW.jD p).trans (.app q k (Ne.symm O))).trans (.set f (Ne.symm d) _ _);refine⟨m,u,kh H,h.r6 (hidden:=s.hidden) (most:=s.most) (hC:=s.hC) ?_ ?_ λe z=>y e (by rintro rfl;revert z;decide) (by rintro rfl;revert z;decide),?_,y⟩;unfold GS.g_;rw[I_];exact A;rw[I_,ue];exact(mW.set f I _ _).own J;exact((Gt.jD p).trans (.app q k I)).trans (.set f i.hbg I _ _)
def iu(base g:Nat)(v:iX){o a b c n:Int}{w:World}(h:lM base w g v)(m:v.l.length<=100000):
 Calls prog 138 #[q_ g,Y o,Y a,Y b,Y c,Y n] w (BY base g (v.put ⟨o,a,b,c,n⟩) (Y v.l.length) w):=by
 obtain⟨s,rfl,h⟩:=h;exact(mM base g s o a b c n w h m).mono λe w'⟨p,q,f,i,k,_⟩=>⟨f,⟨_,rfl,i⟩,k⟩
def ni.set{base g:Nat}{w:World}{s:GS}(h:ni base w g s)(i:Nat)(u:Value){hC hidden most:Int}(c:s.g_.setIfInBounds i u=GS.g_ {s with hC:=hC,hidden:=hidden,most:=most}):
 ni base (w.setCell ⟨g,i,none⟩ u) g {s with hC:=hC,hidden:=hidden,most:=most}:=
 h.r6 (L:=s.L) (lc:=s.lc) (l:=s.l) (by rw[<-c];exact h.hg.hU i u) ((mW.set h.hg I i u).own h.hl) λe f=>.set h.hg (by rintro rfl;revert f;decide) i u
def ni.zC{base g:Nat}{w:World}{s:GS}(h:ni base w g s)(i:Nat)(u:Value):Gt base gT w (w.setCell ⟨g,i,none⟩ u):=.set h.hg h.hbg I i u
def EE(base g:Nat)(s:GS)(w:World)(e:Ending)(w':World):Prop:=∃(L:OA) (lc:Nat),e=.returned (Y s.l.length)/\ni base w' g {s with L:=L,lc:=lc,l:=s.l++[⟨21,0,0,0,s.hC⟩],hC:=s.hC+1}/\Gt base gT w w'/\∀e,e≠189->e≠210->mW e w w'
def rU(base g:Nat)(s:GS)(w:World)(h:ni base w g s)(x:s.l.length<=100000)(h0:0<=s.hC)(f:s.hC<=100000):
 Calls prog 136 #[.pointer (some ⟨g,0,none⟩)] w (EE base g s w):=by
 refine h6 λQ p=>?_;have z:w.cell? ⟨g,2,none⟩=some (Y s.hC):=h.hg.f_ 2;have A:=h.hg.hG 2;have i:=O (h.set 2 (Y (s.hC+1)) (hC:=s.hC+1) (hidden:=s.hidden) (most:=s.most) rfl);have HB:=O (h.zC 2 (Y (s.hC+1)));have q:=O h.hg;go_enter func136,ntmps136;go_wp2_with (go_at_call 138;refine(mM base g _ 21 0 0 0 s.hC _ i.out x).mono ?_;rintro e B⟨k,y,rfl,c,m,u⟩);rw[p.out];exact⟨k,y,rfl,c,HB.out.trans m,λe f c=>(mW.set q.out (Ne.symm c) _ _).trans (u e f c)⟩
def mN(base g:Nat){v:iX}{w:World}(h:lM base w g v)(k:v.l.length<=100000)(h0:0<=v.hC)(c:v.hC<=100000):
 Calls prog 136 #[.pointer (some ⟨g,0,none⟩)] w (BY base g v.mark (Y v.l.length) w):=by
 obtain⟨s,rfl,h⟩:=h;exact(rU base g s w h k h0 c).mono λe w'⟨m,p,c,f,i,_⟩=>⟨c,⟨_,rfl,f⟩,i⟩
def tt(base g:Nat)(v:iX){w:World}(h:lM base w g v)(h0:0<=v.hidden)(C:v.hidden<=100000)(F:0<=v.most)(H:v.most<=100000)(y:v.vs.length<=100000):
 Calls prog 206 #[.pointer (some ⟨g,0,none⟩)] w (BY base g v.more (Y (v.vs.length+v.hidden)) w):=by
 refine h6 λQ z=>?_;obtain⟨s,rfl,h⟩:=h;have a:0<=s.hidden:=h0;have E:s.hidden<=100000:=C;have b:s.vs.length<=100000:=y;have i:w.cell? ⟨g,7,none⟩=some (Y s.hidden):=h.hg.f_ 7;have A:=h.hg.hG 7;have c:=h.set 7 (Y (s.hidden+1)) (hC:=s.hC) (hidden:=s.hidden+1) (most:=s.most) rfl;have HB:=O (h.zC 7 (Y (s.hidden+1)));go_enter func206,ntmps206;go_upto_region 2 with fail;obtain⟨k,q⟩:=mn_ (w.setCell ⟨g,7,none⟩ (Y (s.hidden+1)));rw[q]at c HB |-;clear q i A;have i:k.cell? ⟨g,7,none⟩=some (Y (s.hidden+1)):=c.hg.f_ 7;have x:k.cell? ⟨g,8,none⟩=some (Y s.most):=c.hg.f_ 8;have B:=c.hg.hG 8
 go_region
 go_upto_region 3 with fail;have f:=(c.set 8 (Y (if s.most<s.hidden+1 then s.hidden+1 else s.most)) (hC:=s.hC) (hidden:=s.hidden+1) (most:=if s.most<s.hidden+1 then s.hidden+1 else s.most) rfl).hF (F_ [] _).drew;have p:=O ((c.zC 8 (Y (if s.most<s.hidden+1 then s.hidden+1 else s.most))).trans (.jD (F_ [] _).drew));obtain⟨m,u⟩:=mn_ ((k.setCell ⟨g,8,none⟩ (Y (if s.most<s.hidden+1 then s.hidden+1 else s.most))).drew);rw[u]at f p |-;clear u i x B;have D:m.cell? ⟨g,6,none⟩=some (.slice s.VA s.vs.length s.vc):=f.hg.f_ 6;have i:m.cell? ⟨g,7,none⟩=some (Y (s.hidden+1)):=f.hg.f_ 7
 go_quiet (fail);go_wp2;rw[z.out];refine⟨kh (by simp only[GS.lg];omega),⟨_,?_,f.hF ((F_ [] _).drewN _)⟩,(HB.out.trans p.out).trans (.jD ((F_ [] _).drewN _))⟩;have e:(if s.most<s.hidden+1 then s.hidden+1 else s.most)=max s.most (s.hidden+1):=by split<;>omega
 simp only[GS.lg,iX.more,e]
def Ey(w:World)(e:Ending)(w':World):Prop:=∃r:Int,0<=r/\r<=9/\e=.returned (Y r)/\w=w'
def lp(base g:Nat)(v:iX){x:ByteArray}{w:World}(h:lM base w g v)(f:v.vs.length<=9):
 Calls prog 204 #[.pointer (some ⟨g,0,none⟩),.string x] w (Ey w):=by
 refine h6 λQ y=>?_;obtain⟨s,rfl,h⟩:=h;have A:=h.hv;have f:s.vs.length<=9:=f;have k:w.cell? ⟨g,6,none⟩=some (.slice s.VA s.vs.length s.vc):=h.hg.f_ 6;generalize s.vs=p at A f k;obtain⟨n,m⟩:=mn_ p.length;have u:=O m;rw[m]at f k;clear m;go_enter func204,ntmps204;go_wp2
 go_loop [12] (λi=>∃c:Nat,c<=n/\i=Y c) (λi=>n-(intOf i).toNat)
 case atStart=>exact⟨0,L_ _,gn⟩
 obtain⟨c,F,rfl⟩:=hrel;by_cases D:c<n
 .obtain⟨b,H,C,z⟩:=Sl.f_ A (ov u.out);have B:c<p.length:=ov u.out;have E:=z c (.string p[c]) (by rw[GF,K_ B];rfl);rw[C]at k;clear z;go_wp2
  .rw[y.out];exact⟨c,X,X,rfl,rfl⟩
  go_round;exact⟨c+1,X,gn⟩;exact mz
 go_wp2;rw[y.out];exact⟨0,X,X,rfl,rfl⟩
def yo{w:World}{base:Nat}{e:TypeId}{size n c g:Nat}{xs:QW}(h:w.ownsRow base e size (.slice (some ⟨g,0,none⟩) n c) n xs)(i:Nat)(u:Value):(w.setCell ⟨g,i,none⟩ u).ownsRow base e size (.slice (some ⟨g,0,none⟩) n c) n (xs.set i u):=by
 refine⟨by rw[Gl];exact h.1,?_⟩;rcases h.2 with⟨k,F⟩|⟨j,C,m,k,y,A,p,q,x,B⟩
 cases k
 injection k with f E z;injection f with f;injection f with f;subst f;have D:Bk w g e m:=A;refine .inr ⟨g,C,_,(by rw[z]),y,D.hU i u,p,q,by simpa using x,?_⟩;rw[<-B,Ii,List.take_set]
def pI{m:Type}(E:m->List Value)(s:Nat)(f:∀a,(E a).length=s):∀(l:List m) (k j:Nat) (r:m) (u:Value) (c:k<l.length),j<s->E r=(E l[k]).set j u->(l.flatMap E).set (k*s+j) u=(l.set k r).flatMap E
 |[],k,j,r,u,c,_,_=>by simp at c
 |a::l,0,j,r,u,c,h,i=>by
  simp only[Gi,H1,X_,Ho];rw[List.set_append_left _ _ (by rw[f];exact h),i];rfl
 |a::l,k+1,j,r,u,c,h,i=>by
  have e:(k+1)*s+j=s+(k*s+j):=by rw[Hp,Io];omega
  simp only[Gi,Hh];rw[e,Iv _ _ (by rw[f];omega),f,Nat.add_sub_cancel_left,pI E s f l k j r u (zu c) h i]
def y6(v:Int)(l:QS)(k:Nat)(m:k<l.length):mm v l k=l.set k (l[k].pb v):=by
 refine HU (by simp[mm]) λh c i=>?_;rw[uv v l k h (by rw[lJ]at c;exact c),List.getElem_set];simp only[GZ];split;rename_i f;subst f;rfl;rfl
def qO(v:Int)(l:QS)(k:Nat)(c:k<l.length):(l3 l).set (k*5+4) (Y v)=l3 (mm v l k):=by
 rw[y6 v l k c];exact pI In.E 5 (λ_=>rfl) l k 4 _ _ c X rfl
def vU:Value:=.tuple #[]
def mO(base g:Nat){v:iX}(A:OA)(n c:Nat)(is:QR){w:World}(h:lM base w g v)(hl:v.l.length<=100000)(hA:Ns w 3 A is)(V:is.length=n)(hi:∀i∈is,0<=i/\i<v.l.length)(bI:n<=100000):
 Calls prog 205 #[.pointer (some ⟨g,0,none⟩),.slice A n c] w (BY base g (v.here is) vU w):=by
 refine h6 λQ ao=>?_;have K:=O V;clear V;go_enter func205,ntmps205;go_wp2;go_loopw [8] (λC w'=>∃f:Nat,f<=n/\C=Y f/\lM base w' g {v with l:=lS v.l.length v.l (is.take f)}/\Gt base gT w w'/\mW 3 w w') (λC _=>n-(intOf C).toNat)
 case atStart=>exact⟨0,L_ _,gn,by simpa[lS]using h,.refl _ _ _,.jD (F_ [] _)⟩
 obtain⟨f,hk,rfl,m,M,T⟩:=hrel;obtain⟨s,x,m⟩:=m;by_cases ag:f<n
 .have y:f<is.length:=ov K.out;obtain⟨b,off,aQ,U⟩:=Sl.f_ (T.sl hA) X;have W:=U f (Y is[f]) (by rw[GF,K_ y];rfl);subst aQ;clear U;have dN:=hi is[f] (N_ y);obtain⟨i,B⟩:∃i:Nat,is[f]=i:=⟨is[f].toNat,X⟩;have aN:=O B;rw[B]at W dN;clear B;have p:s.l=lS v.l.length v.l (is.take f):=Z_ iX.l x;have H:s.l.length=v.l.length:=by rw[p,i9]
  have z:i<s.l.length:=X;obtain⟨G,cur,D,cU,u,t⟩:=kK m.hl X;have ah:wr.cell? ⟨g,1,none⟩=some (.slice (some ⟨G,0,none⟩) s.l.length s.lc):=by rw[<-D];exact m.hg.f_ 1
  have bL:=u.hG (i*5+4);have ay:wr.cell? ⟨G,i*5+4,none⟩=some (Y s.l[i].n):=(u.f_ _).trans (t _ _ ((ja In.E 5 (λ_=>rfl) s.l i 4 z X).trans rfl));have bD:=O p;have dh:=O H;have R:=O D;have d:=O x;obtain⟨k,F⟩:=mn_ s.l.length;have HM:=O F;rw[F]at ah z;clear p H D x F;go_upto_region 3 with fail
  go_region
  go_wp2;go_roundw
  case rel=>
   have bR:mW 3 wr (wr.setCell ⟨G,i*5+4,none⟩ (Y k)):=.set u I _ _;have a:∀e,e≠189->mW e wr (wr.setCell ⟨G,i*5+4,none⟩ (Y k)):=λe E=>.set u (Ne.symm E) _ _;have p:=m.hl;rw[R.out]at p;have J:=yo p (i*5+4) (Y k);rw[qO k s.l i (by rw[HM.out];exact z)]at J;have j:s.g_=GS.g_ {s with l:=mm k s.l i}:=by unfold GS.g_;simp only[lJ]
   have ad:=(m.r6 (w':=wr.setCell ⟨G,i*5+4,none⟩ (Y k)) (L:=s.L) (lc:=s.lc) (l:=mm k s.l i) (hC:=s.hC) (hidden:=s.hidden) (most:=s.most) (by rw[<-j];exact(a _ I).bk m.hg) (by rw[R.out,lJ];exact J) λe E=>a e (by rintro rfl;revert E;decide)).hF (F_ [] _).drew;refine⟨f+1,X,gn,⟨_,?_,ad⟩,M.trans ((Gt.set u cU I _ _).trans (.jD (F_ [] _).drew)),(T.trans bR).trans (.jD (F_ [] _).drew)⟩;have Z:lS v.l.length v.l (is.take (f+1))=mm k s.l i:=by
    rw[Q_ y,aN.out,bD.out];have:(k:Int)=v.l.length:=by rw[<-HM.out,dh.out]
    rw[this];unfold lS;rw[HO];rfl
   have aG:=d.out;rw[Z];exact LZ
  case measure=>exact mz
 go_wp2;refine en_ ?_;rw[ao.out];have:f=n:=X;subst this;exact⟨rfl,⟨s,by rw[x,F7 (ov K.out)];rfl,m⟩,M⟩
def ET.at_{w:World}{A:OA}{l:QE}(h:Sl w 226 5 A l.length (l.flatMap ET.E)){k:Nat}(i:k<l.length):∃b off,A=some (Z b off)/\w.cell? (Z b (off+k*5))=some (Y l[k].h7)/\w.cell? (Z b (off+k*5+1))=some (Y l[k].n)/\
 w.cell? (Z b (off+k*5+2))=some (.string l[k].name)/\w.cell? (Z b (off+k*5+3))=some (Y l[k].op)/\w.cell? (Z b (off+k*5+4))=some (.slice l[k].A l[k].l.length l[k].c):=by
 obtain⟨b,off,hA,hc⟩:=Sl.f_ h X;have g:=λj f=>ja ET.E 5 (λ_=>rfl) l k j i f;exact La
def Bk.cells5{w:World}{g:Nat}{t:TypeId}{a b c d e:Value}(h:Bk w g t #[a,b,c,d,e]):w.cell? (Z g 0)=some a/\w.cell? (Z g 1)=some b/\w.cell? (Z g 2)=some c/\w.cell? (Z g 3)=some d/\w.cell? (Z g 4)=some e:=h.c5
def oJ(base g:Nat)(v:iX)(D n:Nat)(w:World)(e:Ending)(w':World):Prop:=e=.returned vU/\∃v' q',lM base w' g v'/\Gt base gT w w'/\GK v' q' D/\GP v v' n
def zX:Nat->Nat|0=>1|d+1=>1+2*zX d
def qL:1<=zX d:=by induction d with|zero=>decide|succ d c=>unfold zX;omega
def GK.sb{v:iX}{q:Int}{c:Nat}(h:GK v q c):0<=v.hC/\v.hC<=v.l.length:=by
 rw[h.ok.xo];refine⟨by unfold jG;omega,?_⟩;unfold jG;have:=GC (λf:In=>f.op==21) v.l;omega
def Do(base g:Nat)(V:QU)(d:Nat)(t:ET):Prop:=∀(r:Int) (v:iX) (q:Int) (D:Nat) (p:Nat->Prop) (w:World),0<=r->r+d<16->kw p w t->lM base w g v->GK v q D->v.l.length+zX d<=100000->
 Calls prog 203 #[q_ g,.agg t.g_,Y r] w (oJ base g v D (zX d) w)
def Az(n:Int)(h0:0<=r)(c:r<16):lN ⟨1,r,0,0,n⟩=true:=by simp[lN,jX,i7,mr];omega
def pr(n:Int)(h0:0<=r)(c:r<16)(f:0<=n)(h:n<64):lN ⟨8,r,0,0,n⟩=true:=by simp[lN,jX,i7,mr];omega
def AC(n:Int)(h0:0<=r)(c:r<16)(f:0<=n)(h:n<=16):lN ⟨7,r,0,0,n⟩=true:=by simp[lN,jX,i7,mr];omega
def y5(n:Int)(h0:0<=r)(c:r<16)(f:0<=n)(h:n<16):lN ⟨5,r,r,0,n⟩=true:=by simp[lN,jX,i7,mr];omega
def AD(n:Int)(h0:0<=r)(c:r+1<16)(f:1<=n)(h:n<=11):lN ⟨4,r,r,r+1,n⟩=true:=by simp[lN,jX,i7,mr,pE];omega
def lI(n:Int)(h0:0<=r)(c:r<16)(f:0<=n)(h:n<64):lN ⟨9,r,0,0,n⟩=true:=by simp[lN,jX,i7,mr];omega
def Bx(base g:Nat)(V:QU)(d:Nat)(n:Int):Do base g V d (jx n):=by
 intro r v K z J w q H _ k i iF;refine h6 λQ p=>?_;have x:=qL d;obtain⟨m,y,C,I,f,c⟩:=box1 w 226 (jx n).g_;replace c:Bk m y 226 #[Y 1,Y n,.string ByteArray.empty,Y 0,n_]:=c;obtain⟨A,D,F,B,E⟩:=c.cells5;go_enter func203,ntmps203;go_wp2_with (go_at_call 138;refine(iu base g v (k.hF f) X).mono ?_;rintro e L⟨rfl,u,h⟩);refine en_ ?_;rw[p.out];exact⟨rfl,_,_,u,(Gt.jD f).trans h,i.simp (Az r n q X),(GP.put v _).le x⟩
def By(base g:Nat)(V:QU)(d:Nat)(n:Int)(y:0<=n)(J:n<=3):Do base g V d (eNew n):=by
 intro r v M A L w q I _ k i iF;refine h6 λQ p=>?_;have x:=qL d;obtain⟨m,z,D,K,f,c⟩:=box1 w 226 (eNew n).g_;replace c:Bk m z 226 #[Y 6,Y n,.string ByteArray.empty,Y 0,n_]:=c;obtain⟨B,E,H,C,F⟩:=c.cells5;go_enter func203,ntmps203;go_wp2_with (go_at_call 138;refine(iu base g v (k.hF f) X).mono ?_;rintro e O⟨rfl,u,h⟩);refine en_ ?_;rw[p.out];exact⟨rfl,_,_,u,(Gt.jD f).trans h,i.simp (AC r n q X y X),(GP.put v _).le x⟩
def wD(base g:Nat)(V:QU)(d:Nat)(s:ByteArray):Do base g V d (jy s):=by
 intro r v R C O w x L _ i h iF;refine h6 λQ p=>?_;have z:=qL d;have u:=h.v1;obtain⟨m,B,F,M,f,c⟩:=box1 w 226 (jy s).g_;replace c:Bk m B 226 #[Y 3,Y 0,.string s,Y 0,n_]:=c;obtain⟨D,H,J,E,I⟩:=c.cells5;go_enter func203,ntmps203;go_wp2_with (first|(go_at_call 204;refine(lp base g v (i.hF f) u).mono ?_;rintro e T⟨A,q,K,rfl,rfl⟩)|(go_at_call 138;refine(iu base g v (i.hF f) X).mono ?_;rintro e U⟨rfl,y,k⟩));refine en_ ?_;rw[p.out];exact⟨rfl,_,_,y,(Gt.jD f).trans k,h.simp (pr r A x X q X),(GP.put v _).le z⟩
def xT(base g:Nat)(V:QU)(d:Nat)(n:Int)(A:OA)(s:ByteArray)(W:0<=n)(hn1:n<=2):Do base g V (d+1) (pK n A (jy s)):=by
 intro r v ad C z w u x i J F iF;refine h6 λQ M=>?_;have hd:=qL d;have j:v.l.length+(1+2*zX d)<=100000:=iF;obtain⟨m,ae,aV,hx,f,c⟩:=box1 w 226 (pK n A (jy s)).g_;replace c:Bk m ae 226 #[Y 4,Y n,.string ByteArray.empty,Y 0,.slice A 1 1]:=c;have q:Sl w 226 5 A [jy s].length ([jy s].flatMap ET.E):=by cases i with|mk t h _ _ _=>exact h
 have Z:kw z w (jy s):=by cases i with|mk t _ _ _ h=>exact h _ (by simp[ET.l,pK])
 obtain⟨b,off,U,K,c1,L,c3,R⟩:=ET.at_ (q.hF f) (k:=0) H;subst U;simp only[H1,HC]at K c1 L c3 R;obtain⟨af,ah,ay,aS,ax⟩:=c.cells5;have D:=O (wD base g V d s r v ad C z m u X (Z.hF f) (J.hF f) F X);clear q i;go_enter func203,ntmps203;go_wp2_with (first|(go_at_call 203;refine D.out.mono ?_;rintro e w1⟨rfl,B,br,x,y,ag,p⟩;have P:=c.gt y I;obtain⟨z0,aR,aZ,z3,z4⟩:=P.cells5;have hl1:=p.len)|(go_at_call 138;refine(iu base g B x X).mono ?_;rintro e w2⟨rfl,T,E⟩));refine en_ ?_;rw[M.out];exact⟨rfl,_,_,T,((Gt.jD f).trans y).trans E,(ag.simp (y5 r n u X W X)),(p.trans (GP.put B _)).le (show zX d+1<=1+2*zX d by omega)⟩
def Bz(base g:Nat)(V:QU)(d:Nat)(o:Int)(A:OA)(a b:ET)(dw:1<=o)(cO:o<=11)(c:Do base g V d a)(i:Do base g V d b):Do base g V (d+1) (p5 o A a b):=by
 intro r v ad z u w h0 h1 p Nv Nu iF;refine h6 λQ ao=>?_;have hd:=qL d;have j:v.l.length+(1+2*zX d)<=100000:=iF;obtain⟨D,ae,aV,hx,f,m⟩:=box1 w 226 (p5 o A a b).g_;replace m:Bk D ae 226 #[Y 5,Y 0,.string ByteArray.empty,Y o,.slice A 2 2]:=m;have x:Sl w 226 5 A [a,b].length ([a,b].flatMap ET.E):=by cases p with|mk t h _ _ _=>exact h
 have ag:kw u w a:=by cases p with|mk t _ _ _ h=>exact h _ (by simp[ET.l,p5])
 have bp:kw u w b:=by cases p with|mk t _ _ _ h=>exact h _ (by simp[ET.l,p5])
 obtain⟨bE,off,hA,E,c1,M,c3,c4⟩:=ET.at_ (x.hF f) (k:=0) H;subst hA;simp only[H1,HC,Ha]at E c1 M c3 c4;obtain⟨ai,ah,ay,aS,ax⟩:=m.cells5;have ak:=O (c r v ad z u D h0 X (ag.hF f) (Nv.hF f) Nu X);have b8:=O (x.hF f);have bS:=O (bp.hF f);clear x p ag bp;go_enter func203,ntmps203;go_wp2_with fail;go_at_call 203;refine ak.out.mono ?_;rintro e w1⟨rfl,v1,br,bg,q,al,R⟩;have P:=m.gt q I;obtain⟨z0,K,L,z3,z4⟩:=P.cells5;have hl1:=R.len;obtain⟨G,am,y,B,T,Z,W,F⟩:=ET.at_ (b8.out.gt q I) (k:=1) H;injection y with y;injection y with bo an;subst bo;subst an;simp only[Io,HV,Ha]at B T Z W F;have ap:=O (i (r+1) v1 br z u w1 X X (bS.out.gt q I) bg al X);clear E c1 M c3 c4 ai ah ay aS ax;go_wp2_with fail;go_at_call 203;refine ap.out.mono ?_;rintro e w2⟨rfl,J,bG,aM,C,cJ,U⟩;have bH:=P.gt C I;have bO:=U.len;clear z0 K L z3 z4 B T Z W F;obtain⟨z0,K,L,z3,z4⟩:=bH.cells5;go_wp2_with (go_at_call 138;refine(iu base g J aM X).mono ?_;rintro e af⟨rfl,h3,S⟩);refine en_ ?_;rw[ao.out];exact⟨rfl,_,_,h3,(((Gt.jD f).trans q).trans C).trans S,(cJ.simp (AD r o h0 X dw cO)),((R.trans U).trans (GP.put J _)).le (show zX d+zX d+1<=1+2*zX d by omega)⟩
def o3(base g:Nat)(V:QU)(d:Nat)(t:ET)(h:EG V d t):Do base g V d t:=by
 induction h with
 |num d n _ _=>exact Bx base g V d n
 |var d s _=>exact wD base g V d s
 |new d n c f=>exact By base g V d n c f
 |field d n i s c f _=>exact xT base g V d n i s c f
 |bin d o i a b c f _ _ m k=>exact Bz base g V d o i a b c f m k
section
variable{P:Program}{md:Region.Mode}{S:World->Prop}{N:Nat}{Q:Exit->Act->World->Prop}
section
variable{ops:Array Oper}{o:Oper}{rest:QZ}{a:Act}{w:World}{l:QZ}{tl:QW}{ds:List Deferred}{j d:Nat}{oj:Oper}{r:QZ}{r2:QW}{b b':Bool}{v:Value}
def Dv(hg:o.guard=none)(h:wpList P ops Q rest (a.put o.dst v) w)(hy:(execOp a.eval o).run P w=.ok (.value v) w:=by first|(go_simp;done)|(go_simp;with_reducible rfl)):wpList P ops Q (o::rest) a w:=iv hg hy h
end
end
def ot{C:TypeId}{P:Program}{w:World}{ops:Array Oper}{o:Oper}{a:Act}{K:Act->World->Prop}{Q:Exit->Act->World->Prop}{E:Prop}(F:o.guard=none)(s x:Operand)(t:TypeId)
 (T:o.op=.call {callee:=.builtin .append,args:=#[s,x],argTypes:=#[t,t]})
 (base:Nat) (e:TypeId) (i:TypeInfo) {D:Value} (size bytes:Nat) (W:P.underlying t=some (.slice e)) (R:P.info? e=some i) (Y:i.zero=some D)
 (q:i.size=size) (p:i.bytes=bytes) (y:D.cells.size=size) (J:0<size) (L:0<bytes)
 (k:OA) (n z:Nat) {xs:QW} (V:a.eval s=.slice k n z) (M:w.ownsRow base e size (.slice k n z) n xs)
 {A:OA} (m c:Nat) {B:QW} (X:a.eval x=.slice A m c) (U:Sl w C size A m B) (O:∀u∈B,u.oneCell'=true)
 (f:(n+m)*bytes<=140737488355328) (I:base<=w.heap.size)
 (h:∀(A':OA) (c':Nat) (w':World),w'.ownsRow base e size (.slice A' (n+m) c') (n+m) (xs++B)->w.grownBy w' (Value.slice k n z).ownBlock->((Value.slice A' (n+m) c').ownBlock=(Value.slice k n z).ownBlock∨(Value.slice A' (n+m) c').ownBlock=some w.heap.size)->K (a.put o.dst (.slice A' (n+m) c')) w'):
 if Region.wanted o (yielded ops a.tmps)=true then Oper.wp P o a w K Q else E:=by
 have H:Region.wanted o (yielded ops a.tmps)=true:=by simp[Region.wanted,F]
 rw[U_ H];exact oO s x t T base e i D size bytes W R Y q p y J L k n z xs V M A m c B X U O f I h
def At.row(a:At):Value × List Int:=(.slice a.A a.is.length a.c,a.is)
def GS.pre(s:GS)(M:List At):List (Value × List Int):=(.slice s.EA s.es.length s.ec,s.es)::(.slice s.FA s.fs.length s.fc,s.fs)::M.map At.row
def GS.qj(s:GS)(M:List At)(a:At)(h:s.os=M++[a]):s.rows=s.pre (s.rt++M)++[a.row]:=by
 unfold GS.rows GS.pre;rw[h,<-GE,Gd];rfl
def kl{l:List (Value × List Int)}{x:Value × List Int}:((l++[x]).filterMap λr=>r.1.ownBlock).Nodup↔(l.filterMap λr=>r.1.ownBlock).Nodup/\∀b,x.1.ownBlock=some b->∀r∈l,r.1.ownBlock≠some b:=by
 rw[List.filterMap_append,HJ];cases k:x.1.ownBlock with
 |none=>simp[k]
 |some c=>
  simp only[List.filterMap_cons,k,List.filterMap_nil];constructor;rintro⟨f,_,m⟩;refine⟨f,λb p r i h=>?_⟩;cases p
  exact m c (IJ.2 ⟨r,i,h⟩) c H rfl;rintro⟨f,m⟩;refine⟨f,H,λz p y u=>?_⟩;have:y=c:=zu u;subst this;obtain⟨r,i,h⟩:=IJ.1 p;rintro rfl;exact m _ rfl r i h
def ni.DR{base g:Nat}{w w':World}{s:GS}(h:ni base w g s)(M:List At)(a:At)(B:s.os=M++[a])(A':OA)(c' n:Nat)(i:Int)(hn:a.is.length=n)
 (D:w.grownBy w' (Value.slice a.A n a.c).ownBlock) (V:w'.ownsRow base 3 1 (.slice A' (n+1) c') (n+1) (a.is.map (Y)++[Y i]))
 (q:(Value.slice A' (n+1) c').ownBlock=(Value.slice a.A n a.c).ownBlock∨(Value.slice A' (n+1) c').ownBlock=some w.heap.size):
 Bk w' a.box 30 #[.slice a.A n a.c]/\ni base (w'.setCell (Z a.box 0) (.slice A' (n+1) c')) g {s with os:=M++[{a with A:=A',c:=c',is:=a.is++[i]}]}/\Gt base gT w (w'.setCell (Z a.box 0) (.slice A' (n+1) c')):=by
 subst hn;have l:=s.qj M a B;have C:=h.ku;rw[l,kl]at C;have R:=h.hi a.row (by rw[l];simp);have j:∀e,e≠3->mW e w w':=λe f=>.app D R (Ne.symm f);have y:s.rt++s.os=(s.rt++M)++[a]:=by rw[B,GE]
 obtain⟨X,U⟩:=h.hb a (by rw[y];simp);have z:=(j _ I).bk X;have o:∀e,e≠30->mW e w' (w'.setCell (Z a.box 0) (.slice A' (a.is.length+1) c')):=λe f=>.set z (Ne.symm f) _ _;have x:=λe E F=>(j e E).trans (o e F);have O:=h.hbn;rw[y,Gd,HJ]at O;have W:Gt base gT w (w'.setCell (Z a.box 0) (.slice A' (a.is.length+1) c')):=(Gt.app D R I).trans (.set z U I _ _);have iF:(M++[({a with A:=A',c:=c',is:=a.is++[i]}:At)]).length=s.os.length:=by rw[B];simp
 have T:GS.rows {s with os:=M++[({a with A:=A',c:=c',is:=a.is++[i]}:At)]}=s.pre (s.rt++M)++[(.slice A' (a.is.length+1) c',a.is++[i])]:=by
  rw[GS.qj _ M {a with A:=A',c:=c',is:=a.is++[i]} rfl];simp[At.row,GS.pre]
 refine⟨z,⟨?_,h.hbg,(x _ I I).own h.hl,(x _ I I).own h.hc,?_,?_,?_,?_,?_,(x _ I I).sl h.hv,G_ h.hz (x 9 I I).1⟩,W⟩;have K:GS.g_ {s with os:=M++[({a with A:=A',c:=c',is:=a.is++[i]}:At)]}=s.g_:=by unfold GS.g_;rw[iF]
 rw[K];exact(x _ I I).bk h.hg;have:=(x _ I I).own h.ho;rw[B]at this;exact No;intro u m;have d:u∈(s.rt++M)++[({a with A:=A',c:=c',is:=a.is++[i]}:At)]:=by rw[GE];exact m
 rcases W_.1 d with m|m
 obtain⟨E,F⟩:=h.hb u (by rw[y];exact Gn _ m);refine⟨((j _ I).bk E).ih (p:=(Z a.box 0)) (λf=>?_) _,F⟩;exact O.2.2 u.box (Ge.2 ⟨u,m,rfl⟩) a.box H f;have:u={a with A:=A',c:=c',is:=a.is++[i]}:=zu m;subst this;refine⟨?_,U⟩;have:=z.hU 0 (.slice A' (a.is.length+1) c');show Bk _ a.box _ #[.slice A' (a.is++[i]).length c'];rw[I_];exact this;have:=h.hbn;rw[y]at this;exact No;intro r k;rw[T]at k;refine(o 3 I).own ?_;rcases W_.1 k with k|k
 refine n6 (h.hi r (by rw[l];exact Gn _ k)) (J.iR D) λu m f=>?_;exact C.2 u (jK.1 m) r k f;have:r=(.slice A' (a.is.length+1) c',a.is++[i]):=zu k;subst this;simpa using V;rw[T,kl];refine⟨C.1,λb L r k f=>?_⟩;rcases q with K|K
 exact C.2 b (K.symm.trans L) r k f;have ag:=(kD (h.hi r (by rw[l];exact Gn _ k)) f).2;have:some w.heap.size=some b:=K.symm.trans L;injection this;omega
def tR(i:Int):∀(l:List (Nat × List Int)) (a:Nat × List Int),qV i (l++[a])=l++[(a.1,a.2++[i])]
 |[],a=>rfl
 |[b],a=>rfl
 |b::c::l,a=>by
  have:=tR i (c::l) a;simp only[Hx]at this |-;rw[qV,this]
def oo(base g:Nat){v:iX}{w:World}(h:lM base w g v)(A:v.l.length<=100000)(y:∀a∈v.ats,a.2.length<=100000)(c6:v.ats.length<=100000):
 Calls prog 217 #[q_ g] w (BY base g v.protect vU w):=by
 refine h6 λQ ao=>?_;obtain⟨s,rfl,h⟩:=h;have A:s.l.length<=100000:=A;rcases List.eq_nil_or_concat s.os with f|⟨x,a,f⟩
 .have T:w.cell? (Z g 9)=some (.slice s.OA 0 s.oc):=by have:=h.hg.f_ 9;unfold GS.g_ at this;rw[f]at this;exact this
  have E:=O (mM base g s 17 0 0 0 0 w h A);have b:=O f;clear f;go_enter func217,ntmps217;go_wp2_with (go_at_call 138;refine E.out.mono ?_;rintro e m⟨L,lc,rfl,u,D,F⟩);refine en_ ?_;rw[ao.out];refine⟨rfl,⟨_,?_,u⟩,D⟩;simp only[GS.lg,iX.protect,b.out];rfl
 rw[List.concat_eq_append]at f;obtain⟨bu,bB,bt,a7,a6⟩:=info_parts infoInt;have a2:a.is.length<=100000:=y (a.box,a.is) (by simp[GS.lg,f]);obtain⟨n,R⟩:=mn_ a.is.length;obtain⟨c,J⟩:=mn_ x.length;have B:s.os.length=c+1:=by rw[f];simp[J]
 have cI:c+1<=100000:=by
  have:s.os.length<=100000:=by simpa[GS.lg]using c6
  omega
 have T:w.cell? (Z g 9)=some (.slice s.OA (c+1) s.oc):=by have:=h.hg.f_ 9;unfold GS.g_ at this;rw[B]at this;exact this
 obtain⟨K,cur,C,_,j,t⟩:=kK h.ho X;have H:w.cell? (Z K c)=some (q_ a.box):=(j.f_ c).trans (t c _ (by rw[f];simp[<-J]));have M:=(h.hb a (by rw[f];simp)).1;rw[R]at M a2;have dE:w.cell? (Z a.box 0)=some (.slice a.A n a.c):=M.f_ 0;rw[C]at T;have E:=O (mM base g s 17 0 0 0 0 w.drew (h.hF (F_ [] w).drew) A);have b:=O f;have aX:=O R;have G:=O C;have bg:=O B;have HB:=O j;clear f R C J B t;go_enter func217,ntmps217;go_upto_region 2 with fail;have aM:IntKind.i64.wrap (c:Int)=c:=Gm _ X;have cH:(c:Int)<(c:Int)+1:=X;refine hN (λw'=>w'.cell? (Z g 9)=some (.slice (j_ K) (c+1) s.oc)/\w'.cell? (Z K c)=some (q_ a.box)/\w'.cell? (Z a.box 0)=some (.slice a.A n a.c)) 23 k_ ?_;refine mC ⟨T,H,dE⟩ λk=>?_;repeat refine j2 k ?_
 refine hY 19 λp i=>?_;go_simp;go_at_call 138;refine E.out.mono ?_;rintro e m⟨L,lc,rfl,u,D,F⟩;have bH:=(F 313 I I).bk HB.out;clear k;refine h4 i (
  ⟨by have:=u.hg.f_ 9;unfold GS.g_ at this;rw[G.out,bg.out]at this;exact this,(bH.f_ c).trans ((HB.out.f_ c).symm.trans H),((F 30 I I).bk M).f_ 0⟩) λk=>?_
 clear i p;refine hY 20 λp i=>?_;go_simp;refine i.out _ _ (λ_=>⟨jB k.1 _,jB k.2.1 _,jB k.2.2 _⟩) ?_;clear i p;have q:=u.hF ((F_ [] m).alloc (.cells #[Y s.l.length] 3));have bn:Sl (m.alloc (.cells #[Y s.l.length] 3)) 3 1 (j_ m.heap.size) 1 [Y s.l.length]:=jh (n:=1) (s:=1) (P_ m 3 _) rfl;have S:Gt base gT w (m.alloc (.cells #[Y s.l.length] 3)):=((Gt.jD (F_ [] w).drew).trans D).trans (.jD ((F_ [] m).alloc _));have bq:=bH.alloc (.cells #[Y s.l.length] 3);obtain⟨af,U⟩:=nm_ (m.alloc (.cells #[Y s.l.length] 3));rw[<-U]at q bn S bq |-;clear U k;obtain⟨cx,z⟩:=nm_ ({s with L:=L,lc:=lc,l:=s.l++[⟨17,0,0,0,0⟩]}:GS);rw[<-z]at q;have d:=O z
 have bE:cx.os=x++[a]:=by rw[z];exact b.out
 have V:=q.hi a.row (by rw[cx.qj x a bE];simp);have ad:=by have:=V;unfold At.row at this;simp only at this;rw[aX.out]at this;exact this
 clear z V u;refine hY 21 λp i=>?_;refine ot rfl (.tmp 27) (.tmp 30) 30 rfl base 3 bu 1 8 underlying30 bB bt a7 a6 rfl I I a.A n a.c rfl ad 1 1 rfl bn (by intro ag hu;simp at hu;subst hu;rfl) X q.hz ?_;intro A' c' ae ak bI ah;obtain⟨aj,au,ai⟩:=q.DR x a bE A' c' n s.l.length aX.out bI ak ah;have W:∀e,e≠3->mW e af ae:=λe he=>.app bI ad (Ne.symm he);refine h4 i (by
  refine⟨?_,((W _ I).bk bq).f_ c |>.trans ((HB.out.f_ c).symm.trans H),aj.f_ 0⟩;refine(((W _ I).bk q.hg).f_ 9).trans ?_;rw[d.out];show some (Value.slice s.OA s.os.length s.oc)=_;rw[G.out,bg.out]) λk=>?_
 clear i p;refine ir 22 k ?_;have bA:=aj.hG 0;refine hY 23 λp i=>?_;go_simp;refine i.out _ _ (λh=>Gc h I) ?_;refine hM k_ ?_ _;go_wp2;refine rn_ ?_;rw[ao.out];refine⟨rfl,⟨_,?_,au⟩,S.trans ai⟩;rw[d.out];simp only[GS.lg,iX.protect,b.out,Gd,Gx,Hf];rw[tR]
def nu(w:World)(pv:Value):Prop:=∃(PA:OA) (c:Nat) (fs:QF),pv=.slice PA 3 c/\fs.length=3/\B1 w PA fs/\tX p4 fs 0=1/\tX pD fs 0=2
def nu.gt{base:Nat}{w w':World}{pv:Value}(h:nu w pv)(u:Gt base gT w w'):nu w' pv:=by
 obtain⟨c,i,k,m,p,q,f⟩:=h;exact⟨c,i,k,m,p,Sl.gt q u I,f⟩
def Dh(base g:Nat)(V:QU)(D:Nat):Prop:=∀(N:Nat) (t:ST) (v:iX) (q:Int) (p:Nat->Prop) (w:World),l4 V D N [t]->jL p w t->nu w v.pv->lM base w g v->GK v q D->v.l.length+30*N<=100000->
 Calls prog 175 #[q_ g,.agg t.g_] w (oJ base g v D (30*N) w)
def uW(base g:Nat)(V:QU)(D:Nat):Prop:=∀(N:Nat) (A:OA) (n c:Nat) (ts:QV) (v:iX) (q:Int) (p:Nat->Prop) (w:World),ts.length=n->n<=100000->l4 V D N ts->Sl w 229 8 A n (ts.flatMap ST.E)->(∀u∈ts,jL p w u)->nu w v.pv->lM base w g v->GK v q D->v.l.length+30*N<=100000->
 Calls prog 137 #[q_ g,.slice A n c] w (oJ base g v D (30*N) w)
def ST.at_{w:World}{A:OA}{l:QV}{n:Nat}(h:Sl w 229 8 A n (l.flatMap ST.E))(q:l.length=n){k:Nat}(p:k<l.length):∃b c,A=some (Z b c)/\w.cell? (Z b (c+k*8))=some (Y l[k].h7)/\w.cell? (Z b (c+k*8+1))=some (.string l[k].name)/\
 w.cell? (Z b (c+k*8+2))=some (.string l[k].fn)/\w.cell? (Z b (c+k*8+3))=some (Y l[k].n)/\w.cell? (Z b (c+k*8+4))=some (Y l[k].op)/\
 w.cell? (Z b (c+k*8+5))=some (.slice l[k].AE l[k].es.length l[k].cE)/\w.cell? (Z b (c+k*8+6))=some (.slice l[k].AB l[k].bs.length l[k].cB)/\w.cell? (Z b (c+k*8+7))=some (.slice l[k].AL l[k].ls.length l[k].cL):=by
 obtain⟨b,c,i,f⟩:=Sl.f_ h X;have g:=λj m=>ja ST.E 8 (λ_=>rfl) l k j p m;exact⟨b,c,i,f (k*8+0) _ (g 0 X),f (k*8+1) _ (g 1 X),f (k*8+2) _ (g 2 X),f (k*8+3) _ (g 3 X),f (k*8+4) _ (g 4 X),f (k*8+5) _ (g 5 X),f (k*8+6) _ (g 6 X),f (k*8+7) _ (g 7 X)⟩
def Bk.i4{w:World}{g:Nat}{t:TypeId}{a b c d e f i j:Value}(h:Bk w g t #[a,b,c,d,e,f,i,j]):w.cell? (Z g 0)=some a/\w.cell? (Z g 1)=some b/\w.cell? (Z g 2)=some c/\w.cell? (Z g 3)=some d/\w.cell? (Z g 4)=some e/\w.cell? (Z g 5)=some f/\w.cell? (Z g 6)=some i/\w.cell? (Z g 7)=some j:=
 ⟨h.f_ 0,h.f_ 1,h.f_ 2,h.f_ 3,h.f_ 4,h.f_ 5,h.f_ 6,h.f_ 7⟩
def l4.one{V:QU}{f N:Nat}{t:ST}(h:l4 V f N [t]):∃r nb nl c L,f=r+1/\N=1+nb+nl/\m_ V t.h7 t.name t.fn t.n t.op t.es.length c L/\(c=false->t.bs=[])/\(L=false->t.ls=[])/\(∀e∈t.es,EG V 2 e)/\l4 V r nb t.bs/\l4 V r nl t.ls:=by
 cases h with
 |cons f a b nb nl t l c L h i k p m q x u=>
  cases u
  exact⟨f,nb,nl,c,L,rfl,X,h,i,k,p,m,q⟩
def jL.parts{p:Nat->Prop}{w:World}{t:ST}(h:jL p w t):Sl w 226 5 t.AE t.es.length (t.es.flatMap ET.E)/\(∀u∈t.es,kw p w u)/\Sl w 229 8 t.AB t.bs.length (t.bs.flatMap ST.E)/\(∀u∈t.bs,jL p w u)/\Sl w 229 8 t.AL t.ls.length (t.ls.flatMap ST.E)/\(∀u∈t.ls,jL p w u):=by
 cases h with
 |mk t i A x k c z C f m B y q=>exact⟨i,k,c,f,m,q⟩
def l4.len{V:QU}{c N:Nat}{l:QV}(h:l4 V c N l):l.length<=N:=by
 induction h with
 |nil c=>simp
 |cons c a b nb A t l f i h m p x u y q z _ _ k=>simp only[Y_];omega
def FJ(base g:Nat)(v:iX)(D n:Nat)(w w':World):Prop:=∃v' q',lM base w' g v'/\Gt base gT w w'/\GK v' q' D/\GP v v' n
def m_.rng{V:QU}{k n o:Int}{x f:ByteArray}{m:Nat}{c L:Bool}(h:m_ V k x f n o m c L):m<=2:=by cases h<;>omega
def ni.wK{base g:Nat}{w w':World}{s:GS}(h:ni base w g s)(p:Int × Int)(A':OA)(c':Nat)(i:w.grownBy w' (Value.slice s.CA s.cs.length s.cc).ownBlock)
 (m:w'.ownsRow base 219 2 (.slice A' (s.cs.length+1) c') (s.cs.length+1) (nh s.cs++nh [p])):
 Bk w' g 210 s.g_/\ni base (w'.setCell (Z g 5) (.slice A' (s.cs.length+1) c')) g {s with CA:=A',cc:=c',cs:=s.cs++[p]}/\Gt base gT w (w'.setCell (Z g 5) (.slice A' (s.cs.length+1) c')):=by
 have j:∀e,e≠219->mW e w w':=λe f=>.app i h.hc (Ne.symm f);have d:=(j _ I).bk h.hg;have o:∀e,e≠210->mW e w' (w'.setCell (Z g 5) (.slice A' (s.cs.length+1) c')):=λe f=>.set d (Ne.symm f) _ _;have c:∀e,e≠219->e≠210->mW e w (w'.setCell (Z g 5) (.slice A' (s.cs.length+1) c')):=λe q u=>(j e q).trans (o e u);refine⟨d,⟨?_,h.hbg,(c _ I I).own h.hl,?_,(c _ I I).own h.ho,λa k=>⟨(c 30 I I).bk (h.hb a k).1,(h.hb a k).2⟩,h.hbn,λr x=>(c 3 I I).own (h.hi r x),h.ku,(c 9 I I).sl h.hv,G_ h.hz (c 9 I I).1⟩,(Gt.app i h.hc I).trans (.set d h.hbg I _ _)⟩;have:=d.hU 5 (.slice A' (s.cs.length+1) c');exact Ni;rw[I_];have e:nh (s.cs++[p])=nh s.cs++nh [p]:=by simp[nh]
 rw[e];exact(o _ I).own m
def Ay(n:Int)(h0:0<=n)(c:n<16):lN ⟨6,1,0,0,n⟩=true:=by simp[lN,jX,i7,mr];omega
def AA(o r:Int)(c:o=1∨o=6∨o=9)(h0:0<=r)(f:r<64):lN ⟨10,0,o,0,r⟩=true:=by
 rcases c with rfl|rfl|rfl<;>simp[lN,jX,i7,mr,rB]<;>omega
def vX(base g:Nat)(V:QU)(al:Nat)(k:Int)(x f:ByteArray)(n o:Int)(F:OA)(R:Nat)(es:QE)(AB:OA)(cB:Nat)(M:QV)(AL:OA)(cL:Nat)(W:QV)(v:iX)(q:Int)(p:Nat->Prop)(w:World)(an L:Bool)(nb nl:Nat)(ca:uW base g V al)(cq:l4 V al nb M)(d6:l4 V al nl W)(aX:Sl w 229 8 AB M.length (M.flatMap ST.E))(cI:∀u∈M,jL p w u)(ct:Sl w 229 8 AL W.length (W.flatMap ST.E))(cN:∀u∈W,jL p w u)
 (E:m_ V k x f n o es.length an L) (aT:k≠9) (bl:k≠6) (au:k≠5) (hes:∀e∈es,EG V 2 e) (bn:Sl w 226 5 F es.length (es.flatMap ET.E)) (ku:∀u∈es,kw p w u) (hP:nu w v.pv) (Nv:lM base w g v) (c:GK v q (al+1)) (iF:v.l.length+30*(1+nb+nl)<=100000):
 Calls prog 175 #[q_ g,.agg (ST.mk k x f n o F R es AB cB M AL cL W).g_] w (oJ base g v (al+1) (30*(1+nb+nl)) w):=by
 refine h6 λQ ao=>?_;obtain⟨aA,hm⟩:=mn_ es.length;have cH:=E.rng;rw[hm]at cH E;have HM:=O hm;have bK:=O E;obtain⟨bd,U,aV,hx,hg,hB⟩:=box1 w 229 (ST.mk k x f n o F R es AB cB M AL cL W).g_;replace hB:Bk bd U 229 #[Y k,.string x,.string f,Y n,Y o,.slice F aA R,.slice AB M.length cB,.slice AL W.length cL]:=by rw[<-hm];exact hB
 have d5:(k==9)=false:=zu aT;have d4:(k==6)=false:=zu bl;have dk:(k==5)=false:=zu au;obtain⟨bf,ah,ay,aS,ax,bP,bQ,bh⟩:=hB.i4;have Nw:=Nv.hF hg;have b8:=O (bn.hF hg);have cV:=O (λu z=>(ku u z).hF hg:∀u∈es,kw p bd u);have aU:=O (hP.gt (.jD hg:Gt base gT w bd));have c6:=O (hP.gt (.jD hg:Gt base gT w bd));have d8:=O aX;have d9:=O ct;go_enter func175,ntmps175;go_upto_region 8 with fail;have bV:=O aV;have be:=O hx;go_loopw [27] (λaq w'=>∃k:Nat,k<=aA/\aq=Y k/\FJ base g v (al+1) (7*k) bd w') (λaq _=>aA-(intOf aq).toNat)
 case atStart=>exact⟨0,L_ _,gn,v,q,Nw,.refl _ _ _,c,.refl _⟩
 obtain⟨J,hi,rfl,v1,br,av,bY,y,aw⟩:=hrel;have hl1:=aw.len;by_cases ag:J<aA
 .have i:J<es.length:=ov HM.out;obtain⟨b,off,hA,C,c1,D,c3,K⟩:=ET.at_ (b8.out.gt bY I) i;subst hA;have m:=o3 base g V 2 es[J] (hes _ (N_ i));have A:=(cV.out _ (N_ i)).gt bY I;generalize es[J]=e at C c1 D c3 K m A;obtain⟨bm,bz,b6,hg1,G,P⟩:=box1 wr 226 #[Y e.h7,Y e.n,.string e.name,Y e.op,.slice e.A e.l.length e.c];obtain⟨bf,ah,ay,aS,ax⟩:=P.cells5;have B:=O (m J v1 br (al+1) p bm X X (A.hF G) (av.hF G) y (show v1.l.length+7<=100000 by omega));go_wp2_with fail;refine B.out.mono ?_;rintro aG w2⟨rfl,aQ,H,cR,S,cJ,bF⟩;go_wp2;go_roundw;exact⟨J+1,X,gn,aQ,H,cR,(bY.trans (.jD G)).trans S,cJ,(aw.trans bF).le (show 7*J+7<=7*(J+1) by omega)⟩;exact mz
 have P:=hB.gt bY I;obtain⟨bf,ah,ay,aS,ax,bP,bQ,bh⟩:=P.i4;have bw:Gt base gT w wr:=(Gt.jD hg).trans bY;go_upto_region 13 with(go_at_call 204;refine(lp base g v1 av y.v1).mono ?_;rintro e w1⟨r,bC,bJ,rfl,rfl⟩);have a:GP v v1 14:=aw.le X;have bO:=a.len;have cS:=y.sb;have dr:=O (aU.out.gt bY);have E:=bK.out;rcases E with⟨_,d⟩|⟨_,dw,cO⟩|⟨_,d⟩|⟨_,d⟩|_|⟨_,d⟩|_|_|_|⟨_,d⟩|_|⟨_,d⟩|⟨_,d,_,eY⟩
 .go_wp2_with (go_at_call 138;refine(iu base g v1 av X).mono ?_;rintro e w2⟨rfl,h2,Np⟩);refine en_ ?_;rw[ao.out];exact⟨rfl,_,_,h2,bw.trans Np,y.simp (lI 0 r X X bC X),(a.trans (GP.put v1 _)).le X⟩
 .go_wp2_with (go_at_call 138;refine(iu base g v1 av X).mono ?_;rintro e w2⟨rfl,h2,Np⟩);refine en_ ?_;rw[ao.out];exact⟨rfl,_,_,h2,bw.trans Np,y.simp (Ay n dw X),(a.trans (GP.put v1 _)).le X⟩
 .have co:=dr.out;obtain⟨PA,pc,dX,dq,bZ,dV,bT,H⟩:=dr.out;have aN:=O bT;have bE:=O bZ;have dB:=O dV;obtain⟨s1,b5,bT⟩:=av;have cW:=O b5;have z0:wr.cell? (Z g 0)=some (.slice PA 3 pc):=Lj;go_upto_region 21 with fail;refine hN (λw'=>w'.cell? (Z g 0)=some (.slice PA 3 pc)/\w'.cell? (Z U 2)=some (.string p4)) 6 k_ ?_;refine mC ⟨z0,ay⟩ λi=>?_;iterate 6 refine j2 i ?_
  refine hY 6 λD c=>?_;go_simp;go_at_call 170;refine(nP PA 3 pc dX p4 _ bE.out (Sl.hF dB.out (F_ [] _).drew) X).mono ?_;rintro e w2⟨rfl,C⟩;rw[aN.out];replace C:=(F_ [] wr).drew.trans C;refine c.out _ _ (λh=>Gc h I) ?_;try simp only[a_]
  refine hY 7 λD c=>?_;go_simp;refine c.out _ _ (λh=>Gc h I) ?_;try simp only[a_]
  refine hM k_ ?_ _;go_upto_region 22 with fail;have H:=bT.hF C;have bH:=P.hF C;have dH:=bw.trans (.jD C);have z5:w2.cell? (Z g 5)=some (.slice s1.CA s1.cs.length s1.cc):=H.hg.f_ 5;have bP:w2.cell? (Z U 5)=some (.slice F 2 R):=bH.f_ 5;refine hN (λw'=>w'.cell? (Z g 5)=some (.slice s1.CA s1.cs.length s1.cc)/\w'.cell? (Z U 5)=some (.slice F 2 R)) 16 k_ ?_;have i:w2.drew.cell? (Z g 5)=some (.slice s1.CA s1.cs.length s1.cc)/\w2.drew.cell? (Z U 5)=some (.slice F 2 R):=⟨z5,bP⟩;have hls:s1.l.length<=100000:=by
   have e:s1.l=v1.l:=Z_ iX.l cW.out;rw[e];omega
  have aE:s1.cs.length<=100000:=by
   have e:s1.cs=v1.cs:=Z_ iX.cs cW.out;rw[e];have:=y.ok.zZ;omega
  (iterate 9 refine j2 i ?_)
  refine ir 10 i ?_;refine hY 9 λD c=>?_;go_simp;go_at_call 138;refine(mM base g s1 13 0 2 0 0 _ (H.hF (F_ [] _).drew) hls).mono ?_;rintro e A⟨ea,ep,rfl,bv,S,cg⟩;have bq:=bH.drew.gt S I;refine h4 c ⟨bv.hg.f_ 5,bq.f_ 5⟩ λi=>?_;refine ir 11 i ?_;refine hY 12 λD c=>?_;go_simp;refine c.out _ _ (λ_=>⟨jB i.1 _,jB i.2 _⟩) ?_;have bn:Sl (A.alloc (.cells #[Y s1.l.length,Y 1] 219)) 219 2 (j_ A.heap.size) 1 (nh [((s1.l.length:Int),1)]):=jh (n:=1) (s:=2) (P_ A 219 _) rfl;have B:=bv.hF ((F_ [] A).alloc (.cells #[Y s1.l.length,Y 1] 219));have K:=((dH.trans (.jD (F_ [] w2).drew)).trans S).trans (.jD ((F_ [] A).alloc (.cells #[Y s1.l.length,Y 1] 219)));have bR:=bq.alloc (.cells #[Y s1.l.length,Y 1] 219);obtain⟨ae,dW⟩:=nm_ (A.alloc (.cells #[Y s1.l.length,Y 1] 219));rw[<-dW]at bn B K bR |-;obtain⟨bu,bB,bt,a7,a6⟩:=info_parts infoPa
  try simp only[a_]
  refine hY 13 λD c=>?_;refine ot rfl (.tmp 74) (.tmp 82) 206 rfl base 219 bu 2 16 underlying206 bB bt a7 a6 rfl I I s1.CA s1.cs.length s1.cc rfl B.hc 1 1 rfl bn (by intro u z;simp[nh]at z;rcases z with rfl|rfl<;>rfl) X B.hz ?_;intro aW c5 Nq ar dh _;obtain⟨aO,b7,aC⟩:=B.wK _ aW c5 dh ar;have bo:=(mW.app (e:=229) dh B.hc I).bk bR;refine h4 c ⟨aO.f_ 5,bo.f_ 5⟩ λi=>?_;(iterate 2 refine j2 i ?_);have f5:=aO.hG 5;have z5:=i.1;refine hY 16 λD c=>?_;go_simp;refine c.out _ _ (λh=>Gc h I) ?_;refine hM k_ ?_ _;have aK:lM base (Nq.setCell (Z g 5) (.slice aW (s1.cs.length+1) c5)) g (v1.call 2 1):=⟨_,by rw[<-cW.out];rfl,b7⟩;have bX:=K.trans aC;obtain⟨az,cw⟩:=nm_ (Nq.setCell (Z g 5) (.slice aW (s1.cs.length+1) c5));rw[<-cw]at aK bX |-;clear cw b7 aC aO B bv H K bo bR bq
  go_wp2_with fail;go_at_call 136;refine(mN base g aK (ov ((GP.call v1 2 1).len)) cS.1 (by have:=cS.2;show v1.hC<=100000;omega)).mono ?_;rintro e aF⟨rfl,bM,aP⟩;have N:=y.wL 2 1 X X X X;have bg:=(a.trans (GP.call v1 2 1)).trans (GP.mark _);exact Jf
 .have co:=dr.out;obtain⟨PA,pc,dX,dq,bZ,dV,bT,H⟩:=dr.out;have aN:=O H;have bE:=O bZ;have dB:=O dV;obtain⟨s1,b5,bT⟩:=av;have cW:=O b5;have z0:wr.cell? (Z g 0)=some (.slice PA 3 pc):=Lj;go_upto_region 21 with fail;refine hN (λw'=>w'.cell? (Z g 0)=some (.slice PA 3 pc)/\w'.cell? (Z U 2)=some (.string pD)) 6 k_ ?_;refine mC ⟨z0,ay⟩ λi=>?_;iterate 6 refine j2 i ?_
  refine hY 6 λD c=>?_;go_simp;go_at_call 170;refine(nP PA 3 pc dX pD _ bE.out (Sl.hF dB.out (F_ [] _).drew) X).mono ?_;rintro e w2⟨rfl,C⟩;rw[aN.out];replace C:=(F_ [] wr).drew.trans C;refine c.out _ _ (λh=>Gc h I) ?_;try simp only[a_]
  refine hY 7 λD c=>?_;go_simp;refine c.out _ _ (λh=>Gc h I) ?_;try simp only[a_]
  refine hM k_ ?_ _;go_upto_region 22 with fail;have H:=bT.hF C;have bH:=P.hF C;have dH:=bw.trans (.jD C);have z5:w2.cell? (Z g 5)=some (.slice s1.CA s1.cs.length s1.cc):=H.hg.f_ 5;have bP:w2.cell? (Z U 5)=some (.slice F 1 R):=bH.f_ 5;refine hN (λw'=>w'.cell? (Z g 5)=some (.slice s1.CA s1.cs.length s1.cc)/\w'.cell? (Z U 5)=some (.slice F 1 R)) 16 k_ ?_;have i:w2.drew.cell? (Z g 5)=some (.slice s1.CA s1.cs.length s1.cc)/\w2.drew.cell? (Z U 5)=some (.slice F 1 R):=⟨z5,bP⟩;have hls:s1.l.length<=100000:=by
   have e:s1.l=v1.l:=Z_ iX.l cW.out;rw[e];omega
  have aE:s1.cs.length<=100000:=by
   have e:s1.cs=v1.cs:=Z_ iX.cs cW.out;rw[e];have:=y.ok.zZ;omega
  (iterate 9 refine j2 i ?_)
  refine ir 10 i ?_;refine hY 9 λD c=>?_;go_simp;go_at_call 138;refine(mM base g s1 13 0 1 0 0 _ (H.hF (F_ [] _).drew) hls).mono ?_;rintro e A⟨ea,ep,rfl,bv,S,cg⟩;have bq:=bH.drew.gt S I;refine h4 c ⟨bv.hg.f_ 5,bq.f_ 5⟩ λi=>?_;refine ir 11 i ?_;refine hY 12 λD c=>?_;go_simp;refine c.out _ _ (λ_=>⟨jB i.1 _,jB i.2 _⟩) ?_;have bn:Sl (A.alloc (.cells #[Y s1.l.length,Y 2] 219)) 219 2 (j_ A.heap.size) 1 (nh [((s1.l.length:Int),2)]):=jh (n:=1) (s:=2) (P_ A 219 _) rfl;have B:=bv.hF ((F_ [] A).alloc (.cells #[Y s1.l.length,Y 2] 219));have K:=((dH.trans (.jD (F_ [] w2).drew)).trans S).trans (.jD ((F_ [] A).alloc (.cells #[Y s1.l.length,Y 2] 219)));have bR:=bq.alloc (.cells #[Y s1.l.length,Y 2] 219);obtain⟨ae,dW⟩:=nm_ (A.alloc (.cells #[Y s1.l.length,Y 2] 219));rw[<-dW]at bn B K bR |-;obtain⟨bu,bB,bt,a7,a6⟩:=info_parts infoPa
  try simp only[a_]
  refine hY 13 λD c=>?_;refine ot rfl (.tmp 74) (.tmp 82) 206 rfl base 219 bu 2 16 underlying206 bB bt a7 a6 rfl I I s1.CA s1.cs.length s1.cc rfl B.hc 1 1 rfl bn (by intro u z;simp[nh]at z;rcases z with rfl|rfl<;>rfl) X B.hz ?_;intro aW c5 Nq ar dh _;obtain⟨aO,b7,aC⟩:=B.wK _ aW c5 dh ar;have bo:=(mW.app (e:=229) dh B.hc I).bk bR;refine h4 c ⟨aO.f_ 5,bo.f_ 5⟩ λi=>?_;(iterate 2 refine j2 i ?_);have f5:=aO.hG 5;have z5:=i.1;refine hY 16 λD c=>?_;go_simp;refine c.out _ _ (λh=>Gc h I) ?_;refine hM k_ ?_ _;have aK:lM base (Nq.setCell (Z g 5) (.slice aW (s1.cs.length+1) c5)) g (v1.call 1 2):=⟨_,by rw[<-cW.out];rfl,b7⟩;have bX:=K.trans aC;obtain⟨az,cw⟩:=nm_ (Nq.setCell (Z g 5) (.slice aW (s1.cs.length+1) c5));rw[<-cw]at aK bX |-;clear cw b7 aC aO B bv H K bo bR bq
  go_wp2_with fail;go_at_call 136;refine(mN base g aK (ov ((GP.call v1 1 2).len)) cS.1 (by have:=cS.2;show v1.hC<=100000;omega)).mono ?_;rintro e aF⟨rfl,bM,aP⟩;have N:=y.wL 1 2 X X X X;have bg:=(a.trans (GP.call v1 1 2)).trans (GP.mark _);exact Jf
 .have cf:=c6.out;have cx:=d8.out.hF hg;have dM:=d9.out.hF hg;have bL:∀u∈M,jL p bd u:=λu z=>(cI u z).hF hg;have dy:∀u∈W,jL p bd u:=λu z=>(cN u z).hF hg;go_wp2_with fail;go_at_call 138;refine(iu base g _ av (ov a.len)).mono ?_;rintro e dZ⟨rfl,t,cK⟩;have cy:=y.wz 12 (.inr rfl);have cj:=a.trans (GP.put _ ⟨12,0,0,0,0⟩);have j:=bY.trans cK;have dm:iB (iX.put v1 ⟨12,0,0,0,0⟩).l v1.l.length=12:=oB v1;have d3:v1.l.length<(iX.put v1 ⟨12,0,0,0,0⟩).l.length:=by simp[iX.put]
  generalize Nt:iX.put v1 ⟨12,0,0,0,0⟩=aQ at*;obtain⟨bf,ah,ay,aS,ax,bP,bQ,bh⟩:=(hB.gt j I).i4;go_wp2_with fail;go_at_call 137;refine(ca nb AB _ cB M _ _ p _ rfl (ov cq.len) cq (cx.gt j I) (λu z=>(bL u z).gt j I I) (by rw[cj.pv];exact cf.gt j) t (cy.le X) (ov cj.len)).mono ?_;rintro e cG⟨rfl,m,dY,cX,cM,dj,aZ⟩;have bi:=GK.of cy aZ (dj.le (L_ _));have b0:=cj.trans aZ;have cv:=j.trans cM;have eo:iB m.l v1.l.length=12:=(aZ.kp.2 _ X).trans dm;have ev:v1.l.length<m.l.length:=ov aZ.kp.1;go_wp2_with fail;go_at_call 138;refine(iu base g _ cX (ov b0.len)).mono ?_;rintro e d7⟨rfl,dD,dP⟩;have dt:=bi.wz 11 (.inl rfl);have c9:=b0.trans (GP.put _ ⟨11,0,0,0,0⟩);have cY:=cv.trans dP;have dT:iB (iX.put m ⟨11,0,0,0,0⟩).l m.l.length=11:=oB m;have ek:m.l.length<(iX.put m ⟨11,0,0,0,0⟩).l.length:=by simp[iX.put]
  have dn:iB (iX.put m ⟨11,0,0,0,0⟩).l v1.l.length=12:=((GP.put m ⟨11,0,0,0,0⟩).kp.2 _ X).trans eo;obtain⟨bm,bp,b6,b9,G,P⟩:=box1 d7 3 #[Y v1.l.length];have eb:Ns bm 3 (j_ bp) [(v1.l.length:Int)]:=jh (n:=1) (s:=1) P rfl;have ef:=dD.hF G;go_wp2_with fail;go_at_call 205;refine(mO base g _ 1 1 [(v1.l.length:Int)] ef (ov c9.len) eb rfl (by intro J hi;simp at hi;subst hi;exact⟨X,X⟩) X).mono ?_;rintro e er⟨rfl,dE,cn⟩;have du:=dt.here v1.l.length (.inr dn);have da:=c9.trans (GP.here _ [(v1.l.length:Int)]);have cD:=(cY.trans (.jD G)).trans cn;obtain⟨bf,ah,ay,aS,ax,bP,bQ,bh⟩:=(hB.gt cD I).i4;have em:iB (iX.here (iX.put m ⟨11,0,0,0,0⟩) [(v1.l.length:Int)]).l m.l.length=11:=(ox _ _ _ _).trans dT;have eu:(m.l.length:Int)<(iX.here (iX.put m ⟨11,0,0,0,0⟩) [(v1.l.length:Int)]).l.length:=by simp only[iX.here,i9];omega
  generalize cr:iX.here (iX.put m ⟨11,0,0,0,0⟩) [(v1.l.length:Int)]=v9 at*
  go_wp2_with fail;go_at_call 137;refine(ca nl AL _ cL W _ _ p _ rfl (ov d6.len) d6 (dM.gt cD I) (λu z=>(dy u z).gt cD I I) (by rw[da.pv];exact cf.gt cD) dE (du.le X) (ov da.len)).mono ?_;rintro e d0⟨rfl,v25,ey,dF,dQ,ej,dx⟩;have dK:=GK.of du dx (ej.le (L_ _));have de:=da.trans dx;have dI:=cD.trans dQ;have dU:iB v25.l m.l.length=11:=(dx.kp.2 _ X).trans em;have d2:(m.l.length:Int)<v25.l.length:=ov dx.kp.1;obtain⟨a2,aD,bI,cz,bU,bH⟩:=box1 d0 3 #[Y m.l.length];have ed:Ns a2 3 (j_ aD) [(m.l.length:Int)]:=jh (n:=1) (s:=1) bH rfl;have eg:=dF.hF bU;go_wp2_with fail;go_at_call 205;refine(mO base g _ 1 1 [(m.l.length:Int)] eg (ov de.len) ed rfl (by intro J hi;simp at hi;subst hi;exact⟨X,d2⟩) X).mono ?_;rintro e et⟨rfl,dG,dR⟩;have dL:=dK.here m.l.length (.inl dU);have dN:=de.trans (GP.here _ [(m.l.length:Int)]);have dJ:=(dI.trans (.jD bU)).trans dR;exact Ma
 exact Gc rfl au;exact Gc rfl bl;exact Ko;exact Ko;exact Gc rfl aT;exact Ko
 .go_wp2_with fail;go_at_call 206;have dS:=y.h0;have eh:=y.hD;have cu:=y.m0;have aM:=y.m1;have cr:=y.v1;refine(tt base g v1 av dS X cu X X).mono ?_;rintro e w2⟨rfl,h2,Np⟩;have m:=O (show 0<=(v1.vs.length:Int)+v1.hidden/\(v1.vs.length:Int)+v1.hidden<64 by omega);have cJ:=y.more;have bF:=GP.refl v1.more;have ew:v1.more.l.length=v1.l.length:=rfl;have aL:=bw.trans Np;generalize (v1.vs.length:Int)+v1.hidden=u at m |-
  go_wp2_with fail;go_at_call 138;refine(iu base g _ h2 (ov bF.len)).mono ?_;rintro e A⟨rfl,h3,S⟩;have aR:=cJ.simp (x:=⟨9,0,0,0,u⟩) (lI 0 u X X m.out.1 m.out.2);have ak:=bF.trans (GP.put _ ⟨9,0,0,0,u⟩);have cR:=aL.trans S;go_wp2_with fail;go_at_call 136;refine(mN base g h3 (ov ak.len) aR.sb.1 (by have:=aR.sb.2;have:=ak.len;omega)).mono ?_;rintro e ae⟨rfl,am,K⟩;have c7:=aR.mark;have db:=ak.trans (GP.mark _);have bj:=cR.trans K;go_wp2_with fail;go_at_call 138;refine(iu base g _ am (ov db.len)).mono ?_;rintro e Nq⟨rfl,au,ai⟩;have ck:=c7.ask (by simp[iX.mark];omega) (by unfold iX.mark;have:=ms (iX.put v1.more ⟨9,0,0,0,u⟩).l ⟨21,0,0,0,(iX.put v1.more ⟨9,0,0,0,u⟩).hC⟩ [];simpa using this) u m.out.1 m.out.2;have cA:=db.trans (GP.put _ ⟨20,0,0,0,u⟩);have bx:=bj.trans ai;go_wp2_with fail;go_at_call 138;refine(iu base g _ au (ov cA.len)).mono ?_;rintro e az⟨rfl,bl,aC⟩;have ce:=ck.simp (x:=⟨8,0,0,0,u⟩) (pr 0 u X X m.out.1 m.out.2);have dg:=cA.trans (GP.put _ ⟨8,0,0,0,u⟩);have cZ:=bx.trans aC;go_wp2_with fail;go_at_call 138;refine(iu base g _ bl (ov dg.len)).mono ?_;rintro e aF⟨rfl,bM,aP⟩;have N:=ce.simp (x:=⟨9,0,0,0,r⟩) (lI 0 r X X bC X);have bg:=dg.trans (GP.put _ ⟨9,0,0,0,r⟩);have cp:=cZ.trans aP;obtain⟨cQ,bW,cC⟩:=bM;have ei:=bg.hid;have dC:=O bW;have di:cQ.hidden=v1.hidden+1:=by
   have e:cQ.lg.hidden=v1.more.hidden:=by rw[bW];exact ei
   exact e
  have cU:aF.cell? (Z g 7)=some (Y (v1.hidden+1)):=by rw[<-di];exact cC.hg.f_ 7
  have f7:=cC.hg.hG 7;have dz:=O di;go_wp2;refine en_ ?_;rw[ao.out];have c8:=cC.set 7 (Y v1.hidden) (hC:=cQ.hC) (hidden:=v1.hidden) (most:=cQ.most) rfl;refine⟨rfl,_,_,⟨_,?_,c8⟩,cp.trans (cC.zC 7 _),GK.less y (N.le (L_ _)) (by have:=bg.hid;exact this) (by have:=bg.sa;exact this),(a.trans (GP.more bg)).le X⟩;rw[<-dC.out];have cT:=dz.out;simp only[GS.lg,iX.less,cT];congr 1;omega
 go_wp2_with (go_at_call 138;refine(iu base g v1 av X).mono ?_;rintro e w2⟨rfl,h2,Np⟩);refine en_ ?_;rw[ao.out];exact⟨rfl,_,_,h2,bw.trans Np,y.simp (AA o r eY bC X),(a.trans (GP.put v1 _)).le X⟩
def l4.split{V:QU}{c N:Nat}{t:ST}{l:QV}(h:l4 V c N (t::l)):∃a b,N=a+b/\l4 V c a [t]/\l4 V c b l:=by
 cases h with
 |cons c a b nb z t l f i h k m u q x p y=>exact⟨a,b,rfl,.cons c a 0 nb z t [] f i h k m u q x p (.nil _),y⟩
def uD(base g:Nat)(V:QU)(f:Nat)(bD:Dh base g V f):uW base g V f:=by
 intro N ad n ae k v q af w hn bI bX bn ku hP J H iF;refine h6 λQ Z=>?_;have B:=O hn;have b8:=O bn;have e:l4 V f N (k.drop 0):=bX;go_enter func137,ntmps137;go_wp2;go_loopw [8] (λu w'=>∃c a b:Nat,c<=n/\u=Y c/\a+b=N/\l4 V f b (k.drop c)/\FJ base g v f (30*a) w w') (λu _=>n-(intOf u).toNat)
 case atStart=>exact⟨0,0,N,L_ _,gn,X,e,v,q,J,.refl _ _ _,H,.refl _⟩
 obtain⟨c,a,b,hk,rfl,hab,d,x,E,y,h,F,i⟩:=hrel;have o:=O hab;have ai:a+b<=N:=X;have hl1:=i.len;by_cases ag:c<n
 .have p:c<k.length:=ov B.out;obtain⟨bE,off,hA,K,c1,U,c3,c4,c5,M,bi⟩:=ST.at_ (b8.out.gt h I) B.out p;subst hA;rw[R_ p]at d;obtain⟨z,b1,A,D,ca⟩:=d.split;have l:=O A;have bW:=A;have C:=(ku _ (N_ p)).gt h I I;have bF:nu wr x.pv:=by rw[i.pv];exact hP.gt h
  generalize k[c]=t at K c1 U c3 c4 c5 M bi D C;obtain⟨m,bz,b6,hg1,G,hB⟩:=box1 wr 229 #[Y t.h7,.string t.name,.string t.fn,Y t.n,Y t.op,.slice t.AE t.es.length t.cE,.slice t.AB t.bs.length t.cB,.slice t.AL t.ls.length t.cL];obtain⟨al,ah,ay,aS,ax,bP,bQ,an⟩:=hB.i4;have R:=O (bD z t x E af m D (C.gt (.jD G:Gt base gT wr m) I I) (bF.gt (.jD G:Gt base gT wr m)) (y.hF G) F X);go_wp2_with fail;refine R.out.mono ?_;rintro L w2⟨rfl,T,bG,cR,S,cJ,W⟩;go_wp2;go_roundw
  case rel=>
   have aJ:=o.out;have L:=l.out;exact⟨c+1,a+z,b1,X,gn,X,ca,T,bG,cR,(h.trans (.jD G)).trans S,cJ,(i.trans W).le X⟩
  case measure=>exact mz
 go_wp2;refine en_ ?_;rw[Z.out];exact⟨rfl,x,E,y,h,F,i.le X⟩
def ET.ats{w:World}{b f n:Nat}{l:QE}(h:Sl w 226 5 (some (Z b f)) n (l.flatMap ET.E))(x:l.length=n)(k:Nat)(u:k<l.length):w.cell? (Z b (f+k*5))=some (Y l[k].h7)/\w.cell? (Z b (f+k*5+1))=some (Y l[k].n)/\
 w.cell? (Z b (f+k*5+2))=some (.string l[k].name)/\w.cell? (Z b (f+k*5+3))=some (Y l[k].op)/\w.cell? (Z b (f+k*5+4))=some (.slice l[k].A l[k].l.length l[k].c):=by
 subst x;obtain⟨b',y,i,q⟩:=ET.at_ h u;injection i with i;injection i with p m;subst p;subst m;exact q
def Sl.addr{w:World}{e:TypeId}{s n:Nat}{A:OA}{xs:QW}(h:Sl w e s A n xs)(i:0<n):∃b c,A=some (Z b c):=by
 obtain⟨b,c,f,_⟩:=Sl.f_ h i;exact⟨b,c,f⟩
def Be(base g:Nat)(V:QU)(al:Nat)(x:ByteArray)(AE:OA)(cE:Nat)(A z:ET)(L:OA)(cB:Nat)(i:QV)(AL:OA)(cL:Nat)(ls:QV)(v:iX)(q:Int)(p:Nat->Prop)(w:World)(nb:Nat)(ca:uW base g V al)(cq:l4 V al nb i)
 (aX:Sl w 229 8 L i.length (i.flatMap ST.E)) (cI:∀u∈i,jL p w u) (hes:∀e∈[A,z],EG V 2 e) (bn:Sl w 226 5 AE 2 ([A,z].flatMap ET.E)) (ku:∀u∈[A,z],kw p w u) (hP:nu w v.pv) (Nv:lM base w g v) (Nu:GK v q (al+1)) (iF:v.l.length+30*(1+nb)<=100000):
 Calls prog 202 #[q_ g,.agg (ST.mk 5 x i6 0 0 AE cE [A,z] L cB i AL cL ls).g_] w (oJ base g v (al+1) (30*(1+nb)) w):=by
 refine h6 λQ ao=>?_;obtain⟨bE,off,an⟩:=bn.addr X;subst an;obtain⟨M,gx,aV,hx,m,h⟩:=box1 w 229 (ST.mk 5 x i6 0 0 (some (Z bE off)) cE [A,z] L cB i AL cL ls).g_;replace h:Bk M gx 229 #[Y 5,.string x,.string i6,Y 0,Y 0,.slice (some (Z bE off)) 2 cE,.slice L i.length cB,.slice AL ls.length cL]:=h;obtain⟨y,C,E,B,D,F,J,K⟩:=h.i4;have co:=Gt.refl base gT M;have Nw:=Nv.hF m;have b8:=O (bn.hF m);replace ku:=λu W=>(ku u W).hF m;have cf:=hP.gt (.jD m:Gt base gT w M);have cx:=aX.hF m;have bL:=λu W=>(cI u W).hF m;have aw:=GP.refl v;go_enter func202,ntmps202;go_wp2_with fail;go_at_call 204;refine(lp base g _ Nw Nu.v1).mono ?_;rintro e w1⟨r,bC,bJ,rfl,rfl⟩;obtain⟨aB,c1,aj,c3,c4⟩:=ET.ats (b8.out.gt co I) rfl 0 H;simp only[H1,HC,Ha]at aB c1 aj c3 c4;go_wp2_with fail;go_at_call 203;refine(o3 base g V 2 A (hes _ H) 0 _ _ _ p _ X X ((ku _ H).gt co I) Nw Nu (by have:=aw.len;show _+7<=100000;omega)).mono ?_;rintro e dZ⟨rfl,cS,c9,t,cK,cy,Nt⟩;replace Nt:GP _ cS 7:=Nt;have cj:=aw.trans Nt;have j:=co.trans cK;obtain⟨y,C,E,B,D,F,J,K⟩:=(h.gt j I).i4;obtain⟨aB,c1,aj,c3,c4⟩:=ET.ats (b8.out.gt j I) rfl 1 H;simp only[Io,Ha,HV]at aB c1 aj c3 c4;go_wp2_with fail;go_at_call 203;refine(o3 base g V 2 z (hes _ H) 1 _ _ _ p _ X X ((ku _ H).gt j I) t cy (by have:=cj.len;show _+7<=100000;omega)).mono ?_;rintro e cG⟨rfl,c,dY,cX,cM,k,aZ⟩;replace aZ:GP _ c 7:=aZ;have b0:=cj.trans aZ;have cv:=j.trans cM;obtain⟨y,C,E,B,D,F,J,K⟩:=(h.gt cv I).i4;have dS:=k.h0;have eh:=k.hD;have cu:=k.m0;have aM:=k.m1;have cr:=k.v1;go_wp2_with fail;go_at_call 206;refine(tt base g _ cX dS X cu X X).mono ?_;rintro e db⟨rfl,aG,bX⟩;have R:=O (show 0<=(c.vs.length:Int)+c.hidden/\(c.vs.length:Int)+c.hidden<64 by omega);have bB:=k.more;have ae:=GP.refl c.more;have cY:c.more.l.length=c.l.length:=rfl;have cZ:=b0.len;have dg:=b0.pv;replace cf:nu M c.more.pv:=(by show nu M c.pv;rw[dg];exact cf);have aA:=cv.trans bX;generalize (c.vs.length:Int)+c.hidden=u at R |-;obtain⟨y,C,E,B,D,F,J,K⟩:=(h.gt aA I).i4
 go_wp2_with fail;go_at_call 138;refine(iu base g _ aG (ov ae.len)).mono ?_;rintro e de⟨rfl,aH,bY⟩;have bD:=bB.simp (x:=⟨9,0,0,0,r⟩) (lI 0 r X X bC X);have af:=ae.trans (GP.put _ ⟨9,0,0,0,r⟩);have bg:=aA.trans bY;go_wp2_with fail;go_at_call 138;refine(iu base g _ aH (ov af.len)).mono ?_;rintro e df⟨rfl,aI,bZ⟩;have o:=bD.simp (x:=⟨9,1,0,0,u⟩) (lI 1 u X X R.out.1 R.out.2);have bd:=af.trans (GP.put _ ⟨9,1,0,0,u⟩);have bj:=bg.trans bZ;go_wp2_with fail;go_at_call 136;refine(mN base g aI (ov bd.len) o.sb.1 (by have:=o.sb.2;have:=bd.len;omega)).mono ?_;rintro e dh⟨rfl,aN,b4⟩;have bF:=o.mark;have ag:=bd.trans (GP.mark _);have Nr:=bj.trans b4;have bf:=ms (iX.put (iX.put c.more ⟨9,0,0,0,r⟩) ⟨9,1,0,0,u⟩).l ⟨21,0,0,0,(iX.put (iX.put c.more ⟨9,0,0,0,r⟩) ⟨9,1,0,0,u⟩).hC⟩ [];generalize c7:iX.put (iX.put c.more ⟨9,0,0,0,r⟩) ⟨9,1,0,0,u⟩=b at*;have bh:iB b.mark.l b.l.length=21:=bf;have a:b.l.length<b.mark.l.length:=by simp[iX.mark]
 generalize aL:b.mark=bk at*;obtain⟨y,C,E,B,D,F,J,K⟩:=(h.gt Nr I).i4;go_wp2_with fail;go_at_call 138;refine(iu base g _ aN (ov ag.len)).mono ?_;rintro e dj⟨rfl,aO,b5⟩;have bG:=bF.simp (x:=⟨8,0,0,0,r⟩) (pr 0 r X X bC X);have ai:=ag.trans (GP.put _ ⟨8,0,0,0,r⟩);have bl:=Nr.trans b5;go_wp2_with fail;go_at_call 138;refine(iu base g _ aO (ov ai.len)).mono ?_;rintro e dk⟨rfl,aP,b6⟩;have bH:=bG.simp (x:=⟨8,1,0,0,u⟩) (pr 1 u X X R.out.1 R.out.2);have ap:=ai.trans (GP.put _ ⟨8,1,0,0,u⟩);have bo:=bl.trans b6;go_wp2_with fail;go_at_call 138;refine(iu base g _ aP (ov ap.len)).mono ?_;rintro e dq⟨rfl,aK,b7⟩;have bI:=bH.simp (x:=⟨4,0,0,1,10⟩) I;have aq:=ap.trans (GP.put _ ⟨4,0,0,1,10⟩);have bp:=bo.trans b7;generalize be:iX.put (iX.put (iX.put bk ⟨8,0,0,0,r⟩) ⟨8,1,0,0,u⟩) ⟨4,0,0,1,10⟩=f at*
 have d0:q4 bk.l f.l:=by rw[<-be];exact((GP.put _ _).kp.trans (GP.put _ _).kp).trans (GP.put _ _).kp
 go_wp2_with fail;go_at_call 138;refine(iu base g _ aK (ov aq.len)).mono ?_;rintro e dr⟨rfl,aR,b9⟩;have ad:=bI.wz 12 (.inr rfl);have bm:=aq.trans (GP.put _ ⟨12,0,0,0,0⟩);have T:=bp.trans b9;have dm:iB (iX.put f ⟨12,0,0,0,0⟩).l f.l.length=12:=oB f;have d3:f.l.length<(iX.put f ⟨12,0,0,0,0⟩).l.length:=by simp[iX.put]
 have am:q4 bk.l (iX.put f ⟨12,0,0,0,0⟩).l:=d0.trans (GP.put _ _).kp;generalize cJ:iX.put f ⟨12,0,0,0,0⟩=vc at*;obtain⟨y,C,E,B,D,F,J,K⟩:=(h.gt T I).i4;go_wp2_with fail;go_at_call 137;refine(ca nb L _ cB i _ _ p _ rfl (ov cq.len) cq (cx.gt T I) (λu W=>(bL u W).gt T I I) (by rw[bm.pv];exact cf.gt T) aR (ad.le X) (ov bm.len)).mono ?_;rintro e dt⟨rfl,P,da,aT,cg,cA,U⟩;have bK:=GK.of ad U (cA.le (L_ _));have au:=bm.trans U;have Np:=T.trans cg;have dn:=(U.kp.2 _ X).trans dm;have cF:f.l.length<P.l.length:=ov U.kp.1;have bv:=am.trans U.kp;obtain⟨y,C,E,B,D,F,J,K⟩:=(h.gt Np I).i4;go_wp2_with fail;go_at_call 138;refine(iu base g _ aT (ov au.len)).mono ?_;rintro e du⟨rfl,aU,ck⟩;have bM:=bK.simp (x:=⟨8,0,0,0,r⟩) (pr 0 r X X bC X);have av:=au.trans (GP.put _ ⟨8,0,0,0,r⟩);have br:=Np.trans ck;go_wp2_with fail;go_at_call 138;refine(iu base g _ aU (ov av.len)).mono ?_;rintro e dw⟨rfl,aW,cn⟩;have bN:=bM.simp (x:=⟨1,1,0,0,1⟩) I;have az:=av.trans (GP.put _ ⟨1,1,0,0,1⟩);have bt:=br.trans cn;go_wp2_with fail;go_at_call 138;refine(iu base g _ aW (ov az.len)).mono ?_;rintro e dx⟨rfl,a2,cp⟩;have bO:=bN.simp (x:=⟨4,0,0,1,1⟩) I;have aC:=az.trans (GP.put _ ⟨4,0,0,1,1⟩);have bu:=bt.trans cp;go_wp2_with fail;go_at_call 138;refine(iu base g _ a2 (ov aC.len)).mono ?_;rintro e bx⟨rfl,a6,ct⟩;have bR:=bO.simp (x:=⟨9,0,0,0,r⟩) (lI 0 r X X bC X);have cb:=aC.trans (GP.put _ ⟨9,0,0,0,r⟩);have bw:=bu.trans ct;generalize cN:iX.put (iX.put (iX.put (iX.put P ⟨8,0,0,0,r⟩) ⟨1,1,0,0,1⟩) ⟨4,0,0,1,1⟩) ⟨9,0,0,0,r⟩=d at*
 have dH:q4 P.l d.l:=by rw[<-cN];exact(((GP.put _ _).kp.trans (GP.put _ _).kp).trans (GP.put _ _).kp).trans (GP.put _ _).kp
 obtain⟨cQ,bW,cC⟩:=a6;have dC:=O bW;have di:cQ.hidden=c.hidden+1:=(show cQ.lg.hidden=c.more.hidden by rw[bW];exact cb.hid);have cU:bx.cell? (Z g 7)=some (Y (c.hidden+1)):=by rw[<-di];exact cC.hg.f_ 7
 have f7:=cC.hg.hG 7;have dz:=O di;go_wp2_with fail;have c8:=cC.set 7 (Y c.hidden) (hC:=cQ.hC) (hidden:=c.hidden) (most:=cQ.most) rfl;have S:lM base (bx.setCell (Z g 7) (Y c.hidden)) g d.less:=⟨_,(by
  rw[<-dC.out];have cT:=dz.out;simp only[GS.lg,iX.less,cT];congr 1;omega),c8⟩
 have bS:=GK.less k (bR.le (L_ _)) (by have:=cb.hid;exact this) (by have:=cb.sa;exact this);have aD:=b0.trans (GP.more cb);have Nq:=bw.trans (cC.zC 7 (Y c.hidden));have cc:iB d.less.l b.l.length=21:=(((bv.trans dH).2 _ X).trans bh);have cD:iB d.less.l f.l.length=12:=(dH.2 _ X).trans dn;have cW:f.l.length<d.less.l.length:=by have:=dH.1;show _<d.l.length;omega
 obtain⟨dy,cO⟩:=nm_ (bx.setCell (Z g 7) (Y c.hidden));rw[<-cO]at S Nq |-;generalize c6:d.less=aF at*
 go_at_call 138;refine(iu base g _ S (ov aD.len)).mono ?_;rintro e cV⟨rfl,a7,cw⟩;have bT:=bS.jump 11 _ (.inl rfl) cc;have aE:=aD.trans (GP.put _ ⟨11,0,0,0,b.l.length⟩);have bz:=Nq.trans cw;have G:=((GP.put aF ⟨11,0,0,0,b.l.length⟩).kp.2 _ X).trans cD;have cH:f.l.length<(iX.put aF ⟨11,0,0,0,b.l.length⟩).l.length:=by simp[iX.put];omega
 obtain⟨ar,ak,ce,cR,N,bq⟩:=box1 cV 3 #[Y f.l.length];have ch:Ns ar 3 (j_ ak) [(f.l.length:Int)]:=jh (n:=1) (s:=1) bq rfl;have ci:=a7.hF N;go_wp2_with fail;go_at_call 205;refine(mO base g _ 1 1 [(f.l.length:Int)] ci (ov aE.len) ch rfl (by intro cm hi;simp at hi;subst hi;exact⟨X,X⟩) X).mono ?_;rintro e dB⟨rfl,a8,cz⟩;have bU:=bT.here f.l.length (.inr G);have bV:=aE.trans (GP.here _ [(f.l.length:Int)]);have bA:=(bz.trans (.jD N)).trans cz;go_wp2;refine en_ ?_;rw[ao.out];exact⟨rfl,_,_,a8,(Gt.jD m).trans bA,bU,bV.le X⟩
def xM(base g:Nat)(V:QU)(z:Nat)(x:ByteArray)(AE:OA)(cE:Nat)(i:ET)(k:OA)(M:Nat)(f:QV)(T:OA)(cL:Nat)(ls:QV)(v:iX)(q:Int)(p:Nat->Prop)(w:World)(nb:Nat)(ca:uW base g V z)(cq:l4 V z nb f)
 (aX:Sl w 229 8 k f.length (f.flatMap ST.E)) (cI:∀u∈f,jL p w u) (hes:∀e∈[i],EG V 2 e) (bn:Sl w 226 5 AE 1 ([i].flatMap ET.E)) (ku:∀u∈[i],kw p w u) (hP:nu w v.pv) (Nv:lM base w g v) (A:GK v q (z+1)) (iF:v.l.length+30*(1+nb)<=100000):
 Calls prog 202 #[q_ g,.agg (ST.mk 6 x i6 0 0 AE cE [i] k M f T cL ls).g_] w (oJ base g v (z+1) (30*(1+nb)) w):=by
 refine h6 λQ ao=>?_;obtain⟨bE,off,ad⟩:=bn.addr X;subst ad;obtain⟨U,gx,aV,hx,hg,h⟩:=box1 w 229 (ST.mk 6 x i6 0 0 (some (Z bE off)) cE [i] k M f T cL ls).g_;replace h:Bk U gx 229 #[Y 6,.string x,.string i6,Y 0,Y 0,.slice (some (Z bE off)) 1 cE,.slice k f.length M,.slice T ls.length cL]:=h;obtain⟨B,E,J,C,F,K,L,R⟩:=h.i4;have co:=Gt.refl base gT U;have Nw:=Nv.hF hg;have b8:=O (bn.hF hg);replace ku:=λu y=>(ku u y).hF hg;have cf:=hP.gt (.jD hg:Gt base gT w U);have cx:=aX.hF hg;have bL:=λu y=>(cI u y).hF hg;have W:=GP.refl v;go_enter func202,ntmps202;go_wp2_with fail;go_at_call 204;refine(lp base g _ Nw A.v1).mono ?_;rintro e w1⟨r,bC,bJ,rfl,rfl⟩;go_wp2_with fail;go_at_call 136;refine(mN base g Nw (ov W.len) A.sb.1 (by have:=A.sb.2;have:=W.len;omega)).mono ?_;rintro e dZ⟨rfl,t,cK⟩;have cy:=A.mark;have cj:=W.trans (GP.mark _);have j:=co.trans cK;have ae:=ms v.l ⟨21,0,0,0,v.hC⟩ [];have af:iB v.mark.l v.l.length=21:=ae;have a:v.l.length<v.mark.l.length:=by simp[iX.mark]
 generalize aL:v.mark=ag at*;obtain⟨B,E,J,C,F,K,L,R⟩:=(h.gt j I).i4;obtain⟨aB,c1,aj,c3,c4⟩:=ET.ats (b8.out.gt j I) rfl 0 H;simp only[H1,HC,Ha]at aB c1 aj c3 c4;go_wp2_with fail;go_at_call 203;refine(o3 base g V 2 i (hes _ H) 0 _ _ _ p _ X X ((ku _ H).gt j I) t cy (by have:=cj.len;show _+7<=100000;omega)).mono ?_;rintro e cG⟨rfl,c,dY,cX,cM,bi,D⟩;replace D:GP _ c 7:=D;have b0:=cj.trans D;have cv:=j.trans cM;obtain⟨B,E,J,C,F,K,L,R⟩:=(h.gt cv I).i4;go_wp2_with fail;go_at_call 138;refine(iu base g _ cX (ov b0.len)).mono ?_;rintro e d7⟨rfl,dD,dP⟩;have dt:=bi.wz 12 (.inr rfl);have c9:=b0.trans (GP.put _ ⟨12,0,0,0,0⟩);have m:=cv.trans dP;have dm:iB (iX.put c ⟨12,0,0,0,0⟩).l c.l.length=12:=oB c;have d3:c.l.length<(iX.put c ⟨12,0,0,0,0⟩).l.length:=by simp[iX.put]
 have am:q4 ag.l (iX.put c ⟨12,0,0,0,0⟩).l:=D.kp.trans (GP.put _ _).kp;generalize cJ:iX.put c ⟨12,0,0,0,0⟩=vc at*;obtain⟨B,E,J,C,F,K,L,R⟩:=(h.gt m I).i4;go_wp2_with fail;go_at_call 137;refine(ca nb k _ M f _ _ p _ rfl (ov cq.len) cq (cx.gt m I) (λu y=>(bL u y).gt m I I) (by rw[c9.pv];exact cf.gt m) dD (dt.le X) (ov c9.len)).mono ?_;rintro e er⟨rfl,ai,al,dE,cn,d,b⟩;have du:=GK.of dt b (d.le (L_ _));have da:=c9.trans b;have cD:=m.trans cn;have dn:=(b.kp.2 _ X).trans dm;have cF:c.l.length<ai.l.length:=ov b.kp.1;have an:=am.trans b.kp;have ap:=(an.2 _ X).trans af;obtain⟨B,E,J,C,F,K,L,R⟩:=(h.gt cD I).i4;go_wp2_with fail;go_at_call 138;refine(iu base g _ dE (ov da.len)).mono ?_;rintro e d0⟨rfl,dF,dQ⟩;have dK:=du.jump 11 _ (.inl rfl) ap;have de:=da.trans (GP.put _ ⟨11,0,0,0,v.l.length⟩);have dI:=cD.trans dQ;have G:=((GP.put ai ⟨11,0,0,0,v.l.length⟩).kp.2 _ X).trans dn;have cH:c.l.length<(iX.put ai ⟨11,0,0,0,v.l.length⟩).l.length:=by simp[iX.put];omega
 obtain⟨ar,ak,ce,cR,N,bq⟩:=box1 d0 3 #[Y c.l.length];have aq:Ns ar 3 (j_ ak) [(c.l.length:Int)]:=jh (n:=1) (s:=1) bq rfl;have au:=dF.hF N;go_wp2_with fail;go_at_call 205;refine(mO base g _ 1 1 [(c.l.length:Int)] au (ov de.len) aq rfl (by intro av hi;simp at hi;subst hi;exact⟨X,X⟩) X).mono ?_;rintro e et⟨rfl,dG,dR⟩;have dL:=dK.here c.l.length (.inr G);have dN:=de.trans (GP.here _ [(c.l.length:Int)]);have dJ:=(dI.trans (.jD N)).trans dR;exact Ma
