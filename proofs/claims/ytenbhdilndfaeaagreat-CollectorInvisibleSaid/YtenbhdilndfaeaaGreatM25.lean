import Derived.Test.YtenbhdilndfaeaaGreatM24
set_option maxRecDepth 100000
set_option maxHeartbeats 0
set_option linter.all false
namespace Go.Proofs.YtenbhdilndfaeaaGreat
open Go.RowKit Go.Proofs.Tryz
variable{G:Prop}(d:Nat)(r:Int)
def IU(h:G:=by
 have aR:=bl.trans aQ;clear bC bl aQ
 go_wp2_with fail
 go_at_call 138
 refine(iq base g _ bI (ov aE.len)).mono ?_;rintro e bP⟨rfl,bY,bB⟩;have cU:=aT.simp (x:=⟨15,0,0,0,0⟩) O;have dq:=aE.trans (GP.put _ ⟨15,0,0,0,0⟩);have aD:=aR.trans bB;clear bI aR bB
 go_wp2_with fail
 go_at_call 138
 refine(iq base g _ bY (ov dq.len)).mono ?_;rintro e ae⟨rfl,aG,G⟩;have bu:=cU.simp (x:=⟨9,0,0,0,r⟩) (lE 0 r X X bL X);have dS:=dq.trans (GP.put _ ⟨9,0,0,0,r⟩);have aN:=aD.trans G;clear bY aD G;go_wp2;refine en_ ?_;rw[aq.out];exact⟨rfl,_,_,aG,aN,bu,dS.le X⟩):G:=h
def J3(h:G:=by
 go_wp2_with (go_at_call 138;refine(iq base g v1 a X).mono ?_;rintro e w2⟨rfl,h2,M0⟩)
 refine en_ ?_;rw[aq.out];exact⟨rfl,_,_,h2,bF.trans M0,ak.simp O,(c.trans (GP.put v1 _)).le X⟩):G:=h
def KW(h:G:=by
 have e:s1.pv=.slice PA 3 pc:=by rw[<-c8,<-c.pv,<-bV];rfl
 have:=bS.hg.f_ 0
 unfold GS.g_ at this;rw[e]at this;exact this):G:=h
def LI(h:G:=by
 go_wp2;refine en_ ?_;rw[aq.out];exact⟨rfl,_,_,dL,(Gt.js hg).trans dN,dP,dR.le X⟩):G:=h
def infoIn:(prog.info? 189).map (λi=>(i.zero,i.size,i.bytes))=some (some (.agg #[Y 0,Y 0,Y 0,Y 0,Y 0]),5,40):=by kernel_rfl
def infoPa:(prog.info? 219).map (λi=>(i.zero,i.size,i.bytes))=some (some (.agg #[Y 0,Y 0]),2,16):=by kernel_rfl
def infoPI:(prog.info? 313).map (λi=>(i.zero,i.size,i.bytes))=some (some (.pointer none),1,8):=by kernel_rfl
def mO(e:TypeId)(w w':World):Prop:=w.heap.size<=w'.heap.size/\∀(k:Nat) (cs:Array Value) (fz:Nat × Nat),w.heap[k]?=some (.cells cs e fz)->w'.heap[k]?=some (.cells cs e fz)
section
variable{e t:TypeId}{w w' w'':World}{g base size n:Nat}{cs:Array Value}{v:Value}{xs:List Value}
def mO.trans(h:mO e w w')(k:mO e w' w''):mO e w w'':=⟨G_ h.1 k.1,λf cs c i=>k.2 f cs c (h.2 f cs c i)⟩
def mO.js(h:I [] w w'):mO e w w':=⟨h.size,λ_ _ _ c=>(h.block _ (la c) J).trans c⟩
def mO.one(h:I [g] w w')(f:Bk w g t cs)(k:t≠e):mO e w w':=⟨h.size,λi p u c=>by
 have a:i≠g:=by
  rintro rfl;unfold Bk at f;rw[f]at c;injection c with c;injection c with _ m;exact k m
 exact(h.block i (la c) (zu a)).trans c⟩
def mO.set(f:Bk w g t cs)(c:t≠e)(i:Nat)(u:Value):mO e w (w.setCell (Z g i) u):=.one ((H [g] w).setCell (p:=(Z g i)) (.inl J) u) f c
def qJ(h:w.ownsRow base t size v n xs){k:Nat}(c:v.ownBlock=some k):base<=k/\∃cs,Bk w k t cs:=by
 rcases h.2 with⟨rfl,_⟩|⟨g,p,f,rfl,i,m,_⟩
 .cases c
 .have:g=k:=by simpa[Value.ownBlock]using c
  subst this;exact⟨i,f,m⟩
def mO.app(i:w.grownBy w' v.ownBlock)(h:w.ownsRow base t size v n xs)(k:t≠e):mO e w w':=⟨i.size,λq u x c=>by
 refine(i.block q (la c) λm=>?_).trans c;obtain⟨_,cs,f⟩:=qJ h m.symm;unfold Bk at f;rw[f]at c;injection c with c;injection c with _ p
 exact k p⟩
def mO.own(k:mO e w w')(h:w.ownsRow base e size v n xs):w'.ownsRow base e size v n xs:=by
 refine⟨h.1,?_⟩
 rcases h.2 with i|⟨g,q,f,rfl,m,p,c⟩
 .exact .inl i
 .exact .inr ⟨g,q,f,rfl,m,k.2 _ _ _ p,c⟩
def mO.sl{A:OA}(k:mO e w w')(h:Sl w e size A n xs):Sl w' e size A n xs:=⟨h.1,λp=>by
 obtain⟨b,q,cs,c,f,i,m⟩:=h.2 p
 exact⟨b,q,cs,c,f,k.2 _ _ _ i,m⟩⟩
def mO.bk(k:mO e w w')(h:Bk w g e cs):Bk w' g e cs:=k.2 _ _ _ h
def Gt.app{T:List TypeId}(i:w.grownBy w' v.ownBlock)(h:w.ownsRow base t size v n xs)(m:t∈T):Gt base T w w':=.grown i λg k=>by
 obtain⟨c,cs,f⟩:=qJ h k;exact⟨c,cs,t,_,f,m⟩
end
structure At where
 box:Nat
 A:Option Addr
 c:Nat
 is:List Int
structure GS where
 pv:Value
 VA:Option Addr
 vc:Nat
 vs:List ByteArray
 L:Option Addr
 lc:Nat
 l:List In
 hC:Int
 EA:Option Addr
 ec:Nat
 es:List Int
 FA:Option Addr
 fc:Nat
 fs:List Int
 CA:Option Addr
 cc:Nat
 cs:List (Int × Int)
 hidden:Int
 most:Int
 OA:Option Addr
 oc:Nat
 os:List At
 rt:List At
def GS.lg(s:GS):iX:=⟨s.pv,s.vs,s.l,s.hC,s.es,s.fs,s.cs,s.hidden,s.most,(s.os.map λa=>(a.box,a.is)),s.rt.map λa=>(a.box,a.is)⟩
def GS.g_(s:GS):Array Value:=#[s.pv,.slice s.L s.l.length s.lc,Y s.hC,.slice s.EA s.es.length s.ec,.slice s.FA s.fs.length s.fc,.slice s.CA s.cs.length s.cc,.slice s.VA s.vs.length s.vc,Y s.hidden,Y s.most,.slice s.OA s.os.length s.oc]
def m9(cs:List (Int × Int)):List Value:=cs.flatMap λp=>[Y p.1,Y p.2]
def GS.rows(s:GS):List (Value × List Int):=(.slice s.EA s.es.length s.ec,s.es)::(.slice s.FA s.fs.length s.fc,s.fs)::(s.rt++s.os).map λa=>(.slice a.A a.is.length a.c,a.is)
def gT:List TypeId:=[210,189,3,219,313,30]
structure nc(base:Nat)(w:World)(g:Nat)(s:GS):Prop where
 hg:Bk w g 210 s.g_
 hbg:base<=g
 hl:w.ownsRow base 189 5 (.slice s.L s.l.length s.lc) s.l.length (lV s.l)
 hc:w.ownsRow base 219 2 (.slice s.CA s.cs.length s.cc) s.cs.length (m9 s.cs)
 ho:w.ownsRow base 313 1 (.slice s.OA s.os.length s.oc) s.os.length (s.os.map λa=>q_ a.box)
 hb:∀a∈s.rt++s.os,Bk w a.box 30 #[.slice a.A a.is.length a.c]/\base<=a.box
 hbn:((s.rt++s.os).map At.box).Nodup
 hi:∀r∈s.rows,w.ownsRow base 3 1 r.1 r.2.length (r.2.map (Y))
 km:(s.rows.filterMap λr=>r.1.ownBlock).Nodup
 hv:Bs w s.VA s.vs
 hz:base<=w.heap.size
def lI(base:Nat)(w:World)(g:Nat)(v:iX):Prop:=∃s:GS,s.lg=v/\nc base w g s
section
variable{base g:Nat}{w w':World}{s:GS}
def nc.hF(h:nc base w g s)(k:I [] w w'):nc base w' g s:=
 ⟨h.hg.hF k,h.hbg,iy h.hl k,iy h.hc k,iy h.ho k,λa c=>⟨(h.hb a c).1.hF k,(h.hb a c).2⟩,h.hbn,λr f=>iy (h.hi r f) k,h.km,Sl.hF h.hv k,G_ h.hz k.size⟩
def lI.hF{v:iX}(h:lI base w g v)(k:I [] w w'):lI base w' g v:=by
 obtain⟨s,c,f⟩:=h;exact⟨s,c,f.hF k⟩
def nc.r5(h:nc base w g s){L:OA}{lc:Nat}{l:List In}{hC hidden most:Int}(f:Bk w' g 210 (GS.g_ {s with L:=L,lc:=lc,l:=l,hC:=hC,hidden:=hidden,most:=most}))
 (i:w'.ownsRow base 189 5 (.slice L l.length lc) l.length (lV l)) (k:∀e∈[219,313,30,3,9],mO e w w'):
 nc base w' g {s with L:=L,lc:=lc,l:=l,hC:=hC,hidden:=hidden,most:=most}:=
 ⟨f,h.hbg,i,(k _ J).own h.hc,(k _ J).own h.ho,λa c=>⟨(k 30 J).bk (h.hb a c).1,(h.hb a c).2⟩,h.hbn,λr m=>(k 3 J).own (h.hi r m),h.km,(k 9 J).sl h.hv,G_ h.hz (k 9 J).1⟩
end
def BV(base g:Nat)(v:iX)(u:Value)(w:World)(e:Ending)(w':World):Prop:=e=.returned u/\lI base w' g v/\Gt base gT w w'
def Eu(base g:Nat)(s:GS)(x:In)(w:World)(e:Ending)(w':World):Prop:=∃(L:OA) (lc:Nat),e=.returned (Y s.l.length)/\nc base w' g {s with L:=L,lc:=lc,l:=s.l++[x]}/\Gt base gT w w'/\∀e,e≠189->e≠210->mO e w w'
def mF(base g:Nat)(s:GS)(o a b c n:Int)(w:World)(h:nc base w g s)(hn:s.l.length<=100000):
 Calls prog 138 #[q_ g,Y o,Y a,Y b,Y c,Y n] w (Eu base g s ⟨o,a,b,c,n⟩ w):=by
 refine h5 λQ D=>?_
 obtain⟨I,H,F,C,K⟩:=info_parts infoIn;have V:w.cell? (Z g 1)=some (.slice s.L s.l.length s.lc):=h.hg.f_ 1;obtain⟨B,U,W,hx,m,R⟩:=box1 w 189 #[Y o,Y a,Y b,Y c,Y n];have i:=h.hF m;have k:=i.hl;have L:Sl B 189 5 (j_ U) 1 (lV [⟨o,a,b,c,n⟩]):=jj (n:=1) R rfl;have T:=i.hz
 go_enter func138,ntmps138
 go_wp2_with (at_builtin;refine j7 rfl rfl base 189 I 5 40 underlying24 H F C K rfl O O s.L s.l.length s.lc _ rfl k _ 1 1 _ rfl L (xA) X T ?_;intro u q x E p _;have f:=(mO.app (e:=210) p k O).bk i.hg;have f7:=f.hG 1;have ad:x.cell? (Z g 1)=some (.slice s.L s.l.length s.lc):=f.f_ 1)
 rw[D.out];have A:=f.hV 1 (.slice u (s.l.length+1) q)
 have y:∀e,e≠189->e≠210->mO e w (x.setCell (Z g 1) (.slice u (s.l.length+1) q)):=λe M d=>((mO.js m).trans (.app p k (Ne.symm M))).trans (.set f (Ne.symm d) _ _)
 refine⟨u,q,jZ J,h.r5 (hidden:=s.hidden) (most:=s.most) (hC:=s.hC) ?_ ?_ λe z=>y e (by rintro rfl;revert z;decide) (by rintro rfl;revert z;decide),?_,y⟩
 .unfold GS.g_;rw[J_];exact A
 .rw[J_,t_];exact(mO.set f O _ _).own E
 .exact((Gt.js m).trans (.app p k O)).trans (.set f i.hbg O _ _)
def iq(base g:Nat)(v:iX){o a b c n:Int}{w:World}(h:lI base w g v)(m:v.l.length<=100000):
 Calls prog 138 #[q_ g,Y o,Y a,Y b,Y c,Y n] w (BV base g (v.put ⟨o,a,b,c,n⟩) (Y v.l.length) w):=by
 obtain⟨s,rfl,h⟩:=h
 exact(mF base g s o a b c n w h m).mono λe w'⟨p,q,f,i,k,_⟩=>⟨f,⟨_,rfl,i⟩,k⟩
def nc.set{base g:Nat}{w:World}{s:GS}(h:nc base w g s)(i:Nat)(u:Value){hC hidden most:Int}(c:s.g_.setIfInBounds i u=GS.g_ {s with hC:=hC,hidden:=hidden,most:=most}):
 nc base (w.setCell ⟨g,i,none⟩ u) g {s with hC:=hC,hidden:=hidden,most:=most}:=
 h.r5 (L:=s.L) (lc:=s.lc) (l:=s.l) (by rw[<-c];exact h.hg.hV i u) ((mO.set h.hg O i u).own h.hl) λe f=>.set h.hg (by rintro rfl;revert f;decide) i u
def nc.zp{base g:Nat}{w:World}{s:GS}(h:nc base w g s)(i:Nat)(u:Value):Gt base gT w (w.setCell ⟨g,i,none⟩ u):=.set h.hg h.hbg O i u
def Ey(base g:Nat)(s:GS)(w:World)(e:Ending)(w':World):Prop:=∃(L:OA) (lc:Nat),e=.returned (Y s.l.length)/\nc base w' g {s with L:=L,lc:=lc,l:=s.l++[⟨21,0,0,0,s.hC⟩],hC:=s.hC+1}/\Gt base gT w w'/\∀e,e≠189->e≠210->mO e w w'
def rS(base g:Nat)(s:GS)(w:World)(h:nc base w g s)(y:s.l.length<=100000)(h0:0<=s.hC)(f:s.hC<=100000):
 Calls prog 136 #[.pointer (some ⟨g,0,none⟩)] w (Ey base g s w):=by
 refine h5 λQ p=>?_
 have A:w.cell? ⟨g,2,none⟩=some (Y s.hC):=h.hg.f_ 2;have B:=h.hg.hG 2;have i:=U (h.set 2 (Y (s.hC+1)) (hC:=s.hC+1) (hidden:=s.hidden) (most:=s.most) rfl);have u:=U (h.zp 2 (Y (s.hC+1)));have q:=U h.hg
 go_enter func136,ntmps136
 go_wp2_with (go_at_call 138;refine(mF base g _ 21 0 0 0 s.hC _ i.out y).mono ?_;rintro e C⟨k,z,rfl,c,m,x⟩)
 rw[p.out];exact⟨k,z,rfl,c,u.out.trans m,λe f c=>(mO.set q.out (Ne.symm c) _ _).trans (x e f c)⟩
def mG(base g:Nat){v:iX}{w:World}(h:lI base w g v)(k:v.l.length<=100000)(h0:0<=v.hC)(c:v.hC<=100000):
 Calls prog 136 #[.pointer (some ⟨g,0,none⟩)] w (BV base g v.mark (Y v.l.length) w):=by
 obtain⟨s,rfl,h⟩:=h
 exact(rS base g s w h k h0 c).mono λe w'⟨m,p,c,f,i,_⟩=>⟨c,⟨_,rfl,f⟩,i⟩
def ti(base g:Nat)(v:iX){w:World}(h:lI base w g v)(h0:0<=v.hidden)(D:v.hidden<=100000)(F:0<=v.most)(I:v.most<=100000)(z:v.vs.length<=100000):
 Calls prog 206 #[.pointer (some ⟨g,0,none⟩)] w (BV base g v.more (Y (v.vs.length+v.hidden)) w):=by
 refine h5 λQ y=>?_
 obtain⟨s,rfl,h⟩:=h;have a:0<=s.hidden:=h0;have E:s.hidden<=100000:=D;have b:s.vs.length<=100000:=z;have i:w.cell? ⟨g,7,none⟩=some (Y s.hidden):=h.hg.f_ 7;have B:=h.hg.hG 7;have c:=h.set 7 (Y (s.hidden+1)) (hC:=s.hC) (hidden:=s.hidden+1) (most:=s.most) rfl;have x:=U (h.zp 7 (Y (s.hidden+1)))
 go_enter func206,ntmps206
 go_upto_region 2 with fail
 obtain⟨k,p⟩:=mn_ (w.setCell ⟨g,7,none⟩ (Y (s.hidden+1)));rw[p]at c x |-;clear p i B;have i:k.cell? ⟨g,7,none⟩=some (Y (s.hidden+1)):=c.hg.f_ 7;have A:k.cell? ⟨g,8,none⟩=some (Y s.most):=c.hg.f_ 8;have C:=c.hg.hG 8
 go_region
 go_upto_region 3 with fail
 have f:=(c.set 8 (Y (if s.most<s.hidden+1 then s.hidden+1 else s.most)) (hC:=s.hC) (hidden:=s.hidden+1) (most:=if s.most<s.hidden+1 then s.hidden+1 else s.most) rfl).hF (H [] _).drew;have m:=U ((c.zp 8 (Y (if s.most<s.hidden+1 then s.hidden+1 else s.most))).trans (.js (H [] _).drew));obtain⟨q,u⟩:=mn_ ((k.setCell ⟨g,8,none⟩ (Y (if s.most<s.hidden+1 then s.hidden+1 else s.most))).drew);rw[u]at f m |-;clear u i A C;have J:q.cell? ⟨g,6,none⟩=some (.slice s.VA s.vs.length s.vc):=f.hg.f_ 6;have i:q.cell? ⟨g,7,none⟩=some (Y (s.hidden+1)):=f.hg.f_ 7
 go_quiet (fail)
 go_wp2;rw[y.out];refine⟨jZ (by simp only[GS.lg];omega),⟨_,?_,f.hF ((H [] _).drewN _)⟩,(x.out.trans m.out).trans (.js ((H [] _).drewN _))⟩
 have e:(if s.most<s.hidden+1 then s.hidden+1 else s.most)=max s.most (s.hidden+1):=by split<;>omega
 simp only[GS.lg,iX.more,e]
def Er(w:World)(e:Ending)(w':World):Prop:=∃r:Int,0<=r/\r<=9/\e=.returned (Y r)/\w=w'
def lj(base g:Nat)(v:iX){x:ByteArray}{w:World}(h:lI base w g v)(f:v.vs.length<=9):
 Calls prog 204 #[.pointer (some ⟨g,0,none⟩),.string x] w (Er w):=by
 refine h5 λQ y=>?_
 obtain⟨s,rfl,h⟩:=h;have A:=h.hv;have f:s.vs.length<=9:=f;have p:w.cell? ⟨g,6,none⟩=some (.slice s.VA s.vs.length s.vc):=h.hg.f_ 6;generalize s.vs=m at A f p;obtain⟨n,k⟩:=mn_ m.length;have u:=U k;rw[k]at f p;clear k
 go_enter func204,ntmps204
 go_wp2
 go_loop [12] (λi=>∃c:Nat,c<=n/\i=Y c) (λi=>n-(intOf i).toNat)
 case atStart=>exact⟨0,N_ _,gn⟩
 case round=>
  obtain⟨c,F,rfl⟩:=hrel
  by_cases E:c<n
  .obtain⟨b,H,C,z⟩:=Sl.f_ A (ov u.out);have B:c<m.length:=ov u.out;have D:=z c (.string m[c]) (by rw[Gf,K_ B];rfl);rw[C]at p;clear z;go_wp2
   .rw[y.out];exact⟨c,X,X,rfl,rfl⟩
   .go_round
    case rel=>exact⟨c+1,X,gn⟩
    case measure=>exact mz
  .go_wp2;rw[y.out];exact⟨0,X,X,rfl,rfl⟩
def x_{w:World}{base:Nat}{e:TypeId}{size n c g:Nat}{xs:List Value}(h:w.ownsRow base e size (.slice (some ⟨g,0,none⟩) n c) n xs)(i:Nat)(u:Value):(w.setCell ⟨g,i,none⟩ u).ownsRow base e size (.slice (some ⟨g,0,none⟩) n c) n (xs.set i u):=by
 refine⟨by rw[F1];exact h.1,?_⟩
 rcases h.2 with⟨k,E⟩|⟨d,C,m,k,y,A,p,q,x,B⟩
 .cases k
 .injection k with f D z;injection f with f;injection f with f;subst f;have o:Bk w g e m:=A;refine .inr ⟨g,C,_,(by rw[z]),y,o.hV i u,p,q,by simpa using x,?_⟩;rw[<-B,HU,List.take_set]
def pE{m:Type}(E:m->List Value)(s:Nat)(f:∀a,(E a).length=s):∀(l:List m) (k j:Nat) (r:m) (u:Value) (c:k<l.length),j<s->E r=(E l[k]).set j u->(l.flatMap E).set (k*s+j) u=(l.set k r).flatMap E
 |[],k,j,r,u,c,_,_=>by simp at c
 |a::l,0,j,r,u,c,h,i=>by
  simp only[Ga,HB,W_,G0];rw[List.set_append_left _ _ (by rw[f];exact h),i]
  rfl
 |a::l,k+1,j,r,u,c,h,i=>by
  have e:(k+1)*s+j=s+(k*s+j):=by rw[G1,H3];omega
  simp only[Ga,GQ];rw[e,Ib _ _ (by rw[f];omega),f,Nat.add_sub_cancel_left,pE E s f l k j r u (zu c) h i]
def yU(v:Int)(l:List In)(k:Nat)(m:k<l.length):mg v l k=l.set k (l[k].o7 v):=by
 refine Hp (by simp[mg]) λh c i=>?_
 rw[uq v l k h (by rw[lF]at c;exact c),List.getElem_set];simp only[Gs];split
 .rename_i f;subst f
  rfl
 .rfl
def qO(v:Int)(l:List In)(k:Nat)(c:k<l.length):(lV l).set (k*5+4) (Y v)=lV (mg v l k):=by
 rw[yU v l k c];exact pE In.E 5 (λ_=>rfl) l k 4 _ _ c X rfl
def vu:Value:=.tuple #[]
def mI(base g:Nat){v:iX}(A:OA)(n c:Nat)(is:List Int){w:World}(h:lI base w g v)(hl:v.l.length<=100000)(hA:Ns w 3 A is)(W:is.length=n)(hi:∀i∈is,0<=i/\i<v.l.length)(ca:n<=100000):
 Calls prog 205 #[.pointer (some ⟨g,0,none⟩),.slice A n c] w (BV base g (v.here is) vu w):=by
 refine h5 λQ aq=>?_
 have K:=U W;clear W
 go_enter func205,ntmps205
 go_wp2
 go_loopw [8] (λB w'=>∃f:Nat,f<=n/\B=Y f/\lI base w' g {v with l:=lM v.l.length v.l (is.take f)}/\Gt base gT w w'/\mO 3 w w') (λB _=>n-(intOf B).toNat)
 case atStart=>exact⟨0,N_ _,gn,by simpa[lM]using h,.refl _ _ _,.js (H [] _)⟩
 case round=>
  obtain⟨f,hk,rfl,m,M,T⟩:=hrel;obtain⟨s,x,m⟩:=m
  by_cases af:f<n
  .have y:f<is.length:=ov K.out;obtain⟨b,off,aT,V⟩:=Sl.f_ (T.sl hA) X;have MV:=V f (Y is[f]) (by rw[Gf,K_ y];rfl);subst aT;clear V;have dL:=hi is[f] (O_ y);obtain⟨i,D⟩:∃i:Nat,is[f]=i:=⟨is[f].toNat,X⟩;have Z:=U D;rw[D]at MV dL;clear D;have p:s.l=lM v.l.length v.l (is.take f):=Z_ iX.l x
   have I:s.l.length=v.l.length:=by rw[p,i9]
   have z:i<s.l.length:=X;obtain⟨G,cur,C,cU,u,t⟩:=kE m.hl X
   have MU:wr.cell? ⟨g,1,none⟩=some (.slice (some ⟨G,0,none⟩) s.l.length s.lc):=by rw[<-C];exact m.hg.f_ 1
   have bM:=u.hG (i*5+4);have au:wr.cell? ⟨G,i*5+4,none⟩=some (Y s.l[i].n):=(u.f_ _).trans (t _ _ ((jh In.E 5 (λ_=>rfl) s.l i 4 z X).trans rfl));have bu:=U p;have dn:=U I;have R:=U C;have d:=U x;obtain⟨k,F⟩:=mn_ s.l.length;have HM:=U F;rw[F]at MU z;clear p I C x F
   go_upto_region 3 with fail
   go_region
   go_wp2;go_roundw
   case rel=>
    have cp:mO 3 wr (wr.setCell ⟨G,i*5+4,none⟩ (Y k)):=.set u O _ _
    have a:∀e,e≠189->mO e wr (wr.setCell ⟨G,i*5+4,none⟩ (Y k)):=λe E=>.set u (Ne.symm E) _ _
    have p:=m.hl;rw[R.out]at p;have J:=x_ p (i*5+4) (Y k);rw[qO k s.l i (by rw[HM.out];exact z)]at J
    have j:s.g_=GS.g_ {s with l:=mg k s.l i}:=by unfold GS.g_;simp only[lF]
    have ad:=(m.r5 (w':=wr.setCell ⟨G,i*5+4,none⟩ (Y k)) (L:=s.L) (lc:=s.lc) (l:=mg k s.l i) (hC:=s.hC) (hidden:=s.hidden) (most:=s.most) (by rw[<-j];exact(a _ O).bk m.hg) (by rw[R.out,lF];exact J) λe E=>a e (by rintro rfl;revert E;decide)).hF (H [] _).drew;refine⟨f+1,X,gn,⟨_,?_,ad⟩,M.trans ((Gt.set u cU O _ _).trans (.js (H [] _).drew)),(T.trans cp).trans (.js (H [] _).drew)⟩
    have aN:lM v.l.length v.l (is.take (f+1))=mg k s.l i:=by
     rw[T_ y,Z.out,bu.out]
     have:(k:Int)=v.l.length:=by rw[<-HM.out,dn.out]
     rw[this];unfold lM;rw[Hg]
     rfl
    have aK:=d.out;rw[aN];exact Ly
   case measure=>exact mz
  .go_wp2;refine en_ ?_;rw[aq.out]
   have:f=n:=X
   subst this;exact⟨rfl,⟨s,by rw[x,FP (ov K.out)];rfl,m⟩,M⟩
def ET.at_{w:World}{A:OA}{l:List ET}(h:Sl w 226 5 A l.length (l.flatMap ET.E)){k:Nat}(i:k<l.length):∃b off,A=some (Z b off)/\w.cell? (Z b (off+k*5))=some (Y l[k].h6)/\w.cell? (Z b (off+k*5+1))=some (Y l[k].n)/\
 w.cell? (Z b (off+k*5+2))=some (.string l[k].name)/\w.cell? (Z b (off+k*5+3))=some (Y l[k].op)/\w.cell? (Z b (off+k*5+4))=some (.slice l[k].A l[k].l.length l[k].c):=by
 obtain⟨b,off,hA,hc⟩:=Sl.f_ h X
 have g:=λj f=>jh ET.E 5 (λ_=>rfl) l k j i f
 exact KN
def Bk.cells5{w:World}{g:Nat}{t:TypeId}{a b c d e:Value}(h:Bk w g t #[a,b,c,d,e]):w.cell? (Z g 0)=some a/\w.cell? (Z g 1)=some b/\w.cell? (Z g 2)=some c/\w.cell? (Z g 3)=some d/\w.cell? (Z g 4)=some e:=h.c5
def oJ(base g:Nat)(v:iX)(D n:Nat)(w:World)(e:Ending)(w':World):Prop:=e=.returned vu/\∃v' q',lI base w' g v'/\Gt base gT w w'/\GK v' q' D/\GP v v' n
def zP:Nat->Nat|0=>1|d+1=>1+2*zP d
def qL:1<=zP d:=by induction d with|zero=>decide|succ d c=>unfold zP;omega
def GK.sb{v:iX}{q:Int}{c:Nat}(h:GK v q c):0<=v.hC/\v.hC<=v.l.length:=by
 rw[h.ok.wZ];refine⟨by unfold jF;omega,?_⟩;unfold jF
 have:=Gx (λf:In=>f.op==21) v.l
 omega
def Dh(base g:Nat)(V:List ByteArray)(d:Nat)(t:ET):Prop:=∀(r:Int) (v:iX) (q:Int) (D:Nat) (p:Nat->Prop) (w:World),0<=r->r+d<16->kq p w t->lI base w g v->GK v q D->v.l.length+zP d<=100000->
 Calls prog 203 #[q_ g,.agg t.g_,Y r] w (oJ base g v D (zP d) w)
def Aq(n:Int)(h0:0<=r)(c:r<16):lJ ⟨1,r,0,0,n⟩=true:=by simp[lJ,jV,i7,mi];omega
def po(n:Int)(h0:0<=r)(c:r<16)(f:0<=n)(h:n<64):lJ ⟨8,r,0,0,n⟩=true:=by simp[lJ,jV,i7,mi];omega
def Au(n:Int)(h0:0<=r)(c:r<16)(f:0<=n)(h:n<=16):lJ ⟨7,r,0,0,n⟩=true:=by simp[lJ,jV,i7,mi];omega
def yT(n:Int)(h0:0<=r)(c:r<16)(f:0<=n)(h:n<16):lJ ⟨5,r,r,0,n⟩=true:=by simp[lJ,jV,i7,mi];omega
def Av(n:Int)(h0:0<=r)(c:r+1<16)(f:1<=n)(h:n<=11):lJ ⟨4,r,r,r+1,n⟩=true:=by simp[lJ,jV,i7,mi,pA];omega
def lE(n:Int)(h0:0<=r)(c:r<16)(f:0<=n)(h:n<64):lJ ⟨9,r,0,0,n⟩=true:=by simp[lJ,jV,i7,mi];omega
def Bv(base g:Nat)(V:List ByteArray)(d:Nat)(n:Int):Dh base g V d (jz n):=by
 intro r v K z J w q H _ k i iN
 refine h5 λQ p=>?_
 have x:=qL d;obtain⟨m,y,D,I,f,c⟩:=box1 w 226 (jz n).g_;replace c:Bk m y 226 #[Y 1,Y n,.string ByteArray.empty,Y 0,n_]:=c;obtain⟨B,A,F,C,E⟩:=c.cells5
 go_enter func203,ntmps203
 go_wp2_with (go_at_call 138;refine(iq base g v (k.hF f) X).mono ?_;rintro e L⟨rfl,u,h⟩)
 refine en_ ?_;rw[p.out];exact⟨rfl,_,_,u,(Gt.js f).trans h,i.simp (Aq r n q X),(GP.put v _).le x⟩
def Bw(base g:Nat)(V:List ByteArray)(d:Nat)(n:Int)(y:0<=n)(J:n<=3):Dh base g V d (eNew n):=by
 intro r v M A L w q I _ k i iN
 refine h5 λQ p=>?_
 have x:=qL d;obtain⟨m,z,E,K,f,c⟩:=box1 w 226 (eNew n).g_;replace c:Bk m z 226 #[Y 6,Y n,.string ByteArray.empty,Y 0,n_]:=c;obtain⟨C,B,H,D,F⟩:=c.cells5
 go_enter func203,ntmps203
 go_wp2_with (go_at_call 138;refine(iq base g v (k.hF f) X).mono ?_;rintro e O⟨rfl,u,h⟩)
 refine en_ ?_;rw[p.out];exact⟨rfl,_,_,u,(Gt.js f).trans h,i.simp (Au r n q X y X),(GP.put v _).le x⟩
def we(base g:Nat)(V:List ByteArray)(d:Nat)(s:ByteArray):Dh base g V d (jA s):=by
 intro r v R C O w x L _ i h iN
 refine h5 λQ p=>?_
 have z:=qL d;have u:=h.v1;obtain⟨m,B,H,M,f,c⟩:=box1 w 226 (jA s).g_;replace c:Bk m B 226 #[Y 3,Y 0,.string s,Y 0,n_]:=c;obtain⟨E,D,J,F,I⟩:=c.cells5
 go_enter func203,ntmps203
 go_wp2_with (first|(go_at_call 204;refine(lj base g v (i.hF f) u).mono ?_;rintro e T⟨A,q,K,rfl,rfl⟩)|(go_at_call 138;refine(iq base g v (i.hF f) X).mono ?_;rintro e U⟨rfl,y,k⟩))
 refine en_ ?_;rw[p.out];exact⟨rfl,_,_,y,(Gt.js f).trans k,h.simp (po r A x X q X),(GP.put v _).le z⟩
def xE(base g:Nat)(V:List ByteArray)(d:Nat)(n:Int)(A:OA)(s:ByteArray)(hn0:0<=n)(hn1:n<=2):Dh base g V (d+1) (pG n A (jA s)):=by
 intro r v ad C z w u x i F E iN
 refine h5 λQ M=>?_
 have hd:=qL d;have j:v.l.length+(1+2*zP d)<=100000:=iN;obtain⟨p,ae,aW,hx,f,c⟩:=box1 w 226 (pG n A (jA s)).g_;replace c:Bk p ae 226 #[Y 4,Y n,.string ByteArray.empty,Y 0,.slice A 1 1]:=c
 have q:Sl w 226 5 A [jA s].length ([jA s].flatMap ET.E):=by cases i with|mk t h _ _ _=>exact h
 have km:kq z w (jA s):=by cases i with|mk t _ _ _ h=>exact h _ (by simp[ET.l,pG])
 obtain⟨b,off,hA,H,T,K,I,W⟩:=ET.at_ (q.hF f) (k:=0) J;subst hA;simp only[HB,Hb]at H T K I W;obtain⟨MV,MU,au,aP,ar⟩:=c.cells5;have R:=U (we base g V d s r v ad C z p u X (km.hF f) (F.hF f) E X);clear q i
 go_enter func203,ntmps203
 go_wp2_with (first|(go_at_call 203;refine R.out.mono ?_;rintro e w1⟨rfl,B,bo,x,y,L,m⟩;have P:=c.gt y O;obtain⟨z0,aR,aZ,z3,z4⟩:=P.cells5;have hl1:=m.len)|(go_at_call 138;refine(iq base g B x X).mono ?_;rintro e w2⟨rfl,Z,D⟩))
 refine en_ ?_;rw[M.out];exact⟨rfl,_,_,Z,((Gt.js f).trans y).trans D,(L.simp (yT r n u X hn0 X)),(m.trans (GP.put B _)).le (show zP d+1<=1+2*zP d by omega)⟩
def Bx(base g:Nat)(V:List ByteArray)(d:Nat)(o:Int)(A:OA)(a b:ET)(dG:1<=o)(cX:o<=11)(c:Dh base g V d a)(i:Dh base g V d b):Dh base g V (d+1) (pY o A a b):=by
 intro r v ad z u w h0 h1 p MZ MY iN
 refine h5 λQ aq=>?_
 have hd:=qL d;have j:v.l.length+(1+2*zP d)<=100000:=iN;obtain⟨D,af,aW,hx,f,m⟩:=box1 w 226 (pY o A a b).g_;replace m:Bk D af 226 #[Y 5,Y 0,.string ByteArray.empty,Y o,.slice A 2 2]:=m
 have x:Sl w 226 5 A [a,b].length ([a,b].flatMap ET.E):=by cases p with|mk t h _ _ _=>exact h
 have ah:kq u w a:=by cases p with|mk t _ _ _ h=>exact h _ (by simp[ET.l,pY])
 have F:kq u w b:=by cases p with|mk t _ _ _ h=>exact h _ (by simp[ET.l,pY])
 obtain⟨bC,off,hA,E,c1,M,I,c4⟩:=ET.at_ (x.hF f) (k:=0) J;subst hA;simp only[HB,Hb,GG]at E c1 M I c4;obtain⟨MV,MU,au,aP,ar⟩:=m.cells5;have bp:=U (c r v ad z u D h0 X (ah.hF f) (MZ.hF f) MY X);have bj:=U (x.hF f);have bZ:=U (F.hF f);clear x p ah F
 go_enter func203,ntmps203
 go_wp2_with fail
 go_at_call 203
 refine bp.out.mono ?_;rintro e w1⟨rfl,v1,bo,aT,q,ak,B⟩;have P:=m.gt q O;obtain⟨z0,K,L,z3,z4⟩:=P.cells5;have hl1:=B.len;obtain⟨aj,al,y,H,R,W,T,Z⟩:=ET.at_ (bj.out.gt q O) (k:=1) J;injection y with y;injection y with ae am;subst ae;subst am;simp only[H3,Hr,GG]at H R W T Z;have an:=U (i (r+1) v1 bo z u w1 X X (bZ.out.gt q O) aT ak X);clear E c1 M I c4 MV MU au aP ar
 go_wp2_with fail
 go_at_call 203
 refine an.out.mono ?_;rintro e w2⟨rfl,ck,bN,aF,C,cT,ce⟩;have br:=P.gt C O;have b6:=ce.len;clear z0 K L z3 z4 H R W T Z;obtain⟨z0,K,L,z3,z4⟩:=br.cells5
 go_wp2_with (go_at_call 138;refine(iq base g ck aF X).mono ?_;rintro e ag⟨rfl,h3,S⟩)
 refine en_ ?_;rw[aq.out];exact⟨rfl,_,_,h3,(((Gt.js f).trans q).trans C).trans S,(cT.simp (Av r o h0 X dG cX)),((B.trans ce).trans (GP.put ck _)).le (show zP d+zP d+1<=1+2*zP d by omega)⟩
def o0(base g:Nat)(V:List ByteArray)(d:Nat)(t:ET)(h:EG V d t):Dh base g V d t:=by
 induction h with
 |num d n _ _=>exact Bv base g V d n
 |var d s _=>exact we base g V d s
 |new d n c f=>exact Bw base g V d n c f
 |field d n i s c f _=>exact xE base g V d n i s c f
 |bin d o i a b c f _ _ m k=>exact Bx base g V d o i a b c f m k
section
variable{P:Program}{md:Region.Mode}{S:World->Prop}{N:Nat}{Q:Exit->Act->World->Prop}
section
variable{ops:Array Oper}{o:Oper}{rest:List Oper}{a:Act}{w:World}{l:List Oper}{tl:List Value}{ds:List Deferred}{j d:Nat}{oj:Oper}{r:List Oper}{r2:List Value}{b b':Bool}{v:Value}
def Dp(hg:o.guard=none)(h:wpList P ops Q rest (a.put o.dst v) w)(hy:(execOp a.eval o).run P w=.ok (.value v) w:=by first|(go_simp;done)|(go_simp;with_reducible rfl)):wpList P ops Q (o::rest) a w:=ir hg hy h
end
end
def om{f:TypeId}{P:Program}{w:World}{ops:Array Oper}{o:Oper}{a:Act}{K:Act->World->Prop}{Q:Exit->Act->World->Prop}{E:Prop}(L:o.guard=none)(s x:Operand)(t:TypeId)
 (T:o.op=.call {callee:=.builtin .append,args:=#[s,x],argTypes:=#[t,t]})
 (base:Nat) (e:TypeId) (i:TypeInfo) {D:Value} (size bytes:Nat) (W:P.underlying t=some (.slice e)) (R:P.info? e=some i) (Y:i.zero=some D)
 (q:i.size=size) (p:i.bytes=bytes) (C:D.cells.size=size) (J:0<size) (F:0<bytes)
 (k:OA) (n z:Nat) {xs:List Value} (V:a.eval s=.slice k n z) (M:w.ownsRow base e size (.slice k n z) n xs)
 {A:OA} (m c:Nat) {B:List Value} (X:a.eval x=.slice A m c) (U:Sl w f size A m B) (O:∀u∈B,u.oneCell'=true)
 (y:(n+m)*bytes<=140737488355328) (I:base<=w.heap.size)
 (h:∀(A':OA) (c':Nat) (w':World),w'.ownsRow base e size (.slice A' (n+m) c') (n+m) (xs++B)->w.grownBy w' (Value.slice k n z).ownBlock->((Value.slice A' (n+m) c').ownBlock=(Value.slice k n z).ownBlock∨(Value.slice A' (n+m) c').ownBlock=some w.heap.size)->K (a.put o.dst (.slice A' (n+m) c')) w'):
 if Region.wanted o (yielded ops a.tmps)=true then Oper.wp P o a w K Q else E:=by
 have H:Region.wanted o (yielded ops a.tmps)=true:=by simp[Region.wanted,L]
 rw[U_ H];exact oO s x t T base e i D size bytes W R Y q p C J F k n z xs V M A m c B X U O y I h
def At.row(a:At):Value × List Int:=(.slice a.A a.is.length a.c,a.is)
def GS.pre(s:GS)(MS:List At):List (Value × List Int):=(.slice s.EA s.es.length s.ec,s.es)::(.slice s.FA s.fs.length s.fc,s.fs)::MS.map At.row
def GS.qf(s:GS)(c:List At)(a:At)(h:s.os=c++[a]):s.rows=s.pre (s.rt++c)++[a.row]:=by
 unfold GS.rows GS.pre;rw[h,<-Gc,FV]
 rfl
def kf{l:List (Value × List Int)}{x:Value × List Int}:((l++[x]).filterMap λr=>r.1.ownBlock).Nodup↔(l.filterMap λr=>r.1.ownBlock).Nodup/\∀b,x.1.ownBlock=some b->∀r∈l,r.1.ownBlock≠some b:=by
 rw[List.filterMap_append,Hv]
 cases k:x.1.ownBlock with
 |none=>simp[k]
 |some c=>
  simp only[List.filterMap_cons,k,List.filterMap_nil];constructor
  .rintro⟨f,_,m⟩;refine⟨f,λb p r i h=>?_⟩
   cases p
   exact m c (Il.2 ⟨r,i,h⟩) c J rfl
  .rintro⟨f,m⟩;refine⟨f,J,λz p y u=>?_⟩
   have:y=c:=zu u
   subst this;obtain⟨r,i,h⟩:=Il.1 p;rintro rfl;exact m _ rfl r i h
def nc.DM{base g:Nat}{w w':World}{s:GS}(h:nc base w g s)(f:List At)(a:At)(B:s.os=f++[a])(A':OA)(c' n:Nat)(i:Int)(hn:a.is.length=n)
 (D:w.grownBy w' (Value.slice a.A n a.c).ownBlock) (V:w'.ownsRow base 3 1 (.slice A' (n+1) c') (n+1) (a.is.map (Y)++[Y i]))
 (o:(Value.slice A' (n+1) c').ownBlock=(Value.slice a.A n a.c).ownBlock∨(Value.slice A' (n+1) c').ownBlock=some w.heap.size):
 Bk w' a.box 30 #[.slice a.A n a.c]/\nc base (w'.setCell (Z a.box 0) (.slice A' (n+1) c')) g {s with os:=f++[{a with A:=A',c:=c',is:=a.is++[i]}]}/\Gt base gT w (w'.setCell (Z a.box 0) (.slice A' (n+1) c')):=by
 subst hn;have l:=s.qf f a B;have C:=h.km;rw[l,kf]at C;have M:=h.hi a.row (by rw[l];simp)
 have j:∀e,e≠3->mO e w w':=λe k=>.app D M (Ne.symm k)
 have z:s.rt++s.os=(s.rt++f)++[a]:=by rw[B,Gc]
 obtain⟨X,T⟩:=h.hb a (by rw[z];simp);have d:=(j _ O).bk X
 have U:∀e,e≠30->mO e w' (w'.setCell (Z a.box 0) (.slice A' (a.is.length+1) c')):=λe k=>.set d (Ne.symm k) _ _
 have y:=λe E F=>(j e E).trans (U e F)
 have L:=h.hbn;rw[z,FV,Hv]at L;have W:Gt base gT w (w'.setCell (Z a.box 0) (.slice A' (a.is.length+1) c')):=(Gt.app D M O).trans (.set d T O _ _)
 have iN:(f++[({a with A:=A',c:=c',is:=a.is++[i]}:At)]).length=s.os.length:=by rw[B];simp
 have R:GS.rows {s with os:=f++[({a with A:=A',c:=c',is:=a.is++[i]}:At)]}=s.pre (s.rt++f)++[(.slice A' (a.is.length+1) c',a.is++[i])]:=by
  rw[GS.qf _ f {a with A:=A',c:=c',is:=a.is++[i]} rfl];simp[At.row,GS.pre]
 refine⟨d,⟨?_,h.hbg,(y _ O O).own h.hl,(y _ O O).own h.hc,?_,?_,?_,?_,?_,(y _ O O).sl h.hv,G_ h.hz (y 9 O O).1⟩,W⟩
 .have H:GS.g_ {s with os:=f++[({a with A:=A',c:=c',is:=a.is++[i]}:At)]}=s.g_:=by unfold GS.g_;rw[iN]
  rw[H];exact(y _ O O).bk h.hg
 .have:=(y _ O O).own h.ho
  rw[B]at this;exact MR
 .intro x u
  have H:x∈(s.rt++f)++[({a with A:=A',c:=c',is:=a.is++[i]}:At)]:=by rw[Gc];exact u
  rcases X_.1 H with u|u
  .obtain⟨E,F⟩:=h.hb x (by rw[z];exact F9 _ u);refine⟨((j _ O).bk E).ih (p:=(Z a.box 0)) (λk=>?_) _,F⟩;exact L.2.2 x.box (FQ.2 ⟨x,u,rfl⟩) a.box J k
  .have:x={a with A:=A',c:=c',is:=a.is++[i]}:=zu u
   subst this;refine⟨?_,T⟩
   have:=d.hV 0 (.slice A' (a.is.length+1) c')
   show Bk _ a.box _ #[.slice A' (a.is++[i]).length c']
   rw[J_];exact this
 .have:=h.hbn
  rw[z]at this;exact MR
 .intro r m;rw[R]at m;refine(U 3 O).own ?_
  rcases X_.1 m with m|m
  .refine ns (h.hi r (by rw[l];exact F9 _ m)) (I.iW D) λx u k=>?_
   exact C.2 x (jK.1 u) r m k
  .have:r=(.slice A' (a.is.length+1) c',a.is++[i]):=zu m
   subst this
   simpa using V
 .rw[R,kf];refine⟨C.1,λb K r m k=>?_⟩
  rcases o with H|H
  .exact C.2 b (H.symm.trans K) r m k
  .have af:=(kk (h.hi r (by rw[l];exact F9 _ m)) k).2
   have:some w.heap.size=some b:=H.symm.trans K
   injection this;omega
def tL(i:Int):∀(l:List (Nat × List Int)) (a:Nat × List Int),qV i (l++[a])=l++[(a.1,a.2++[i])]
 |[],a=>rfl
 |[b],a=>rfl
 |b::c::l,a=>by
  have:=tL i (c::l) a
  simp only[Hq]at this |-;rw[qV,this]
def oh(base g:Nat){v:iX}{w:World}(h:lI base w g v)(z:v.l.length<=100000)(j:∀a∈v.ats,a.2.length<=100000)(cW:v.ats.length<=100000):
 Calls prog 217 #[q_ g] w (BV base g v.protect vu w):=by
 refine h5 λQ aq=>?_
 obtain⟨s,rfl,h⟩:=h;have z:s.l.length<=100000:=z
 rcases List.eq_nil_or_concat s.os with f|⟨x,a,f⟩
 .have B:w.cell? (Z g 9)=some (.slice s.OA 0 s.oc):=by have:=h.hg.f_ 9;unfold GS.g_ at this;rw[f]at this;exact this
  have E:=U (mF base g s 17 0 0 0 0 w h z);have b:=U f;clear f
  go_enter func217,ntmps217
  go_wp2_with (go_at_call 138;refine E.out.mono ?_;rintro e m⟨L,lc,rfl,u,C,I⟩)
  refine en_ ?_;rw[aq.out];refine⟨rfl,⟨_,?_,u⟩,C⟩;simp only[GS.lg,iX.protect,b.out]
  rfl
 .rw[List.concat_eq_append]at f;obtain⟨bJ,bG,bA,a6,be⟩:=info_parts infoInt;have aZ:a.is.length<=100000:=j (a.box,a.is) (by simp[GS.lg,f]);obtain⟨n,T⟩:=mn_ a.is.length;obtain⟨c,K⟩:=mn_ x.length
  have D:s.os.length=c+1:=by rw[f];simp[K]
  have cG:c+1<=100000:=by
   have:s.os.length<=100000:=by simpa[GS.lg]using cW
   omega
  have B:w.cell? (Z g 9)=some (.slice s.OA (c+1) s.oc):=by have:=h.hg.f_ 9;unfold GS.g_ at this;rw[D]at this;exact this
  obtain⟨M,cur,A,_,ae,t⟩:=kE h.ho X;have J:w.cell? (Z M c)=some (q_ a.box):=(ae.f_ c).trans (t c _ (by rw[f];simp[<-K]));have R:=(h.hb a (by rw[f];simp)).1;rw[T]at R aZ;have dr:w.cell? (Z a.box 0)=some (.slice a.A n a.c):=R.f_ 0;rw[A]at B;have E:=U (mF base g s 17 0 0 0 0 w.drew (h.hF (H [] w).drew) z);have b:=U f;have a2:=U T;have V:=U A;have bl:=U D;have F:=U ae;clear f T A K D t
  go_enter func217,ntmps217
  go_upto_region 2 with fail
  have aF:IntKind.i64.wrap (c:Int)=c:=F5 _ X;have cF:(c:Int)<(c:Int)+1:=X;refine hN (λw'=>w'.cell? (Z g 9)=some (.slice (j_ M) (c+1) s.oc)/\w'.cell? (Z M c)=some (q_ a.box)/\w'.cell? (Z a.box 0)=some (.slice a.A n a.c)) 23 k_ ?_
  refine m5 ⟨B,J,dr⟩ λk=>?_
  repeat refine jQ k ?_
  refine hZ 19 λp i=>?_
  go_simp
  go_at_call 138
  refine E.out.mono ?_;rintro e m⟨L,lc,rfl,u,C,I⟩;have br:=(I 313 O O).bk F.out;clear k
  refine h4 i (
   ⟨by have:=u.hg.f_ 9;unfold GS.g_ at this;rw[V.out,bl.out]at this;exact this,(br.f_ c).trans ((F.out.f_ c).symm.trans J),((I 30 O O).bk R).f_ 0⟩) λk=>?_
  clear i p
  refine hZ 20 λp i=>?_
  go_simp;refine i.out _ _ (λ_=>⟨jC k.1 _,jC k.2.1 _,jC k.2.2 _⟩) ?_;clear i p;have q:=u.hF ((H [] m).alloc (.cells #[Y s.l.length] 3));have bn:Sl (m.alloc (.cells #[Y s.l.length] 3)) 3 1 (j_ m.heap.size) 1 [Y s.l.length]:=jj (n:=1) (s:=1) (P_ m 3 _) rfl;have S:Gt base gT w (m.alloc (.cells #[Y s.l.length] 3)):=((Gt.js (H [] w).drew).trans C).trans (.js ((H [] m).alloc _));have bD:=br.alloc (.cells #[Y s.l.length] 3);obtain⟨ag,W⟩:=nm_ (m.alloc (.cells #[Y s.l.length] 3));rw[<-W]at q bn S bD |-;clear W k;obtain⟨cz,y⟩:=nm_ ({s with L:=L,lc:=lc,l:=s.l++[⟨17,0,0,0,0⟩]}:GS);rw[<-y]at q;have af:=U y
  have ah:cz.os=x++[a]:=by rw[y];exact b.out
  have ao:=q.hi a.row (by rw[cz.qf x a ah];simp)
  have ai:=by have:=ao;unfold At.row at this;simp only at this;rw[a2.out]at this;exact this
  clear y ao u
  refine hZ 21 λp i=>?_
  refine om rfl (.tmp 27) (.tmp 30) 30 rfl base 3 bJ 1 8 underlying30 bG bA a6 be rfl O O a.A n a.c rfl ai 1 1 rfl bn (by intro al hu;simp at hu;subst hu;rfl) X q.hz ?_;intro A' c' ad ak bE o;obtain⟨d,av,aj⟩:=q.DM x a ah A' c' n s.l.length a2.out bE ak o
  have bP:∀e,e≠3->mO e ag ad:=λe he=>.app bE ai (Ne.symm he)
  refine h4 i (by
   refine⟨?_,((bP _ O).bk bD).f_ c |>.trans ((F.out.f_ c).symm.trans J),d.f_ 0⟩;refine(((bP _ O).bk q.hg).f_ 9).trans ?_;rw[af.out]
   show some (Value.slice s.OA s.os.length s.oc)=_
   rw[V.out,bl.out]) λk=>?_
  clear i p;refine iv 22 k ?_;have bB:=d.hG 0
  refine hZ 23 λp i=>?_
  go_simp;refine i.out _ _ (λh=>FU h O) ?_;refine hM k_ ?_ _;go_wp2;refine rn_ ?_;rw[aq.out];refine⟨rfl,⟨_,?_,av⟩,S.trans aj⟩;rw[af.out];simp only[GS.lg,iX.protect,b.out,FV,Gm,GZ];rw[tL]
def nk(w:World)(pv:Value):Prop:=∃(PA:OA) (c:Nat) (fs:List FT),pv=.slice PA 3 c/\fs.length=3/\BZ w PA fs/\tS pX fs 0=1/\tS pz fs 0=2
def nk.gt{base:Nat}{w w':World}{pv:Value}(h:nk w pv)(u:Gt base gT w w'):nk w' pv:=by
 obtain⟨c,i,k,m,p,q,f⟩:=h;exact⟨c,i,k,m,p,Sl.gt q u O,f⟩
def Db(base g:Nat)(V:List ByteArray)(D:Nat):Prop:=∀(N:Nat) (t:ST) (v:iX) (q:Int) (p:Nat->Prop) (w:World),lX V D N [t]->jL p w t->nk w v.pv->lI base w g v->GK v q D->v.l.length+30*N<=100000->
 Calls prog 175 #[q_ g,.agg t.g_] w (oJ base g v D (30*N) w)
def uN(base g:Nat)(V:List ByteArray)(D:Nat):Prop:=∀(N:Nat) (A:OA) (n c:Nat) (ts:List ST) (v:iX) (q:Int) (p:Nat->Prop) (w:World),ts.length=n->n<=100000->lX V D N ts->Sl w 229 8 A n (ts.flatMap ST.E)->(∀u∈ts,jL p w u)->nk w v.pv->lI base w g v->GK v q D->v.l.length+30*N<=100000->
 Calls prog 137 #[q_ g,.slice A n c] w (oJ base g v D (30*N) w)
def ST.at_{w:World}{A:OA}{l:List ST}{n:Nat}(h:Sl w 229 8 A n (l.flatMap ST.E))(q:l.length=n){k:Nat}(p:k<l.length):∃b c,A=some (Z b c)/\w.cell? (Z b (c+k*8))=some (Y l[k].h6)/\w.cell? (Z b (c+k*8+1))=some (.string l[k].name)/\
 w.cell? (Z b (c+k*8+2))=some (.string l[k].fn)/\w.cell? (Z b (c+k*8+3))=some (Y l[k].n)/\w.cell? (Z b (c+k*8+4))=some (Y l[k].op)/\
 w.cell? (Z b (c+k*8+5))=some (.slice l[k].AE l[k].es.length l[k].cE)/\w.cell? (Z b (c+k*8+6))=some (.slice l[k].AB l[k].bs.length l[k].cB)/\w.cell? (Z b (c+k*8+7))=some (.slice l[k].AL l[k].ls.length l[k].cL):=by
 obtain⟨b,c,i,f⟩:=Sl.f_ h X
 have g:=λj m=>jh ST.E 8 (λ_=>rfl) l k j p m
 exact⟨b,c,i,f (k*8+0) _ (g 0 X),f (k*8+1) _ (g 1 X),f (k*8+2) _ (g 2 X),f (k*8+3) _ (g 3 X),f (k*8+4) _ (g 4 X),f (k*8+5) _ (g 5 X),f (k*8+6) _ (g 6 X),f (k*8+7) _ (g 7 X)⟩
def Bk.i5{w:World}{g:Nat}{t:TypeId}{a b c d e f i j:Value}(h:Bk w g t #[a,b,c,d,e,f,i,j]):w.cell? (Z g 0)=some a/\w.cell? (Z g 1)=some b/\w.cell? (Z g 2)=some c/\w.cell? (Z g 3)=some d/\w.cell? (Z g 4)=some e/\w.cell? (Z g 5)=some f/\w.cell? (Z g 6)=some i/\w.cell? (Z g 7)=some j:=
 ⟨h.f_ 0,h.f_ 1,h.f_ 2,h.f_ 3,h.f_ 4,h.f_ 5,h.f_ 6,h.f_ 7⟩
def lX.one{V:List ByteArray}{f N:Nat}{t:ST}(h:lX V f N [t]):∃r nb nl c L,f=r+1/\N=1+nb+nl/\mY V t.h6 t.name t.fn t.n t.op t.es.length c L/\(c=false->t.bs=[])/\(L=false->t.ls=[])/\(∀e∈t.es,EG V 2 e)/\lX V r nb t.bs/\lX V r nl t.ls:=by
 cases h with
 |cons f a b nb nl t l c L h i k p m q x u=>
  cases u
  exact⟨f,nb,nl,c,L,rfl,X,h,i,k,p,m,q⟩
def jL.parts{p:Nat->Prop}{w:World}{t:ST}(h:jL p w t):Sl w 226 5 t.AE t.es.length (t.es.flatMap ET.E)/\(∀u∈t.es,kq p w u)/\Sl w 229 8 t.AB t.bs.length (t.bs.flatMap ST.E)/\(∀u∈t.bs,jL p w u)/\Sl w 229 8 t.AL t.ls.length (t.ls.flatMap ST.E)/\(∀u∈t.ls,jL p w u):=by
 cases h with
 |mk t i A x k c z C f m B y q=>exact⟨i,k,c,f,m,q⟩
def lX.len{V:List ByteArray}{c N:Nat}{l:List ST}(h:lX V c N l):l.length<=N:=by
 induction h with
 |nil c=>simp
 |cons c a b nb A t l f i h m p x u y q z _ _ k=>simp only[FK];omega
def Fq(base g:Nat)(v:iX)(D n:Nat)(w w':World):Prop:=∃v' q',lI base w' g v'/\Gt base gT w w'/\GK v' q' D/\GP v v' n
def mY.rng{V:List ByteArray}{k n o:Int}{x f:ByteArray}{m:Nat}{c L:Bool}(h:mY V k x f n o m c L):m<=2:=by cases h<;>omega
def nc.wm{base g:Nat}{w w':World}{s:GS}(h:nc base w g s)(p:Int × Int)(A':OA)(c':Nat)(i:w.grownBy w' (Value.slice s.CA s.cs.length s.cc).ownBlock)
 (q:w'.ownsRow base 219 2 (.slice A' (s.cs.length+1) c') (s.cs.length+1) (m9 s.cs++m9 [p])):
 Bk w' g 210 s.g_/\nc base (w'.setCell (Z g 5) (.slice A' (s.cs.length+1) c')) g {s with CA:=A',cc:=c',cs:=s.cs++[p]}/\Gt base gT w (w'.setCell (Z g 5) (.slice A' (s.cs.length+1) c')):=by
 have j:∀e,e≠219->mO e w w':=λe f=>.app i h.hc (Ne.symm f)
 have d:=(j _ O).bk h.hg
 have m:∀e,e≠210->mO e w' (w'.setCell (Z g 5) (.slice A' (s.cs.length+1) c')):=λe f=>.set d (Ne.symm f) _ _
 have c:∀e,e≠219->e≠210->mO e w (w'.setCell (Z g 5) (.slice A' (s.cs.length+1) c')):=λe u x=>(j e u).trans (m e x)
 refine⟨d,⟨?_,h.hbg,(c _ O O).own h.hl,?_,(c _ O O).own h.ho,λa k=>⟨(c 30 O O).bk (h.hb a k).1,(h.hb a k).2⟩,h.hbn,λr y=>(c 3 O O).own (h.hi r y),h.km,(c 9 O O).sl h.hv,G_ h.hz (c 9 O O).1⟩,(Gt.app i h.hc O).trans (.set d h.hbg O _ _)⟩
 .have:=d.hV 5 (.slice A' (s.cs.length+1) c')
  exact ML
 .rw[J_]
  have e:m9 (s.cs++[p])=m9 s.cs++m9 [p]:=by simp[m9]
  rw[e];exact(m _ O).own q
def Ap(n:Int)(h0:0<=n)(c:n<16):lJ ⟨6,1,0,0,n⟩=true:=by simp[lJ,jV,i7,mi];omega
def Ar(o r:Int)(c:o=1∨o=6∨o=9)(h0:0<=r)(f:r<64):lJ ⟨10,0,o,0,r⟩=true:=by
 rcases c with rfl|rfl|rfl<;>simp[lJ,jV,i7,mi,rB]<;>omega
def vx(base g:Nat)(V:List ByteArray)(al:Nat)(k:Int)(x f:ByteArray)(n o:Int)(J:OA)(cE:Nat)(es:List ET)(AB:OA)(cB:Nat)(bs:List ST)(AL:OA)(cL:Nat)(ls:List ST)(v:iX)(q:Int)(p:Nat->Prop)(w:World)(an L:Bool)(nb nl:Nat)(a7:uN base g V al)(cw:lX V al nb bs)(eb:lX V al nl ls)(aU:Sl w 229 8 AB bs.length (bs.flatMap ST.E))(cV:∀u∈bs,jL p w u)(cp:Sl w 229 8 AL ls.length (ls.flatMap ST.E))(cY:∀u∈ls,jL p w u)
 (bH:mY V k x f n o es.length an L) (aG:k≠9) (aY:k≠6) (av:k≠5) (hes:∀e∈es,EG V 2 e) (bn:Sl w 226 5 J es.length (es.flatMap ET.E)) (km:∀u∈es,kq p w u) (hP:nk w v.pv) (MZ:lI base w g v) (i:GK v q (al+1)) (iN:v.l.length+30*(1+nb+nl)<=100000):
 Calls prog 175 #[q_ g,.agg (ST.mk k x f n o J cE es AB cB bs AL cL ls).g_] w (oJ base g v (al+1) (30*(1+nb+nl)) w):=by
 refine h5 λQ aq=>?_
 obtain⟨aA,hm⟩:=mn_ es.length;have cF:=bH.rng;rw[hm]at cF bH;have HM:=U hm;have bK:=U bH;obtain⟨bd,gx,aW,hx,hg,hB⟩:=box1 w 229 (ST.mk k x f n o J cE es AB cB bs AL cL ls).g_
 replace hB:Bk bd gx 229 #[Y k,.string x,.string f,Y n,Y o,.slice J aA cE,.slice AB bs.length cB,.slice AL ls.length cL]:=by rw[<-hm];exact hB
 have ea:(k==9)=false:=zu aG;have d9:(k==6)=false:=zu aY;have dx:(k==5)=false:=zu av;obtain⟨T,R,I,W,ar,F,bf,bh⟩:=hB.i5;have j:=MZ.hF hg;have bj:=U (bn.hF hg);have cR:=U (λu A=>(km u A).hF hg:∀u∈es,kq p bd u);have aS:=U (hP.gt (.js hg:Gt base gT w bd));have da:=U (hP.gt (.js hg:Gt base gT w bd));have ef:=U aU;have eh:=U cp;clear hm bH bn km hP MZ aU cp
 go_enter func175,ntmps175
 go_upto_region 8 with fail
 clear T R I W ar F bf bh;have bU:=U aW;have bm:=U hx;clear aW hx
 go_loopw [27] (λah w'=>∃k:Nat,k<=aA/\ah=Y k/\Fq base g v (al+1) (7*k) bd w') (λah _=>aA-(intOf ah).toNat)
 case atStart=>exact⟨0,N_ _,gn,v,q,j,.refl _ _ _,i,.refl _⟩
 case round=>
  obtain⟨M,hi,rfl,v1,bo,a,ap,ak,bv⟩:=hrel;have hl1:=bv.len
  by_cases af:M<aA
  .have m:M<es.length:=ov HM.out;obtain⟨b,off,hA,B,K,D,C,c4⟩:=ET.at_ (bj.out.gt ap O) m;subst hA;have y:=o0 base g V 2 es[M] (hes _ (O_ m));have z:=(cR.out _ (O_ m)).gt ap O;generalize es[M]=e at B K D C c4 y z;obtain⟨am,bt,b9,hg1,MX,P⟩:=box1 wr 226 #[Y e.h6,Y e.n,.string e.name,Y e.op,.slice e.A e.l.length e.c];obtain⟨T,R,I,W,ar⟩:=P.cells5;have eg:=U (y M v1 bo (al+1) p am X X (z.hF MX) (a.hF MX) ak (show v1.l.length+7<=100000 by omega));clear y z a
   go_wp2_with fail
   refine eg.out.mono ?_;rintro aK w2⟨rfl,ck,E,ct,S,cT,ce⟩;go_wp2;go_roundw
   case rel=>exact⟨M+1,X,gn,ck,E,ct,(ap.trans (.js MX)).trans S,cT,(bv.trans ce).le (show 7*M+7<=7*(M+1) by omega)⟩
   case measure=>exact mz
  .have P:=hB.gt ap O;obtain⟨T,R,I,W,ar,F,bf,bh⟩:=P.i5;have bF:Gt base gT w wr:=(Gt.js hg).trans ap
   go_upto_region 13 with(go_at_call 204;refine(lj base g v1 a ak.v1).mono ?_;rintro e w1⟨r,bL,bO,rfl,rfl⟩)
   have c:GP v v1 14:=bv.le X;have b6:=c.len;have cZ:=ak.sb;have dC:=U (aS.out.gt ap);have bH:=bK.out;clear bK HM bj cR aS bv
   rcases bH with⟨_,d⟩|⟨_,dG,cX⟩|⟨_,d⟩|⟨_,d⟩|_|⟨_,d⟩|_|_|_|⟨_,d⟩|_|⟨_,d⟩|⟨_,d,_,eZ⟩
   .go_wp2_with (go_at_call 138;refine(iq base g v1 a X).mono ?_;rintro e w2⟨rfl,h2,M0⟩)
    refine en_ ?_;rw[aq.out];exact⟨rfl,_,_,h2,bF.trans M0,ak.simp (lE 0 r X X bL X),(c.trans (GP.put v1 _)).le X⟩
   .go_wp2_with (go_at_call 138;refine(iq base g v1 a X).mono ?_;rintro e w2⟨rfl,h2,M0⟩)
    refine en_ ?_;rw[aq.out];exact⟨rfl,_,_,h2,bF.trans M0,ak.simp (Ap n dG X),(c.trans (GP.put v1 _)).le X⟩
   .have cq:=dC.out;obtain⟨PA,pc,dX,c8,bZ,dB,bS,E⟩:=dC.out;have bx:=U bS;have cy:=U bZ;have dJ:=U dB;clear bZ dB bS E cq;obtain⟨s1,bV,bS⟩:=a;have c3:=U bV;have z0:wr.cell? (Z g 0)=some (.slice PA 3 pc):=KW;clear bV c8
    go_upto_region 21 with fail
    refine hN (λw'=>w'.cell? (Z g 0)=some (.slice PA 3 pc)/\w'.cell? (Z gx 2)=some (.string pX)) 6 k_ ?_
    refine m5 ⟨z0,I⟩ λm=>?_
    iterate 6 refine jQ m ?_
    refine hZ 6 λy i=>?_
    go_simp
    go_at_call 170
    refine(nM PA 3 pc dX pX _ cy.out (Sl.hF dJ.out (H [] _).drew) X).mono ?_;rintro e w2⟨rfl,C⟩;rw[bx.out];replace C:=(H [] wr).drew.trans C;refine i.out _ _ (λh=>FU h O) ?_;clear i y m
    try simp only[a_]
    refine hZ 7 λy i=>?_
    go_simp;refine i.out _ _ (λh=>FU h O) ?_;clear i y
    try simp only[a_]
    refine hM k_ ?_ _
    go_upto_region 22 with fail
    have E:=bS.hF C;have br:=P.hF C;have dM:=bF.trans (.js C);clear z0 T R I W ar F bf bh bS C;have z5:w2.cell? (Z g 5)=some (.slice s1.CA s1.cs.length s1.cc):=E.hg.f_ 5;have F:w2.cell? (Z gx 5)=some (.slice J 2 cE):=br.f_ 5;refine hN (λw'=>w'.cell? (Z g 5)=some (.slice s1.CA s1.cs.length s1.cc)/\w'.cell? (Z gx 5)=some (.slice J 2 cE)) 16 k_ ?_;have m:w2.drew.cell? (Z g 5)=some (.slice s1.CA s1.cs.length s1.cc)/\w2.drew.cell? (Z gx 5)=some (.slice J 2 cE):=⟨z5,F⟩
    have hls:s1.l.length<=100000:=by
     have e:s1.l=v1.l:=Z_ iX.l c3.out;rw[e];omega
    have aH:s1.cs.length<=100000:=by
     have e:s1.cs=v1.cs:=Z_ iX.cs c3.out;rw[e]
     have:=ak.ok.zR
     omega
    (iterate 9 refine jQ m ?_)
    refine iv 10 m ?_
    refine hZ 9 λy i=>?_
    go_simp
    go_at_call 138
    refine(mF base g s1 13 0 2 0 0 _ (E.hF (H [] _).drew) hls).mono ?_;rintro e B⟨ei,ep,rfl,cM,S,b7⟩;have bD:=br.drew.gt S O;clear m
    refine h4 i ⟨cM.hg.f_ 5,bD.f_ 5⟩ λm=>?_
    clear i y;refine iv 11 m ?_
    refine hZ 12 λy i=>?_
    go_simp;refine i.out _ _ (λ_=>⟨jC m.1 _,jC m.2 _⟩) ?_;clear i y m;have bn:Sl (B.alloc (.cells #[Y s1.l.length,Y 1] 219)) 219 2 (j_ B.heap.size) 1 (m9 [((s1.l.length:Int),1)]):=jj (n:=1) (s:=2) (P_ B 219 _) rfl;have D:=cM.hF ((H [] B).alloc (.cells #[Y s1.l.length,Y 1] 219));have K:=((dM.trans (.js (H [] w2).drew)).trans S).trans (.js ((H [] B).alloc (.cells #[Y s1.l.length,Y 1] 219)));have bQ:=bD.alloc (.cells #[Y s1.l.length,Y 1] 219);obtain⟨ad,dE⟩:=nm_ (B.alloc (.cells #[Y s1.l.length,Y 1] 219));rw[<-dE]at bn D K bQ |-;clear dE;obtain⟨bJ,bG,bA,a6,be⟩:=info_parts infoPa
    try simp only[a_]
    refine hZ 13 λy i=>?_
    refine om rfl (.tmp 74) (.tmp 82) 206 rfl base 219 bJ 2 16 underlying206 bG bA a6 be rfl O O s1.CA s1.cs.length s1.cc rfl D.hc 1 1 rfl bn (by intro u A;simp[m9]at A;rcases A with rfl|rfl<;>rfl) X D.hz ?_;intro a8 c5 MT aI dw _;obtain⟨b5,cj,ay⟩:=D.wm _ a8 c5 dw aI;have b8:=(mO.app (e:=229) dw D.hc O).bk bQ
    refine h4 i ⟨b5.f_ 5,b8.f_ 5⟩ λm=>?_
    clear i y
    (iterate 2 refine jQ m ?_)
    have f5:=b5.hG 5;have z5:=m.1
    refine hZ 16 λy i=>?_
    go_simp;refine i.out _ _ (λh=>FU h O) ?_;clear i y m z5 f5;refine hM k_ ?_ _;have bC:lI base (MT.setCell (Z g 5) (.slice a8 (s1.cs.length+1) c5)) g (v1.call 2 1):=⟨_,by rw[<-c3.out];rfl,cj⟩;have bl:=K.trans ay;obtain⟨ax,cn⟩:=nm_ (MT.setCell (Z g 5) (.slice a8 (s1.cs.length+1) c5));rw[<-cn]at bC bl |-;clear cn cj ay b5 D cM E K b8 bQ bD
    go_wp2_with fail
    go_at_call 136
    refine(mG base g bC (ov ((GP.call v1 2 1).len)) cZ.1 (by have:=cZ.2;show v1.hC<=100000;omega)).mono ?_;rintro e aJ⟨rfl,bI,aQ⟩;have aT:=ak.wn 2 1 X X X X;have aE:=(c.trans (GP.call v1 2 1)).trans (GP.mark _);exact IU
   .have cq:=dC.out;obtain⟨PA,pc,dX,c8,bZ,dB,bS,E⟩:=dC.out;have bx:=U E;have cy:=U bZ;have dJ:=U dB;clear bZ dB bS E cq;obtain⟨s1,bV,bS⟩:=a;have c3:=U bV;have z0:wr.cell? (Z g 0)=some (.slice PA 3 pc):=KW;clear bV c8
    go_upto_region 21 with fail
    refine hN (λw'=>w'.cell? (Z g 0)=some (.slice PA 3 pc)/\w'.cell? (Z gx 2)=some (.string pz)) 6 k_ ?_
    refine m5 ⟨z0,I⟩ λm=>?_
    iterate 6 refine jQ m ?_
    refine hZ 6 λy i=>?_
    go_simp
    go_at_call 170
    refine(nM PA 3 pc dX pz _ cy.out (Sl.hF dJ.out (H [] _).drew) X).mono ?_;rintro e w2⟨rfl,C⟩;rw[bx.out];replace C:=(H [] wr).drew.trans C;refine i.out _ _ (λh=>FU h O) ?_;clear i y m
    try simp only[a_]
    refine hZ 7 λy i=>?_
    go_simp;refine i.out _ _ (λh=>FU h O) ?_;clear i y
    try simp only[a_]
    refine hM k_ ?_ _
    go_upto_region 22 with fail
    have E:=bS.hF C;have br:=P.hF C;have dM:=bF.trans (.js C);clear z0 T R I W ar F bf bh bS C;have z5:w2.cell? (Z g 5)=some (.slice s1.CA s1.cs.length s1.cc):=E.hg.f_ 5;have F:w2.cell? (Z gx 5)=some (.slice J 1 cE):=br.f_ 5;refine hN (λw'=>w'.cell? (Z g 5)=some (.slice s1.CA s1.cs.length s1.cc)/\w'.cell? (Z gx 5)=some (.slice J 1 cE)) 16 k_ ?_;have m:w2.drew.cell? (Z g 5)=some (.slice s1.CA s1.cs.length s1.cc)/\w2.drew.cell? (Z gx 5)=some (.slice J 1 cE):=⟨z5,F⟩
    have hls:s1.l.length<=100000:=by
     have e:s1.l=v1.l:=Z_ iX.l c3.out;rw[e];omega
    have aH:s1.cs.length<=100000:=by
     have e:s1.cs=v1.cs:=Z_ iX.cs c3.out;rw[e]
     have:=ak.ok.zR
     omega
    (iterate 9 refine jQ m ?_)
    refine iv 10 m ?_
    refine hZ 9 λy i=>?_
    go_simp
    go_at_call 138
    refine(mF base g s1 13 0 1 0 0 _ (E.hF (H [] _).drew) hls).mono ?_;rintro e B⟨ei,ep,rfl,cM,S,b7⟩;have bD:=br.drew.gt S O;clear m
    refine h4 i ⟨cM.hg.f_ 5,bD.f_ 5⟩ λm=>?_
    clear i y;refine iv 11 m ?_
    refine hZ 12 λy i=>?_
    go_simp;refine i.out _ _ (λ_=>⟨jC m.1 _,jC m.2 _⟩) ?_;clear i y m;have bn:Sl (B.alloc (.cells #[Y s1.l.length,Y 2] 219)) 219 2 (j_ B.heap.size) 1 (m9 [((s1.l.length:Int),2)]):=jj (n:=1) (s:=2) (P_ B 219 _) rfl;have D:=cM.hF ((H [] B).alloc (.cells #[Y s1.l.length,Y 2] 219));have K:=((dM.trans (.js (H [] w2).drew)).trans S).trans (.js ((H [] B).alloc (.cells #[Y s1.l.length,Y 2] 219)));have bQ:=bD.alloc (.cells #[Y s1.l.length,Y 2] 219);obtain⟨ad,dE⟩:=nm_ (B.alloc (.cells #[Y s1.l.length,Y 2] 219));rw[<-dE]at bn D K bQ |-;clear dE;obtain⟨bJ,bG,bA,a6,be⟩:=info_parts infoPa
    try simp only[a_]
    refine hZ 13 λy i=>?_
    refine om rfl (.tmp 74) (.tmp 82) 206 rfl base 219 bJ 2 16 underlying206 bG bA a6 be rfl O O s1.CA s1.cs.length s1.cc rfl D.hc 1 1 rfl bn (by intro u A;simp[m9]at A;rcases A with rfl|rfl<;>rfl) X D.hz ?_;intro a8 c5 MT aI dw _;obtain⟨b5,cj,ay⟩:=D.wm _ a8 c5 dw aI;have b8:=(mO.app (e:=229) dw D.hc O).bk bQ
    refine h4 i ⟨b5.f_ 5,b8.f_ 5⟩ λm=>?_
    clear i y
    (iterate 2 refine jQ m ?_)
    have f5:=b5.hG 5;have z5:=m.1
    refine hZ 16 λy i=>?_
    go_simp;refine i.out _ _ (λh=>FU h O) ?_;clear i y m z5 f5;refine hM k_ ?_ _;have bC:lI base (MT.setCell (Z g 5) (.slice a8 (s1.cs.length+1) c5)) g (v1.call 1 2):=⟨_,by rw[<-c3.out];rfl,cj⟩;have bl:=K.trans ay;obtain⟨ax,cn⟩:=nm_ (MT.setCell (Z g 5) (.slice a8 (s1.cs.length+1) c5));rw[<-cn]at bC bl |-;clear cn cj ay b5 D cM E K b8 bQ bD
    go_wp2_with fail
    go_at_call 136
    refine(mG base g bC (ov ((GP.call v1 1 2).len)) cZ.1 (by have:=cZ.2;show v1.hC<=100000;omega)).mono ?_;rintro e aJ⟨rfl,bI,aQ⟩;have aT:=ak.wn 1 2 X X X X;have aE:=(c.trans (GP.call v1 1 2)).trans (GP.mark _);exact IU
   .have bM:=da.out;have cG:=ef.out.hF hg;have dQ:=eh.out.hF hg
    have b0:∀u∈bs,jL p bd u:=λu A=>(cV u A).hF hg
    have cO:∀u∈ls,jL p bd u:=λu A=>(cY u A).hF hg
    go_wp2_with fail
    go_at_call 138
    refine(iq base g _ a (ov c.len)).mono ?_;rintro e dZ⟨rfl,N,co⟩;have cI:=ak.v6 12 (.inr rfl);have b4:=c.trans (GP.put _ ⟨12,0,0,0,0⟩);have az:=ap.trans co;clear a ap co;have dy:iB (iX.put v1 ⟨12,0,0,0,0⟩).l v1.l.length=12:=oy v1
    have d8:v1.l.length<(iX.put v1 ⟨12,0,0,0,0⟩).l.length:=by simp[iX.put]
    generalize a2:iX.put v1 ⟨12,0,0,0,0⟩=ck at*;clear a2;clear T R I W ar F bf bh;obtain⟨T,R,I,W,ar,F,bf,bh⟩:=(hB.gt az O).i5
    go_wp2_with fail
    go_at_call 137
    refine(a7 nb AB _ cB bs _ _ p _ rfl (ov cw.len) cw (cG.gt az O) (λu A=>(b0 u A).gt az O O) (by rw[b4.pv];exact bM.gt az) N (cI.le X) (ov b4.len)).mono ?_;rintro e cN⟨rfl,z,dY,cz,cv,dg,aM⟩;have bi:=GK.of cI aM (dg.le (N_ _));have bw:=b4.trans aM;have cg:=az.trans cv;clear N az cv dg;have eo:iB z.l v1.l.length=12:=(aM.kp.2 _ X).trans dy;have ev:v1.l.length<z.l.length:=ov aM.kp.1
    go_wp2_with fail
    go_at_call 138
    refine(iq base g _ cz (ov bw.len)).mono ?_;rintro e ed⟨rfl,dh,dr⟩;have dD:=bi.v6 11 (.inl rfl);have db:=bw.trans (GP.put _ ⟨11,0,0,0,0⟩);have cH:=cg.trans dr;clear cz cg dr;have dV:iB (iX.put z ⟨11,0,0,0,0⟩).l z.l.length=11:=oy z
    have ek:z.l.length<(iX.put z ⟨11,0,0,0,0⟩).l.length:=by simp[iX.put]
    have dz:iB (iX.put z ⟨11,0,0,0,0⟩).l v1.l.length=12:=((GP.put z ⟨11,0,0,0,0⟩).kp.2 _ X).trans eo;obtain⟨am,bq,b9,cr,MX,P⟩:=box1 ed 3 #[Y v1.l.length];have d1:Ns am 3 (j_ bq) [(v1.l.length:Int)]:=jj (n:=1) (s:=1) P rfl;have d3:=dh.hF MX
    go_wp2_with fail
    go_at_call 205
    refine(mI base g _ 1 1 [(v1.l.length:Int)] d3 (ov db.len) d1 rfl (by intro M hi;simp at hi;subst hi;exact⟨X,X⟩) X).mono ?_;rintro e er⟨rfl,di,bR⟩;have dF:=dD.here v1.l.length (.inr dz);have de:=db.trans (GP.here _ [(v1.l.length:Int)]);have cA:=(cH.trans (.js MX)).trans bR;clear dh cH bR d3 d1 b9 cr MX P;clear T R I W ar F bf bh;obtain⟨T,R,I,W,ar,F,bf,bh⟩:=(hB.gt cA O).i5;have em:iB (iX.here (iX.put z ⟨11,0,0,0,0⟩) [(v1.l.length:Int)]).l z.l.length=11:=(oq _ _ _ _).trans dV
    have eu:(z.l.length:Int)<(iX.here (iX.put z ⟨11,0,0,0,0⟩) [(v1.l.length:Int)]).l.length:=by simp only[iX.here,i9];omega
    generalize cu:iX.here (iX.put z ⟨11,0,0,0,0⟩) [(v1.l.length:Int)]=v9 at*;clear cu
    go_wp2_with fail
    go_at_call 137
    refine(a7 nl AL _ cL ls _ _ p _ rfl (ov eb.len) eb (dQ.gt cA O) (λu A=>(cO u A).gt cA O O) (by rw[de.pv];exact bM.gt cA) di (dF.le X) (ov de.len)).mono ?_;rintro e d0⟨rfl,v25,ey,dj,dt,d6,dH⟩;have dO:=GK.of dF dH (d6.le (N_ _));have dm:=de.trans dH;have dk:=cA.trans dt;clear di cA dt d6;have dW:iB v25.l z.l.length=11:=(dH.kp.2 _ X).trans em;have d7:(z.l.length:Int)<v25.l.length:=ov dH.kp.1;obtain⟨aX,aC,bE,cx,bW,br⟩:=box1 d0 3 #[Y z.l.length];have d2:Ns aX 3 (j_ aC) [(z.l.length:Int)]:=jj (n:=1) (s:=1) br rfl;have d4:=dj.hF bW
    go_wp2_with fail
    go_at_call 205
    refine(mI base g _ 1 1 [(z.l.length:Int)] d4 (ov dm.len) d2 rfl (by intro M hi;simp at hi;subst hi;exact⟨X,d7⟩) X).mono ?_;rintro e et⟨rfl,dL,du⟩;have dP:=dO.here z.l.length (.inl dW);have dR:=dm.trans (GP.here _ [(z.l.length:Int)]);have dN:=(dk.trans (.js bW)).trans du;clear dj dk du d4 d2 bE cx bW br;exact LI
   .exact FU rfl av
   .exact FU rfl aY
   .exact J3
   .exact J3
   .exact FU rfl aG
   .exact J3
   .go_wp2_with fail
    go_at_call 206
    have dU:=ak.h0;have ej:=ak.hD;have cD:=ak.m0;have aF:=ak.m1;have cu:=ak.v1;refine(ti base g v1 a dU X cD X X).mono ?_;rintro e w2⟨rfl,h2,M0⟩;have z:=U (show 0<=(v1.vs.length:Int)+v1.hidden/\(v1.vs.length:Int)+v1.hidden<64 by omega);have cT:=ak.more;have ce:=GP.refl v1.more;have ew:v1.more.l.length=v1.l.length:=rfl;have aV:=bF.trans M0;generalize (v1.vs.length:Int)+v1.hidden=u at z |-
    go_wp2_with fail
    go_at_call 138
    refine(iq base g _ h2 (ov ce.len)).mono ?_;rintro e B⟨rfl,h3,S⟩;have ao:=cT.simp (x:=⟨9,0,0,0,u⟩) (lE 0 u X X z.out.1 z.out.2);have aZ:=ce.trans (GP.put _ ⟨9,0,0,0,u⟩);have ct:=aV.trans S;clear h2 aV S
    go_wp2_with fail
    go_at_call 136
    refine(mG base g h3 (ov aZ.len) ao.sb.1 (by have:=ao.sb.2;have:=aZ.len;omega)).mono ?_;rintro e ad⟨rfl,aw,K⟩;have c9:=ao.mark;have df:=aZ.trans (GP.mark _);have t:=ct.trans K;clear h3 ct K
    go_wp2_with fail
    go_at_call 138
    refine(iq base g _ aw (ov df.len)).mono ?_;rintro e MT⟨rfl,av,aj⟩;have bX:=c9.ask (by simp[iX.mark];omega) (by unfold iX.mark;have:=mj (iX.put v1.more ⟨9,0,0,0,u⟩).l ⟨21,0,0,0,(iX.put v1.more ⟨9,0,0,0,u⟩).hC⟩ [];simpa using this) u z.out.1 z.out.2;have cK:=df.trans (GP.put _ ⟨20,0,0,0,u⟩);have cb:=t.trans aj;clear aw t aj
    go_wp2_with fail
    go_at_call 138
    refine(iq base g _ av (ov cK.len)).mono ?_;rintro e ax⟨rfl,aY,ay⟩;have cf:=bX.simp (x:=⟨8,0,0,0,u⟩) (po 0 u X X z.out.1 z.out.2);have dn:=cK.trans (GP.put _ ⟨8,0,0,0,u⟩);have c6:=cb.trans ay;clear av cb ay
    go_wp2_with fail
    go_at_call 138
    refine(iq base g _ aY (ov dn.len)).mono ?_;rintro e aJ⟨rfl,bI,aQ⟩;have aT:=cf.simp (x:=⟨9,0,0,0,r⟩) (lE 0 r X X bL X);have aE:=dn.trans (GP.put _ ⟨9,0,0,0,r⟩);have aR:=c6.trans aQ;clear aY c6 aQ;obtain⟨cJ,bT,cC⟩:=bI;have d5:=aE.hid;have dK:=U bT
    have c7:cJ.hidden=v1.hidden+1:=by
     have e:cJ.lg.hidden=v1.more.hidden:=by rw[bT];exact d5
     exact e
    have cQ:aJ.cell? (Z g 7)=some (Y (v1.hidden+1)):=by rw[<-c7];exact cC.hg.f_ 7
    have f7:=cC.hg.hG 7;have dI:=U c7;clear bT d5 c7;go_wp2;refine en_ ?_;rw[aq.out];have cW:=cC.set 7 (Y v1.hidden) (hC:=cJ.hC) (hidden:=v1.hidden) (most:=cJ.most) rfl;refine⟨rfl,_,_,⟨_,?_,cW⟩,aR.trans (cC.zp 7 _),GK.less ak (aT.le (N_ _)) (by have:=aE.hid;exact this) (by have:=aE.r9;exact this),(c.trans (GP.more aE)).le X⟩;rw[<-dK.out];have cS:=dI.out;simp only[GS.lg,iX.less,cS];congr 1;omega
   .go_wp2_with (go_at_call 138;refine(iq base g v1 a X).mono ?_;rintro e w2⟨rfl,h2,M0⟩)
    refine en_ ?_;rw[aq.out];exact⟨rfl,_,_,h2,bF.trans M0,ak.simp (Ar o r eZ bL X),(c.trans (GP.put v1 _)).le X⟩
def lX.split{V:List ByteArray}{c N:Nat}{t:ST}{l:List ST}(h:lX V c N (t::l)):∃a b,N=a+b/\lX V c a [t]/\lX V c b l:=by
 cases h with
 |cons c a b nb z t l f i h k m u q x p y=>exact⟨a,b,rfl,.cons c a 0 nb z t [] f i h k m u q x p (.nil _),y⟩
def uA(base g:Nat)(V:List ByteArray)(f:Nat)(bu:Db base g V f):uN base g V f:=by
 intro N ad n ag m v q aj w hn ca bX F km hP K J iN
 refine h5 λQ aq=>?_
 have D:=U hn;have bj:=U F;clear F;have e:lX V f N (m.drop 0):=bX
 go_enter func137,ntmps137
 go_wp2
 go_loopw [8] (λy w'=>∃c a b:Nat,c<=n/\y=Y c/\a+b=N/\lX V f b (m.drop c)/\Fq base g v f (30*a) w w') (λy _=>n-(intOf y).toNat)
 case atStart=>exact⟨0,0,N,N_ _,gn,X,e,v,q,K,.refl _ _ _,J,.refl _⟩
 case round=>
  obtain⟨c,a,b,hk,rfl,I,d,B,H,j,h,E,i⟩:=hrel;have al:=U I;have an:a+b<=N:=X;have hl1:=i.len;clear I e
  by_cases af:c<n
  .have p:c<m.length:=ov D.out;obtain⟨bC,off,hA,L,c1,ai,W,c4,c5,M,br⟩:=ST.at_ (bj.out.gt h O) D.out p;subst hA;rw[Q_ p]at d;obtain⟨C,b1,u,A,b4⟩:=d.split;have l:=U u;have bT:=u;have x:=(km _ (O_ p)).gt h O O
   have ce:nk wr B.pv:=by rw[i.pv];exact hP.gt h
   clear u d;generalize m[c]=t at L c1 ai W c4 c5 M br A x;obtain⟨z,bt,b9,hg1,k,hB⟩:=box1 wr 229 #[Y t.h6,.string t.name,.string t.fn,Y t.n,Y t.op,.slice t.AE t.es.length t.cE,.slice t.AB t.bs.length t.cB,.slice t.AL t.ls.length t.cL];obtain⟨MV,MU,au,aP,ar,bz,ao,av⟩:=hB.i5;have R:=U (bu C t B H aj z A (x.gt (.js k:Gt base gT wr z) O O) (ce.gt (.js k:Gt base gT wr z)) (j.hF k) E X);clear A x bT
   go_wp2_with fail
   refine R.out.mono ?_;rintro T w2⟨rfl,ck,bN,ct,S,cT,Z⟩;go_wp2;go_roundw
   case rel=>
    have aN:=al.out;have T:=l.out;exact⟨c+1,a+C,b1,X,gn,X,b4,ck,bN,ct,(h.trans (.js k)).trans S,cT,(i.trans Z).le X⟩
   case measure=>exact mz
  .go_wp2;refine en_ ?_;rw[aq.out];exact⟨rfl,B,H,j,h,E,i.le X⟩
def ET.ats{w:World}{b f n:Nat}{l:List ET}(h:Sl w 226 5 (some (Z b f)) n (l.flatMap ET.E))(x:l.length=n)(k:Nat)(u:k<l.length):w.cell? (Z b (f+k*5))=some (Y l[k].h6)/\w.cell? (Z b (f+k*5+1))=some (Y l[k].n)/\
 w.cell? (Z b (f+k*5+2))=some (.string l[k].name)/\w.cell? (Z b (f+k*5+3))=some (Y l[k].op)/\w.cell? (Z b (f+k*5+4))=some (.slice l[k].A l[k].l.length l[k].c):=by
 subst x;obtain⟨b',y,i,q⟩:=ET.at_ h u;injection i with i;injection i with p m;subst p;subst m;exact q
def Sl.addr{w:World}{e:TypeId}{s n:Nat}{A:OA}{xs:List Value}(h:Sl w e s A n xs)(i:0<n):∃b c,A=some (Z b c):=by
 obtain⟨b,c,f,_⟩:=Sl.f_ h i;exact⟨b,c,f⟩
def A8(base g:Nat)(V:List ByteArray)(al:Nat)(x:ByteArray)(AE:OA)(cE:Nat)(I H:ET)(L:OA)(cB:Nat)(D:List ST)(AL:OA)(cL:Nat)(ls:List ST)(v:iX)(q:Int)(p:Nat->Prop)(w:World)(nb:Nat)(a7:uN base g V al)(cw:lX V al nb D)
 (aU:Sl w 229 8 L D.length (D.flatMap ST.E)) (cV:∀u∈D,jL p w u) (hes:∀e∈[I,H],EG V 2 e) (bn:Sl w 226 5 AE 2 ([I,H].flatMap ET.E)) (km:∀u∈[I,H],kq p w u) (hP:nk w v.pv) (MZ:lI base w g v) (MY:GK v q (al+1)) (iN:v.l.length+30*(1+nb)<=100000):
 Calls prog 202 #[q_ g,.agg (ST.mk 5 x i6 0 0 AE cE [I,H] L cB D AL cL ls).g_] w (oJ base g v (al+1) (30*(1+nb)) w):=by
 refine h5 λQ aq=>?_
 obtain⟨bC,off,an⟩:=bn.addr X;subst an;obtain⟨M,gx,aW,hx,F,C⟩:=box1 w 229 (ST.mk 5 x i6 0 0 (some (Z bC off)) cE [I,H] L cB D AL cL ls).g_;replace C:Bk M gx 229 #[Y 5,.string x,.string i6,Y 0,Y 0,.slice (some (Z bC off)) 2 cE,.slice L D.length cB,.slice AL ls.length cL]:=C;obtain⟨i,h,y,k,m,z,B,A⟩:=C.i5;have b9:=Gt.refl base gT M;have j:=MZ.hF F;have bj:=U (bn.hF F)
 replace km:=λu hu=>(km u hu).hF F
 have bM:=hP.gt (.js F:Gt base gT w M);have cG:=aU.hF F
 have b0:=λu hu=>(cV u hu).hF F
 have aA:=GP.refl v;clear bn hP aU MZ
 go_enter func202,ntmps202
 go_wp2_with fail
 go_at_call 204
 refine(lj base g _ j MY.v1).mono ?_;rintro e w1⟨r,bL,bO,rfl,rfl⟩;obtain⟨R,c1,W,T,c4⟩:=ET.ats (bj.out.gt b9 O) rfl 0 J;simp only[HB,Hb,GG]at R c1 W T c4
 go_wp2_with fail
 go_at_call 203
 refine(o0 base g V 2 I (hes _ J) 0 _ _ _ p _ X X ((km _ J).gt b9 O) j MY (by have:=aA.len;show _+7<=100000;omega)).mono ?_;rintro e dZ⟨rfl,cZ,db,N,co,cI,ad⟩;replace ad:GP _ cZ 7:=ad;have b4:=aA.trans ad;have az:=b9.trans co;clear j b9 co R c1 W T c4;clear i h y k m z B A;obtain⟨i,h,y,k,m,z,B,A⟩:=(C.gt az O).i5;obtain⟨R,c1,W,T,c4⟩:=ET.ats (bj.out.gt az O) rfl 1 J;simp only[H3,GG,Hr]at R c1 W T c4
 go_wp2_with fail
 go_at_call 203
 refine(o0 base g V 2 H (hes _ J) 1 _ _ _ p _ X X ((km _ J).gt az O) N cI (by have:=b4.len;show _+7<=100000;omega)).mono ?_;rintro e cN⟨rfl,c,dY,cz,cv,E,aM⟩;replace aM:GP _ c 7:=aM;have bw:=b4.trans aM;have cg:=az.trans cv;clear N az cv R c1 W T c4;clear i h y k m z B A;obtain⟨i,h,y,k,m,z,B,A⟩:=(C.gt cg O).i5;have dU:=E.h0;have ej:=E.hD;have cD:=E.m0;have aF:=E.m1;have cu:=E.v1
 go_wp2_with fail
 go_at_call 206
 refine(ti base g _ cz dU X cD X X).mono ?_;rintro e df⟨rfl,aj,bH⟩;have bg:=U (show 0<=(c.vs.length:Int)+c.hidden/\(c.vs.length:Int)+c.hidden<64 by omega);have ck:=E.more;have bl:=GP.refl c.more;have c9:c.more.l.length=c.l.length:=rfl;have da:=bw.len;have c8:=bw.pv;replace bM:nk M c.more.pv:=(by show nk M c.pv;rw[c8];exact bM);clear c8;have bd:=cg.trans bH;generalize (c.vs.length:Int)+c.hidden=u at bg |-;clear cz cg bH;clear i h y k m z B A;obtain⟨i,h,y,k,m,z,B,A⟩:=(C.gt bd O).i5
 go_wp2_with fail
 go_at_call 138
 refine(iq base g _ aj (ov bl.len)).mono ?_;rintro e dg⟨rfl,am,bI⟩;have cn:=ck.simp (x:=⟨9,0,0,0,r⟩) (lE 0 r X X bL X);have bo:=bl.trans (GP.put _ ⟨9,0,0,0,r⟩);have aJ:=bd.trans bI;clear aj bd bI
 go_wp2_with fail
 go_at_call 138
 refine(iq base g _ am (ov bo.len)).mono ?_;rintro e dh⟨rfl,ao,bJ⟩;have MX:=cn.simp (x:=⟨9,1,0,0,u⟩) (lE 1 u X X bg.out.1 bg.out.2);have P:=bo.trans (GP.put _ ⟨9,1,0,0,u⟩);have aK:=aJ.trans bJ;clear am aJ bJ
 go_wp2_with fail
 go_at_call 136
 refine(mG base g ao (ov P.len) MX.sb.1 (by have:=MX.sb.2;have:=P.len;omega)).mono ?_;rintro e di⟨rfl,av,bK⟩;have cp:=MX.mark;have bp:=P.trans (GP.mark _);have M0:=aK.trans bK;clear ao aK bK;have bf:=mj (iX.put (iX.put c.more ⟨9,0,0,0,r⟩) ⟨9,1,0,0,u⟩).l ⟨21,0,0,0,(iX.put (iX.put c.more ⟨9,0,0,0,r⟩) ⟨9,1,0,0,u⟩).hC⟩ [];generalize cY:iX.put (iX.put c.more ⟨9,0,0,0,r⟩) ⟨9,1,0,0,u⟩=a at*;have bh:iB a.mark.l a.l.length=21:=bf
 have G:a.l.length<a.mark.l.length:=by simp[iX.mark]
 generalize MT:a.mark=o at*;clear cY MT bf;clear i h y k m z B A;obtain⟨i,h,y,k,m,z,B,A⟩:=(C.gt M0 O).i5
 go_wp2_with fail
 go_at_call 138
 refine(iq base g _ av (ov bp.len)).mono ?_;rintro e dj⟨rfl,aw,bN⟩;have cq:=cp.simp (x:=⟨8,0,0,0,r⟩) (po 0 r X X bL X);have bq:=bp.trans (GP.put _ ⟨8,0,0,0,r⟩);have aL:=M0.trans bN;clear av M0 bN
 go_wp2_with fail
 go_at_call 138
 refine(iq base g _ aw (ov bq.len)).mono ?_;rintro e dk⟨rfl,ax,bP⟩;have cr:=cq.simp (x:=⟨8,1,0,0,u⟩) (po 1 u X X bg.out.1 bg.out.2);have br:=bq.trans (GP.put _ ⟨8,1,0,0,u⟩);have aQ:=aL.trans bP;clear aw aL bP
 go_wp2_with fail
 go_at_call 138
 refine(iq base g _ ax (ov br.len)).mono ?_;rintro e dm⟨rfl,ap,bQ⟩;have ct:=cr.simp (x:=⟨4,0,0,1,10⟩) O;have bt:=br.trans (GP.put _ ⟨4,0,0,1,10⟩);have aR:=aQ.trans bQ;clear ax aQ bQ;generalize a2:iX.put (iX.put (iX.put o ⟨8,0,0,0,r⟩) ⟨8,1,0,0,u⟩) ⟨4,0,0,1,10⟩=f at*
 have dH:q3 o.l f.l:=by rw[<-a2];exact((GP.put _ _).kp.trans (GP.put _ _).kp).trans (GP.put _ _).kp
 clear a2
 go_wp2_with fail
 go_at_call 138
 refine(iq base g _ ap (ov bt.len)).mono ?_;rintro e dn⟨rfl,ay,bR⟩;have a8:=ct.v6 12 (.inr rfl);have bk:=bt.trans (GP.put _ ⟨12,0,0,0,0⟩);have d:=aR.trans bR;clear ap aR bR;have dy:iB (iX.put f ⟨12,0,0,0,0⟩).l f.l.length=12:=oy f
 have d8:f.l.length<(iX.put f ⟨12,0,0,0,0⟩).l.length:=by simp[iX.put]
 have aV:q3 o.l (iX.put f ⟨12,0,0,0,0⟩).l:=dH.trans (GP.put _ _).kp;generalize ae:iX.put f ⟨12,0,0,0,0⟩=vc at*;clear ae dH;clear i h y k m z B A;obtain⟨i,h,y,k,m,z,B,A⟩:=(C.gt d O).i5
 go_wp2_with fail
 go_at_call 137
 refine(a7 nb L _ cB D _ _ p _ rfl (ov cw.len) cw (cG.gt d O) (λu hu=>(b0 u hu).gt d O O) (by rw[bk.pv];exact bM.gt d) ay (a8.le X) (ov bk.len)).mono ?_;rintro e dq⟨rfl,ag,de,aC,bS,b5,K⟩;have cx:=GK.of a8 K (b5.le (N_ _));have bu:=bk.trans K;have bm:=d.trans bS;clear ay d bS b5;have dz:=(K.kp.2 _ X).trans dy;have cR:f.l.length<ag.l.length:=ov K.kp.1;have bv:=aV.trans K.kp;clear i h y k m z B A;obtain⟨i,h,y,k,m,z,B,A⟩:=(C.gt bm O).i5
 go_wp2_with fail
 go_at_call 138
 refine(iq base g _ aC (ov bu.len)).mono ?_;rintro e dr⟨rfl,aD,bU⟩;have cy:=cx.simp (x:=⟨8,0,0,0,r⟩) (po 0 r X X bL X);have bA:=bu.trans (GP.put _ ⟨8,0,0,0,r⟩);have aS:=bm.trans bU;clear aC bm bU
 go_wp2_with fail
 go_at_call 138
 refine(iq base g _ aD (ov bA.len)).mono ?_;rintro e dt⟨rfl,aE,bV⟩;have cA:=cy.simp (x:=⟨1,1,0,0,1⟩) O;have bB:=bA.trans (GP.put _ ⟨1,1,0,0,1⟩);have aX:=aS.trans bV;clear aD aS bV
 go_wp2_with fail
 go_at_call 138
 refine(iq base g _ aE (ov bB.len)).mono ?_;rintro e du⟨rfl,aG,bW⟩;have cF:=cA.simp (x:=⟨4,0,0,1,1⟩) O;have bE:=bB.trans (GP.put _ ⟨4,0,0,1,1⟩);have aY:=aX.trans bW;clear aE aX bW
 go_wp2_with fail
 go_at_call 138
 refine(iq base g _ aG (ov bE.len)).mono ?_;rintro e ah⟨rfl,ca,bX⟩;have be:=cF.simp (x:=⟨9,0,0,0,r⟩) (lE 0 r X X bL X);have bx:=bE.trans (GP.put _ ⟨9,0,0,0,r⟩);have aZ:=aY.trans bX;clear aG aY bX;generalize b6:iX.put (iX.put (iX.put (iX.put ag ⟨8,0,0,0,r⟩) ⟨1,1,0,0,1⟩) ⟨4,0,0,1,1⟩) ⟨9,0,0,0,r⟩=b at*
 have dF:q3 ag.l b.l:=by rw[<-b6];exact(((GP.put _ _).kp.trans (GP.put _ _).kp).trans (GP.put _ _).kp).trans (GP.put _ _).kp
 clear b6;obtain⟨cJ,bT,cC⟩:=ca;have dK:=U bT;have c7:cJ.hidden=c.hidden+1:=(show cJ.lg.hidden=c.more.hidden by rw[bT];exact bx.hid)
 have cQ:ah.cell? (Z g 7)=some (Y (c.hidden+1)):=by rw[<-c7];exact cC.hg.f_ 7
 have f7:=cC.hg.hG 7;have dI:=U c7;clear bT c7
 go_wp2_with fail
 have cW:=cC.set 7 (Y c.hidden) (hC:=cJ.hC) (hidden:=c.hidden) (most:=cJ.most) rfl
 have cb:lI base (ah.setCell (Z g 7) (Y c.hidden)) g b.less:=⟨_,(by
  rw[<-dK.out];have cS:=dI.out;simp only[GS.lg,iX.less,cS];congr 1
  omega),cW⟩
 have cH:=GK.less E (be.le (N_ _)) (by have:=bx.hid;exact this) (by have:=bx.r9;exact this);have bF:=bw.trans (GP.more bx);have cc:=aZ.trans (cC.zp 7 (Y c.hidden));have MS:iB b.less.l a.l.length=21:=(((bv.trans dF).2 _ X).trans bh);have cU:iB b.less.l f.l.length=12:=(dF.2 _ X).trans dz
 have c6:f.l.length<b.less.l.length:=by have:=dF.1;show _<b.l.length;omega
 obtain⟨dw,b7⟩:=nm_ (ah.setCell (Z g 7) (Y c.hidden));rw[<-b7]at cb cc |-;generalize cX:b.less=b8 at*;clear b7 cC cW cQ f7 cX aZ bx be
 go_at_call 138
 refine(iq base g _ cb (ov bF.len)).mono ?_;rintro e c3⟨rfl,aH,bY⟩;have cK:=cH.jump 11 _ (.inl rfl) MS;have bG:=bF.trans (GP.put _ ⟨11,0,0,0,a.l.length⟩);have a6:=cc.trans bY;clear cb cc bY;have S:=((GP.put b8 ⟨11,0,0,0,a.l.length⟩).kp.2 _ X).trans cU
 have cT:f.l.length<(iX.put b8 ⟨11,0,0,0,a.l.length⟩).l.length:=by simp[iX.put];omega
 obtain⟨aI,ak,cf,af,t,bD⟩:=box1 c3 3 #[Y f.l.length];have ch:Ns aI 3 (j_ ak) [(f.l.length:Int)]:=jj (n:=1) (s:=1) bD rfl;have ci:=aH.hF t
 go_wp2_with fail
 go_at_call 205
 refine(mI base g _ 1 1 [(f.l.length:Int)] ci (ov bG.len) ch rfl (by intro cl hi;simp at hi;subst hi;exact⟨X,X⟩) X).mono ?_;rintro e dx⟨rfl,ce,bZ⟩;have cM:=cK.here f.l.length (.inr S);have cO:=bG.trans (GP.here _ [(f.l.length:Int)]);have cj:=(a6.trans (.js t)).trans bZ;clear aH a6 bZ ci ch cf af t bD;go_wp2;refine en_ ?_;rw[aq.out];exact⟨rfl,_,_,ce,(Gt.js F).trans cj,cM,cO.le X⟩
def xx(base g:Nat)(V:List ByteArray)(K:Nat)(x:ByteArray)(AE:OA)(cE:Nat)(D:ET)(F:OA)(R:Nat)(y:List ST)(T:OA)(cL:Nat)(ls:List ST)(v:iX)(q:Int)(p:Nat->Prop)(w:World)(nb:Nat)(a7:uN base g V K)(cw:lX V K nb y)
 (aU:Sl w 229 8 F y.length (y.flatMap ST.E)) (cV:∀u∈y,jL p w u) (hes:∀e∈[D],EG V 2 e) (bn:Sl w 226 5 AE 1 ([D].flatMap ET.E)) (km:∀u∈[D],kq p w u) (hP:nk w v.pv) (MZ:lI base w g v) (L:GK v q (K+1)) (iN:v.l.length+30*(1+nb)<=100000):
 Calls prog 202 #[q_ g,.agg (ST.mk 6 x i6 0 0 AE cE [D] F R y T cL ls).g_] w (oJ base g v (K+1) (30*(1+nb)) w):=by
 refine h5 λQ aq=>?_
 obtain⟨bC,off,ad⟩:=bn.addr X;subst ad;obtain⟨ag,gx,aW,hx,hg,C⟩:=box1 w 229 (ST.mk 6 x i6 0 0 (some (Z bC off)) cE [D] F R y T cL ls).g_;replace C:Bk ag gx 229 #[Y 6,.string x,.string i6,Y 0,Y 0,.slice (some (Z bC off)) 1 cE,.slice F y.length R,.slice T ls.length cL]:=C;obtain⟨h,f,m,i,k,z,B,A⟩:=C.i5;have b9:=Gt.refl base gT ag;have j:=MZ.hF hg;have bj:=U (bn.hF hg)
 replace km:=λu I=>(km u I).hF hg
 have bM:=hP.gt (.js hg:Gt base gT w ag);have cG:=aU.hF hg
 have b0:=λu I=>(cV u I).hF hg
 have W:=GP.refl v;clear bn hP aU MZ
 go_enter func202,ntmps202
 go_wp2_with fail
 go_at_call 204
 refine(lj base g _ j L.v1).mono ?_;rintro e w1⟨r,bL,bO,rfl,rfl⟩
 go_wp2_with fail
 go_at_call 136
 refine(mG base g j (ov W.len) L.sb.1 (by have:=L.sb.2;have:=W.len;omega)).mono ?_;rintro e dZ⟨rfl,N,co⟩;have cI:=L.mark;have b4:=W.trans (GP.mark _);have H:=b9.trans co;clear j b9 co;have ah:=mj v.l ⟨21,0,0,0,v.hC⟩ [];have aj:iB v.mark.l v.l.length=21:=ah
 have G:v.l.length<v.mark.l.length:=by simp[iX.mark]
 generalize MT:v.mark=o at*;clear MT ah;clear h f m i k z B A;obtain⟨h,f,m,i,k,z,B,A⟩:=(C.gt H O).i5;obtain⟨aB,c1,ai,aO,c4⟩:=ET.ats (bj.out.gt H O) rfl 0 J;simp only[HB,Hb,GG]at aB c1 ai aO c4
 go_wp2_with fail
 go_at_call 203
 refine(o0 base g V 2 D (hes _ J) 0 _ _ _ p _ X X ((km _ J).gt H O) N cI (by have:=b4.len;show _+7<=100000;omega)).mono ?_;rintro e cN⟨rfl,c,dY,cz,cv,bi,M⟩;replace M:GP _ c 7:=M;have bw:=b4.trans M;have cg:=H.trans cv;clear N H cv aB c1 ai aO c4;clear h f m i k z B A;obtain⟨h,f,m,i,k,z,B,A⟩:=(C.gt cg O).i5
 go_wp2_with fail
 go_at_call 138
 refine(iq base g _ cz (ov bw.len)).mono ?_;rintro e ed⟨rfl,dh,dr⟩;have dD:=bi.v6 12 (.inr rfl);have db:=bw.trans (GP.put _ ⟨12,0,0,0,0⟩);have E:=cg.trans dr;clear cz cg dr;have dy:iB (iX.put c ⟨12,0,0,0,0⟩).l c.l.length=12:=oy c
 have d8:c.l.length<(iX.put c ⟨12,0,0,0,0⟩).l.length:=by simp[iX.put]
 have aV:q3 o.l (iX.put c ⟨12,0,0,0,0⟩).l:=M.kp.trans (GP.put _ _).kp;generalize ae:iX.put c ⟨12,0,0,0,0⟩=vc at*;clear ae;clear h f m i k z B A;obtain⟨h,f,m,i,k,z,B,A⟩:=(C.gt E O).i5
 go_wp2_with fail
 go_at_call 137
 refine(a7 nb F _ R y _ _ p _ rfl (ov cw.len) cw (cG.gt E O) (λu I=>(b0 u I).gt E O O) (by rw[db.pv];exact bM.gt E) dh (dD.le X) (ov db.len)).mono ?_;rintro e er⟨rfl,b,d,di,bR,al,a⟩;have dF:=GK.of dD a (al.le (N_ _));have de:=db.trans a;have cA:=E.trans bR;clear dh E bR al;have dz:=(a.kp.2 _ X).trans dy;have cR:c.l.length<b.l.length:=ov a.kp.1;have am:=aV.trans a.kp;have MS:=(am.2 _ X).trans aj;clear h f m i k z B A;obtain⟨h,f,m,i,k,z,B,A⟩:=(C.gt cA O).i5
 go_wp2_with fail
 go_at_call 138
 refine(iq base g _ di (ov de.len)).mono ?_;rintro e d0⟨rfl,dj,dt⟩;have dO:=dF.jump 11 _ (.inl rfl) MS;have dm:=de.trans (GP.put _ ⟨11,0,0,0,v.l.length⟩);have dk:=cA.trans dt;clear di cA dt;have S:=((GP.put b ⟨11,0,0,0,v.l.length⟩).kp.2 _ X).trans dz
 have cT:c.l.length<(iX.put b ⟨11,0,0,0,v.l.length⟩).l.length:=by simp[iX.put];omega
 obtain⟨aI,ak,cf,af,t,bD⟩:=box1 d0 3 #[Y c.l.length];have an:Ns aI 3 (j_ ak) [(c.l.length:Int)]:=jj (n:=1) (s:=1) bD rfl;have ao:=dj.hF t
 go_wp2_with fail
 go_at_call 205
 refine(mI base g _ 1 1 [(c.l.length:Int)] ao (ov dm.len) an rfl (by intro ap hi;simp at hi;subst hi;exact⟨X,X⟩) X).mono ?_;rintro e et⟨rfl,dL,du⟩;have dP:=dO.here c.l.length (.inr S);have dR:=dm.trans (GP.here _ [(c.l.length:Int)]);have dN:=(dk.trans (.js t)).trans du;clear dj dk du ao an cf af t bD;exact LI
