import Derived.Test.YtenbhdilndfaeaaGreatR06
import Derived.Test.YtenbhdilndfaeaaGreatR16
set_option maxRecDepth 100000
set_option maxHeartbeats 0
set_option linter.all false
namespace Go.Proofs.YtenbhdilndfaeaaGreat
open Go.RowKit Go.Proofs.Tryz
variable{G:Prop}(d:Nat)(r:Int)
def ID(h:G:=by
 have ce:=bt.trans aN;clear c bt aN
 go_wp2_with fail
 go_at_call 138
 refine(ik base g _ bq (ov aJ.len)).mono ?_;rintro e bH⟨rfl,aT,aY⟩;have cF:=aE.simp (x:=⟨15,0,0,0,0⟩) I;have c8:=aJ.trans (GP.put _ ⟨15,0,0,0,0⟩);have aK:=ce.trans aY
 go_wp2_with fail
 go_at_call 138
 refine(ik base g _ aT (ov c8.len)).mono ?_;rintro e ae⟨rfl,MP,G⟩;have bj:=cF.simp (x:=⟨9,0,0,0,r⟩) (lG 0 r X X bp X);have dJ:=c8.trans (GP.put _ ⟨9,0,0,0,r⟩);have aC:=aK.trans G;go_wp2;refine en_ ?_;rw[aI.out];exact⟨rfl,_,_,MP,aC,bj,dJ.le X⟩):G:=h
def JJ(h:G:=by
 go_wp2_with (go_at_call 138;refine(ik base g v1 bO X).mono ?_;rintro e w2⟨rfl,h2,MS⟩)
 refine en_ ?_;rw[aI.out];exact⟨rfl,_,_,h2,bo.trans MS,F.simp I,(a.trans (GP.put v1 _)).le X⟩):G:=h
def KH(h:G:=by
 have e:s1.pv=.slice PA 3 pc:=by rw[<-dh,<-a.pv,<-bQ];rfl
 have:=bJ.hg.f_ 0
 unfold GS.g8 at this;rw[e]at this;exact this):G:=h
def Lt(h:G:=by
 go_wp2;refine en_ ?_;rw[aI.out];exact⟨rfl,_,_,dz,(Gt.jX hg).trans dE,dG,dI.le X⟩):G:=h
def infoIn:(prog.info? 189).map (λi=>(i.zero,i.size,i.bytes))=some (some (.agg #[Y 0,Y 0,Y 0,Y 0,Y 0]),5,40):=by kernel_rfl
def infoPa:(prog.info? 219).map (λi=>(i.zero,i.size,i.bytes))=some (some (.agg #[Y 0,Y 0]),2,16):=by kernel_rfl
def infoPI:(prog.info? 313).map (λi=>(i.zero,i.size,i.bytes))=some (some (.pointer none),1,8):=by kernel_rfl
def mW(e:TypeId)(w w':World):Prop:=w.heap.size<=w'.heap.size/\∀(k:Nat) (cs:Array Value) (fz:Nat × Nat),w.heap[k]?=some (.cells cs e fz)->w'.heap[k]?=some (.cells cs e fz)
section
variable{e t:TypeId}{w w' w'':World}{g base size n:Nat}{cs:Array Value}{v:Value}{xs:List Value}
def mW.trans(h:mW e w w')(k:mW e w' w''):mW e w w'':=⟨G_ h.1 k.1,λf cs c i=>k.2 f cs c (h.2 f cs c i)⟩
def mW.jX(h:J [] w w'):mW e w w':=⟨h.size,λ_ _ _ c=>(h.block _ (mK c) s_).trans c⟩
def mW.one(h:J [g] w w')(f:Bk w g t cs)(m:t≠e):mW e w w':=⟨h.size,λi p u c=>by
 have a:i≠g:=by
  rintro rfl;unfold Bk at f;rw[f]at c;injection c with c;injection c with _ k;exact m k
 exact(h.block i (mK c) (zu a)).trans c⟩
def mW.set(f:Bk w g t cs)(c:t≠e)(i:Nat)(u:Value):mW e w (w.setCell (Z g i) u):=.one ((H [g] w).setCell (p:=(Z g i)) (.inl s_) u) f c
def rc(h:w.ownsRow base t size v n xs){k:Nat}(c:v.ownBlock=some k):base<=k/\∃cs,Bk w k t cs:=by
 rcases h.2 with⟨rfl,_⟩|⟨g,p,f,rfl,i,m,_⟩
 .cases c
 .have:g=k:=by simpa[Value.ownBlock]using c
  subst this;exact⟨i,f,m⟩
def mW.app(i:w.grownBy w' v.ownBlock)(h:w.ownsRow base t size v n xs)(m:t≠e):mW e w w':=⟨i.size,λq u x c=>by
 refine(i.block q (mK c) λp=>?_).trans c;obtain⟨_,cs,f⟩:=rc h p.symm;unfold Bk at f;rw[f]at c;injection c with c;injection c with _ k
 exact m k⟩
def mW.own(k:mW e w w')(h:w.ownsRow base e size v n xs):w'.ownsRow base e size v n xs:=by
 refine⟨h.1,?_⟩
 rcases h.2 with i|⟨g,q,f,rfl,m,p,c⟩
 .exact .inl i
 .exact .inr ⟨g,q,f,rfl,m,k.2 _ _ _ p,c⟩
def mW.sl{A:OA}(k:mW e w w')(h:Sl w e size A n xs):Sl w' e size A n xs:=⟨h.1,λp=>by
 obtain⟨b,q,cs,f,c,i,m⟩:=h.2 p
 exact⟨b,q,cs,f,c,k.2 _ _ _ i,m⟩⟩
def mW.bk(k:mW e w w')(h:Bk w g e cs):Bk w' g e cs:=k.2 _ _ _ h
def Gt.app{T:List TypeId}(k:w.grownBy w' v.ownBlock)(h:w.ownsRow base t size v n xs)(c:t∈T):Gt base T w w':=.grown k λg m=>by
 obtain⟨f,cs,i⟩:=rc h m;exact⟨f,cs,t,_,i,c⟩
end
structure At where
 box:Nat
 A:Option Addr
 c:Nat
 is:List Int
structure GS where
 pv:Value
 VA:Option Addr
 vc:Nat
 vs:List ByteArray
 L:Option Addr
 lc:Nat
 l:List In
 g9:Int
 EA:Option Addr
 ec:Nat
 es:List Int
 FA:Option Addr
 fc:Nat
 fs:List Int
 CA:Option Addr
 cc:Nat
 cs:List (Int × Int)
 hidden:Int
 most:Int
 OA:Option Addr
 oc:Nat
 os:List At
 rt:List At
def GS.lg(s:GS):iT:=⟨s.pv,s.vs,s.l,s.g9,s.es,s.fs,s.cs,s.hidden,s.most,(s.os.map λa=>(a.box,a.is)),s.rt.map λa=>(a.box,a.is)⟩
def GS.g8(s:GS):Array Value:=#[s.pv,.slice s.L s.l.length s.lc,Y s.g9,.slice s.EA s.es.length s.ec,.slice s.FA s.fs.length s.fc,.slice s.CA s.cs.length s.cc,.slice s.VA s.vs.length s.vc,Y s.hidden,Y s.most,.slice s.OA s.os.length s.oc]
def nf(cs:List (Int × Int)):List Value:=cs.flatMap λp=>[Y p.1,Y p.2]
def GS.rows(s:GS):List (Value × List Int):=(.slice s.EA s.es.length s.ec,s.es)::(.slice s.FA s.fs.length s.fc,s.fs)::(s.rt++s.os).map λa=>(.slice a.A a.is.length a.c,a.is)
def gT:List TypeId:=[210,189,3,219,313,30]
structure nh(base:Nat)(w:World)(g:Nat)(s:GS):Prop where
 hg:Bk w g 210 s.g8
 hbg:base<=g
 hl:w.ownsRow base 189 5 (.slice s.L s.l.length s.lc) s.l.length (lY s.l)
 hc:w.ownsRow base 219 2 (.slice s.CA s.cs.length s.cc) s.cs.length (nf s.cs)
 ho:w.ownsRow base 313 1 (.slice s.OA s.os.length s.oc) s.os.length (s.os.map λa=>q_ a.box)
 hb:∀a∈s.rt++s.os,Bk w a.box 30 #[.slice a.A a.is.length a.c]/\base<=a.box
 hbn:((s.rt++s.os).map At.box).Nodup
 hi:∀r∈s.rows,w.ownsRow base 3 1 r.1 r.2.length (r.2.map (Y))
 jQ:(s.rows.filterMap λr=>r.1.ownBlock).Nodup
 hv:Bs w s.VA s.vs
 hz:base<=w.heap.size
def lJ(base:Nat)(w:World)(g:Nat)(v:iT):Prop:=∃s:GS,s.lg=v/\nh base w g s
section
variable{base g:Nat}{w w':World}{s:GS}
def nh.g_(h:nh base w g s)(k:J [] w w'):nh base w' g s:=
 ⟨h.hg.g_ k,h.hbg,iF h.hl k,iF h.hc k,iF h.ho k,λa c=>⟨(h.hb a c).1.g_ k,(h.hb a c).2⟩,h.hbn,λr f=>iF (h.hi r f) k,h.jQ,Sl.g_ h.hv k,G_ h.hz k.size⟩
def lJ.g_{v:iT}(h:lJ base w g v)(k:J [] w w'):lJ base w' g v:=by
 obtain⟨s,c,f⟩:=h;exact⟨s,c,f.g_ k⟩
def nh.sG(h:nh base w g s){L:OA}{lc:Nat}{l:List In}{g9 hidden most:Int}(f:Bk w' g 210 (GS.g8 {s with L:=L,lc:=lc,l:=l,g9:=g9,hidden:=hidden,most:=most}))
 (i:w'.ownsRow base 189 5 (.slice L l.length lc) l.length (lY l)) (k:∀e∈[219,313,30,3,9],mW e w w'):
 nh base w' g {s with L:=L,lc:=lc,l:=l,g9:=g9,hidden:=hidden,most:=most}:=
 ⟨f,h.hbg,i,(k _ s_).own h.hc,(k _ s_).own h.ho,λa c=>⟨(k 30 s_).bk (h.hb a c).1,(h.hb a c).2⟩,h.hbn,λr m=>(k 3 s_).own (h.hi r m),h.jQ,(k 9 s_).sl h.hv,G_ h.hz (k 9 s_).1⟩
end
def BX(base g:Nat)(v:iT)(u:Value)(w:World)(e:Ending)(w':World):Prop:=e=.returned u/\lJ base w' g v/\Gt base gT w w'
def Eo(base g:Nat)(s:GS)(x:In)(w:World)(e:Ending)(w':World):Prop:=∃(L:OA) (lc:Nat),e=.returned (Y s.l.length)/\nh base w' g {s with L:=L,lc:=lc,l:=s.l++[x]}/\Gt base gT w w'/\∀e,e≠189->e≠210->mW e w w'
def mI(base g:Nat)(s:GS)(o a b c n:Int)(w:World)(h:nh base w g s)(hn:s.l.length<=100000):
 Calls prog 138 #[q_ g,Y o,Y a,Y b,Y c,Y n] w (Eo base g s ⟨o,a,b,c,n⟩ w):=by
 refine ig λQ D=>?_
 obtain⟨F,K,L,E,J⟩:=info_parts infoIn;have U:w.cell? (Z g 1)=some (.slice s.L s.l.length s.lc):=h.hg.f_ 1;obtain⟨B,T,V,hx,p,O⟩:=box1 w 189 #[Y o,Y a,Y b,Y c,Y n];have i:=h.g_ p;have k:=i.hl;have C:Sl B 189 5 (j_ T) 1 (lY [⟨o,a,b,c,n⟩]):=jj (n:=1) O rfl;have R:=i.hz
 go_enter func138,ntmps138
 go_wp2_with (at_builtin;refine j0 rfl rfl base 189 F 5 40 underlying24 K L E J rfl I I s.L s.l.length s.lc _ rfl k _ 1 1 _ rfl C (x6) X R ?_;intro m q x H u _;have f:=(mW.app (e:=210) u k I).bk i.hg;have W:=f.hm 1;have ad:x.cell? (Z g 1)=some (.slice s.L s.l.length s.lc):=f.f_ 1)
 rw[D.out];have A:=f.hN 1 (.slice m (s.l.length+1) q)
 have y:∀e,e≠189->e≠210->mW e w (x.setCell (Z g 1) (.slice m (s.l.length+1) q)):=λe M d=>((mW.jX p).trans (.app u k (Ne.symm M))).trans (.set f (Ne.symm d) _ _)
 refine⟨m,q,kq s_,h.sG (hidden:=s.hidden) (most:=s.most) (g9:=s.g9) ?_ ?_ λe z=>y e (by rintro rfl;revert z;decide) (by rintro rfl;revert z;decide),?_,y⟩
 .unfold GS.g8;rw[K_];exact A
 .rw[K_,ux];exact(mW.set f I _ _).own H
 .exact((Gt.jX p).trans (.app u k I)).trans (.set f i.hbg I _ _)
def ik(base g:Nat)(v:iT){o a b c n:Int}{w:World}(h:lJ base w g v)(m:v.l.length<=100000):
 Calls prog 138 #[q_ g,Y o,Y a,Y b,Y c,Y n] w (BX base g (v.put ⟨o,a,b,c,n⟩) (Y v.l.length) w):=by
 obtain⟨s,rfl,h⟩:=h
 exact(mI base g s o a b c n w h m).mono λe w'⟨p,q,f,i,k,_⟩=>⟨f,⟨_,rfl,i⟩,k⟩
def nh.set{base g:Nat}{w:World}{s:GS}(h:nh base w g s)(i:Nat)(u:Value){g9 hidden most:Int}(c:s.g8.setIfInBounds i u=GS.g8 {s with g9:=g9,hidden:=hidden,most:=most}):
 nh base (w.setCell ⟨g,i,none⟩ u) g {s with g9:=g9,hidden:=hidden,most:=most}:=
 h.sG (L:=s.L) (lc:=s.lc) (l:=s.l) (by rw[<-c];exact h.hg.hN i u) ((mW.set h.hg I i u).own h.hl) λe f=>.set h.hg (by rintro rfl;revert f;decide) i u
def nh.zP{base g:Nat}{w:World}{s:GS}(h:nh base w g s)(i:Nat)(u:Value):Gt base gT w (w.setCell ⟨g,i,none⟩ u):=.set h.hg h.hbg I i u
def Er(base g:Nat)(s:GS)(w:World)(e:Ending)(w':World):Prop:=∃(L:OA) (lc:Nat),e=.returned (Y s.l.length)/\nh base w' g {s with L:=L,lc:=lc,l:=s.l++[⟨21,0,0,0,s.g9⟩],g9:=s.g9+1}/\Gt base gT w w'/\∀e,e≠189->e≠210->mW e w w'
def sx(base g:Nat)(s:GS)(w:World)(h:nh base w g s)(y:s.l.length<=100000)(h0:0<=s.g9)(f:s.g9<=100000):
 Calls prog 136 #[.pointer (some ⟨g,0,none⟩)] w (Er base g s w):=by
 refine ig λQ p=>?_
 have A:w.cell? ⟨g,2,none⟩=some (Y s.g9):=h.hg.f_ 2;have B:=h.hg.hm 2;have i:=O (h.set 2 (Y (s.g9+1)) (g9:=s.g9+1) (hidden:=s.hidden) (most:=s.most) rfl);have q:=O (h.zP 2 (Y (s.g9+1)));have u:=O h.hg
 go_enter func136,ntmps136
 go_wp2_with (go_at_call 138;refine(mI base g _ 21 0 0 0 s.g9 _ i.out y).mono ?_;rintro e C⟨k,z,rfl,c,m,x⟩)
 rw[p.out];exact⟨k,z,rfl,c,q.out.trans m,λe f c=>(mW.set u.out (Ne.symm c) _ _).trans (x e f c)⟩
def mJ(base g:Nat){v:iT}{w:World}(h:lJ base w g v)(k:v.l.length<=100000)(h0:0<=v.g9)(c:v.g9<=100000):
 Calls prog 136 #[.pointer (some ⟨g,0,none⟩)] w (BX base g v.mark (Y v.l.length) w):=by
 obtain⟨s,rfl,h⟩:=h
 exact(sx base g s w h k h0 c).mono λe w'⟨m,p,c,f,i,_⟩=>⟨c,⟨_,rfl,f⟩,i⟩
def tR(base g:Nat)(v:iT){w:World}(h:lJ base w g v)(h0:0<=v.hidden)(D:v.hidden<=100000)(F:0<=v.most)(I:v.most<=100000)(z:v.vs.length<=100000):
 Calls prog 206 #[.pointer (some ⟨g,0,none⟩)] w (BX base g v.more (Y (v.vs.length+v.hidden)) w):=by
 refine ig λQ y=>?_
 obtain⟨s,rfl,h⟩:=h;have a:0<=s.hidden:=h0;have E:s.hidden<=100000:=D;have b:s.vs.length<=100000:=z;have i:w.cell? ⟨g,7,none⟩=some (Y s.hidden):=h.hg.f_ 7;have B:=h.hg.hm 7;have c:=h.set 7 (Y (s.hidden+1)) (g9:=s.g9) (hidden:=s.hidden+1) (most:=s.most) rfl;have m:=O (h.zP 7 (Y (s.hidden+1)))
 go_enter func206,ntmps206
 go_upto_region 2 with fail
 obtain⟨k,u⟩:=mn_ (w.setCell ⟨g,7,none⟩ (Y (s.hidden+1)));rw[u]at c m |-;clear u i B;have i:k.cell? ⟨g,7,none⟩=some (Y (s.hidden+1)):=c.hg.f_ 7;have A:k.cell? ⟨g,8,none⟩=some (Y s.most):=c.hg.f_ 8;have C:=c.hg.hm 8
 go_region
 go_upto_region 3 with fail
 have f:=(c.set 8 (Y (if s.most<s.hidden+1 then s.hidden+1 else s.most)) (g9:=s.g9) (hidden:=s.hidden+1) (most:=if s.most<s.hidden+1 then s.hidden+1 else s.most) rfl).g_ (H [] _).drew;have p:=O ((c.zP 8 (Y (if s.most<s.hidden+1 then s.hidden+1 else s.most))).trans (.jX (H [] _).drew));obtain⟨x,q⟩:=mn_ ((k.setCell ⟨g,8,none⟩ (Y (if s.most<s.hidden+1 then s.hidden+1 else s.most))).drew);rw[q]at f p |-;clear q i A C;have J:x.cell? ⟨g,6,none⟩=some (.slice s.VA s.vs.length s.vc):=f.hg.f_ 6;have i:x.cell? ⟨g,7,none⟩=some (Y (s.hidden+1)):=f.hg.f_ 7
 go_quiet (fail)
 go_wp2;rw[y.out];refine⟨kq (by simp only[GS.lg];omega),⟨_,?_,f.g_ ((H [] _).drewN _)⟩,(m.out.trans p.out).trans (.jX ((H [] _).drewN _))⟩
 have e:(if s.most<s.hidden+1 then s.hidden+1 else s.most)=max s.most (s.hidden+1):=by split<;>omega
 simp only[GS.lg,iT.more,e]
def Em(w:World)(e:Ending)(w':World):Prop:=∃r:Int,0<=r/\r<=9/\e=.returned (Y r)/\w=w'
def lq(base g:Nat)(v:iT){x:ByteArray}{w:World}(h:lJ base w g v)(f:v.vs.length<=9):
 Calls prog 204 #[.pointer (some ⟨g,0,none⟩),.string x] w (Em w):=by
 refine ig λQ u=>?_
 obtain⟨s,rfl,h⟩:=h;have A:=h.hv;have f:s.vs.length<=9:=f;have p:w.cell? ⟨g,6,none⟩=some (.slice s.VA s.vs.length s.vc):=h.hg.f_ 6;generalize s.vs=m at A f p;obtain⟨n,k⟩:=mn_ m.length;have y:=O k;rw[k]at f p;clear k
 go_enter func204,ntmps204
 go_wp2
 go_loop [12] (λi=>∃c:Nat,c<=n/\i=Y c) (λi=>n-(intOf i).toNat)
 case atStart=>exact⟨0,P_ _,gn⟩
 case round=>
  obtain⟨c,F,rfl⟩:=hrel
  by_cases E:c<n
  .obtain⟨b,H,B,z⟩:=Sl.f_ A (ov y.out);have C:c<m.length:=ov y.out;have D:=z c (.string m[c]) (by rw[F4,L_ C];rfl);rw[B]at p;clear z;go_wp2
   .rw[u.out];exact⟨c,X,X,rfl,rfl⟩
   .go_round
    case rel=>exact⟨c+1,X,gn⟩
    case measure=>exact mz
  .go_wp2;rw[u.out];exact⟨0,X,X,rfl,rfl⟩
def yC{w:World}{base:Nat}{e:TypeId}{size n c g:Nat}{xs:List Value}(h:w.ownsRow base e size (.slice (some ⟨g,0,none⟩) n c) n xs)(i:Nat)(u:Value):(w.setCell ⟨g,i,none⟩ u).ownsRow base e size (.slice (some ⟨g,0,none⟩) n c) n (xs.set i u):=by
 refine⟨by rw[FV];exact h.1,?_⟩
 rcases h.2 with⟨k,F⟩|⟨d,C,p,k,z,B,q,x,y,m⟩
 .cases k
 .injection k with f E A;injection f with f;injection f with f;subst f;have D:Bk w g e p:=B;refine .inr ⟨g,C,_,(by rw[A]),z,D.hN i u,q,x,by simpa using y,?_⟩;rw[<-m,HJ,List.take_set]
def p6{m:Type}(E:m->List Value)(s:Nat)(f:∀a,(E a).length=s):∀(l:List m) (k j:Nat) (r:m) (u:Value) (c:k<l.length),j<s->E r=(E l[k]).set j u->(l.flatMap E).set (k*s+j) u=(l.set k r).flatMap E
 |[],k,j,r,u,c,_,_=>by simp at c
 |a::l,0,j,r,u,c,h,i=>by
  simp only[Gj,Ht,W_,GU];rw[List.set_append_left _ _ (by rw[f];exact h),i]
  rfl
 |a::l,k+1,j,r,u,c,h,i=>by
  have e:(k+1)*s+j=s+(k*s+j):=by rw[G5,HR];omega
  simp only[Gj,GJ];rw[e,List.set_append_right _ _ (by rw[f];omega),f,Nat.add_sub_cancel_left,p6 E s f l k j r u (zu c) h i]
def zh(v:Int)(l:List In)(k:Nat)(m:k<l.length):mh v l k=l.set k (l[k].pp v):=by
 refine GM (by simp[mh]) λh c i=>?_
 rw[uQ v l k h (by rw[lH]at c;exact c),List.getElem_set];simp only[F0];split
 .rename_i f;subst f
  rfl
 .rfl
def rl(v:Int)(l:List In)(k:Nat)(c:k<l.length):(lY l).set (k*5+4) (Y v)=lY (mh v l k):=by
 rw[zh v l k c];exact p6 In.E 5 (λ_=>rfl) l k 4 _ _ c X rfl
def vY:Value:=.tuple #[]
def mO(base g:Nat){v:iT}(A:OA)(n c:Nat)(is:List Int){w:World}(h:lJ base w g v)(hl:v.l.length<=100000)(ad:Ns w 3 A is)(Z:is.length=n)(hi:∀i∈is,0<=i/\i<v.l.length)(bj:n<=100000):
 Calls prog 205 #[.pointer (some ⟨g,0,none⟩),.slice A n c] w (BX base g (v.here is) vY w):=by
 refine ig λQ aI=>?_
 have M:=O Z;clear Z
 go_enter func205,ntmps205
 go_wp2
 go_loopw [8] (λB w'=>∃f:Nat,f<=n/\B=Y f/\lJ base w' g {v with l:=lQ v.l.length v.l (is.take f)}/\Gt base gT w w'/\mW 3 w w') (λB _=>n-(intOf B).toNat)
 case atStart=>exact⟨0,P_ _,gn,by simpa[lQ]using h,.refl _ _ _,.jX (H [] _)⟩
 case round=>
  obtain⟨f,hk,rfl,m,K,V⟩:=hrel;obtain⟨s,x,m⟩:=m
  by_cases aj:f<n
  .have z:f<is.length:=ov M.out;obtain⟨b,off,bl,W⟩:=Sl.f_ (V.sl ad) X;have MN:=W f (Y is[f]) (by rw[F4,L_ z];rfl);subst bl;clear W;have dI:=hi is[f] (M_ z);obtain⟨i,D⟩:∃i:Nat,is[f]=i:=⟨is[f].toNat,X⟩;have ae:=O D;rw[D]at MN dI;clear D;have p:s.l=lQ v.l.length v.l (is.take f):=FN iT.l x
   have T:s.l.length=v.l.length:=by rw[p,i7]
   have C:i<s.l.length:=X;obtain⟨G,cur,E,cK,u,r⟩:=kS m.hl X
   have ai:wr.cell? ⟨g,1,none⟩=some (.slice (some ⟨G,0,none⟩) s.l.length s.lc):=by rw[<-E];exact m.hg.f_ 1
   have f1:=u.hm (i*5+4);have aB:wr.cell? ⟨G,i*5+4,none⟩=some (Y s.l[i].n):=(u.f_ _).trans (r _ _ ((jg In.E 5 (λ_=>rfl) s.l i 4 C X).trans rfl));have aq:=O p;have df:=O T;have U:=O E;have d:=O x;obtain⟨k,y⟩:=mn_ s.l.length;have R:=O y;rw[y]at ai C;clear p T E x y
   go_upto_region 3 with fail
   go_region
   go_wp2;go_roundw
   case rel=>
    have aO:mW 3 wr (wr.setCell ⟨G,i*5+4,none⟩ (Y k)):=.set u I _ _
    have a:∀e,e≠189->mW e wr (wr.setCell ⟨G,i*5+4,none⟩ (Y k)):=λe F=>.set u (Ne.symm F) _ _
    have p:=m.hl;rw[U.out]at p;have J:=yC p (i*5+4) (Y k);rw[rl k s.l i (by rw[R.out];exact C)]at J
    have j:s.g8=GS.g8 {s with l:=mh k s.l i}:=by unfold GS.g8;simp only[lH]
    have af:=(m.sG (w':=wr.setCell ⟨G,i*5+4,none⟩ (Y k)) (L:=s.L) (lc:=s.lc) (l:=mh k s.l i) (g9:=s.g9) (hidden:=s.hidden) (most:=s.most) (by rw[<-j];exact(a _ I).bk m.hg) (by rw[U.out,lH];exact J) λe F=>a e (by rintro rfl;revert F;decide)).g_ (H [] _).drew;refine⟨f+1,X,gn,⟨_,?_,af⟩,K.trans ((Gt.set u cK I _ _).trans (.jX (H [] _).drew)),(V.trans aO).trans (.jX (H [] _).drew)⟩
    have aC:lQ v.l.length v.l (is.take (f+1))=mh k s.l i:=by
     rw[X_ z,ae.out,aq.out]
     have:(k:Int)=v.l.length:=by rw[<-R.out,df.out]
     rw[this];unfold lQ;rw[G3]
     rfl
    have aw:=d.out;rw[aC];exact Lh
   case measure=>exact mz
  .go_wp2;refine en_ ?_;rw[aI.out]
   have:f=n:=X
   subst this;exact⟨rfl,⟨s,by rw[x,FK (ov M.out)];rfl,m⟩,K⟩
def ET.at_{w:World}{A:OA}{l:List ET}(h:Sl w 226 5 A l.length (l.flatMap ET.E)){k:Nat}(i:k<l.length):∃b off,A=some (Z b off)/\w.cell? (Z b (off+k*5))=some (Y l[k].hS)/\w.cell? (Z b (off+k*5+1))=some (Y l[k].n)/\
 w.cell? (Z b (off+k*5+2))=some (.string l[k].name)/\w.cell? (Z b (off+k*5+3))=some (Y l[k].op)/\w.cell? (Z b (off+k*5+4))=some (.slice l[k].A l[k].l.length l[k].c):=by
 obtain⟨b,off,U,hc⟩:=Sl.f_ h X
 have g:=λj f=>jg ET.E 5 (λ_=>rfl) l k j i f
 exact KB
def Bk.cells5{w:World}{g:Nat}{t:TypeId}{a b c d e:Value}(h:Bk w g t #[a,b,c,d,e]):w.cell? (Z g 0)=some a/\w.cell? (Z g 1)=some b/\w.cell? (Z g 2)=some c/\w.cell? (Z g 3)=some d/\w.cell? (Z g 4)=some e:=h.c5
def oQ(base g:Nat)(v:iT)(D n:Nat)(w:World)(e:Ending)(w':World):Prop:=e=.returned vY/\∃v' q',lJ base w' g v'/\Gt base gT w w'/\GK v' q' D/\GP v v' n
def Ad:Nat->Nat|0=>1|d+1=>1+2*Ad d
def rh:1<=Ad d:=by induction d with|zero=>decide|succ d c=>unfold Ad;omega
def GK.sb{v:iT}{q:Int}{c:Nat}(h:GK v q c):0<=v.g9/\v.g9<=v.l.length:=by
 rw[h.ok.xE];refine⟨by unfold jA;omega,?_⟩;unfold jA
 have:=F7 (λf:In=>f.op==21) v.l
 omega
def Dc(base g:Nat)(V:List ByteArray)(d:Nat)(t:ET):Prop:=∀(r:Int) (v:iT) (q:Int) (D:Nat) (p:Nat->Prop) (w:World),0<=r->r+d<16->kl p w t->lJ base w g v->GK v q D->v.l.length+Ad d<=100000->
 Calls prog 203 #[q_ g,.agg t.g8,Y r] w (oQ base g v D (Ad d) w)
def AM(n:Int)(h0:0<=r)(c:r<16):lL ⟨1,r,0,0,n⟩=true:=by simp[lL,jF,iK,mj];omega
def pI(n:Int)(h0:0<=r)(c:r<16)(f:0<=n)(h:n<64):lL ⟨8,r,0,0,n⟩=true:=by simp[lL,jF,iK,mj];omega
def AO(n:Int)(h0:0<=r)(c:r<16)(f:0<=n)(h:n<=16):lL ⟨7,r,0,0,n⟩=true:=by simp[lL,jF,iK,mj];omega
def zf(n:Int)(h0:0<=r)(c:r<16)(f:0<=n)(h:n<16):lL ⟨5,r,r,0,n⟩=true:=by simp[lL,jF,iK,mj];omega
def AQ(n:Int)(h0:0<=r)(c:r+1<16)(f:1<=n)(h:n<=11):lL ⟨4,r,r,r+1,n⟩=true:=by simp[lL,jF,iK,mj,pW];omega
def lG(n:Int)(h0:0<=r)(c:r<16)(f:0<=n)(h:n<64):lL ⟨9,r,0,0,n⟩=true:=by simp[lL,jF,iK,mj];omega
def BI(base g:Nat)(V:List ByteArray)(d:Nat)(n:Int):Dc base g V d (ju n):=by
 intro r v K z J w q H _ h k iG
 refine ig λQ p=>?_
 have x:=rh d;obtain⟨m,y,F,I,f,c⟩:=box1 w 226 (ju n).g8;replace c:Bk m y 226 #[Y 1,Y n,.string ByteArray.empty,Y 0,n_]:=c;obtain⟨A,E,B,C,D⟩:=c.cells5
 go_enter func203,ntmps203
 go_wp2_with (go_at_call 138;refine(ik base g v (h.g_ f) X).mono ?_;rintro e L⟨rfl,u,i⟩)
 refine en_ ?_;rw[p.out];exact⟨rfl,_,_,u,(Gt.jX f).trans i,k.simp (AM r n q X),(GP.put v _).le x⟩
def BJ(base g:Nat)(V:List ByteArray)(d:Nat)(n:Int)(y:0<=n)(J:n<=3):Dc base g V d (eNew n):=by
 intro r v M A L w q I _ h k iG
 refine ig λQ p=>?_
 have x:=rh d;obtain⟨m,z,H,K,f,c⟩:=box1 w 226 (eNew n).g8;replace c:Bk m z 226 #[Y 6,Y n,.string ByteArray.empty,Y 0,n_]:=c;obtain⟨B,F,C,D,E⟩:=c.cells5
 go_enter func203,ntmps203
 go_wp2_with (go_at_call 138;refine(ik base g v (h.g_ f) X).mono ?_;rintro e O⟨rfl,u,i⟩)
 refine en_ ?_;rw[p.out];exact⟨rfl,_,_,u,(Gt.jX f).trans i,k.simp (AO r n q X y X),(GP.put v _).le x⟩
def wQ(base g:Nat)(V:List ByteArray)(d:Nat)(s:ByteArray):Dc base g V d (jv s):=by
 intro r v R C O w x L _ h i iG
 refine ig λQ q=>?_
 have z:=rh d;have u:=i.v1;obtain⟨m,B,K,M,f,c⟩:=box1 w 226 (jv s).g8;replace c:Bk m B 226 #[Y 3,Y 0,.string s,Y 0,n_]:=c;obtain⟨D,I,E,F,H⟩:=c.cells5
 go_enter func203,ntmps203
 go_wp2_with (first|(go_at_call 204;refine(lq base g v (h.g_ f) u).mono ?_;rintro e T⟨A,p,J,rfl,rfl⟩)|(go_at_call 138;refine(ik base g v (h.g_ f) X).mono ?_;rintro e U⟨rfl,y,k⟩))
 refine en_ ?_;rw[q.out];exact⟨rfl,_,_,y,(Gt.jX f).trans k,i.simp (pI r A x X p X),(GP.put v _).le z⟩
def x9(base g:Nat)(V:List ByteArray)(d:Nat)(n:Int)(A:OA)(s:ByteArray)(hn0:0<=n)(hn1:n<=2):Dc base g V (d+1) (p8 n A (jv s)):=by
 intro r v ad C z w u x i E H iG
 refine ig λQ L=>?_
 have hd:=rh d;have j:v.l.length+(1+2*Ad d)<=100000:=iG;obtain⟨m,ae,be,hx,f,c⟩:=box1 w 226 (p8 n A (jv s)).g8;replace c:Bk m ae 226 #[Y 4,Y n,.string ByteArray.empty,Y 0,.slice A 1 1]:=c
 have p:Sl w 226 5 A [jv s].length ([jv s].flatMap ET.E):=by cases i with|mk t h _ _ _=>exact h
 have jQ:kl z w (jv s):=by cases i with|mk t _ _ _ h=>exact h _ (by simp[ET.l,p8])
 obtain⟨b,off,J,U,W,R,M,Z⟩:=ET.at_ (p.g_ f) (k:=0) s_;subst J;simp only[Ht,G0]at U W R M Z;obtain⟨MN,ai,aB,aS,aX⟩:=c.cells5;have K:=O (wQ base g V d s r v ad C z m u X (jQ.g_ f) (E.g_ f) H X);clear p i
 go_enter func203,ntmps203
 go_wp2_with (first|(go_at_call 203;refine K.out.mono ?_;rintro e w1⟨rfl,B,q1,x,y,D,q⟩;have T:=c.gt y I;obtain⟨z0,aR,aU,z3,z4⟩:=T.cells5;have hl1:=q.len)|(go_at_call 138;refine(ik base g B x X).mono ?_;rintro e w2⟨rfl,h2,F⟩))
 refine en_ ?_;rw[L.out];exact⟨rfl,_,_,h2,((Gt.jX f).trans y).trans F,(D.simp (zf r n u X hn0 X)),(q.trans (GP.put B _)).le (show Ad d+1<=1+2*Ad d by omega)⟩
def BK(base g:Nat)(V:List ByteArray)(d:Nat)(o:Int)(A:OA)(a b:ET)(dn:1<=o)(dO:o<=11)(c:Dc base g V d a)(i:Dc base g V d b):Dc base g V (d+1) (qu o A a b):=by
 intro r v ad z u w h0 h1 p MR MT iG
 refine ig λQ aI=>?_
 have hd:=rh d;have j:v.l.length+(1+2*Ad d)<=100000:=iG;obtain⟨C,ae,be,hx,f,m⟩:=box1 w 226 (qu o A a b).g8;replace m:Bk C ae 226 #[Y 5,Y 0,.string ByteArray.empty,Y o,.slice A 2 2]:=m
 have x:Sl w 226 5 A [a,b].length ([a,b].flatMap ET.E):=by cases p with|mk t h _ _ _=>exact h
 have af:kl u w a:=by cases p with|mk t _ _ _ h=>exact h _ (by simp[ET.l,qu])
 have W:kl u w b:=by cases p with|mk t _ _ _ h=>exact h _ (by simp[ET.l,qu])
 obtain⟨bn,off,aj,M,c1,J,E,c4⟩:=ET.at_ (x.g_ f) (k:=0) s_;subst aj;simp only[Ht,G0,GD]at M c1 J E c4;obtain⟨MN,ai,aB,aS,aX⟩:=m.cells5;have a6:=O (c r v ad z u C h0 X (af.g_ f) (MR.g_ f) MT X);have b3:=O (x.g_ f);have bP:=O (W.g_ f);clear x p af W
 go_enter func203,ntmps203
 go_wp2_with fail
 go_at_call 203
 refine a6.out.mono ?_;rintro e w1⟨rfl,v1,q1,aL,q,ak,U⟩;have L:=m.gt q I;obtain⟨z0,F,H,z3,z4⟩:=L.cells5;have hl1:=U.len;obtain⟨al,an,y,D,Z,T,R,bt⟩:=ET.at_ (b3.out.gt q I) (k:=1) s_;injection y with y;injection y with P N;subst P;subst N;simp only[HR,Hk,GD]at D Z T R bt;have ag:=O (i (r+1) v1 q1 z u w1 X X (bP.out.gt q I) aL ak X);clear M c1 J E c4 MN ai aB aS aX
 go_wp2_with fail
 go_at_call 203
 refine ag.out.mono ?_;rintro e w2⟨rfl,K,q2,aQ,B,cI,cH⟩;have bE:=L.gt B I;have cG:=cH.len;clear z0 F H z3 z4 D Z T R bt;obtain⟨z0,F,H,z3,z4⟩:=bE.cells5
 go_wp2_with (go_at_call 138;refine(ik base g K aQ X).mono ?_;rintro e ah⟨rfl,h3,S⟩)
 refine en_ ?_;rw[aI.out];exact⟨rfl,_,_,h3,(((Gt.jX f).trans q).trans B).trans S,(cI.simp (AQ r o h0 X dn dO)),((U.trans cH).trans (GP.put K _)).le (show Ad d+Ad d+1<=1+2*Ad d by omega)⟩
def pj(base g:Nat)(V:List ByteArray)(d:Nat)(t:ET)(h:EG V d t):Dc base g V d t:=by
 induction h with
 |num d n _ _=>exact BI base g V d n
 |var d s _=>exact wQ base g V d s
 |new d n c f=>exact BJ base g V d n c f
 |field d n i s c f _=>exact x9 base g V d n i s c f
 |bin d o i a b c f _ _ m k=>exact BK base g V d o i a b c f m k
section
variable{P:Program}{md:Region.Mode}{S:World->Prop}{N:Nat}{Q:Exit->Act->World->Prop}
section
variable{ops:Array Oper}{o:Oper}{rest:List Oper}{a:Act}{w:World}{l:List Oper}{tl:List Value}{ds:List Deferred}{j d:Nat}{oj:Oper}{r:List Oper}{r2:List Value}{b b':Bool}{v:Value}
def Di(hg:o.guard=none)(h:wpList P ops Q rest (a.put o.dst v) w)(hy:(execOp a.eval o).run P w=.ok (.value v) w:=by first|(go_simp;done)|(go_simp;with_reducible rfl)):wpList P ops Q (o::rest) a w:=ip hg hy h
end
end
def oz{q:TypeId}{P:Program}{w:World}{ops:Array Oper}{o:Oper}{a:Act}{K:Act->World->Prop}{Q:Exit->Act->World->Prop}{E:Prop}(O:o.guard=none)(s x:Operand)(t:TypeId)
 (U:o.op=.call {callee:=.builtin .append,args:=#[s,x],argTypes:=#[t,t]})
 (base:Nat) (e:TypeId) (i:TypeInfo) {B:Value} (size bytes:Nat) (F:P.underlying t=some (.slice e)) (T:P.info? e=some i) (Y:i.zero=some B)
 (C:i.size=size) (y:i.bytes=bytes) (D:B.cells.size=size) (H:0<size) (L:0<bytes)
 (p:OA) (n m:Nat) {xs:List Value} (W:a.eval s=.slice p n m) (M:w.ownsRow base e size (.slice p n m) n xs)
 {A:OA} (k c:Nat) {z:List Value} (X:a.eval x=.slice A k c) (V:Sl w q size A k z) (R:∀u∈z,u.oneCell'=true)
 (f:(n+k)*bytes<=140737488355328) (J:base<=w.heap.size)
 (h:∀(A':OA) (c':Nat) (w':World),w'.ownsRow base e size (.slice A' (n+k) c') (n+k) (xs++z)->w.grownBy w' (Value.slice p n m).ownBlock->((Value.slice A' (n+k) c').ownBlock=(Value.slice p n m).ownBlock∨(Value.slice A' (n+k) c').ownBlock=some w.heap.size)->K (a.put o.dst (.slice A' (n+k) c')) w'):
 if Region.wanted o (yielded ops a.tmps)=true then Oper.wp P o a w K Q else E:=by
 have I:Region.wanted o (yielded ops a.tmps)=true:=by simp[Region.wanted,O]
 rw[O_ I];exact oW s x t U base e i B size bytes F T Y C y D H L p n m xs W M A k c z X V R f J h
def At.row(a:At):Value × List Int:=(.slice a.A a.is.length a.c,a.is)
def GS.pre(s:GS)(F:List At):List (Value × List Int):=(.slice s.EA s.es.length s.ec,s.es)::(.slice s.FA s.fs.length s.fc,s.fs)::F.map At.row
def GS.qF(s:GS)(c:List At)(a:At)(h:s.os=c++[a]):s.rows=s.pre (s.rt++c)++[a.row]:=by
 unfold GS.rows GS.pre;rw[h,<-Ge,FI]
 rfl
def j9{l:List (Value × List Int)}{x:Value × List Int}:((l++[x]).filterMap λr=>r.1.ownBlock).Nodup↔(l.filterMap λr=>r.1.ownBlock).Nodup/\∀b,x.1.ownBlock=some b->∀r∈l,r.1.ownBlock≠some b:=by
 rw[List.filterMap_append,Gs]
 cases k:x.1.ownBlock with
 |none=>simp[k]
 |some c=>
  simp only[List.filterMap_cons,k,List.filterMap_nil];constructor
  .rintro⟨f,_,m⟩;refine⟨f,λb p r i h=>?_⟩
   cases p
   exact m c (H8.2 ⟨r,i,h⟩) c s_ rfl
  .rintro⟨f,m⟩;refine⟨f,s_,λz p y u=>?_⟩
   have:y=c:=zu u
   subst this;obtain⟨r,i,h⟩:=H8.1 p;rintro rfl;exact m _ rfl r i h
def nh.DE{base g:Nat}{w w':World}{s:GS}(h:nh base w g s)(k:List At)(a:At)(C:s.os=k++[a])(A':OA)(c' n:Nat)(i:Int)(hn:a.is.length=n)
 (F:w.grownBy w' (Value.slice a.A n a.c).ownBlock) (W:w'.ownsRow base 3 1 (.slice A' (n+1) c') (n+1) (a.is.map (Y)++[Y i]))
 (f:(Value.slice A' (n+1) c').ownBlock=(Value.slice a.A n a.c).ownBlock∨(Value.slice A' (n+1) c').ownBlock=some w.heap.size):
 Bk w' a.box 30 #[.slice a.A n a.c]/\nh base (w'.setCell (Z a.box 0) (.slice A' (n+1) c')) g {s with os:=k++[{a with A:=A',c:=c',is:=a.is++[i]}]}/\Gt base gT w (w'.setCell (Z a.box 0) (.slice A' (n+1) c')):=by
 subst hn;have E:=s.qF k a C;have D:=h.jQ;rw[E,j9]at D;have R:=h.hi a.row (by rw[E];simp)
 have j:∀e,e≠3->mW e w w':=λe m=>.app F R (Ne.symm m)
 have B:s.rt++s.os=(s.rt++k)++[a]:=by rw[C,Ge]
 obtain⟨X,T⟩:=h.hb a (by rw[B];simp);have l:=(j _ I).bk X
 have U:∀e,e≠30->mW e w' (w'.setCell (Z a.box 0) (.slice A' (a.is.length+1) c')):=λe m=>.set l (Ne.symm m) _ _
 have z:=λe H K=>(j e H).trans (U e K)
 have O:=h.hbn;rw[B,FI,Gs]at O;have V:Gt base gT w (w'.setCell (Z a.box 0) (.slice A' (a.is.length+1) c')):=(Gt.app F R I).trans (.set l T I _ _)
 have iG:(k++[({a with A:=A',c:=c',is:=a.is++[i]}:At)]).length=s.os.length:=by rw[C];simp
 have o:GS.rows {s with os:=k++[({a with A:=A',c:=c',is:=a.is++[i]}:At)]}=s.pre (s.rt++k)++[(.slice A' (a.is.length+1) c',a.is++[i])]:=by
  rw[GS.qF _ k {a with A:=A',c:=c',is:=a.is++[i]} rfl];simp[At.row,GS.pre]
 refine⟨l,⟨?_,h.hbg,(z _ I I).own h.hl,(z _ I I).own h.hc,?_,?_,?_,?_,?_,(z _ I I).sl h.hv,G_ h.hz (z 9 I I).1⟩,V⟩
 .have L:GS.g8 {s with os:=k++[({a with A:=A',c:=c',is:=a.is++[i]}:At)]}=s.g8:=by unfold GS.g8;rw[iG]
  rw[L];exact(z _ I I).bk h.hg
 .have:=(z _ I I).own h.ho
  rw[C]at this;exact ML
 .intro y x
  have d:y∈(s.rt++k)++[({a with A:=A',c:=c',is:=a.is++[i]}:At)]:=by rw[Ge];exact x
  rcases T_.1 d with x|x
  .obtain⟨H,K⟩:=h.hb y (by rw[B];exact FL _ x);refine⟨((j _ I).bk H).ib (p:=(Z a.box 0)) (λm=>?_) _,K⟩;exact O.2.2 y.box (Z_.2 ⟨y,x,rfl⟩) a.box s_ m
  .have:y={a with A:=A',c:=c',is:=a.is++[i]}:=zu x
   subst this;refine⟨?_,T⟩
   have:=l.hN 0 (.slice A' (a.is.length+1) c')
   show Bk _ a.box _ #[.slice A' (a.is++[i]).length c']
   rw[K_];exact this
 .have:=h.hbn
  rw[B]at this;exact ML
 .intro r u;rw[o]at u;refine(U 3 I).own ?_
  rcases T_.1 u with u|u
  .refine oa (h.hi r (by rw[E];exact FL _ u)) (J.iW F) λy x m=>?_
   exact D.2 y (jC.1 x) r u m
  .have:r=(.slice A' (a.is.length+1) c',a.is++[i]):=zu u
   subst this
   simpa using W
 .rw[o,j9];refine⟨D.1,λb M r u m=>?_⟩
  rcases f with L|L
  .exact D.2 b (L.symm.trans M) r u m
  .have aj:=(kx (h.hi r (by rw[E];exact FL _ u)) m).2
   have:some w.heap.size=some b:=L.symm.trans M
   injection this;omega
def uf(i:Int):∀(l:List (Nat × List Int)) (a:Nat × List Int),ry i (l++[a])=l++[(a.1,a.2++[i])]
 |[],a=>rfl
 |[b],a=>rfl
 |b::c::l,a=>by
  have:=uf i (c::l) a
  simp only[Hs]at this |-;rw[ry,this]
def ot(base g:Nat){v:iT}{w:World}(h:lJ base w g v)(z:v.l.length<=100000)(A:∀a∈v.ats,a.2.length<=100000)(cO:v.ats.length<=100000):
 Calls prog 217 #[q_ g] w (BX base g v.protect vY w):=by
 refine ig λQ aI=>?_
 obtain⟨s,rfl,h⟩:=h;have z:s.l.length<=100000:=z
 rcases List.eq_nil_or_concat s.os with f|⟨x,a,f⟩
 .have C:w.cell? (Z g 9)=some (.slice s.OA 0 s.oc):=by have:=h.hg.f_ 9;unfold GS.g8 at this;rw[f]at this;exact this
  have F:=O (mI base g s 17 0 0 0 0 w h z);have b:=O f;clear f
  go_enter func217,ntmps217
  go_wp2_with (go_at_call 138;refine F.out.mono ?_;rintro e m⟨L,lc,rfl,u,D,M⟩)
  refine en_ ?_;rw[aI.out];refine⟨rfl,⟨_,?_,u⟩,D⟩;simp only[GS.lg,iT.protect,b.out]
  rfl
 .rw[List.concat_eq_append]at f;obtain⟨bC,bv,bw,aZ,bg⟩:=info_parts infoInt;have aD:a.is.length<=100000:=A (a.box,a.is) (by simp[GS.lg,f]);obtain⟨n,U⟩:=mn_ a.is.length;obtain⟨c,N⟩:=mn_ x.length
  have E:s.os.length=c+1:=by rw[f];simp[N]
  have co:c+1<=100000:=by
   have:s.os.length<=100000:=by simpa[GS.lg]using cO
   omega
  have C:w.cell? (Z g 9)=some (.slice s.OA (c+1) s.oc):=by have:=h.hg.f_ 9;unfold GS.g8 at this;rw[E]at this;exact this
  obtain⟨R,cur,B,_,j,r⟩:=kS h.ho X;have K:w.cell? (Z R c)=some (q_ a.box):=(j.f_ c).trans (r c _ (by rw[f];simp[<-N]));have T:=(h.hb a (by rw[f];simp)).1;rw[U]at T aD;have df:w.cell? (Z a.box 0)=some (.slice a.A n a.c):=T.f_ 0;rw[B]at C;have F:=O (mI base g s 17 0 0 0 0 w.drew (h.g_ (H [] w).drew) z);have b:=O f;have aW:=O U;have G:=O B;have bh:=O E;have J:=O j;clear f U B N E r
  go_enter func217,ntmps217
  go_upto_region 2 with fail
  have bW:IntKind.i64.wrap (c:Int)=c:=F1 _ X;have cn:(c:Int)<(c:Int)+1:=X;refine hI (λw'=>w'.cell? (Z g 9)=some (.slice (j_ R) (c+1) s.oc)/\w'.cell? (Z R c)=some (q_ a.box)/\w'.cell? (Z a.box 0)=some (.slice a.A n a.c)) 23 k_ ?_
  refine nZ ⟨C,K,df⟩ λk=>?_
  repeat refine jW k ?_
  refine hV 19 λp i=>?_
  go_simp
  go_at_call 138
  refine F.out.mono ?_;rintro e m⟨L,lc,rfl,u,D,M⟩;have bE:=(M 313 I I).bk J.out;clear k
  refine hX i (
   ⟨by have:=u.hg.f_ 9;unfold GS.g8 at this;rw[G.out,bh.out]at this;exact this,(bE.f_ c).trans ((J.out.f_ c).symm.trans K),((M 30 I I).bk T).f_ 0⟩) λk=>?_
  clear i p
  refine hV 20 λp i=>?_
  go_simp;refine i.out _ _ (λ_=>⟨jw k.1 _,jw k.2.1 _,jw k.2.2 _⟩) ?_;clear i p;have q:=u.g_ ((H [] m).alloc (.cells #[Y s.l.length] 3));have W:Sl (m.alloc (.cells #[Y s.l.length] 3)) 3 1 (j_ m.heap.size) 1 [Y s.l.length]:=jj (n:=1) (s:=1) (Q_ m 3 _) rfl;have S:Gt base gT w (m.alloc (.cells #[Y s.l.length] 3)):=((Gt.jX (H [] w).drew).trans D).trans (.jX ((H [] m).alloc _));have bS:=bE.alloc (.cells #[Y s.l.length] 3);obtain⟨ah,V⟩:=nm_ (m.alloc (.cells #[Y s.l.length] 3));rw[<-V]at q W S bS |-;clear V k;obtain⟨cr,y⟩:=nm_ ({s with L:=L,lc:=lc,l:=s.l++[⟨17,0,0,0,0⟩]}:GS);rw[<-y]at q;have ad:=O y
  have ae:cr.os=x++[a]:=by rw[y];exact b.out
  have ax:=q.hi a.row (by rw[cr.qF x a ae];simp)
  have o:=by have:=ax;unfold At.row at this;simp only at this;rw[aW.out]at this;exact this
  clear y ax u
  refine hV 21 λp i=>?_
  refine oz rfl (.tmp 27) (.tmp 30) 30 rfl base 3 bC 1 8 underlying30 bv bw aZ bg rfl I I a.A n a.c rfl o 1 1 rfl W (by intro af hu;simp at hu;subst hu;rfl) X q.hz ?_;intro A' c' ag ao bz ai;obtain⟨d,av,ak⟩:=q.DE x a ae A' c' n s.l.length aW.out bz ao ai
  have aP:∀e,e≠3->mW e ah ag:=λe he=>.app bz o (Ne.symm he)
  refine hX i (by
   refine⟨?_,((aP _ I).bk bS).f_ c |>.trans ((J.out.f_ c).symm.trans K),d.f_ 0⟩;refine(((aP _ I).bk q.hg).f_ 9).trans ?_;rw[ad.out]
   show some (Value.slice s.OA s.os.length s.oc)=_
   rw[G.out,bh.out]) λk=>?_
  clear i p;refine iH 22 k ?_;have f0:=d.hm 0
  refine hV 23 λp i=>?_
  go_simp;refine i.out _ _ (λh=>U_ h I) ?_;refine hC k_ ?_ _;go_wp2;refine rn_ ?_;rw[aI.out];refine⟨rfl,⟨_,?_,av⟩,S.trans ak⟩;rw[ad.out];simp only[GS.lg,iT.protect,b.out,FI,Gn,G1];rw[uf]
def nt(w:World)(pv:Value):Prop:=∃(PA:OA) (c:Nat) (fs:List FT),pv=.slice PA 3 c/\fs.length=3/\B2 w PA fs/\ul qt fs 0=1/\ul pV fs 0=2
def nt.gt{base:Nat}{w w':World}{pv:Value}(h:nt w pv)(u:Gt base gT w w'):nt w' pv:=by
 obtain⟨c,i,k,m,p,q,f⟩:=h;exact⟨c,i,k,m,p,Sl.gt q u I,f⟩
def C7(base g:Nat)(V:List ByteArray)(D:Nat):Prop:=∀(N:Nat) (t:ST) (v:iT) (q:Int) (p:Nat->Prop) (w:World),l3 V D N [t]->jD p w t->nt w v.pv->lJ base w g v->GK v q D->v.l.length+30*N<=100000->
 Calls prog 175 #[q_ g,.agg t.g8] w (oQ base g v D (30*N) w)
def vh(base g:Nat)(V:List ByteArray)(D:Nat):Prop:=∀(N:Nat) (A:OA) (n c:Nat) (ts:List ST) (v:iT) (q:Int) (p:Nat->Prop) (w:World),ts.length=n->n<=100000->l3 V D N ts->Sl w 229 8 A n (ts.flatMap ST.E)->(∀u∈ts,jD p w u)->nt w v.pv->lJ base w g v->GK v q D->v.l.length+30*N<=100000->
 Calls prog 137 #[q_ g,.slice A n c] w (oQ base g v D (30*N) w)
def ST.at_{w:World}{A:OA}{l:List ST}{n:Nat}(h:Sl w 229 8 A n (l.flatMap ST.E))(q:l.length=n){k:Nat}(p:k<l.length):∃b c,A=some (Z b c)/\w.cell? (Z b (c+k*8))=some (Y l[k].hS)/\w.cell? (Z b (c+k*8+1))=some (.string l[k].name)/\
 w.cell? (Z b (c+k*8+2))=some (.string l[k].fn)/\w.cell? (Z b (c+k*8+3))=some (Y l[k].n)/\w.cell? (Z b (c+k*8+4))=some (Y l[k].op)/\
 w.cell? (Z b (c+k*8+5))=some (.slice l[k].AE l[k].es.length l[k].cE)/\w.cell? (Z b (c+k*8+6))=some (.slice l[k].AB l[k].bs.length l[k].cB)/\w.cell? (Z b (c+k*8+7))=some (.slice l[k].AL l[k].ls.length l[k].cL):=by
 obtain⟨b,c,i,f⟩:=Sl.f_ h X
 have g:=λj m=>jg ST.E 8 (λ_=>rfl) l k j p m
 exact⟨b,c,i,f (k*8+0) _ (g 0 X),f (k*8+1) _ (g 1 X),f (k*8+2) _ (g 2 X),f (k*8+3) _ (g 3 X),f (k*8+4) _ (g 4 X),f (k*8+5) _ (g 5 X),f (k*8+6) _ (g 6 X),f (k*8+7) _ (g 7 X)⟩
def Bk.i0{w:World}{g:Nat}{t:TypeId}{a b c d e f i j:Value}(h:Bk w g t #[a,b,c,d,e,f,i,j]):w.cell? (Z g 0)=some a/\w.cell? (Z g 1)=some b/\w.cell? (Z g 2)=some c/\w.cell? (Z g 3)=some d/\w.cell? (Z g 4)=some e/\w.cell? (Z g 5)=some f/\w.cell? (Z g 6)=some i/\w.cell? (Z g 7)=some j:=
 ⟨h.f_ 0,h.f_ 1,h.f_ 2,h.f_ 3,h.f_ 4,h.f_ 5,h.f_ 6,h.f_ 7⟩
def l3.one{V:List ByteArray}{c N:Nat}{t:ST}(h:l3 V c N [t]):∃r nb nl B L,c=r+1/\N=1+nb+nl/\m7 V t.hS t.name t.fn t.n t.op t.es.length B L/\(B=false->t.bs=[])/\(L=false->t.ls=[])/\(∀e∈t.es,EG V 2 e)/\l3 V r nb t.bs/\l3 V r nl t.ls:=by
 cases h with
 |cons c a b nb nl t l B L h f i m k p u q=>
  cases q
  exact⟨c,nb,nl,B,L,rfl,X,h,f,i,m,k,p⟩
def jD.parts{p:Nat->Prop}{w:World}{t:ST}(h:jD p w t):Sl w 226 5 t.AE t.es.length (t.es.flatMap ET.E)/\(∀u∈t.es,kl p w u)/\Sl w 229 8 t.AB t.bs.length (t.bs.flatMap ST.E)/\(∀u∈t.bs,jD p w u)/\Sl w 229 8 t.AL t.ls.length (t.ls.flatMap ST.E)/\(∀u∈t.ls,jD p w u):=by
 cases h with
 |mk t i A x k c z C f m B y q=>exact⟨i,k,c,f,m,q⟩
def l3.len{V:List ByteArray}{c N:Nat}{l:List ST}(h:l3 V c N l):l.length<=N:=by
 induction h with
 |nil c=>simp
 |cons c a b nb A t l f i h m p x u y q z _ _ k=>simp only[FJ];omega
def Fn(base g:Nat)(v:iT)(D n:Nat)(w w':World):Prop:=∃v' q',lJ base w' g v'/\Gt base gT w w'/\GK v' q' D/\GP v v' n
def m7.rng{V:List ByteArray}{k n o:Int}{x f:ByteArray}{c:Nat}{B L:Bool}(h:m7 V k x f n o c B L):c<=2:=by cases h<;>omega
def nh.wT{base g:Nat}{w w':World}{s:GS}(h:nh base w g s)(p:Int × Int)(A':OA)(c':Nat)(k:w.grownBy w' (Value.slice s.CA s.cs.length s.cc).ownBlock)
 (u:w'.ownsRow base 219 2 (.slice A' (s.cs.length+1) c') (s.cs.length+1) (nf s.cs++nf [p])):
 Bk w' g 210 s.g8/\nh base (w'.setCell (Z g 5) (.slice A' (s.cs.length+1) c')) g {s with CA:=A',cc:=c',cs:=s.cs++[p]}/\Gt base gT w (w'.setCell (Z g 5) (.slice A' (s.cs.length+1) c')):=by
 have j:∀e,e≠219->mW e w w':=λe i=>.app k h.hc (Ne.symm i)
 have f:=(j _ I).bk h.hg
 have q:∀e,e≠210->mW e w' (w'.setCell (Z g 5) (.slice A' (s.cs.length+1) c')):=λe i=>.set f (Ne.symm i) _ _
 have c:∀e,e≠219->e≠210->mW e w (w'.setCell (Z g 5) (.slice A' (s.cs.length+1) c')):=λe x y=>(j e x).trans (q e y)
 refine⟨f,⟨?_,h.hbg,(c _ I I).own h.hl,?_,(c _ I I).own h.ho,λa m=>⟨(c 30 I I).bk (h.hb a m).1,(h.hb a m).2⟩,h.hbn,λr z=>(c 3 I I).own (h.hi r z),h.jQ,(c 9 I I).sl h.hv,G_ h.hz (c 9 I I).1⟩,(Gt.app k h.hc I).trans (.set f h.hbg I _ _)⟩
 .have:=f.hN 5 (.slice A' (s.cs.length+1) c')
  exact MH
 .rw[K_]
  have e:nf (s.cs++[p])=nf s.cs++nf [p]:=by simp[nf]
  rw[e];exact(q _ I).own u
def AK(n:Int)(h0:0<=n)(c:n<16):lL ⟨6,1,0,0,n⟩=true:=by simp[lL,jF,iK,mj];omega
def AN(o r:Int)(c:o=1∨o=6∨o=9)(h0:0<=r)(f:r<64):lL ⟨10,0,o,0,r⟩=true:=by
 rcases c with rfl|rfl|rfl<;>simp[lL,jF,iK,mj,r9]<;>omega
def v7(base g:Nat)(V:List ByteArray)(al:Nat)(k:Int)(x f:ByteArray)(n o:Int)(J:OA)(T:Nat)(es:List ET)(AB:OA)(cB:Nat)(R:List ST)(AL:OA)(cL:Nat)(W:List ST)(v:iT)(q:Int)(p:Nat->Prop)(w:World)(B L:Bool)(nb nl:Nat)(bY:vh base g V al)(ck:l3 V al nb R)(d2:l3 V al nl W)(aP:Sl w 229 8 AB R.length (R.flatMap ST.E))(cK:∀u∈R,jD p w u)(b7:Sl w 229 8 AL W.length (W.flatMap ST.E))(cQ:∀u∈W,jD p w u)
 (bF:m7 V k x f n o es.length B L) (MP:k≠9) (aV:k≠6) (av:k≠5) (hes:∀e∈es,EG V 2 e) (a8:Sl w 226 5 J es.length (es.flatMap ET.E)) (jQ:∀u∈es,kl p w u) (hP:nt w v.pv) (MR:lJ base w g v) (i:GK v q (al+1)) (iG:v.l.length+30*(1+nb+nl)<=100000):
 Calls prog 175 #[q_ g,.agg (ST.mk k x f n o J T es AB cB R AL cL W).g8] w (oQ base g v (al+1) (30*(1+nb+nl)) w):=by
 refine ig λQ aI=>?_
 obtain⟨an,MM⟩:=mn_ es.length;have cn:=bF.rng;rw[MM]at cn bF;have ap:=O MM;have bI:=O bF;obtain⟨aA,U,be,hx,hg,hB⟩:=box1 w 229 (ST.mk k x f n o J T es AB cB R AL cL W).g8
 replace hB:Bk aA U 229 #[Y k,.string x,.string f,Y n,Y o,.slice J an T,.slice AB R.length cB,.slice AL W.length cL]:=by rw[<-MM];exact hB
 have d1:(k==9)=false:=zu MP;have d0:(k==6)=false:=zu aV;have db:(k==5)=false:=zu av;obtain⟨MN,ai,aB,aS,aX,bB,bd,br⟩:=hB.i0;have bz:=MR.g_ hg;have b3:=O (a8.g_ hg);have cS:=O (λu z=>(jQ u z).g_ hg:∀u∈es,kl p aA u);have aQ:=O (hP.gt (.jX hg:Gt base gT w aA));have cV:=O (hP.gt (.jX hg:Gt base gT w aA));have d4:=O aP;have d6:=O b7
 go_enter func175,ntmps175
 go_upto_region 8 with fail
 have bl:=O be;have bx:=O hx
 go_loopw [27] (λaG w'=>∃k:Nat,k<=an/\aG=Y k/\Fn base g v (al+1) (7*k) aA w') (λaG _=>an-(intOf aG).toNat)
 case atStart=>exact⟨0,P_ _,gn,v,q,bz,.refl _ _ _,i,.refl _⟩
 case round=>
  obtain⟨K,hi,rfl,v1,q1,bO,aD,F,bh⟩:=hrel;have hl1:=bh.len
  by_cases aj:K<an
  .have m:K<es.length:=ov ap.out;obtain⟨b,off,C,M,c1,E,D,c4⟩:=ET.at_ (b3.out.gt aD I) m;subst C;have y:=pj base g V 2 es[K] (hes _ (M_ m));have A:=(cS.out _ (M_ m)).gt aD I;generalize es[K]=e at M c1 E D c4 y A;obtain⟨cb,a2,bZ,hg1,ag,au⟩:=box1 wr 226 #[Y e.hS,Y e.n,.string e.name,Y e.op,.slice e.A e.l.length e.c];obtain⟨MN,ai,aB,aS,aX⟩:=au.cells5;have d5:=O (y K v1 q1 (al+1) p cb X X (A.g_ ag) (bO.g_ ag) F (show v1.l.length+7<=100000 by omega))
   go_wp2_with fail
   refine d5.out.mono ?_;rintro aw w2⟨rfl,ao,q2,dC,S,cI,cH⟩;go_wp2;go_roundw
   case rel=>exact⟨K+1,X,gn,ao,q2,dC,(aD.trans (.jX ag)).trans S,cI,(bh.trans cH).le (show 7*K+7<=7*(K+1) by omega)⟩
   case measure=>exact mz
  .have au:=hB.gt aD I;obtain⟨MN,ai,aB,aS,aX,bB,bd,br⟩:=au.i0;have bo:Gt base gT w wr:=(Gt.jX hg).trans aD
   go_upto_region 13 with(go_at_call 204;refine(lq base g v1 bO F.v1).mono ?_;rintro e w1⟨r,bp,bA,rfl,rfl⟩)
   have a:GP v v1 14:=bh.le X;have cG:=a.len;have ca:=F.sb;have di:=O (aQ.out.gt aD);have bF:=bI.out
   rcases bF with⟨_,MO⟩|⟨_,dn,dO⟩|⟨_,MO⟩|⟨_,MO⟩|_|⟨_,MO⟩|_|_|_|⟨_,MO⟩|_|⟨_,MO⟩|⟨_,MO,_,eJ⟩
   .go_wp2_with (go_at_call 138;refine(ik base g v1 bO X).mono ?_;rintro e w2⟨rfl,h2,MS⟩)
    refine en_ ?_;rw[aI.out];exact⟨rfl,_,_,h2,bo.trans MS,F.simp (lG 0 r X X bp X),(a.trans (GP.put v1 _)).le X⟩
   .go_wp2_with (go_at_call 138;refine(ik base g v1 bO X).mono ?_;rintro e w2⟨rfl,h2,MS⟩)
    refine en_ ?_;rw[aI.out];exact⟨rfl,_,_,h2,bo.trans MS,F.simp (AK n dn X),(a.trans (GP.put v1 _)).le X⟩
   .have cg:=di.out;obtain⟨PA,pc,dS,dh,bL,dR,bJ,d⟩:=di.out;have cc:=O bJ;have b4:=O bL;have dt:=O dR;obtain⟨s1,bQ,bJ⟩:=bO;have cR:=O bQ;have z0:wr.cell? (Z g 0)=some (.slice PA 3 pc):=KH
    go_upto_region 21 with fail
    refine hI (λw'=>w'.cell? (Z g 0)=some (.slice PA 3 pc)/\w'.cell? (Z U 2)=some (.string qt)) 6 k_ ?_
    refine nZ ⟨z0,aB⟩ λm=>?_
    iterate 6 refine jW m ?_
    refine hV 6 λE i=>?_
    go_simp
    go_at_call 170
    refine(nO PA 3 pc dS qt _ b4.out (Sl.g_ dt.out (H [] _).drew) X).mono ?_;rintro e w2⟨rfl,D⟩;rw[cc.out];replace D:=(H [] wr).drew.trans D;refine i.out _ _ (λh=>U_ h I) ?_
    try simp only[a_]
    refine hV 7 λE i=>?_
    go_simp;refine i.out _ _ (λh=>U_ h I) ?_
    try simp only[a_]
    refine hC k_ ?_ _
    go_upto_region 22 with fail
    have d:=bJ.g_ D;have bE:=au.g_ D;have dB:=bo.trans (.jX D);have z5:w2.cell? (Z g 5)=some (.slice s1.CA s1.cs.length s1.cc):=d.hg.f_ 5;have bB:w2.cell? (Z U 5)=some (.slice J 2 T):=bE.f_ 5;refine hI (λw'=>w'.cell? (Z g 5)=some (.slice s1.CA s1.cs.length s1.cc)/\w'.cell? (Z U 5)=some (.slice J 2 T)) 16 k_ ?_;have m:w2.drew.cell? (Z g 5)=some (.slice s1.CA s1.cs.length s1.cc)/\w2.drew.cell? (Z U 5)=some (.slice J 2 T):=⟨z5,bB⟩
    have hls:s1.l.length<=100000:=by
     have e:s1.l=v1.l:=FN iT.l cR.out;rw[e];omega
    have aq:s1.cs.length<=100000:=by
     have e:s1.cs=v1.cs:=FN iT.cs cR.out;rw[e]
     have:=F.ok.Af
     omega
    (iterate 9 refine jW m ?_)
    refine iH 10 m ?_
    refine hV 9 λE i=>?_
    go_simp
    go_at_call 138
    refine(mI base g s1 13 0 2 0 0 _ (d.g_ (H [] _).drew) hls).mono ?_;rintro e A⟨d7,ek,rfl,cw,S,bV⟩;have bS:=bE.drew.gt S I
    refine hX i ⟨cw.hg.f_ 5,bS.f_ 5⟩ λm=>?_
    refine iH 11 m ?_
    refine hV 12 λE i=>?_
    go_simp;refine i.out _ _ (λ_=>⟨jw m.1 _,jw m.2 _⟩) ?_;have a8:Sl (A.alloc (.cells #[Y s1.l.length,Y 1] 219)) 219 2 (j_ A.heap.size) 1 (nf [((s1.l.length:Int),1)]):=jj (n:=1) (s:=2) (Q_ A 219 _) rfl;have C:=cw.g_ ((H [] A).alloc (.cells #[Y s1.l.length,Y 1] 219));have M:=((dB.trans (.jX (H [] w2).drew)).trans S).trans (.jX ((H [] A).alloc (.cells #[Y s1.l.length,Y 1] 219)));have bT:=bS.alloc (.cells #[Y s1.l.length,Y 1] 219);obtain⟨ch,er⟩:=nm_ (A.alloc (.cells #[Y s1.l.length,Y 1] 219));rw[<-er]at a8 C M bT |-;obtain⟨bC,bv,bw,aZ,bg⟩:=info_parts infoPa
    try simp only[a_]
    refine hV 13 λE i=>?_
    refine oz rfl (.tmp 74) (.tmp 82) 206 rfl base 219 bC 2 16 underlying206 bv bw aZ bg rfl I I s1.CA s1.cs.length s1.cc rfl C.hc 1 1 rfl a8 (by intro u z;simp[nf]at z;rcases z with rfl|rfl<;>rfl) X C.hz ?_;intro a7 c5 ad aU c9 _;obtain⟨bU,b8,az⟩:=C.wT _ a7 c5 c9 aU;have b5:=(mW.app (e:=229) c9 C.hc I).bk bT
    refine hX i ⟨bU.f_ 5,b5.f_ 5⟩ λm=>?_
    (iterate 2 refine jW m ?_)
    have f5:=bU.hm 5;have z5:=m.1
    refine hV 16 λE i=>?_
    go_simp;refine i.out _ _ (λh=>U_ h I) ?_;refine hC k_ ?_ _;have c:lJ base (ad.setCell (Z g 5) (.slice a7 (s1.cs.length+1) c5)) g (v1.call 2 1):=⟨_,by rw[<-cR.out];rfl,b8⟩;have bt:=M.trans az;obtain⟨ay,ct⟩:=nm_ (ad.setCell (Z g 5) (.slice a7 (s1.cs.length+1) c5));rw[<-ct]at c bt |-;clear ct b8 az bU C cw d M b5 bT bS
    go_wp2_with fail
    go_at_call 136
    refine(mJ base g c (ov ((GP.call v1 2 1).len)) ca.1 (by have:=ca.2;show v1.g9<=100000;omega)).mono ?_;rintro e aH⟨rfl,bq,aN⟩;have aE:=F.wU 2 1 X X X X;have aJ:=(a.trans (GP.call v1 2 1)).trans (GP.mark _);exact ID
   .have cg:=di.out;obtain⟨PA,pc,dS,dh,bL,dR,bJ,d⟩:=di.out;have cc:=O d;have b4:=O bL;have dt:=O dR;obtain⟨s1,bQ,bJ⟩:=bO;have cR:=O bQ;have z0:wr.cell? (Z g 0)=some (.slice PA 3 pc):=KH
    go_upto_region 21 with fail
    refine hI (λw'=>w'.cell? (Z g 0)=some (.slice PA 3 pc)/\w'.cell? (Z U 2)=some (.string pV)) 6 k_ ?_
    refine nZ ⟨z0,aB⟩ λm=>?_
    iterate 6 refine jW m ?_
    refine hV 6 λE i=>?_
    go_simp
    go_at_call 170
    refine(nO PA 3 pc dS pV _ b4.out (Sl.g_ dt.out (H [] _).drew) X).mono ?_;rintro e w2⟨rfl,D⟩;rw[cc.out];replace D:=(H [] wr).drew.trans D;refine i.out _ _ (λh=>U_ h I) ?_
    try simp only[a_]
    refine hV 7 λE i=>?_
    go_simp;refine i.out _ _ (λh=>U_ h I) ?_
    try simp only[a_]
    refine hC k_ ?_ _
    go_upto_region 22 with fail
    have d:=bJ.g_ D;have bE:=au.g_ D;have dB:=bo.trans (.jX D);have z5:w2.cell? (Z g 5)=some (.slice s1.CA s1.cs.length s1.cc):=d.hg.f_ 5;have bB:w2.cell? (Z U 5)=some (.slice J 1 T):=bE.f_ 5;refine hI (λw'=>w'.cell? (Z g 5)=some (.slice s1.CA s1.cs.length s1.cc)/\w'.cell? (Z U 5)=some (.slice J 1 T)) 16 k_ ?_;have m:w2.drew.cell? (Z g 5)=some (.slice s1.CA s1.cs.length s1.cc)/\w2.drew.cell? (Z U 5)=some (.slice J 1 T):=⟨z5,bB⟩
    have hls:s1.l.length<=100000:=by
     have e:s1.l=v1.l:=FN iT.l cR.out;rw[e];omega
    have aq:s1.cs.length<=100000:=by
     have e:s1.cs=v1.cs:=FN iT.cs cR.out;rw[e]
     have:=F.ok.Af
     omega
    (iterate 9 refine jW m ?_)
    refine iH 10 m ?_
    refine hV 9 λE i=>?_
    go_simp
    go_at_call 138
    refine(mI base g s1 13 0 1 0 0 _ (d.g_ (H [] _).drew) hls).mono ?_;rintro e A⟨d7,ek,rfl,cw,S,bV⟩;have bS:=bE.drew.gt S I
    refine hX i ⟨cw.hg.f_ 5,bS.f_ 5⟩ λm=>?_
    refine iH 11 m ?_
    refine hV 12 λE i=>?_
    go_simp;refine i.out _ _ (λ_=>⟨jw m.1 _,jw m.2 _⟩) ?_;have a8:Sl (A.alloc (.cells #[Y s1.l.length,Y 2] 219)) 219 2 (j_ A.heap.size) 1 (nf [((s1.l.length:Int),2)]):=jj (n:=1) (s:=2) (Q_ A 219 _) rfl;have C:=cw.g_ ((H [] A).alloc (.cells #[Y s1.l.length,Y 2] 219));have M:=((dB.trans (.jX (H [] w2).drew)).trans S).trans (.jX ((H [] A).alloc (.cells #[Y s1.l.length,Y 2] 219)));have bT:=bS.alloc (.cells #[Y s1.l.length,Y 2] 219);obtain⟨ch,er⟩:=nm_ (A.alloc (.cells #[Y s1.l.length,Y 2] 219));rw[<-er]at a8 C M bT |-;obtain⟨bC,bv,bw,aZ,bg⟩:=info_parts infoPa
    try simp only[a_]
    refine hV 13 λE i=>?_
    refine oz rfl (.tmp 74) (.tmp 82) 206 rfl base 219 bC 2 16 underlying206 bv bw aZ bg rfl I I s1.CA s1.cs.length s1.cc rfl C.hc 1 1 rfl a8 (by intro u z;simp[nf]at z;rcases z with rfl|rfl<;>rfl) X C.hz ?_;intro a7 c5 ad aU c9 _;obtain⟨bU,b8,az⟩:=C.wT _ a7 c5 c9 aU;have b5:=(mW.app (e:=229) c9 C.hc I).bk bT
    refine hX i ⟨bU.f_ 5,b5.f_ 5⟩ λm=>?_
    (iterate 2 refine jW m ?_)
    have f5:=bU.hm 5;have z5:=m.1
    refine hV 16 λE i=>?_
    go_simp;refine i.out _ _ (λh=>U_ h I) ?_;refine hC k_ ?_ _;have c:lJ base (ad.setCell (Z g 5) (.slice a7 (s1.cs.length+1) c5)) g (v1.call 1 2):=⟨_,by rw[<-cR.out];rfl,b8⟩;have bt:=M.trans az;obtain⟨ay,ct⟩:=nm_ (ad.setCell (Z g 5) (.slice a7 (s1.cs.length+1) c5));rw[<-ct]at c bt |-;clear ct b8 az bU C cw d M b5 bT bS
    go_wp2_with fail
    go_at_call 136
    refine(mJ base g c (ov ((GP.call v1 1 2).len)) ca.1 (by have:=ca.2;show v1.g9<=100000;omega)).mono ?_;rintro e aH⟨rfl,bq,aN⟩;have aE:=F.wU 1 2 X X X X;have aJ:=(a.trans (GP.call v1 1 2)).trans (GP.mark _);exact ID
   .have bK:=cV.out;have cx:=d4.out.g_ hg;have dH:=d6.out.g_ hg
    have cr:∀u∈R,jD p aA u:=λu z=>(cK u z).g_ hg
    have dm:∀u∈W,jD p aA u:=λu z=>(cQ u z).g_ hg
    go_wp2_with fail
    go_at_call 138
    refine(ik base g _ bO (ov a.len)).mono ?_;rintro e dU⟨rfl,t,cM⟩;have cz:=F.wI 12 (.inr rfl);have bR:=a.trans (GP.put _ ⟨12,0,0,0,0⟩);have j:=aD.trans cM;have df:h5 (iT.put v1 ⟨12,0,0,0,0⟩).l v1.l.length=12:=oG v1
    have dZ:v1.l.length<(iT.put v1 ⟨12,0,0,0,0⟩).l.length:=by simp[iT.put]
    generalize bn:iT.put v1 ⟨12,0,0,0,0⟩=ao at*;obtain⟨MN,ai,aB,aS,aX,bB,bd,br⟩:=(hB.gt j I).i0
    go_wp2_with fail
    go_at_call 137
    refine(bY nb AB _ cB R _ _ p _ rfl (ov ck.len) ck (cx.gt j I) (λu z=>(cr u z).gt j I I) (by rw[bR.pv];exact bK.gt j) t (cz.le X) (ov bR.len)).mono ?_;rintro e cC⟨rfl,y,dT,cT,cN,de,aF⟩;have aW:=GK.of cz aF (de.le (P_ _));have bu:=bR.trans aF;have cy:=j.trans cN;have ej:h5 y.l v1.l.length=12:=(aF.kp.2 _ X).trans df;have eu:v1.l.length<y.l.length:=ov aF.kp.1
    go_wp2_with fail
    go_at_call 138
    refine(ik base g _ cT (ov bu.len)).mono ?_;rintro e d3⟨rfl,dw,dK⟩;have dj:=aW.wI 11 (.inl rfl);have cZ:=bu.trans (GP.put _ ⟨11,0,0,0,0⟩);have cU:=cy.trans dK;have dP:h5 (iT.put y ⟨11,0,0,0,0⟩).l y.l.length=11:=oG y
    have eh:y.l.length<(iT.put y ⟨11,0,0,0,0⟩).l.length:=by simp[iT.put]
    have dg:h5 (iT.put y ⟨11,0,0,0,0⟩).l v1.l.length=12:=((GP.put y ⟨11,0,0,0,0⟩).kp.2 _ X).trans ej;obtain⟨cb,bi,bZ,b6,ag,au⟩:=box1 d3 3 #[Y v1.l.length];have d8:Ns cb 3 (j_ bi) [(v1.l.length:Int)]:=jj (n:=1) (s:=1) au rfl;have ea:=dw.g_ ag
    go_wp2_with fail
    go_at_call 205
    refine(mO base g _ 1 1 [(v1.l.length:Int)] ea (ov cZ.len) d8 rfl (by intro K hi;simp at hi;subst hi;exact⟨X,X⟩) X).mono ?_;rintro e eo⟨rfl,dx,b9⟩;have dk:=dj.here v1.l.length (.inr dg);have c3:=cZ.trans (GP.here _ [(v1.l.length:Int)]);have cD:=(cU.trans (.jX ag)).trans b9;obtain⟨MN,ai,aB,aS,aX,bB,bd,br⟩:=(hB.gt cD I).i0;have ei:h5 (iT.here (iT.put y ⟨11,0,0,0,0⟩) [(v1.l.length:Int)]).l y.l.length=11:=(oB _ _ _ _).trans dP
    have et:(y.l.length:Int)<(iT.here (iT.put y ⟨11,0,0,0,0⟩) [(v1.l.length:Int)]).l.length:=by simp only[iT.here,i7];omega
    generalize co:iT.here (iT.put y ⟨11,0,0,0,0⟩) [(v1.l.length:Int)]=v9 at*
    go_wp2_with fail
    go_at_call 137
    refine(bY nl AL _ cL W _ _ p _ rfl (ov d2.len) d2 (dH.gt cD I) (λu z=>(dm u z).gt cD I I) (by rw[c3.pv];exact bK.gt cD) dx (dk.le X) (ov c3.len)).mono ?_;rintro e dV⟨rfl,v25,ew,dy,dL,eg,dq⟩;have dF:=GK.of dk dq (eg.le (P_ _));have c6:=c3.trans dq;have dD:=cD.trans dL;have dQ:h5 v25.l y.l.length=11:=(dq.kp.2 _ X).trans ei;have dY:(y.l.length:Int)<v25.l.length:=ov dq.kp.1;obtain⟨bf,P,bD,cf,bP,bE⟩:=box1 dV 3 #[Y y.l.length];have d9:Ns bf 3 (j_ P) [(y.l.length:Int)]:=jj (n:=1) (s:=1) bE rfl;have eb:=dy.g_ bP
    go_wp2_with fail
    go_at_call 205
    refine(mO base g _ 1 1 [(y.l.length:Int)] eb (ov c6.len) d9 rfl (by intro K hi;simp at hi;subst hi;exact⟨X,dY⟩) X).mono ?_;rintro e ep⟨rfl,dz,dM⟩;have dG:=dF.here y.l.length (.inl dQ);have dI:=c6.trans (GP.here _ [(y.l.length:Int)]);have dE:=(dD.trans (.jX bP)).trans dM;exact Lt
   .exact U_ rfl av
   .exact U_ rfl aV
   .exact JJ
   .exact JJ
   .exact U_ rfl MP
   .exact JJ
   .go_wp2_with fail
    go_at_call 206
    have dN:=F.h0;have ed:=F.hD;have N:=F.m0;have bW:=F.m1;have co:=F.v1;refine(tR base g v1 bO dN X N X X).mono ?_;rintro e w2⟨rfl,h2,MS⟩;have y:=O (show 0<=(v1.vs.length:Int)+v1.hidden/\(v1.vs.length:Int)+v1.hidden<64 by omega);have cI:=F.more;have cH:=GP.refl v1.more;have ev:v1.more.l.length=v1.l.length:=rfl;have aL:=bo.trans MS;generalize (v1.vs.length:Int)+v1.hidden=u at y |-
    go_wp2_with fail
    go_at_call 138
    refine(ik base g _ h2 (ov cH.len)).mono ?_;rintro e A⟨rfl,h3,S⟩;have aR:=cI.simp (x:=⟨9,0,0,0,u⟩) (lG 0 u X X y.out.1 y.out.2);have cp:=cH.trans (GP.put _ ⟨9,0,0,0,u⟩);have dC:=aL.trans S
    go_wp2_with fail
    go_at_call 136
    refine(mJ base g h3 (ov cp.len) aR.sb.1 (by have:=aR.sb.2;have:=cp.len;omega)).mono ?_;rintro e ch⟨rfl,ar,M⟩;have cX:=aR.mark;have dW:=cp.trans (GP.mark _);have bM:=dC.trans M
    go_wp2_with fail
    go_at_call 138
    refine(ik base g _ ar (ov dW.len)).mono ?_;rintro e ad⟨rfl,av,ak⟩;have bN:=cX.ask (by simp[iT.mark];omega) (by unfold iT.mark;have:=mm (iT.put v1.more ⟨9,0,0,0,u⟩).l ⟨21,0,0,0,(iT.put v1.more ⟨9,0,0,0,u⟩).g9⟩ [];simpa using this) u y.out.1 y.out.2;have cv:=dW.trans (GP.put _ ⟨20,0,0,0,u⟩);have bG:=bM.trans ak
    go_wp2_with fail
    go_at_call 138
    refine(ik base g _ av (ov cv.len)).mono ?_;rintro e ay⟨rfl,aV,az⟩;have cj:=bN.simp (x:=⟨8,0,0,0,u⟩) (pI 0 u X X y.out.1 y.out.2);have c7:=cv.trans (GP.put _ ⟨8,0,0,0,u⟩);have cW:=bG.trans az
    go_wp2_with fail
    go_at_call 138
    refine(ik base g _ aV (ov c7.len)).mono ?_;rintro e aH⟨rfl,bq,aN⟩;have aE:=cj.simp (x:=⟨9,0,0,0,r⟩) (lG 0 r X X bp X);have aJ:=c7.trans (GP.put _ ⟨9,0,0,0,r⟩);have ce:=cW.trans aN;obtain⟨cu,bm,cA⟩:=bq;have ef:=aJ.hid;have du:=O bm
    have da:cu.hidden=v1.hidden+1:=by
     have e:cu.lg.hidden=v1.more.hidden:=by rw[bm];exact ef
     exact e
    have cO:aH.cell? (Z g 7)=some (Y (v1.hidden+1)):=by rw[<-da];exact cA.hg.f_ 7
    have f7:=cA.hg.hm 7;have dr:=O da;go_wp2;refine en_ ?_;rw[aI.out];have cY:=cA.set 7 (Y v1.hidden) (g9:=cu.g9) (hidden:=v1.hidden) (most:=cu.most) rfl;refine⟨rfl,_,_,⟨_,?_,cY⟩,ce.trans (cA.zP 7 _),GK.less F (aE.le (P_ _)) (by have:=aJ.hid;exact this) (by have:=aJ.sK;exact this),(a.trans (GP.more aJ)).le X⟩;rw[<-du.out];have cJ:=dr.out;simp only[GS.lg,iT.less,cJ];congr 1;omega
   .go_wp2_with (go_at_call 138;refine(ik base g v1 bO X).mono ?_;rintro e w2⟨rfl,h2,MS⟩)
    refine en_ ?_;rw[aI.out];exact⟨rfl,_,_,h2,bo.trans MS,F.simp (AN o r eJ bp X),(a.trans (GP.put v1 _)).le X⟩
def l3.split{V:List ByteArray}{c N:Nat}{t:ST}{l:List ST}(h:l3 V c N (t::l)):∃a b,N=a+b/\l3 V c a [t]/\l3 V c b l:=by
 cases h with
 |cons c a b nb z t l f i h k m u q x p y=>exact⟨a,b,rfl,.cons c a 0 nb z t [] f i h k m u q x p (.nil _),y⟩
def uW(base g:Nat)(V:List ByteArray)(f:Nat)(aq:C7 base g V f):vh base g V f:=by
 intro N ad n ae m v q af w hn bj R M jQ hP J K iG
 refine ig λQ T=>?_
 have C:=O hn;have b3:=O M;have e:l3 V f N (m.drop 0):=R
 go_enter func137,ntmps137
 go_wp2
 go_loopw [8] (λx w'=>∃c a b:Nat,c<=n/\x=Y c/\a+b=N/\l3 V f b (m.drop c)/\Fn base g v f (30*a) w w') (λx _=>n-(intOf x).toNat)
 case atStart=>exact⟨0,0,N,P_ _,gn,X,e,v,q,J,.refl _ _ _,K,.refl _⟩
 case round=>
  obtain⟨c,a,b,hk,rfl,hab,d,y,H,F,h,z,k⟩:=hrel;have ar:=O hab;have ah:a+b<=N:=X;have hl1:=k.len
  by_cases aj:c<n
  .have u:c<m.length:=ov C.out;obtain⟨bn,off,L,ax,c1,am,W,c4,c5,U,bl⟩:=ST.at_ (b3.out.gt h I) C.out u;subst L;rw[Y_ u]at d;obtain⟨A,b1,B,E,bY⟩:=d.split;have ak:=O B;have bM:=B;have D:=(jQ _ (M_ u)).gt h I I
   have cH:nt wr y.pv:=by rw[k.pv];exact hP.gt h
   generalize m[c]=t at ax c1 am W c4 c5 U bl E D;obtain⟨p,a2,bZ,hg1,i,hB⟩:=box1 wr 229 #[Y t.hS,.string t.name,.string t.fn,Y t.n,Y t.op,.slice t.AE t.es.length t.cE,.slice t.AB t.bs.length t.cB,.slice t.AL t.ls.length t.cL];obtain⟨MN,ai,aB,aS,aX,bB,al,an⟩:=hB.i0;have Z:=O (aq A t y H af p E (D.gt (.jX i:Gt base gT wr p) I I) (cH.gt (.jX i:Gt base gT wr p)) (F.g_ i) z X)
   go_wp2_with fail
   refine Z.out.mono ?_;rintro aw w2⟨rfl,ao,q2,dC,S,cI,cp⟩;go_wp2;go_roundw
   case rel=>
    have aC:=ar.out;have aw:=ak.out;exact⟨c+1,a+A,b1,X,gn,X,bY,ao,q2,dC,(h.trans (.jX i)).trans S,cI,(k.trans cp).le X⟩
   case measure=>exact mz
  .go_wp2;refine en_ ?_;rw[T.out];exact⟨rfl,y,H,F,h,z,k.le X⟩
def ET.ats{w:World}{b f n:Nat}{l:List ET}(h:Sl w 226 5 (some (Z b f)) n (l.flatMap ET.E))(q:l.length=n)(k:Nat)(p:k<l.length):w.cell? (Z b (f+k*5))=some (Y l[k].hS)/\w.cell? (Z b (f+k*5+1))=some (Y l[k].n)/\
 w.cell? (Z b (f+k*5+2))=some (.string l[k].name)/\w.cell? (Z b (f+k*5+3))=some (Y l[k].op)/\w.cell? (Z b (f+k*5+4))=some (.slice l[k].A l[k].l.length l[k].c):=by
 subst q;obtain⟨b',u,i,m⟩:=ET.at_ h p;injection i with i;injection i with P N;subst P;subst N;exact m
def Sl.addr{w:World}{e:TypeId}{s n:Nat}{A:OA}{xs:List Value}(h:Sl w e s A n xs)(i:0<n):∃b c,A=some (Z b c):=by
 obtain⟨b,c,f,_⟩:=Sl.f_ h i;exact⟨b,c,f⟩
def Bv(base g:Nat)(V:List ByteArray)(U:Nat)(x:ByteArray)(AE:OA)(cE:Nat)(F A:ET)(K:OA)(cB:Nat)(i:List ST)(AL:OA)(cL:Nat)(ls:List ST)(v:iT)(q:Int)(p:Nat->Prop)(w:World)(nb:Nat)(bY:vh base g V U)(ck:l3 V U nb i)
 (aP:Sl w 229 8 K i.length (i.flatMap ST.E)) (cK:∀u∈i,jD p w u) (hes:∀e∈[F,A],EG V 2 e) (a8:Sl w 226 5 AE 2 ([F,A].flatMap ET.E)) (jQ:∀u∈[F,A],kl p w u) (hP:nt w v.pv) (MR:lJ base w g v) (MT:GK v q (U+1)) (iG:v.l.length+30*(1+nb)<=100000):
 Calls prog 202 #[q_ g,.agg (ST.mk 5 x i4 0 0 AE cE [F,A] K cB i AL cL ls).g8] w (oQ base g v (U+1) (30*(1+nb)) w):=by
 refine ig λQ aI=>?_
 obtain⟨bn,off,al⟩:=a8.addr X;subst al;obtain⟨L,gx,be,hx,m,h⟩:=box1 w 229 (ST.mk 5 x i4 0 0 (some (Z bn off)) cE [F,A] K cB i AL cL ls).g8;replace h:Bk L gx 229 #[Y 5,.string x,.string i4,Y 0,Y 0,.slice (some (Z bn off)) 2 cE,.slice K i.length cB,.slice AL ls.length cL]:=h;obtain⟨y,D,z,B,C,E,J,H⟩:=h.i0;have b0:=Gt.refl base gT L;have bz:=MR.g_ m;have b3:=O (a8.g_ m)
 replace jQ:=λu T=>(jQ u T).g_ m
 have bK:=hP.gt (.jX m:Gt base gT w L);have cx:=aP.g_ m
 have cr:=λu T=>(cK u T).g_ m
 have bh:=GP.refl v
 go_enter func202,ntmps202
 go_wp2_with fail
 go_at_call 204
 refine(lq base g _ bz MT.v1).mono ?_;rintro e w1⟨r,W,bA,rfl,rfl⟩;obtain⟨ax,c1,am,aO,c4⟩:=ET.ats (b3.out.gt b0 I) rfl 0 s_;simp only[Ht,G0,GD]at ax c1 am aO c4
 go_wp2_with fail
 go_at_call 203
 refine(pj base g V 2 F (hes _ s_) 0 _ _ _ p _ X X ((jQ _ s_).gt b0 I) bz MT (by have:=bh.len;show _+7<=100000;omega)).mono ?_;rintro e dU⟨rfl,cS,c3,t,cM,cz,MP⟩;replace MP:GP _ cS 7:=MP;have bR:=bh.trans MP;have j:=b0.trans cM;obtain⟨y,D,z,B,C,E,J,H⟩:=(h.gt j I).i0;obtain⟨ax,c1,am,aO,c4⟩:=ET.ats (b3.out.gt j I) rfl 1 s_;simp only[HR,GD,Hk]at ax c1 am aO c4
 go_wp2_with fail
 go_at_call 203
 refine(pj base g V 2 A (hes _ s_) 1 _ _ _ p _ X X ((jQ _ s_).gt j I) t cz (by have:=bR.len;show _+7<=100000;omega)).mono ?_;rintro e cC⟨rfl,c,dT,cT,cN,k,aF⟩;replace aF:GP _ c 7:=aF;have bu:=bR.trans aF;have cy:=j.trans cN;obtain⟨y,D,z,B,C,E,J,H⟩:=(h.gt cy I).i0;have dN:=k.h0;have ed:=k.hD;have N:=k.m0;have bW:=k.m1;have co:=k.v1
 go_wp2_with fail
 go_at_call 206
 refine(tR base g _ cT dN X N X X).mono ?_;rintro e c7⟨rfl,aD,bV⟩;have M:=O (show 0<=(c.vs.length:Int)+c.hidden/\(c.vs.length:Int)+c.hidden<64 by omega);have bD:=k.more;have ae:=GP.refl c.more;have cW:c.more.l.length=c.l.length:=rfl;have cD:=bu.len;have db:=bu.pv;replace bK:nt L c.more.pv:=(by show nt L c.pv;rw[db];exact bK);have an:=cy.trans bV;generalize (c.vs.length:Int)+c.hidden=u at M |-;obtain⟨y,D,z,B,C,E,J,H⟩:=(h.gt an I).i0
 go_wp2_with fail
 go_at_call 138
 refine(ik base g _ aD (ov ae.len)).mono ?_;rintro e c8⟨rfl,aE,bZ⟩;have bE:=bD.simp (x:=⟨9,0,0,0,r⟩) (lG 0 r X X W X);have af:=ae.trans (GP.put _ ⟨9,0,0,0,r⟩);have a7:=an.trans bZ
 go_wp2_with fail
 go_at_call 138
 refine(ik base g _ aE (ov af.len)).mono ?_;rintro e c9⟨rfl,aG,b4⟩;have aA:=bE.simp (x:=⟨9,1,0,0,u⟩) (lG 1 u X X M.out.1 M.out.2);have bd:=af.trans (GP.put _ ⟨9,1,0,0,u⟩);have bf:=a7.trans b4
 go_wp2_with fail
 go_at_call 136
 refine(mJ base g aG (ov bd.len) aA.sb.1 (by have:=aA.sb.2;have:=bd.len;omega)).mono ?_;rintro e de⟨rfl,aH,b5⟩;have bF:=aA.mark;have ag:=bd.trans (GP.mark _);have bk:=bf.trans b5;have MS:=mm (iT.put (iT.put c.more ⟨9,0,0,0,r⟩) ⟨9,1,0,0,u⟩).l ⟨21,0,0,0,(iT.put (iT.put c.more ⟨9,0,0,0,r⟩) ⟨9,1,0,0,u⟩).g9⟩ [];generalize cZ:iT.put (iT.put c.more ⟨9,0,0,0,r⟩) ⟨9,1,0,0,u⟩=a at*;have br:h5 a.mark.l a.l.length=21:=MS
 have aL:a.l.length<a.mark.l.length:=by simp[iT.mark]
 generalize aM:a.mark=bx at*;obtain⟨y,D,z,B,C,E,J,H⟩:=(h.gt bk I).i0
 go_wp2_with fail
 go_at_call 138
 refine(ik base g _ aH (ov ag.len)).mono ?_;rintro e dh⟨rfl,aJ,b6⟩;have bG:=bF.simp (x:=⟨8,0,0,0,r⟩) (pI 0 r X X W X);have ah:=ag.trans (GP.put _ ⟨8,0,0,0,r⟩);have bg:=bk.trans b6
 go_wp2_with fail
 go_at_call 138
 refine(ik base g _ aJ (ov ah.len)).mono ?_;rintro e di⟨rfl,aQ,b7⟩;have bH:=bG.simp (x:=⟨8,1,0,0,u⟩) (pI 1 u X X M.out.1 M.out.2);have aj:=ah.trans (GP.put _ ⟨8,1,0,0,u⟩);have bi:=bg.trans b7
 go_wp2_with fail
 go_at_call 138
 refine(ik base g _ aQ (ov aj.len)).mono ?_;rintro e dj⟨rfl,aN,b8⟩;have bI:=bH.simp (x:=⟨4,0,0,1,10⟩) I;have ak:=aj.trans (GP.put _ ⟨4,0,0,1,10⟩);have bj:=bi.trans b8;generalize bo:iT.put (iT.put (iT.put bx ⟨8,0,0,0,r⟩) ⟨8,1,0,0,u⟩) ⟨4,0,0,1,10⟩=f at*
 have dX:rG bx.l f.l:=by rw[<-bo];exact((GP.put _ _).kp.trans (GP.put _ _).kp).trans (GP.put _ _).kp
 go_wp2_with fail
 go_at_call 138
 refine(ik base g _ aN (ov ak.len)).mono ?_;rintro e dk⟨rfl,aR,b9⟩;have ad:=bI.wI 12 (.inr rfl);have cb:=ak.trans (GP.put _ ⟨12,0,0,0,0⟩);have d:=bj.trans b9;have df:h5 (iT.put f ⟨12,0,0,0,0⟩).l f.l.length=12:=oG f
 have dZ:f.l.length<(iT.put f ⟨12,0,0,0,0⟩).l.length:=by simp[iT.put]
 have av:rG bx.l (iT.put f ⟨12,0,0,0,0⟩).l:=dX.trans (GP.put _ _).kp;generalize cH:iT.put f ⟨12,0,0,0,0⟩=vc at*;obtain⟨y,D,z,B,C,E,J,H⟩:=(h.gt d I).i0
 go_wp2_with fail
 go_at_call 137
 refine(bY nb K _ cB i _ _ p _ rfl (ov ck.len) ck (cx.gt d I) (λu T=>(cr u T).gt d I I) (by rw[cb.pv];exact bK.gt d) aR (ad.le X) (ov cb.len)).mono ?_;rintro e dm⟨rfl,P,c6,aT,ca,ct,R⟩;have bJ:=GK.of ad R (ct.le (P_ _));have ap:=cb.trans R;have MO:=d.trans ca;have dg:=(R.kp.2 _ X).trans df;have cv:f.l.length<P.l.length:=ov R.kp.1;have cc:=av.trans R.kp;obtain⟨y,D,z,B,C,E,J,H⟩:=(h.gt MO I).i0
 go_wp2_with fail
 go_at_call 138
 refine(ik base g _ aT (ov ap.len)).mono ?_;rintro e dn⟨rfl,aU,ce⟩;have bL:=bJ.simp (x:=⟨8,0,0,0,r⟩) (pI 0 r X X W X);have aq:=ap.trans (GP.put _ ⟨8,0,0,0,r⟩);have bl:=MO.trans ce
 go_wp2_with fail
 go_at_call 138
 refine(ik base g _ aU (ov aq.len)).mono ?_;rintro e dq⟨rfl,aV,cf⟩;have bM:=bL.simp (x:=⟨1,1,0,0,1⟩) I;have ar:=aq.trans (GP.put _ ⟨1,1,0,0,1⟩);have bq:=bl.trans cf
 go_wp2_with fail
 go_at_call 138
 refine(ik base g _ aV (ov ar.len)).mono ?_;rintro e dt⟨rfl,aY,cg⟩;have bN:=bM.simp (x:=⟨4,0,0,1,1⟩) I;have au:=ar.trans (GP.put _ ⟨4,0,0,1,1⟩);have bt:=bq.trans cg
 go_wp2_with fail
 go_at_call 138
 refine(ik base g _ aY (ov au.len)).mono ?_;rintro e ch⟨rfl,aZ,cj⟩;have bO:=bN.simp (x:=⟨9,0,0,0,r⟩) (lG 0 r X X W X);have ci:=au.trans (GP.put _ ⟨9,0,0,0,r⟩);have bv:=bt.trans cj;generalize cI:iT.put (iT.put (iT.put (iT.put P ⟨8,0,0,0,r⟩) ⟨1,1,0,0,1⟩) ⟨4,0,0,1,1⟩) ⟨9,0,0,0,r⟩=b at*
 have dz:rG P.l b.l:=by rw[<-cI];exact(((GP.put _ _).kp.trans (GP.put _ _).kp).trans (GP.put _ _).kp).trans (GP.put _ _).kp
 obtain⟨cu,bm,cA⟩:=aZ;have du:=O bm;have da:cu.hidden=c.hidden+1:=(show cu.lg.hidden=c.more.hidden by rw[bm];exact ci.hid)
 have cO:ch.cell? (Z g 7)=some (Y (c.hidden+1)):=by rw[<-da];exact cA.hg.f_ 7
 have f7:=cA.hg.hm 7;have dr:=O da
 go_wp2_with fail
 have cY:=cA.set 7 (Y c.hidden) (g9:=cu.g9) (hidden:=c.hidden) (most:=cu.most) rfl
 have S:lJ base (ch.setCell (Z g 7) (Y c.hidden)) g b.less:=⟨_,(by
  rw[<-du.out];have cJ:=dr.out;simp only[GS.lg,iT.less,cJ];congr 1
  omega),cY⟩
 have bP:=GK.less k (bO.le (P_ _)) (by have:=ci.hid;exact this) (by have:=ci.sK;exact this);have aw:=bu.trans (GP.more ci);have MM:=bv.trans (cA.zP 7 (Y c.hidden));have cl:h5 b.less.l a.l.length=21:=(((cc.trans dz).2 _ X).trans br);have cG:h5 b.less.l f.l.length=12:=(dz.2 _ X).trans dg
 have cV:f.l.length<b.less.l.length:=by have:=dz.1;show _<b.l.length;omega
 obtain⟨dw,cQ⟩:=nm_ (ch.setCell (Z g 7) (Y c.hidden));rw[<-cQ]at S MM |-;generalize cX:b.less=az at*
 go_at_call 138
 refine(ik base g _ S (ov aw.len)).mono ?_;rintro e cU⟨rfl,a2,cn⟩;have bQ:=bP.jump 11 _ (.inl rfl) cl;have ay:=aw.trans (GP.put _ ⟨11,0,0,0,a.l.length⟩);have bw:=MM.trans cn;have G:=((GP.put az ⟨11,0,0,0,a.l.length⟩).kp.2 _ X).trans cG
 have cF:f.l.length<(iT.put az ⟨11,0,0,0,a.l.length⟩).l.length:=by simp[iT.put];omega
 obtain⟨aK,ao,cw,cR,cm,bS⟩:=box1 cU 3 #[Y f.l.length];have o:Ns aK 3 (j_ ao) [(f.l.length:Int)]:=jj (n:=1) (s:=1) bS rfl;have cq:=a2.g_ cm
 go_wp2_with fail
 go_at_call 205
 refine(mO base g _ 1 1 [(f.l.length:Int)] cq (ov ay.len) o rfl (by intro cP hi;simp at hi;subst hi;exact⟨X,X⟩) X).mono ?_;rintro e dx⟨rfl,a6,cp⟩;have bT:=bQ.here f.l.length (.inr G);have bU:=ay.trans (GP.here _ [(f.l.length:Int)]);have bC:=(bw.trans (.jX cm)).trans cp;go_wp2;refine en_ ?_;rw[aI.out];exact⟨rfl,_,_,a6,(Gt.jX m).trans bC,bT,bU.le X⟩
def x1(base g:Nat)(V:List ByteArray)(z:Nat)(x:ByteArray)(AE:OA)(W:Nat)(i:ET)(k:OA)(K:Nat)(f:List ST)(R:OA)(cL:Nat)(ls:List ST)(v:iT)(q:Int)(p:Nat->Prop)(w:World)(nb:Nat)(bY:vh base g V z)(ck:l3 V z nb f)
 (aP:Sl w 229 8 k f.length (f.flatMap ST.E)) (cK:∀u∈f,jD p w u) (hes:∀e∈[i],EG V 2 e) (a8:Sl w 226 5 AE 1 ([i].flatMap ET.E)) (jQ:∀u∈[i],kl p w u) (hP:nt w v.pv) (MR:lJ base w g v) (B:GK v q (z+1)) (iG:v.l.length+30*(1+nb)<=100000):
 Calls prog 202 #[q_ g,.agg (ST.mk 6 x i4 0 0 AE W [i] k K f R cL ls).g8] w (oQ base g v (z+1) (30*(1+nb)) w):=by
 refine ig λQ aI=>?_
 obtain⟨bn,off,ad⟩:=a8.addr X;subst ad;obtain⟨T,gx,be,hx,hg,h⟩:=box1 w 229 (ST.mk 6 x i4 0 0 (some (Z bn off)) W [i] k K f R cL ls).g8;replace h:Bk T gx 229 #[Y 6,.string x,.string i4,Y 0,Y 0,.slice (some (Z bn off)) 1 W,.slice k f.length K,.slice R ls.length cL]:=h;obtain⟨A,H,C,E,F,J,M,L⟩:=h.i0;have b0:=Gt.refl base gT T;have bz:=MR.g_ hg;have b3:=O (a8.g_ hg)
 replace jQ:=λu y=>(jQ u y).g_ hg
 have bK:=hP.gt (.jX hg:Gt base gT w T);have cx:=aP.g_ hg
 have cr:=λu y=>(cK u y).g_ hg
 have U:=GP.refl v
 go_enter func202,ntmps202
 go_wp2_with fail
 go_at_call 204
 refine(lq base g _ bz B.v1).mono ?_;rintro e w1⟨r,bp,bA,rfl,rfl⟩
 go_wp2_with fail
 go_at_call 136
 refine(mJ base g bz (ov U.len) B.sb.1 (by have:=B.sb.2;have:=U.len;omega)).mono ?_;rintro e dU⟨rfl,t,cM⟩;have cz:=B.mark;have bR:=U.trans (GP.mark _);have j:=b0.trans cM;have MS:=mm v.l ⟨21,0,0,0,v.g9⟩ [];have ae:h5 v.mark.l v.l.length=21:=MS
 have aL:v.l.length<v.mark.l.length:=by simp[iT.mark]
 generalize aM:v.mark=af at*;obtain⟨A,H,C,E,F,J,M,L⟩:=(h.gt j I).i0;obtain⟨ax,c1,am,aO,c4⟩:=ET.ats (b3.out.gt j I) rfl 0 s_;simp only[Ht,G0,GD]at ax c1 am aO c4
 go_wp2_with fail
 go_at_call 203
 refine(pj base g V 2 i (hes _ s_) 0 _ _ _ p _ X X ((jQ _ s_).gt j I) t cz (by have:=bR.len;show _+7<=100000;omega)).mono ?_;rintro e cC⟨rfl,c,dT,cT,cN,aW,D⟩;replace D:GP _ c 7:=D;have bu:=bR.trans D;have cy:=j.trans cN;obtain⟨A,H,C,E,F,J,M,L⟩:=(h.gt cy I).i0
 go_wp2_with fail
 go_at_call 138
 refine(ik base g _ cT (ov bu.len)).mono ?_;rintro e d3⟨rfl,dw,dK⟩;have dj:=aW.wI 12 (.inr rfl);have cZ:=bu.trans (GP.put _ ⟨12,0,0,0,0⟩);have m:=cy.trans dK;have df:h5 (iT.put c ⟨12,0,0,0,0⟩).l c.l.length=12:=oG c
 have dZ:c.l.length<(iT.put c ⟨12,0,0,0,0⟩).l.length:=by simp[iT.put]
 have av:rG af.l (iT.put c ⟨12,0,0,0,0⟩).l:=D.kp.trans (GP.put _ _).kp;generalize cH:iT.put c ⟨12,0,0,0,0⟩=vc at*;obtain⟨A,H,C,E,F,J,M,L⟩:=(h.gt m I).i0
 go_wp2_with fail
 go_at_call 137
 refine(bY nb k _ K f _ _ p _ rfl (ov ck.len) ck (cx.gt m I) (λu y=>(cr u y).gt m I I) (by rw[cZ.pv];exact bK.gt m) dw (dj.le X) (ov cZ.len)).mono ?_;rintro e eo⟨rfl,v24,ag,dx,b9,b,a⟩;have dk:=GK.of dj a (b.le (P_ _));have c3:=cZ.trans a;have cD:=m.trans b9;have dg:=(a.kp.2 _ X).trans df;have cv:c.l.length<v24.l.length:=ov a.kp.1;have ah:=av.trans a.kp;have aj:=(ah.2 _ X).trans ae;obtain⟨A,H,C,E,F,J,M,L⟩:=(h.gt cD I).i0
 go_wp2_with fail
 go_at_call 138
 refine(ik base g _ dx (ov c3.len)).mono ?_;rintro e dV⟨rfl,dy,dL⟩;have dF:=dk.jump 11 _ (.inl rfl) aj;have c6:=c3.trans (GP.put _ ⟨11,0,0,0,v.l.length⟩);have dD:=cD.trans dL;have G:=((GP.put v24 ⟨11,0,0,0,v.l.length⟩).kp.2 _ X).trans dg
 have cF:c.l.length<(iT.put v24 ⟨11,0,0,0,v.l.length⟩).l.length:=by simp[iT.put];omega
 obtain⟨aK,ao,cw,cR,ak,bS⟩:=box1 dV 3 #[Y c.l.length];have o:Ns aK 3 (j_ ao) [(c.l.length:Int)]:=jj (n:=1) (s:=1) bS rfl;have al:=dy.g_ ak
 go_wp2_with fail
 go_at_call 205
 refine(mO base g _ 1 1 [(c.l.length:Int)] al (ov c6.len) o rfl (by intro an hi;simp at hi;subst hi;exact⟨X,X⟩) X).mono ?_;rintro e ep⟨rfl,dz,dM⟩;have dG:=dF.here c.l.length (.inr G);have dI:=c6.trans (GP.here _ [(c.l.length:Int)]);have dE:=(dD.trans (.jX ak)).trans dM;exact Lt
