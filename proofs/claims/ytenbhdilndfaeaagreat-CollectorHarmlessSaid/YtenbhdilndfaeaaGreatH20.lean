import Derived.Test.YtenbhdilndfaeaaGreatH06
import Derived.Test.YtenbhdilndfaeaaGreatH16
set_option maxRecDepth 100000
set_option maxHeartbeats 0
set_option linter.all false
namespace Go.Proofs.YtenbhdilndfaeaaGreat
open Go.RowKit Go.Proofs.Tryz
section
variable{G:Prop}(d:Nat)(r:Int)
def JI(h:G:=by
 have bS:=bl.trans aO;clear bD bl aO;go_wp2_with fail;go_at_call 138;refine(iB base g _ bQ<|ov aP.len).mono ?_;rintro e bA⟨rfl,bW,bE⟩;have cN:=ao.simp (x:=⟨15,0,0,0,0⟩) I;have df:=aP.trans<|GP.put _ ⟨15,0,0,0,0⟩;have aF:=bS.trans bE;go_wp2_with fail;go_at_call 138;refine(iB base g _ bW<|ov df.len).mono ?_;rintro e N0⟨rfl,a,G⟩;have aT:=cN.simp (x:=⟨9,0,0,0,r⟩)<|lM 0 r X X bF X;have dO:=df.trans<|GP.put _ ⟨9,0,0,0,r⟩;have aC:=aF.trans G;go_wp2;refine en_ ?_;rw[ax.out];exact⟨rfl,_,_,a,aC,aT,dO.le X⟩):G:=h
def KT(h:G:=by
 go_wp2_with (go_at_call 138;refine(iB base g v1 bI X).mono ?_;rintro e w2⟨rfl,h2,N3⟩);refine en_ ?_;rw[ax.out];exact⟨rfl,_,_,h2,bg.trans N3,M.simp I,(c.trans<|GP.put v1 _).le X⟩):G:=h
def LP(h:G:=by
 have e:s1.pv=.slice PA 3 pc:=by rw[<-dn,<-c.pv,<-b0];rfl
 have:=bR.hg.f_ 0;unfold GS.g_ at this;rw[e]at this;exact this):G:=h
def MF(h:G:=by
 go_wp2;refine en_ ?_;rw[ax.out];exact⟨rfl,_,_,dF,(Gt.jS hg).trans dI,dK,dM.le X⟩):G:=h
def infoIn:(prog.info? 189).map (λi=>(i.zero,i.size,i.bytes))=some (some<|.agg #[Y 0,Y 0,Y 0,Y 0,Y 0],5,40):=by kernel_rfl
def infoPa:(prog.info? 219).map (λi=>(i.zero,i.size,i.bytes))=some (some<|.agg #[Y 0,Y 0],2,16):=by kernel_rfl
def infoPI:(prog.info? 313).map (λi=>(i.zero,i.size,i.bytes))=some (some<|.pointer none,1,8):=by kernel_rfl
def mZ(e:TypeId)(w w':World):Prop:=w.heap.size<=w'.heap.size/\∀(k:Nat) (cs:Array Value) (fz:Nat × Nat),w.heap[k]?=some (.cells cs e fz)->w'.heap[k]?=some (.cells cs e fz)
section
variable{e t:TypeId}{w w' w'':World}{g base size n:Nat}{cs:Array Value}{v:Value}{xs:QX}
def mZ.trans(h:mZ e w w')(k:mZ e w' w''):mZ e w w'':=⟨H_ h.1 k.1,λf cs c i=>k.2 f cs c<|h.2 f cs c i⟩
def mZ.jS(h:J [] w w'):mZ e w w':=⟨h.size,λ_ _ _ c=>(h.block _ (lv c) s_).trans c⟩
def mZ.one(h:J [g] w w')(f:Bk w g t cs)(k:t≠e):mZ e w w':=⟨h.size,λi p u c=>by
 have a:i≠g:=by
  rintro rfl;unfold Bk at f;rw[f]at c;injection c with c;injection c with _ m;exact k m
 exact(h.block i (lv c)<|zu a).trans c⟩
def mZ.set(f:Bk w g t cs)(c:t≠e)(i:Nat)(u:Value):mZ e w (w.setCell (Z g i) u):=.one ((G_ [g] w).setCell (p:=(Z g i)) (.inl s_) u) f c
def rg(h:w.ownsRow base t size v n xs){k:Nat}(c:v.ownBlock=some k):base<=k/\∃cs,Bk w k t cs:=by
 rcases h.2 with⟨rfl,_⟩|⟨g,p,f,rfl,i,m,_⟩
 cases c
 have:g=k:=by simpa[Value.ownBlock]using c
 subst this;exact⟨i,f,m⟩
def mZ.app(i:w.grownBy w' v.ownBlock)(h:w.ownsRow base t size v n xs)(k:t≠e):mZ e w w':=⟨i.size,λq u x c=>by
 refine(i.block q (lv c) λm=>?_).trans c;obtain⟨_,cs,f⟩:=rg h m.symm;unfold Bk at f;rw[f]at c;injection c with c;injection c with _ p;exact k p⟩
def mZ.own(k:mZ e w w')(h:w.ownsRow base e size v n xs):w'.ownsRow base e size v n xs:=by
 refine⟨h.1,?_⟩;rcases h.2 with i|⟨g,q,f,rfl,m,p,c⟩
 exact .inl i;exact .inr ⟨g,q,f,rfl,m,k.2 _ _ _ p,c⟩
def mZ.sl{A:OA}(k:mZ e w w')(h:Sl w e size A n xs):Sl w' e size A n xs:=⟨h.1,λp=>by
 obtain⟨b,q,cs,c,f,i,m⟩:=h.2 p;exact⟨b,q,cs,c,f,k.2 _ _ _ i,m⟩⟩
def mZ.bk(k:mZ e w w')(h:Bk w g e cs):Bk w' g e cs:=k.2 _ _ _ h
def Gt.app{T:List TypeId}(i:w.grownBy w' v.ownBlock)(h:w.ownsRow base t size v n xs)(m:t∈T):Gt base T w w':=.grown i λg k=>by
 obtain⟨c,cs,f⟩:=rg h k;exact⟨c,cs,t,_,f,m⟩
end
structure At where
 box:Nat
 A:Option Addr
 c:Nat
 is:List Int
structure GS where
 pv:Value
 VA:Option Addr
 vc:Nat
 vs:List ByteArray
 L:Option Addr
 lc:Nat
 l:List In
 hC:Int
 EA:Option Addr
 ec:Nat
 es:List Int
 FA:Option Addr
 fc:Nat
 fs:List Int
 CA:Option Addr
 cc:Nat
 cs:List<|Int × Int
 hidden:Int
 most:Int
 OA:Option Addr
 oc:Nat
 os:List At
 rt:List At
def GS.lg(s:GS):i3:=⟨s.pv,s.vs,s.l,s.hC,s.es,s.fs,s.cs,s.hidden,s.most,(s.os.map λa=>(a.box,a.is)),s.rt.map λa=>(a.box,a.is)⟩
def GS.g_(s:GS):Array Value:=#[s.pv,.slice s.L s.l.length s.lc,Y s.hC,.slice s.EA s.es.length s.ec,.slice s.FA s.fs.length s.fc,.slice s.CA s.cs.length s.cc,.slice s.VA s.vs.length s.vc,Y s.hidden,Y s.most,.slice s.OA s.os.length s.oc]
def nt(cs:List<|Int × Int):List Value:=cs.flatMap λp=>[Y p.1,Y p.2]
def GS.rows(s:GS):List (Value × List Int):=(.slice s.EA s.es.length s.ec,s.es)::(.slice s.FA s.fs.length s.fc,s.fs)::(s.rt++s.os).map λa=>(.slice a.A a.is.length a.c,a.is)
def gT:List TypeId:=[210,189,3,219,313,30]
structure ny(base:Nat)(w:World)(g:Nat)(s:GS):Prop where
 hg:Bk w g 210 s.g_
 hbg:base<=g
 hl:w.ownsRow base 189 5 (.slice s.L s.l.length s.lc) s.l.length<|l5 s.l
 hc:w.ownsRow base 219 2 (.slice s.CA s.cs.length s.cc) s.cs.length<|nt s.cs
 ho:w.ownsRow base 313 1 (.slice s.OA s.os.length s.oc) s.os.length<|s.os.map λa=>q_ a.box
 hb:∀a∈s.rt++s.os,Bk w a.box 30 #[.slice a.A a.is.length a.c]/\base<=a.box
 hbn:((s.rt++s.os).map At.box).Nodup
 hi:∀r∈s.rows,w.ownsRow base 3 1 r.1 r.2.length<|r.2.map<|Y
 ky:(s.rows.filterMap λr=>r.1.ownBlock).Nodup
 hv:Bs w s.VA s.vs
 hz:base<=w.heap.size
def lQ(base:Nat)(w:World)(g:Nat)(v:i3):Prop:=∃s:GS,s.lg=v/\ny base w g s
section
variable{base g:Nat}{w w':World}{s:GS}
def ny.hF(h:ny base w g s)(k:J [] w w'):ny base w' g s:=
 ⟨h.hg.hF k,h.hbg,iO h.hl k,iO h.hc k,iO h.ho k,λa c=>⟨(h.hb a c).1.hF k,(h.hb a c).2⟩,h.hbn,λr f=>iO (h.hi r f) k,h.ky,Sl.hF h.hv k,H_ h.hz k.size⟩
def lQ.hF{v:i3}(h:lQ base w g v)(k:J [] w w'):lQ base w' g v:=by
 obtain⟨s,c,f⟩:=h;exact⟨s,c,f.hF k⟩
def ny.sp(h:ny base w g s){L:OA}{lc:Nat}{l:QR}{hC hidden most:Int}(f:Bk w' g 210<|GS.g_ {s with L:=L,lc:=lc,l:=l,hC:=hC,hidden:=hidden,most:=most})
 (i:w'.ownsRow base 189 5 (.slice L l.length lc) l.length<|l5 l) (k:∀e∈[219,313,30,3,9],mZ e w w'):
 ny base w' g {s with L:=L,lc:=lc,l:=l,hC:=hC,hidden:=hidden,most:=most}:=
 ⟨f,h.hbg,i,(k _ s_).own h.hc,(k _ s_).own h.ho,λa c=>⟨(k 30 s_).bk (h.hb a c).1,(h.hb a c).2⟩,h.hbn,λr m=>(k 3 s_).own<|h.hi r m,h.ky,(k 9 s_).sl h.hv,H_ h.hz (k 9 s_).1⟩
end
def CF(base g:Nat)(v:i3)(u:Value)(w:World)(e:Ending)(w':World):Prop:=e=.returned u/\lQ base w' g v/\Gt base gT w w'
def Fu(base g:Nat)(s:GS)(x:In)(w:World)(e:Ending)(w':World):Prop:=∃(L:OA) (lc:Nat),e=.returned (Y s.l.length)/\ny base w' g {s with L:=L,lc:=lc,l:=s.l++[x]}/\Gt base gT w w'/\∀e,e≠189->e≠210->mZ e w w'
def mN(base g:Nat)(s:GS)(o a b c n:Int)(w:World)(h:ny base w g s)(hn:s.l.length<=100000):
 Calls prog 138 #[q_ g,Y o,Y a,Y b,Y c,Y n] w (Fu base g s ⟨o,a,b,c,n⟩ w):=by
 refine ig λQ C=>?_;obtain⟨H,F,E,J,L⟩:=info_parts infoIn;have V:w.cell? (Z g 1)=some (.slice s.L s.l.length s.lc):=h.hg.f_ 1;obtain⟨A,T,U,hx,m,O⟩:=box1 w 189 #[Y o,Y a,Y b,Y c,Y n];have i:=h.hF m;have k:=i.hl;have K:Sl A 189 5 (j_ T) 1 (l5 [⟨o,a,b,c,n⟩]):=jv (n:=1) O rfl;have R:=i.hz;go_enter func138,ntmps138;go_wp2_with (at_builtin;refine kf rfl rfl base 189 H 5 40 underlying24 F E J L rfl I I s.L s.l.length s.lc _ rfl k _ 1 1 _ rfl K (yA) X R ?_;intro u p x D q _;have f:=(mZ.app (e:=210) q k I).bk i.hg;have W:=f.hG 1;have ad:x.cell? (Z g 1)=some (.slice s.L s.l.length s.lc):=f.f_ 1);rw[C.out];have B:=f.hW 1<|.slice u (s.l.length+1) p;have y:∀e,e≠189->e≠210->mZ e w (x.setCell (Z g 1)<|.slice u (s.l.length+1) p):=λe M d=>((mZ.jS m).trans<|.app q k<|Ne.symm M).trans<|.set f (Ne.symm d) _ _;refine⟨u,p,kD s_,h.sp (hidden:=s.hidden) (most:=s.most) (hC:=s.hC) ?_ ?_ λe z=>y e (by rintro rfl;revert z;decide) (by rintro rfl;revert z;decide),?_,y⟩;unfold GS.g_;rw[M_];exact B;rw[M_,uK];exact(mZ.set f I _ _).own D;exact((Gt.jS m).trans<|.app q k I).trans<|.set f i.hbg I _ _
def iB(base g:Nat)(v:i3){o a b c n:Int}{w:World}(h:lQ base w g v)(m:v.l.length<=100000):
 Calls prog 138 #[q_ g,Y o,Y a,Y b,Y c,Y n] w (CF base g (v.put ⟨o,a,b,c,n⟩) (Y v.l.length) w):=by
 obtain⟨s,rfl,h⟩:=h;exact(mN base g s o a b c n w h m).mono λe w'⟨p,q,f,i,k,_⟩=>⟨f,⟨_,rfl,i⟩,k⟩
def ny.set{base g:Nat}{w:World}{s:GS}(h:ny base w g s)(i:Nat)(u:Value){hC hidden most:Int}(c:s.g_.setIfInBounds i u=GS.g_ {s with hC:=hC,hidden:=hidden,most:=most}):
 ny base (w.setCell ⟨g,i,none⟩ u) g {s with hC:=hC,hidden:=hidden,most:=most}:=
 h.sp (L:=s.L) (lc:=s.lc) (l:=s.l) (by rw[<-c];exact h.hg.hW i u) ((mZ.set h.hg I i u).own h.hl) λe f=>.set h.hg (by rintro rfl;revert f;decide) i u
def ny.Ar{base g:Nat}{w:World}{s:GS}(h:ny base w g s)(i:Nat)(u:Value):Gt base gT w (w.setCell ⟨g,i,none⟩ u):=.set h.hg h.hbg I i u
def Fy(base g:Nat)(s:GS)(w:World)(e:Ending)(w':World):Prop:=∃(L:OA) (lc:Nat),e=.returned (Y s.l.length)/\ny base w' g {s with L:=L,lc:=lc,l:=s.l++[⟨21,0,0,0,s.hC⟩],hC:=s.hC+1}/\Gt base gT w w'/\∀e,e≠189->e≠210->mZ e w w'
def sG(base g:Nat)(s:GS)(w:World)(h:ny base w g s)(y:s.l.length<=100000)(h0:0<=s.hC)(f:s.hC<=100000):
 Calls prog 136 #[.pointer<|some ⟨g,0,none⟩] w (Fy base g s w):=by
 refine ig λQ q=>?_;have A:w.cell? ⟨g,2,none⟩=some (Y s.hC):=h.hg.f_ 2;have B:=h.hg.hG 2;have i:=O<|h.set 2 (Y<|s.hC+1) (hC:=s.hC+1) (hidden:=s.hidden) (most:=s.most) rfl;have p:=O<|h.Ar 2<|Y<|s.hC+1;have u:=O h.hg;go_enter func136,ntmps136;go_wp2_with (go_at_call 138;refine(mN base g _ 21 0 0 0 s.hC _ i.out y).mono ?_;rintro e C⟨k,z,rfl,c,m,x⟩);rw[q.out];exact⟨k,z,rfl,c,p.out.trans m,λe f c=>(mZ.set u.out (Ne.symm c) _ _).trans<|x e f c⟩
def mO(base g:Nat){v:i3}{w:World}(h:lQ base w g v)(k:v.l.length<=100000)(h0:0<=v.hC)(c:v.hC<=100000):
 Calls prog 136 #[.pointer<|some ⟨g,0,none⟩] w (CF base g v.mark (Y v.l.length) w):=by
 obtain⟨s,rfl,h⟩:=h;exact(sG base g s w h k h0 c).mono λe w'⟨m,p,c,f,i,_⟩=>⟨c,⟨_,rfl,f⟩,i⟩
def t6(base g:Nat)(v:i3){w:World}(h:lQ base w g v)(h0:0<=v.hidden)(D:v.hidden<=100000)(H:0<=v.most)(I:v.most<=100000)(y:v.vs.length<=100000):
 Calls prog 206 #[.pointer<|some ⟨g,0,none⟩] w (CF base g v.more (Y<|v.vs.length+v.hidden) w):=by
 refine ig λQ z=>?_;obtain⟨s,rfl,h⟩:=h;have a:0<=s.hidden:=h0;have F:s.hidden<=100000:=D;have b:s.vs.length<=100000:=y;have i:w.cell? ⟨g,7,none⟩=some (Y s.hidden):=h.hg.f_ 7;have B:=h.hg.hG 7;have c:=h.set 7 (Y<|s.hidden+1) (hC:=s.hC) (hidden:=s.hidden+1) (most:=s.most) rfl;have m:=O<|h.Ar 7<|Y<|s.hidden+1;go_enter func206,ntmps206;go_upto_region 2 with fail;obtain⟨k,u⟩:=mn_<|w.setCell ⟨g,7,none⟩<|Y<|s.hidden+1;rw[u]at c m |-;clear u i B;have i:k.cell? ⟨g,7,none⟩=some (Y<|s.hidden+1):=c.hg.f_ 7;have A:k.cell? ⟨g,8,none⟩=some (Y s.most):=c.hg.f_ 8;have C:=c.hg.hG 8
 go_region
 go_upto_region 3 with fail;have f:=(c.set 8 (Y (if s.most<s.hidden+1 then s.hidden+1 else s.most)) (hC:=s.hC) (hidden:=s.hidden+1) (most:=if s.most<s.hidden+1 then s.hidden+1 else s.most) rfl).hF (G_ [] _).drew;have q:=O<|(c.Ar 8<|Y (if s.most<s.hidden+1 then s.hidden+1 else s.most)).trans<|.jS (G_ [] _).drew;obtain⟨p,x⟩:=mn_<|(k.setCell ⟨g,8,none⟩<|Y (if s.most<s.hidden+1 then s.hidden+1 else s.most)).drew;rw[x]at f q |-;clear x i A C;have E:p.cell? ⟨g,6,none⟩=some (.slice s.VA s.vs.length s.vc):=f.hg.f_ 6;have i:p.cell? ⟨g,7,none⟩=some (Y<|s.hidden+1):=f.hg.f_ 7
 go_quiet (fail);go_wp2;rw[z.out];refine⟨kD (by simp only[GS.lg];omega),⟨_,?_,f.hF<|(G_ [] _).drewN _⟩,(m.out.trans q.out).trans<|.jS<|(G_ [] _).drewN _⟩;have e:(if s.most<s.hidden+1 then s.hidden+1 else s.most)=max s.most (s.hidden+1):=by split<;>omega
 simp only[GS.lg,i3.more,e]
def Fr(w:World)(e:Ending)(w':World):Prop:=∃r:Int,0<=r/\r<=9/\e=.returned (Y r)/\w=w'
def lz(base g:Nat)(v:i3){x:ByteArray}{w:World}(h:lQ base w g v)(f:v.vs.length<=9):
 Calls prog 204 #[.pointer<|some ⟨g,0,none⟩,.string x] w (Fr w):=by
 refine ig λQ y=>?_;obtain⟨s,rfl,h⟩:=h;have A:=h.hv;have f:s.vs.length<=9:=f;have i:w.cell? ⟨g,6,none⟩=some (.slice s.VA s.vs.length s.vc):=h.hg.f_ 6;generalize s.vs=p at A f i;obtain⟨n,m⟩:=mn_ p.length;have u:=O m;rw[m]at f i;clear m;go_enter func204,ntmps204;go_wp2
 go_loop [12] (λk=>∃c:Nat,c<=n/\k=Y c) (λk=>n-(intOf k).toNat)
 case atStart=>exact⟨0,R_ _,gn⟩
 obtain⟨c,F,rfl⟩:=hrel;by_cases E:c<n
 .obtain⟨b,H,C,z⟩:=Sl.f_ A<|ov u.out;have B:c<p.length:=ov u.out;have D:=z c (.string p[c]) (by rw[Hg,O_ B];rfl);rw[C]at i;clear z;go_wp2
  .rw[y.out];exact⟨c,X,X,rfl,rfl⟩
  go_round;exact⟨c+1,X,gn⟩;exact mz
 go_wp2;rw[y.out];exact⟨0,X,X,rfl,rfl⟩
def zb{w:World}{base:Nat}{e:TypeId}{size n c g:Nat}{xs:QX}(h:w.ownsRow base e size (.slice (some ⟨g,0,none⟩) n c) n xs)(i:Nat)(u:Value):(w.setCell ⟨g,i,none⟩ u).ownsRow base e size (.slice (some ⟨g,0,none⟩) n c) n (xs.set i u):=by
 refine⟨by rw[G3];exact h.1,?_⟩;rcases h.2 with⟨k,E⟩|⟨d,C,m,k,y,A,p,q,x,B⟩
 cases k
 injection k with f D z;injection f with f;injection f with f;subst f;have o:Bk w g e m:=A;refine .inr ⟨g,C,_,(by rw[z]),y,o.hW i u,p,q,by simpa using x,?_⟩;rw[<-B,IV,List.take_set]
def p5{m:Type}(E:m->List Value)(s:Nat)(f:∀a,(E a).length=s):∀(l:List m) (k j:Nat) (r:m) (u:Value) (c:k<l.length),j<s->E r=(E l[k]).set j u->(l.flatMap E).set (k*s+j) u=(l.set k r).flatMap E
 |[],k,j,r,u,c,_,_=>by simp at c
 |a::l,0,j,r,u,c,h,i=>by
  simp only[Hc,IA,U_,HX];rw[List.set_append_left _ _ (by rw[f];exact h),i];rfl
 |a::l,k+1,j,r,u,c,h,i=>by
  have e:(k+1)*s+j=s+(k*s+j):=by rw[HY,I1];omega
  simp only[Hc,HT];rw[e,I7 _ _ (by rw[f];omega),f,Nat.add_sub_cancel_left,p5 E s f l k j r u (zu c) h i]
def zS(v:Int)(l:QR)(k:Nat)(m:k<l.length):my v l k=l.set k (l[k].pq v):=by
 refine H1 (by simp[my]) λh c i=>?_;rw[vg v l k h (by rw[lN]at c;exact c),List.getElem_set];simp only[Hh];split;rename_i f;subst f;rfl;rfl
def rm(v:Int)(l:QR)(k:Nat)(c:k<l.length):(l5 l).set (k*5+4) (Y v)=l5 (my v l k):=by
 rw[zS v l k c];exact p5 In.E 5 (λ_=>rfl) l k 4 _ _ c X rfl
def wB:Value:=.tuple #[]
def mR(base g:Nat){v:i3}(A:OA)(n c:Nat)(is:QS){w:World}(h:lQ base w g v)(hl:v.l.length<=100000)(hA:Ns w 3 A is)(V:is.length=n)(hi:∀i∈is,0<=i/\i<v.l.length)(aK:n<=100000):
 Calls prog 205 #[.pointer<|some ⟨g,0,none⟩,.slice A n c] w (CF base g (v.here is) wB w):=by
 refine ig λQ ax=>?_;have K:=O V;clear V;go_enter func205,ntmps205;go_wp2;go_loopw [8] (λD w'=>∃f:Nat,f<=n/\D=Y f/\lQ base w' g {v with l:=lV v.l.length v.l (is.take f)}/\Gt base gT w w'/\mZ 3 w w') (λD _=>n-(intOf D).toNat)
 case atStart=>exact⟨0,R_ _,gn,by simpa[lV]using h,.refl _ _ _,.jS<|G_ [] _⟩
 obtain⟨f,hk,rfl,m,M,R⟩:=hrel;obtain⟨s,x,m⟩:=m;by_cases ag:f<n
 .have y:f<is.length:=ov K.out;obtain⟨b,off,bM,U⟩:=Sl.f_ (R.sl hA) X;have W:=U f (Y is[f]) (by rw[Hg,O_ y];rfl);subst bM;clear U;have dN:=hi is[f]<|P_ y;obtain⟨i,C⟩:∃i:Nat,is[f]=i:=⟨is[f].toNat,X⟩;have HI:=O C;rw[C]at W dN;clear C;have p:s.l=lV v.l.length v.l (is.take f):=GG i3.l x;have H:s.l.length=v.l.length:=by rw[p,jh]
  have z:i<s.l.length:=X;obtain⟨G,cur,B,cN,u,ad⟩:=kN m.hl X;have af:wr.cell? ⟨g,1,none⟩=some (.slice (some ⟨G,0,none⟩) s.l.length s.lc):=by rw[<-B];exact m.hg.f_ 1
  have bz:=u.hG<|i*5+4;have ay:wr.cell? ⟨G,i*5+4,none⟩=some (Y s.l[i].n):=(u.f_ _).trans<|ad _ _<|(jr In.E 5 (λ_=>rfl) s.l i 4 z X).trans rfl;have ao:=O p;have de:=O H;have T:=O B;have d:=O x;obtain⟨k,F⟩:=mn_ s.l.length;have HM:=O F;rw[F]at af z;clear p H B x F;go_upto_region 3 with fail
  go_region
  go_wp2;go_roundw
  case rel=>
   have ca:mZ 3 wr (wr.setCell ⟨G,i*5+4,none⟩<|Y k):=.set u I _ _;have a:∀e,e≠189->mZ e wr (wr.setCell ⟨G,i*5+4,none⟩<|Y k):=λe E=>.set u (Ne.symm E) _ _;have p:=m.hl;rw[T.out]at p;have J:=zb p (i*5+4)<|Y k;rw[rm k s.l i<|by rw[HM.out];exact z]at J;have j:s.g_=GS.g_ {s with l:=my k s.l i}:=by unfold GS.g_;simp only[lN]
   have ah:=(m.sp (w':=wr.setCell ⟨G,i*5+4,none⟩<|Y k) (L:=s.L) (lc:=s.lc) (l:=my k s.l i) (hC:=s.hC) (hidden:=s.hidden) (most:=s.most) (by rw[<-j];exact(a _ I).bk m.hg) (by rw[T.out,lN];exact J) λe E=>a e<|by rintro rfl;revert E;decide).hF (G_ [] _).drew;refine⟨f+1,X,gn,⟨_,?_,ah⟩,M.trans<|(Gt.set u cN I _ _).trans<|.jS (G_ [] _).drew,(R.trans ca).trans<|.jS (G_ [] _).drew⟩;have Z:lV v.l.length v.l (is.take<|f+1)=my k s.l i:=by
    rw[Y_ y,HI.out,ao.out];have:(k:Int)=v.l.length:=by rw[<-HM.out,de.out]
    rw[this];unfold lV;rw[Ig];rfl
   have av:=d.out;rw[Z];exact Ms
  case measure=>exact mz
 go_wp2;refine en_ ?_;rw[ax.out];have:f=n:=X;subst this;exact⟨rfl,⟨s,by rw[x,GY<|ov K.out];rfl,m⟩,M⟩
def ET.at_{w:World}{A:OA}{l:QF}(h:Sl w 226 5 A l.length<|l.flatMap ET.E){k:Nat}(i:k<l.length):∃b off,A=some (Z b off)/\w.cell? (Z b<|off+k*5)=some (Y l[k].h7)/\w.cell? (Z b<|off+k*5+1)=some (Y l[k].n)/\
 w.cell? (Z b<|off+k*5+2)=some (.string l[k].name)/\w.cell? (Z b<|off+k*5+3)=some (Y l[k].op)/\w.cell? (Z b<|off+k*5+4)=some (.slice l[k].A l[k].l.length l[k].c):=by
 obtain⟨b,off,hA,hc⟩:=Sl.f_ h X;have g:=λj f=>jr ET.E 5 (λ_=>rfl) l k j i f;exact LG
def Bk.cells5{w:World}{g:Nat}{t:TypeId}{a b c d e:Value}(h:Bk w g t #[a,b,c,d,e]):w.cell? (Z g 0)=some a/\w.cell? (Z g 1)=some b/\w.cell? (Z g 2)=some c/\w.cell? (Z g 3)=some d/\w.cell? (Z g 4)=some e:=h.c5
def oW(base g:Nat)(v:i3)(D n:Nat)(w:World)(e:Ending)(w':World):Prop:=e=.returned wB/\∃v' q',lQ base w' g v'/\Gt base gT w w'/\GK v' q' D/\GP v v' n
def AU:Nat->Nat|0=>1|d+1=>1+2*AU d
def rj:1<=AU d:=by induction d with|zero=>decide|succ d c=>unfold AU;omega
def GK.sb{v:i3}{q:Int}{c:Nat}(h:GK v q c):0<=v.hC/\v.hC<=v.l.length:=by
 rw[h.ok.x7];refine⟨by unfold jM;omega,?_⟩;unfold jM;have:=Hw (λf:In=>f.op==21) v.l;omega
def D5(base g:Nat)(V:QU)(d:Nat)(t:ET):Prop:=∀(r:Int) (v:i3) (q:Int) (D:Nat) (p:Nat->Prop) (w:World),0<=r->r+d<16->kB p w t->lQ base w g v->GK v q D->v.l.length+AU d<=100000->
 Calls prog 203 #[q_ g,.agg t.g_,Y r] w (oW base g v D (AU d) w)
def Br(n:Int)(h0:0<=r)(c:r<16):lR ⟨1,r,0,0,n⟩=true:=by simp[lR,jU,je,mC];omega
def pM(n:Int)(h0:0<=r)(c:r<16)(f:0<=n)(h:n<64):lR ⟨8,r,0,0,n⟩=true:=by simp[lR,jU,je,mC];omega
def Bu(n:Int)(h0:0<=r)(c:r<16)(f:0<=n)(h:n<=16):lR ⟨7,r,0,0,n⟩=true:=by simp[lR,jU,je,mC];omega
def zR(n:Int)(h0:0<=r)(c:r<16)(f:0<=n)(h:n<16):lR ⟨5,r,r,0,n⟩=true:=by simp[lR,jU,je,mC];omega
def Bv(n:Int)(h0:0<=r)(c:r+1<16)(f:1<=n)(h:n<=11):lR ⟨4,r,r,r+1,n⟩=true:=by simp[lR,jU,je,mC,pX];omega
def lM(n:Int)(h0:0<=r)(c:r<16)(f:0<=n)(h:n<64):lR ⟨9,r,0,0,n⟩=true:=by simp[lR,jU,je,mC];omega
def Cf(base g:Nat)(V:QU)(d:Nat)(n:Int):D5 base g V d (jF n):=by
 intro r v K z J w q H _ i h iS;refine ig λQ p=>?_;have x:=rj d;obtain⟨m,y,C,I,f,c⟩:=box1 w 226 (jF n).g_;replace c:Bk m y 226 #[Y 1,Y n,.string ByteArray.empty,Y 0,n_]:=c;obtain⟨A,D,F,B,E⟩:=c.cells5;go_enter func203,ntmps203;go_wp2_with (go_at_call 138;refine(iB base g v (i.hF f) X).mono ?_;rintro e L⟨rfl,u,k⟩);refine en_ ?_;rw[p.out];exact⟨rfl,_,_,u,(Gt.jS f).trans k,h.simp<|Br r n q X,(GP.put v _).le x⟩
def Cg(base g:Nat)(V:QU)(d:Nat)(n:Int)(y:0<=n)(J:n<=3):D5 base g V d (eNew n):=by
 intro r v M A L w q I _ i h iS;refine ig λQ p=>?_;have x:=rj d;obtain⟨m,z,D,K,f,c⟩:=box1 w 226 (eNew n).g_;replace c:Bk m z 226 #[Y 6,Y n,.string ByteArray.empty,Y 0,n_]:=c;obtain⟨B,E,H,C,F⟩:=c.cells5;go_enter func203,ntmps203;go_wp2_with (go_at_call 138;refine(iB base g v (i.hF f) X).mono ?_;rintro e O⟨rfl,u,k⟩);refine en_ ?_;rw[p.out];exact⟨rfl,_,_,u,(Gt.jS f).trans k,h.simp<|Bu r n q X y X,(GP.put v _).le x⟩
def xj(base g:Nat)(V:QU)(d:Nat)(s:ByteArray):D5 base g V d (jG s):=by
 intro r v R C O w x L _ i h iS;refine ig λQ q=>?_;have z:=rj d;have u:=h.v1;obtain⟨m,B,F,M,f,c⟩:=box1 w 226 (jG s).g_;replace c:Bk m B 226 #[Y 3,Y 0,.string s,Y 0,n_]:=c;obtain⟨D,H,J,E,I⟩:=c.cells5;go_enter func203,ntmps203;go_wp2_with (first|(go_at_call 204;refine(lz base g v (i.hF f) u).mono ?_;rintro e T⟨A,p,K,rfl,rfl⟩)|(go_at_call 138;refine(iB base g v (i.hF f) X).mono ?_;rintro e U⟨rfl,y,k⟩));refine en_ ?_;rw[q.out];exact⟨rfl,_,_,y,(Gt.jS f).trans k,h.simp<|pM r A x X p X,(GP.put v _).le z⟩
def yD(base g:Nat)(V:QU)(d:Nat)(n:Int)(A:OA)(s:ByteArray)(hn0:0<=n)(hn1:n<=2):D5 base g V (d+1) (p7 n A<|jG s):=by
 intro r v ad C z w u x i H E iS;refine ig λQ R=>?_;have hd:=rj d;have j:v.l.length+(1+2*AU d)<=100000:=iS;obtain⟨m,ae,aW,hx,f,c⟩:=box1 w 226 (p7 n A<|jG s).g_;replace c:Bk m ae 226 #[Y 4,Y n,.string ByteArray.empty,Y 0,.slice A 1 1]:=c;have q:Sl w 226 5 A [jG s].length ([jG s].flatMap ET.E):=by cases i with|mk t h _ _ _=>exact h
 have ky:kB z w (jG s):=by cases i with|mk t _ _ _ h=>exact h _ (by simp[ET.l,p7])
 obtain⟨b,off,hA,T,U,M,K,W⟩:=ET.at_ (q.hF f) (k:=0) s_;subst hA;simp only[IA,Id]at T U M K W;obtain⟨ag,af,ay,aS,ak⟩:=c.cells5;have L:=O<|xj base g V d s r v ad C z m u X (ky.hF f) (H.hF f) E X;clear q i;go_enter func203,ntmps203;go_wp2_with (first|(go_at_call 203;refine L.out.mono ?_;rintro e w1⟨rfl,B,aY,x,y,F,p⟩;have D:=c.gt y I;obtain⟨z0,aM,aU,z3,z4⟩:=D.cells5;have hl1:=p.len)|(go_at_call 138;refine(iB base g B x X).mono ?_;rintro e w2⟨rfl,Z,J⟩));refine en_ ?_;rw[R.out];exact⟨rfl,_,_,Z,((Gt.jS f).trans y).trans J,(F.simp<|zR r n u X hn0 X),(p.trans<|GP.put B _).le (show AU d+1<=1+2*AU d by omega)⟩
def Ch(base g:Nat)(V:QU)(d:Nat)(o:Int)(A:OA)(a b:ET)(du:1<=o)(cT:o<=11)(c:D5 base g V d a)(i:D5 base g V d b):D5 base g V (d+1) (qw o A a b):=by
 intro r v ag z u w h0 h1 p N2 ah iS;refine ig λQ ax=>?_;have hd:=rj d;have j:v.l.length+(1+2*AU d)<=100000:=iS;obtain⟨D,aj,aW,hx,f,m⟩:=box1 w 226 (qw o A a b).g_;replace m:Bk D aj 226 #[Y 5,Y 0,.string ByteArray.empty,Y o,.slice A 2 2]:=m;have x:Sl w 226 5 A [a,b].length ([a,b].flatMap ET.E):=by cases p with|mk t h _ _ _=>exact h
 have al:kB u w a:=by cases p with|mk t _ _ _ h=>exact h _ (by simp[ET.l,qw])
 have Z:kB u w b:=by cases p with|mk t _ _ _ h=>exact h _ (by simp[ET.l,qw])
 obtain⟨bG,off,hA,R,c1,K,E,c4⟩:=ET.at_ (x.hF f) (k:=0) s_;subst hA;simp only[IA,Id,HL]at R c1 K E c4;obtain⟨am,af,ay,aS,ak⟩:=m.cells5;have aL:=O<|c r v ag z u D h0 X (al.hF f) (N2.hF f) ah X;have a7:=O<|x.hF f;have bZ:=O<|Z.hF f;clear x p al Z;go_enter func203,ntmps203;go_wp2_with fail;go_at_call 203;refine aL.out.mono ?_;rintro e w1⟨rfl,v1,aY,aE,q,an,L⟩;have B:=m.gt q I;obtain⟨z0,F,H,z3,z4⟩:=B.cells5;have hl1:=L.len;obtain⟨ao,ap,y,J,M,bw,U,T⟩:=ET.at_ (a7.out.gt q I) (k:=1) s_;injection y with y;injection y with P ar;subst P;subst ar;simp only[I1,Iq,HL]at J M bw U T;have ad:=O<|i (r+1) v1 aY z u w1 X X (bZ.out.gt q I) aE an X;clear R c1 K E c4 am af ay aS ak;go_wp2_with fail;go_at_call 203;refine ad.out.mono ?_;rintro e w2⟨rfl,W,bj,av,C,cM,cG⟩;have br:=B.gt C I;have b5:=cG.len;clear z0 F H z3 z4 J M bw U T;obtain⟨z0,F,H,z3,z4⟩:=br.cells5;go_wp2_with (go_at_call 138;refine(iB base g W av X).mono ?_;rintro e ae⟨rfl,h3,S⟩);refine en_ ?_;rw[ax.out];exact⟨rfl,_,_,h3,(((Gt.jS f).trans q).trans C).trans S,(cM.simp<|Bv r o h0 X du cT),((L.trans cG).trans<|GP.put W _).le (show AU d+AU d+1<=1+2*AU d by omega)⟩
def pj(base g:Nat)(V:QU)(d:Nat)(t:ET)(h:EG V d t):D5 base g V d t:=by
 induction h with
 |num d n _ _=>exact Cf base g V d n
 |var d s _=>exact xj base g V d s
 |new d n c f=>exact Cg base g V d n c f
 |field d n i s c f _=>exact yD base g V d n i s c f
 |bin d o i a b c f _ _ m k=>exact Ch base g V d o i a b c f m k
section
variable{P:Program}{md:Region.Mode}{S:World->Prop}{N:Nat}{Q:Exit->Act->World->Prop}
section
variable{ops:Array Oper}{o:Oper}{rest:QZ}{a:Act}{w:World}{l:QZ}{tl:QX}{ds:List Deferred}{j d:Nat}{oj:Oper}{r:QZ}{r2:QX}{b b':Bool}{v:Value}
def Eb(hg:o.guard=none)(h:wpList P ops Q rest (a.put o.dst v) w)(hy:(execOp a.eval o).run P w=.ok (.value v) w:=by first|(go_simp;done)|(go_simp;with_reducible rfl)):wpList P ops Q (o::rest) a w:=ij hg hy h
end
end
def oH{f:TypeId}{P:Program}{w:World}{ops:Array Oper}{o:Oper}{a:Act}{K:Act->World->Prop}{Q:Exit->Act->World->Prop}{E:Prop}(M:o.guard=none)(s x:Operand)(t:TypeId)
 (T:o.op=.call {callee:=.builtin .append,args:=#[s,x],argTypes:=#[t,t]})
 (base:Nat) (e:TypeId) (i:TypeInfo) {z:Value} (size bytes:Nat) (W:P.underlying t=some (.slice e)) (R:P.info? e=some i) (Y:i.zero=some z)
 (q:i.size=size) (p:i.bytes=bytes) (C:z.cells.size=size) (J:0<size) (F:0<bytes)
 (k:OA) (n B:Nat) {xs:QX} (V:a.eval s=.slice k n B) (L:w.ownsRow base e size (.slice k n B) n xs)
 {A:OA} (m c:Nat) {D:QX} (X:a.eval x=.slice A m c) (U:Sl w f size A m D) (O:∀u∈D,u.oneCell'=true)
 (y:(n+m)*bytes<=140737488355328) (H:base<=w.heap.size)
 (h:∀(A':OA) (c':Nat) (w':World),w'.ownsRow base e size (.slice A' (n+m) c') (n+m) (xs++D)->w.grownBy w' (Value.slice k n B).ownBlock->((Value.slice A' (n+m) c').ownBlock=(Value.slice k n B).ownBlock\/(Value.slice A' (n+m) c').ownBlock=some w.heap.size)->K (a.put o.dst<|.slice A' (n+m) c') w'):
 if Region.wanted o (yielded ops a.tmps)=true then Oper.wp P o a w K Q else E:=by
 have I:Region.wanted o (yielded ops a.tmps)=true:=by simp[Region.wanted,M]
 rw[L_ I];exact o1 s x t T base e i z size bytes W R Y q p C J F k n B xs V L A m c D X U O y H h
def At.row(a:At):Value × List Int:=(.slice a.A a.is.length a.c,a.is)
def GS.pre(s:GS)(NZ:List At):List (Value × List Int):=(.slice s.EA s.es.length s.ec,s.es)::(.slice s.FA s.fs.length s.fc,s.fs)::NZ.map At.row
def GS.qH(s:GS)(c:List At)(a:At)(h:s.os=c++[a]):s.rows=s.pre (s.rt++c)++[a.row]:=by
 unfold GS.rows GS.pre;rw[h,<-Hq,GN];rfl
def kn{l:List (Value × List Int)}{x:Value × List Int}:((l++[x]).filterMap λr=>r.1.ownBlock).Nodup↔(l.filterMap λr=>r.1.ownBlock).Nodup/\∀b,x.1.ownBlock=some b->∀r∈l,r.1.ownBlock≠some b:=by
 rw[List.filterMap_append,HR];cases k:x.1.ownBlock with
 |none=>simp[k]
 |some c=>
  simp only[List.filterMap_cons,k,List.filterMap_nil];constructor;rintro⟨f,_,m⟩;refine⟨f,λb p r i h=>?_⟩;cases p
  exact m c (Jh.2 ⟨r,i,h⟩) c s_ rfl;rintro⟨f,m⟩;refine⟨f,s_,λz p y u=>?_⟩;have:y=c:=zu u;subst this;obtain⟨r,i,h⟩:=Jh.1 p;rintro rfl;exact m _ rfl r i h
def ny.ED{base g:Nat}{w w':World}{s:GS}(h:ny base w g s)(f:List At)(a:At)(B:s.os=f++[a])(A':OA)(c' n:Nat)(i:Int)(X:a.is.length=n)
 (E:w.grownBy w' (Value.slice a.A n a.c).ownBlock) (U:w'.ownsRow base 3 1 (.slice A' (n+1) c') (n+1)<|a.is.map (Y)++[Y i])
 (d:(Value.slice A' (n+1) c').ownBlock=(Value.slice a.A n a.c).ownBlock\/(Value.slice A' (n+1) c').ownBlock=some w.heap.size):
 Bk w' a.box 30 #[.slice a.A n a.c]/\ny base (w'.setCell (Z a.box 0)<|.slice A' (n+1) c') g {s with os:=f++[{a with A:=A',c:=c',is:=a.is++[i]}]}/\Gt base gT w (w'.setCell (Z a.box 0)<|.slice A' (n+1) c'):=by
 subst X;have D:=s.qH f a B;have C:=h.ky;rw[D,kn]at C;have O:=h.hi a.row (by rw[D];simp);have j:∀e,e≠3->mZ e w w':=λe k=>.app E O<|Ne.symm k;have z:s.rt++s.os=(s.rt++f)++[a]:=by rw[B,Hq]
 obtain⟨W,R⟩:=h.hb a (by rw[z];simp);have l:=(j _ I).bk W;have T:∀e,e≠30->mZ e w' (w'.setCell (Z a.box 0)<|.slice A' (a.is.length+1) c'):=λe k=>.set l (Ne.symm k) _ _;have y:=λe F H=>(j e F).trans<|T e H;have M:=h.hbn;rw[z,GN,HR]at M;have V:Gt base gT w (w'.setCell (Z a.box 0)<|.slice A' (a.is.length+1) c'):=(Gt.app E O I).trans<|.set l R I _ _;have iS:(f++[({a with A:=A',c:=c',is:=a.is++[i]}:At)]).length=s.os.length:=by rw[B];simp
 have o:GS.rows {s with os:=f++[({a with A:=A',c:=c',is:=a.is++[i]}:At)]}=s.pre (s.rt++f)++[(.slice A' (a.is.length+1) c',a.is++[i])]:=by
  rw[GS.qH _ f {a with A:=A',c:=c',is:=a.is++[i]} rfl];simp[At.row,GS.pre]
 refine⟨l,⟨?_,h.hbg,(y _ I I).own h.hl,(y _ I I).own h.hc,?_,?_,?_,?_,?_,(y _ I I).sl h.hv,H_ h.hz (y 9 I I).1⟩,V⟩;have K:GS.g_ {s with os:=f++[({a with A:=A',c:=c',is:=a.is++[i]}:At)]}=s.g_:=by unfold GS.g_;rw[iS]
 rw[K];exact(y _ I I).bk h.hg;have:=(y _ I I).own h.ho;rw[B]at this;exact NW;intro x u;have K:x∈(s.rt++f)++[({a with A:=A',c:=c',is:=a.is++[i]}:At)]:=by rw[Hq];exact u
 rcases X_.1 K with u|u
 obtain⟨F,H⟩:=h.hb x (by rw[z];exact GZ _ u);refine⟨((j _ I).bk F).ir (p:=(Z a.box 0)) (λk=>?_) _,H⟩;exact M.2.2 x.box (GJ.2 ⟨x,u,rfl⟩) a.box s_ k;have:x={a with A:=A',c:=c',is:=a.is++[i]}:=zu u;subst this;refine⟨?_,R⟩;have:=l.hW 0<|.slice A' (a.is.length+1) c';show Bk _ a.box _ #[.slice A' (a.is++[i]).length c'];rw[M_];exact this;have:=h.hbn;rw[z]at this;exact NW;intro r m;rw[o]at m;refine(T 3 I).own ?_;rcases X_.1 m with m|m
 refine oe (h.hi r<|by rw[D];exact GZ _ m) (J.i6 E) λx u k=>?_;exact C.2 x (jQ.1 u) r m k;have:r=(.slice A' (a.is.length+1) c',a.is++[i]):=zu m;subst this;simpa using U;rw[o,kn];refine⟨C.1,λb L r m k=>?_⟩;rcases d with K|K
 exact C.2 b (K.symm.trans L) r m k;have ag:=(kK (h.hi r<|by rw[D];exact GZ _ m) k).2;have:some w.heap.size=some b:=K.symm.trans L;injection this;omega
def uq(i:Int):∀(l:List<|Nat × List Int) (a:Nat × List Int),rB i (l++[a])=l++[(a.1,a.2++[i])]
 |[],a=>rfl
 |[b],a=>rfl
 |b::c::l,a=>by
  have:=uq i (c::l) a;simp only[Ip]at this |-;rw[rB,this]
def oC(base g:Nat){v:i3}{w:World}(h:lQ base w g v)(z:v.l.length<=100000)(j:∀a∈v.ats,a.2.length<=100000)(c6:v.ats.length<=100000):
 Calls prog 217 #[q_ g] w (CF base g v.protect wB w):=by
 refine ig λQ V=>?_;obtain⟨s,rfl,h⟩:=h;have z:s.l.length<=100000:=z;rcases List.eq_nil_or_concat s.os with f|⟨x,a,f⟩
 .have A:w.cell? (Z g 9)=some (.slice s.OA 0 s.oc):=by have:=h.hg.f_ 9;unfold GS.g_ at this;rw[f]at this;exact this
  have F:=O<|mN base g s 17 0 0 0 0 w h z;have b:=O f;clear f;go_enter func217,ntmps217;go_wp2_with (go_at_call 138;refine F.out.mono ?_;rintro e m⟨L,lc,rfl,u,D,H⟩);refine en_ ?_;rw[V.out];refine⟨rfl,⟨_,?_,u⟩,D⟩;simp only[GS.lg,i3.protect,b.out];rfl
 rw[List.concat_eq_append]at f;obtain⟨bM,bK,bC,be,bu⟩:=info_parts infoInt;have aw:a.is.length<=100000:=j (a.box,a.is) (by simp[GS.lg,f]);obtain⟨n,T⟩:=mn_ a.is.length;obtain⟨c,K⟩:=mn_ x.length;have C:s.os.length=c+1:=by rw[f];simp[K]
 have cC:c+1<=100000:=by
  have:s.os.length<=100000:=by simpa[GS.lg]using c6
  omega
 have A:w.cell? (Z g 9)=some (.slice s.OA (c+1) s.oc):=by have:=h.hg.f_ 9;unfold GS.g_ at this;rw[C]at this;exact this
 obtain⟨M,cur,B,_,ad,af⟩:=kN h.ho X;have J:w.cell? (Z M c)=some (q_ a.box):=(ad.f_ c).trans (af c _<|by rw[f];simp[<-K]);have R:=(h.hb a<|by rw[f];simp).1;rw[T]at R aw;have dw:w.cell? (Z a.box 0)=some (.slice a.A n a.c):=R.f_ 0;rw[B]at A;have F:=O<|mN base g s 17 0 0 0 0 w.drew (h.hF (G_ [] w).drew) z;have b:=O f;have aZ:=O T;have G:=O B;have bl:=O C;have E:=O ad;clear f T B K C af;go_enter func217,ntmps217;go_upto_region 2 with fail;have bX:IntKind.i64.wrap (c:Int)=c:=G9 _ X;have cA:(c:Int)<(c:Int)+1:=X;refine hS (λw'=>w'.cell? (Z g 9)=some (.slice (j_ M) (c+1) s.oc)/\w'.cell? (Z M c)=some (q_ a.box)/\w'.cell? (Z a.box 0)=some (.slice a.A n a.c)) 23 k_ ?_;refine m6 ⟨A,J,dw⟩ λk=>?_;repeat refine j8 k ?_
 refine h4 19 λp i=>?_;go_simp;go_at_call 138;refine F.out.mono ?_;rintro e m⟨L,lc,rfl,u,D,H⟩;have br:=(H 313 I I).bk E.out;clear k;refine hZ i (
  ⟨by have:=u.hg.f_ 9;unfold GS.g_ at this;rw[G.out,bl.out]at this;exact this,(br.f_ c).trans<|(E.out.f_ c).symm.trans J,((H 30 I I).bk R).f_ 0⟩) λk=>?_
 clear i p;refine h4 20 λp i=>?_;go_simp;refine i.out _ _ (λ_=>⟨jJ k.1 _,jJ k.2.1 _,jJ k.2.2 _⟩) ?_;clear i p;have q:=u.hF<|(G_ [] m).alloc<|.cells #[Y s.l.length] 3;have bi:Sl (m.alloc<|.cells #[Y s.l.length] 3) 3 1 (j_ m.heap.size) 1 [Y s.l.length]:=jv (n:=1) (s:=1) (T_ m 3 _) rfl;have S:Gt base gT w (m.alloc<|.cells #[Y s.l.length] 3):=((Gt.jS (G_ [] w).drew).trans D).trans<|.jS<|(G_ [] m).alloc _;have bJ:=br.alloc<|.cells #[Y s.l.length] 3;obtain⟨ae,U⟩:=nm_<|m.alloc<|.cells #[Y s.l.length] 3;rw[<-U]at q bi S bJ |-;clear U k;obtain⟨cj,y⟩:=nm_ ({s with L:=L,lc:=lc,l:=s.l++[⟨17,0,0,0,0⟩]}:GS);rw[<-y]at q;have ag:=O y
 have ai:cj.os=x++[a]:=by rw[y];exact b.out
 have W:=q.hi a.row (by rw[cj.qH x a ai];simp);have o:=by have:=W;unfold At.row at this;simp only at this;rw[aZ.out]at this;exact this
 clear y W u;refine h4 21 λp i=>?_;refine oH rfl (.tmp 27) (.tmp 30) 30 rfl base 3 bM 1 8 underlying30 bK bC be bu rfl I I a.A n a.c rfl o 1 1 rfl bi (by intro aj hu;simp at hu;subst hu;rfl) X q.hz ?_;intro A' c' ak am bp d;obtain⟨bw,au,ah⟩:=q.ED x a ai A' c' n s.l.length aZ.out bp am d;have bA:∀e,e≠3->mZ e ae ak:=λe he=>.app bp o<|Ne.symm he;refine hZ i (by
  refine⟨?_,((bA _ I).bk bJ).f_ c |>.trans ((E.out.f_ c).symm.trans J),bw.f_ 0⟩;refine(((bA _ I).bk q.hg).f_ 9).trans ?_;rw[ag.out];show some (Value.slice s.OA s.os.length s.oc)=_;rw[G.out,bl.out]) λk=>?_
 clear i p;refine iC 22 k ?_;have bE:=bw.hG 0;refine h4 23 λp i=>?_;go_simp;refine i.out _ _ (λh=>GR h I) ?_;refine hN k_ ?_ _;go_wp2;refine rn_ ?_;rw[V.out];refine⟨rfl,⟨_,?_,au⟩,S.trans ah⟩;rw[ag.out];simp only[GS.lg,i3.protect,b.out,GN,Hs,H3];rw[uq]
def nD(w:World)(pv:Value):Prop:=∃(PA:OA) (c:Nat) (fs:QG),pv=.slice PA 3 c/\fs.length=3/\CK w PA fs/\ux qv fs 0=1/\ux pW fs 0=2
def nD.gt{base:Nat}{w w':World}{pv:Value}(h:nD w pv)(u:Gt base gT w w'):nD w' pv:=by
 obtain⟨c,i,k,m,p,q,f⟩:=h;exact⟨c,i,k,m,p,Sl.gt q u I,f⟩
def DY(base g:Nat)(V:QU)(D:Nat):Prop:=∀(N:Nat) (t:ST) (v:i3) (q:Int) (p:Nat->Prop) (w:World),l8 V D N [t]->jR p w t->nD w v.pv->lQ base w g v->GK v q D->v.l.length+30*N<=100000->
 Calls prog 175 #[q_ g,.agg t.g_] w (oW base g v D (30*N) w)
def vG(base g:Nat)(V:QU)(D:Nat):Prop:=∀(N:Nat) (A:OA) (n c:Nat) (ts:QW) (v:i3) (q:Int) (p:Nat->Prop) (w:World),ts.length=n->n<=100000->l8 V D N ts->Sl w 229 8 A n (ts.flatMap ST.E)->(∀u∈ts,jR p w u)->nD w v.pv->lQ base w g v->GK v q D->v.l.length+30*N<=100000->
 Calls prog 137 #[q_ g,.slice A n c] w (oW base g v D (30*N) w)
def ST.at_{w:World}{A:OA}{l:QW}{n:Nat}(h:Sl w 229 8 A n<|l.flatMap ST.E)(q:l.length=n){k:Nat}(p:k<l.length):∃b c,A=some (Z b c)/\w.cell? (Z b<|c+k*8)=some (Y l[k].h7)/\w.cell? (Z b<|c+k*8+1)=some (.string l[k].name)/\
 w.cell? (Z b<|c+k*8+2)=some (.string l[k].fn)/\w.cell? (Z b<|c+k*8+3)=some (Y l[k].n)/\w.cell? (Z b<|c+k*8+4)=some (Y l[k].op)/\
 w.cell? (Z b<|c+k*8+5)=some (.slice l[k].AE l[k].es.length l[k].cE)/\w.cell? (Z b<|c+k*8+6)=some (.slice l[k].AB l[k].bs.length l[k].cB)/\w.cell? (Z b<|c+k*8+7)=some (.slice l[k].AL l[k].ls.length l[k].cL):=by
 obtain⟨b,c,i,f⟩:=Sl.f_ h X;have g:=λj m=>jr ST.E 8 (λ_=>rfl) l k j p m;exact⟨b,c,i,f (k*8+0) _<|g 0 X,f (k*8+1) _<|g 1 X,f (k*8+2) _<|g 2 X,f (k*8+3) _<|g 3 X,f (k*8+4) _<|g 4 X,f (k*8+5) _<|g 5 X,f (k*8+6) _<|g 6 X,f (k*8+7) _<|g 7 X⟩
def Bk.jd{w:World}{g:Nat}{t:TypeId}{a b c d e f i j:Value}(h:Bk w g t #[a,b,c,d,e,f,i,j]):w.cell? (Z g 0)=some a/\w.cell? (Z g 1)=some b/\w.cell? (Z g 2)=some c/\w.cell? (Z g 3)=some d/\w.cell? (Z g 4)=some e/\w.cell? (Z g 5)=some f/\w.cell? (Z g 6)=some i/\w.cell? (Z g 7)=some j:=
 ⟨h.f_ 0,h.f_ 1,h.f_ 2,h.f_ 3,h.f_ 4,h.f_ 5,h.f_ 6,h.f_ 7⟩
def l8.one{V:QU}{f N:Nat}{t:ST}(h:l8 V f N [t]):∃r nb nl c L,f=r+1/\N=1+nb+nl/\nh V t.h7 t.name t.fn t.n t.op t.es.length c L/\(c=false->t.bs=[])/\(L=false->t.ls=[])/\(∀e∈t.es,EG V 2 e)/\l8 V r nb t.bs/\l8 V r nl t.ls:=by
 cases h with
 |cons f a b nb nl t l c L h i k p m q x u=>
  cases u
  exact⟨f,nb,nl,c,L,rfl,X,h,i,k,p,m,q⟩
def jR.parts{p:Nat->Prop}{w:World}{t:ST}(h:jR p w t):Sl w 226 5 t.AE t.es.length (t.es.flatMap ET.E)/\(∀u∈t.es,kB p w u)/\Sl w 229 8 t.AB t.bs.length (t.bs.flatMap ST.E)/\(∀u∈t.bs,jR p w u)/\Sl w 229 8 t.AL t.ls.length (t.ls.flatMap ST.E)/\(∀u∈t.ls,jR p w u):=by
 cases h with
 |mk t i A x k c z C f m B y q=>exact⟨i,k,c,f,m,q⟩
def l8.len{V:QU}{c N:Nat}{l:QW}(h:l8 V c N l):l.length<=N:=by
 induction h with
 |nil c=>simp
 |cons c a b nb A t l f i h m p x u y q z _ _ k=>simp only[GI];omega
def Gm(base g:Nat)(v:i3)(D n:Nat)(w w':World):Prop:=∃v' q',lQ base w' g v'/\Gt base gT w w'/\GK v' q' D/\GP v v' n
def nh.rng{V:QU}{k n o:Int}{x f:ByteArray}{m:Nat}{c L:Bool}(h:nh V k x f n o m c L):m<=2:=by cases h<;>omega
def ny.xu{base g:Nat}{w w':World}{s:GS}(h:ny base w g s)(p:Int × Int)(A':OA)(c':Nat)(k:w.grownBy w' (Value.slice s.CA s.cs.length s.cc).ownBlock)
 (u:w'.ownsRow base 219 2 (.slice A' (s.cs.length+1) c') (s.cs.length+1)<|nt s.cs++nt [p]):
 Bk w' g 210 s.g_/\ny base (w'.setCell (Z g 5)<|.slice A' (s.cs.length+1) c') g {s with CA:=A',cc:=c',cs:=s.cs++[p]}/\Gt base gT w (w'.setCell (Z g 5)<|.slice A' (s.cs.length+1) c'):=by
 have j:∀e,e≠219->mZ e w w':=λe i=>.app k h.hc<|Ne.symm i;have f:=(j _ I).bk h.hg;have q:∀e,e≠210->mZ e w' (w'.setCell (Z g 5)<|.slice A' (s.cs.length+1) c'):=λe i=>.set f (Ne.symm i) _ _;have c:∀e,e≠219->e≠210->mZ e w (w'.setCell (Z g 5)<|.slice A' (s.cs.length+1) c'):=λe x y=>(j e x).trans<|q e y;refine⟨f,⟨?_,h.hbg,(c _ I I).own h.hl,?_,(c _ I I).own h.ho,λa m=>⟨(c 30 I I).bk (h.hb a m).1,(h.hb a m).2⟩,h.hbn,λr z=>(c 3 I I).own<|h.hi r z,h.ky,(c 9 I I).sl h.hv,H_ h.hz (c 9 I I).1⟩,(Gt.app k h.hc I).trans<|.set f h.hbg I _ _⟩;have:=f.hW 5<|.slice A' (s.cs.length+1) c';exact NQ;rw[M_];have e:nt (s.cs++[p])=nt s.cs++nt [p]:=by simp[nt]
 rw[e];exact(q _ I).own u
def Bq(n:Int)(h0:0<=n)(c:n<16):lR ⟨6,1,0,0,n⟩=true:=by simp[lR,jU,je,mC];omega
def Bt(o r:Int)(c:o=1\/o=6\/o=9)(h0:0<=r)(f:r<64):lR ⟨10,0,o,0,r⟩=true:=by
 rcases c with rfl|rfl|rfl<;>simp[lR,jU,je,mC,qV]<;>omega
def wE(base g:Nat)(V:QU)(W:Nat)(k:Int)(x f:ByteArray)(n o:Int)(D:OA)(R:Nat)(es:QF)(AB:OA)(cB:Nat)(K:QW)(AL:OA)(cL:Nat)(U:QW)(v:i3)(q:Int)(p:Nat->Prop)(w:World)(al L:Bool)(nb nl:Nat)(aX:vG base g V W)(cg:l8 V W nb K)(d4:l8 V W nl U)(aR:Sl w 229 8 AB K.length<|K.flatMap ST.E)(cO:∀u∈K,jR p w u)(co:Sl w 229 8 AL U.length<|U.flatMap ST.E)(cS:∀u∈U,jR p w u)
 (bp:nh V k x f n o es.length al L) (a:k≠9) (a8:k≠6) (au:k≠5) (hes:∀e∈es,EG V 2 e) (bi:Sl w 226 5 D es.length<|es.flatMap ET.E) (ky:∀u∈es,kB p w u) (hP:nD w v.pv) (N2:lQ base w g v) (H:GK v q<|W+1) (iS:v.l.length+30*(1+nb+nl)<=100000):
 Calls prog 175 #[q_ g,.agg (ST.mk k x f n o D R es AB cB K AL cL U).g_] w (oW base g v (W+1) (30*(1+nb+nl)) w):=by
 refine ig λQ ax=>?_;obtain⟨an,hm⟩:=mn_ es.length;have cA:=bp.rng;rw[hm]at cA bp;have HM:=O hm;have bO:=O bp;obtain⟨aA,T,aW,hx,hg,hB⟩:=box1 w 229 (ST.mk k x f n o D R es AB cB K AL cL U).g_;replace hB:Bk aA T 229 #[Y k,.string x,.string f,Y n,Y o,.slice D an R,.slice AB K.length cB,.slice AL U.length cL]:=by rw[<-hm];exact hB
 have d3:(k==9)=false:=zu a;have d2:(k==6)=false:=zu a8;have dj:(k==5)=false:=zu au;obtain⟨bd,af,ay,aS,ak,bL,ad,bf⟩:=hB.jd;have j:=N2.hF hg;have a7:=O<|bi.hF hg;have cW:=O (λu y=>(ky u y).hF hg:∀u∈es,kB p aA u);have aQ:=O<|hP.gt (.jS hg:Gt base gT w aA);have c3:=O<|hP.gt (.jS hg:Gt base gT w aA);have d6:=O aR;have d8:=O co;go_enter func175,ntmps175;go_upto_region 8 with fail;have bo:=O aW;have bH:=O hx;go_loopw [27] (λap w'=>∃k:Nat,k<=an/\ap=Y k/\Gm base g v (W+1) (7*k) aA w') (λap _=>an-(intOf ap).toNat)
 case atStart=>exact⟨0,R_ _,gn,v,q,j,.refl _ _ _,H,.refl _⟩
 obtain⟨E,hi,rfl,v1,aY,bI,aw,M,aq⟩:=hrel;have hl1:=aq.len;by_cases ag:E<an
 .have i:E<es.length:=ov HM.out;obtain⟨b,off,hA,C,J,B,A,c4⟩:=ET.at_ (a7.out.gt aw I) i;subst hA;have m:=pj base g V 2 es[E]<|hes _<|P_ i;have z:=(cW.out _<|P_ i).gt aw I;generalize es[E]=e at C J B A c4 m z;obtain⟨bh,aV,b7,hg1,N1,bm⟩:=box1 wr 226 #[Y e.h7,Y e.n,.string e.name,Y e.op,.slice e.A e.l.length e.c];obtain⟨bd,af,ay,aS,ak⟩:=bm.cells5;have d7:=O<|m E v1 aY (W+1) p bh X X (z.hF N1) (bI.hF N1) M (show v1.l.length+7<=100000 by omega);go_wp2_with fail;refine d7.out.mono ?_;rintro av w2⟨rfl,bn,F,cI,S,cM,cG⟩;go_wp2;go_roundw;exact⟨E+1,X,gn,bn,F,cI,(aw.trans<|.jS N1).trans S,cM,(aq.trans cG).le (show 7*E+7<=7*(E+1) by omega)⟩;exact mz
 have bm:=hB.gt aw I;obtain⟨bd,af,ay,aS,ak,bL,ad,bf⟩:=bm.jd;have bg:Gt base gT w wr:=(Gt.jS hg).trans aw;go_upto_region 13 with(go_at_call 204;refine(lz base g v1 bI M.v1).mono ?_;rintro e w1⟨r,bF,bB,rfl,rfl⟩);have c:GP v v1 14:=aq.le X;have b5:=c.len;have cU:=M.sb;have dq:=O<|aQ.out.gt aw;have bp:=bO.out;rcases bp with⟨_,d⟩|⟨_,du,cT⟩|⟨_,d⟩|⟨_,d⟩|_|⟨_,d⟩|_|_|_|⟨_,d⟩|_|⟨_,d⟩|⟨_,d,_,eV⟩
 .go_wp2_with (go_at_call 138;refine(iB base g v1 bI X).mono ?_;rintro e w2⟨rfl,h2,N3⟩);refine en_ ?_;rw[ax.out];exact⟨rfl,_,_,h2,bg.trans N3,M.simp<|lM 0 r X X bF X,(c.trans<|GP.put v1 _).le X⟩
 .go_wp2_with (go_at_call 138;refine(iB base g v1 bI X).mono ?_;rintro e w2⟨rfl,h2,N3⟩);refine en_ ?_;rw[ax.out];exact⟨rfl,_,_,h2,bg.trans N3,M.simp<|Bq n du X,(c.trans<|GP.put v1 _).le X⟩
 .have ce:=dq.out;obtain⟨PA,pc,dV,dn,bU,dU,bR,F⟩:=dq.out;have HI:=O bR;have cj:=O bU;have dz:=O dU;obtain⟨s1,b0,bR⟩:=bI;have aM:=O b0;have z0:wr.cell? (Z g 0)=some (.slice PA 3 pc):=LP;go_upto_region 21 with fail;refine hS (λw'=>w'.cell? (Z g 0)=some (.slice PA 3 pc)/\w'.cell? (Z T 2)=some (.string qv)) 6 k_ ?_;refine m6 ⟨z0,ay⟩ λi=>?_;iterate 6 refine j8 i ?_
  refine h4 6 λC H=>?_;go_simp;go_at_call 170;refine(nV PA 3 pc dV qv _ cj.out (Sl.hF dz.out (G_ [] _).drew) X).mono ?_;rintro e w2⟨rfl,B⟩;rw[HI.out];replace B:=(G_ [] wr).drew.trans B;refine H.out _ _ (λh=>GR h I) ?_;try simp only[a_]
  refine h4 7 λC H=>?_;go_simp;refine H.out _ _ (λh=>GR h I) ?_;try simp only[a_]
  refine hN k_ ?_ _;go_upto_region 22 with fail;have F:=bR.hF B;have br:=bm.hF B;have dG:=bg.trans<|.jS B;have z5:w2.cell? (Z g 5)=some (.slice s1.CA s1.cs.length s1.cc):=F.hg.f_ 5;have bL:w2.cell? (Z T 5)=some (.slice D 2 R):=br.f_ 5;refine hS (λw'=>w'.cell? (Z g 5)=some (.slice s1.CA s1.cs.length s1.cc)/\w'.cell? (Z T 5)=some (.slice D 2 R)) 16 k_ ?_;have i:w2.drew.cell? (Z g 5)=some (.slice s1.CA s1.cs.length s1.cc)/\w2.drew.cell? (Z T 5)=some (.slice D 2 R):=⟨z5,bL⟩;have hls:s1.l.length<=100000:=by
   have e:s1.l=v1.l:=GG i3.l aM.out;rw[e];omega
  have N:s1.cs.length<=100000:=by
   have e:s1.cs=v1.cs:=GG i3.cs aM.out;rw[e];have:=M.ok.AW;omega
  (iterate 9 refine j8 i ?_)
  refine iC 10 i ?_;refine h4 9 λC H=>?_;go_simp;go_at_call 138;refine(mN base g s1 13 0 2 0 0 _ (F.hF (G_ [] _).drew) hls).mono ?_;rintro e z⟨d9,eo,rfl,cy,S,cf⟩;have bJ:=br.drew.gt S I;refine hZ H ⟨cy.hg.f_ 5,bJ.f_ 5⟩ λi=>?_;refine iC 11 i ?_;refine h4 12 λC H=>?_;go_simp;refine H.out _ _ (λ_=>⟨jJ i.1 _,jJ i.2 _⟩) ?_;have bi:Sl (z.alloc<|.cells #[Y s1.l.length,Y 1] 219) 219 2 (j_ z.heap.size) 1 (nt [((s1.l.length:Int),1)]):=jv (n:=1) (s:=2) (T_ z 219 _) rfl;have A:=cy.hF<|(G_ [] z).alloc<|.cells #[Y s1.l.length,Y 1] 219;have J:=((dG.trans<|.jS (G_ [] w2).drew).trans S).trans<|.jS<|(G_ [] z).alloc<|.cells #[Y s1.l.length,Y 1] 219;have bP:=bJ.alloc<|.cells #[Y s1.l.length,Y 1] 219;obtain⟨bv,dN⟩:=nm_<|z.alloc<|.cells #[Y s1.l.length,Y 1] 219;rw[<-dN]at bi A J bP |-;obtain⟨bM,bK,bC,be,bu⟩:=info_parts infoPa
  try simp only[a_]
  refine h4 13 λC H=>?_;refine oH rfl (.tmp 74) (.tmp 82) 206 rfl base 219 bM 2 16 underlying206 bK bC be bu rfl I I s1.CA s1.cs.length s1.cc rfl A.hc 1 1 rfl bi (by intro u y;simp[nt]at y;rcases y with rfl|rfl<;>rfl) X A.hz ?_;intro a6 c5 NY aj dg _;obtain⟨bG,b8,aD⟩:=A.xu _ a6 c5 dg aj;have b4:=(mZ.app (e:=229) dg A.hc I).bk bP;refine hZ H ⟨bG.f_ 5,b4.f_ 5⟩ λi=>?_;(iterate 2 refine j8 i ?_);have f5:=bG.hG 5;have z5:=i.1;refine h4 16 λC H=>?_;go_simp;refine H.out _ _ (λh=>GR h I) ?_;refine hN k_ ?_ _;have bD:lQ base (NY.setCell (Z g 5)<|.slice a6 (s1.cs.length+1) c5) g (v1.call 2 1):=⟨_,by rw[<-aM.out];rfl,b8⟩;have bl:=J.trans aD;obtain⟨aB,cF⟩:=nm_<|NY.setCell (Z g 5)<|.slice a6 (s1.cs.length+1) c5;rw[<-cF]at bD bl |-;clear cF b8 aD bG A cy F J b4 bP bJ
  go_wp2_with fail;go_at_call 136;refine(mO base g bD (ov<|(GP.call v1 2 1).len) cU.1 (by have:=cU.2;show v1.hC<=100000;omega)).mono ?_;rintro e aH⟨rfl,bQ,aO⟩;have ao:=M.xv 2 1 X X X X;have aP:=(c.trans<|GP.call v1 2 1).trans<|GP.mark _;exact JI
 .have ce:=dq.out;obtain⟨PA,pc,dV,dn,bU,dU,bR,F⟩:=dq.out;have HI:=O F;have cj:=O bU;have dz:=O dU;obtain⟨s1,b0,bR⟩:=bI;have aM:=O b0;have z0:wr.cell? (Z g 0)=some (.slice PA 3 pc):=LP;go_upto_region 21 with fail;refine hS (λw'=>w'.cell? (Z g 0)=some (.slice PA 3 pc)/\w'.cell? (Z T 2)=some (.string pW)) 6 k_ ?_;refine m6 ⟨z0,ay⟩ λi=>?_;iterate 6 refine j8 i ?_
  refine h4 6 λC H=>?_;go_simp;go_at_call 170;refine(nV PA 3 pc dV pW _ cj.out (Sl.hF dz.out (G_ [] _).drew) X).mono ?_;rintro e w2⟨rfl,B⟩;rw[HI.out];replace B:=(G_ [] wr).drew.trans B;refine H.out _ _ (λh=>GR h I) ?_;try simp only[a_]
  refine h4 7 λC H=>?_;go_simp;refine H.out _ _ (λh=>GR h I) ?_;try simp only[a_]
  refine hN k_ ?_ _;go_upto_region 22 with fail;have F:=bR.hF B;have br:=bm.hF B;have dG:=bg.trans<|.jS B;have z5:w2.cell? (Z g 5)=some (.slice s1.CA s1.cs.length s1.cc):=F.hg.f_ 5;have bL:w2.cell? (Z T 5)=some (.slice D 1 R):=br.f_ 5;refine hS (λw'=>w'.cell? (Z g 5)=some (.slice s1.CA s1.cs.length s1.cc)/\w'.cell? (Z T 5)=some (.slice D 1 R)) 16 k_ ?_;have i:w2.drew.cell? (Z g 5)=some (.slice s1.CA s1.cs.length s1.cc)/\w2.drew.cell? (Z T 5)=some (.slice D 1 R):=⟨z5,bL⟩;have hls:s1.l.length<=100000:=by
   have e:s1.l=v1.l:=GG i3.l aM.out;rw[e];omega
  have N:s1.cs.length<=100000:=by
   have e:s1.cs=v1.cs:=GG i3.cs aM.out;rw[e];have:=M.ok.AW;omega
  (iterate 9 refine j8 i ?_)
  refine iC 10 i ?_;refine h4 9 λC H=>?_;go_simp;go_at_call 138;refine(mN base g s1 13 0 1 0 0 _ (F.hF (G_ [] _).drew) hls).mono ?_;rintro e z⟨d9,eo,rfl,cy,S,cf⟩;have bJ:=br.drew.gt S I;refine hZ H ⟨cy.hg.f_ 5,bJ.f_ 5⟩ λi=>?_;refine iC 11 i ?_;refine h4 12 λC H=>?_;go_simp;refine H.out _ _ (λ_=>⟨jJ i.1 _,jJ i.2 _⟩) ?_;have bi:Sl (z.alloc<|.cells #[Y s1.l.length,Y 2] 219) 219 2 (j_ z.heap.size) 1 (nt [((s1.l.length:Int),2)]):=jv (n:=1) (s:=2) (T_ z 219 _) rfl;have A:=cy.hF<|(G_ [] z).alloc<|.cells #[Y s1.l.length,Y 2] 219;have J:=((dG.trans<|.jS (G_ [] w2).drew).trans S).trans<|.jS<|(G_ [] z).alloc<|.cells #[Y s1.l.length,Y 2] 219;have bP:=bJ.alloc<|.cells #[Y s1.l.length,Y 2] 219;obtain⟨bv,dN⟩:=nm_<|z.alloc<|.cells #[Y s1.l.length,Y 2] 219;rw[<-dN]at bi A J bP |-;obtain⟨bM,bK,bC,be,bu⟩:=info_parts infoPa
  try simp only[a_]
  refine h4 13 λC H=>?_;refine oH rfl (.tmp 74) (.tmp 82) 206 rfl base 219 bM 2 16 underlying206 bK bC be bu rfl I I s1.CA s1.cs.length s1.cc rfl A.hc 1 1 rfl bi (by intro u y;simp[nt]at y;rcases y with rfl|rfl<;>rfl) X A.hz ?_;intro a6 c5 NY aj dg _;obtain⟨bG,b8,aD⟩:=A.xu _ a6 c5 dg aj;have b4:=(mZ.app (e:=229) dg A.hc I).bk bP;refine hZ H ⟨bG.f_ 5,b4.f_ 5⟩ λi=>?_;(iterate 2 refine j8 i ?_);have f5:=bG.hG 5;have z5:=i.1;refine h4 16 λC H=>?_;go_simp;refine H.out _ _ (λh=>GR h I) ?_;refine hN k_ ?_ _;have bD:lQ base (NY.setCell (Z g 5)<|.slice a6 (s1.cs.length+1) c5) g (v1.call 1 2):=⟨_,by rw[<-aM.out];rfl,b8⟩;have bl:=J.trans aD;obtain⟨aB,cF⟩:=nm_<|NY.setCell (Z g 5)<|.slice a6 (s1.cs.length+1) c5;rw[<-cF]at bD bl |-;clear cF b8 aD bG A cy F J b4 bP bJ
  go_wp2_with fail;go_at_call 136;refine(mO base g bD (ov<|(GP.call v1 1 2).len) cU.1 (by have:=cU.2;show v1.hC<=100000;omega)).mono ?_;rintro e aH⟨rfl,bQ,aO⟩;have ao:=M.xv 1 2 X X X X;have aP:=(c.trans<|GP.call v1 1 2).trans<|GP.mark _;exact JI
 .have bz:=c3.out;have ct:=d6.out.hF hg;have dL:=d8.out.hF hg;have cr:∀u∈K,jR p aA u:=λu y=>(cO u y).hF hg;have dy:∀u∈U,jR p aA u:=λu y=>(cS u y).hF hg;go_wp2_with fail;go_at_call 138;refine(iB base g _ bI<|ov c.len).mono ?_;rintro e dX⟨rfl,t,cQ⟩;have cw:=M.xd 12<|.inr rfl;have ca:=c.trans<|GP.put _ ⟨12,0,0,0,0⟩;have aE:=aw.trans cQ;have dk:iG (i3.put v1 ⟨12,0,0,0,0⟩).l v1.l.length=12:=oM v1;have d1:v1.l.length<(i3.put v1 ⟨12,0,0,0,0⟩).l.length:=by simp[i3.put]
  generalize aZ:i3.put v1 ⟨12,0,0,0,0⟩=bn at*;obtain⟨bd,af,ay,aS,ak,bL,ad,bf⟩:=(hB.gt aE I).jd;go_wp2_with fail;go_at_call 137;refine(aX nb AB _ cB K _ _ p _ rfl (ov cg.len) cg (ct.gt aE I) (λu y=>(cr u y).gt aE I I) (by rw[ca.pv];exact bz.gt aE) t (cw.le X)<|ov ca.len).mono ?_;rintro e cD⟨rfl,m,dW,cX,cR,di,aI⟩;have a2:=GK.of cw aI<|di.le<|R_ _;have bw:=ca.trans aI;have cu:=aE.trans cR;have em:iG m.l v1.l.length=12:=(aI.kp.2 _ X).trans dk;have ev:v1.l.length<m.l.length:=ov aI.kp.1;go_wp2_with fail;go_at_call 138;refine(iB base g _ cX<|ov bw.len).mono ?_;rintro e d5⟨rfl,dC,dP⟩;have dr:=a2.xd 11<|.inl rfl;have c8:=bw.trans<|GP.put _ ⟨11,0,0,0,0⟩;have cY:=cu.trans dP;have dS:iG (i3.put m ⟨11,0,0,0,0⟩).l m.l.length=11:=oM m;have ej:m.l.length<(i3.put m ⟨11,0,0,0,0⟩).l.length:=by simp[i3.put]
  have dm:iG (i3.put m ⟨11,0,0,0,0⟩).l v1.l.length=12:=((GP.put m ⟨11,0,0,0,0⟩).kp.2 _ X).trans em;obtain⟨bh,bq,b7,ck,N1,bm⟩:=box1 d5 3 #[Y v1.l.length];have ea:Ns bh 3 (j_ bq) [(v1.l.length:Int)]:=jv (n:=1) (s:=1) bm rfl;have ed:=dC.hF N1;go_wp2_with fail;go_at_call 205;refine(mR base g _ 1 1 [(v1.l.length:Int)] ed (ov c8.len) ea rfl (by intro E hi;simp at hi;subst hi;exact⟨X,X⟩) X).mono ?_;rintro e er⟨rfl,dD,bZ⟩;have dt:=dr.here v1.l.length<|.inr dm;have c9:=c8.trans<|GP.here _ [(v1.l.length:Int)];have cJ:=(cY.trans<|.jS N1).trans bZ;obtain⟨bd,af,ay,aS,ak,bL,ad,bf⟩:=(hB.gt cJ I).jd;have ek:iG (i3.here (i3.put m ⟨11,0,0,0,0⟩) [(v1.l.length:Int)]).l m.l.length=11:=(oI _ _ _ _).trans dS;have eu:(m.l.length:Int)<(i3.here (i3.put m ⟨11,0,0,0,0⟩) [(v1.l.length:Int)]).l.length:=by simp only[i3.here,jh];omega
  generalize cp:i3.here (i3.put m ⟨11,0,0,0,0⟩) [(v1.l.length:Int)]=v9 at*
  go_wp2_with fail;go_at_call 137;refine(aX nl AL _ cL U _ _ p _ rfl (ov d4.len) d4 (dL.gt cJ I) (λu y=>(dy u y).gt cJ I I) (by rw[c9.pv];exact bz.gt cJ) dD (dt.le X)<|ov c9.len).mono ?_;rintro e dY⟨rfl,v25,ey,dE,dQ,ei,dw⟩;have dJ:=GK.of dt dw<|ei.le<|R_ _;have db:=c9.trans dw;have dH:=cJ.trans dQ;have dT:iG v25.l m.l.length=11:=(dw.kp.2 _ X).trans ek;have d0:(m.l.length:Int)<v25.l.length:=ov dw.kp.1;obtain⟨aK,P,bN,cv,bT,br⟩:=box1 dY 3 #[Y m.l.length];have eb:Ns aK 3 (j_ P) [(m.l.length:Int)]:=jv (n:=1) (s:=1) br rfl;have ef:=dE.hF bT;go_wp2_with fail;go_at_call 205;refine(mR base g _ 1 1 [(m.l.length:Int)] ef (ov db.len) eb rfl (by intro E hi;simp at hi;subst hi;exact⟨X,d0⟩) X).mono ?_;rintro e et⟨rfl,dF,dR⟩;have dK:=dJ.here m.l.length<|.inl dT;have dM:=db.trans<|GP.here _ [(m.l.length:Int)];have dI:=(dH.trans<|.jS bT).trans dR;exact MF
 exact GR rfl au;exact GR rfl a8;exact KT;exact KT;exact GR rfl a;exact KT
 .go_wp2_with fail;go_at_call 206;have cz:=M.h0;have eg:=M.hD;have cq:=M.m0;have bX:=M.m1;have cp:=M.v1;refine(t6 base g v1 bI cz X cq X X).mono ?_;rintro e w2⟨rfl,h2,N3⟩;have m:=O (show 0<=(v1.vs.length:Int)+v1.hidden/\(v1.vs.length:Int)+v1.hidden<64 by omega);have cM:=M.more;have cG:=GP.refl v1.more;have ew:v1.more.l.length=v1.l.length:=rfl;have aU:=bg.trans N3;generalize (v1.vs.length:Int)+v1.hidden=u at m |-
  go_wp2_with fail;go_at_call 138;refine(iB base g _ h2<|ov cG.len).mono ?_;rintro e z⟨rfl,h3,S⟩;have aN:=cM.simp (x:=⟨9,0,0,0,u⟩)<|lM 0 u X X m.out.1 m.out.2;have am:=cG.trans<|GP.put _ ⟨9,0,0,0,u⟩;have cI:=aU.trans S;go_wp2_with fail;go_at_call 136;refine(mO base g h3 (ov am.len) aN.sb.1 (by have:=aN.sb.2;have:=am.len;omega)).mono ?_;rintro e bv⟨rfl,ar,J⟩;have c7:=aN.mark;have da:=am.trans<|GP.mark _;have bt:=cI.trans J;go_wp2_with fail;go_at_call 138;refine(iB base g _ ar<|ov da.len).mono ?_;rintro e NY⟨rfl,au,ah⟩;have bV:=c7.ask (by simp[i3.mark];omega) (by unfold i3.mark;have:=mD (i3.put v1.more ⟨9,0,0,0,u⟩).l ⟨21,0,0,0,(i3.put v1.more ⟨9,0,0,0,u⟩).hC⟩ [];simpa using this) u m.out.1 m.out.2;have cx:=da.trans<|GP.put _ ⟨20,0,0,0,u⟩;have bx:=bt.trans ah;go_wp2_with fail;go_at_call 138;refine(iB base g _ au<|ov cx.len).mono ?_;rintro e aB⟨rfl,a8,aD⟩;have cn:=bV.simp (x:=⟨8,0,0,0,u⟩)<|pM 0 u X X m.out.1 m.out.2;have de:=cx.trans<|GP.put _ ⟨8,0,0,0,u⟩;have c6:=bx.trans aD;go_wp2_with fail;go_at_call 138;refine(iB base g _ a8<|ov de.len).mono ?_;rintro e aH⟨rfl,bQ,aO⟩;have ao:=cn.simp (x:=⟨9,0,0,0,r⟩)<|lM 0 r X X bF X;have aP:=de.trans<|GP.put _ ⟨9,0,0,0,r⟩;have bS:=c6.trans aO;obtain⟨cH,bY,cC⟩:=bQ;have eh:=aP.hid;have dB:=O bY;have dh:cH.hidden=v1.hidden+1:=by
   have e:cH.lg.hidden=v1.more.hidden:=by rw[bY];exact eh
   exact e
  have cV:aH.cell? (Z g 7)=some (Y<|v1.hidden+1):=by rw[<-dh];exact cC.hg.f_ 7
  have f7:=cC.hg.hG 7;have dx:=O dh;go_wp2;refine en_ ?_;rw[ax.out];have cZ:=cC.set 7 (Y v1.hidden) (hC:=cH.hC) (hidden:=v1.hidden) (most:=cH.most) rfl;refine⟨rfl,_,_,⟨_,?_,cZ⟩,bS.trans<|cC.Ar 7 _,GK.less M (ao.le<|R_ _) (by have:=aP.hid;exact this) (by have:=aP.sR;exact this),(c.trans<|GP.more aP).le X⟩;rw[<-dB.out];have cK:=dx.out;simp only[GS.lg,i3.less,cK];congr 1;omega
 go_wp2_with (go_at_call 138;refine(iB base g v1 bI X).mono ?_;rintro e w2⟨rfl,h2,N3⟩);refine en_ ?_;rw[ax.out];exact⟨rfl,_,_,h2,bg.trans N3,M.simp<|Bt o r eV bF X,(c.trans<|GP.put v1 _).le X⟩
def l8.split{V:QU}{c N:Nat}{t:ST}{l:QW}(h:l8 V c N<|t::l):∃a b,N=a+b/\l8 V c a [t]/\l8 V c b l:=by
 cases h with
 |cons c a b nb z t l f i h k m u q x p y=>exact⟨a,b,rfl,.cons c a 0 nb z t [] f i h k m u q x p<|.nil _,y⟩
def vp(base g:Nat)(V:QU)(f:Nat)(W:DY base g V f):vG base g V f:=by
 intro N ae n ah m v q aj w hn aK bW bi ky hP J H iS;refine ig λQ ax=>?_;have E:=O hn;have K:=O bi;have e:l8 V f N (m.drop 0):=bW;go_enter func137,ntmps137;go_wp2;go_loopw [8] (λx w'=>∃c a b:Nat,c<=n/\x=Y c/\a+b=N/\l8 V f b (m.drop c)/\Gm base g v f (30*a) w w') (λx _=>n-(intOf x).toNat)
 case atStart=>exact⟨0,0,N,R_ _,gn,X,e,v,q,J,.refl _ _ _,H,.refl _⟩
 obtain⟨c,a,b,hk,rfl,hab,d,y,D,j,h,z,k⟩:=hrel;have Z:=O hab;have al:a+b<=N:=X;have hl1:=k.len;by_cases ag:c<n
 .have u:c<m.length:=ov E.out;obtain⟨bG,off,hA,az,c1,T,L,c4,c5,M,br⟩:=ST.at_ (K.out.gt h I) E.out u;subst hA;rw[W_ u]at d;obtain⟨A,b1,C,F,cg⟩:=d.split;have an:=O C;have bD:=C;have B:=(ky _<|P_ u).gt h I I;have cG:nD wr y.pv:=by rw[k.pv];exact hP.gt h
  generalize m[c]=t at az c1 T L c4 c5 M br F B;obtain⟨p,aV,b7,hg1,i,hB⟩:=box1 wr 229 #[Y t.h7,.string t.name,.string t.fn,Y t.n,Y t.op,.slice t.AE t.es.length t.cE,.slice t.AB t.bs.length t.cB,.slice t.AL t.ls.length t.cL];obtain⟨au,af,ay,aS,ak,bL,ad,aA⟩:=hB.jd;have R:=O<|W A t y D aj p F (B.gt (.jS i:Gt base gT wr p) I I) (cG.gt (.jS i:Gt base gT wr p)) (j.hF i) z X;go_wp2_with fail;refine R.out.mono ?_;rintro av w2⟨rfl,bn,bj,cI,S,cM,U⟩;go_wp2;go_roundw
  case rel=>
   have aC:=Z.out;have av:=an.out;exact⟨c+1,a+A,b1,X,gn,X,cg,bn,bj,cI,(h.trans<|.jS i).trans S,cM,(k.trans U).le X⟩
  case measure=>exact mz
 go_wp2;refine en_ ?_;rw[ax.out];exact⟨rfl,y,D,j,h,z,k.le X⟩
def ET.ats{w:World}{b f n:Nat}{l:QF}(h:Sl w 226 5 (some<|Z b f) n<|l.flatMap ET.E)(u:l.length=n)(k:Nat)(q:k<l.length):w.cell? (Z b<|f+k*5)=some (Y l[k].h7)/\w.cell? (Z b<|f+k*5+1)=some (Y l[k].n)/\
 w.cell? (Z b<|f+k*5+2)=some (.string l[k].name)/\w.cell? (Z b<|f+k*5+3)=some (Y l[k].op)/\w.cell? (Z b<|f+k*5+4)=some (.slice l[k].A l[k].l.length l[k].c):=by
 subst u;obtain⟨b',x,i,p⟩:=ET.at_ h q;injection i with i;injection i with P m;subst P;subst m;exact p
def Sl.addr{w:World}{e:TypeId}{s n:Nat}{A:OA}{xs:QX}(h:Sl w e s A n xs)(i:0<n):∃b c,A=some (Z b c):=by
 obtain⟨b,c,f,_⟩:=Sl.f_ h i;exact⟨b,c,f⟩
def B0(base g:Nat)(V:QU)(W:Nat)(x:ByteArray)(AE:OA)(cE:Nat)(B z:ET)(L:OA)(cB:Nat)(i:QW)(AL:OA)(cL:Nat)(ls:QW)(v:i3)(q:Int)(p:Nat->Prop)(w:World)(nb:Nat)(aX:vG base g V W)(cg:l8 V W nb i)
 (aR:Sl w 229 8 L i.length<|i.flatMap ST.E) (cO:∀u∈i,jR p w u) (hes:∀e∈[B,z],EG V 2 e) (bi:Sl w 226 5 AE 2<|[B,z].flatMap ET.E) (ky:∀u∈[B,z],kB p w u) (hP:nD w v.pv) (N2:lQ base w g v) (H:GK v q<|W+1) (iS:v.l.length+30*(1+nb)<=100000):
 Calls prog 202 #[q_ g,.agg (ST.mk 5 x jg 0 0 AE cE [B,z] L cB i AL cL ls).g_] w (oW base g v (W+1) (30*(1+nb)) w):=by
 refine ig λQ ax=>?_;obtain⟨bG,off,al⟩:=bi.addr X;subst al;obtain⟨M,gx,aW,hx,m,h⟩:=box1 w 229 (ST.mk 5 x jg 0 0 (some<|Z bG off) cE [B,z] L cB i AL cL ls).g_;replace h:Bk M gx 229 #[Y 5,.string x,.string jg,Y 0,Y 0,.slice (some<|Z bG off) 2 cE,.slice L i.length cB,.slice AL ls.length cL]:=h;obtain⟨y,D,F,A,E,J,C,K⟩:=h.jd;have b9:=Gt.refl base gT M;have j:=N2.hF m;have a7:=O<|bi.hF m;replace ky:=λu U=>(ky u U).hF m;have bz:=hP.gt (.jS m:Gt base gT w M);have ct:=aR.hF m;have cr:=λu U=>(cO u U).hF m;have aq:=GP.refl v;go_enter func202,ntmps202;go_wp2_with fail;go_at_call 204;refine(lz base g _ j H.v1).mono ?_;rintro e w1⟨r,bF,bB,rfl,rfl⟩;obtain⟨az,c1,ai,aG,c4⟩:=ET.ats (a7.out.gt b9 I) rfl 0 s_;simp only[IA,Id,HL]at az c1 ai aG c4;go_wp2_with fail;go_at_call 203;refine(pj base g V 2 B (hes _ s_) 0 _ _ _ p _ X X ((ky _ s_).gt b9 I) j H (by have:=aq.len;show _+7<=100000;omega)).mono ?_;rintro e dX⟨rfl,cW,da,t,cQ,cw,an⟩;replace an:GP _ cW 7:=an;have ca:=aq.trans an;have aE:=b9.trans cQ;obtain⟨y,D,F,A,E,J,C,K⟩:=(h.gt aE I).jd;obtain⟨az,c1,ai,aG,c4⟩:=ET.ats (a7.out.gt aE I) rfl 1 s_;simp only[I1,HL,Iq]at az c1 ai aG c4;go_wp2_with fail;go_at_call 203;refine(pj base g V 2 z (hes _ s_) 1 _ _ _ p _ X X ((ky _ s_).gt aE I) t cw (by have:=ca.len;show _+7<=100000;omega)).mono ?_;rintro e cD⟨rfl,c,dW,cX,cR,k,aI⟩;replace aI:GP _ c 7:=aI;have bw:=ca.trans aI;have cu:=aE.trans cR;obtain⟨y,D,F,A,E,J,C,K⟩:=(h.gt cu I).jd;have cz:=k.h0;have eg:=k.hD;have cq:=k.m0;have bX:=k.m1;have cp:=k.v1;go_wp2_with fail;go_at_call 206;refine(t6 base g _ cX cz X cq X X).mono ?_;rintro e df⟨rfl,aL,b0⟩;have R:=O (show 0<=(c.vs.length:Int)+c.hidden/\(c.vs.length:Int)+c.hidden<64 by omega);have bH:=k.more;have ag:=GP.refl c.more;have c6:c.more.l.length=c.l.length:=rfl;have c7:=bw.len;have db:=bw.pv;replace bz:nD M c.more.pv:=(by show nD M c.pv;rw[db];exact bz);have S:=cu.trans b0;generalize (c.vs.length:Int)+c.hidden=u at R |-;obtain⟨y,D,F,A,E,J,C,K⟩:=(h.gt S I).jd
 go_wp2_with fail;go_at_call 138;refine(iB base g _ aL<|ov ag.len).mono ?_;rintro e dg⟨rfl,aM,b4⟩;have bI:=bH.simp (x:=⟨9,0,0,0,r⟩)<|lM 0 r X X bF X;have ah:=ag.trans<|GP.put _ ⟨9,0,0,0,r⟩;have bl:=S.trans b4;go_wp2_with fail;go_at_call 138;refine(iB base g _ aM<|ov ah.len).mono ?_;rintro e di⟨rfl,aN,b5⟩;have aA:=bI.simp (x:=⟨9,1,0,0,u⟩)<|lM 1 u X X R.out.1 R.out.2;have bd:=ah.trans<|GP.put _ ⟨9,1,0,0,u⟩;have bn:=bl.trans b5;go_wp2_with fail;go_at_call 136;refine(mO base g aN (ov bd.len) aA.sb.1 (by have:=aA.sb.2;have:=bd.len;omega)).mono ?_;rintro e dj⟨rfl,aO,b7⟩;have bK:=aA.mark;have ao:=bd.trans<|GP.mark _;have bf:=bn.trans b7;have bh:=mD (i3.put (i3.put c.more ⟨9,0,0,0,r⟩) ⟨9,1,0,0,u⟩).l ⟨21,0,0,0,(i3.put (i3.put c.more ⟨9,0,0,0,r⟩) ⟨9,1,0,0,u⟩).hC⟩ [];generalize c9:i3.put (i3.put c.more ⟨9,0,0,0,r⟩) ⟨9,1,0,0,u⟩=a at*;have N3:iG a.mark.l a.l.length=21:=bh;have G:a.l.length<a.mark.l.length:=by simp[i3.mark]
 generalize aQ:a.mark=bk at*;obtain⟨y,D,F,A,E,J,C,K⟩:=(h.gt bf I).jd;go_wp2_with fail;go_at_call 138;refine(iB base g _ aO<|ov ao.len).mono ?_;rintro e dn⟨rfl,aP,b8⟩;have bM:=bK.simp (x:=⟨8,0,0,0,r⟩)<|pM 0 r X X bF X;have ap:=ao.trans<|GP.put _ ⟨8,0,0,0,r⟩;have bo:=bf.trans b8;go_wp2_with fail;go_at_call 138;refine(iB base g _ aP<|ov ap.len).mono ?_;rintro e dq⟨rfl,aU,ce⟩;have bN:=bM.simp (x:=⟨8,1,0,0,u⟩)<|pM 1 u X X R.out.1 R.out.2;have ar:=ap.trans<|GP.put _ ⟨8,1,0,0,u⟩;have bp:=bo.trans ce;go_wp2_with fail;go_at_call 138;refine(iB base g _ aU<|ov ar.len).mono ?_;rintro e dr⟨rfl,aK,cf⟩;have bO:=bN.simp (x:=⟨4,0,0,1,10⟩) I;have au:=ar.trans<|GP.put _ ⟨4,0,0,1,10⟩;have bq:=bp.trans cf;generalize bD:i3.put (i3.put (i3.put bk ⟨8,0,0,0,r⟩) ⟨8,1,0,0,u⟩) ⟨4,0,0,1,10⟩=f at*
 have dZ:rI bk.l f.l:=by rw[<-bD];exact((GP.put _ _).kp.trans (GP.put _ _).kp).trans (GP.put _ _).kp
 go_wp2_with fail;go_at_call 138;refine(iB base g _ aK<|ov au.len).mono ?_;rintro e dt⟨rfl,aV,cj⟩;have ae:=bO.xd 12<|.inr rfl;have bm:=au.trans<|GP.put _ ⟨12,0,0,0,0⟩;have d:=bq.trans cj;have dk:iG (i3.put f ⟨12,0,0,0,0⟩).l f.l.length=12:=oM f;have d1:f.l.length<(i3.put f ⟨12,0,0,0,0⟩).l.length:=by simp[i3.put]
 have NZ:rI bk.l (i3.put f ⟨12,0,0,0,0⟩).l:=dZ.trans (GP.put _ _).kp;generalize cN:i3.put f ⟨12,0,0,0,0⟩=vc at*;obtain⟨y,D,F,A,E,J,C,K⟩:=(h.gt d I).jd;go_wp2_with fail;go_at_call 137;refine(aX nb L _ cB i _ _ p _ rfl (ov cg.len) cg (ct.gt d I) (λu U=>(cr u U).gt d I I) (by rw[bm.pv];exact bz.gt d) aV (ae.le X)<|ov bm.len).mono ?_;rintro e du⟨rfl,N1,de,aY,ck,cG,T⟩;have bP:=GK.of ae T<|cG.le<|R_ _;have av:=bm.trans T;have N0:=d.trans ck;have dm:=(T.kp.2 _ X).trans dk;have cI:f.l.length<N1.l.length:=ov T.kp.1;have bv:=NZ.trans T.kp;obtain⟨y,D,F,A,E,J,C,K⟩:=(h.gt N0 I).jd;go_wp2_with fail;go_at_call 138;refine(iB base g _ aY<|ov av.len).mono ?_;rintro e dw⟨rfl,aZ,cn⟩;have bQ:=bP.simp (x:=⟨8,0,0,0,r⟩)<|pM 0 r X X bF X;have aw:=av.trans<|GP.put _ ⟨8,0,0,0,r⟩;have br:=N0.trans cn;go_wp2_with fail;go_at_call 138;refine(iB base g _ aZ<|ov aw.len).mono ?_;rintro e dy⟨rfl,a6,co⟩;have bR:=bQ.simp (x:=⟨1,1,0,0,1⟩) I;have aB:=aw.trans<|GP.put _ ⟨1,1,0,0,1⟩;have bt:=br.trans co;go_wp2_with fail;go_at_call 138;refine(iB base g _ a6<|ov aB.len).mono ?_;rintro e dz⟨rfl,a8,cv⟩;have bS:=bR.simp (x:=⟨4,0,0,1,1⟩) I;have aD:=aB.trans<|GP.put _ ⟨4,0,0,1,1⟩;have bu:=bt.trans cv;go_wp2_with fail;go_at_call 138;refine(iB base g _ a8<|ov aD.len).mono ?_;rintro e P⟨rfl,be,cx⟩;have bT:=bS.simp (x:=⟨9,0,0,0,r⟩)<|lM 0 r X X bF X;have bx:=aD.trans<|GP.put _ ⟨9,0,0,0,r⟩;have bA:=bu.trans cx;generalize cS:i3.put (i3.put (i3.put (i3.put N1 ⟨8,0,0,0,r⟩) ⟨1,1,0,0,1⟩) ⟨4,0,0,1,1⟩) ⟨9,0,0,0,r⟩=b at*
 have dI:rI N1.l b.l:=by rw[<-cS];exact(((GP.put _ _).kp.trans (GP.put _ _).kp).trans (GP.put _ _).kp).trans (GP.put _ _).kp
 obtain⟨cH,bY,cC⟩:=be;have dB:=O bY;have dh:cH.hidden=c.hidden+1:=(show cH.lg.hidden=c.more.hidden by rw[bY];exact bx.hid);have cV:P.cell? (Z g 7)=some (Y<|c.hidden+1):=by rw[<-dh];exact cC.hg.f_ 7
 have f7:=cC.hg.hG 7;have dx:=O dh;go_wp2_with fail;have cZ:=cC.set 7 (Y c.hidden) (hC:=cH.hC) (hidden:=c.hidden) (most:=cH.most) rfl;have cb:lQ base (P.setCell (Z g 7)<|Y c.hidden) g b.less:=⟨_,(by
  rw[<-dB.out];have cK:=dx.out;simp only[GS.lg,i3.less,cK];congr 1;omega),cZ⟩
 have bU:=GK.less k (bT.le<|R_ _) (by have:=bx.hid;exact this) (by have:=bx.sR;exact this);have aF:=bw.trans<|GP.more bx;have NY:=bA.trans<|cC.Ar 7<|Y c.hidden;have cc:iG b.less.l a.l.length=21:=(((bv.trans dI).2 _ X).trans N3);have cJ:iG b.less.l f.l.length=12:=(dI.2 _ X).trans dm;have c3:f.l.length<b.less.l.length:=by have:=dI.1;show _<b.l.length;omega
 obtain⟨dC,cT⟩:=nm_<|P.setCell (Z g 7)<|Y c.hidden;rw[<-cT]at cb NY |-;generalize c8:b.less=aJ at*
 go_at_call 138;refine(iB base g _ cb<|ov aF.len).mono ?_;rintro e cY⟨rfl,bg,cA⟩;have bV:=bU.jump 11 _ (.inl rfl) cc;have aH:=aF.trans<|GP.put _ ⟨11,0,0,0,a.l.length⟩;have bC:=NY.trans cA;have ch:=((GP.put aJ ⟨11,0,0,0,a.l.length⟩).kp.2 _ X).trans cJ;have cM:f.l.length<(i3.put aJ ⟨11,0,0,0,a.l.length⟩).l.length:=by simp[i3.put];omega
 obtain⟨aj,am,cy,cU,N,bJ⟩:=box1 cY 3 #[Y f.l.length];have o:Ns aj 3 (j_ am) [(f.l.length:Int)]:=jv (n:=1) (s:=1) bJ rfl;have ci:=bg.hF N;go_wp2_with fail;go_at_call 205;refine(mR base g _ 1 1 [(f.l.length:Int)] ci (ov aH.len) o rfl (by intro cl hi;simp at hi;subst hi;exact⟨X,X⟩) X).mono ?_;rintro e dD⟨rfl,bj,cF⟩;have bW:=bV.here f.l.length<|.inr ch;have bZ:=aH.trans<|GP.here _ [(f.l.length:Int)];have bE:=(bC.trans<|.jS N).trans cF;go_wp2;refine en_ ?_;rw[ax.out];exact⟨rfl,_,_,bj,(Gt.jS m).trans bE,bW,bZ.le X⟩
def yx(base g:Nat)(V:QU)(z:Nat)(x:ByteArray)(AE:OA)(cE:Nat)(i:ET)(k:OA)(M:Nat)(f:QW)(T:OA)(cL:Nat)(ls:QW)(v:i3)(q:Int)(p:Nat->Prop)(w:World)(nb:Nat)(aX:vG base g V z)(cg:l8 V z nb f)
 (aR:Sl w 229 8 k f.length<|f.flatMap ST.E) (cO:∀u∈f,jR p w u) (hes:∀e∈[i],EG V 2 e) (bi:Sl w 226 5 AE 1<|[i].flatMap ET.E) (ky:∀u∈[i],kB p w u) (hP:nD w v.pv) (N2:lQ base w g v) (H:GK v q<|z+1) (iS:v.l.length+30*(1+nb)<=100000):
 Calls prog 202 #[q_ g,.agg (ST.mk 6 x jg 0 0 AE cE [i] k M f T cL ls).g_] w (oW base g v (z+1) (30*(1+nb)) w):=by
 refine ig λQ ax=>?_;obtain⟨bG,off,ae⟩:=bi.addr X;subst ae;obtain⟨U,gx,aW,hx,hg,h⟩:=box1 w 229 (ST.mk 6 x jg 0 0 (some<|Z bG off) cE [i] k M f T cL ls).g_;replace h:Bk U gx 229 #[Y 6,.string x,.string jg,Y 0,Y 0,.slice (some<|Z bG off) 1 cE,.slice k f.length M,.slice T ls.length cL]:=h;obtain⟨A,F,K,D,J,L,E,R⟩:=h.jd;have b9:=Gt.refl base gT U;have j:=N2.hF hg;have a7:=O<|bi.hF hg;replace ky:=λu y=>(ky u y).hF hg;have bz:=hP.gt (.jS hg:Gt base gT w U);have ct:=aR.hF hg;have cr:=λu y=>(cO u y).hF hg;have W:=GP.refl v;go_enter func202,ntmps202;go_wp2_with fail;go_at_call 204;refine(lz base g _ j H.v1).mono ?_;rintro e w1⟨r,bF,bB,rfl,rfl⟩;go_wp2_with fail;go_at_call 136;refine(mO base g j (ov W.len) H.sb.1 (by have:=H.sb.2;have:=W.len;omega)).mono ?_;rintro e dX⟨rfl,t,cQ⟩;have cw:=H.mark;have ca:=W.trans<|GP.mark _;have B:=b9.trans cQ;have ag:=mD v.l ⟨21,0,0,0,v.hC⟩ [];have N3:iG v.mark.l v.l.length=21:=ag;have G:v.l.length<v.mark.l.length:=by simp[i3.mark]
 generalize aQ:v.mark=ah at*;obtain⟨A,F,K,D,J,L,E,R⟩:=(h.gt B I).jd;obtain⟨az,c1,ai,aG,c4⟩:=ET.ats (a7.out.gt B I) rfl 0 s_;simp only[IA,Id,HL]at az c1 ai aG c4;go_wp2_with fail;go_at_call 203;refine(pj base g V 2 i (hes _ s_) 0 _ _ _ p _ X X ((ky _ s_).gt B I) t cw (by have:=ca.len;show _+7<=100000;omega)).mono ?_;rintro e cD⟨rfl,c,dW,cX,cR,a2,C⟩;replace C:GP _ c 7:=C;have bw:=ca.trans C;have cu:=B.trans cR;obtain⟨A,F,K,D,J,L,E,R⟩:=(h.gt cu I).jd;go_wp2_with fail;go_at_call 138;refine(iB base g _ cX<|ov bw.len).mono ?_;rintro e d5⟨rfl,dC,dP⟩;have dr:=a2.xd 12<|.inr rfl;have c8:=bw.trans<|GP.put _ ⟨12,0,0,0,0⟩;have m:=cu.trans dP;have dk:iG (i3.put c ⟨12,0,0,0,0⟩).l c.l.length=12:=oM c;have d1:c.l.length<(i3.put c ⟨12,0,0,0,0⟩).l.length:=by simp[i3.put]
 have NZ:rI ah.l (i3.put c ⟨12,0,0,0,0⟩).l:=C.kp.trans (GP.put _ _).kp;generalize cN:i3.put c ⟨12,0,0,0,0⟩=vc at*;obtain⟨A,F,K,D,J,L,E,R⟩:=(h.gt m I).jd;go_wp2_with fail;go_at_call 137;refine(aX nb k _ M f _ _ p _ rfl (ov cg.len) cg (ct.gt m I) (λu y=>(cr u y).gt m I I) (by rw[c8.pv];exact bz.gt m) dC (dr.le X)<|ov c8.len).mono ?_;rintro e er⟨rfl,b,d,dD,bZ,al,a⟩;have dt:=GK.of dr a<|al.le<|R_ _;have c9:=c8.trans a;have cJ:=m.trans bZ;have dm:=(a.kp.2 _ X).trans dk;have cI:c.l.length<b.l.length:=ov a.kp.1;have an:=NZ.trans a.kp;have ao:=(an.2 _ X).trans N3;obtain⟨A,F,K,D,J,L,E,R⟩:=(h.gt cJ I).jd;go_wp2_with fail;go_at_call 138;refine(iB base g _ dD<|ov c9.len).mono ?_;rintro e dY⟨rfl,dE,dQ⟩;have dJ:=dt.jump 11 _ (.inl rfl) ao;have db:=c9.trans<|GP.put _ ⟨11,0,0,0,v.l.length⟩;have dH:=cJ.trans dQ;have ap:=((GP.put b ⟨11,0,0,0,v.l.length⟩).kp.2 _ X).trans dm;have cM:c.l.length<(i3.put b ⟨11,0,0,0,v.l.length⟩).l.length:=by simp[i3.put];omega
 obtain⟨aj,am,cy,cU,N,bJ⟩:=box1 dY 3 #[Y c.l.length];have o:Ns aj 3 (j_ am) [(c.l.length:Int)]:=jv (n:=1) (s:=1) bJ rfl;have ar:=dE.hF N;go_wp2_with fail;go_at_call 205;refine(mR base g _ 1 1 [(c.l.length:Int)] ar (ov db.len) o rfl (by intro au hi;simp at hi;subst hi;exact⟨X,X⟩) X).mono ?_;rintro e et⟨rfl,dF,dR⟩;have dK:=dJ.here c.l.length<|.inr ap;have dM:=db.trans<|GP.here _ [(c.l.length:Int)];have dI:=(dH.trans<|.jS N).trans dR;exact MF
end
section
variable{G:Prop}{n o:Int}{s:ByteArray}{base m:Nat}{V l:QU}{T:List TypeId}{B:Bool}{q:Nat->Prop}{w':World}{PA:OA}(d:Nat)
def Jx(h:G:=by
 have bP:=O<|a8 nb PA pc fs VA vc vs t.AB _ t.cB t.bs p wc X rfl hb cq.out (by rw[h.out];exact ao) (Sl.hF da.out N3) (l.out.hF N3) (Sl.hF E bg) λu hu=>(bl u hu).hF bg;rw[h.out]at bP;go_wp2_with fail;go_at_call 172;refine bP.out.mono ?_;rintro e T⟨rfl,NZ⟩;have x:=bg.trans NZ;have bZ:=N3.trans NZ;have br:T.cell? (Z gx 0)=some (.slice PA 3 pc):=(C.hF bZ).f_ 0;have aT:=H.hF NZ;clear U af ay aS ak bL ad y ca;obtain⟨U,af,ay,aS,ak,bL,ad,y⟩:=aT.jd;have o:=O<|a8 nl PA pc fs VA vc vs t.AL _ t.cL t.ls p T X rfl hl cq.out (by rw[h.out];exact ao) (Sl.hF da.out bZ) (l.out.hF bZ) (Sl.hF cv x) λu hu=>(M u hu).hF x;rw[h.out]at o;go_wp2_with fail;go_at_call 172;refine o.out.mono ?_;rintro e NY⟨rfl,ah⟩;go_wp2;go_roundw
 case rel=>
  have aC:=ar.out;have av:=q.out;have bO:=aG.out;exact⟨k+1,a+G,b2,X,gn,X,bj.out,bZ.trans ah⟩
 case measure=>exact mz):G:=h
def JV(h:G:=by
 clear hf;go_upto_region 18 with(go_at_call 170;refine N0.out.mono ?_;rintro e ae⟨rfl,S⟩);obtain⟨bf,off,A1,c1,aw,ai,s,bz,bX⟩:=((l.out.hF hg1).hF S).qt;have bB:ae.cell? (Z gx 0)=some (.slice PA 3 pc):=(C.hF<|hg1.trans S).f_ 0;have bu:=(au.hF S).jd.2.2.2.2.2.1;rw[HM.out]at bu;rw[s]at bB;clear U af ay aS ak bL ad y ca s;go_quiet (fail);go_wp2;go_meet;exact S.trans<|(G_ [] _).drewN _):G:=h
def MD(h:G:=by
 have h3:(i+1:Int)*nb d<=m*nb d:=Ii X<|ov j.out;rw[Int.add_mul,Int.one_mul]at h3;omega):G:=h
def MN(h:G:=by
 have h1:=bB.out;have h2:=r.out;have h3:(i:Int)*nb d<=m*nb d:=Ii X<|ov j.out;omega):G:=h
def MY(h:G:=by
 go_wp2;go_quiet (fail);go_wp2;go_meet;exact⟨rfl,rfl,rfl,(G_ [] _).drewN _⟩):G:=h
def nb:Nat->Int|0=>1|d+1=>1+2*nb d
def yu:1<=nb d:=by induction d with|zero=>decide|succ d a=>unfold nb;omega
def Fv(d:Nat)(w:World)(e:Ending)(w':World):Prop:=∃N:Int,1<=N/\N<=nb d/\e=.returned (Y N)/\J [] w w'
def F8(d:Nat)(p:Nat->Prop)(t:ET):Prop:=∀(left:Int) (w:World),nb d<=left->left<=16->kB p w t->Calls prog 223 #[.agg t.g_,Y left] w (Fv d w)
inductive Kd:Int->Int->ByteArray->Int->Nat->Prop
 |num (n:Int):Kd 1 n jg 0 0
 |var (s:ByteArray) (h:mG s):Kd 3 0 s 0 0
 |new (n:Int) (h0:0<=n) (h1:n<=3):Kd 6 n jg 0 0
 |field (n:Int) (h0:0<=n) (h1:n<=2):Kd 4 n jg 0 1
 |bin (o:Int) (h0:1<=o) (h1:o<=11):Kd 5 0 jg o 2
def Kd.Gy{k:Int}(h:Kd k n s o m):m<=2:=by cases h<;>omega
def zf:jg.toList=[]:=by rw[Il];rfl
def tY(p:Nat->Prop)(k n:Int)(s:ByteArray)(o:Int)(A:OA)(c:Nat)(l:QF)(F:Int)(hD:F<=7)(H:Kd k n s o l.length)(hl:∀u∈l,F8 d p u)(left:Int)(w:World)(N:1+l.length*nb d<=left)(V:left<=16)(z:1+l.length*nb d<=F)(Q:kB p w<|.mk k n s o A c l):
 Calls prog 223 #[.agg (ET.mk k n s o A c l).g_,Y left] w λe w'=>∃a:Int,1<=a/\a<=F/\e=.returned (Y a)/\J [] w w':=by
 refine ig λad ax=>?_;have U:=yu d;have b5:l.length<=2:=H.Gy;have M:Sl w 226 5 A l.length (l.flatMap ET.E):=by cases Q with|mk ae P _ _ _=>exact P
 have B:∀u∈l,kB p w u:=by cases Q with|mk ae _ _ _ P=>exact P
 have N0:1<=left:=ov<|Int.mul_nonneg (show(0:Int)<=l.length by omega) (show(0:Int)<=nb d by omega);obtain⟨m,E⟩:=mn_ l.length;obtain⟨ah,aj,aW,hg,f,b⟩:=box1 w 226 (ET.mk k n s o A c l).g_;replace b:Bk ah aj 226 #[Y k,Y n,.string s,Y o,.slice A m c]:=by rw[<-E];exact b
 rw[E]at H b5 M N z;obtain⟨h,v,y,t,x⟩:=b.cells5;have HM:=O E;have a7:=O<|M.hF f;clear E M Q;have hq1:¬left<1:=X;go_enter func223,ntmps223;go_upto_region 2 with(go_at_call 180;refine(rk o).mono ?_;rintro e w1⟨⟨s1,rfl⟩,C⟩);replace b:=b.hF C;replace f:=f.trans C;have G:=O<|a7.out.hF C;clear a7 C h v y t x;obtain⟨h,v,y,t,x⟩:=b.cells5;have al:=zf
 go_upto_block 0 with fail
 go_cut [7,8,9] (λI am c aX=>I=.bool true/\am=Y m/\c=.bool true/\J [] w1 aX)
 case first=>
  rcases H with⟨_⟩|⟨_,K⟩|⟨_,D,h1⟩|⟨_,D,h1⟩|⟨_,D,h1⟩
  .go_wp2;go_meet;exact⟨rfl,rfl,rfl,G_ _ _⟩
  .go_wp2_with (go_at_call 197;refine(nS K).mono ?_;rintro e w2⟨rfl,g⟩;replace b:=b.hF g;clear h v y t x;obtain⟨h,v,y,t,x⟩:=b.cells5);go_meet;exact⟨rfl,rfl,rfl,g⟩
  have h2:n<=16:=X;exact MY;have h2:n<16:=X;exact MY;have L:pX o=true:=by simp[pX];omega
  go_wp2;go_meet;exact⟨rfl,rfl,rfl,G_ _ _⟩
 obtain⟨rfl,rfl,rfl,g⟩:=hcut;replace b:=b.hF g;replace f:=f.trans g;have an:=O<|G.out.hF g;clear G g h v y t x al;obtain⟨h,v,y,t,x⟩:=b.cells5;have ao:=O N;have r:=O z;have j:=O U;clear N z U;go_upto_region 22 with fail;have bH:J [] wc wc:=G_ _ _;go_loopw [10,118] (λI L w'=>∃(k:Nat) (a:Int),k<=m/\L=Y k/\I=Y a/\1<=a/\a<=1+k*nb d/\J [] wc w') (λ_ L _=>m-(intOf L).toNat)
 case atStart=>exact⟨0,1,X,gn,rfl,X,s_,bH⟩
 obtain⟨i,a,hi,rfl,rfl,q,aq,D⟩:=hrel;have bB:=O aq;clear aq;have T:a<=7:=MN;by_cases ag:i<m
 .have K:i<l.length:=ov HM.out;obtain⟨am,off,hA,az,c1,ai,aG,c4⟩:=ET.at_ (by rw[HM.out];exact an.out.hF D) K;have S:=hl l[i]<|P_ K;have R:=(B _<|P_ K).hF f |>.hF D;subst hA;generalize l[i]=u at az c1 ai aG c4 S R;obtain⟨ar,aV,b7,C,N1,au⟩:=box1 wr 226 #[Y u.h7,Y u.n,.string u.name,Y u.op,.slice u.A u.l.length u.c];obtain⟨z0,aM,aU,z3,z4⟩:=au.cells5
  have W:nb d<=left-a:=by
   have h1:=bB.out;have h2:=ao.out;exact MD
  have aN:=O<|S (left-a) ar W X<|R.hF N1;clear S R W;go_wp2_with fail;refine aN.out.mono ?_;rintro e w2⟨Z,av,cx,rfl,aw⟩;have bL:=O cx;have cI:a+Z<=7:=by
   have h1:=bB.out;have h2:=r.out;exact MD
  clear cx;go_wp2;go_roundw
  case rel=>
   refine⟨i+1,a+Z,X,gn,rfl,X,?_,(D.trans N1).trans aw⟩;have h1:=bB.out;have h2:=bL.out;have h3:((i+1:Nat):Int)*nb d=i*nb d+nb d:=by rw[show((i+1:Nat):Int)=(i:Int)+1 by omega,Int.add_mul,Int.one_mul]
   omega
  case measure=>exact mz
 go_wp2;rw[ax.out];refine⟨a,q,?_,rfl,f.trans D⟩;exact MN
def Ai(r:∀s∈V,mG s)(p:Nat->Prop)(d:Nat)(t:ET)(h:EG V d t)(a:d<=2):F8 d p t:=by
 have B:∀d,d<=2->nb d<=7:=by
  intro d a;rcases(by omega:d=0\/d=1\/d=2)with rfl|rfl|rfl<;>decide
 have g:∀(d:Nat) (f n:Int) (s:ByteArray) (o:Int),d<=2->Kd f n s o 0->F8 d p (.mk f n s o none 0 []):=by
  intro d f n s o a v left w c h2 hE;have:=yu d;exact(tY 0 p f n s o none 0 [] 1 X v (λi b=>by cases b) left w p_ h2 s_ hE).mono λH w'⟨x,z,G,A,C⟩=>⟨x,z,X,A,C⟩
 induction h with
 |num d n _ _=>exact g d _ _ _ _ a<|.num n
 |var d s k=>exact g d _ _ _ _ a<|.var s<|r s k
 |new d n e c=>exact g d _ _ _ _ a<|.new n e c
 |field d n j s e c k=>
  intro left w h1' h2 hE;have D:nb (d+1)=1+2*nb d:=rfl;have:=yu d;have:=B (d+1) a;refine(tY d p 4 n jg 0 j 1 [jG s] (nb<|d+1) this (.field n e c) (λi b=>?_) left w p_ h2 p_ hE);have:i=jG s:=zu b;subst this;exact g d _ _ _ _ X<|.var s<|r s k
 |bin d o j y u e c _ _ F E=>
  intro left w h1' h2 hE;have D:nb (d+1)=1+2*nb d:=rfl;have:=B (d+1) a;refine(tY d p 5 0 jg o j 2 [y,u] (nb<|d+1) this (.bin o e c) (λi b=>?_) left w p_ h2 p_ hE);rcases N_.1 b with rfl|b
  exact F X;have:i=u:=zu b;subst this;exact E X
def yE(j:∀s∈V,mG s)(p:Nat->Prop)(t:ET)(h:EG V 2 t)(w:World)(v:kB p w t):
 Calls prog 222 #[.agg t.g_] w λe w'=>e=.returned (.bool true)/\J [] w w':=by
 refine ig λx r=>?_;obtain⟨c,u,C,H,b,a⟩:=box1 w 226 t.g_;replace a:Bk c u 226 #[Y t.h7,Y t.n,.string t.name,Y t.op,.slice t.A t.l.length t.c]:=a;obtain⟨y,D,F,A,E⟩:=a.cells5;have k:=O<|Ai j p 2 t h X 16 c I X<|v.hF b;go_enter func222,ntmps222;go_wp2_with (go_at_call 223;refine k.out.mono ?_;rintro e K⟨g,L,f,rfl,i⟩;have z:g<=16:=Int.le_trans f I;clear f);rw[r.out];exact⟨rfl,b.trans i⟩
def wi(v:Value)(w:World)(e:Ending)(w':World):Prop:=e=.returned v/\J [] w w'
def uE(a2:∀s∈V,mG s)(p:Nat->Prop)(k:Int)(x f:ByteArray)(n o:Int)(E:OA)(S:Nat)(es:QF)(N:OA)(R:Nat)(F:QW)(P:OA)(U:Nat)(K:QW)(B L:Bool)(w:World)(bp:nh V k x f n o es.length B L)(hB:B=false->F=[])(hL:L=false->K=[])(hes:∀e∈es,EG V 2 e)(bi:Sl w 226 5 E es.length<|es.flatMap ET.E)(ky:∀u∈es,kB p w u):
 Calls prog 215 #[.agg (ST.mk k x f n o E S es N R F P U K).g_] w (wi (.bool true) w):=by
 refine ig λae ax=>?_;obtain⟨m,H⟩:=mn_ es.length;rw[H]at bp;have HM:=O H;obtain⟨z,gx,aW,hx,W,a⟩:=box1 w 229 (ST.mk k x f n o E S es N R F P U K).g_;replace a:Bk z gx 229 #[Y k,.string x,.string f,Y n,Y o,.slice E m S,.slice N F.length R,.slice P K.length U]:=by rw[<-H];exact a
 have a7:=O<|bi.hF W;have cW:=O (λu C=>(ky u C).hF W:∀u∈es,kB p z u);clear H bi ky;have ah:=zf;obtain⟨_,eP,aj⟩:=zj;have da:=O eP;have al:=O aj;clear eP aj;rcases bp with⟨_,d⟩|⟨_,du,cT⟩|⟨_,d⟩|⟨_,d⟩|_|⟨_,d⟩|_|_|_|⟨_,d⟩|_|⟨_,d⟩|⟨_,d,_,eV⟩
 all_goals
  (try(have hbs:=hB rfl;subst hbs))
  (try(have hls:=hL rfl;subst hls))
  (try have am:=O<|a2 _ d)
  clear hB hL;(try simp only[Hb]at a);obtain⟨g,j,t,h,r,v,i,y⟩:=a.jd;go_enter func215,ntmps215;go_upto_region 5 with(go_at_call 216;refine(vl _ _ I I).mono ?_;rintro e w'⟨rfl,rfl⟩;simp only[FD.v,prt])
 all_goals
  clear g j t h r v i y;have bX:=HM.out;have bH:J [] z z:=G_ _ _;go_loopw [49] (λQ w'=>∃k:Nat,k<=es.length/\Q=Y k/\J [] z w') (λQ _=>es.length-(intOf Q).toNat)
  case atStart=>exact⟨0,R_ _,gn,bH⟩
  obtain⟨D,hi,rfl,b⟩:=hrel;by_cases A:D<es.length
  .obtain⟨an,off,hA,az,c1,ai,aG,c4⟩:=ET.at_ (a7.out.hF b) A;have c:=hes es[D]<|P_ A;have C:=(cW.out _<|P_ A).hF b;subst hA;generalize es[D]=u at az c1 ai aG c4 c C;obtain⟨ao,aV,b7,hg1,Z,aq⟩:=box1 wr 226 #[Y u.h7,Y u.n,.string u.name,Y u.op,.slice u.A u.l.length u.c];obtain⟨z0,aM,aU,z3,z4⟩:=aq.cells5;have aN:=O<|yE a2 p u c ao<|C.hF Z;have aC:=A;rw[bX]at aC;clear c C;first
    |(exact GR aC X)
    |(go_wp2_with (go_at_call 222;refine aN.out.mono ?_;rintro e M⟨rfl,ar⟩)
      go_roundw;exact⟨D+1,X,gn,(b.trans Z).trans ar⟩;exact mz)
  have Z:¬D<es.length:=A;rw[bX]at Z;replace a:=a.hF b;obtain⟨g,j,t,h,r,v,i,y⟩:=a.jd;(try(have au:n<16:=by omega));(try(have av:pX o=true:=by rcases eV with rfl|rfl|rfl<;>rfl));clear Z bH;go_upto_region 11 with((first|(go_at_call 180;refine(rk _).mono ?_;rintro e M⟨⟨bT,rfl⟩,c⟩)|(go_at_call 197;refine(nS<|by first|exact am.out|exact da.out|exact al.out).mono ?_;rintro e M⟨rfl,c⟩));replace b:=b.trans c;replace a:=a.hF c;clear c g j t h r v i y;obtain⟨g,j,t,h,r,v,i,y⟩:=a.jd);simp only[List.append_eq,Ip,G0];go_wp2_with ((first|(go_at_call 180;refine(rk _).mono ?_;rintro e M⟨⟨bT,rfl⟩,c⟩)|(go_at_call 197;refine(nS<|by first|exact am.out|exact da.out|exact al.out).mono ?_;rintro e M⟨rfl,c⟩));replace b:=b.trans c;replace a:=a.hF c;clear c g j t h r v i y;obtain⟨g,j,t,h,r,v,i,y⟩:=a.jd);rw[ax.out];exact⟨rfl,W.trans b⟩
def Fw(N D:Nat)(w:World)(e:Ending)(w':World):Prop:=∃dp:Int,0<=dp/\dp<=D/\e=.returned (.tuple #[Y N,Y dp,.bool true])/\J [] w w'
def F9(V:QU)(D:Nat):Prop:=∀(N:Nat) (A:OA) (n c:Nat) (ts:QW) (p:Nat->Prop) (w:World),N<=1000->ts.length=n->l8 V D N ts->Sl w 229 8 A n (ts.flatMap ST.E)->(∀u∈ts,jR p w u)->
 Calls prog 198 #[.slice A n c] w (Fw N D w)
def DS(a2:∀s∈V,mG s)(f:Nat)(h:f<=1000)(HD:∀r,f=r+1->F9 V r):F9 V f:=by
 intro t ah n ai w I aj cR hn bW bi ky;refine ig λal ax=>?_;have z:=O hn;have a7:=O bi;have aY:l8 V f t (w.drop 0):=bW;have cn:n<=1000:=ov bW.len;go_enter func198,ntmps198;go_wp2;go_loopw [5,6,17] (λcZ dv A w'=>∃(e g u:Nat) (i:Int),e<=n/\A=Y e/\cZ=Y g/\dv=Y i/\0<=i/\i<=f/\g+u=t/\l8 V f u (w.drop e)/\J [] aj w') (λ_ _ A _=>n-(intOf A).toNat)
 case atStart=>exact⟨0,0,t,0,R_ _,gn,gn,rfl,X,X,X,aY,G_ _ _⟩
 obtain⟨e,g,u,i,hk,rfl,rfl,rfl,bg,cX,hab,v,p⟩:=hrel;have C:=O hab;have am:g<=1000:=X;by_cases ag:e<n
 .have y:e<w.length:=ov z.out;obtain⟨bG,off,hA,z0,aM,aU,z3,z4,z5,cj,cV⟩:=ST.at_ (a7.out.hF p) z.out y;subst hA;rw[W_ y]at v;obtain⟨G,b2,bD,bn,cg⟩:=v.split;have q:=O bD;have Q:=(ky _<|P_ y).hF p;generalize w[e]=a at z0 aM aU z3 z4 z5 cj cV bn Q;obtain⟨r,nb,nl,bt,bA,hD,bC,bp,aP,a6,hes,hb,hl⟩:=bn.one;have P:=HD r hD;have aG:=O bC;obtain⟨p1,an,ao,bl,cv,aq⟩:=Q.parts;have hbl:nb+nl+1<=1000:=by have:=C.out;have:=q.out;omega
  have d:(r:Int)+1=f:=X;have aw:=O d;have aN:=O λN(hg:J [] wr N)=>uE a2 I a.h7 a.name a.fn a.n a.op a.AE a.cE a.es a.AB a.cB a.bs a.AL a.cL a.ls bt bA N bp aP a6 hes (p1.hF hg) λk j=>(an k j).hF hg;obtain⟨az,gx,b7,aJ,K,E⟩:=box1 wr 229 #[Y a.h7,.string a.name,.string a.fn,Y a.n,Y a.op,.slice a.AE a.es.length a.cE,.slice a.AB a.bs.length a.cB,.slice a.AL a.ls.length a.cL];obtain⟨M,U,Z,R,W,bL,S,aA⟩:=E.jd;go_wp2_with fail;go_at_call 215;refine(aN.out az K).mono ?_;rintro aD w2⟨rfl,x⟩;have F:=K.trans x;obtain⟨M,U,Z,R,W,bL,S,aA⟩:=(E.hF x).jd;go_wp2_with fail;go_at_call 198;refine(P nb a.AB _ a.cB a.bs I _ X rfl hb (ao.hF F) λk j=>(bl k j).hF F).mono ?_;rintro aD ae⟨b,aI,aE,rfl,L⟩;have H:=F.trans L;obtain⟨M,U,Z,R,W,bL,S,aA⟩:=(E.hF<|x.trans L).jd;go_wp2_with fail;go_at_call 198;refine(P nl a.AL _ a.cL a.ls I _ X rfl hl (cv.hF H) λk j=>(aq k j).hF H).mono ?_;rintro aD T⟨c,l,m,rfl,NZ⟩;have aH:=H.trans NZ;have ca:0<=(if b<c then c else b)/\(if b<c then c else b)<=1000:=by have bV:=aw.out;split<;>omega
  have oi:wrap64 (1+if b<c then c else b)=1+(if b<c then c else b):=by
   generalize (if b<c then c else b)=aK at ca |-;unfold wrap64;omega
  go_wp2;go_roundw
  case rel=>
   have aC:=C.out;have av:=q.out;have D:=aG.out;have bV:=aw.out;refine⟨e+1,g+G,b2,_,X,gn,by rw[D];go_num,rfl,?_,?_,X,cg,p.trans aH⟩;split<;>(try split)<;>omega;split<;>(try split)<;>omega
  case measure=>exact mz
 go_wp2;rw[ax.out];have aC:u=0:=by
  rw[Hd<|ov z.out]at v;cases v;rfl
 have av:=C.out;have D:g=t:=X;subst D;refine⟨rfl,.tuple #[Y g,Y i,.bool true],?_,i,bg,cX,rfl,p⟩
 kernel_rfl
def BX{V:QU}(b:∀s∈V,mG s):∀a,a<=1000->F9 V a
 |0,_=>DS b 0 X λr h=>by omega
 |a+1,h=>DS b (a+1) X λr c=>by
  have e:r=a:=X;subst e;exact BX b r X
structure Nm(V l l':QU):Prop where
 sub:∀x∈l,x∈l'
 new:∀x∈l',x∈l\/x∈V
 nd:l.Nodup->l'.Nodup
def Nm.refl(V l:QU):Nm V l l:=⟨λ_ a=>a,λ_ a=>.inl a,λa=>a⟩
def Nm.trans{f b c:QU}(h:Nm V f b)(k:Nm V b c):Nm V f c:=⟨λa e=>k.sub a<|h.sub a e,λa e=>(k.new a e).elim (h.new a) .inr,λg=>k.nd<|h.nd g⟩
def ba_eq{x:ByteArray}(h:x.toList=s.toList):x=s:=by
 rw[Il,Il]at h;cases x;cases s
 congr 1;exact Array.toList_inj.1 h
def rq:hasB l s=true↔s∈l:=by
 unfold hasB;rw[List.any_eq_true];constructor;rintro⟨c,b,a⟩;have:c=s:=ba_eq<|zu a;rw[<-this];exact b;intro a;exact⟨s,a,s_⟩
def Nm.add(k:s∈V):Nm V l (rE l s):=by
 unfold rE;by_cases b:hasB l s=true;rw[L_ b];exact .refl _ _;rw[K_ b];have j:s∉l:=λi=>b<|rq.2 i;refine⟨λc a=>GZ _ a,λc a=>?_,λh=>?_⟩;rcases X_.1 a with a|a
 .exact .inl a
 have:c=s:=zu a;subst this;exact .inr k;rw[HR];refine⟨h,s_,λp f e g=>?_⟩;have:e=s:=zu g;subst this;rintro rfl;exact j f
def xH:s∈rE l s:=by
 unfold rE;by_cases a:hasB l s=true;rw[L_ a];exact rq.1 a;rw[K_ a];simp
inductive n8(L:QU):List ST->Prop
 |nil:n8 L []
 |cons (t:ST) (l:QW) (h:(prt t.h7).name=true->t.name∈L) (hb:n8 L t.bs) (hl:n8 L t.ls) (hr:n8 L l):n8 L<|t::l
def n8.mono{L M:QU}{l:QW}(h:n8 L l)(e:∀x∈L,x∈M):n8 M l:=by
 induction h with
 |nil=>exact .nil
 |cons f l h g i j a d c=>exact .cons f l (λb=>e _<|h b) a d c
def n8.append{L:QU}{l m:QW}(h:n8 L l)(k:n8 L m):n8 L (l++m):=by
 induction h with
 |nil=>exact k
 |cons e l h b c f _ _ a=>exact .cons e _ h b c a
def Fp(base:Nat)(V l:QU)(ts:QW)(w:World)(e:Ending)(w':World):Prop:=∃(A:OA) (c:Nat) (l':QU),e=.returned (.slice A l'.length c)/\qx base w' A c l'/\Nm V l l'/\n8 l' ts/\Gt base [9] w w'
def F2(base:Nat)(V:QU)(D:Nat):Prop:=∀(N:Nat) (A:OA) (n c:Nat) (l:QU) (B:OA) (m d:Nat) (ts:QW) (p:Nat->Prop) (w:World),N<=1000->l.length=n->ts.length=m->m<=100000->l.Nodup->(∀x∈l,x∈V)->l8 V D N ts->qx base w A c l->base<=w.heap.size->Sl w 229 8 B m (ts.flatMap ST.E)->(∀u∈ts,jR p w u)->
 Calls prog 174 #[.slice A n c,.slice B m d] w (Fp base V l ts w)
open Classical in
def lE:∀(l m:QU),l.Nodup->(∀x∈l,x∈m)->l.length<=m.length
 |[],_,_,_=>by simp
 |x::l,m,h,c=>by
  have i:=c x s_;have b:=H5.1 h;obtain⟨j,k,rfl⟩:=List.append_of_mem i;have:=lE l (j++k) b.2 λf e=>by
   have g:f≠x:=by rintro rfl;exact b.1 e
   have:=c f (by simp[e]);simp only[X_,N_]at this |-
   rcases this with a|a|a
   exact .inl a;exact GR a g;exact .inr a
  simp only[GI,M_]at this |-;omega
def Gt.Fa{b w:World}{M:QY}(h:J M b w)(z:∀g∈M,base<=g/\∃cs t,Bk b g t cs/\t∈T):Gt base T b w:=
 ⟨h.os,h.tape,h.output,h.size,λc i a=>h.block c i λj=>by
   obtain⟨k,cs,t,e,f⟩:=z c j;rcases a with a|a
   omega;exact a _ _ _ e f⟩
def nh.nm{k:Int}{x f:ByteArray}{L:Bool}(h:nh V k x f n o m B L)(a:(prt k).name=true):x∈V:=by
 cases h with
 |we x h|xx x h|xw x h|Bw x h|CX x h|ask x h|red x h=>assumption
 |FI|E2|FH|ret|FF|FN=>simp[prt]at a
def nh.kr{k:Int}{x f:ByteArray}{L:Bool}(h:nh V k x f n o m B L):1<=k/\k<=12:=by cases h<;>decide
def DL(base:Nat)(V:QU)(bF:V.length<=1000)(D:Nat)(HD:∀r,D=r+1->F2 base V r):F2 base V D:=by
 intro Q al n an l B m d p aq au ae hn hm cC s N0 bW az aE bi ky;refine ig λaw ax=>?_;subst hn;have HM:=O hm;have aA:=bi;have a7:=O aA;have aY:l8 V D Q (p.drop 0):=bW;clear hm bi aA;go_enter func174,ntmps174;go_wp2;go_loopw [0,9] (λov U w'=>∃(c:Nat) (A':OA) (c':Nat) (L:QU) (aC aD:Nat),c<=m/\U=Y c/\ov=.slice A' L.length c'/\qx base w' A' c' L/\Nm V l L/\n8 L (p.take c)/\Gt base [9] au w'/\aC+aD=Q/\l8 V D aD (p.drop c)) (λ_ U _=>m-(intOf U).toNat)
 case atStart=>exact⟨0,al,an,l,0,Q,R_ _,gn,gn,az,.refl _ _,.nil,.refl _ _ _,X,aY⟩
 obtain⟨c,M,c1,C,a1,b1,hk,rfl,rfl,bB,J,bR,x,hab,W⟩:=hrel;have ar:=O hab;clear aY hab;by_cases ag:c<m
 .have H:c<p.length:=ov HM.out;obtain⟨bG,off,hA,z0,aM,aU,z3,z4,z5,cj,cV⟩:=ST.at_ (a7.out.gt x I) HM.out H;subst hA;rw[W_ H]at W;obtain⟨G,b2,bD,bn,cg⟩:=W.split;have q:=O bD;have aB:=(ky _<|P_ H).gt x I I;obtain⟨a,ht⟩:=nm_<|p[c];have bS:=O ht;rw[<-ht]at z0 aM aU z3 z4 z5 cj cV bn aB;clear W bD ht;obtain⟨r,nb,nl,bt,bA,hD,bC,bp,_,_,_,hb,hl⟩:=bn.one;have a8:=HD r hD;obtain⟨_,_,N,bl,cv,P⟩:=aB.parts;obtain⟨bY,bq⟩:=bp.kr;have d7:=bp.nm;have hbl:=hb.len;have bN:=hl.len;have cn:nb<=1000/\nl<=1000:=by
   have:=ar.out;have:=q.out;have:=ae;omega
  have aH:=J.nd s;have aI:=λg A=>(J.new g A).elim (N0 g) id;have hl1:=H_ (lE C V aH aI) bF;clear hD bC bp bn;obtain⟨F,gx,b7,aJ,i,z⟩:=box1 wr 229 #[Y a.h7,.string a.name,.string a.fn,Y a.n,Y a.op,.slice a.AE a.es.length a.cE,.slice a.AB a.bs.length a.cB,.slice a.AL a.ls.length a.cL];obtain⟨aK,af,ay,aS,ak,bL,S,aL⟩:=z.jd;have R:=iO bB i;replace N:=Sl.hF N i;replace bl:=λt k=>(bl t k).hF i;replace cv:=Sl.hF cv i;replace P:=λt k=>(P t k).hF i;have bT:=x.trans (.jS i:Gt base [9] wr F);have bu:=H_ aE<|(x.trans (.jS i:Gt base [9] wr F)).size;have aZ:=O d7;clear d7;go_upto_if 15 with(go_at_call 200;refine(w7 bY bq).mono ?_;rintro e w2⟨rfl,rfl⟩)
  go_cut [0] (λov aX=>∃(v:OA) (u:Nat) (w:QU),ov=.slice v w.length u/\qx base aX v u w/\Nm V C w/\((prt a.h7).name=true->a.name∈w)/\Gt base [9] F aX)
  case first=>
   cases b:(prt a.h7).name with
   |true=>
    have y:=O<|vC base M c1 C a.name F rfl R X bu;have f:=O b;clear b;go_wp2_with (go_at_call 173;refine y.out.mono ?_;rintro e w2⟨v,u,rfl,aO,j⟩);go_meet;refine⟨v,u,_,rfl,aO,.add<|aZ.out f.out,λ_=>xH,(.Fa j λaR hg=>?_)⟩;obtain⟨K,E,h2⟩:=rg R<|jQ.1 hg;exact⟨K,E,_,h2,s_⟩
   |false=>
    have f:=O b;clear b;go_wp2;go_meet;exact⟨M,c1,C,rfl,R,.refl _ _,λe=>GR (e.symm.trans f.out) I,.refl _ _ _⟩
  obtain⟨v,u,w,rfl,aO,dF,bV,j⟩:=hcut;have N2:=dF.nd aH;have aV:=λg A=>(dF.new g A).elim (aI g) id;replace z:=z.gt j I;clear aK af ay aS ak bL S aL;obtain⟨aK,af,ay,aS,ak,bL,S,aL⟩:=z.jd;go_upto_region 6 with fail;refine hS (λw'=>w'.cell? (Z gx 6)=some (.slice a.AB a.bs.length a.cB)/\w'.cell? (Z gx 7)=some (.slice a.AL a.ls.length a.cL)) 7 k_ ?_;refine m6 ⟨S,aL⟩ λb=>?_;refine iC 0 b ?_;refine iC 1 b ?_;refine iC 2 b ?_;refine iC 4 b ?_;refine iC 5 b ?_;refine h4 3 λy f=>?_;go_simp;go_at_call 174;refine(a8 nb v _ u w a.AB _ a.cB a.bs aq _ cn.1 rfl rfl X N2 aV hb (iO aO (G_ [] _).drew) (H_ bu j.size) (Sl.hF (N.gt j I) (G_ [] _).drew) λt k=>((bl t k).gt j I I).hF (G_ [] _).drew).mono ?_;rintro e T⟨aP,c4,aW,rfl,am,E,b9,NZ⟩;have K:=j.trans<|(Gt.jS (G_ [] wc).drew).trans NZ;have bP:=z.gt ((Gt.jS (G_ [] wc).drew).trans NZ) I;have aj:=E.nd N2;have ao:=λg A=>(E.new g A).elim (aV g) id;clear b;refine hZ f ⟨bP.f_ 6,bP.f_ 7⟩ λb=>?_;clear f y;refine h4 6 λy f=>?_;go_simp;go_at_call 174;refine(a8 nl aP _ c4 aW a.AL _ a.cL a.ls aq _ cn.2 rfl rfl X aj ao hl am (H_ bu K.size) (cv.gt K I) λt k=>((P t k).gt K I I)).mono ?_;rintro e NY⟨a6,c5,dC,rfl,a2,bZ,o,ah⟩;have ai:=K.trans ah;have b4:=bP.gt ah I;clear b;refine hZ f ⟨b4.f_ 6,b4.f_ 7⟩ λb=>?_;clear f y;refine h4 7 λy f=>?_;go_simp;refine f.out _ _ (λh=>GR h I) ?_;clear f y b;refine hN k_ ?_ _;go_wp2;go_roundw
  case rel=>
   have bd:=(dF.trans E).trans bZ;refine⟨c+1,a6,c5,dC,a1+G,b2,X,gn,gn,a2,J.trans bd,?_,bT.trans ai,by have:=ar.out;have:=q.out;omega,cg⟩;rw[Y_ H,<-bS.out];exact(bR.mono bd.sub).append<|.cons a [] (λe=>bZ.sub _<|E.sub _<|bV e) (b9.mono bZ.sub) o .nil
  case measure=>exact mz
 go_wp2;rw[ax.out];refine⟨M,c1,C,rfl,bB,J,?_,x⟩;have e:p.take c=p:=GY<|ov HM.out;rw[e]at bR;exact bR
def Bb(base:Nat)(V:QU)(b:V.length<=1000):∀a,F2 base V a
 |0=>DL base V b 0 λr h=>by omega
 |a+1=>DL base V b (a+1) λr h=>by
  have e:r=a:=X;subst e;exact Bb base V b r
def Fq(V ps:QU)(bs:QW)(w:World)(e:Ending)(w':World):Prop:=∃(A:OA) (c:Nat) (l:QU),e=.returned (.slice A l.length c)/\Bs w' A l/\l.Nodup/\(∀x∈l,x∈V)/\(∀x∈ps,x∈l)/\n8 l bs/\J [] w w'
structure DK(q:Nat->Prop)(w:World)(f:FT):Prop where
 hp:Bs w f.AP f.ps
 wm:f.ps.length<=f.cP
 hb:Sl w 229 8 f.A f.bs.length<|f.bs.flatMap ST.E
 hs:∀t∈f.bs,jR q w t
def DK.hF{w:World}{f:FT}(h:DK q w f)(a:J [] w w'):DK q w' f:=⟨Sl.hF h.hp a,h.wm,Sl.hF h.hb a,λc b=>(h.hs c b).hF a⟩
def DK.gt{w:World}{f:FT}(h:DK q w f)(a:Gt base T w w')(c:9∉T)(e:226∉T)(b:229∉T):DK q w' f:=⟨Sl.gt h.hp a c,h.wm,Sl.gt h.hb a b,λi g=>(h.hs i g).gt a e b⟩
def FT.g_(f:FT):Array Value:=#[.string f.name,.slice f.AP f.ps.length f.cP,.slice f.A f.bs.length f.c]
def tB(V:QU)(bF:V.length<=1000)(N p:Nat)(f:FT)(q:Nat->Prop)(w:World)(U:DK q w f)(bW:l8 V N p f.bs)(bC:p<=1000)(l:∀x∈f.ps,x∈V)(bU:f.ps.length<=1000):
 Calls prog 135 #[.agg f.g_] w (Fq V f.ps f.bs w):=by
 refine ig λae ax=>?_;have hbl:=bW.len;obtain⟨g,D,aW,a,j,i⟩:=box1 w 213 f.g_;replace i:Bk g D 213 #[.string f.name,.slice f.AP f.ps.length f.cP,.slice f.A f.bs.length f.c]:=i;have S:g.cell? (Z D 1)=some (.slice f.AP f.ps.length f.cP):=i.f_ 1;have R:=O<|U.hF j;obtain⟨n,H⟩:=mn_ f.ps.length;have Q:=O H;rw[H]at S bU;clear H U;obtain⟨base,P⟩:=nm_ g.heap.size;have cG:base<=g.heap.size:=X;have C:=O P;clear P;go_enter func135,ntmps135;go_wp2;clear S aW a;go_loopw [3,9] (λov y w'=>∃(b:Nat) (L:OA) (c':Nat) (k:QU),b<=n/\y=Y b/\ov=.slice L k.length c'/\qx base w' L c' k/\Nm V [] k/\(∀x∈f.ps.take b,x∈k)/\Gt base [9] g w') (λ_ y _=>n-(intOf y).toNat)
 case atStart=>exact⟨0,none,0,[],R_ _,gn,rfl,i4 _ _ _ _,.refl _ _,s_,.refl _ _ _⟩
 obtain⟨b,M,c1,K,hk,rfl,rfl,A,h,bR,c⟩:=hrel;have ah:=h.nd .nil;have ai:=λx a=>(h.new x a).elim (λE=>by cases E) id;have hl1:=H_ (lE K V ah ai) bF;have be:=H_ cG c.size;by_cases ag:b<n
 .have t:b<f.ps.length:=ov Q.out;obtain⟨aj,off,F,hc⟩:=Sl.f_ (Sl.hF R.out.hp<|c.gr<|by rw[C.out];exact I_ _) X;have W:=hc b (.string f.ps[b]) (by rw[Hg,O_ t];rfl);have d:=l _<|P_ t;obtain⟨x,a⟩:=nm_<|f.ps[b];have bH:=O a;have v:=O<|vC base M c1 K x wr rfl A X be;have HA:=O F;rw[<-a]at W d;clear a hc;rw[F];clear F;go_wp2_with (go_at_call 173;refine v.out.mono ?_;rintro ak w2⟨z,u,rfl,J,r⟩);go_roundw
  case rel=>
   refine⟨b+1,z,u,_,X,gn,gn,J,h.trans<|.add d,λal e=>?_,c.trans<|.Fa r λam j=>?_⟩;rw[Y_ t,<-bH.out]at e;rcases X_.1 e with e|e
   exact(Nm.add (V:=V) d).sub _<|bR al e;have:al=x:=zu e;subst this;exact xH;obtain⟨h1,cs,h2⟩:=rg A<|jQ.1 j;exact⟨h1,cs,_,h2,s_⟩
  case measure=>exact mz
 have br:=i.gt c I;have W:wr.cell? (Z D 2)=some (.slice f.A f.bs.length f.c):=br.f_ 2;have t:=O (R.out.hF<|c.gr<|by rw[C.out];exact I_ _);have v:=O<|Bb base V bF N p M _ c1 K f.A _ f.c f.bs q wr bC rfl rfl X ah ai bW A be t.out.hb t.out.hs;go_wp2_with (go_at_call 174;refine v.out.mono ?_;rintro ak w2⟨z,u,cT,rfl,J,F,cy,r⟩);rw[ax.out];have e:=h.trans F;refine⟨z,u,cT,rfl,J.bs,e.nd .nil,λx a=>(e.new x a).elim (λE=>by cases E) id,λx a=>F.sub _<|bR x ?_,cy,j.trans<|(c.trans r).gr<|by rw[C.out];exact I_ _⟩;rw[GY<|ov Q.out];exact a
structure PG(V:QU)(q:Nat->Prop)(w:World)(PA:OA)(fs:QG)(Ns:QY):Prop where
 hfs:CK w PA fs
 len:fs.length=3
 rd:∀f∈fs,DK q w f
 nm:∀f∈fs,mG f.name/\(∀x∈f.ps,x∈V)/\f.ps.length<=2
 nl:Ns.length=3
 sg:∀(k:Nat) (h:k<fs.length) (h2:k<Ns.length),l8 V 5 Ns[k] fs[k].bs
 sum:Ns.sum<=64
def PG.hF{w:World}{fs:QG}{Ns:QY}(h:PG V q w PA fs Ns)(a:J [] w w'):PG V q w' PA fs Ns:=
 ⟨Sl.hF h.hfs a,h.len,λb c=>(h.rd b c).hF a,h.nm,h.nl,h.sg,h.sum⟩
def pJ(Ns:QY)(k:Nat)(h:k<Ns.length):(Ns.take<|k+1).sum=(Ns.take k).sum+Ns[k]/\(Ns.take<|k+1).sum<=Ns.sum:=by
 have a:(Ns.take<|k+1).sum=(Ns.take k).sum+Ns[k]:=by rw[Y_ h,List.sum_append];simp
 refine⟨a,?_⟩;have b:=GG List.sum<|HE (k+1) Ns;rw[List.sum_append]at b;omega
def yb(H:∀s∈V,mG s)(q:Nat->Prop)(PA:OA)(c:Nat)(fs:QG)(Ns:QY)(w:World)(hP:PG V q w PA fs Ns):
 Calls prog 169 #[.agg #[.slice PA 3 c]] w (wi (Y 0) w):=by
 refine ig λae ax=>?_;obtain⟨E,gx,M,hx,hg,hB⟩:=box1 w 150 #[.slice PA 3 c];have f:E.cell? (Z gx 0)=some (.slice PA 3 c):=hB.f_ 0;have e:=O<|hP.hF hg;clear hP;go_enter func169,ntmps169;go_wp2;have bo:=O M;clear f M hx;go_loopw [3,4,25] (λm l g w'=>∃a:Nat,a<=3/\g=Y a/\m=.bool false/\l=Y ((Ns.take a).sum:Nat)/\J [] E w') (λ_ _ g _=>3-(intOf g).toNat)
 case atStart=>exact⟨0,X,gn,rfl,s_,G_ _ _⟩
 obtain⟨a,hk,rfl,rfl,rfl,F⟩:=hrel;by_cases ag:a<3
 .have r:a<fs.length:=ov e.out.len;have N:a<Ns.length:=ov e.out.nl;obtain⟨ah,off,hA,z0,K,L⟩:=CK.at_ (e.out.hF F).hfs r;subst hA;have C:=(e.out.hF F).rd _<|P_ r;obtain⟨hn1,I,bV⟩:=e.out.nm _<|P_ r;have t:=e.out.sg a r N;obtain⟨S,eG⟩:=pJ Ns a N;have x:=e.out.sum;have aj:=O hn1;have P:=O I;have co:=O S;have W:(Ns.take a).sum+Ns[a]<=64:=X;obtain⟨b,hf⟩:=nm_<|fs[a];obtain⟨ak,D⟩:=nm_<|Ns[a];have HM:=O D;rw[<-hf]at z0 K L C aj P bV t;rw[<-D]at t W;obtain⟨al,y⟩:=nm_<|(Ns.take a).sum;have am:=O y;rw[<-y]at W |-;clear S eG x hn1 I hf D y;have z:=O C;have cY:=O t;clear C t;obtain⟨an,aV,b7,hg1,N1,i⟩:=box1 wr 213 #[.string b.name,.slice b.AP b.ps.length b.cP,.slice b.A b.bs.length b.c];obtain⟨f,k,h⟩:=i.nW
  go_upto_region 9 with(go_at_call 197;refine(nS aj.out).mono ?_;rintro U w2⟨rfl,v⟩;replace i:=i.hF v;clear f k h;obtain⟨f,k,h⟩:=i.nW);have bT:=N1.trans v;clear v f k h;go_loopw [36] (λg w'=>∃j:Nat,j<=b.ps.length/\g=Y j/\J [] w2 w') (λg _=>b.ps.length-(intOf g).toNat)
  case atStart=>exact⟨0,X,gn,G_ _ _⟩
  obtain⟨j,hj,rfl,A⟩:=hrel;have p:=bT.trans A;obtain⟨n,u⟩:=nm_ b.ps.length;have ao:=O u;have ad:n<=2:=X;by_cases R:j<b.ps.length
  .obtain⟨b2,aq,B,hc⟩:=Sl.f_ (z.out.hF p).hp X;have h:=hc j (.string b.ps[j]) (by rw[Hg,O_ R];rfl);have d:=P.out _<|P_ R;have Q:=O<|H _ d;generalize b.ps[j]=ar at h Q;rw[B]at*;clear hc u B d;go_wp2_with (go_at_call 197;refine(nS Q.out).mono ?_;rintro U T⟨rfl,NZ⟩);exact Nc
  rw[<-u]at*;clear u;obtain⟨f,k,h⟩:=(i.hF A).nW;have aN:=O<|BX H 5 X ak b.A _ b.c b.bs q _ X rfl cY.out (z.out.hF p).hb (z.out.hF p).hs;go_wp2_with fail;go_at_call 198;refine aN.out.mono ?_;rintro U T⟨dp,aY,Q,rfl,NZ⟩;obtain⟨z0,K,L⟩:=(i.hF<|A.trans NZ).nW;have cX:dp<=5:=Q;clear f k h Q;go_wp2;go_roundw
  case rel=>
   refine⟨a+1,X,gn,by rw[H4 X],?_,(F.trans p).trans NZ⟩;rw[co.out,<-am.out,<-HM.out];go_num
  case measure=>exact mz
 have b:a=3:=X;have x:(Ns.take a).sum<=64:=by
  rw[GY<|ov e.out.nl];exact e.out.sum
 generalize (Ns.take a).sum=al at x |-;exact NB
def Ft(V:QU)(w:World)(e:Ending)(w':World):Prop:=∃(A:OA) (c:Nat) (l:QU),e=.returned (.slice A l.length c)/\Bs w' A l/\(∀x∈l,x∈V)/\l.length<=V.length/\(∀x off,A=some (Z x off)->0<l.length->w.heap.size<=x)/\J [] w w'
def F7(V:QU)(p:Nat->Prop)(t:ET):Prop:=∀w:World,kB p w t->Calls prog 199 #[.agg t.g_] w (Ft V w)
def vk(V:QU)(bF:V.length<=1000)(p:Nat->Prop)(k n:Int)(s:ByteArray)(o:Int)(A:OA)(c:Nat)(l:QF)(hk:k=3->s∈V)(c3:l.length<=2)(hl:∀u∈l,F7 V p u):F7 V p (.mk k n s o A c l):=by
 intro al hE;refine ig λan ax=>?_;obtain⟨i2,aA,cp,ck,cv⟩:=info_parts infoStr;have bi:Sl al 226 5 A l.length (l.flatMap ET.E):=by cases hE with|mk bd t _ _ _=>exact t
 have B:∀u∈l,kB p al u:=by cases hE with|mk bd _ _ _ t=>exact t
 obtain⟨m,hm⟩:=mn_ l.length;obtain⟨j,gx,aW,y,hg,hB⟩:=box1 al 226 (ET.mk k n s o A c l).g_;replace hB:Bk j gx 226 #[Y k,Y n,.string s,Y o,.slice A m c]:=by rw[<-hm];exact hB
 rw[hm]at bi c3;obtain⟨bf,af,ay,aS,ak⟩:=hB.cells5;have HM:=O hm;have a7:=O<|bi.hF hg;have cW:=O (λu L=>(B u L).hF hg:∀u∈l,kB p j u);clear hm bi B hE;obtain⟨base,aE⟩:=nm_ j.heap.size;have cG:base<=j.heap.size:=X;have cF:al.heap.size<=base:=ov hg.size;have da:=O aE;clear aE;go_enter func199,ntmps199;go_upto_region 2 with fail;go_upto_if 10 with fail
 go_cut [3] (λov aX=>∃(P:OA) (c1:Nat) (M:QU),ov=.slice P M.length c1/\qx base aX P c1 M/\Nm V [] M/\J [] j aX)
 case first=>
  by_cases a:k=3
  .have g:(k==3)=true:=by simp[a]
   have r:=O<|hk a;clear hk a;obtain⟨b,bh,F,H,e,z⟩:=box1 j 9 #[.string s];have D:b.ownsRow base 9 1 (n_) 0 []:=i4 _ _ _ _;have f:Sl b 9 1 (j_ bh) 1 ([s].map Value.string):=jv (n:=1) (s:=1) z rfl;have C:=H_ cG e.size;go_wp2_with (at_builtin;refine kf rfl rfl base 9 i2 1 16 underlying207 aA cp ck cv rfl I I none 0 0 _ rfl D _ 1 1 _ rfl f (tG) X C ?_;intro v h E w i _);go_meet;refine⟨v,h,[s],rfl,w,⟨s_,λx y=>?_,λ_=>by simp⟩,?_⟩;have:x=s:=zu y;subst this;exact .inr r.out;exact e.trans ((J.i6 i).mono<|by simp[oX,Value.ownBlock])
  have g:(k==3)=false:=by simp[a]
  clear hk a;go_wp2;go_meet;exact⟨none,0,[],rfl,i4 _ _ _ _,.refl _ _,G_ _ _⟩
 obtain⟨P,c1,M,rfl,bB,bX,hg1⟩:=hcut;have bk:=hB.hF hg1;clear bf af ay aS ak;obtain⟨bf,af,ay,aS,ak⟩:=bk.cells5;go_wp2_with fail;have bn:=O bB;have bQ:=O bX;go_loopw [3,19] (λov r w'=>∃(h:Nat) (v:OA) (w:Nat) (i:QU),h<=m/\r=Y h/\ov=.slice v i.length w/\qx base w' v w i/\Nm V [] i/\Gt base [9] j w') (λ_ r _=>m-(intOf r).toNat)
 case atStart=>exact⟨0,P,c1,M,X,gn,rfl,bn.out,bQ.out,.jS hg1⟩
 obtain⟨h,aw,ai,N,hi,rfl,rfl,E,cA,z⟩:=hrel;by_cases ag:h<m
 .have aJ:h<l.length:=ov HM.out;obtain⟨bm,f,H,z0,aM,aU,z3,z4⟩:=ET.at_ (by rw[HM.out];exact a7.out.gt z I) aJ;have aj:=hl l[h]<|P_ aJ;have L:=(cW.out _<|P_ aJ).gt z I;have HA:=O H;generalize l[h]=u at z0 aM aU z3 z4 aj L;obtain⟨bv,aV,b7,bI,N1,aQ⟩:=box1 wr 226 #[Y u.h7,Y u.n,.string u.name,Y u.op,.slice u.A u.l.length u.c];obtain⟨aR,bq,bh,am,aq⟩:=aQ.cells5;have aN:=O<|aj bv<|L.hF N1;rw[H]at*;clear aj L H;go_wp2_with fail;go_at_call 199;refine aN.out.mono ?_;rintro bx w2⟨a6,c5,b,rfl,bG,bC,NY,bg,ah⟩;have bD:=N1.trans ah;have a2:=iO E bD;have bz:=H_ cG (z.trans<|.jS bD).size;have ad:∀x f,a6=some (Z x f)->0<b.length->(Value.slice aw N.length ai).ownBlock≠some x:=λx f h1 h2 F=>by
   have ar:=(kK E F).2;have au:=bg x f h1 h2;have a8:=N1.size;omega
  have be:b.length<=1000:=X;obtain⟨dk,bJ⟩:=mn_ b.length;have bK:=O bJ;rw[bJ]at be;have aZ:=O ad;have aF:=O bG;have aO:=O a2;clear bJ ad bG E aR bq bh am aq z0 aM aU z3 z4 a2;rw[bK.out];go_wp2_with fail;go_loopw [3,26] (λov r w'=>∃(e:Nat) (v:OA) (w:Nat) (i:QU),e<=dk/\r=Y e/\ov=.slice v i.length w/\qx base w' v w i/\Nm V N i/\Gt base [9] w2 w'/\Bs w' a6 b/\(∀x f,a6=some (Z x f)->0<b.length->(Value.slice v i.length w).ownBlock≠some x)) (λ_ r _=>dk-(intOf r).toNat)
  case atStart=>exact⟨0,aw,ai,N,X,gn,gn,aO.out,.refl _ _,.refl _ _ _,aF.out,aZ.out⟩
  obtain⟨e,R,Q,a,hj,rfl,rfl,bL,bO,S,N2,bP⟩:=hrel;have N3:=cA.trans bO;have bl:=N3.nd .nil;have bo:=λx y=>(N3.new x y).elim (λt=>by cases t) id;have e0:=H_ (lE a V bl bo) bF;have aC:=H_ bz S.size;have G:=O bP;clear bP;by_cases bw:e<dk
  .have aB:e<b.length:=ov bK.out;obtain⟨dH,bH,bS,aH⟩:=Sl.f_ N2 X;have bU:=aH e (.string b[e]) (by rw[Hg,O_ aB];rfl);have d:=bC _<|P_ aB;subst bS;generalize b[e]=g at bU d;have W:=O<|oQ R _ Q a g wr rfl bL.bs X;have bV:=O d;have az:=O N2;clear aH d N2;cases K:hasB a g with
   |true=>
    rw[K]at W;clear K;go_wp2_with (go_at_call 171;refine W.out.mono ?_;rintro bx T⟨rfl,rfl⟩);go_roundw;exact⟨e+1,R,Q,a,X,gn,gn,bL,bO,S,az.out,G.out⟩;exact mz
   |false=>
    rw[K]at W;have df:rE a g=a++[g]:=by unfold rE;rw[K_<|by rw[K];decide]
    have q:=O df;clear K df;obtain⟨U,ca,eV,fk,C,NZ⟩:=box1 wr 9 #[.string g];have cq:=iO bL C;have bp:Sl U 9 1 (j_ ca) 1 ([g].map Value.string):=jv (n:=1) (s:=1) NZ rfl;have eW:=H_ aC C.size;go_wp2_with (first|(go_at_call 171;refine W.out.mono ?_;rintro bx T⟨rfl,rfl⟩)|(at_builtin;refine kf rfl rfl base 9 i2 1 16 underlying207 aA cp ck cv rfl I I R a.length Q _ rfl cq _ 1 1 _ rfl bp (tG) X eW ?_;intro cU cJ N0 dg dI eA));go_roundw
    case rel=>
     have cR:qx base N0 cU cJ (rE a g):=by
      unfold qx;rw[q.out,M_,GN];exact dg
     refine⟨e+1,cU,cJ,rE a g,X,gn,by rw[q.out,M_];rfl,cR,bO.trans<|.add bV.out,(S.trans<|.jS C).trans<|.app dI cq s_,?_,?_⟩;have D:Bs U (some<|Z dH bH) b:=Sl.hF az.out C;exact Sl.sH D λhn bm o bM hb=>dI.block bm hb λhe=>G.out bm o bM hn he.symm;intro x f h1 h2;rw[q.out,M_];have bA:=by
      have D:Bs U (some<|Z dH bH) b:=Sl.hF az.out C;unfold Bs at D;rw[h1]at D;exact D.lt h2
     rcases eA with ho|ho
     exact λF=>G.out x f h1 h2<|ho.symm.trans F;exact λF=>by
      have:some U.heap.size=some x:=ho.symm.trans F;injection this;omega
    case measure=>exact mz
  go_wp2;go_roundw;exact⟨h+1,R,Q,a,X,gn,gn,bL,N3,(z.trans<|.jS bD).trans S⟩;exact mz
 have e:=cA.nd .nil;have a:=λx y=>(cA.new x y).elim (λt=>by cases t) id;have b:=lE N V e a;go_wp2;rw[ax.out];refine⟨aw,ai,N,rfl,E.bs,a,b,λx f H _=>?_,hg.trans<|z.gr<|by rw[da.out];exact I_ _⟩;subst H;have:=(kK E (x:=x) rfl).1;omega
def En(c:V.length<=1000)(p:Nat->Prop)(d:Nat)(t:ET)(h:EG V d t):F7 V p t:=by
 induction h with
 |num d n _ _=>exact vk V c p 1 n _ 0 none 0 [] (λh=>GR h I) s_ (λb a=>by cases a)
 |var d s f=>exact vk V c p 3 0 s 0 none 0 [] (λ_=>f) s_ (λb a=>by cases a)
 |new d n _ _=>exact vk V c p 6 n _ 0 none 0 [] (λh=>GR h I) s_ (λb a=>by cases a)
 |field d n e s _ _ f=>
  refine vk V c p 4 n _ 0 e 1 [jG s] (λh=>GR h I) s_ λb a=>?_;have:b=jG s:=zu a;subst this;exact vk V c p 3 0 s 0 none 0 [] (λ_=>f) s_ (λb a=>by cases a)
 |bin d o e i g _ _ _ _ k j=>
  refine vk V c p 5 0 _ o e 2 [i,g] (λh=>GR h I) s_ λb a=>?_;rcases N_.1 a with rfl|a
  exact k;have:b=g:=zu a;subst this;exact j
structure PC(w:World)(PA:OA)(fs:QG):Prop where
 hfs:CK w PA fs
 len:fs.length=3
 i1:ux qv fs 0=1
 i2:ux pW fs 0=2
 l1:∀h:1<fs.length,fs[1].ps.length=2
 l2:∀h:2<fs.length,fs[2].ps.length=1
def PC.hF{w:World}{fs:QG}(h:PC w PA fs)(a:J [] w w'):PC w' PA fs:=⟨Sl.hF h.hfs a,h.len,h.i1,h.i2,h.l1,h.l2⟩
def PC.qt{w:World}{fs:QG}(h:PC w PA fs):∃b a A c A' c',PA=some (Z b a)/\w.cell? (Z b<|a+3+1)=some (.slice A 2 c)/\w.cell? (Z b<|a+6+1)=some (.slice A' 1 c'):=by
 have u:=h.len;obtain⟨b,a,i,_,f,_⟩:=h.hfs.at_ (k:=1) X;obtain⟨t,r,e,_,g,_⟩:=h.hfs.at_ (k:=2) X;rw[i]at e;injection e with e;injection e with j p;subst j;subst p;rw[h.l1 X]at f;rw[h.l2 X]at g;exact⟨b,a,_,_,_,_,i,f,g⟩
def PC.idx{w:World}{fs:QG}(h:PC w PA fs)(pc:Nat):Calls prog 170 #[.agg #[.slice PA 3 pc],.string qv] w (λe w'=>e=.returned (Y 1)/\J [] w w')/\Calls prog 170 #[.agg #[.slice PA 3 pc],.string pW] w (λe w'=>e=.returned (Y 2)/\J [] w w'):=by
 have a:=nV PA 3 pc fs qv w h.len h.hfs X;have b:=nV PA 3 pc fs pW w h.len h.hfs X;rw[h.i1]at a;rw[h.i2]at b;exact⟨a,b⟩
def nh.call{k:Int}{x f:ByteArray}{L:Bool}(h:nh V k x f n o m B L)(a:k=3):(f=qv/\m=2)\/(f=pW/\m=1):=by
 cases h<;>first|exact GR a I|exact .inl ⟨rfl,rfl⟩|exact .inr ⟨rfl,rfl⟩
def nh.FU{k:Int}{x f:ByteArray}{L:Bool}(h:nh V k x f n o m B L)(a:k=12):qV o=true:=by
 cases h<;>first|exact GR a I|(rename_i b;rcases b with rfl|rfl|rfl<;>rfl)
def EM(V:QU)(D:Nat):Prop:=∀(N:Nat) (PA:OA) (pc:Nat) (fs:QG) (VA:OA) (vc:Nat) (vs:QU) (A:OA) (n c:Nat) (ts:QW) (p:Nat->Prop) (w:World),N<=1000->ts.length=n->l8 V D N ts->(∀x∈V,x∈vs)->vs.length<=1000->Bs w VA vs->PC w PA fs->Sl w 229 8 A n (ts.flatMap ST.E)->(∀u∈ts,jR p w u)->
 Calls prog 172 #[.agg #[.slice PA 3 pc],.slice VA vs.length vc,.slice A n c] w (wi (Y 0) w)
def Bl(bF:V.length<=1000)(I:Nat)(HD:∀r,I=r+1->EM V r):EM V I:=by
 intro al PA pc fs VA vc vs an n aA w p bd cR hn bW bh ao hbs wm bi ky;refine ig λbk ax=>?_;obtain⟨bm,gx,aW,hx,hg,C⟩:=box1 bd 150 #[.slice PA 3 pc];have aZ:=O hn;have a7:=O<|bi.hF hg;have cW:=O (λu hu=>(ky u hu).hF hg:∀u∈w,jR p bm u);have da:=O (Sl.hF hbs hg:Bs bm VA vs);have l:=O<|wm.hF hg;have cq:=O bh;have cY:=O (show l8 V I al (w.drop 0) from bW);have cn:n<=1000:=ov bW.len;obtain⟨v9,P⟩:=mn_ vs.length;rw[P]at ao;have h:=O P;clear hn bi ky hbs wm bh bW;rw[P];clear P;go_enter func172,ntmps172;go_wp2;have bo:=O aW;clear aW hx;go_loopw [18] (λc w'=>∃(k a bv:Nat),k<=n/\c=Y k/\a+bv=al/\l8 V I bv (w.drop k)/\J [] bm w') (λc _=>n-(intOf c).toNat)
 case atStart=>exact⟨0,0,al,R_ _,gn,X,cY.out,G_ _ _⟩
 obtain⟨k,a,bv,hk,rfl,hab,b0,F⟩:=hrel;have ar:=O hab;clear hab;by_cases ag:k<n
 .have aF:k<w.length:=ov aZ.out;obtain⟨bG,off,hA,z,j,v,A,D,z5,cj,cV⟩:=ST.at_ (a7.out.hF F) aZ.out aF;subst hA;rw[W_ aF]at b0;obtain⟨G,b2,bD,bn,cg⟩:=b0.split;have q:=O bD;have aB:=(cW.out _<|P_ aF).hF F;generalize w[k]=t at z j v A D z5 cj cV bn aB;clear b0 bD;obtain⟨r,nb,nl,bt,bA,hD,bC,N,aP,a6,hes,hb,hl⟩:=bn.one;have a8:=HD r hD;have aG:=O bC;have bj:=O cg;obtain⟨R,W,E,bl,cv,M⟩:=aB.parts;have hbl:nb+nl+1<=1000:=by have:=ar.out;have:=q.out;omega
  have cA:=N.rng;have bQ:=O N.call;have bV:=O N.FU;clear hD bC N bn aP a6 cg;obtain⟨K,aE,b7,hg1,b,be⟩:=box1 wr 229 #[Y t.h7,.string t.name,.string t.fn,Y t.n,Y t.op,.slice t.AE t.es.length t.cE,.slice t.AB t.bs.length t.cB,.slice t.AL t.ls.length t.cL];obtain⟨U,af,ay,aS,ak,bL,ad,y⟩:=be.jd;have bK:=F.trans b;replace R:=Sl.hF R b;replace W:∀u∈t.es,kB p K u:=λu hu=>(W u hu).hF b;replace E:=Sl.hF E b;replace bl:∀u∈t.bs,jR p K u:=λu hu=>(bl u hu).hF b;replace cv:=Sl.hF cv b;replace M:∀u∈t.ls,jR p K u:=λu hu=>(M u hu).hF b;have bJ:=O R;obtain⟨m,hm⟩:=mn_ t.es.length;rw[hm]at bL cA;have HM:=O hm;clear hm R b F;go_upto_region 5 with fail;clear b7 hg1 U af ay aS ak bL ad y z j v A D z5 cj cV;go_loopw [25] (λc w'=>∃g:Nat,g<=m/\c=Y g/\J [] K w') (λc _=>m-(intOf c).toNat)
  case atStart=>exact⟨0,X,gn,G_ _ _⟩
  obtain⟨g,hi,rfl,b⟩:=hrel;by_cases aJ:g<m
  .have aY:g<t.es.length:=ov HM.out;obtain⟨ew,b5,aO,z,j,v,A,D⟩:=ET.at_ (Sl.hF bJ.out b) aY;have aj:=En bF p 2 t.es[g]<|hes _<|P_ aY;have hu:=(W _<|P_ aY).hF b;generalize t.es[g]=u at z j v A D aj hu;obtain⟨aK,bx,bN,N3,bT,aQ⟩:=box1 wr 226 #[Y u.h7,Y u.n,.string u.name,Y u.op,.slice u.A u.l.length u.c];obtain⟨aR,bq,cb,am,aq⟩:=aQ.cells5;have aN:=O<|aj aK<|hu.hF bT;rw[aO];clear aj hu aO;go_wp2_with fail;go_at_call 199;refine aN.out.mono ?_;rintro e ae⟨aL,aI,L,rfl,N2,aV,bY,_,aD⟩;have dS:=(b.trans bT).trans aD;have az:=O N2;obtain⟨Q,a2⟩:=mn_ L.length;have bU:=O a2;have b4:Q<=1000:=X;clear aR bq cb am aq z j v A D N2 bY;rw[a2];clear a2;go_wp2_with fail;go_loopw [32] (λc w'=>∃f:Nat,f<=Q/\c=Y f/\w'=ae) (λc _=>Q-(intOf c).toNat)
   case atStart=>exact⟨0,X,gn,rfl⟩
   obtain⟨f,hj,rfl,rfl⟩:=hrel;by_cases bw:f<Q
   .have bM:f<L.length:=ov bU.out;obtain⟨dH,bH,cc,aH⟩:=Sl.f_ az.out X;have y:=aH f (.string L[f]) (by rw[Hg,O_ bM];rfl);have d:=cq.out _<|aV _<|P_ bM;generalize L[f]=b8 at y d;have i:=oQ VA _ vc vs b8 wr h.out (Sl.hF da.out<|bK.trans dS) X;rw[rq.2 d]at i;have bR:=O i;rw[cc];clear aH d cc i;go_wp2_with (go_at_call 171;refine bR.out.mono ?_;rintro e T⟨rfl,rfl⟩);go_roundw;exact⟨f+1,X,gn,trivial⟩;exact mz
   go_wp2;go_roundw;exact⟨g+1,X,gn,dS⟩;exact mz
  have hg1:=bK.trans b;have au:=be.hF b;obtain⟨U,af,ay,aS,ak,bL,ad,y⟩:=au.jd;go_upto_if 44 with fail
  go_cut [13] (λc aX=>J [] wr aX)
  case first=>
   by_cases f:t.h7=3
   .have L:(t.h7==3)=true:=by simp[f]
    have Q:=bQ.out f;rw[HM.out]at Q;clear f;have ca:wr.cell? (Z gx 0)=some (.slice PA 3 pc):=(C.hF hg1).f_ 0;rcases Q with⟨hf,dE⟩|⟨hf,dE⟩
    all_goals (subst dE)
    rw[hf]at ay;have N0:=O ((l.out.hF hg1).idx pc).1;exact JV;rw[hf]at ay;have N0:=O ((l.out.hF hg1).idx pc).2;exact JV
   have L:(t.h7==3)=false:=by simp[f]
   clear f;go_wp2;go_meet;exact G_ _ _
  have bg:=b.trans hcut;have N3:=hg1.trans hcut;have H:=au.hF hcut;clear U af ay aS ak bL ad y hcut;obtain⟨U,af,ay,aS,ak,bL,ad,y⟩:=H.jd;have ca:wc.cell? (Z gx 0)=some (.slice PA 3 pc):=(C.hF N3).f_ 0;by_cases B:t.h7=12
  .have L:(t.h7==12)=true:=by simp[B]
   have i:=vB t.op wc;rw[bV.out B]at i;have f:=O i;clear B i;go_upto_region 22 with(go_at_call 179;refine f.out.mono ?_;rintro e ae⟨rfl,rfl⟩);exact Jx
  have L:(t.h7==12)=false:=by simp[B]
  clear B;go_upto_region 22 with fail;exact Jx
 exact NB
def y4{V:QU}(b:V.length<=1000):∀a,EM V a
 |0=>Bl b 0 λr h=>by omega
 |a+1=>Bl b (a+1) λr c=>by
  have e:r=a:=X;subst e;exact y4 b r
end
section
variable{l:QU}
def La{G:Prop} (h:G:=by
 go_wp2_with (go_at_call 172;refine bY.out.mono ?_;rintro e aB⟨rfl,aD⟩);go_roundw;exact⟨k+1,X,gn,(i.trans ct).trans aD⟩;exact mz):G:=h
structure CG(q:Nat->Prop)(w:World)(PA:OA)(fs:QG)(Ns:QY):Prop where
 pg:PG iq q w PA fs Ns
 pc:PC w PA fs
 ix:∀(k:Nat) (h:k<fs.length),ux fs[k].name fs 0=k
 p0:∀h:0<fs.length,fs[0].ps=[]
 nd:∀f∈fs,f.ps.Nodup
 vs:∀(k:Nat) (h:k<fs.length) (h2:k<Ns.length),∃V:List ByteArray,V.length<=1000/\2<=V.length/\V.Nodup/\l8 V 5 Ns[k] fs[k].bs/\∀vs:List ByteArray,n8 vs fs[k].bs->(∀x∈fs[k].ps,x∈vs)->∀x∈V,x∈vs
def CG.hF{q:Nat->Prop}{w w':World}{a:OA}{fs:QG}{Ns:QY}(h:CG q w a fs Ns)(b:J [] w w'):CG q w' a fs Ns:=⟨h.pg.hF b,h.pc.hF b,h.ix,h.p0,h.nd,h.vs⟩
def tF(h:l.Nodup){k:Nat}(e:k<l.length):hasB (l.take k) l[k]=false:=by
 cases c:hasB (l.take k) l[k]with
 |false=>rfl
 |true=>
  have d:=rq.1 c;have a:=(HE k l).symm;rw[a,HR]at h;have b:l[k]∈l.drop k:=List.mem_iff_getElem.2 ⟨0,p_,s_⟩;exact GR rfl<|h.2.2 _ d _ b
def Bs.take{w:World}{A:OA}(h:Bs w A l)(k:Nat)(o:k<=l.length):Bs w A (l.take k):=by
 refine⟨s_,λi=>?_⟩;obtain⟨b,m,c,d,e,f,g⟩:=h.2 (by simp at i;omega);refine⟨b,m,c,d,e,f,λj n a=>g j n ?_⟩;rw[List.map_take,Hv]at a;split at a;exact a;cases a
def sY:iq.length=9:=rfl
def xq(q:Nat->Prop)(h:OA)(c:Nat)(fs:QG)(Ns:QY)(w:World)(ak:CG q w h fs Ns):
 Calls prog 134 #[.agg #[.slice h 3 c]] w (wi (.tuple #[Y 0,Y 0]) w):=by
 refine ig λae ax=>?_;obtain⟨H,p,aW,hx,hg,r⟩:=box1 w 150 #[.slice h 3 c];have v:H.cell? (Z p 0)=some (.slice h 3 c):=r.f_ 0;have b:=O<|ak.hF hg;go_enter func134,ntmps134;go_wp2_with fail;go_at_call 169;refine(yb D_ q h c fs Ns H b.out.pg).mono ?_;rintro e w2⟨rfl,N3⟩;have af:w2.cell? (Z p 0)=some (.slice h 3 c):=(r.hF N3).f_ 0;go_wp2;have bo:=O aW;go_loopw [19] (λf w'=>∃k:Nat,k<=3/\f=Y k/\J [] H w') (λf _=>3-(intOf f).toNat)
 case atStart=>exact⟨0,X,gn,N3⟩
 obtain⟨k,hk,rfl,F⟩:=hrel;by_cases ag:k<3
 .have d:k<fs.length:=ov b.out.pg.len;have K:k<Ns.length:=ov b.out.pg.nl;have C:=b.out.hF F;obtain⟨o,s,hA,z0,aM,aU⟩:=CK.at_ C.pg.hfs d;subst hA;have al:=C.pg.rd _<|P_ d;obtain⟨_,I,bV⟩:=b.out.pg.nm _<|P_ d;have y:=b.out.pg.sg k d K;have z:=b.out.vs k d K;have D:=b.out.ix k d;have V:=b.out.nd _<|P_ d;have ea:Ns[k]<=64:=by have:=pJ Ns k K;have:=b.out.pg.sum;omega
  have Q:k=0->fs[k].ps=[]:=λe=>by subst e;exact b.out.p0 _
  obtain⟨a,hf⟩:=nm_<|fs[k];obtain⟨am,an⟩:=nm_<|Ns[k];rw[<-hf]at z0 aM aU al I bV y z D V Q;rw[<-an]at y z ea;have t:=O al;have bB:=O I;have cY:=O y;have cq:=O z;have N0:=O D;have ao:=O V;have c3:=O Q;have M:=O C;clear hf an al I y z D V Q C;have jx:=λaj aq=>by
   have h1:=nV (some<|Z o s) 3 c fs a.name aj M.out.pg.len (M.out.hF aq).pg.hfs X;rw[N0.out]at h1;exact h1
  have ar:=O jx;clear jx;obtain⟨au,aV,b7,hg1,N1,m⟩:=box1 wr 213 #[.string a.name,.slice a.AP a.ps.length a.cP,.slice a.A a.bs.length a.c];obtain⟨v,af,L⟩:=m.nW;have hy:=(r.hF F).f_ 0;have cf:wr.cell? (Z p 0)=some (.slice (some<|Z o s) 3 c):=hy;clear hy;have em:decide ((k:Int)<3)=true:=p_;go_upto_region 8 with fail;have av:=F.trans N1;clear v af L cf z0 aM aU;go_loopw [27] (λf w'=>∃j:Nat,j<=a.ps.length/\f=Y j/\J [] au w') (λf _=>a.ps.length-(intOf f).toNat)
  case atStart=>exact⟨0,X,gn,G_ _ _⟩
  obtain⟨j,hj,rfl,A⟩:=hrel;have g:=N1.trans A;have i:=av.trans A;obtain⟨aw,B⟩:=mn_ a.ps.length;have az:=O B;have ad:aw<=2:=X;have v:wr.cell? (Z p 0)=some (.slice (some<|Z o s) 3 c):=(r.hF i).f_ 0;obtain⟨aR,N,aA⟩:=(m.hF A).nW;by_cases P:j<a.ps.length
  .have l:=(t.out.hF g).hp;obtain⟨b2,aC,u,hc⟩:=Sl.f_ l X;have L:=hc j (.string a.ps[j]) (by rw[Hg,O_ P];rfl);have U:=tF ao.out P;have x:=l.take j X;have R:(a.ps.take j).length=j:=p_;generalize a.ps[j]=aE at L U;have bZ:j<=a.cP:=ov t.out.wm;have aG:(j:Int)<=a.cP:=X;have T:=O<|ar.out wr g;have bi:=O x;have aH:=O R;have N2:=O U;have aI:=O u;rw[u]at x;have bR:=O λn(NZ:J [] wr n)=>oQ (some<|Z b2 aC) j a.cP (a.ps.take j) aE n R (Sl.hF x NZ) X;rw[B]at N P |-;rw[u]at N |-;clear hc B u x R U l
   go_wp2_with fail;go_at_call 170;refine T.out.mono ?_;rintro e G⟨rfl,NZ⟩;have S:=bR.out G NZ;rw[N2.out]at S;have aJ:=O S;obtain⟨v0,W,bn⟩:=(m.hF<|A.trans NZ).nW;rw[az.out,aI.out]at W;clear S aR N aA v;go_wp2_with (go_at_call 171;refine aJ.out.mono ?_;rintro e E⟨rfl,rfl⟩);exact Nc
  subst B;have T:=O<|ar.out wr g;have d7:=O λn(NZ:J [] wr n)=>tB iq (by rw[sY];decide) 5 am a q n ((t.out.hF g).hF NZ) cY.out X bB.out X;go_wp2_with fail;go_at_call 170;refine T.out.mono ?_;rintro e G⟨rfl,NZ⟩;obtain⟨v0,W,bn⟩:=(m.hF<|A.trans NZ).nW;go_wp2_with fail;go_at_call 135;refine(d7.out G NZ).mono ?_;rintro e E⟨U,c5,x,rfl,bG,ew,eF,eB,ey,ah⟩;have ct:=NZ.trans ah;obtain⟨v0,W,bn⟩:=(m.hF<|A.trans ct).nW;have aP:=by have R:=lE x iq ew eF;rw[sY]at R;exact R
  obtain⟨aL,bF,_,_,dY,eb⟩:=cq.out;have bY:=O<|y4 bF 5 am (some<|Z o s) c fs U c5 x a.A _ a.c a.bs q E X rfl dY (eb x ey eB) X bG ((M.out.hF g).hF ct).pc ((t.out.hF g).hF ct).hb ((t.out.hF g).hF ct).hs;have bg:E.cell? (Z p 0)=some (.slice (some<|Z o s) 3 c):=(r.hF<|i.trans ct).f_ 0;by_cases u:k=0;have bU:a.ps.length=0:=by rw[c3.out u];rfl
  have S:((k:Int)==0)=true:=by simp[u]
  exact La;have S:((k:Int)==0)=false:=by simp[u]
  exact La
 exact NB
end
variable{e:TypeId}{A:OA}{xs:QX}{w':World}{V:QU}{t:ST}{R:Ending->World->Prop}{i m:Nat}{cur:Array Value}(v:Int)(l:QR)(k:Nat)
def BS{w:World}{base:Nat}{n c:Nat}{x:Value}(h:w.ownsRow base e 1 (.slice A (n+1) c) (n+1)<|xs++[x]):w.ownsRow base e 1 (.slice A n c) n xs:=by
 have u:=by have:=h.1;simp at this;omega
 refine⟨X,?_⟩;rcases h.2 with⟨a,_⟩|⟨g,y,cur,a,j,o,r,d,f,b⟩
 cases a
 injection a with p _ q;subst p;subst q;refine .inr ⟨g,c,cur,rfl,j,o,X,d,f,?_⟩;have:=GG (List.take n) b;rw[List.take_take]at this;rw[Nat.mul_one];have e:min n ((n+1)*1)=n:=X;rw[e]at this;rw[this,List.take_append_of_le_length X,GY X]
def yq{w:World}{base:Nat}{a:Nat}{n c:Nat}(h:w.ownsRow base e a (.slice A n c) n xs):n<=maxLen:=by
 rcases h.2 with⟨_,b⟩|⟨_,_,_,_,_,_,d,f,_⟩
 omega;omega
def ny.push{base g x:Nat}{w:World}{s:GS}(h:ny base w g s)(A':OA)(c':Nat)(G:Bk w x 30 #[n_])(D:base<=x)(C:∀a∈s.rt++s.os,a.box≠x)(r:w.grownBy w' (Value.slice s.OA s.os.length s.oc).ownBlock)(B:w'.ownsRow base 313 1 (.slice A' (s.os.length+1) c') (s.os.length+1)<|(s.os.map λa=>q_ a.box)++[q_ x]):
 Bk w' g 210 s.g_/\ny base (w'.setCell (Z g 9)<|.slice A' (s.os.length+1) c') g {s with OA:=A',oc:=c',os:=s.os++[⟨x,none,0,[]⟩]}/\Gt base gT w (w'.setCell (Z g 9)<|.slice A' (s.os.length+1) c'):=by
 have u:∀e,e≠313->mZ e w w':=λe n=>.app r h.ho<|Ne.symm n;have f:=(u _ I).bk h.hg;have z:∀e,e≠210->mZ e w' (w'.setCell (Z g 9)<|.slice A' (s.os.length+1) c'):=λe n=>.set f (Ne.symm n) _ _;have b:=λe E F=>(u e E).trans<|z e F;have o:GS.rows {s with OA:=A',oc:=c',os:=s.os++[(⟨x,none,0,[]⟩:At)]}=s.rows++[(n_,[])]:=by
  unfold GS.rows;simp
 refine⟨f,⟨?_,h.hbg,(b _ I I).own h.hl,(b _ I I).own h.hc,?_,?_,?_,?_,?_,(b 9 I I).sl h.hv,H_ h.hz (b 9 I I).1⟩,(Gt.app r h.ho I).trans<|.set f h.hbg I _ _⟩;have:=f.hW 9<|.slice A' (s.os.length+1) c';exact NQ;rw[M_,GN];exact(z _ I).own B;intro a c;have d:a∈s.rt++s.os\/a=⟨x,none,0,[]⟩:=by simpa[or_assoc]using c
 rcases d with c|rfl
 exact⟨(b 30 I I).bk (h.hb a c).1,(h.hb a c).2⟩;exact⟨(b 30 I I).bk G,D⟩;rw[<-Hq,GN,HR];refine⟨h.hbn,s_,λa c p j=>?_⟩;obtain⟨y,d,rfl⟩:=GJ.1 c;have:p=x:=zu j;subst this;exact C y d;intro y d;rw[o]at d;rcases X_.1 d with d|d
 exact(b 3 I I).own<|h.hi y d;have:y=(n_,[]):=zu d;subst this;exact i4 _ _ _ _;rw[o,kn];exact⟨h.ky,λp j=>by simp[Value.ownBlock]at j⟩
def ny.FV{base g:Nat}{w:World}{s:GS}(h:ny base w g s)(b:List At)(d:At)(j:s.os=b++[d]):
 ny base (w.setCell (Z g 9)<|.slice s.OA b.length s.oc) g {s with os:=b,rt:=s.rt++[d]}:=by
 have a:∀e,e≠210->mZ e w (w.setCell (Z g 9)<|.slice s.OA b.length s.oc):=λe o=>.set h.hg (Ne.symm o) _ _;have c:((s.rt++[d])++b).Perm (s.rt++s.os):=by
  rw[j,Hq];exact List.Perm.append_left _<|List.perm_append_comm
 refine⟨?_,h.hbg,(a _ I).own h.hl,(a _ I).own h.hc,?_,?_,?_,?_,?_,(a _ I).sl h.hv,H_ h.hz (a 9 I).1⟩;exact h.hg.hW 9<|.slice s.OA b.length s.oc;have:=h.ho;rw[j]at this;simp only[M_,IM,GN,Hs,H3]at this;exact(a _ I).own<|BS this;intro n p;have f:=c.mem_iff.1 p;exact⟨(a 30 I).bk (h.hb n f).1,(h.hb n f).2⟩;exact(c.map At.box).nodup_iff.2 h.hbn;intro n f;refine(a 3 I).own<|h.hi n ?_;unfold GS.rows at f |-;exact((((c.map _).cons _).cons _).mem_iff).1 f
 have:=h.ky;unfold GS.rows at this |-;exact((((c.map _).cons _).cons _).filterMap _).nodup_iff.2 this
def lQ.drop{base g:Nat}{w:World}{v:i3}(h:lQ base w g v)(r x:List<|Nat × List Int)(p:v.rts=r++x):lQ base w g (v.drop r):=by
 obtain⟨s,rfl,h⟩:=h;have j:s.rt.map (λb=>(b.box,b.is))=r++x:=p;obtain⟨c,f,q,n,y⟩:=List.map_eq_append_iff.1 j;have a:(c++s.os).Sublist (s.rt++s.os):=by rw[q];exact(List.sublist_append_left c f).append_right _
 refine⟨{s with rt:=c},?_,h.hg,h.hbg,h.hl,h.hc,h.ho,λb o=>h.hb b<|a.subset o,(a.map At.box).nodup h.hbn,λu d=>h.hi u ?_,?_,h.hv,h.hz⟩;simp only[GS.lg,i3.drop,n];unfold GS.rows at d |-;exact(((a.map _).cons_cons _).cons_cons _).subset d
 have:=h.ky;unfold GS.rows at this |-;exact((((a.map _).cons_cons _).cons_cons _).filterMap _).nodup this
def zH(base g:Nat)(V:QU)(al:Nat)(x:ByteArray)(AE:OA)(cE:Nat)(es:QF)(W:OA)(cB:Nat)(o:QW)(AL:OA)(cL:Nat)(z:QW)(v:i3)(q:Int)(p:Nat->Prop)(w:World)(nb nl:Nat)(aX:vG base g V al)(cg:l8 V al nb o)(bQ:l8 V al nl z)
 (aR:Sl w 229 8 W o.length<|o.flatMap ST.E) (cO:∀u∈o,jR p w u) (co:Sl w 229 8 AL z.length<|z.flatMap ST.E) (cS:∀u∈z,jR p w u) (hP:nD w v.pv) (N2:lQ base w g v) (H:GK v q<|al+1) (iS:v.l.length+30*(1+nb+nl)<=100000):
 Calls prog 201 #[q_ g,.agg (ST.mk 9 x jg 0 0 AE cE es W cB o AL cL z).g_] w (oW base g v (al+1) (30*(1+nb+nl)) w):=by
 refine ig λan ax=>?_;obtain⟨bM,bK,bC,be,bu⟩:=info_parts infoPI;obtain⟨D,gx,c,aW,hx,bq,N,y,aA⟩:=uN w 229 (ST.mk 9 x jg 0 0 AE cE es W cB o AL cL z).g_ 30 #[n_];replace y:Bk D gx 229 #[Y 9,.string x,.string jg,Y 0,Y 0,.slice AE es.length cE,.slice W o.length cB,.slice AL z.length cL]:=y;obtain⟨C,G,K,E,J,L,F,P⟩:=y.jd;have T:=hP.gt (.jS N:Gt base gT w D);have ct:=aR.hF N;have cr:=λu j=>(cO u j).hF N;have dL:=co.hF N;have dy:=λu j=>(cS u j).hF N;obtain⟨s,hs,f⟩:=N2;have bH:∀a∈s.rt++s.os,a.box≠c:=λa M he=>by
  have:=(f.hb a M).1.lt;omega
 have bd:base<=c:=ov f.hz;have N1:s.os.length<=20:=by
  have e:s.os.length=v.ats.length:=by rw[<-hs];simp[GS.lg]
  rw[e];have:=H.al;omega
 have bR:=f.hF N;have bf:D.cell? (Z g 9)=some (.slice s.OA s.os.length s.oc):=bR.hg.f_ 9;obtain⟨aK,bh,bN,cv,bT,br⟩:=box1 D 313 #[q_ c];have bk:Sl aK 313 1 (j_ bh) 1 [q_ c]:=jv (n:=1) (s:=1) br rfl;have bm:=bR.hF bT;have ao:=O hs;clear aR co hP cO cS f bR hs;go_enter func201,ntmps201;go_wp2_with (at_builtin;refine kf rfl rfl base 313 bM 1 8 underlying208 bK bC be bu rfl I I s.OA s.os.length s.oc _ rfl bm.ho _ 1 1 _ rfl bk (by intro u j;simp at j;subst j;rfl) X bm.hz ?_;intro av aG ae b9 aY _;have am:=bm.push av aG (aA.hF bT) bd bH aY b9;have aw:=O am;have ag:=am.1.hG 9;have z9:ae.cell? (Z g 9)=some (.slice s.OA s.os.length s.oc):=am.1.f_ 9;clear am);have bv:lQ base (ae.setCell (Z g 9)<|.slice av (s.os.length+1) aG) g (v.push c):=⟨_,(by rw[<-ao.out];simp[GS.lg,i3.push]),aw.out.2.1⟩;have aj:=(Gt.jS bT).trans aw.out.2.2;have ap:=H.push c;have aB:=GP.refl<|v.push c;have bO:(v.push c).l.length=v.l.length:=rfl;have bt:nD D (v.push c).pv:=T;obtain⟨dN,bS⟩:=nm_<|ae.setCell (Z g 9)<|.slice av (s.os.length+1) aG;rw[<-bS]at bv aj |-;clear bS aw ag z9 bf bm bk aA N1 bH;replace T:=bt;clear bt
 go_at_call 217;refine(oC base g bv (ov aB.len) (λa M=>by have:=ap.ok.sR a.2<|IR M;have:=aB.len;omega)<|ov ap.al).mono ?_;rintro e dX⟨rfl,t,cQ⟩;have cw:=ap.protect;have ca:=aB.trans<|GP.protect _;have S:=aj.trans cQ;clear bv aj cQ;clear C G K E J L F P;obtain⟨C,G,K,E,J,L,F,P⟩:=(y.gt S I).jd;go_wp2_with fail;go_at_call 137;refine(aX nb W _ cB o _ _ p _ rfl (ov cg.len) cg (ct.gt S I) (λu j=>(cr u j).gt S I I) (by rw[ca.pv];exact T.gt S) t (cw.le X)<|ov ca.len).mono ?_;rintro e U⟨rfl,b,dW,cX,cR,di,aI⟩;have a2:=GK.of cw aI<|di.le<|R_ _;have bw:=ca.trans aI;have cu:=S.trans cR;clear t S cR di;obtain⟨l,is,hl,bx⟩:=bw.EW;have cb:=a2.ok.qt is (by rw[hl];simp);have dD:=a2.ok.sR is (by rw[hl];simp);obtain⟨h,aP,B⟩:=cX;have ah:h.os.map (λa=>(a.box,a.is))=l++[(c,is)]:=by rw[<-hl,<-aP];rfl
 obtain⟨Q,l1,cc,bX,cA⟩:=List.map_eq_append_iff.1 ah;obtain⟨a,rfl⟩:∃a,l1=[a]:=by
  cases l1 with
  |nil=>simp at cA
  |cons a l1=>
   cases l1 with
   |nil=>exact⟨a,rfl⟩
   |cons ch l1=>simp at cA
 have NY:h.os.length=Q.length+1:=by rw[cc];simp
 have bZ:=jq B.ho;have cy:=B.FV Q a cc;have R:Gt base gT U (U.setCell (Z g 9)<|.slice h.OA Q.length h.oc):=B.Ar 9 _;obtain⟨go,_,ci,_,_,_⟩:=kN B.ho X;rw[ci]at cy R;have bf:U.cell? (Z g 9)=some (.slice (j_ go) (Q.length+1) h.oc):=by have:=B.hg.f_ 9;unfold GS.g_ at this;rw[NY,ci]at this;exact this
 have ag:=B.hg.hG 9;obtain⟨m,hm⟩:=nm_ Q.length;rw[NY]at bZ;have cl:=yq B.ho;rw[<-hm]at bf cy R bZ;have a6:IntKind.i64.wrap (m:Int)=m:=G9 _ (by unfold maxLen at cl;omega);have dF:(m:Int)<=h.oc:=X;have N3:m<=h.oc:=X;have bW:=O aP;have bV:=O cc;have dz:=O bx;clear aP cc bX cA NY ci hm ah hl bx B;go_upto_region 5 with fail
 go_region
 go_upto_region 6 with fail;clear bf ag a6 dF N3;have c6:lQ base (U.setCell (Z g 9)<|.slice (j_ go) m h.oc).drew g b.pop:=⟨_,(by
  rw[<-bW.out];have aC:h.lg.ats=Q.map (λa=>(a.box,a.is))++[(a.box,a.is)]:=(by show h.os.map _=_;rw[bV.out];simp);unfold i3.pop;rw[aC];simp[GS.lg]),cy.hF (G_ [] _).drew⟩
 have cm:=(cu.trans R).trans (.jS (G_ []<|U.setCell (Z g 9)<|.slice (j_ go) m h.oc).drew:Gt base gT _ _);have ar:=H.E8 bw<|a2.le<|R_ _;have aD:=GP.refl b.pop;have dH:b.pop.l.length=b.l.length:=rfl;have dI:=bw.len;have db:=bw.pv;replace T:nD D b.pop.pv:=(by show nD D b.pv;rw[db];exact T);clear db;have cM:∀i∈is,0<=i/\i<b.pop.l.length/\iG b.pop.l i=17:=cb;obtain⟨dO,bU⟩:=nm_<|(U.setCell (Z g 9)<|.slice (j_ go) m h.oc).drew;rw[<-bU]at c6 cm |-;clear bU cy R cb;clear C G K E J L F P;obtain⟨C,G,K,E,J,L,F,P⟩:=(y.gt cm I).jd
 go_wp2_with fail;go_at_call 217;refine(oC base g c6 (ov aD.len) (λa M=>by have:=ar.ok.sR a.2<|IR M;have:=aD.len;omega)<|ov ar.al).mono ?_;rintro e dP⟨rfl,bY,bI⟩;have cG:=ar.protect;have bj:=aD.trans<|GP.protect _;have cj:=cm.trans bI;clear c6 cm bI;go_wp2_with fail;go_at_call 138;refine(iB base g _ bY<|ov bj.len).mono ?_;rintro e aT⟨rfl,b0,cV⟩;have a8:=cG.xd 11<|.inl rfl;have aF:=bj.trans<|GP.put _ ⟨11,0,0,0,0⟩;have ck:=cj.trans cV;have dS:iG (i3.put b.pop.protect ⟨11,0,0,0,0⟩).l b.pop.protect.l.length=11:=oM _;have ej:b.pop.protect.l.length<(i3.put b.pop.protect ⟨11,0,0,0,0⟩).l.length:=by simp[i3.put]
 have dr:(i3.put b.pop.protect ⟨11,0,0,0,0⟩).rts=v.rts++[(c,is)]:=dz.out;have aM:∀i∈is,0<=i/\i<(i3.put b.pop.protect ⟨11,0,0,0,0⟩).l.length/\iG (i3.put b.pop.protect ⟨11,0,0,0,0⟩).l i=17:=λi f=>by
  obtain⟨a1,cs,a3⟩:=cM i f;have hk:=aF.kp;exact⟨a1,(ov hk.1),(hk.2 i cs).trans a3⟩
 generalize dJ:b.pop.protect.l.length=k at*;generalize bD:i3.put b.pop.protect ⟨11,0,0,0,0⟩=r at*;obtain⟨cn,N0,c3⟩:=b0;have dt:cn.rt.map (λa=>(a.box,a.is))=v.rts++[(c,is)]:=by rw[<-dr,<-N0];rfl
 obtain⟨d,bA,bE⟩:∃d∈cn.rt,(d.box,d.is)=(c,is):=by
  have:(c,is)∈cn.rt.map (λa=>(a.box,a.is)):=by rw[dt];simp
  obtain⟨d,h1,h2⟩:=GJ.1 this;exact⟨d,h1,h2⟩
 have cT:d.box=c:=GG Prod.fst bE;have bG:d.is=is:=GG Prod.snd bE;have cN:=(c3.hb d<|GZ _ bA).1;rw[cT,bG]at cN;have dq:=c3.hi d.row (by unfold GS.rows;simp only[N_];exact .inr<|.inr<|GJ.2 ⟨d,GZ _ bA,rfl⟩);have dk:Ns aT 3 d.A is:=by
  have:=Sl.iZ dq;unfold At.row at this;simp only[bG]at this;exact this
 have cY:lQ base aT g r:=⟨cn,N0,c3⟩;have dw:aT.cell? (Z c 0)=some (.slice d.A is.length d.c):=cN.f_ 0;go_wp2_with fail;go_at_call 205;refine(mR base g d.A is.length d.c is cY (ov aF.len) dk rfl (λi f=>⟨(aM i f).1,(aM i f).2.1⟩) X).mono ?_;rintro e dQ⟨rfl,dC,cW⟩;have aH:=aF.trans<|GP.here _ is;have cp:=ck.trans cW;have au:=a8.uf is λi f=>(aM i f).2.2;have cU:=a8.sb;have dm:iG (r.here is).l k=11:=(oI _ _ _ _).trans dS;have dE:k<(r.here is).l.length:=by simp only[i3.here,jh];omega
 go_wp2_with fail;go_at_call 136;refine(mO base g dC (ov aH.len) cU.1 (by have:=cU.2;have:=aH.len;show r.hC<=100000;simp only[i3.here,jh]at this;omega)).mono ?_;rintro e dR⟨rfl,b4,cZ⟩;have aJ:=aH.trans<|GP.mark _;have aV:=cp.trans cZ;have dT:=(((GP.mark<|r.here is).kp.2 _ X)).trans dm;have d0:k<(r.here is).mark.l.length:=ov<|(GP.mark<|r.here is).kp.1;generalize aQ:(r.here is).mark=A at*;obtain⟨C,G,K,E,J,L,F,P⟩:=(y.gt aV I).jd;go_wp2_with fail;go_at_call 217;refine(oC base g b4 (ov aJ.len) (λa M=>by have:=au.ok.sR a.2<|IR M;have:=aJ.len;omega)<|ov au.al).mono ?_;rintro e dU⟨rfl,b6,c7⟩;have cH:=au.protect;have bl:=aJ.trans<|GP.protect _;have cq:=aV.trans c7;have dh:=(GP.protect A).kp;generalize bJ:A.protect=cP at*
 go_wp2_with fail;go_at_call 138;refine(iB base g _ b6<|ov bl.len).mono ?_;rintro e dV⟨rfl,aU,c8⟩;have bg:=cH.simp (x:=⟨18,0,0,0,0⟩) I;have bn:=bl.trans<|GP.put _ ⟨18,0,0,0,0⟩;have aZ:=cq.trans c8;obtain⟨C,G,K,E,J,L,F,P⟩:=(y.gt aZ I).jd;go_wp2_with fail;go_at_call 204;refine(lz base g _ aU bg.v1).mono ?_;rintro e w1⟨dc,bF,bB,rfl,rfl⟩;go_wp2_with fail;go_at_call 138;refine(iB base g _ aU<|ov bn.len).mono ?_;rintro e dY⟨rfl,b7,c9⟩;have bi:=bg.simp (x:=⟨9,0,0,0,dc⟩)<|lM 0 dc X X bF X;have aL:=bn.trans<|GP.put _ ⟨9,0,0,0,dc⟩;have dl:=aZ.trans c9;have ai:rI A.l (i3.put (i3.put cP ⟨18,0,0,0,0⟩) ⟨9,0,0,0,dc⟩).l:=(dh.trans (GP.put _ _).kp).trans (GP.put _ _).kp;generalize cC:i3.put (i3.put cP ⟨18,0,0,0,0⟩) ⟨9,0,0,0,dc⟩=dM at*;obtain⟨C,G,K,E,J,L,F,P⟩:=(y.gt dl I).jd;go_wp2_with fail;go_at_call 137;refine(aX nl AL _ cL z _ _ p _ rfl (ov bQ.len) bQ (dL.gt dl I) (λu j=>(dy u j).gt dl I I) (by rw[aL.pv];exact T.gt dl) b7 (bi.le X)<|ov aL.len).mono ?_;rintro e dB⟨rfl,dx,dK,ce,da,dg,aN⟩;have cI:=GK.of bi aN<|dg.le<|R_ _;have bo:=aL.trans aN;have cz:=dl.trans da;have az:=ai.trans aN.kp;have dn:=(az.2 _ X).trans dT;have dG:k<dx.l.length:=ov az.1;obtain⟨a7,aq,cx,dj,b5,bP⟩:=box1 dB 3 #[Y k];have cK:Ns a7 3 (j_ aq) [(k:Int)]:=jv (n:=1) (s:=1) bP rfl;have df:=ce.hF b5;go_wp2_with fail;go_at_call 205;refine(mR base g _ 1 1 [(k:Int)] df (ov bo.len) cK rfl (by intro i f;simp at f;subst f;exact⟨X,X⟩) X).mono ?_;rintro e dZ⟨rfl,cf,de⟩;have cJ:=cI.here k<|.inl dn;have bp:=bo.trans<|GP.here _ [(k:Int)];have cF:=(cz.trans<|.jS b5).trans de;go_wp2;refine en_ ?_;rw[ax.out];have du:=bp.rt.trans dz.out;exact⟨rfl,_,_,cf.drop v.rts _ du,(Gt.jS N).trans cF,cJ.Fj _,(bw.Ee bp).le X⟩
def x8(base g:Nat)(w:World)(b:t.h7=9)(d:∀e w',R e w'->e=.returned wB)(h:∀W,J [] w W->Calls prog 201 #[q_ g,.agg t.g_] W R):Calls prog 175 #[q_ g,.agg t.g_] w R:=by
 refine ig λy o=>?_;obtain⟨W,r,C,I,x,a⟩:=box1 w 229 t.g_;replace a:Bk W r 229 #[Y 9,.string t.name,.string t.fn,Y t.n,Y t.op,.slice t.AE t.es.length t.cE,.slice t.AB t.bs.length t.cB,.slice t.AL t.ls.length t.cL]:=by rw[<-b];exact a
 obtain⟨z,E,G,B,F,H,D,K⟩:=a.jd;have n:=O<|h W x;have q:=O d;have f:t.g_=#[Y 9,.string t.name,.string t.fn,Y t.n,Y t.op,.slice t.AE t.es.length t.cE,.slice t.AB t.bs.length t.cB,.slice t.AL t.ls.length t.cL]:=by rw[<-b];rfl
 have p:=O f;clear b h d f;go_enter func175,ntmps175;go_wp2_with fail;go_at_call 201;rw[<-p.out];refine n.out.mono ?_;intro e w' c;have u:=q.out e w' c;subst u;have j:=O c;clear c;go_wp2;refine rn_ ?_;rw[o.out];exact j.out
def sq(base g:Nat)(k:Int)(w:World)(a:t.h7=k)(y:k=5\/k=6)(d:∀e w',R e w'->e=.returned wB)(h:∀W,J [] w W->Calls prog 202 #[q_ g,.agg t.g_] W R):Calls prog 175 #[q_ g,.agg t.g_] w R:=by
 refine ig λz o=>?_;obtain⟨W,r,D,K,x,b⟩:=box1 w 229 t.g_;replace b:Bk W r 229 #[Y k,.string t.name,.string t.fn,Y t.n,Y t.op,.slice t.AE t.es.length t.cE,.slice t.AB t.bs.length t.cB,.slice t.AL t.ls.length t.cL]:=by rw[<-a];exact b
 obtain⟨B,F,H,C,G,I,E,L⟩:=b.jd;have n:=O<|h W x;have q:=O d;have f:t.g_=#[Y k,.string t.name,.string t.fn,Y t.n,Y t.op,.slice t.AE t.es.length t.cE,.slice t.AB t.bs.length t.cB,.slice t.AL t.ls.length t.cL]:=by rw[<-a];rfl
 have p:=O f;clear a h d f;rcases y with rfl|rfl
 all_goals
  go_enter func175,ntmps175;go_wp2_with fail;go_at_call 202;rw[<-p.out];refine n.out.mono ?_;intro e w' c;have u:=q.out e w' c;subst u;have j:=O c;clear c;go_wp2;refine rn_ ?_;rw[o.out];exact j.out
def oW.le{base g:Nat}{v:i3}{a n:Nat}{w:World}{e:Ending}(h:oW base g v a n w e w')(o:n<=m):oW base g v a m w e w':=by
 obtain⟨d,q,p,f,j,b,c⟩:=h;exact⟨d,q,p,f,j,b,c.le o⟩
def oW.gr{base g:Nat}{v:i3}{a n:Nat}{w b:World}{e:Ending}(h:oW base g v a n b e w')(p:J [] w b):oW base g v a n w e w':=by
 obtain⟨f,r,q,j,o,c,d⟩:=h;exact⟨f,r,q,j,(Gt.jS p).trans o,c,d⟩
def nh.Gu{x f:ByteArray}{n a:Int}{b L:Bool}(h:nh V 9 x f n a m b L):f=jg/\n=0/\a=0:=by cases h;exact⟨rfl,rfl,rfl⟩
def nh.Gw{x f:ByteArray}{n a:Int}{b L:Bool}(h:nh V 5 x f n a m b L):f=jg/\n=0/\a=0/\m=2:=by cases h;exact⟨rfl,rfl,rfl,rfl⟩
def nh.Gv{x f:ByteArray}{n a:Int}{b L:Bool}(h:nh V 6 x f n a m b L):x=jg/\f=jg/\n=0/\a=0/\m=1:=by cases h;exact⟨rfl,rfl,rfl,rfl,rfl⟩
def y3(base g:Nat)(V:QU):∀n,DY base g V n
 |0=>by
  intro ad t v q p w T;obtain⟨r,_,_,_,_,h,_⟩:=T.one;omega
 |n+1=>by
  have I:=vp base g V n<|y3 base g V n;intro ad t v q p w T ky N H F iS;obtain⟨r,nb,nl,ae,af,hD,bC,y,hB,hL,O,B,Y⟩:=T.one;have ag:r=n:=X;subst ag;obtain⟨Q,G,o,x,W,S⟩:=ky.parts;obtain⟨k,Z,ah,ai,aj,D,L,j,C,K,J,E,M,P⟩:=t;simp only[ST.h7,ST.name,ST.fn,ST.n,ST.op,ST.es,ST.bs,ST.ls,ST.AE,ST.AB,ST.AL]at y hB hL O B Y Q G o x W S;by_cases ak:k=9;subst ak;have z:=y.Gu;obtain⟨rfl,rfl,rfl⟩:=z;refine x8 base g w rfl (λe w' h=>h.1) λf a=>?_;refine(zH base g V r Z D L j C K J E M P v q p f nb nl I B Y (o.hF a) (λd c=>(x d c).hF a) (W.hF a) (λd c=>(S d c).hF a) (N.gt (.jS a:Gt base gT w f)) (H.hF a) F X).mono λe w' h=>(h.gr a).le X;by_cases au:k=5
  .subst au;have z:=y.Gw;obtain⟨rfl,rfl,rfl,U⟩:=z;obtain⟨b,u,rfl⟩:∃b u,j=[b,u]:=by
    match j,U with
    |[b,u],_=>exact⟨b,u,rfl⟩
   refine sq base g 5 w rfl (.inl rfl) (λe w' h=>h.1) λf a=>?_;exact(B0 base g V r Z D L b u C K J E M P v q p f nb I B (o.hF a) (λd c=>(x d c).hF a) O (Q.hF a) (λd c=>(G d c).hF a) (N.gt (.jS a:Gt base gT w f)) (H.hF a) F X).mono λe w' h=>(h.gr a).le X
  by_cases u:k=6
  .subst u;have z:=y.Gv;obtain⟨rfl,rfl,rfl,rfl,U⟩:=z;obtain⟨b,rfl⟩:∃b,j=[b]:=by
    match j,U with
    |[b],_=>exact⟨b,rfl⟩
   refine sq base g 6 w rfl (.inr rfl) (λe w' h=>h.1) λf a=>?_;exact(yx base g V r jg D L b C K J E M P v q p f nb I B (o.hF a) (λd c=>(x d c).hF a) O (Q.hF a) (λd c=>(G d c).hF a) (N.gt (.jS a:Gt base gT w f)) (H.hF a) F X).mono λe w' h=>(h.gr a).le X
  exact(wE base g V r k Z ah ai aj D L j C K J E M P v q p w ae af nb nl I B Y o x W S y ak u au O Q G N H F X).mono λe w' h=>h.le X
def yy(base g:Nat)(V:QU)(a:Nat):vG base g V a:=vp base g V a<|y3 base g V a
def ny.C1{base g:Nat}{w:World}{s:GS}(h:ny base w g s)(VA:OA)(vc:Nat)(vs:QU)(p:Bs w VA vs):
 ny base (((w.setCell (Z g 6)<|.slice VA vs.length vc).setCell (Z g 7)<|Y 0).setCell (Z g 8)<|Y 0) g {s with VA:=VA,vc:=vc,vs:=vs,hidden:=0,most:=0}/\Gt base gT w (((w.setCell (Z g 6)<|.slice VA vs.length vc).setCell (Z g 7)<|Y 0).setCell (Z g 8)<|Y 0):=by
 have b:=h.hg.hW 6<|.slice VA vs.length vc;have c:=b.hW 7<|Y 0;have n:=c.hW 8<|Y 0;have a:∀e,e≠210->mZ e w (((w.setCell (Z g 6)<|.slice VA vs.length vc).setCell (Z g 7)<|Y 0).setCell (Z g 8)<|Y 0):=λe d=>((mZ.set h.hg (Ne.symm d) _ _).trans<|.set b (Ne.symm d) _ _).trans<|.set c (Ne.symm d) _ _;refine⟨⟨n,h.hbg,(a _ I).own h.hl,(a _ I).own h.hc,(a _ I).own h.ho,λf j=>⟨(a 30 I).bk (h.hb f j).1,(h.hb f j).2⟩,h.hbn,λq o=>(a 3 I).own<|h.hi q o,h.ky,(a 9 I).sl p,H_ h.hz (a 9 I).1⟩,((Gt.set h.hg h.hbg I _ _).trans<|.set b h.hbg I _ _).trans<|.set c h.hbg I _ _⟩
def ny.Fg{base g:Nat}{w:World}{s:GS}(h:ny base w g s)(E:s.rt++s.os=[])(A':OA)(c':Nat)(i:Int)(p:w.grownBy w' (Value.slice s.EA s.es.length s.ec).ownBlock)(K:w'.ownsRow base 3 1 (.slice A' (s.es.length+1) c') (s.es.length+1)<|s.es.map (Y)++[Y i])(d:(Value.slice A' (s.es.length+1) c').ownBlock=(Value.slice s.EA s.es.length s.ec).ownBlock\/(Value.slice A' (s.es.length+1) c').ownBlock=some w.heap.size):
 Bk w' g 210 s.g_/\ny base (w'.setCell (Z g 3)<|.slice A' (s.es.length+1) c') g {s with EA:=A',ec:=c',es:=s.es++[i]}/\Gt base gT w (w'.setCell (Z g 3)<|.slice A' (s.es.length+1) c'):=by
 have y:=h.hi (.slice s.EA s.es.length s.ec,s.es) (by simp[GS.rows]);have B:=h.hi (.slice s.FA s.fs.length s.fc,s.fs) (by simp[GS.rows]);have G:=h.ky;have L:s.rows=[(.slice s.EA s.es.length s.ec,s.es)]++[(.slice s.FA s.fs.length s.fc,s.fs)]:=by unfold GS.rows;rw[E];rfl
 rw[L,kn]at G;have x:∀c,(Value.slice s.FA s.fs.length s.fc).ownBlock=some c->(Value.slice s.EA s.es.length s.ec).ownBlock≠some c:=λc n=>G.2 c n (.slice s.EA s.es.length s.ec,s.es) s_;have F:∀e,e≠3->mZ e w w':=λe a=>.app p y<|Ne.symm a;have j:=(F _ I).bk h.hg;have H:∀e,e≠210->mZ e w' (w'.setCell (Z g 3)<|.slice A' (s.es.length+1) c'):=λe a=>.set j (Ne.symm a) _ _;have f:=λe C M=>(F e C).trans<|H e M;have z:GS.rows {s with EA:=A',ec:=c',es:=s.es++[i]}=[(.slice A' (s.es.length+1) c',s.es++[i])]++[(.slice s.FA s.fs.length s.fc,s.fs)]:=by unfold GS.rows;rw[E];simp
 refine⟨j,⟨?_,h.hbg,(f _ I I).own h.hl,(f _ I I).own h.hc,(f _ I I).own h.ho,λu D=>⟨(f 30 I I).bk (h.hb u D).1,(h.hb u D).2⟩,h.hbn,λo b=>?_,?_,(f 9 I I).sl h.hv,H_ h.hz (f 9 I I).1⟩,(Gt.app p y I).trans<|.set j h.hbg I _ _⟩;have:=j.hW 3<|.slice A' (s.es.length+1) c';exact NQ;rw[z]at b;refine(H 3 I).own ?_;rcases X_.1 b with b|b
 have:o=(.slice A' (s.es.length+1) c',s.es++[i]):=zu b;subst this;simpa using K;have:o=(.slice s.FA s.fs.length s.fc,s.fs):=zu b;subst this;exact oe B (J.i6 p) λN r a=>x N a<|jQ.1 r;rw[z,kn];refine⟨?_,λc n o b a=>?_⟩
 .simp only[List.filterMap_cons,List.filterMap_nil];split<;>simp
 have:o=(.slice A' (s.es.length+1) c',s.es++[i]):=zu b;subst this;rcases d with r|r
 exact x c n<|r.symm.trans a;have C:=(kK B n).2;have:some w.heap.size=some c:=r.symm.trans a;injection this;omega
def ny.Ff{base g:Nat}{w:World}{s:GS}(h:ny base w g s)(F:s.rt++s.os=[])(A':OA)(c':Nat)(i:Int)(p:w.grownBy w' (Value.slice s.FA s.fs.length s.fc).ownBlock)(K:w'.ownsRow base 3 1 (.slice A' (s.fs.length+1) c') (s.fs.length+1)<|s.fs.map (Y)++[Y i])(d:(Value.slice A' (s.fs.length+1) c').ownBlock=(Value.slice s.FA s.fs.length s.fc).ownBlock\/(Value.slice A' (s.fs.length+1) c').ownBlock=some w.heap.size):
 Bk w' g 210 s.g_/\ny base (w'.setCell (Z g 4)<|.slice A' (s.fs.length+1) c') g {s with FA:=A',fc:=c',fs:=s.fs++[i]}/\Gt base gT w (w'.setCell (Z g 4)<|.slice A' (s.fs.length+1) c'):=by
 have z:=h.hi (.slice s.FA s.fs.length s.fc,s.fs) (by simp[GS.rows]);have C:=h.hi (.slice s.EA s.es.length s.ec,s.es) (by simp[GS.rows]);have u:=h.ky;have L:s.rows=[(.slice s.EA s.es.length s.ec,s.es)]++[(.slice s.FA s.fs.length s.fc,s.fs)]:=by unfold GS.rows;rw[F];rfl
 rw[L,kn]at u;have y:∀c,(Value.slice s.FA s.fs.length s.fc).ownBlock=some c->(Value.slice s.EA s.es.length s.ec).ownBlock≠some c:=λc n=>u.2 c n (.slice s.EA s.es.length s.ec,s.es) s_;have G:∀e,e≠3->mZ e w w':=λe a=>.app p z<|Ne.symm a;have j:=(G _ I).bk h.hg;have H:∀e,e≠210->mZ e w' (w'.setCell (Z g 4)<|.slice A' (s.fs.length+1) c'):=λe a=>.set j (Ne.symm a) _ _;have f:=λe D M=>(G e D).trans<|H e M;have B:GS.rows {s with FA:=A',fc:=c',fs:=s.fs++[i]}=[(.slice s.EA s.es.length s.ec,s.es)]++[(.slice A' (s.fs.length+1) c',s.fs++[i])]:=by unfold GS.rows;rw[F];simp
 refine⟨j,⟨?_,h.hbg,(f _ I I).own h.hl,(f _ I I).own h.hc,(f _ I I).own h.ho,λx E=>⟨(f 30 I I).bk (h.hb x E).1,(h.hb x E).2⟩,h.hbn,λo b=>?_,?_,(f 9 I I).sl h.hv,H_ h.hz (f 9 I I).1⟩,(Gt.app p z I).trans<|.set j h.hbg I _ _⟩;have:=j.hW 4<|.slice A' (s.fs.length+1) c';exact NQ;rw[B]at b;refine(H 3 I).own ?_;rcases X_.1 b with b|b
 have:o=(.slice s.EA s.es.length s.ec,s.es):=zu b;subst this;exact oe C (J.i6 p) λN r a=>y N (jQ.1 r) a;have:o=(.slice A' (s.fs.length+1) c',s.fs++[i]):=zu b;subst this;simpa using K;rw[B,kn];refine⟨u.1,λc n o b a=>?_⟩;have:o=(.slice s.EA s.es.length s.ec,s.es):=zu b;subst this;rcases d with r|r
 exact y c (r.symm.trans n) a;have D:=(kK C a).2;have:some w.heap.size=some c:=r.symm.trans n;injection this;omega
def pp.first:pp [⟨21,0,0,0,0⟩] 1 [] [] 0 where
 code:=⟨I,λi b=>by
  have:i=0:=zu b;subst this;show PF _ _ _ (⟨21,0,0,0,0⟩:In);unfold PF;rw[K_ I,K_ I];decide,I⟩
 x7:=by decide
 cs1:=λf d=>by cases d
 cs2:=λi b e=>by
  have:i=0:=zu b;subst this;simp at e
 qt:=λc a=>by cases a
 q:=by decide
 AW:=by decide
 sR:=λc a=>by cases a
structure DJ(k:Nat)(pv:Value)(n:Nat)(v:i3):Prop where
 pv:v.pv=pv
 el:v.es.length=k
 fl:v.fs.length=k
 e21:∀e∈v.es,0<=e/\e<v.l.length/\iG v.l e=21
 f64:∀f∈v.fs,2<=f/\f<=64
 len:v.l.length<=n
 ats:v.ats=[]
 rts:v.rts=[]
 ok:(k=0/\v.l=[]/\v.hC=0/\v.cs=[])\/∃q,pp v.l v.hC v.cs [] q/\q<v.l.length/\iG v.l ((v.l.length:Int)-1)=14
def DJ.mark{k n:Nat}{pv:Value}{v:i3}(h:DJ k pv n v):pp v.mark.l v.mark.hC v.mark.cs [] v.l.length/\0<=v.hC/\v.hC<=n:=by
 rcases h.ok with⟨_,a,b,c⟩|⟨d,a,b,_⟩
 have:=pp.first;unfold i3.mark;rw[a,b,c];exact⟨this,X,X⟩;refine⟨a.mark,?_,?_⟩
 .rw[a.x7];unfold jM;omega
 rw[a.x7];unfold jM;have:=Hw (λi:In=>i.op==21) v.l;have:=h.len;omega
def DJ.next{k n n' p:Nat}{pv:Value}{v t a:i3}{q:Int}(h:DJ k pv n v)(B:rI v.l t.l)(C:iG t.l v.l.length=21)(I:t.l.length=v.l.length+1)(f:t.es=v.es++[(v.l.length:Int)])(j:t.fs=v.fs)(z:t.pv=pv)(G:t.ats=[])(M:t.rts=[])(P:GP t a m)(H:GK a q p)(r:q<a.l.length)(y:iG a.l ((a.l.length:Int)-1)=14)(u:Int)(F:2<=u/\u<=64)(J:n+1+m<=n'):DJ (k+1) pv n' {a with fs:=a.fs++[u]}:=by
 have o:=by have d:=P.qt;rw[G]at d;simpa using d
 refine⟨P.pv.trans z,?_,?_,?_,?_,?_,o,P.rt.trans M,.inr ⟨q,?_,r,y⟩⟩;show a.es.length=k+1;rw[P.es,f,M_,h.el];rfl;show(a.fs++[u]).length=k+1;rw[M_,P.fs,j,h.fl];rfl;show ∀e∈a.es,0<=e/\e<a.l.length/\iG a.l e=21;rw[P.es,f];have c:=P.kp;intro e b;rcases X_.1 b with b|b
 obtain⟨d,D,E⟩:=h.e21 e b;have x:=c.1;exact⟨d,X,(c.2 e X).trans<|(B.2 e D).trans E⟩;have:e=(v.l.length:Int):=zu b;subst this;have x:=c.1;exact⟨X,X,(c.2 _ X).trans C⟩;show ∀c∈a.fs++[u],2<=c/\c<=64;intro c b;rcases X_.1 b with b|b
 rw[P.fs,j]at b;exact h.f64 c b;have:c=u:=zu b;subst this;exact F;show a.l.length<=n';have:=P.len;have:=h.len;omega;have:=H.ok;rw[o]at this;exact this
def pO(v:Int)(l:QR)(i:Nat):List In:=l.modify i λx=>⟨x.op,x.a,x.b,v,x.n⟩
def zU{v:Int}{l:QR}:(pO v l i).length=l.length:=by simp[pO]
def zT(h:k<l.length):pO v l k=l.set k ⟨l[k].op,l[k].a,l[k].b,v,l[k].n⟩:=by
 refine H1 (by simp[pO]) λi d f=>?_;simp only[pO,Hy,List.getElem_set];split;rename_i c;subst c;rfl;rfl
def vY(a:k<l.length):(l5 l).set (k*5+3) (Y v)=l5 (pO v l k):=by
 rw[zT v l k a];exact p5 In.E 5 (λ_=>rfl) l k 3 _ _ a X rfl
def Ad(es fs:QS)(l:QR)(i f:Nat):pO (fs.getD f 0) (my (es.getD f 0) l i) i=kg es fs l ((i:Int),(f:Int)):=by
 refine H1 (by simp[pO,my,kg]) λk a b=>?_;simp only[pO,my,kg,Hy,Hh];split<;>rfl
def ints_at(l:QS)(k:Nat)(h:k<l.length):(l.map<|Value.int .i64)[k]?=some (Y<|l.getD k 0):=by
 simp[Hg,h]
section
variable{base g:Nat}{w:World}{s:GS}
def ny.qL(h:ny base w g s){f:Nat}(D:s.l.length=m)(E:i<m)(B:s.es.length=3)(C:s.fs.length=3)(H:f<3):
 ∃a b R lc ec fc cur,s.L=some (Z a 0)/\base<=a/\Bk w a 189 cur/\w.cell? (Z g 1)=some (.slice (j_ a) m lc)/\w.cell? (Z g 3)=some (.slice (j_ b) 3 ec)/\w.cell? (Z g 4)=some (.slice (j_ R) 3 fc)/\
  w.cell? (Z b f)=some (Y<|s.es.getD f 0)/\w.cell? (Z R f)=some (Y<|s.fs.getD f 0)/\(∃j,w.cell? (Z a<|i*5+4)=some (Y j))/\∃j,w.cell? (Z a<|i*5+3)=some (Y j):=by
 obtain⟨a,cur,o,y,d,p⟩:=kN h.hl X;obtain⟨b,e,q,_,r,x⟩:=kN (h.hi (.slice s.EA s.es.length s.ec,s.es)<|by simp[GS.rows]) X;obtain⟨R,F,k,_,u,z⟩:=kN (h.hi (.slice s.FA s.fs.length s.fc,s.fs)<|by simp[GS.rows]) X;refine⟨a,b,R,s.lc,s.ec,s.fc,cur,o,y,d,?_,?_,?_,?_,?_,⟨(s.l[i]'X).n,?_⟩,⟨(s.l[i]'X).c,?_⟩⟩;exact(h.hg.f_ 1).trans (by show some (Value.slice s.L s.l.length s.lc)=_;rw[o,D]);exact(h.hg.f_ 3).trans (by show some (Value.slice s.EA s.es.length s.ec)=_;rw[q,B]);exact(h.hg.f_ 4).trans (by show some (Value.slice s.FA s.fs.length s.fc)=_;rw[k,C]);exact(r.f_ f).trans<|x _ _<|ints_at s.es f X;exact(u.f_ f).trans<|z _ _<|ints_at s.fs f X;exact(d.f_ _).trans<|p _ _<|(jr In.E 5 (λ_=>rfl) s.l i 4 X X).trans rfl;exact(d.f_ _).trans<|p _ _<|(jr In.E 5 (λ_=>rfl) s.l i 3 X X).trans rfl
def ny.Bi(h:ny base w g s){a:Nat}(j:s.L=some (Z a 0))(n:Bk w a 189 cur){k:Nat}{u:Value}{l:QR}(iS:l.length=s.l.length)(e:(l5 s.l).set (i*5+k) u=l5 l):
 ny base (w.setCell (Z a<|i*5+k) u) g {s with l:=l}:=by
 have d:∀e,e≠189->mZ e w (w.setCell (Z a<|i*5+k) u):=λe b=>.set n (Ne.symm b) _ _;have f:=h.hl;rw[j]at f;have c:=zb f (i*5+k) u;rw[e]at c;have o:s.g_=GS.g_ {s with l:=l}:=by unfold GS.g_;simp only[iS]
 exact h.sp (L:=s.L) (lc:=s.lc) (l:=l) (hC:=s.hC) (hidden:=s.hidden) (most:=s.most) (by rw[<-o];exact(d _ I).bk h.hg) (by rw[j,iS];exact c) λe b=>d e (by rintro rfl;revert b;decide)
def ny.Eh(h:ny base w g s){a:Nat}(c:s.L=some (Z a 0))(b:Bk w a 189 cur)(d:i<s.l.length)(u:Int):
 ny base (w.setCell (Z a<|i*5+4)<|Y u) g {s with l:=my u s.l i}:=h.Bi c b (lN _ _ _)<|rm u s.l i d
def ny.Ei(h:ny base w g s){a:Nat}(c:s.L=some (Z a 0))(b:Bk w a 189 cur)(d:i<s.l.length)(u:Int):
 ny base (w.setCell (Z a<|i*5+3)<|Y u) g {s with l:=pO u s.l i}:=h.Bi c b (zU)<|vY u s.l i d
end
