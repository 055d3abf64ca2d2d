import Derived.Test.YtenbhdilndfaeaaGreatM06
import Derived.Test.YtenbhdilndfaeaaGreatM15
set_option maxRecDepth 100000
set_option maxHeartbeats 0
set_option linter.all false
namespace Go.Proofs.YtenbhdilndfaeaaGreat
open Go.RowKit Go.Proofs.Tryz
variable{G:Prop}(d:Nat)(r:Int)
theorem HJ(h:G:=by
 have bX:=bO.trans aN;clear bB bO aN
 go_wp2_with fail
 go_at_call 138
 refine(ir base g _ _ _ _ _ _ _ bG (ov M.len)).mono ?_;rintro e bq⟨rfl,bL,br⟩;have cT:=bg.simp (x:=⟨15,0,0,0,0⟩) d_;have dn:=M.trans (GP.put _ ⟨15,0,0,0,0⟩);have O:=bX.trans br;clear bG bX br
 go_wp2_with fail
 go_at_call 138
 refine(ir base g _ _ _ _ _ _ _ bL (ov dn.len)).mono ?_;rintro e X⟨rfl,aM,G⟩;have bp:=cT.simp (x:=⟨9,0,0,0,r⟩) (lz 0 r o_ o_ bD o_);have dS:=dn.trans (GP.put _ ⟨9,0,0,0,r⟩);have aJ:=O.trans G;clear bL O G;go_wp2;refine en_ ?_;rw[ak.out];exact⟨rfl,_,_,aM,aJ,bp,dS.le o_⟩):G:=h
theorem IQ(h:G:=by
 go_wp2_with (go_at_call 138;refine(ir base g v1 _ _ _ _ _ _ a o_).mono ?_;rintro e w2⟨rfl,h2,J⟩)
 refine en_ ?_;rw[ak.out];exact⟨rfl,_,_,h2,bA.trans J,F.simp d_,(c.trans (GP.put v1 _)).le o_⟩):G:=h
theorem JQ(h:G:=by
 have e:s1.pv=.slice PA 3 pc:=by rw[<-c7,<-c.pv,<-bS];rfl
 have:=bM.hg.f_ 0
 unfold GS.g_ at this;rw[e]at this;exact this):G:=h
theorem KC(h:G:=by
 go_wp2;refine en_ ?_;rw[ak.out];exact⟨rfl,_,_,dL,(Gt.jC hg).trans dN,dP,dR.le o_⟩):G:=h
theorem infoIn:(prog.info? 189).map (λi=>(i.zero,i.size,i.bytes))=some (some (.agg #[i_ 0,i_ 0,i_ 0,i_ 0,i_ 0]),5,40):=by kernel_rfl
theorem infoPa:(prog.info? 219).map (λi=>(i.zero,i.size,i.bytes))=some (some (.agg #[i_ 0,i_ 0]),2,16):=by kernel_rfl
theorem infoPI:(prog.info? 313).map (λi=>(i.zero,i.size,i.bytes))=some (some (.pointer none),1,8):=by kernel_rfl
def mH(e:TypeId)(w w':World):Prop:=w.heap.size<=w'.heap.size/\∀(k:Nat) (cs:Array Value) (fz:Nat × Nat),w.heap[k]?=some (.cells cs e fz)->w'.heap[k]?=some (.cells cs e fz)
section
variable{e t:TypeId}{w w' w'':World}{g base size n:Nat}{cs:Array Value}{v:Value}{xs:List Value}
theorem mH.trans(h:mH e w w')(k:mH e w' w''):mH e w w'':=⟨G_ h.1 k.1,λi cs fz hi=>k.2 i cs fz (h.2 i cs fz hi)⟩
theorem mH.jC(h:Gr [] w w'):mH e w w':=⟨h.size,λ_ _ _ hk=>(h.block _ (k6 hk) s_).trans hk⟩
theorem mH.one(h:Gr [g] w w')(hk:Bk w g t cs)(ao:t≠e):mH e w w':=⟨h.size,λk c fz be=>by
 have a:k≠g:=by
  rintro rfl;unfold Bk at hk;rw[hk]at be;injection be with be;injection be with _ ht;exact ao ht
 exact(h.block k (k6 be) (zu a)).trans be⟩
theorem mH.set(hk:Bk w g t cs)(ao:t≠e)(i:Nat)(u:Value):mH e w (w.setCell (c_ g i) u):=.one ((F_ [g] w).setCell (p:=(c_ g i)) (.inl s_) u) hk ao
theorem qy(h:w.ownsRow base t size v n xs){k:Nat}(hk:v.ownBlock=some k):base<=k/\∃cs,Bk w k t cs:=by
 rcases h.2 with⟨rfl,_⟩|⟨g,lW,cur,rfl,h2,h3,_⟩
 .cases hk
 .have:g=k:=by simpa[Value.ownBlock]using hk
  subst this;exact⟨h2,cur,h3⟩
theorem mH.app(hg:w.grownBy w' v.ownBlock)(h:w.ownsRow base t size v n xs)(ao:t≠e):mH e w w':=⟨hg.size,λk c fz be=>by
 refine(hg.block k (k6 be) λhe=>?_).trans be;obtain⟨_,cs,hb⟩:=qy h he.symm;unfold Bk at hb;rw[hb]at be;injection be with be;injection be with _ ht
 exact ao ht⟩
theorem mH.own(k:mH e w w')(h:w.ownsRow base e size v n xs):w'.ownsRow base e size v n xs:=by
 refine⟨h.1,?_⟩
 rcases h.2 with h0|⟨g,lW,cur,rfl,h2,h3,au⟩
 .exact .inl h0
 .exact .inr ⟨g,lW,cur,rfl,h2,k.2 _ _ _ h3,au⟩
theorem mH.sl{A:OA}(k:mH e w w')(h:Sl w e size A n xs):Sl w' e size A n xs:=⟨h.1,λhn=>by
 obtain⟨b,off,cs,fz,hA,hb,hc⟩:=h.2 hn
 exact⟨b,off,cs,fz,hA,k.2 _ _ _ hb,hc⟩⟩
theorem mH.bk(k:mH e w w')(h:Bk w g e cs):Bk w' g e cs:=k.2 _ _ _ h
theorem Gt.app{T:List TypeId}(hg:w.grownBy w' v.ownBlock)(h:w.ownsRow base t size v n xs)(ht:t∈T):Gt base T w w':=.grown hg λg hk=>by
 obtain⟨h1,cs,h2⟩:=qy h hk;exact⟨h1,cs,t,_,h2,ht⟩
end
structure At where
 box:Nat
 A:Option Addr
 c:Nat
 is:List Int
structure GS where
 pv:Value
 VA:Option Addr
 vc:Nat
 vs:List ByteArray
 L:Option Addr
 lc:Nat
 l:List In
 hF:Int
 EA:Option Addr
 ec:Nat
 es:List Int
 FA:Option Addr
 fc:Nat
 fs:List Int
 CA:Option Addr
 cc:Nat
 cs:List (Int × Int)
 hidden:Int
 most:Int
 OA:Option Addr
 oc:Nat
 os:List At
 rt:List At
def GS.lg(s:GS):iU:=⟨s.pv,s.vs,s.l,s.hF,s.es,s.fs,s.cs,s.hidden,s.most,(s.os.map λa=>(a.box,a.is)),s.rt.map λa=>(a.box,a.is)⟩
def GS.g_(s:GS):Array Value:=#[s.pv,.slice s.L s.l.length s.lc,i_ s.hF,.slice s.EA s.es.length s.ec,.slice s.FA s.fs.length s.fc,.slice s.CA s.cs.length s.cc,.slice s.VA s.vs.length s.vc,i_ s.hidden,i_ s.most,.slice s.OA s.os.length s.oc]
def mU(cs:List (Int × Int)):List Value:=cs.flatMap λp=>[i_ p.1,i_ p.2]
def GS.rows(s:GS):List (Value × List Int):=(.slice s.EA s.es.length s.ec,s.es)::(.slice s.FA s.fs.length s.fc,s.fs)::(s.rt++s.os).map λa=>(.slice a.A a.is.length a.c,a.is)
def gT:List TypeId:=[210,189,3,219,313,30]
structure mX(base:Nat)(w:World)(g:Nat)(s:GS):Prop where
 hg:Bk w g 210 s.g_
 hbg:base<=g
 hl:w.ownsRow base 189 5 (.slice s.L s.l.length s.lc) s.l.length (lP s.l)
 hc:w.ownsRow base 219 2 (.slice s.CA s.cs.length s.cc) s.cs.length (mU s.cs)
 ho:w.ownsRow base 313 1 (.slice s.OA s.os.length s.oc) s.os.length (s.os.map λa=>q_ a.box)
 hb:∀a∈s.rt++s.os,Bk w a.box 30 #[.slice a.A a.is.length a.c]/\base<=a.box
 hbn:((s.rt++s.os).map At.box).Nodup
 hi:∀r∈s.rows,w.ownsRow base 3 1 r.1 r.2.length (r.2.map (i_))
 kh:(s.rows.filterMap λr=>r.1.ownBlock).Nodup
 hv:Bs w s.VA s.vs
 hz:base<=w.heap.size
def lD(base:Nat)(w:World)(g:Nat)(v:iU):Prop:=∃s:GS,s.lg=v/\mX base w g s
section
variable{base g:Nat}{w w':World}{s:GS}
theorem mX.hG(h:mX base w g s)(k:Gr [] w w'):mX base w' g s:=
 ⟨h.hg.hG k,h.hbg,iK h.hl k,iK h.hc k,iK h.ho k,λa ha=>⟨(h.hb a ha).1.hG k,(h.hb a ha).2⟩,h.hbn,λr hr=>iK (h.hi r hr) k,h.kh,Sl.hG h.hv k,G_ h.hz k.size⟩
theorem lD.hG{v:iU}(h:lD base w g v)(k:Gr [] w w'):lD base w' g v:=by
 obtain⟨s,h1,h2⟩:=h;exact⟨s,h1,h2.hG k⟩
theorem mX.rP(h:mX base w g s){L:OA}{lc:Nat}{l:List In}{hF hidden most:Int}(hg:Bk w' g 210 (GS.g_ {s with L:=L,lc:=lc,l:=l,hF:=hF,hidden:=hidden,most:=most}))
 (hl:w'.ownsRow base 189 5 (.slice L l.length lc) l.length (lP l)) (k:∀e∈[219,313,30,3,9],mH e w w'):
 mX base w' g {s with L:=L,lc:=lc,l:=l,hF:=hF,hidden:=hidden,most:=most}:=
 ⟨hg,h.hbg,hl,(k _ s_).own h.hc,(k _ s_).own h.ho,λa ha=>⟨(k 30 s_).bk (h.hb a ha).1,(h.hb a ha).2⟩,h.hbn,λr hr=>(k 3 s_).own (h.hi r hr),h.kh,(k 9 s_).sl h.hv,G_ h.hz (k 9 s_).1⟩
end
def A3(base g:Nat)(v:iU)(u:Value)(w:World)(e:Ending)(w':World):Prop:=e=.returned u/\lD base w' g v/\Gt base gT w w'
def Dz(base g:Nat)(s:GS)(x:In)(w:World)(e:Ending)(w':World):Prop:=∃(L:OA) (lc:Nat),e=.returned (i_ s.l.length)/\mX base w' g {s with L:=L,lc:=lc,l:=s.l++[x]}/\Gt base gT w w'/\∀e,e≠189->e≠210->mH e w w'
theorem mv(base g:Nat)(s:GS)(o a b c n:Int)(w:World)(h:mX base w g s)(hn:s.l.length<=100000):
 Calls prog 138 #[q_ g,i_ o,i_ a,i_ b,i_ c,i_ n] w (Dz base g s ⟨o,a,b,c,n⟩ w):=by
 refine ia λQ ak=>?_
 obtain⟨bF,bE,bt,a8,bo⟩:=info_parts infoIn;have ad:w.cell? (c_ g 1)=some (.slice s.L s.l.length s.lc):=h.hg.f_ 1;obtain⟨W,x,aT,hx,I,hB⟩:=box1 w 189 #[i_ o,i_ a,i_ b,i_ c,i_ n];have h1:=h.hG I;have hl1:=h1.hl;have a7:Sl W 189 5 (j_ x) 1 (lP [⟨o,a,b,c,n⟩]):=jj (n:=1) hB rfl;have hz:=h1.hz
 go_enter func138,ntmps138
 go_wp2_with (at_builtin;refine j4 rfl _ _ _ rfl base 189 bF _ 5 40 underlying24 bE bt a8 bo rfl d_ d_ s.L s.l.length s.lc _ rfl hl1 _ 1 1 _ rfl a7 (xf _) o_ hz ?_;intro C b8 aD b6 bC _;have ai:=(mH.app (e:=210) bC hl1 d_).bk h1.hg;have f7:=ai.hH 1;have y:aD.cell? (c_ g 1)=some (.slice s.L s.l.length s.lc):=ai.f_ 1)
 rw[ak.out];have D:=ai.hW 1 (.slice C (s.l.length+1) b8)
 have f:∀e,e≠189->e≠210->mH e w (aD.setCell (c_ g 1) (.slice C (s.l.length+1) b8)):=λe h1' d=>((mH.jC I).trans (.app bC hl1 (Ne.symm h1'))).trans (.set ai (Ne.symm d) _ _)
 refine⟨C,b8,j9 s_,h.rP (hidden:=s.hidden) (most:=s.most) (hF:=s.hF) ?_ ?_ λe he=>f e (by rintro rfl;revert he;decide) (by rintro rfl;revert he;decide),?_,f⟩
 .unfold GS.g_;rw[J_];exact D
 .rw[J_,tQ];exact(mH.set ai d_ _ _).own b6
 .exact((Gt.jC I).trans (.app bC hl1 d_)).trans (.set ai h1.hbg d_ _ _)
theorem ir(base g:Nat)(v:iU)(o a b c n:Int)(w:World)(h:lD base w g v)(hn:v.l.length<=100000):
 Calls prog 138 #[q_ g,i_ o,i_ a,i_ b,i_ c,i_ n] w (A3 base g (v.put ⟨o,a,b,c,n⟩) (i_ v.l.length) w):=by
 obtain⟨s,rfl,h⟩:=h
 exact(mv base g s o a b c n w h hn).mono λe w'⟨L,lc,h1,h2,h3,_⟩=>⟨h1,⟨_,rfl,h2⟩,h3⟩
theorem mX.set{base g:Nat}{w:World}{s:GS}(h:mX base w g s)(i:Nat)(u:Value){hF hidden most:Int}(D:s.g_.setIfInBounds i u=GS.g_ {s with hF:=hF,hidden:=hidden,most:=most}):
 mX base (w.setCell ⟨g,i,none⟩ u) g {s with hF:=hF,hidden:=hidden,most:=most}:=
 h.rP (L:=s.L) (lc:=s.lc) (l:=s.l) (by rw[<-D];exact h.hg.hW i u) ((mH.set h.hg d_ i u).own h.hl) λe he=>.set h.hg (by rintro rfl;revert he;decide) i u
theorem mX.yW{base g:Nat}{w:World}{s:GS}(h:mX base w g s)(i:Nat)(u:Value):Gt base gT w (w.setCell ⟨g,i,none⟩ u):=.set h.hg h.hbg d_ i u
def DC(base g:Nat)(s:GS)(w:World)(e:Ending)(w':World):Prop:=∃(L:OA) (lc:Nat),e=.returned (i_ s.l.length)/\mX base w' g {s with L:=L,lc:=lc,l:=s.l++[⟨21,0,0,0,s.hF⟩],hF:=s.hF+1}/\Gt base gT w w'/\∀e,e≠189->e≠210->mH e w w'
theorem rH(base g:Nat)(s:GS)(w:World)(h:mX base w g s)(hn:s.l.length<=100000)(h0:0<=s.hF)(h1:s.hF<=100000):
 Calls prog 136 #[.pointer (some ⟨g,0,none⟩)] w (DC base g s w):=by
 refine ia λQ ak=>?_
 have ar:w.cell? ⟨g,2,none⟩=some (i_ s.hF):=h.hg.f_ 2;have b8:=h.hg.hH 2;have HA:=h_ (h.set 2 (i_ (s.hF+1)) (hF:=s.hF+1) (hidden:=s.hidden) (most:=s.most) rfl);have a6:=h_ (h.yW 2 (i_ (s.hF+1)));have bQ:=h_ h.hg
 go_enter func136,ntmps136
 go_wp2_with (go_at_call 138;refine(mv base g _ 21 0 0 0 s.hF _ HA.out hn).mono ?_;rintro e w2⟨L,lc,rfl,h2,J,aj⟩)
 rw[ak.out];exact⟨L,lc,rfl,h2,a6.out.trans J,λe h1 h2=>(mH.set bQ.out (Ne.symm h2) _ _).trans (aj e h1 h2)⟩
theorem mx(base g:Nat)(v:iU)(w:World)(h:lD base w g v)(hn:v.l.length<=100000)(h0:0<=v.hF)(h1:v.hF<=100000):
 Calls prog 136 #[.pointer (some ⟨g,0,none⟩)] w (A3 base g v.mark (i_ v.l.length) w):=by
 obtain⟨s,rfl,h⟩:=h
 exact(rH base g s w h hn h0 h1).mono λe w'⟨L,lc,h1,h2,h3,_⟩=>⟨h1,⟨_,rfl,h2⟩,h3⟩
theorem s4(base g:Nat)(v:iU)(w:World)(h:lD base w g v)(h0:0<=v.hidden)(h1:v.hidden<=100000)(h2:0<=v.most)(h3:v.most<=100000)(au:v.vs.length<=100000):
 Calls prog 206 #[.pointer (some ⟨g,0,none⟩)] w (A3 base g v.more (i_ (v.vs.length+v.hidden)) w):=by
 refine ia λQ ak=>?_
 obtain⟨s,rfl,h⟩:=h;have a:0<=s.hidden:=h0;have h1':s.hidden<=100000:=h1;have b:s.vs.length<=100000:=au;have y:w.cell? ⟨g,7,none⟩=some (i_ s.hidden):=h.hg.f_ 7;have f7:=h.hg.hH 7;have hA:=h.set 7 (i_ (s.hidden+1)) (hF:=s.hF) (hidden:=s.hidden+1) (most:=s.most) rfl;have a6:=h_ (h.yW 7 (i_ (s.hidden+1)))
 go_enter func206,ntmps206
 go_upto_region 2 with fail
 obtain⟨W,aT⟩:=mn_ (w.setCell ⟨g,7,none⟩ (i_ (s.hidden+1)));rw[aT]at hA a6 |-;clear aT y f7;have y:W.cell? ⟨g,7,none⟩=some (i_ (s.hidden+1)):=hA.hg.f_ 7;have b8:W.cell? ⟨g,8,none⟩=some (i_ s.most):=hA.hg.f_ 8;have f8:=hA.hg.hH 8
 go_region
 go_upto_region 3 with fail
 have hB:=(hA.set 8 (i_ (if s.most<s.hidden+1 then s.hidden+1 else s.most)) (hF:=s.hF) (hidden:=s.hidden+1) (most:=if s.most<s.hidden+1 then s.hidden+1 else s.most) rfl).hG (F_ [] _).drew;have aK:=h_ ((hA.yW 8 (i_ (if s.most<s.hidden+1 then s.hidden+1 else s.most))).trans (.jC (F_ [] _).drew));obtain⟨aH,bC⟩:=mn_ ((W.setCell ⟨g,8,none⟩ (i_ (if s.most<s.hidden+1 then s.hidden+1 else s.most))).drew);rw[bC]at hB aK |-;clear bC y b8 f8;have z:aH.cell? ⟨g,6,none⟩=some (.slice s.VA s.vs.length s.vc):=hB.hg.f_ 6;have y:aH.cell? ⟨g,7,none⟩=some (i_ (s.hidden+1)):=hB.hg.f_ 7
 go_quiet (fail)
 go_wp2;rw[ak.out];refine⟨j9 (by simp only[GS.lg];omega),⟨_,?_,hB.hG ((F_ [] _).drewN _)⟩,(a6.out.trans aK.out).trans (.jC ((F_ [] _).drewN _))⟩
 have e:(if s.most<s.hidden+1 then s.hidden+1 else s.most)=max s.most (s.hidden+1):=by split<;>omega
 simp only[GS.lg,iU.more,e]
def Dx(w:World)(e:Ending)(w':World):Prop:=∃r:Int,0<=r/\r<=9/\e=.returned (i_ r)/\w=w'
theorem lh(base g:Nat)(v:iU)(x:ByteArray)(w:World)(h:lD base w g v)(hn:v.vs.length<=9):
 Calls prog 204 #[.pointer (some ⟨g,0,none⟩),.string x] w (Dx w):=by
 refine ia λQ ak=>?_
 obtain⟨s,rfl,h⟩:=h;have hv:=h.hv;have hn:s.vs.length<=9:=hn;have z:w.cell? ⟨g,6,none⟩=some (.slice s.VA s.vs.length s.vc):=h.hg.f_ 6;generalize s.vs=vs at hv hn z;obtain⟨n,hn0⟩:=mn_ vs.length;have aW:=h_ hn0;rw[hn0]at hn z;clear hn0
 go_enter func204,ntmps204
 go_wp2
 go_loop [12] (λap=>∃k:Nat,k<=n/\ap=i_ k) (λap=>n-(intOf ap).toNat)
 case atStart=>exact⟨0,O_ _,gn⟩
 case round=>
  obtain⟨k,hk,rfl⟩:=hrel
  by_cases ag:k<n
  .obtain⟨b,off,hA,hc⟩:=Sl.f_ hv (ov aW.out);have az:k<vs.length:=ov aW.out;have ad:=hc k (.string vs[k]) (by rw[E7,M_ az];rfl);rw[hA]at z;clear hc;go_wp2
   .rw[ak.out];exact⟨k,o_,o_,rfl,rfl⟩
   .go_round
    case rel=>exact⟨k+1,o_,gn⟩
    case measure=>exact mz
  .go_wp2;rw[ak.out];exact⟨0,o_,o_,rfl,rfl⟩
theorem xR{w:World}{base:Nat}{e:TypeId}{size n c g:Nat}{xs:List Value}(h:w.ownsRow base e size (.slice (some ⟨g,0,none⟩) n c) n xs)(i:Nat)(u:Value):(w.setCell ⟨g,i,none⟩ u).ownsRow base e size (.slice (some ⟨g,0,none⟩) n c) n (xs.set i u):=by
 refine⟨by rw[ER];exact h.1,?_⟩
 rcases h.2 with⟨hv,hx⟩|⟨d,lW,cur,hv,hb,hg,h1,h2,h3,ht⟩
 .cases hv
 .injection hv with hA hn hc;injection hA with hA;injection hA with hA;subst hA;have o:Bk w g e cur:=hg;refine .inr ⟨g,lW,_,(by rw[hc]),hb,o.hW i u,h1,h2,by simpa using h3,?_⟩;rw[<-ht,GG,List.take_set]
theorem pu{α:Type}(E:α->List Value)(s:Nat)(hE:∀a,(E a).length=s):∀(l:List α) (k j:Nat) (r:α) (u:Value) (hk:k<l.length),j<s->E r=(E l[k]).set j u->(l.flatMap E).set (k*s+j) u=(l.set k r).flatMap E
 |[],k,j,r,u,hk,_,_=>by simp at hk
 |a::l,0,j,r,u,hk,hj,hr=>by
  simp only[E0,Gj,U_,FI];rw[List.set_append_left _ _ (by rw[hE];exact hj),hr]
  rfl
 |a::l,k+1,j,r,u,hk,hj,hr=>by
  have e:(k+1)*s+j=s+(k*s+j):=by rw[FJ,GX];omega
  simp only[E0,FC];rw[e,G4 _ _ (by rw[hE];omega),hE,Nat.add_sub_cancel_left,pu E s hE l k j r u (zu hk) hj hr]
theorem yt(v:Int)(l:List In)(k:Nat)(hk:k<l.length):l6 v l k=l.set k (l[k].oV v):=by
 refine F7 (by simp[l6]) λi h1 h2=>?_
 rw[ua v l k i (by rw[lA]at h1;exact h1),List.getElem_set];simp only[Fi];split
 .rename_i h;subst h
  rfl
 .rfl
theorem qE(v:Int)(l:List In)(k:Nat)(hk:k<l.length):(lP l).set (k*5+4) (i_ v)=lP (l6 v l k):=by
 rw[yt v l k hk];exact pu In.E 5 (λ_=>rfl) l k 4 _ _ hk o_ rfl
def ve:Value:=.tuple #[]
theorem mA(base g:Nat)(v:iU)(A:OA)(n c:Nat)(is:List Int)(w:World)(h:lD base w g v)(hl:v.l.length<=100000)(hA:Ns w 3 A is)(hn:is.length=n)(hi:∀i∈is,0<=i/\i<v.l.length)(bC:n<=100000):
 Calls prog 205 #[.pointer (some ⟨g,0,none⟩),.slice A n c] w (A3 base g (v.here is) ve w):=by
 refine ia λQ ak=>?_
 have aW:=h_ hn;clear hn
 go_enter func205,ntmps205
 go_wp2
 go_loopw [8] (λap w'=>∃k:Nat,k<=n/\ap=i_ k/\lD base w' g {v with l:=lH v.l.length v.l (is.take k)}/\Gt base gT w w'/\mH 3 w w') (λap _=>n-(intOf ap).toNat)
 case atStart=>exact⟨0,O_ _,gn,by simpa[lH]using h,.refl _ _ _,.jC (F_ [] _)⟩
 case round=>
  obtain⟨k,hk,rfl,I,av,dx⟩:=hrel;obtain⟨s,hs,I⟩:=I
  by_cases ag:k<n
  .have az:k<is.length:=ov aW.out;obtain⟨b,off,bn,hc⟩:=Sl.f_ (dx.sl hA) o_;have U:=hc k (i_ is[k]) (by rw[E7,M_ az];rfl);subst bn;clear hc;have dN:=hi is[k] (N_ az);obtain⟨i,aw⟩:∃i:Nat,is[k]=i:=⟨is[k].toNat,o_⟩;have aI:=h_ aw;rw[aw]at U dN;clear aw;have a7:s.l=lH v.l.length v.l (is.take k):=ED iU.l hs
   have B:s.l.length=v.l.length:=by rw[a7,i6]
   have aS:i<s.l.length:=o_;obtain⟨G,cur,aL,cO,ae,t⟩:=kA I.hl o_
   have ad:wr.cell? ⟨g,1,none⟩=some (.slice (some ⟨G,0,none⟩) s.l.length s.lc):=by rw[<-aL];exact I.hg.f_ 1
   have bH:=ae.hH (i*5+4);have ar:wr.cell? ⟨G,i*5+4,none⟩=some (i_ s.l[i].n):=(ae.f_ _).trans (t _ _ ((jh In.E 5 (λ_=>rfl) s.l i 4 aS o_).trans rfl));have bG:=h_ a7;have dm:=h_ B;have dC:=h_ aL;have d:=h_ hs;obtain⟨m,hm⟩:=mn_ s.l.length;have HM:=h_ hm;rw[hm]at ad aS;clear a7 B aL hs hm
   go_upto_region 3 with fail
   go_region
   go_wp2;go_roundw
   case rel=>
    have cr:mH 3 wr (wr.setCell ⟨G,i*5+4,none⟩ (i_ m)):=.set ae d_ _ _
    have a:∀e,e≠189->mH e wr (wr.setCell ⟨G,i*5+4,none⟩ (i_ m)):=λe he=>.set ae (Ne.symm he) _ _
    have a7:=I.hl;rw[dC.out]at a7;have C:=xR a7 (i*5+4) (i_ m);rw[qE m s.l i (by rw[HM.out];exact aS)]at C
    have j:s.g_=GS.g_ {s with l:=l6 m s.l i}:=by unfold GS.g_;simp only[lA]
    have f:=(I.rP (w':=wr.setCell ⟨G,i*5+4,none⟩ (i_ m)) (L:=s.L) (lc:=s.lc) (l:=l6 m s.l i) (hF:=s.hF) (hidden:=s.hidden) (most:=s.most) (by rw[<-j];exact(a _ d_).bk I.hg) (by rw[dC.out,lA];exact C) λe he=>a e (by rintro rfl;revert he;decide)).hG (F_ [] _).drew;refine⟨k+1,o_,gn,⟨_,?_,f⟩,av.trans ((Gt.set ae cO d_ _ _).trans (.jC (F_ [] _).drew)),(dx.trans cr).trans (.jC (F_ [] _).drew)⟩
    have aJ:lH v.l.length v.l (is.take (k+1))=l6 m s.l i:=by
     rw[W_ az,aI.out,bG.out]
     have:(m:Int)=v.l.length:=by rw[<-HM.out,dm.out]
     rw[this];unfold lH;rw[FZ]
     rfl
    have aG:=d.out;rw[aJ];exact Kt
   case measure=>exact mz
  .go_wp2;refine en_ ?_;rw[ak.out]
   have:k=n:=o_
   subst this;exact⟨rfl,⟨s,by rw[hs,EI (ov aW.out)];rfl,I⟩,av⟩
theorem ET.at_{w:World}{A:OA}{l:List ET}(h:Sl w 226 5 A l.length (l.flatMap ET.E)){k:Nat}(hk:k<l.length):∃b off,A=some (c_ b off)/\w.cell? (c_ b (off+k*5))=some (i_ l[k].h6)/\w.cell? (c_ b (off+k*5+1))=some (i_ l[k].n)/\
 w.cell? (c_ b (off+k*5+2))=some (.string l[k].name)/\w.cell? (c_ b (off+k*5+3))=some (i_ l[k].op)/\w.cell? (c_ b (off+k*5+4))=some (.slice l[k].A l[k].l.length l[k].c):=by
 obtain⟨b,off,hA,hc⟩:=Sl.f_ h o_
 have g:=λj hj=>jh ET.E 5 (λ_=>rfl) l k j hk hj
 exact JI
theorem Bk.cells5{w:World}{g:Nat}{t:TypeId}{a b c d e:Value}(h:Bk w g t #[a,b,c,d,e]):w.cell? (c_ g 0)=some a/\w.cell? (c_ g 1)=some b/\w.cell? (c_ g 2)=some c/\w.cell? (c_ g 3)=some d/\w.cell? (c_ g 4)=some e:=h.c5
def oz(base g:Nat)(v:iU)(D n:Nat)(w:World)(e:Ending)(w':World):Prop:=e=.returned ve/\∃v' q',lD base w' g v'/\Gt base gT w w'/\GK v' q' D/\GP v v' n
def zf:Nat->Nat|0=>1|d+1=>1+2*zf d
theorem qB:1<=zf d:=by induction d with|zero=>decide|succ d Z=>unfold zf;omega
theorem GK.sb{v:iU}{q:Int}{D:Nat}(h:GK v q D):0<=v.hF/\v.hF<=v.l.length:=by
 rw[h.ok.wL];refine⟨by unfold jG;omega,?_⟩;unfold jG
 have:=Fl (λi:In=>i.op==21) v.l
 omega
def Ce(base g:Nat)(V:List ByteArray)(d:Nat)(t:ET):Prop:=∀(r:Int) (v:iU) (q:Int) (D:Nat) (p:Nat->Prop) (w:World),0<=r->r+d<16->kk p w t->lD base w g v->GK v q D->v.l.length+zf d<=100000->
 Calls prog 203 #[q_ g,.agg t.g_,i_ r] w (oz base g v D (zf d) w)
theorem zL(n:Int)(h0:0<=r)(h1:r<16):lE ⟨1,r,0,0,n⟩=true:=by simp[lE,jS,i5,l8];omega
theorem pd(n:Int)(h0:0<=r)(h1:r<16)(h2:0<=n)(h3:n<64):lE ⟨8,r,0,0,n⟩=true:=by simp[lE,jS,i5,l8];omega
theorem zN(n:Int)(h0:0<=r)(h1:r<16)(h2:0<=n)(h3:n<=16):lE ⟨7,r,0,0,n⟩=true:=by simp[lE,jS,i5,l8];omega
theorem yr(n:Int)(h0:0<=r)(h1:r<16)(h2:0<=n)(h3:n<16):lE ⟨5,r,r,0,n⟩=true:=by simp[lE,jS,i5,l8];omega
theorem zO(n:Int)(h0:0<=r)(h1:r+1<16)(h2:1<=n)(h3:n<=11):lE ⟨4,r,r,r+1,n⟩=true:=by simp[lE,jS,i5,l8,pn];omega
theorem lz(n:Int)(h0:0<=r)(h1:r<16)(h2:0<=n)(h3:n<64):lE ⟨9,r,0,0,n⟩=true:=by simp[lE,jS,i5,l8];omega
theorem AF(base g:Nat)(V:List ByteArray)(d:Nat)(n:Int):Ce base g V d (jy n):=by
 intro r v q D p w h0 h1 _ I H iM
 refine ia λQ ak=>?_
 have hd:=qB d;obtain⟨W,x,aT,hx,hg,hB⟩:=box1 w 226 (jy n).g_;replace hB:Bk W x 226 #[i_ 1,i_ n,.string ByteArray.empty,i_ 0,n_]:=hB;obtain⟨U,ad,ar,aL,ao⟩:=hB.cells5
 go_enter func203,ntmps203
 go_wp2_with (go_at_call 138;refine(ir base g v _ _ _ _ _ _ (I.hG hg) o_).mono ?_;rintro e w2⟨rfl,h2,J⟩)
 refine en_ ?_;rw[ak.out];exact⟨rfl,_,_,h2,(Gt.jC hg).trans J,H.simp (zL r n h0 o_),(GP.put v _).le hd⟩
theorem AG(base g:Nat)(V:List ByteArray)(d:Nat)(n:Int)(hn0:0<=n)(hn1:n<=3):Ce base g V d (eNew n):=by
 intro r v q D p w h0 h1 _ I H iM
 refine ia λQ ak=>?_
 have hd:=qB d;obtain⟨W,x,aT,hx,hg,hB⟩:=box1 w 226 (eNew n).g_;replace hB:Bk W x 226 #[i_ 6,i_ n,.string ByteArray.empty,i_ 0,n_]:=hB;obtain⟨U,ad,ar,aL,ao⟩:=hB.cells5
 go_enter func203,ntmps203
 go_wp2_with (go_at_call 138;refine(ir base g v _ _ _ _ _ _ (I.hG hg) o_).mono ?_;rintro e w2⟨rfl,h2,J⟩)
 refine en_ ?_;rw[ak.out];exact⟨rfl,_,_,h2,(Gt.jC hg).trans J,H.simp (zN r n h0 o_ hn0 o_),(GP.put v _).le hd⟩
theorem vP(base g:Nat)(V:List ByteArray)(d:Nat)(s:ByteArray):Ce base g V d (jA s):=by
 intro r v q D p w h0 h1 _ I H iM
 refine ia λQ ak=>?_
 have hd:=qB d;have cp:=H.v1;obtain⟨W,x,aT,hx,hg,hB⟩:=box1 w 226 (jA s).g_;replace hB:Bk W x 226 #[i_ 3,i_ 0,.string s,i_ 0,n_]:=hB;obtain⟨U,ad,ar,aL,ao⟩:=hB.cells5
 go_enter func203,ntmps203
 go_wp2_with (first|(go_at_call 204;refine(lh base g v _ _ (I.hG hg) cp).mono ?_;rintro e w1⟨u,bg,bI,rfl,rfl⟩)|(go_at_call 138;refine(ir base g v _ _ _ _ _ _ (I.hG hg) o_).mono ?_;rintro e w2⟨rfl,h2,J⟩))
 refine en_ ?_;rw[ak.out];exact⟨rfl,_,_,h2,(Gt.jC hg).trans J,H.simp (pd r u h0 o_ bg o_),(GP.put v _).le hd⟩
theorem xj(base g:Nat)(V:List ByteArray)(d:Nat)(n:Int)(A:OA)(s:ByteArray)(hn0:0<=n)(hn1:n<=2):Ce base g V (d+1) (px n A (jA s)):=by
 intro r v q D p w h0 h1 hE I H iM
 refine ia λQ ak=>?_
 have hd:=qB d;have j:v.l.length+(1+2*zf d)<=100000:=iM;obtain⟨W,x,aT,hx,hg,hB⟩:=box1 w 226 (px n A (jA s)).g_;replace hB:Bk W x 226 #[i_ 4,i_ n,.string ByteArray.empty,i_ 0,.slice A 1 1]:=hB
 have a7:Sl w 226 5 A [jA s].length ([jA s].flatMap ET.E):=by cases hE with|mk t h _ _ _=>exact h
 have kh:kk p w (jA s):=by cases hE with|mk t _ _ _ h=>exact h _ (by simp[ET.l,px])
 obtain⟨b,off,hA,aw,c1,ai,aC,c4⟩:=ET.at_ (a7.hG hg) (k:=0) s_;subst hA;simp only[Gj,FV]at aw c1 ai aC c4;obtain⟨U,ad,ar,aL,ao⟩:=hB.cells5;have aX:=h_ (vP base g V d s r v q D p W h0 o_ (kh.hG hg) (I.hG hg) H o_);clear a7 hE
 go_enter func203,ntmps203
 go_wp2_with (first|(go_at_call 203;refine aX.out.mono ?_;rintro e w1⟨rfl,v1,bn,h1,hg1,F,be⟩;have E:=hB.gt hg1 d_;obtain⟨z0,aM,aV,z3,z4⟩:=E.cells5;have hl1:=be.len)|(go_at_call 138;refine(ir base g v1 _ _ _ _ _ _ h1 o_).mono ?_;rintro e w2⟨rfl,h2,J⟩))
 refine en_ ?_;rw[ak.out];exact⟨rfl,_,_,h2,((Gt.jC hg).trans hg1).trans J,(F.simp (yr r n h0 o_ hn0 o_)),(be.trans (GP.put v1 _)).le (show zf d+1<=1+2*zf d by omega)⟩
theorem AH(base g:Nat)(V:List ByteArray)(d:Nat)(o:Int)(A:OA)(a b:ET)(dG:1<=o)(cX:o<=11)(c:Ce base g V d a)(i:Ce base g V d b):Ce base g V (d+1) (pR o A a b):=by
 intro r v q D p w h0 h1 hE I H iM
 refine ia λQ ak=>?_
 have hd:=qB d;have j:v.l.length+(1+2*zf d)<=100000:=iM;obtain⟨W,x,aT,hx,hg,hB⟩:=box1 w 226 (pR o A a b).g_;replace hB:Bk W x 226 #[i_ 5,i_ 0,.string ByteArray.empty,i_ o,.slice A 2 2]:=hB
 have a7:Sl w 226 5 A [a,b].length ([a,b].flatMap ET.E):=by cases hE with|mk t h _ _ _=>exact h
 have m:kk p w a:=by cases hE with|mk t _ _ _ h=>exact h _ (by simp[ET.l,pR])
 have ay:kk p w b:=by cases hE with|mk t _ _ _ h=>exact h _ (by simp[ET.l,pR])
 obtain⟨bB,off,hA,aw,c1,ai,aC,c4⟩:=ET.at_ (a7.hG hg) (k:=0) s_;subst hA;simp only[Gj,FV,Fu]at aw c1 ai aC c4;obtain⟨U,ad,ar,aL,ao⟩:=hB.cells5;have aX:=h_ (c r v q D p W h0 o_ (m.hG hg) (I.hG hg) H o_);have bi:=h_ (a7.hG hg);have bZ:=h_ (ay.hG hg);clear a7 hE m ay
 go_enter func203,ntmps203
 go_wp2_with fail
 go_at_call 203
 refine aX.out.mono ?_;rintro e w1⟨rfl,v1,bn,bo,hg1,F,be⟩;have E:=hB.gt hg1 d_;obtain⟨z0,aM,aV,z3,z4⟩:=E.cells5;have hl1:=be.len;obtain⟨K,z,f,bD,bH,bp,bQ,bC⟩:=ET.at_ (bi.out.gt hg1 d_) (k:=1) s_;injection f with f;injection f with P B;subst P;subst B;simp only[GX,F9,Fu]at bD bH bp bQ bC;have af:=h_ (i (r+1) v1 bn D p w1 o_ o_ (bZ.out.gt hg1 d_) bo F o_);clear aw c1 ai aC c4 U ad ar aL ao
 go_wp2_with fail
 go_at_call 203
 refine af.out.mono ?_;rintro e w2⟨rfl,ce,bI,a2,J,cR,cq⟩;have bz:=E.gt J d_;have ca:=cq.len;clear z0 aM aV z3 z4 bD bH bp bQ bC;obtain⟨z0,aM,aV,z3,z4⟩:=bz.cells5
 go_wp2_with (go_at_call 138;refine(ir base g ce _ _ _ _ _ _ a2 o_).mono ?_;rintro e ae⟨rfl,h3,S⟩)
 refine en_ ?_;rw[ak.out];exact⟨rfl,_,_,h3,(((Gt.jC hg).trans hg1).trans J).trans S,(cR.simp (zO r o h0 o_ dG cX)),((be.trans cq).trans (GP.put ce _)).le (show zf d+zf d+1<=1+2*zf d by omega)⟩
theorem oP(base g:Nat)(V:List ByteArray)(d:Nat)(t:ET)(h:EG V d t):Ce base g V d t:=by
 induction h with
 |num d n _ _=>exact AF base g V d n
 |var d s _=>exact vP base g V d s
 |new d n h0 h1=>exact AG base g V d n h0 h1
 |field d n A s h0 h1 _=>exact xj base g V d n A s h0 h1
 |bin d o A a b h0 h1 _ _ f c=>exact AH base g V d o A a b h0 h1 f c
section
variable{P:Program}{md:Region.Mode}{S:World->Prop}{N:Nat}{Q:Exit->Act->World->Prop}
section
variable{ops:Array Oper}{o:Oper}{rest:List Oper}{a:Act}{w:World}{l:List Oper}{tl:List Value}{ds:List Deferred}{j d:Nat}{oj:Oper}{r:List Oper}{r2:List Value}{b b':Bool}{v:Value}
theorem Cn(hg:o.guard=none)(h:wpList P ops Q rest (a.put o.dst v) w)(hy:(execOp a.eval o).run P w=.ok (.value v) w:=by first|(go_simp;done)|(go_simp;with_reducible rfl)):wpList P ops Q (o::rest) a w:=it hg hy h
end
end
theorem od{f:TypeId}{P:Program}{w:World}{ops:Array Oper}{o:Oper}{a:Act}{K:Act->World->Prop}{Q:Exit->Act->World->Prop}{E:Prop}(V:o.guard=none)(s x:Operand)(t:TypeId)
 (ho:o.op=.call {callee:=.builtin .append,args:=#[s,x],argTypes:=#[t,t]})
 (base:Nat) (e:TypeId) (i:TypeInfo) (z:Value) (size bytes:Nat) (ht:P.underlying t=some (.slice e)) (hi:P.info? e=some i) (hz:i.zero=some z)
 (q:i.size=size) (p:i.bytes=bytes) (C:z.cells.size=size) (aL:0<size) (L:0<bytes)
 (B:OA) (n aw:Nat) (xs:List Value) (hs:a.eval s=.slice B n aw) (aF:w.ownsRow base e size (.slice B n aw) n xs)
 (A:OA) (m c:Nat) (news:List Value) (hx:a.eval x=.slice A m c) (hr:Sl w f size A m news) (h1:∀u∈news,u.oneCell'=true)
 (y:(n+m)*bytes<=140737488355328) (br:base<=w.heap.size)
 (h:∀(A':OA) (c':Nat) (w':World),w'.ownsRow base e size (.slice A' (n+m) c') (n+m) (xs++news)->w.grownBy w' (Value.slice B n aw).ownBlock->((Value.slice A' (n+m) c').ownBlock=(Value.slice B n aw).ownBlock∨(Value.slice A' (n+m) c').ownBlock=some w.heap.size)->K (a.put o.dst (.slice A' (n+m) c')) w'):
 if Region.wanted o (yielded ops a.tmps)=true then Oper.wp P o a w K Q else E:=by
 have aM:Region.wanted o (yielded ops a.tmps)=true:=by simp[Region.wanted,V]
 rw[T_ aM];exact oE s x t ho base e i z size bytes ht hi hz q p C aL L B n aw xs hs aF A m c news hx hr h1 y br h
def At.row(a:At):Value × List Int:=(.slice a.A a.is.length a.c,a.is)
def GS.pre(s:GS)(F:List At):List (Value × List Int):=(.slice s.EA s.es.length s.ec,s.es)::(.slice s.FA s.fs.length s.fc,s.fs)::F.map At.row
theorem GS.p6(s:GS)(F:List At)(a:At)(h:s.os=F++[a]):s.rows=s.pre (s.rt++F)++[a.row]:=by
 unfold GS.rows GS.pre;rw[h,<-Fc,EL]
 rfl
theorem kb{l:List (Value × List Int)}{x:Value × List Int}:((l++[x]).filterMap λr=>r.1.ownBlock).Nodup↔(l.filterMap λr=>r.1.ownBlock).Nodup/\∀b,x.1.ownBlock=some b->∀r∈l,r.1.ownBlock≠some b:=by
 rw[List.filterMap_append,Gu]
 cases hx:x.1.ownBlock with
 |none=>simp[hx]
 |some c=>
  simp only[List.filterMap_cons,hx,List.filterMap_nil];constructor
  .rintro⟨h1,_,h3⟩;refine⟨h1,λb hb r hr he=>?_⟩
   cases hb
   exact h3 c (He.2 ⟨r,hr,he⟩) c s_ rfl
  .rintro⟨h1,h2⟩;refine⟨h1,s_,λy hy z hz=>?_⟩
   have:z=c:=zu hz
   subst this;obtain⟨r,hr,he⟩:=He.1 hy;rintro rfl;exact h2 _ rfl r hr he
theorem mX.CO{base g:Nat}{w w':World}{s:GS}(h:mX base w g s)(F:List At)(a:At)(hs:s.os=F++[a])(A':OA)(c' n:Nat)(i:Int)(hn:a.is.length=n)
 (bC:w.grownBy w' (Value.slice a.A n a.c).ownBlock) (aF:w'.ownsRow base 3 1 (.slice A' (n+1) c') (n+1) (a.is.map (i_)++[i_ i]))
 (o:(Value.slice A' (n+1) c').ownBlock=(Value.slice a.A n a.c).ownBlock∨(Value.slice A' (n+1) c').ownBlock=some w.heap.size):
 Bk w' a.box 30 #[.slice a.A n a.c]/\mX base (w'.setCell (c_ a.box 0) (.slice A' (n+1) c')) g {s with os:=F++[{a with A:=A',c:=c',is:=a.is++[i]}]}/\Gt base gT w (w'.setCell (c_ a.box 0) (.slice A' (n+1) c')):=by
 subst hn;have l:=s.p6 F a hs;have kh:=h.kh;rw[l,kb]at kh;have k:=h.hi a.row (by rw[l];simp)
 have j:∀e,e≠3->mH e w w':=λe he=>.app bC k (Ne.symm he)
 have ay:s.rt++s.os=(s.rt++F)++[a]:=by rw[hs,Fc]
 obtain⟨hab,te⟩:=h.hb a (by rw[ay];simp);have d:=(j _ d_).bk hab
 have u:∀e,e≠30->mH e w' (w'.setCell (c_ a.box 0) (.slice A' (a.is.length+1) c')):=λe he=>.set d (Ne.symm he) _ _
 have hk:=λe h1 h2=>(j e h1).trans (u e h2)
 have hbn:=h.hbn;rw[ay,EL,Gu]at hbn;have av:Gt base gT w (w'.setCell (c_ a.box 0) (.slice A' (a.is.length+1) c')):=(Gt.app bC k d_).trans (.set d te d_ _ _)
 have iM:(F++[({a with A:=A',c:=c',is:=a.is++[i]}:At)]).length=s.os.length:=by rw[hs];simp
 have m:GS.rows {s with os:=F++[({a with A:=A',c:=c',is:=a.is++[i]}:At)]}=s.pre (s.rt++F)++[(.slice A' (a.is.length+1) c',a.is++[i])]:=by
  rw[GS.p6 _ F {a with A:=A',c:=c',is:=a.is++[i]} rfl];simp[At.row,GS.pre]
 refine⟨d,⟨?_,h.hbg,(hk _ d_ d_).own h.hl,(hk _ d_ d_).own h.hc,?_,?_,?_,?_,?_,(hk _ d_ d_).sl h.hv,G_ h.hz (hk 9 d_ d_).1⟩,av⟩
 .have hc:GS.g_ {s with os:=F++[({a with A:=A',c:=c',is:=a.is++[i]}:At)]}=s.g_:=by unfold GS.g_;rw[iM]
  rw[hc];exact(hk _ d_ d_).bk h.hg
 .have:=(hk _ d_ d_).own h.ho
  rw[hs]at this;exact LO
 .intro x hx
  have f:x∈(s.rt++F)++[({a with A:=A',c:=c',is:=a.is++[i]}:At)]:=by rw[Fc];exact hx
  rcases X_.1 f with hx|hx
  .obtain⟨h1,h2⟩:=h.hb x (by rw[ay];exact E4 _ hx);refine⟨((j _ d_).bk h1).ih (p:=(c_ a.box 0)) (λhe=>?_) _,h2⟩;exact hbn.2.2 x.box (EM.2 ⟨x,hx,rfl⟩) a.box s_ he
  .have:x={a with A:=A',c:=c',is:=a.is++[i]}:=zu hx
   subst this;refine⟨?_,te⟩
   have:=d.hW 0 (.slice A' (a.is.length+1) c')
   show Bk _ a.box _ #[.slice A' (a.is++[i]).length c']
   rw[J_];exact this
 .have:=h.hbn
  rw[ay]at this;exact LO
 .intro r hr;rw[m]at hr;refine(u 3 d_).own ?_
  rcases X_.1 hr with hr|hr
  .refine nP (h.hi r (by rw[l];exact E4 _ hr)) (Gr.iX bC) λx hx he=>?_
   exact kh.2 x (jJ.1 hx) r hr he
  .have:r=(.slice A' (a.is.length+1) c',a.is++[i]):=zu hr
   subst this
   simpa using aF
 .rw[m,kb];refine⟨kh.1,λb hb r hr he=>?_⟩
  rcases o with ho|ho
  .exact kh.2 b (ho.symm.trans hb) r hr he
  .have ag:=(ku (h.hi r (by rw[l];exact E4 _ hr)) he).2
   have:some w.heap.size=some b:=ho.symm.trans hb
   injection this;omega
theorem tw(i:Int):∀(l:List (Nat × List Int)) (a:Nat × List Int),qL i (l++[a])=l++[(a.1,a.2++[i])]
 |[],a=>rfl
 |[b],a=>rfl
 |b::c::l,a=>by
  have:=tw i (c::l) a
  simp only[F8]at this |-;rw[qL,this]
theorem n9(base g:Nat)(v:iU)(w:World)(h:lD base w g v)(hn:v.l.length<=100000)(j:∀a∈v.ats,a.2.length<=100000)(cZ:v.ats.length<=100000):
 Calls prog 217 #[q_ g] w (A3 base g v.protect ve w):=by
 refine ia λQ ak=>?_
 obtain⟨s,rfl,h⟩:=h;have hn:s.l.length<=100000:=hn
 rcases List.eq_nil_or_concat s.os with h0|⟨F,a,h0⟩
 .have B:w.cell? (c_ g 9)=some (.slice s.OA 0 s.oc):=by have:=h.hg.f_ 9;unfold GS.g_ at this;rw[h0]at this;exact this
  have aR:=h_ (mv base g s 17 0 0 0 0 w h hn);have b:=h_ h0;clear h0
  go_enter func217,ntmps217
  go_wp2_with (go_at_call 138;refine aR.out.mono ?_;rintro e w2⟨L,lc,rfl,h2,J,aj⟩)
  refine en_ ?_;rw[ak.out];refine⟨rfl,⟨_,?_,h2⟩,J⟩;simp only[GS.lg,iU.protect,b.out]
  rfl
 .rw[List.concat_eq_append]at h0;obtain⟨bF,bE,bt,a8,bo⟩:=info_parts infoInt;have av:a.is.length<=100000:=j (a.box,a.is) (by simp[GS.lg,h0]);obtain⟨n,hn0⟩:=mn_ a.is.length;obtain⟨m,cH⟩:=mn_ F.length
  have R:s.os.length=m+1:=by rw[h0];simp[cH]
  have cC:m+1<=100000:=by
   have:s.os.length<=100000:=by simpa[GS.lg]using cZ
   omega
  have B:w.cell? (c_ g 9)=some (.slice s.OA (m+1) s.oc):=by have:=h.hg.f_ 9;unfold GS.g_ at this;rw[R]at this;exact this
  obtain⟨go,cur,A,_,f,t⟩:=kA h.ho o_;have c:w.cell? (c_ go m)=some (q_ a.box):=(f.f_ m).trans (t m _ (by rw[h0];simp[<-cH]));have hab:=(h.hb a (by rw[h0];simp)).1;rw[hn0]at hab av;have dq:w.cell? (c_ a.box 0)=some (.slice a.A n a.c):=hab.f_ 0;rw[A]at B;have aR:=h_ (mv base g s 17 0 0 0 0 w.drew (h.hG (F_ [] w).drew) hn);have b:=h_ h0;have aW:=h_ hn0;have D:=h_ A;have be:=h_ R;have a6:=h_ f;clear h0 hn0 A cH R t
  go_enter func217,ntmps217
  go_upto_region 2 with fail
  have bN:IntKind.i64.wrap (m:Int)=m:=E2 _ o_;have cA:(m:Int)<(m:Int)+1:=o_;refine hQ (λw'=>w'.cell? (c_ g 9)=some (.slice (j_ go) (m+1) s.oc)/\w'.cell? (c_ go m)=some (q_ a.box)/\w'.cell? (c_ a.box 0)=some (.slice a.A n a.c)) 23 k_ ?_
  refine nt ⟨B,c,dq⟩ λC=>?_
  repeat refine jW C ?_
  refine h4 19 λK H=>?_
  go_simp
  go_at_call 138
  refine aR.out.mono ?_;rintro e w2⟨L,lc,rfl,h2,J,aj⟩;have bz:=(aj 313 d_ d_).bk a6.out;clear C
  refine h5 H (
   ⟨by have:=h2.hg.f_ 9;unfold GS.g_ at this;rw[D.out,be.out]at this;exact this,(bz.f_ m).trans ((a6.out.f_ m).symm.trans c),((aj 30 d_ d_).bk hab).f_ 0⟩) λC=>?_
  clear H K
  refine h4 20 λK H=>?_
  go_simp;refine H.out _ _ (λ_=>⟨jD C.1 _,jD C.2.1 _,jD C.2.2 _⟩) ?_;clear H K;have h3:=h2.hG ((F_ [] w2).alloc (.cells #[i_ s.l.length] 3));have a7:Sl (w2.alloc (.cells #[i_ s.l.length] 3)) 3 1 (j_ w2.heap.size) 1 [i_ s.l.length]:=jj (n:=1) (s:=1) (P_ w2 3 _) rfl;have S:Gt base gT w (w2.alloc (.cells #[i_ s.l.length] 3)):=((Gt.jC (F_ [] w).drew).trans J).trans (.jC ((F_ [] w2).alloc _));have bu:=bz.alloc (.cells #[i_ s.l.length] 3);obtain⟨ae,V⟩:=nm_ (w2.alloc (.cells #[i_ s.l.length] 3));rw[<-V]at h3 a7 S bu |-;clear V C;obtain⟨cv,cG⟩:=nm_ ({s with L:=L,lc:=lc,l:=s.l++[⟨17,0,0,0,0⟩]}:GS);rw[<-cG]at h3;have i:=h_ cG
  have k:cv.os=F++[a]:=by rw[cG];exact b.out
  have aw:=h3.hi a.row (by rw[cv.p6 F a k];simp)
  have p:=by have:=aw;unfold At.row at this;simp only at this;rw[aW.out]at this;exact this
  clear cG aw h2
  refine h4 21 λK H=>?_
  refine od rfl (.tmp 27) (.tmp 30) 30 rfl base 3 bF _ 1 8 underlying30 bE bt a8 bo rfl d_ d_ a.A n a.c _ rfl p _ 1 1 _ rfl a7 (by intro u hu;simp at hu;subst hu;rfl) o_ h3.hz ?_;intro A' c' T aF bC o;obtain⟨d,aq,ah⟩:=h3.CO F a k A' c' n s.l.length aW.out bC aF o
  have aM:∀e,e≠3->mH e ae T:=λe he=>.app bC p (Ne.symm he)
  refine h5 H (by
   refine⟨?_,((aM _ d_).bk bu).f_ m |>.trans ((a6.out.f_ m).symm.trans c),d.f_ 0⟩;refine(((aM _ d_).bk h3.hg).f_ 9).trans ?_;rw[i.out]
   show some (Value.slice s.OA s.os.length s.oc)=_
   rw[D.out,be.out]) λC=>?_
  clear H K;refine iP 22 C ?_;have br:=d.hH 0
  refine h4 23 λK H=>?_
  go_simp;refine H.out _ _ (λh=>EK h d_) ?_;refine hN k_ ?_ _;go_wp2;refine rn_ ?_;rw[ak.out];refine⟨rfl,⟨_,?_,aq⟩,S.trans ah⟩;rw[i.out];simp only[GS.lg,iU.protect,b.out,EL,Fg,FN];rw[tw]
def m9(w:World)(pv:Value):Prop:=∃(PA:OA) (c:Nat) (fs:List FT),pv=.slice PA 3 c/\fs.length=3/\A6 w PA fs/\tF pQ fs 0=1/\tF pm fs 0=2
theorem m9.gt{base:Nat}{w w':World}{pv:Value}(h:m9 w pv)(hg:Gt base gT w w'):m9 w' pv:=by
 obtain⟨PA,c,fs,h1,h2,h3,au⟩:=h;exact⟨PA,c,fs,h1,h2,Sl.gt h3 hg d_,au⟩
def B9(base g:Nat)(V:List ByteArray)(D:Nat):Prop:=∀(N:Nat) (t:ST) (v:iU) (q:Int) (p:Nat->Prop) (w:World),lR V D N [t]->jK p w t->m9 w v.pv->lD base w g v->GK v q D->v.l.length+30*N<=100000->
 Calls prog 175 #[q_ g,.agg t.g_] w (oz base g v D (30*N) w)
def uw(base g:Nat)(V:List ByteArray)(D:Nat):Prop:=∀(N:Nat) (A:OA) (n c:Nat) (ts:List ST) (v:iU) (q:Int) (p:Nat->Prop) (w:World),ts.length=n->n<=100000->lR V D N ts->Sl w 229 8 A n (ts.flatMap ST.E)->(∀u∈ts,jK p w u)->m9 w v.pv->lD base w g v->GK v q D->v.l.length+30*N<=100000->
 Calls prog 137 #[q_ g,.slice A n c] w (oz base g v D (30*N) w)
theorem ST.at_{w:World}{A:OA}{l:List ST}{n:Nat}(h:Sl w 229 8 A n (l.flatMap ST.E))(hn:l.length=n){k:Nat}(hk:k<l.length):∃b off,A=some (c_ b off)/\w.cell? (c_ b (off+k*8))=some (i_ l[k].h6)/\w.cell? (c_ b (off+k*8+1))=some (.string l[k].name)/\
 w.cell? (c_ b (off+k*8+2))=some (.string l[k].fn)/\w.cell? (c_ b (off+k*8+3))=some (i_ l[k].n)/\w.cell? (c_ b (off+k*8+4))=some (i_ l[k].op)/\
 w.cell? (c_ b (off+k*8+5))=some (.slice l[k].AE l[k].es.length l[k].cE)/\w.cell? (c_ b (off+k*8+6))=some (.slice l[k].AB l[k].bs.length l[k].cB)/\w.cell? (c_ b (off+k*8+7))=some (.slice l[k].AL l[k].ls.length l[k].cL):=by
 obtain⟨b,off,hA,hc⟩:=Sl.f_ h o_
 have g:=λj hj=>jh ST.E 8 (λ_=>rfl) l k j hk hj
 exact⟨b,off,hA,hc (k*8+0) _ (g 0 o_),hc (k*8+1) _ (g 1 o_),hc (k*8+2) _ (g 2 o_),hc (k*8+3) _ (g 3 o_),hc (k*8+4) _ (g 4 o_),hc (k*8+5) _ (g 5 o_),hc (k*8+6) _ (g 6 o_),hc (k*8+7) _ (g 7 o_)⟩
theorem Bk.i0{w:World}{g:Nat}{t:TypeId}{a b c d e f i j:Value}(h:Bk w g t #[a,b,c,d,e,f,i,j]):w.cell? (c_ g 0)=some a/\w.cell? (c_ g 1)=some b/\w.cell? (c_ g 2)=some c/\w.cell? (c_ g 3)=some d/\w.cell? (c_ g 4)=some e/\w.cell? (c_ g 5)=some f/\w.cell? (c_ g 6)=some i/\w.cell? (c_ g 7)=some j:=
 ⟨h.f_ 0,h.f_ 1,h.f_ 2,h.f_ 3,h.f_ 4,h.f_ 5,h.f_ 6,h.f_ 7⟩
theorem lR.one{V:List ByteArray}{D N:Nat}{t:ST}(h:lR V D N [t]):∃r nb nl B L,D=r+1/\N=1+nb+nl/\mP V t.h6 t.name t.fn t.n t.op t.es.length B L/\(B=false->t.bs=[])/\(L=false->t.ls=[])/\(∀e∈t.es,EG V 2 e)/\lR V r nb t.bs/\lR V r nl t.ls:=by
 cases h with
 |cons D a b nb nl t l B L h hB hL hes hb hl ha hr=>
  cases hr
  exact⟨D,nb,nl,B,L,rfl,o_,h,hB,hL,hes,hb,hl⟩
theorem jK.parts{p:Nat->Prop}{w:World}{t:ST}(h:jK p w t):Sl w 226 5 t.AE t.es.length (t.es.flatMap ET.E)/\(∀u∈t.es,kk p w u)/\Sl w 229 8 t.AB t.bs.length (t.bs.flatMap ST.E)/\(∀u∈t.bs,jK p w u)/\Sl w 229 8 t.AL t.ls.length (t.ls.flatMap ST.E)/\(∀u∈t.ls,jK p w u):=by
 cases h with
 |mk t he hce hbe hes hb hcb te hbs hl hcl hbl hls=>exact⟨he,hes,hb,hbs,hl,hls⟩
theorem lR.len{V:List ByteArray}{D N:Nat}{l:List ST}(h:lR V D N l):l.length<=N:=by
 induction h with
 |nil D=>simp
 |cons D a b nb nl t l B L h hB hL hes hb hl ha hr _ _ Z=>simp only[Z_];omega
def El(base g:Nat)(v:iU)(D n:Nat)(w w':World):Prop:=∃v' q',lD base w' g v'/\Gt base gT w w'/\GK v' q' D/\GP v v' n
theorem mP.rng{V:List ByteArray}{k n o:Int}{x f:ByteArray}{m:Nat}{B L:Bool}(h:mP V k x f n o m B L):m<=2:=by cases h<;>omega
theorem mX.vX{base g:Nat}{w w':World}{s:GS}(h:mX base w g s)(p:Int × Int)(A':OA)(c':Nat)(bC:w.grownBy w' (Value.slice s.CA s.cs.length s.cc).ownBlock)
 (aF:w'.ownsRow base 219 2 (.slice A' (s.cs.length+1) c') (s.cs.length+1) (mU s.cs++mU [p])):
 Bk w' g 210 s.g_/\mX base (w'.setCell (c_ g 5) (.slice A' (s.cs.length+1) c')) g {s with CA:=A',cc:=c',cs:=s.cs++[p]}/\Gt base gT w (w'.setCell (c_ g 5) (.slice A' (s.cs.length+1) c')):=by
 have j:∀e,e≠219->mH e w w':=λe he=>.app bC h.hc (Ne.symm he)
 have c:=(j _ d_).bk h.hg
 have u:∀e,e≠210->mH e w' (w'.setCell (c_ g 5) (.slice A' (s.cs.length+1) c')):=λe he=>.set c (Ne.symm he) _ _
 have hk:∀e,e≠219->e≠210->mH e w (w'.setCell (c_ g 5) (.slice A' (s.cs.length+1) c')):=λe h1 h2=>(j e h1).trans (u e h2)
 refine⟨c,⟨?_,h.hbg,(hk _ d_ d_).own h.hl,?_,(hk _ d_ d_).own h.ho,λa ha=>⟨(hk 30 d_ d_).bk (h.hb a ha).1,(h.hb a ha).2⟩,h.hbn,λr hr=>(hk 3 d_ d_).own (h.hi r hr),h.kh,(hk 9 d_ d_).sl h.hv,G_ h.hz (hk 9 d_ d_).1⟩,(Gt.app bC h.hc d_).trans (.set c h.hbg d_ _ _)⟩
 .have:=c.hW 5 (.slice A' (s.cs.length+1) c')
  exact LJ
 .rw[J_]
  have e:mU (s.cs++[p])=mU s.cs++mU [p]:=by simp[mU]
  rw[e];exact(u _ d_).own aF
theorem zK(n:Int)(h0:0<=n)(h1:n<16):lE ⟨6,1,0,0,n⟩=true:=by simp[lE,jS,i5,l8];omega
theorem zM(o r:Int)(ho:o=1∨o=6∨o=9)(h0:0<=r)(h1:r<64):lE ⟨10,0,o,0,r⟩=true:=by
 rcases ho with rfl|rfl|rfl<;>simp[lE,jS,i5,l8,rl]<;>omega
theorem vi(base g:Nat)(V:List ByteArray)(D:Nat)(k:Int)(x f:ByteArray)(n o:Int)(AE:OA)(cE:Nat)(es:List ET)(AB:OA)(cB:Nat)(bs:List ST)(AL:OA)(cL:Nat)(ls:List ST)(v:iU)(q:Int)(p:Nat->Prop)(w:World)(B L:Bool)(nb nl:Nat)(b8:uw base g V D)(cx:lR V D nb bs)(eb:lR V D nl ls)(aO:Sl w 229 8 AB bs.length (bs.flatMap ST.E))(cU:∀u∈bs,jK p w u)(cg:Sl w 229 8 AL ls.length (ls.flatMap ST.E))(cW:∀u∈ls,jK p w u)
 (bw:mP V k x f n o es.length B L) (aM:k≠9) (aU:k≠6) (aq:k≠5) (hes:∀e∈es,EG V 2 e) (a7:Sl w 226 5 AE es.length (es.flatMap ET.E)) (kh:∀u∈es,kk p w u) (hP:m9 w v.pv) (I:lD base w g v) (H:GK v q (D+1)) (iM:v.l.length+30*(1+nb+nl)<=100000):
 Calls prog 175 #[q_ g,.agg (ST.mk k x f n o AE cE es AB cB bs AL cL ls).g_] w (oz base g v (D+1) (30*(1+nb+nl)) w):=by
 refine ia λQ ak=>?_
 obtain⟨m,hm⟩:=mn_ es.length;have cA:=bw.rng;rw[hm]at cA bw;have HM:=h_ hm;have bQ:=h_ bw;obtain⟨W,gx,aT,hx,hg,hB⟩:=box1 w 229 (ST.mk k x f n o AE cE es AB cB bs AL cL ls).g_
 replace hB:Bk W gx 229 #[i_ k,.string x,.string f,i_ n,i_ o,.slice AE m cE,.slice AB bs.length cB,.slice AL ls.length cL]:=by rw[<-hm];exact hB
 have ea:(k==9)=false:=zu aM;have d9:(k==6)=false:=zu aU;have dw:(k==5)=false:=zu aq;obtain⟨U,ad,ar,aL,ao,aP,z,y⟩:=hB.i0;have j:=I.hG hg;have bi:=h_ (a7.hG hg);have cO:=h_ (λu hu=>(kh u hu).hG hg:∀u∈es,kk p W u);have aR:=h_ (hP.gt (.jC hg:Gt base gT w W));have c8:=h_ (hP.gt (.jC hg:Gt base gT w W));have ef:=h_ aO;have eh:=h_ cg;clear hm bw a7 kh hP I aO cg
 go_enter func175,ntmps175
 go_upto_region 8 with fail
 clear U ad ar aL ao aP z y;have bP:=h_ aT;have bl:=h_ hx;clear aT hx
 go_loopw [27] (λap w'=>∃k:Nat,k<=m/\ap=i_ k/\El base g v (D+1) (7*k) W w') (λap _=>m-(intOf ap).toNat)
 case atStart=>exact⟨0,O_ _,gn,v,q,j,.refl _ _ _,H,.refl _⟩
 case round=>
  obtain⟨i,hi,rfl,v1,bn,a,av,F,be⟩:=hrel;have hl1:=be.len
  by_cases ag:i<m
  .have aS:i<es.length:=ov HM.out;obtain⟨b,off,hA,aw,c1,ai,aC,c4⟩:=ET.at_ (bi.out.gt av d_) aS;subst hA;have aX:=oP base g V 2 es[i] (hes _ (N_ aS));have dT:=(cO.out _ (N_ aS)).gt av d_;generalize es[i]=e at aw c1 ai aC c4 aX dT;obtain⟨R,a2,bW,hg1,af,E⟩:=box1 wr 226 #[i_ e.h6,i_ e.n,.string e.name,i_ e.op,.slice e.A e.l.length e.c];obtain⟨U,ad,ar,aL,ao⟩:=E.cells5;have eg:=h_ (aX i v1 bn (D+1) p R o_ o_ (dT.hG af) (a.hG af) F (show v1.l.length+7<=100000 by omega));clear aX dT a
   go_wp2_with fail
   refine eg.out.mono ?_;rintro aG w2⟨rfl,ce,bI,cy,S,cR,cq⟩;go_wp2;go_roundw
   case rel=>exact⟨i+1,o_,gn,ce,bI,cy,(av.trans (.jC af)).trans S,cR,(be.trans cq).le (show 7*i+7<=7*(i+1) by omega)⟩
   case measure=>exact mz
  .have E:=hB.gt av d_;obtain⟨U,ad,ar,aL,ao,aP,z,y⟩:=E.i0;have bA:Gt base gT w wr:=(Gt.jC hg).trans av
   go_upto_region 13 with(go_at_call 204;refine(lh base g v1 _ _ a F.v1).mono ?_;rintro e w1⟨r,bD,bJ,rfl,rfl⟩)
   have c:GP v v1 14:=be.le o_;have ca:=c.len;have cY:=F.sb;have dC:=h_ (aR.out.gt av);have bw:=bQ.out;clear bQ HM bi cO aR be
   rcases bw with⟨_,d⟩|⟨_,dG,cX⟩|⟨_,d⟩|⟨_,d⟩|_|⟨_,d⟩|_|_|_|⟨_,d⟩|_|⟨_,d⟩|⟨_,d,_,eU⟩
   .go_wp2_with (go_at_call 138;refine(ir base g v1 _ _ _ _ _ _ a o_).mono ?_;rintro e w2⟨rfl,h2,J⟩)
    refine en_ ?_;rw[ak.out];exact⟨rfl,_,_,h2,bA.trans J,F.simp (lz 0 r o_ o_ bD o_),(c.trans (GP.put v1 _)).le o_⟩
   .go_wp2_with (go_at_call 138;refine(ir base g v1 _ _ _ _ _ _ a o_).mono ?_;rintro e w2⟨rfl,h2,J⟩)
    refine en_ ?_;rw[ak.out];exact⟨rfl,_,_,h2,bA.trans J,F.simp (zK n dG o_),(c.trans (GP.put v1 _)).le o_⟩
   .have b9:=dC.out;obtain⟨PA,pc,dX,c7,bV,dB,bM,aE⟩:=dC.out;have aI:=h_ bM;have cv:=h_ bV;have dJ:=h_ dB;clear bV dB bM aE b9;obtain⟨s1,bS,bM⟩:=a;have cZ:=h_ bS;have z0:wr.cell? (c_ g 0)=some (.slice PA 3 pc):=JQ;clear bS c7
    go_upto_region 21 with fail
    refine hQ (λw'=>w'.cell? (c_ g 0)=some (.slice PA 3 pc)/\w'.cell? (c_ gx 2)=some (.string pQ)) 6 k_ ?_
    refine nt ⟨z0,ar⟩ λC=>?_
    iterate 6 refine jW C ?_
    refine h4 6 λK H=>?_
    go_simp
    go_at_call 170
    refine(nD PA 3 pc dX pQ _ cv.out (Sl.hG dJ.out (F_ [] _).drew) o_).mono ?_;rintro e w2⟨rfl,A⟩;rw[aI.out];replace A:=(F_ [] wr).drew.trans A;refine H.out _ _ (λh=>EK h d_) ?_;clear H K C
    try simp only[a_]
    refine h4 7 λK H=>?_
    go_simp;refine H.out _ _ (λh=>EK h d_) ?_;clear H K
    try simp only[a_]
    refine hN k_ ?_ _
    go_upto_region 22 with fail
    have aE:=bM.hG A;have bz:=E.hG A;have dM:=bA.trans (.jC A);clear z0 U ad ar aL ao aP z y bM A;have z5:w2.cell? (c_ g 5)=some (.slice s1.CA s1.cs.length s1.cc):=aE.hg.f_ 5;have aP:w2.cell? (c_ gx 5)=some (.slice AE 2 cE):=bz.f_ 5;refine hQ (λw'=>w'.cell? (c_ g 5)=some (.slice s1.CA s1.cs.length s1.cc)/\w'.cell? (c_ gx 5)=some (.slice AE 2 cE)) 16 k_ ?_;have C:w2.drew.cell? (c_ g 5)=some (.slice s1.CA s1.cs.length s1.cc)/\w2.drew.cell? (c_ gx 5)=some (.slice AE 2 cE):=⟨z5,aP⟩
    have hls:s1.l.length<=100000:=by
     have e:s1.l=v1.l:=ED iU.l cZ.out;rw[e];omega
    have az:s1.cs.length<=100000:=by
     have e:s1.cs=v1.cs:=ED iU.cs cZ.out;rw[e]
     have:=F.ok.zh
     omega
    (iterate 9 refine jW C ?_)
    refine iP 10 C ?_
    refine h4 9 λK H=>?_
    go_simp
    go_at_call 138
    refine(mv base g s1 13 0 2 0 0 _ (aE.hG (F_ [] _).drew) hls).mono ?_;rintro e ae⟨ei,ep,rfl,cM,S,b0⟩;have bu:=bz.drew.gt S d_;clear C
    refine h5 H ⟨cM.hg.f_ 5,bu.f_ 5⟩ λC=>?_
    clear H K;refine iP 11 C ?_
    refine h4 12 λK H=>?_
    go_simp;refine H.out _ _ (λ_=>⟨jD C.1 _,jD C.2 _⟩) ?_;clear H K C;have a7:Sl (ae.alloc (.cells #[i_ s1.l.length,i_ 1] 219)) 219 2 (j_ ae.heap.size) 1 (mU [((s1.l.length:Int),1)]):=jj (n:=1) (s:=2) (P_ ae 219 _) rfl;have b6:=cM.hG ((F_ [] ae).alloc (.cells #[i_ s1.l.length,i_ 1] 219));have Z:=((dM.trans (.jC (F_ [] w2).drew)).trans S).trans (.jC ((F_ [] ae).alloc (.cells #[i_ s1.l.length,i_ 1] 219)));have bK:=bu.alloc (.cells #[i_ s1.l.length,i_ 1] 219);obtain⟨T,dz⟩:=nm_ (ae.alloc (.cells #[i_ s1.l.length,i_ 1] 219));rw[<-dz]at a7 b6 Z bK |-;clear dz;obtain⟨bF,bE,bt,a8,bo⟩:=info_parts infoPa
    try simp only[a_]
    refine h4 13 λK H=>?_
    refine od rfl (.tmp 74) (.tmp 82) 206 rfl base 219 bF _ 2 16 underlying206 bE bt a8 bo rfl d_ d_ s1.CA s1.cs.length s1.cc _ rfl b6.hc _ 1 1 _ rfl a7 (by intro u hu;simp[mU]at hu;rcases hu with rfl|rfl<;>rfl) o_ b6.hz ?_;intro aY c5 Y am du _;obtain⟨a6,b5,aB⟩:=b6.vX _ aY c5 du am;have b4:=(mH.app (e:=229) du b6.hc d_).bk bK
    refine h5 H ⟨a6.f_ 5,b4.f_ 5⟩ λC=>?_
    clear H K
    (iterate 2 refine jW C ?_)
    have f5:=a6.hH 5;have z5:=C.1
    refine h4 16 λK H=>?_
    go_simp;refine H.out _ _ (λh=>EK h d_) ?_;clear H K C z5 f5;refine hN k_ ?_ _;have bB:lD base (Y.setCell (c_ g 5) (.slice aY (s1.cs.length+1) c5)) g (v1.call 2 1):=⟨_,by rw[<-cZ.out];rfl,b5⟩;have bO:=Z.trans aB;obtain⟨ax,cn⟩:=nm_ (Y.setCell (c_ g 5) (.slice aY (s1.cs.length+1) c5));rw[<-cn]at bB bO |-;clear cn b5 aB a6 b6 cM aE Z b4 bK bu
    go_wp2_with fail
    go_at_call 136
    refine(mx base g _ _ bB (ov ((GP.call v1 2 1).len)) cY.1 (by have:=cY.2;show v1.hF<=100000;omega)).mono ?_;rintro e aD⟨rfl,bG,aN⟩;have bg:=F.vY 2 1 o_ o_ o_ o_;have M:=(c.trans (GP.call v1 2 1)).trans (GP.mark _);exact HJ
   .have b9:=dC.out;obtain⟨PA,pc,dX,c7,bV,dB,bM,aE⟩:=dC.out;have aI:=h_ aE;have cv:=h_ bV;have dJ:=h_ dB;clear bV dB bM aE b9;obtain⟨s1,bS,bM⟩:=a;have cZ:=h_ bS;have z0:wr.cell? (c_ g 0)=some (.slice PA 3 pc):=JQ;clear bS c7
    go_upto_region 21 with fail
    refine hQ (λw'=>w'.cell? (c_ g 0)=some (.slice PA 3 pc)/\w'.cell? (c_ gx 2)=some (.string pm)) 6 k_ ?_
    refine nt ⟨z0,ar⟩ λC=>?_
    iterate 6 refine jW C ?_
    refine h4 6 λK H=>?_
    go_simp
    go_at_call 170
    refine(nD PA 3 pc dX pm _ cv.out (Sl.hG dJ.out (F_ [] _).drew) o_).mono ?_;rintro e w2⟨rfl,A⟩;rw[aI.out];replace A:=(F_ [] wr).drew.trans A;refine H.out _ _ (λh=>EK h d_) ?_;clear H K C
    try simp only[a_]
    refine h4 7 λK H=>?_
    go_simp;refine H.out _ _ (λh=>EK h d_) ?_;clear H K
    try simp only[a_]
    refine hN k_ ?_ _
    go_upto_region 22 with fail
    have aE:=bM.hG A;have bz:=E.hG A;have dM:=bA.trans (.jC A);clear z0 U ad ar aL ao aP z y bM A;have z5:w2.cell? (c_ g 5)=some (.slice s1.CA s1.cs.length s1.cc):=aE.hg.f_ 5;have aP:w2.cell? (c_ gx 5)=some (.slice AE 1 cE):=bz.f_ 5;refine hQ (λw'=>w'.cell? (c_ g 5)=some (.slice s1.CA s1.cs.length s1.cc)/\w'.cell? (c_ gx 5)=some (.slice AE 1 cE)) 16 k_ ?_;have C:w2.drew.cell? (c_ g 5)=some (.slice s1.CA s1.cs.length s1.cc)/\w2.drew.cell? (c_ gx 5)=some (.slice AE 1 cE):=⟨z5,aP⟩
    have hls:s1.l.length<=100000:=by
     have e:s1.l=v1.l:=ED iU.l cZ.out;rw[e];omega
    have az:s1.cs.length<=100000:=by
     have e:s1.cs=v1.cs:=ED iU.cs cZ.out;rw[e]
     have:=F.ok.zh
     omega
    (iterate 9 refine jW C ?_)
    refine iP 10 C ?_
    refine h4 9 λK H=>?_
    go_simp
    go_at_call 138
    refine(mv base g s1 13 0 1 0 0 _ (aE.hG (F_ [] _).drew) hls).mono ?_;rintro e ae⟨ei,ep,rfl,cM,S,b0⟩;have bu:=bz.drew.gt S d_;clear C
    refine h5 H ⟨cM.hg.f_ 5,bu.f_ 5⟩ λC=>?_
    clear H K;refine iP 11 C ?_
    refine h4 12 λK H=>?_
    go_simp;refine H.out _ _ (λ_=>⟨jD C.1 _,jD C.2 _⟩) ?_;clear H K C;have a7:Sl (ae.alloc (.cells #[i_ s1.l.length,i_ 2] 219)) 219 2 (j_ ae.heap.size) 1 (mU [((s1.l.length:Int),2)]):=jj (n:=1) (s:=2) (P_ ae 219 _) rfl;have b6:=cM.hG ((F_ [] ae).alloc (.cells #[i_ s1.l.length,i_ 2] 219));have Z:=((dM.trans (.jC (F_ [] w2).drew)).trans S).trans (.jC ((F_ [] ae).alloc (.cells #[i_ s1.l.length,i_ 2] 219)));have bK:=bu.alloc (.cells #[i_ s1.l.length,i_ 2] 219);obtain⟨T,dz⟩:=nm_ (ae.alloc (.cells #[i_ s1.l.length,i_ 2] 219));rw[<-dz]at a7 b6 Z bK |-;clear dz;obtain⟨bF,bE,bt,a8,bo⟩:=info_parts infoPa
    try simp only[a_]
    refine h4 13 λK H=>?_
    refine od rfl (.tmp 74) (.tmp 82) 206 rfl base 219 bF _ 2 16 underlying206 bE bt a8 bo rfl d_ d_ s1.CA s1.cs.length s1.cc _ rfl b6.hc _ 1 1 _ rfl a7 (by intro u hu;simp[mU]at hu;rcases hu with rfl|rfl<;>rfl) o_ b6.hz ?_;intro aY c5 Y am du _;obtain⟨a6,b5,aB⟩:=b6.vX _ aY c5 du am;have b4:=(mH.app (e:=229) du b6.hc d_).bk bK
    refine h5 H ⟨a6.f_ 5,b4.f_ 5⟩ λC=>?_
    clear H K
    (iterate 2 refine jW C ?_)
    have f5:=a6.hH 5;have z5:=C.1
    refine h4 16 λK H=>?_
    go_simp;refine H.out _ _ (λh=>EK h d_) ?_;clear H K C z5 f5;refine hN k_ ?_ _;have bB:lD base (Y.setCell (c_ g 5) (.slice aY (s1.cs.length+1) c5)) g (v1.call 1 2):=⟨_,by rw[<-cZ.out];rfl,b5⟩;have bO:=Z.trans aB;obtain⟨ax,cn⟩:=nm_ (Y.setCell (c_ g 5) (.slice aY (s1.cs.length+1) c5));rw[<-cn]at bB bO |-;clear cn b5 aB a6 b6 cM aE Z b4 bK bu
    go_wp2_with fail
    go_at_call 136
    refine(mx base g _ _ bB (ov ((GP.call v1 1 2).len)) cY.1 (by have:=cY.2;show v1.hF<=100000;omega)).mono ?_;rintro e aD⟨rfl,bG,aN⟩;have bg:=F.vY 1 2 o_ o_ o_ o_;have M:=(c.trans (GP.call v1 1 2)).trans (GP.mark _);exact HJ
   .have bH:=c8.out;have cG:=ef.out.hG hg;have dQ:=eh.out.hG hg
    have cC:∀u∈bs,jK p W u:=λu hu=>(cU u hu).hG hg
    have dF:∀u∈ls,jK p W u:=λu hu=>(cW u hu).hG hg
    go_wp2_with fail
    go_at_call 138
    refine(ir base g _ _ _ _ _ _ _ a (ov c.len)).mono ?_;rintro e dZ⟨rfl,N,cr⟩;have cK:=F.vL 12 (.inr rfl);have bU:=c.trans (GP.put _ ⟨12,0,0,0,0⟩);have ay:=av.trans cr;clear a av cr;have dx:iA (iU.put v1 ⟨12,0,0,0,0⟩).l v1.l.length=12:=ol v1 _
    have d8:v1.l.length<(iU.put v1 ⟨12,0,0,0,0⟩).l.length:=by simp[iU.put]
    generalize aV:iU.put v1 ⟨12,0,0,0,0⟩=ce at*;clear aV;clear U ad ar aL ao aP z y;obtain⟨U,ad,ar,aL,ao,aP,z,y⟩:=(hB.gt ay d_).i0
    go_wp2_with fail
    go_at_call 137
    refine(b8 nb AB _ cB bs _ _ p _ rfl (ov cx.len) cx (cG.gt ay d_) (λu hu=>(cC u hu).gt ay d_ d_) (by rw[bU.pv];exact bH.gt ay) N (cK.le o_) (ov bU.len)).mono ?_;rintro e cN⟨rfl,v22,dY,cz,cw,dg,aK⟩;have aQ:=GK.of cK aK (dg.le (O_ _));have aZ:=bU.trans aK;have co:=ay.trans cw;clear N ay cw dg;have eo:iA v22.l v1.l.length=12:=(aK.kp.2 _ o_).trans dx;have ev:v1.l.length<v22.l.length:=ov aK.kp.1
    go_wp2_with fail
    go_at_call 138
    refine(ir base g _ _ _ _ _ _ _ cz (ov aZ.len)).mono ?_;rintro e ed⟨rfl,df,dq⟩;have dD:=aQ.vL 11 (.inl rfl);have da:=aZ.trans (GP.put _ ⟨11,0,0,0,0⟩);have cI:=co.trans dq;clear cz co dq;have dV:iA (iU.put v22 ⟨11,0,0,0,0⟩).l v22.l.length=11:=ol v22 _
    have ek:v22.l.length<(iU.put v22 ⟨11,0,0,0,0⟩).l.length:=by simp[iU.put]
    have dy:iA (iU.put v22 ⟨11,0,0,0,0⟩).l v1.l.length=12:=((GP.put v22 ⟨11,0,0,0,0⟩).kp.2 _ o_).trans eo;obtain⟨R,bj,bW,ck,af,E⟩:=box1 ed 3 #[i_ v1.l.length];have d1:Ns R 3 (j_ bj) [(v1.l.length:Int)]:=jj (n:=1) (s:=1) E rfl;have d3:=df.hG af
    go_wp2_with fail
    go_at_call 205
    refine(mA base g _ _ 1 1 [(v1.l.length:Int)] _ d3 (ov da.len) d1 rfl (by intro i hi;simp at hi;subst hi;exact⟨o_,o_⟩) o_).mono ?_;rintro e er⟨rfl,dh,bZ⟩;have dE:=dD.here v1.l.length (.inr dy);have db:=da.trans (GP.here _ [(v1.l.length:Int)]);have cj:=(cI.trans (.jC af)).trans bZ;clear df cI bZ d3 d1 bW ck af E;clear U ad ar aL ao aP z y;obtain⟨U,ad,ar,aL,ao,aP,z,y⟩:=(hB.gt cj d_).i0;have em:iA (iU.here (iU.put v22 ⟨11,0,0,0,0⟩) [(v1.l.length:Int)]).l v22.l.length=11:=(oe _ _ _ _).trans dV
    have eu:(v22.l.length:Int)<(iU.here (iU.put v22 ⟨11,0,0,0,0⟩) [(v1.l.length:Int)]).l.length:=by simp only[iU.here,i6];omega
    generalize cp:iU.here (iU.put v22 ⟨11,0,0,0,0⟩) [(v1.l.length:Int)]=v9 at*;clear cp
    go_wp2_with fail
    go_at_call 137
    refine(b8 nl AL _ cL ls _ _ p _ rfl (ov eb.len) eb (dQ.gt cj d_) (λu hu=>(dF u hu).gt cj d_ d_) (by rw[db.pv];exact bH.gt cj) dh (dE.le o_) (ov db.len)).mono ?_;rintro e d0⟨rfl,v25,ey,di,dr,d6,dH⟩;have dO:=GK.of dE dH (d6.le (O_ _));have dk:=db.trans dH;have dj:=cj.trans dr;clear dh cj dr d6;have dW:iA v25.l v22.l.length=11:=(dH.kp.2 _ o_).trans em;have d7:(v22.l.length:Int)<v25.l.length:=ov dH.kp.1;obtain⟨aH,P,bC,ct,bR,bz⟩:=box1 d0 3 #[i_ v22.l.length];have d2:Ns aH 3 (j_ P) [(v22.l.length:Int)]:=jj (n:=1) (s:=1) bz rfl;have d4:=di.hG bR
    go_wp2_with fail
    go_at_call 205
    refine(mA base g _ _ 1 1 [(v22.l.length:Int)] _ d4 (ov dk.len) d2 rfl (by intro i hi;simp at hi;subst hi;exact⟨o_,d7⟩) o_).mono ?_;rintro e et⟨rfl,dL,dt⟩;have dP:=dO.here v22.l.length (.inl dW);have dR:=dk.trans (GP.here _ [(v22.l.length:Int)]);have dN:=(dj.trans (.jC bR)).trans dt;clear di dj dt d4 d2 bC ct bR bz;exact KC
   .exact EK rfl aq
   .exact EK rfl aU
   .exact IQ
   .exact IQ
   .exact EK rfl aM
   .exact IQ
   .go_wp2_with fail
    go_at_call 206
    have dU:=F.h0;have ej:=F.hD;have cH:=F.m0;have bN:=F.m1;have cp:=F.v1;refine(s4 base g v1 _ a dU o_ cH o_ o_).mono ?_;rintro e w2⟨rfl,h2,J⟩;have b7:=h_ (show 0<=(v1.vs.length:Int)+v1.hidden/\(v1.vs.length:Int)+v1.hidden<64 by omega);have cR:=F.more;have cq:=GP.refl v1.more;have ew:v1.more.l.length=v1.l.length:=rfl;have aF:=bA.trans J;generalize (v1.vs.length:Int)+v1.hidden=u at b7 |-
    go_wp2_with fail
    go_at_call 138
    refine(ir base g _ _ _ _ _ _ _ h2 (ov cq.len)).mono ?_;rintro e ae⟨rfl,h3,S⟩;have aW:=cR.simp (x:=⟨9,0,0,0,u⟩) (lz 0 u o_ o_ b7.out.1 b7.out.2);have aj:=cq.trans (GP.put _ ⟨9,0,0,0,u⟩);have cy:=aF.trans S;clear h2 aF S
    go_wp2_with fail
    go_at_call 136
    refine(mx base g _ _ h3 (ov aj.len) aW.sb.1 (by have:=aW.sb.2;have:=aj.len;omega)).mono ?_;rintro e T⟨rfl,au,Z⟩;have c9:=aW.mark;have de:=aj.trans (GP.mark _);have t:=cy.trans Z;clear h3 cy Z
    go_wp2_with fail
    go_at_call 138
    refine(ir base g _ _ _ _ _ _ _ au (ov de.len)).mono ?_;rintro e Y⟨rfl,aq,ah⟩;have cf:=c9.ask (by simp[iU.mark];omega) (by unfold iU.mark;have:=l9 (iU.put v1.more ⟨9,0,0,0,u⟩).l ⟨21,0,0,0,(iU.put v1.more ⟨9,0,0,0,u⟩).hF⟩ [];simpa using this) u b7.out.1 b7.out.2;have cJ:=de.trans (GP.put _ ⟨20,0,0,0,u⟩);have bT:=t.trans ah;clear au t ah
    go_wp2_with fail
    go_at_call 138
    refine(ir base g _ _ _ _ _ _ _ aq (ov cJ.len)).mono ?_;rintro e ax⟨rfl,aU,aB⟩;have cu:=cf.simp (x:=⟨8,0,0,0,u⟩) (pd 0 u o_ o_ b7.out.1 b7.out.2);have dm:=cJ.trans (GP.put _ ⟨8,0,0,0,u⟩);have c3:=bT.trans aB;clear aq bT aB
    go_wp2_with fail
    go_at_call 138
    refine(ir base g _ _ _ _ _ _ _ aU (ov dm.len)).mono ?_;rintro e aD⟨rfl,bG,aN⟩;have bg:=cu.simp (x:=⟨9,0,0,0,r⟩) (lz 0 r o_ o_ bD o_);have M:=dm.trans (GP.put _ ⟨9,0,0,0,r⟩);have bX:=c3.trans aN;clear aU c3 aN;obtain⟨cF,bY,cD⟩:=bG;have d5:=M.hid;have dK:=h_ bY
    have c6:cF.hidden=v1.hidden+1:=by
     have e:cF.lg.hidden=v1.more.hidden:=by rw[bY];exact d5
     exact e
    have cQ:aD.cell? (c_ g 7)=some (i_ (v1.hidden+1)):=by rw[<-c6];exact cD.hg.f_ 7
    have f7:=cD.hg.hH 7;have dI:=h_ c6;clear bY d5 c6;go_wp2;refine en_ ?_;rw[ak.out];have cV:=cD.set 7 (i_ v1.hidden) (hF:=cF.hF) (hidden:=v1.hidden) (most:=cF.most) rfl;refine⟨rfl,_,_,⟨_,?_,cV⟩,bX.trans (cD.yW 7 _),GK.less F (bg.le (O_ _)) (by have:=M.hid;exact this) (by have:=M.rT;exact this),(c.trans (GP.more M)).le o_⟩;rw[<-dK.out];have cS:=dI.out;simp only[GS.lg,iU.less,cS];congr 1;omega
   .go_wp2_with (go_at_call 138;refine(ir base g v1 _ _ _ _ _ _ a o_).mono ?_;rintro e w2⟨rfl,h2,J⟩)
    refine en_ ?_;rw[ak.out];exact⟨rfl,_,_,h2,bA.trans J,F.simp (zM o r eU bD o_),(c.trans (GP.put v1 _)).le o_⟩
theorem lR.split{V:List ByteArray}{D N:Nat}{t:ST}{l:List ST}(h:lR V D N (t::l)):∃a b,N=a+b/\lR V D a [t]/\lR V D b l:=by
 cases h with
 |cons D a b nb nl t l B L h hB hL hes hb hl ha hr=>exact⟨a,b,rfl,.cons D a 0 nb nl t [] B L h hB hL hes hb hl ha (.nil _),hr⟩
theorem uh(base g:Nat)(V:List ByteArray)(D:Nat)(bG:B9 base g V D):uw base g V D:=by
 intro N A n c ts v q p w hn bC bO a7 kh hP I H iM
 refine ia λQ ak=>?_
 have aW:=h_ hn;have bi:=h_ a7;clear a7;have e:lR V D N (ts.drop 0):=bO
 go_enter func137,ntmps137
 go_wp2
 go_loopw [8] (λap w'=>∃k a b:Nat,k<=n/\ap=i_ k/\a+b=N/\lR V D b (ts.drop k)/\El base g v D (30*a) w w') (λap _=>n-(intOf ap).toNat)
 case atStart=>exact⟨0,0,N,O_ _,gn,o_,e,v,q,I,.refl _ _ _,H,.refl _⟩
 case round=>
  obtain⟨k,a,b,hk,rfl,hab,d,v1,bn,j,av,F,be⟩:=hrel;have o:=h_ hab;have f:a+b<=N:=o_;have hl1:=be.len;clear hab e
  by_cases ag:k<n
  .have az:k<ts.length:=ov aW.out;obtain⟨bB,off,hA,aw,c1,ai,aC,c4,c5,aF,aZ⟩:=ST.at_ (bi.out.gt av d_) aW.out az;subst hA;rw[R_ az]at d;obtain⟨a1,b1,aQ,bS,cj⟩:=d.split;have r:=h_ aQ;have bU:=aQ;have aq:=(kh _ (N_ az)).gt av d_ d_
   have cq:m9 wr v1.pv:=by rw[be.pv];exact hP.gt av
   clear aQ d;generalize ts[k]=t at aw c1 ai aC c4 c5 aF aZ bS aq;obtain⟨R,a2,bW,hg1,af,hB⟩:=box1 wr 229 #[i_ t.h6,.string t.name,.string t.fn,i_ t.n,i_ t.op,.slice t.AE t.es.length t.cE,.slice t.AB t.bs.length t.cB,.slice t.AL t.ls.length t.cL];obtain⟨U,ad,ar,aL,ao,aP,z,y⟩:=hB.i0;have aK:=h_ (bG a1 t v1 bn p R bS (aq.gt (.jC af:Gt base gT wr R) d_ d_) (cq.gt (.jC af:Gt base gT wr R)) (j.hG af) F o_);clear bS aq bU
   go_wp2_with fail
   refine aK.out.mono ?_;rintro aG w2⟨rfl,ce,bI,cy,S,cR,aj⟩;go_wp2;go_roundw
   case rel=>
    have aJ:=o.out;have aG:=r.out;exact⟨k+1,a+a1,b1,o_,gn,o_,cj,ce,bI,cy,(av.trans (.jC af)).trans S,cR,(be.trans aj).le o_⟩
   case measure=>exact mz
  .go_wp2;refine en_ ?_;rw[ak.out];exact⟨rfl,v1,bn,j,av,F,be.le o_⟩
theorem ET.ats{w:World}{b off n:Nat}{l:List ET}(h:Sl w 226 5 (some (c_ b off)) n (l.flatMap ET.E))(hn:l.length=n)(k:Nat)(hk:k<l.length):w.cell? (c_ b (off+k*5))=some (i_ l[k].h6)/\w.cell? (c_ b (off+k*5+1))=some (i_ l[k].n)/\
 w.cell? (c_ b (off+k*5+2))=some (.string l[k].name)/\w.cell? (c_ b (off+k*5+3))=some (i_ l[k].op)/\w.cell? (c_ b (off+k*5+4))=some (.slice l[k].A l[k].l.length l[k].c):=by
 subst hn;obtain⟨b',z,hA,h1⟩:=ET.at_ h hk;injection hA with hA;injection hA with P B;subst P;subst B;exact h1
theorem Sl.addr{w:World}{e:TypeId}{s n:Nat}{A:OA}{xs:List Value}(h:Sl w e s A n xs)(hn:0<n):∃b off,A=some (c_ b off):=by
 obtain⟨b,off,h1,_⟩:=Sl.f_ h hn;exact⟨b,off,h1⟩
theorem Am(base g:Nat)(V:List ByteArray)(D:Nat)(x:ByteArray)(AE:OA)(cE:Nat)(aS aJ:ET)(AB:OA)(cB:Nat)(bs:List ST)(AL:OA)(cL:Nat)(ls:List ST)(v:iU)(q:Int)(p:Nat->Prop)(w:World)(nb:Nat)(b8:uw base g V D)(cx:lR V D nb bs)
 (aO:Sl w 229 8 AB bs.length (bs.flatMap ST.E)) (cU:∀u∈bs,jK p w u) (hes:∀e∈[aS,aJ],EG V 2 e) (a7:Sl w 226 5 AE 2 ([aS,aJ].flatMap ET.E)) (kh:∀u∈[aS,aJ],kk p w u) (hP:m9 w v.pv) (I:lD base w g v) (H:GK v q (D+1)) (iM:v.l.length+30*(1+nb)<=100000):
 Calls prog 202 #[q_ g,.agg (ST.mk 5 x i4 0 0 AE cE [aS,aJ] AB cB bs AL cL ls).g_] w (oz base g v (D+1) (30*(1+nb)) w):=by
 refine ia λQ ak=>?_
 obtain⟨bB,off,C⟩:=a7.addr o_;subst C;obtain⟨W,gx,aT,hx,hg,hB⟩:=box1 w 229 (ST.mk 5 x i4 0 0 (some (c_ bB off)) cE [aS,aJ] AB cB bs AL cL ls).g_;replace hB:Bk W gx 229 #[i_ 5,.string x,.string i4,i_ 0,i_ 0,.slice (some (c_ bB off)) 2 cE,.slice AB bs.length cB,.slice AL ls.length cL]:=hB;obtain⟨U,ad,ar,aL,ao,aP,z,y⟩:=hB.i0;have b5:=Gt.refl base gT W;have j:=I.hG hg;have bi:=h_ (a7.hG hg)
 replace kh:=λu hu=>(kh u hu).hG hg
 have bH:=hP.gt (.jC hg:Gt base gT w W);have cG:=aO.hG hg
 have cC:=λu hu=>(cU u hu).hG hg
 have be:=GP.refl v;clear a7 hP aO I
 go_enter func202,ntmps202
 go_wp2_with fail
 go_at_call 204
 refine(lh base g _ _ _ j H.v1).mono ?_;rintro e w1⟨r,bD,bJ,rfl,rfl⟩;obtain⟨aw,c1,ai,aC,c4⟩:=ET.ats (bi.out.gt b5 d_) rfl 0 s_;simp only[Gj,FV,Fu]at aw c1 ai aC c4
 go_wp2_with fail
 go_at_call 203
 refine(oP base g V 2 aS (hes _ s_) 0 _ _ _ p _ o_ o_ ((kh _ s_).gt b5 d_) j H (by have:=be.len;show _+7<=100000;omega)).mono ?_;rintro e dZ⟨rfl,cZ,db,N,cr,cK,Y⟩;replace Y:GP _ cZ 7:=Y;have bU:=be.trans Y;have ay:=b5.trans cr;clear j b5 cr aw c1 ai aC c4;clear U ad ar aL ao aP z y;obtain⟨U,ad,ar,aL,ao,aP,z,y⟩:=(hB.gt ay d_).i0;obtain⟨aw,c1,ai,aC,c4⟩:=ET.ats (bi.out.gt ay d_) rfl 1 s_;simp only[GX,Fu,F9]at aw c1 ai aC c4
 go_wp2_with fail
 go_at_call 203
 refine(oP base g V 2 aJ (hes _ s_) 1 _ _ _ p _ o_ o_ ((kh _ s_).gt ay d_) N cK (by have:=bU.len;show _+7<=100000;omega)).mono ?_;rintro e cN⟨rfl,v22,dY,cz,cw,aQ,aK⟩;replace aK:GP _ v22 7:=aK;have aZ:=bU.trans aK;have co:=ay.trans cw;clear N ay cw aw c1 ai aC c4;clear U ad ar aL ao aP z y;obtain⟨U,ad,ar,aL,ao,aP,z,y⟩:=(hB.gt co d_).i0;have dU:=aQ.h0;have ej:=aQ.hD;have cH:=aQ.m0;have bN:=aQ.m1;have cp:=aQ.v1
 go_wp2_with fail
 go_at_call 206
 refine(s4 base g _ _ cz dU o_ cH o_ o_).mono ?_;rintro e df⟨rfl,ah,bF⟩;have b7:=h_ (show 0<=(v22.vs.length:Int)+v22.hidden/\(v22.vs.length:Int)+v22.hidden<64 by omega);have cg:=aQ.more;have bj:=GP.refl v22.more;have c9:v22.more.l.length=v22.l.length:=rfl;have da:=aZ.len;have c3:=aZ.pv;replace bH:m9 W v22.more.pv:=(by show m9 W v22.pv;rw[c3];exact bH);clear c3;have F:=co.trans bF;generalize (v22.vs.length:Int)+v22.hidden=u at b7 |-;clear cz co bF;clear U ad ar aL ao aP z y;obtain⟨U,ad,ar,aL,ao,aP,z,y⟩:=(hB.gt F d_).i0
 go_wp2_with fail
 go_at_call 138
 refine(ir base g _ _ _ _ _ _ _ ah (ov bj.len)).mono ?_;rintro e dg⟨rfl,ap,bG⟩;have cj:=cg.simp (x:=⟨9,0,0,0,r⟩) (lz 0 r o_ o_ bD o_);have bl:=bj.trans (GP.put _ ⟨9,0,0,0,r⟩);have aM:=F.trans bG;clear ah F bG
 go_wp2_with fail
 go_at_call 138
 refine(ir base g _ _ _ _ _ _ _ ap (ov bl.len)).mono ?_;rintro e dh⟨rfl,aq,bI⟩;have M:=cj.simp (x:=⟨9,1,0,0,u⟩) (lz 1 u o_ o_ b7.out.1 b7.out.2);have O:=bl.trans (GP.put _ ⟨9,1,0,0,u⟩);have aN:=aM.trans bI;clear ap aM bI
 go_wp2_with fail
 go_at_call 136
 refine(mx base g _ _ aq (ov O.len) M.sb.1 (by have:=M.sb.2;have:=O.len;omega)).mono ?_;rintro e di⟨rfl,au,bK⟩;have ck:=M.mark;have bn:=O.trans (GP.mark _);have G:=aN.trans bK;clear aq aN bK;have m:=l9 (iU.put (iU.put v22.more ⟨9,0,0,0,r⟩) ⟨9,1,0,0,u⟩).l ⟨21,0,0,0,(iU.put (iU.put v22.more ⟨9,0,0,0,r⟩) ⟨9,1,0,0,u⟩).hF⟩ [];generalize cY:iU.put (iU.put v22.more ⟨9,0,0,0,r⟩) ⟨9,1,0,0,u⟩=a at*;have T:iA a.mark.l a.l.length=21:=m
 have R:a.l.length<a.mark.l.length:=by simp[iU.mark]
 generalize K:a.mark=o at*;clear cY K m;clear U ad ar aL ao aP z y;obtain⟨U,ad,ar,aL,ao,aP,z,y⟩:=(hB.gt G d_).i0
 go_wp2_with fail
 go_at_call 138
 refine(ir base g _ _ _ _ _ _ _ au (ov bn.len)).mono ?_;rintro e dj⟨rfl,av,bL⟩;have cn:=ck.simp (x:=⟨8,0,0,0,r⟩) (pd 0 r o_ o_ bD o_);have bo:=bn.trans (GP.put _ ⟨8,0,0,0,r⟩);have aR:=G.trans bL;clear au G bL
 go_wp2_with fail
 go_at_call 138
 refine(ir base g _ _ _ _ _ _ _ av (ov bo.len)).mono ?_;rintro e dk⟨rfl,ax,bM⟩;have cq:=cn.simp (x:=⟨8,1,0,0,u⟩) (pd 1 u o_ o_ b7.out.1 b7.out.2);have bp:=bo.trans (GP.put _ ⟨8,1,0,0,u⟩);have aU:=aR.trans bM;clear av aR bM
 go_wp2_with fail
 go_at_call 138
 refine(ir base g _ _ _ _ _ _ _ ax (ov bp.len)).mono ?_;rintro e dm⟨rfl,aG,bO⟩;have ct:=cq.simp (x:=⟨4,0,0,1,10⟩) d_;have br:=bp.trans (GP.put _ ⟨4,0,0,1,10⟩);have aV:=aU.trans bO;clear ax aU bO;generalize bq:iU.put (iU.put (iU.put o ⟨8,0,0,0,r⟩) ⟨8,1,0,0,u⟩) ⟨4,0,0,1,10⟩=c at*
 have dC:qS o.l c.l:=by rw[<-bq];exact((GP.put _ _).kp.trans (GP.put _ _).kp).trans (GP.put _ _).kp
 clear bq
 go_wp2_with fail
 go_at_call 138
 refine(ir base g _ _ _ _ _ _ _ aG (ov br.len)).mono ?_;rintro e dn⟨rfl,az,bP⟩;have a8:=ct.vL 12 (.inr rfl);have P:=br.trans (GP.put _ ⟨12,0,0,0,0⟩);have d:=aV.trans bP;clear aG aV bP;have dx:iA (iU.put c ⟨12,0,0,0,0⟩).l c.l.length=12:=ol c _
 have d8:c.l.length<(iU.put c ⟨12,0,0,0,0⟩).l.length:=by simp[iU.put]
 have aE:qS o.l (iU.put c ⟨12,0,0,0,0⟩).l:=dC.trans (GP.put _ _).kp;generalize Z:iU.put c ⟨12,0,0,0,0⟩=vc at*;clear Z dC;clear U ad ar aL ao aP z y;obtain⟨U,ad,ar,aL,ao,aP,z,y⟩:=(hB.gt d d_).i0
 go_wp2_with fail
 go_at_call 137
 refine(b8 nb AB _ cB bs _ _ p _ rfl (ov cx.len) cx (cG.gt d d_) (λu hu=>(cC u hu).gt d d_ d_) (by rw[P.pv];exact bH.gt d) az (a8.le o_) (ov P.len)).mono ?_;rintro e dq⟨rfl,af,de,aB,bQ,bZ,A⟩;have cu:=GK.of a8 A (bZ.le (O_ _));have bt:=P.trans A;have J:=d.trans bQ;clear az d bQ bZ;have dy:=(A.kp.2 _ o_).trans dx;have cR:c.l.length<af.l.length:=ov A.kp.1;have E:=aE.trans A.kp;clear U ad ar aL ao aP z y;obtain⟨U,ad,ar,aL,ao,aP,z,y⟩:=(hB.gt J d_).i0
 go_wp2_with fail
 go_at_call 138
 refine(ir base g _ _ _ _ _ _ _ aB (ov bt.len)).mono ?_;rintro e dr⟨rfl,aD,bR⟩;have cv:=cu.simp (x:=⟨8,0,0,0,r⟩) (pd 0 r o_ o_ bD o_);have bw:=bt.trans (GP.put _ ⟨8,0,0,0,r⟩);have aW:=J.trans bR;clear aB J bR
 go_wp2_with fail
 go_at_call 138
 refine(ir base g _ _ _ _ _ _ _ aD (ov bw.len)).mono ?_;rintro e dt⟨rfl,aF,bS⟩;have cy:=cv.simp (x:=⟨1,1,0,0,1⟩) d_;have bz:=bw.trans (GP.put _ ⟨1,1,0,0,1⟩);have aX:=aW.trans bS;clear aD aW bS
 go_wp2_with fail
 go_at_call 138
 refine(ir base g _ _ _ _ _ _ _ aF (ov bz.len)).mono ?_;rintro e du⟨rfl,aH,bT⟩;have cA:=cy.simp (x:=⟨4,0,0,1,1⟩) d_;have bA:=bz.trans (GP.put _ ⟨4,0,0,1,1⟩);have aY:=aX.trans bT;clear aF aX bT
 go_wp2_with fail
 go_at_call 138
 refine(ir base g _ _ _ _ _ _ _ aH (ov bA.len)).mono ?_;rintro e ag⟨rfl,b9,bV⟩;have bg:=cA.simp (x:=⟨9,0,0,0,r⟩) (lz 0 r o_ o_ bD o_);have h:=bA.trans (GP.put _ ⟨9,0,0,0,r⟩);have a2:=aY.trans bV;clear aH aY bV;generalize b0:iU.put (iU.put (iU.put (iU.put af ⟨8,0,0,0,r⟩) ⟨1,1,0,0,1⟩) ⟨4,0,0,1,1⟩) ⟨9,0,0,0,r⟩=b at*
 have dH:qS af.l b.l:=by rw[<-b0];exact(((GP.put _ _).kp.trans (GP.put _ _).kp).trans (GP.put _ _).kp).trans (GP.put _ _).kp
 clear b0;obtain⟨cF,bY,cD⟩:=b9;have dK:=h_ bY;have c6:cF.hidden=v22.hidden+1:=(show cF.lg.hidden=v22.more.hidden by rw[bY];exact h.hid)
 have cQ:ag.cell? (c_ g 7)=some (i_ (v22.hidden+1)):=by rw[<-c6];exact cD.hg.f_ 7
 have f7:=cD.hg.hH 7;have dI:=h_ c6;clear bY c6
 go_wp2_with fail
 have cV:=cD.set 7 (i_ v22.hidden) (hF:=cF.hF) (hidden:=v22.hidden) (most:=cF.most) rfl
 have B:lD base (ag.setCell (c_ g 7) (i_ v22.hidden)) g b.less:=⟨_,(by
  rw[<-dK.out];have cS:=dI.out;simp only[GS.lg,iU.less,cS];congr 1
  omega),cV⟩
 have cI:=GK.less aQ (bg.le (O_ _)) (by have:=h.hid;exact this) (by have:=h.rT;exact this);have bC:=aZ.trans (GP.more h);have L:=a2.trans (cD.yW 7 (i_ v22.hidden));have X:iA b.less.l a.l.length=21:=(((E.trans dH).2 _ o_).trans T);have cW:iA b.less.l c.l.length=12:=(dH.2 _ o_).trans dy
 have c8:c.l.length<b.less.l.length:=by have:=dH.1;show _<b.l.length;omega
 obtain⟨dw,b4⟩:=nm_ (ag.setCell (c_ g 7) (i_ v22.hidden));rw[<-b4]at B L |-;generalize cX:b.less=b6 at*;clear b4 cD cV cQ f7 cX a2 h bg
 go_at_call 138
 refine(ir base g _ _ _ _ _ _ _ B (ov bC.len)).mono ?_;rintro e c7⟨rfl,aI,bW⟩;have cJ:=cI.jump 11 _ (.inl rfl) X;have bE:=bC.trans (GP.put _ ⟨11,0,0,0,a.l.length⟩);have a6:=L.trans bW;clear B L bW;have S:=((GP.put b6 ⟨11,0,0,0,a.l.length⟩).kp.2 _ o_).trans cW
 have cT:c.l.length<(iU.put b6 ⟨11,0,0,0,a.l.length⟩).l.length:=by simp[iU.put];omega
 obtain⟨am,aj,cf,ae,t,bu⟩:=box1 c7 3 #[i_ c.l.length];have f:Ns am 3 (j_ aj) [(c.l.length:Int)]:=jj (n:=1) (s:=1) bu rfl;have k:=aI.hG t
 go_wp2_with fail
 go_at_call 205
 refine(mA base g _ _ 1 1 [(c.l.length:Int)] _ k (ov bE.len) f rfl (by intro i hi;simp at hi;subst hi;exact⟨o_,o_⟩) o_).mono ?_;rintro e dz⟨rfl,ca,bX⟩;have cM:=cJ.here c.l.length (.inr S);have cO:=bE.trans (GP.here _ [(c.l.length:Int)]);have ce:=(a6.trans (.jC t)).trans bX;clear aI a6 bX k f cf ae t bu;go_wp2;refine en_ ?_;rw[ak.out];exact⟨rfl,_,_,ca,(Gt.jC hg).trans ce,cM,cO.le o_⟩
theorem xb(base g:Nat)(V:List ByteArray)(D:Nat)(x:ByteArray)(AE:OA)(cE:Nat)(aS:ET)(AB:OA)(cB:Nat)(bs:List ST)(AL:OA)(cL:Nat)(ls:List ST)(v:iU)(q:Int)(p:Nat->Prop)(w:World)(nb:Nat)(b8:uw base g V D)(cx:lR V D nb bs)
 (aO:Sl w 229 8 AB bs.length (bs.flatMap ST.E)) (cU:∀u∈bs,jK p w u) (hes:∀e∈[aS],EG V 2 e) (a7:Sl w 226 5 AE 1 ([aS].flatMap ET.E)) (kh:∀u∈[aS],kk p w u) (hP:m9 w v.pv) (I:lD base w g v) (H:GK v q (D+1)) (iM:v.l.length+30*(1+nb)<=100000):
 Calls prog 202 #[q_ g,.agg (ST.mk 6 x i4 0 0 AE cE [aS] AB cB bs AL cL ls).g_] w (oz base g v (D+1) (30*(1+nb)) w):=by
 refine ia λQ ak=>?_
 obtain⟨bB,off,C⟩:=a7.addr o_;subst C;obtain⟨W,gx,aT,hx,hg,hB⟩:=box1 w 229 (ST.mk 6 x i4 0 0 (some (c_ bB off)) cE [aS] AB cB bs AL cL ls).g_;replace hB:Bk W gx 229 #[i_ 6,.string x,.string i4,i_ 0,i_ 0,.slice (some (c_ bB off)) 1 cE,.slice AB bs.length cB,.slice AL ls.length cL]:=hB;obtain⟨U,ad,ar,aL,ao,aP,z,y⟩:=hB.i0;have b5:=Gt.refl base gT W;have j:=I.hG hg;have bi:=h_ (a7.hG hg)
 replace kh:=λu hu=>(kh u hu).hG hg
 have bH:=hP.gt (.jC hg:Gt base gT w W);have cG:=aO.hG hg
 have cC:=λu hu=>(cU u hu).hG hg
 have be:=GP.refl v;clear a7 hP aO I
 go_enter func202,ntmps202
 go_wp2_with fail
 go_at_call 204
 refine(lh base g _ _ _ j H.v1).mono ?_;rintro e w1⟨r,bD,bJ,rfl,rfl⟩
 go_wp2_with fail
 go_at_call 136
 refine(mx base g _ _ j (ov be.len) H.sb.1 (by have:=H.sb.2;have:=be.len;omega)).mono ?_;rintro e dZ⟨rfl,N,cr⟩;have cK:=H.mark;have bU:=be.trans (GP.mark _);have ay:=b5.trans cr;clear j b5 cr;have m:=l9 v.l ⟨21,0,0,0,v.hF⟩ [];have T:iA v.mark.l v.l.length=21:=m
 have R:v.l.length<v.mark.l.length:=by simp[iU.mark]
 generalize K:v.mark=o at*;clear K m;clear U ad ar aL ao aP z y;obtain⟨U,ad,ar,aL,ao,aP,z,y⟩:=(hB.gt ay d_).i0;obtain⟨aw,c1,ai,aC,c4⟩:=ET.ats (bi.out.gt ay d_) rfl 0 s_;simp only[Gj,FV,Fu]at aw c1 ai aC c4
 go_wp2_with fail
 go_at_call 203
 refine(oP base g V 2 aS (hes _ s_) 0 _ _ _ p _ o_ o_ ((kh _ s_).gt ay d_) N cK (by have:=bU.len;show _+7<=100000;omega)).mono ?_;rintro e cN⟨rfl,v22,dY,cz,cw,aQ,aK⟩;replace aK:GP _ v22 7:=aK;have aZ:=bU.trans aK;have co:=ay.trans cw;clear N ay cw aw c1 ai aC c4;clear U ad ar aL ao aP z y;obtain⟨U,ad,ar,aL,ao,aP,z,y⟩:=(hB.gt co d_).i0
 go_wp2_with fail
 go_at_call 138
 refine(ir base g _ _ _ _ _ _ _ cz (ov aZ.len)).mono ?_;rintro e ed⟨rfl,df,dq⟩;have dD:=aQ.vL 12 (.inr rfl);have da:=aZ.trans (GP.put _ ⟨12,0,0,0,0⟩);have cI:=co.trans dq;clear cz co dq;have dx:iA (iU.put v22 ⟨12,0,0,0,0⟩).l v22.l.length=12:=ol v22 _
 have d8:v22.l.length<(iU.put v22 ⟨12,0,0,0,0⟩).l.length:=by simp[iU.put]
 have aE:qS o.l (iU.put v22 ⟨12,0,0,0,0⟩).l:=aK.kp.trans (GP.put _ _).kp;generalize Z:iU.put v22 ⟨12,0,0,0,0⟩=vc at*;clear Z;clear U ad ar aL ao aP z y;obtain⟨U,ad,ar,aL,ao,aP,z,y⟩:=(hB.gt cI d_).i0
 go_wp2_with fail
 go_at_call 137
 refine(b8 nb AB _ cB bs _ _ p _ rfl (ov cx.len) cx (cG.gt cI d_) (λu hu=>(cC u hu).gt cI d_ d_) (by rw[da.pv];exact bH.gt cI) df (dD.le o_) (ov da.len)).mono ?_;rintro e er⟨rfl,b,d,dh,bZ,c,a⟩;have dE:=GK.of dD a (c.le (O_ _));have db:=da.trans a;have cj:=cI.trans bZ;clear df cI bZ c;have dy:=(a.kp.2 _ o_).trans dx;have cR:v22.l.length<b.l.length:=ov a.kp.1;have E:=aE.trans a.kp;have X:=(E.2 _ o_).trans T;clear U ad ar aL ao aP z y;obtain⟨U,ad,ar,aL,ao,aP,z,y⟩:=(hB.gt cj d_).i0
 go_wp2_with fail
 go_at_call 138
 refine(ir base g _ _ _ _ _ _ _ dh (ov db.len)).mono ?_;rintro e d0⟨rfl,di,dr⟩;have dO:=dE.jump 11 _ (.inl rfl) X;have dk:=db.trans (GP.put _ ⟨11,0,0,0,v.l.length⟩);have dj:=cj.trans dr;clear dh cj dr;have S:=((GP.put b ⟨11,0,0,0,v.l.length⟩).kp.2 _ o_).trans dy
 have cT:v22.l.length<(iU.put b ⟨11,0,0,0,v.l.length⟩).l.length:=by simp[iU.put];omega
 obtain⟨am,aj,cf,ae,t,bu⟩:=box1 d0 3 #[i_ v22.l.length];have f:Ns am 3 (j_ aj) [(v22.l.length:Int)]:=jj (n:=1) (s:=1) bu rfl;have k:=di.hG t
 go_wp2_with fail
 go_at_call 205
 refine(mA base g _ _ 1 1 [(v22.l.length:Int)] _ k (ov dk.len) f rfl (by intro i hi;simp at hi;subst hi;exact⟨o_,o_⟩) o_).mono ?_;rintro e et⟨rfl,dL,dt⟩;have dP:=dO.here v22.l.length (.inr S);have dR:=dk.trans (GP.here _ [(v22.l.length:Int)]);have dN:=(dj.trans (.jC t)).trans dt;clear di dj dt k f cf ae t bu;exact KC
end Go.Proofs.YtenbhdilndfaeaaGreat
