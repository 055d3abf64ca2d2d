import Derived.Test.YtenbhdilndfaeaaGreatM09
import Derived.Test.YtenbhdilndfaeaaGreatM17
import Derived.Test.YtenbhdilndfaeaaGreatM18
set_option maxRecDepth 100000
set_option maxHeartbeats 0
set_option linter.all false
namespace Go.Proofs.YtenbhdilndfaeaaGreat
open Go.RowKit Go.Proofs.Tryz
variable{G:Prop}{D:Nat}(d:Nat)(r:Int)
theorem GC(h:G:=by
 have b6:=bC.trans aO;clear aH bC aO
 go_wp2_with fail
 go_at_call 138
 refine(ic base g _ _ _ _ _ _ _ bA (by have:=av.len;omega)).mono ?_;rintro e bJ⟨rfl,aU,aW⟩;have cO:=ap.simp (x:=⟨15,0,0,0,0⟩) d_;have dg:=av.trans (GP.put _ ⟨15,0,0,0,0⟩);have aB:=b6.trans aW;clear bA b6 aW
 go_wp2_with fail
 go_at_call 138
 refine(ic base g _ _ _ _ _ _ _ aU (by have:=dg.len;omega)).mono ?_;rintro e ag⟨rfl,aJ,G⟩;have bE:=cO.simp (x:=⟨9,0,0,0,r⟩) (lj 0 r o_ o_ bu o_);have dM:=dg.trans (GP.put _ ⟨9,0,0,0,r⟩);have aP:=aB.trans G;clear aU aB G;go_wp2;refine en_ ?_;rw[aD.out];exact⟨rfl,_,_,aJ,aP,bE,dM.le o_⟩):G:=h
theorem HQ(h:G:=by
 go_wp2_with (go_at_call 138;refine(ic base g v1 _ _ _ _ _ _ bP o_).mono ?_;rintro e w2⟨rfl,h2,ad⟩)
 refine en_ ?_;rw[aD.out];exact⟨rfl,_,_,h2,bq.trans ad,F.simp d_,(a.trans (GP.put v1 _)).le o_⟩):G:=h
theorem infoIn:(prog.info? 189).map (λi=>(i.zero,i.size,i.bytes))=some (some (.agg #[i_ 0,i_ 0,i_ 0,i_ 0,i_ 0]),5,40):=by kernel_rfl
theorem infoPa:(prog.info? 219).map (λi=>(i.zero,i.size,i.bytes))=some (some (.agg #[i_ 0,i_ 0]),2,16):=by kernel_rfl
theorem infoPI:(prog.info? 313).map (λi=>(i.zero,i.size,i.bytes))=some (some (.pointer none),1,8):=by kernel_rfl
def ms(e:TypeId)(w w':World):Prop:=w.heap.size<=w'.heap.size/\∀(k:Nat) (cs:Array Value) (fz:Nat × Nat),w.heap[k]?=some (.cells cs e fz)->w'.heap[k]?=some (.cells cs e fz)
section
variable{e t:TypeId}{w w' w'':World}{g base size n:Nat}{cs:Array Value}{v:Value}{xs:List Value}
theorem ms.trans(h:ms e w w')(k:ms e w' w''):ms e w w'':=⟨F_ h.1 k.1,λi cs fz hi=>k.2 i cs fz (h.2 i cs fz hi)⟩
theorem ms.jQ(h:Gr [] w w'):ms e w w':=⟨h.size,λ_ _ _ hk=>(h.block _ (mf hk) s_).trans hk⟩
theorem ms.one(h:Gr [g] w w')(hk:Bk w g t cs)(av:t≠e):ms e w w':=⟨h.size,λk y fz bj=>by
 have a:k≠g:=by
  rintro rfl;unfold Bk at hk;rw[hk]at bj;injection bj with bj;injection bj with _ X;exact av X
 exact(h.block k (mf bj) (by simpa using a)).trans bj⟩
theorem ms.set(hk:Bk w g t cs)(av:t≠e)(i:Nat)(u:Value):ms e w (w.setCell (c_ g i) u):=.one ((D_ [g] w).setCell (p:=(c_ g i)) (.inl s_) u) hk av
theorem qv(h:w.ownsRow base t size v n xs){k:Nat}(hk:v.ownBlock=some k):base<=k/\∃cs,Bk w k t cs:=by
 rcases h.2 with⟨rfl,_⟩|⟨g,kX,cur,rfl,h2,h3,_⟩
 .cases hk
 .have:g=k:=by simpa[Value.ownBlock]using hk
  subst this;exact⟨h2,cur,h3⟩
theorem ms.app(hg:w.grownBy w' v.ownBlock)(h:w.ownsRow base t size v n xs)(av:t≠e):ms e w w':=⟨hg.size,λk y fz bj=>by
 refine(hg.block k (mf bj) λhe=>?_).trans bj;obtain⟨_,cs,hb⟩:=qv h he.symm;unfold Bk at hb;rw[hb]at bj;injection bj with bj;injection bj with _ X
 exact av X⟩
theorem ms.own(k:ms e w w')(h:w.ownsRow base e size v n xs):w'.ownsRow base e size v n xs:=by
 refine⟨h.1,?_⟩
 rcases h.2 with h0|⟨g,kX,cur,rfl,h2,h3,aw⟩
 .exact .inl h0
 .exact .inr ⟨g,kX,cur,rfl,h2,k.2 _ _ _ h3,aw⟩
theorem ms.sl{A:Option Addr}(k:ms e w w')(h:Sl w e size A n xs):Sl w' e size A n xs:=⟨h.1,λhn=>by
 obtain⟨b,off,cs,fz,U,hb,hc⟩:=h.2 hn
 exact⟨b,off,cs,fz,U,k.2 _ _ _ hb,hc⟩⟩
theorem ms.bk(k:ms e w w')(h:Bk w g e cs):Bk w' g e cs:=k.2 _ _ _ h
theorem Gt.app{T:List TypeId}(hg:w.grownBy w' v.ownBlock)(h:w.ownsRow base t size v n xs)(X:t∈T):Gt base T w w':=.grown hg λg hk=>by
 obtain⟨h1,cs,h2⟩:=qv h hk;exact⟨h1,cs,t,_,h2,X⟩
end
structure At where
 box:Nat
 A:Option Addr
 c:Nat
 is:List Int
structure GS where
 pv:Value
 VA:Option Addr
 vc:Nat
 vs:List ByteArray
 L:Option Addr
 lc:Nat
 l:List In
 g9:Int
 EA:Option Addr
 ec:Nat
 es:List Int
 FA:Option Addr
 fc:Nat
 fs:List Int
 CA:Option Addr
 cc:Nat
 cs:List (Int × Int)
 hidden:Int
 most:Int
 OA:Option Addr
 oc:Nat
 os:List At
 rt:List At
def GS.lg(s:GS):iK:=⟨s.pv,s.vs,s.l,s.g9,s.es,s.fs,s.cs,s.hidden,s.most,(s.os.map λa=>(a.box,a.is)),s.rt.map λa=>(a.box,a.is)⟩
def GS.g8(s:GS):Array Value:=#[s.pv,.slice s.L s.l.length s.lc,i_ s.g9,.slice s.EA s.es.length s.ec,.slice s.FA s.fs.length s.fc,.slice s.CA s.cs.length s.cc,.slice s.VA s.vs.length s.vc,i_ s.hidden,i_ s.most,.slice s.OA s.os.length s.oc]
def mK(cs:List (Int × Int)):List Value:=cs.flatMap λp=>[i_ p.1,i_ p.2]
def GS.rows(s:GS):List (Value × List Int):=(.slice s.EA s.es.length s.ec,s.es)::(.slice s.FA s.fs.length s.fc,s.fs)::(s.rt++s.os).map λa=>(.slice a.A a.is.length a.c,a.is)
def gT:List TypeId:=[210,189,3,219,313,30]
structure mM(base:Nat)(w:World)(g:Nat)(s:GS):Prop where
 hg:Bk w g 210 s.g8
 hbg:base<=g
 hl:w.ownsRow base 189 5 (.slice s.L s.l.length s.lc) s.l.length (lH s.l)
 hc:w.ownsRow base 219 2 (.slice s.CA s.cs.length s.cc) s.cs.length (mK s.cs)
 ho:w.ownsRow base 313 1 (.slice s.OA s.os.length s.oc) s.os.length (s.os.map λa=>q_ a.box)
 hb:∀a∈s.rt++s.os,Bk w a.box 30 #[.slice a.A a.is.length a.c]/\base<=a.box
 hbn:((s.rt++s.os).map At.box).Nodup
 hi:∀r∈s.rows,w.ownsRow base 3 1 r.1 r.2.length (r.2.map (i_))
 kb:(s.rows.filterMap λr=>r.1.ownBlock).Nodup
 hv:Bs w s.VA s.vs
 hz:base<=w.heap.size
def ln(base:Nat)(w:World)(g:Nat)(v:iK):Prop:=∃s:GS,s.lg=v/\mM base w g s
section
variable{base g:Nat}{w w':World}{s:GS}
theorem mM.g_(h:mM base w g s)(k:Gr [] w w'):mM base w' g s:=
 ⟨h.hg.g_ k,h.hbg,iu h.hl k,iu h.hc k,iu h.ho k,λa ha=>⟨(h.hb a ha).1.g_ k,(h.hb a ha).2⟩,h.hbn,λr hr=>iu (h.hi r hr) k,h.kb,Sl.g_ h.hv k,F_ h.hz k.size⟩
theorem ln.g_{v:iK}(h:ln base w g v)(k:Gr [] w w'):ln base w' g v:=by
 obtain⟨s,h1,h2⟩:=h;exact⟨s,h1,h2.g_ k⟩
theorem mM.rI(h:mM base w g s){L:Option Addr}{lc:Nat}{l:List In}{g9 hidden most:Int}(hg:Bk w' g 210 (GS.g8 {s with L:=L,lc:=lc,l:=l,g9:=g9,hidden:=hidden,most:=most}))
 (hl:w'.ownsRow base 189 5 (.slice L l.length lc) l.length (lH l)) (k:∀e∈[219,313,30,3,9],ms e w w'):
 mM base w' g {s with L:=L,lc:=lc,l:=l,g9:=g9,hidden:=hidden,most:=most}:=
 ⟨hg,h.hbg,hl,(k _ s_).own h.hc,(k _ s_).own h.ho,λa ha=>⟨(k 30 s_).bk (h.hb a ha).1,(h.hb a ha).2⟩,h.hbn,λr hr=>(k 3 s_).own (h.hi r hr),h.kb,(k 9 s_).sl h.hv,F_ h.hz (k 9 s_).1⟩
end
def Ap(base g:Nat)(v:iK)(u:Value)(w:World)(e:Ending)(w':World):Prop:=e=.returned u/\ln base w' g v/\Gt base gT w w'
def CZ(base g:Nat)(s:GS)(x:In)(w:World)(e:Ending)(w':World):Prop:=∃(L:Option Addr) (lc:Nat),e=.returned (i_ s.l.length)/\mM base w' g {s with L:=L,lc:=lc,l:=s.l++[x]}/\Gt base gT w w'/\∀e,e≠189->e≠210->ms e w w'
theorem l_(base g:Nat)(s:GS)(o a b c n:Int)(w:World)(h:mM base w g s)(hn:s.l.length<=100000):
 Calls prog 138 #[q_ g,i_ o,i_ a,i_ b,i_ c,i_ n] w (CZ base g s ⟨o,a,b,c,n⟩ w):=by
 refine hX λQ aD=>?_
 obtain⟨bz,bw,br,bi,bf⟩:=info_parts infoIn;have ah:w.cell? (c_ g 1)=some (.slice s.L s.l.length s.lc):=h.hg.f_ 1;obtain⟨W,x,aZ,I,J,hB⟩:=box1 w 189 #[i_ o,i_ a,i_ b,i_ c,i_ n];have h1:=h.g_ J;have hl1:=h1.hl;have be:Sl W 189 5 (j_ x) 1 (lH [⟨o,a,b,c,n⟩]):=i5 (n:=1) hB rfl;have hz:=h1.hz
 go_enter func138,ntmps138
 go_wp2_with (at_builtin;refine jU rfl _ _ _ rfl base 189 bz _ 5 40 underlying24 bw br bi bf rfl d_ d_ s.L s.l.length s.lc _ rfl hl1 _ 1 1 _ rfl be (wI _) o_ hz ?_;intro R bZ aG b7 bE _;have an:=(ms.app (e:=210) bE hl1 d_).bk h1.hg;have f7:=an.hm 1;have y:aG.cell? (c_ g 1)=some (.slice s.L s.l.length s.lc):=an.f_ 1)
 rw[aD.out];have D:=an.hJ 1 (.slice R (s.l.length+1) bZ)
 have f:∀e,e≠189->e≠210->ms e w (aG.setCell (c_ g 1) (.slice R (s.l.length+1) bZ)):=λe h1' d=>((ms.jQ J).trans (.app bE hl1 (Ne.symm h1'))).trans (.set an (Ne.symm d) _ _)
 refine⟨R,bZ,j0 s_,h.rI (hidden:=s.hidden) (most:=s.most) (g9:=s.g9) ?_ ?_ λe he=>f e (by rintro rfl;revert he;decide) (by rintro rfl;revert he;decide),?_,f⟩
 .unfold GS.g8;rw[H_];exact D
 .rw[H_,tC];exact(ms.set an d_ _ _).own b7
 .exact((Gt.jQ J).trans (.app bE hl1 d_)).trans (.set an h1.hbg d_ _ _)
theorem ic(base g:Nat)(v:iK)(o a b c n:Int)(w:World)(h:ln base w g v)(hn:v.l.length<=100000):
 Calls prog 138 #[q_ g,i_ o,i_ a,i_ b,i_ c,i_ n] w (Ap base g (v.put ⟨o,a,b,c,n⟩) (i_ v.l.length) w):=by
 obtain⟨s,rfl,h⟩:=h
 exact(l_ base g s o a b c n w h hn).mono λe w'⟨L,lc,h1,h2,h3,_⟩=>⟨h1,⟨_,rfl,h2⟩,h3⟩
theorem mM.set{base g:Nat}{w:World}{s:GS}(h:mM base w g s)(i:Nat)(u:Value){g9 hidden most:Int}(D:s.g8.setIfInBounds i u=GS.g8 {s with g9:=g9,hidden:=hidden,most:=most}):
 mM base (w.setCell ⟨g,i,none⟩ u) g {s with g9:=g9,hidden:=hidden,most:=most}:=
 h.rI (L:=s.L) (lc:=s.lc) (l:=s.l) (by rw[<-D];exact h.hg.hJ i u) ((ms.set h.hg d_ i u).own h.hl) λe he=>.set h.hg (by rintro rfl;revert he;decide) i u
theorem mM.yq{base g:Nat}{w:World}{s:GS}(h:mM base w g s)(i:Nat)(u:Value):Gt base gT w (w.setCell ⟨g,i,none⟩ u):=.set h.hg h.hbg d_ i u
def C2(base g:Nat)(s:GS)(w:World)(e:Ending)(w':World):Prop:=∃(L:Option Addr) (lc:Nat),e=.returned (i_ s.l.length)/\mM base w' g {s with L:=L,lc:=lc,l:=s.l++[⟨21,0,0,0,s.g9⟩],g9:=s.g9+1}/\Gt base gT w w'/\∀e,e≠189->e≠210->ms e w w'
theorem rC(base g:Nat)(s:GS)(w:World)(h:mM base w g s)(hn:s.l.length<=100000)(h0:0<=s.g9)(h1:s.g9<=100000):
 Calls prog 136 #[.pointer (some ⟨g,0,none⟩)] w (C2 base g s w):=by
 refine hX λQ aD=>?_
 have au:w.cell? ⟨g,2,none⟩=some (i_ s.g9):=h.hg.f_ 2;have bZ:=h.hg.hm 2;have HA:=h_ (h.set 2 (i_ (s.g9+1)) (g9:=s.g9+1) (hidden:=s.hidden) (most:=s.most) rfl);have aY:=h_ (h.yq 2 (i_ (s.g9+1)));have bQ:=h_ h.hg
 go_enter func136,ntmps136
 go_wp2_with (go_at_call 138;refine(l_ base g _ 21 0 0 0 s.g9 _ HA.out hn).mono ?_;rintro e w2⟨L,lc,rfl,h2,ad,cj⟩)
 rw[aD.out];exact⟨L,lc,rfl,h2,aY.out.trans ad,λe h1 h2=>(ms.set bQ.out (Ne.symm h2) _ _).trans (cj e h1 h2)⟩
theorem me(base g:Nat)(v:iK)(w:World)(h:ln base w g v)(hn:v.l.length<=100000)(h0:0<=v.g9)(h1:v.g9<=100000):
 Calls prog 136 #[.pointer (some ⟨g,0,none⟩)] w (Ap base g v.mark (i_ v.l.length) w):=by
 obtain⟨s,rfl,h⟩:=h
 exact(rC base g s w h hn h0 h1).mono λe w'⟨L,lc,h1,h2,h3,_⟩=>⟨h1,⟨_,rfl,h2⟩,h3⟩
theorem sS(base g:Nat)(v:iK)(w:World)(h:ln base w g v)(h0:0<=v.hidden)(h1:v.hidden<=100000)(h2:0<=v.most)(h3:v.most<=100000)(aw:v.vs.length<=100000):
 Calls prog 206 #[.pointer (some ⟨g,0,none⟩)] w (Ap base g v.more (i_ (v.vs.length+v.hidden)) w):=by
 refine hX λQ aD=>?_
 obtain⟨s,rfl,h⟩:=h;have a:0<=s.hidden:=h0;have h1':s.hidden<=100000:=h1;have b:s.vs.length<=100000:=aw;have y:w.cell? ⟨g,7,none⟩=some (i_ s.hidden):=h.hg.f_ 7;have f7:=h.hg.hm 7;have U:=h.set 7 (i_ (s.hidden+1)) (g9:=s.g9) (hidden:=s.hidden+1) (most:=s.most) rfl;have aY:=h_ (h.yq 7 (i_ (s.hidden+1)))
 go_enter func206,ntmps206
 go_upto_region 2 with fail
 obtain⟨W,aZ⟩:=mn_ (w.setCell ⟨g,7,none⟩ (i_ (s.hidden+1)));rw[aZ]at U aY |-;clear aZ y f7;have y:W.cell? ⟨g,7,none⟩=some (i_ (s.hidden+1)):=U.hg.f_ 7;have c:W.cell? ⟨g,8,none⟩=some (i_ s.most):=U.hg.f_ 8;have f8:=U.hg.hm 8
 go_region
 go_upto_region 3 with fail
 have hB:=(U.set 8 (i_ (if s.most<s.hidden+1 then s.hidden+1 else s.most)) (g9:=s.g9) (hidden:=s.hidden+1) (most:=if s.most<s.hidden+1 then s.hidden+1 else s.most) rfl).g_ (D_ [] _).drew;have aW:=h_ ((U.yq 8 (i_ (if s.most<s.hidden+1 then s.hidden+1 else s.most))).trans (.jQ (D_ [] _).drew));obtain⟨bh,bF⟩:=mn_ ((W.setCell ⟨g,8,none⟩ (i_ (if s.most<s.hidden+1 then s.hidden+1 else s.most))).drew);rw[bF]at hB aW |-;clear bF y c f8;have z:bh.cell? ⟨g,6,none⟩=some (.slice s.VA s.vs.length s.vc):=hB.hg.f_ 6;have y:bh.cell? ⟨g,7,none⟩=some (i_ (s.hidden+1)):=hB.hg.f_ 7
 go_quiet (fail)
 go_wp2;rw[aD.out];refine⟨j0 (by simp only[GS.lg];omega),⟨_,?_,hB.g_ ((D_ [] _).drewN _)⟩,(aY.out.trans aW.out).trans (.jQ ((D_ [] _).drewN _))⟩
 have e:(if s.most<s.hidden+1 then s.hidden+1 else s.most)=max s.most (s.hidden+1):=by split<;>omega
 simp only[GS.lg,iK.more,e]
def CX(w:World)(e:Ending)(w':World):Prop:=∃r:Int,0<=r/\r<=9/\e=.returned (i_ r)/\w=w'
theorem k1(base g:Nat)(v:iK)(x:ByteArray)(w:World)(h:ln base w g v)(hn:v.vs.length<=9):
 Calls prog 204 #[.pointer (some ⟨g,0,none⟩),.string x] w (CX w):=by
 refine hX λQ aD=>?_
 obtain⟨s,rfl,h⟩:=h;have hv:=h.hv;have hn:s.vs.length<=9:=hn;have z:w.cell? ⟨g,6,none⟩=some (.slice s.VA s.vs.length s.vc):=h.hg.f_ 6;generalize s.vs=vs at hv hn z;obtain⟨n,hn0⟩:=mn_ vs.length;have a2:=h_ hn0;rw[hn0]at hn z;clear hn0
 go_enter func204,ntmps204
 go_wp2
 go_loop [12] (λar=>∃k:Nat,k<=n/\ar=i_ k) (λar=>n-(intOf ar).toNat)
 case atStart=>exact⟨0,N_ _,by go_num⟩
 case round=>
  obtain⟨k,hk,rfl⟩:=hrel
  by_cases aj:k<n
  .obtain⟨b,off,U,hc⟩:=Sl.f_ hv (by have:=a2.out;omega)
   have aH:k<vs.length:=by have:=a2.out;omega
   have ah:=hc k (.string vs[k]) (by rw[Eq,K_ aH];rfl);rw[U]at z;clear hc;go_wp2
   .rw[aD.out];exact⟨k,by omega,by omega,rfl,rfl⟩
   .exact JE
  .go_wp2;rw[aD.out];exact⟨0,by omega,by omega,rfl,rfl⟩
theorem xh{w:World}{base:Nat}{e:TypeId}{size n c g:Nat}{xs:List Value}(h:w.ownsRow base e size (.slice (some ⟨g,0,none⟩) n c) n xs)(i:Nat)(u:Value):(w.setCell ⟨g,i,none⟩ u).ownsRow base e size (.slice (some ⟨g,0,none⟩) n c) n (xs.set i u):=by
 refine⟨by rw[Eb];exact h.1,?_⟩
 rcases h.2 with⟨hv,I⟩|⟨j,kX,cur,hv,hb,hg,h1,h2,h3,X⟩
 .cases hv
 .injection hv with U hn hc;injection U with U;injection U with U;subst U;have y:Bk w g e cur:=hg;refine .inr ⟨g,kX,_,(by rw[hc]),hb,y.hJ i u,h1,h2,by simpa using h3,?_⟩;rw[<-X,FU,List.take_set]
theorem pn{α:Type}(E:α->List Value)(s:Nat)(hE:∀a,(E a).length=s):∀(l:List α) (k j:Nat) (r:α) (u:Value) (hk:k<l.length),j<s->E r=(E l[k]).set j u->(l.flatMap E).set (k*s+j) u=(l.set k r).flatMap E
 |[],k,j,r,u,hk,_,_=>by simp at hk
 |a::l,0,j,r,u,hk,hj,hr=>by
  simp only[Ez,FH,U_,E6];rw[List.set_append_left _ _ (by rw[hE];exact hj),hr]
  rfl
 |a::l,k+1,j,r,u,hk,hj,hr=>by
  have e:(k+1)*s+j=s+(k*s+j):=by rw[Fa,F0];omega
  simp only[Ez,EZ];rw[e,List.set_append_right _ _ (by rw[hE];omega),hE,Nat.add_sub_cancel_left,pn E s hE l k j r u (by simpa using hk) hj hr]
theorem xW(v:Int)(l:List In)(k:Nat)(hk:k<l.length):lR v l k=l.set k (l[k].oR v):=by
 refine FD (by simp[lR]) λi h1 h2=>?_
 rw[tS v l k i (by rw[lk]at h1;exact h1),List.getElem_set];simp only[ED];split
 .rename_i h;subst h
  rfl
 .rfl
theorem qE(v:Int)(l:List In)(k:Nat)(hk:k<l.length):(lH l).set (k*5+4) (i_ v)=lH (lR v l k):=by
 rw[xW v l k hk];exact pn In.E 5 (λ_=>rfl) l k 4 _ _ hk o_ rfl
def uU:Value:=.tuple #[]
theorem mh(base g:Nat)(v:iK)(A:Option Addr)(n c:Nat)(is:List Int)(w:World)(h:ln base w g v)(hl:v.l.length<=100000)(U:Ns w 3 A is)(hn:is.length=n)(hi:∀i∈is,0<=i/\i<v.l.length)(bq:n<=100000):
 Calls prog 205 #[.pointer (some ⟨g,0,none⟩),.slice A n c] w (Ap base g (v.here is) uU w):=by
 refine hX λQ aD=>?_
 have a2:=h_ hn;clear hn
 go_enter func205,ntmps205
 go_wp2
 go_loopw [8] (λar w'=>∃k:Nat,k<=n/\ar=i_ k/\ln base w' g {v with l:=lv v.l.length v.l (is.take k)}/\Gt base gT w w'/\ms 3 w w') (λar _=>n-(intOf ar).toNat)
 case atStart=>exact⟨0,N_ _,by go_num,by simpa[lv]using h,.refl _ _ _,.jQ (D_ [] _)⟩
 case round=>
  obtain⟨k,hk,rfl,J,bM,dm⟩:=hrel;obtain⟨s,hs,J⟩:=J
  by_cases aj:k<n
  .have aH:k<is.length:=by have:=a2.out;omega
   obtain⟨b,off,bp,hc⟩:=Sl.f_ (dm.sl U) o_;have Z:=hc k (i_ is[k]) (by rw[Eq,K_ aH];rfl);subst bp;clear hc;have dI:=hi is[k] (J_ aH);obtain⟨i,bF⟩:∃i:Nat,is[k]=i:=⟨is[k].toNat,by omega⟩;have aR:=h_ bF;rw[bF]at Z dI;clear bF;have be:s.l=lv v.l.length v.l (is.take k):=D9 iK.l hs
   have ay:s.l.length=v.l.length:=by rw[be,iV]
   have bm:i<s.l.length:=by omega
   obtain⟨G,cur,bW,cG,R,r⟩:=ky J.hl o_
   have ah:wr.cell? ⟨g,1,none⟩=some (.slice (some ⟨G,0,none⟩) s.l.length s.lc):=by rw[<-bW];exact J.hg.f_ 1
   have bH:=R.hm (i*5+4);have au:wr.cell? ⟨G,i*5+4,none⟩=some (i_ s.l[i].n):=(R.f_ _).trans (r _ _ ((iW In.E 5 (λ_=>rfl) s.l i 4 bm o_).trans rfl));have ap:=h_ be;have de:=h_ ay;have du:=h_ bW;have d:=h_ hs;obtain⟨m,Y⟩:=mn_ s.l.length;have O:=h_ Y;rw[Y]at ah bm;clear be ay bW hs Y
   go_upto_region 3 with fail
   go_region
   go_wp2;go_roundw
   case rel=>
    have aK:ms 3 wr (wr.setCell ⟨G,i*5+4,none⟩ (i_ m)):=.set R d_ _ _
    have a:∀e,e≠189->ms e wr (wr.setCell ⟨G,i*5+4,none⟩ (i_ m)):=λe he=>.set R (Ne.symm he) _ _
    have be:=J.hl;rw[du.out]at be;have C:=xh be (i*5+4) (i_ m);rw[qE m s.l i (by rw[O.out];exact bm)]at C
    have j:s.g8=GS.g8 {s with l:=lR m s.l i}:=by unfold GS.g8;simp only[lk]
    have f:=(J.rI (w':=wr.setCell ⟨G,i*5+4,none⟩ (i_ m)) (L:=s.L) (lc:=s.lc) (l:=lR m s.l i) (g9:=s.g9) (hidden:=s.hidden) (most:=s.most) (by rw[<-j];exact(a _ d_).bk J.hg) (by rw[du.out,lk];exact C) λe he=>a e (by rintro rfl;revert he;decide)).g_ (D_ [] _).drew;refine⟨k+1,by omega,by go_num,⟨_,?_,f⟩,bM.trans ((Gt.set R cG d_ _ _).trans (.jQ (D_ [] _).drew)),(dm.trans aK).trans (.jQ (D_ [] _).drew)⟩
    have aP:lv v.l.length v.l (is.take (k+1))=lR m s.l i:=by
     rw[O_ aH,aR.out,ap.out]
     have:(m:Int)=v.l.length:=by rw[<-O.out,de.out]
     rw[this];unfold lv;rw[Fm]
     rfl
    have aL:=d.out;rw[aP];exact Jt
   case measure=>simp[intOf];omega
  .go_wp2;refine en_ ?_;rw[aD.out]
   have:k=n:=by omega
   subst this;exact⟨rfl,⟨s,by rw[hs,W_ (by have:=a2.out;omega)];rfl,J⟩,bM⟩
theorem ET.at_{w:World}{A:Option Addr}{l:List ET}(h:Sl w 226 5 A l.length (l.flatMap ET.E)){k:Nat}(hk:k<l.length):∃b off,A=some (c_ b off)/\w.cell? (c_ b (off+k*5))=some (i_ l[k].hT)/\w.cell? (c_ b (off+k*5+1))=some (i_ l[k].n)/\
 w.cell? (c_ b (off+k*5+2))=some (.string l[k].name)/\w.cell? (c_ b (off+k*5+3))=some (i_ l[k].op)/\w.cell? (c_ b (off+k*5+4))=some (.slice l[k].A l[k].l.length l[k].c):=by
 obtain⟨b,off,U,hc⟩:=Sl.f_ h o_
 have g:=λj hj=>iW ET.E 5 (λ_=>rfl) l k j hk hj
 exact K5
theorem Bk.cells5{w:World}{g:Nat}{t:TypeId}{a b c d e:Value}(h:Bk w g t #[a,b,c,d,e]):w.cell? (c_ g 0)=some a/\w.cell? (c_ g 1)=some b/\w.cell? (c_ g 2)=some c/\w.cell? (c_ g 3)=some d/\w.cell? (c_ g 4)=some e:=h.c5
def oq(base g:Nat)(v:iK)(D n:Nat)(w:World)(e:Ending)(w':World):Prop:=e=.returned uU/\∃v' q',ln base w' g v'/\Gt base gT w w'/\GK v' q' D/\GP v v' n
def yK:Nat->Nat|0=>1|d+1=>1+2*yK d
theorem qz:1<=yK d:=by induction d with|zero=>decide|succ d ad=>unfold yK;omega
theorem GK.sb{v:iK}{q:Int}(h:GK v q D):0<=v.g9/\v.g9<=v.l.length:=by
 rw[h.ok.we];refine⟨by unfold jr;omega,?_⟩;unfold jr
 have:=Em (λi:In=>i.op==21) v.l
 omega
def BK(base g:Nat)(V:List ByteArray)(d:Nat)(t:ET):Prop:=∀(r:Int) (v:iK) (q:Int) (D:Nat) (p:Nat->Prop) (w:World),0<=r->r+d<16->kc p w t->ln base w g v->GK v q D->v.l.length+yK d<=100000->
 Calls prog 203 #[q_ g,.agg t.g8,i_ r] w (oq base g v D (yK d) w)
theorem zd(n:Int)(h0:0<=r)(h1:r<16):lq ⟨1,r,0,0,n⟩=true:=by simp[lq,jH,iZ,lV];omega
theorem o7(n:Int)(h0:0<=r)(h1:r<16)(h2:0<=n)(h3:n<64):lq ⟨8,r,0,0,n⟩=true:=by simp[lq,jH,iZ,lV];omega
theorem zf(n:Int)(h0:0<=r)(h1:r<16)(h2:0<=n)(h3:n<=16):lq ⟨7,r,0,0,n⟩=true:=by simp[lq,jH,iZ,lV];omega
theorem xV(n:Int)(h0:0<=r)(h1:r<16)(h2:0<=n)(h3:n<16):lq ⟨5,r,r,0,n⟩=true:=by simp[lq,jH,iZ,lV];omega
theorem zg(n:Int)(h0:0<=r)(h1:r+1<16)(h2:1<=n)(h3:n<=11):lq ⟨4,r,r,r+1,n⟩=true:=by simp[lq,jH,iZ,lV,ph];omega
theorem lj(n:Int)(h0:0<=r)(h1:r<16)(h2:0<=n)(h3:n<64):lq ⟨9,r,0,0,n⟩=true:=by simp[lq,jH,iZ,lV];omega
theorem z2(base g:Nat)(V:List ByteArray)(d:Nat)(n:Int):BK base g V d (jj n):=by
 intro r v q D p w h0 h1 _ J H iv
 refine hX λQ aD=>?_
 have hd:=qz d;obtain⟨W,x,aZ,I,hg,hB⟩:=box1 w 226 (jj n).g8;replace hB:Bk W x 226 #[i_ 1,i_ n,.string ByteArray.empty,i_ 0,n_]:=hB;obtain⟨Z,ah,au,aQ,aV⟩:=hB.cells5
 go_enter func203,ntmps203
 go_wp2_with (go_at_call 138;refine(ic base g v _ _ _ _ _ _ (J.g_ hg) o_).mono ?_;rintro e w2⟨rfl,h2,ad⟩)
 refine en_ ?_;rw[aD.out];exact⟨rfl,_,_,h2,(Gt.jQ hg).trans ad,H.simp (zd r n h0 o_),(GP.put v _).le hd⟩
theorem z6(base g:Nat)(V:List ByteArray)(d:Nat)(n:Int)(hn0:0<=n)(hn1:n<=3):BK base g V d (eNew n):=by
 intro r v q D p w h0 h1 _ J H iv
 refine hX λQ aD=>?_
 have hd:=qz d;obtain⟨W,x,aZ,I,hg,hB⟩:=box1 w 226 (eNew n).g8;replace hB:Bk W x 226 #[i_ 6,i_ n,.string ByteArray.empty,i_ 0,n_]:=hB;obtain⟨Z,ah,au,aQ,aV⟩:=hB.cells5
 go_enter func203,ntmps203
 go_wp2_with (go_at_call 138;refine(ic base g v _ _ _ _ _ _ (J.g_ hg) o_).mono ?_;rintro e w2⟨rfl,h2,ad⟩)
 refine en_ ?_;rw[aD.out];exact⟨rfl,_,_,h2,(Gt.jQ hg).trans ad,H.simp (zf r n h0 o_ hn0 o_),(GP.put v _).le hd⟩
theorem vv(base g:Nat)(V:List ByteArray)(d:Nat)(s:ByteArray):BK base g V d (jl s):=by
 intro r v q D p w h0 h1 _ J H iv
 refine hX λQ aD=>?_
 have hd:=qz d;have cf:=H.v1;obtain⟨W,x,aZ,I,hg,hB⟩:=box1 w 226 (jl s).g8;replace hB:Bk W x 226 #[i_ 3,i_ 0,.string s,i_ 0,n_]:=hB;obtain⟨Z,ah,au,aQ,aV⟩:=hB.cells5
 go_enter func203,ntmps203
 go_wp2_with (first|(go_at_call 204;refine(k1 base g v _ _ (J.g_ hg) cf).mono ?_;rintro e w1⟨u,be,bD,rfl,rfl⟩)|(go_at_call 138;refine(ic base g v _ _ _ _ _ _ (J.g_ hg) o_).mono ?_;rintro e w2⟨rfl,h2,ad⟩))
 refine en_ ?_;rw[aD.out];exact⟨rfl,_,_,h2,(Gt.jQ hg).trans ad,H.simp (o7 r u h0 o_ be o_),(GP.put v _).le hd⟩
theorem wK(base g:Nat)(V:List ByteArray)(d:Nat)(n:Int)(A:Option Addr)(s:ByteArray)(hn0:0<=n)(hn1:n<=2):BK base g V (d+1) (pp n A (jl s)):=by
 intro r v q D p w h0 h1 hE J H iv
 refine hX λQ aD=>?_
 have hd:=qz d;have j:v.l.length+(1+2*yK d)<=100000:=iv;obtain⟨W,x,aZ,I,hg,hB⟩:=box1 w 226 (pp n A (jl s)).g8;replace hB:Bk W x 226 #[i_ 4,i_ n,.string ByteArray.empty,i_ 0,.slice A 1 1]:=hB
 have be:Sl w 226 5 A [jl s].length ([jl s].flatMap ET.E):=by cases hE with|mk t h _ _ _=>exact h
 have kb:kc p w (jl s):=by cases hE with|mk t _ _ _ h=>exact h _ (by simp[ET.l,pp])
 obtain⟨b,off,U,aI,c1,an,aN,c4⟩:=ET.at_ (be.g_ hg) (k:=0) s_;subst U;simp only[FH,Fe]at aI c1 an aN c4;obtain⟨Z,ah,au,aQ,aV⟩:=hB.cells5;have aq:=h_ (vv base g V d s r v q D p W h0 o_ (kb.g_ hg) (J.g_ hg) H o_);clear be hE
 go_enter func203,ntmps203
 go_wp2_with (first|(go_at_call 203;refine aq.out.mono ?_;rintro e w1⟨rfl,v1,bp,h1,hg1,F,a7⟩;have az:=hB.gt hg1 d_;obtain⟨z0,aS,aX,z3,z4⟩:=az.cells5;have hl1:=a7.len)|(go_at_call 138;refine(ic base g v1 _ _ _ _ _ _ h1 o_).mono ?_;rintro e w2⟨rfl,h2,ad⟩))
 refine en_ ?_;rw[aD.out];exact⟨rfl,_,_,h2,((Gt.jQ hg).trans hg1).trans ad,(F.simp (xV r n h0 o_ hn0 o_)),(a7.trans (GP.put v1 _)).le (show yK d+1<=1+2*yK d by omega)⟩
theorem z7(base g:Nat)(V:List ByteArray)(d:Nat)(o:Int)(A:Option Addr)(a b:ET)(dy:1<=o)(dP:o<=11)(c:BK base g V d a)(i:BK base g V d b):BK base g V (d+1) (pK o A a b):=by
 intro r v q D p w h0 h1 hE J H iv
 refine hX λQ aD=>?_
 have hd:=qz d;have j:v.l.length+(1+2*yK d)<=100000:=iv;obtain⟨W,x,aZ,I,hg,hB⟩:=box1 w 226 (pK o A a b).g8;replace hB:Bk W x 226 #[i_ 5,i_ 0,.string ByteArray.empty,i_ o,.slice A 2 2]:=hB
 have be:Sl w 226 5 A [a,b].length ([a,b].flatMap ET.E):=by cases hE with|mk t h _ _ _=>exact h
 have u:kc p w a:=by cases hE with|mk t _ _ _ h=>exact h _ (by simp[ET.l,pK])
 have ax:kc p w b:=by cases hE with|mk t _ _ _ h=>exact h _ (by simp[ET.l,pK])
 obtain⟨bv,off,U,aI,c1,an,aN,c4⟩:=ET.at_ (be.g_ hg) (k:=0) s_;subst U;simp only[FH,Fe,ES]at aI c1 an aN c4;obtain⟨Z,ah,au,aQ,aV⟩:=hB.cells5;have aq:=h_ (c r v q D p W h0 o_ (u.g_ hg) (J.g_ hg) H o_);have b8:=h_ (be.g_ hg);have bR:=h_ (ax.g_ hg);clear be hE u ax
 go_enter func203,ntmps203
 go_wp2_with fail
 go_at_call 203
 refine aq.out.mono ?_;rintro e w1⟨rfl,v1,bp,av,hg1,F,a7⟩;have az:=hB.gt hg1 d_;obtain⟨z0,aS,aX,z3,z4⟩:=az.cells5;have hl1:=a7.len;obtain⟨K,z,f,B,aB,bm,bB,bn⟩:=ET.at_ (b8.out.gt hg1 d_) (k:=1) s_;injection f with f;injection f with P m;subst P;subst m;simp only[F0,Fv,ES]at B aB bm bB bn;have ak:=h_ (i (r+1) v1 bp D p w1 o_ o_ (bR.out.gt hg1 d_) av F o_);clear aI c1 an aN c4 Z ah au aQ aV
 go_wp2_with fail
 go_at_call 203
 refine ak.out.mono ?_;rintro e w2⟨rfl,ao,bI,bf,ad,cN,cy⟩;have bo:=az.gt ad d_;have cF:=cy.len;clear z0 aS aX z3 z4 B aB bm bB bn;obtain⟨z0,aS,aX,z3,z4⟩:=bo.cells5
 go_wp2_with (go_at_call 138;refine(ic base g ao _ _ _ _ _ _ bf o_).mono ?_;rintro e ai⟨rfl,h3,S⟩)
 refine en_ ?_;rw[aD.out];exact⟨rfl,_,_,h3,(((Gt.jQ hg).trans hg1).trans ad).trans S,(cN.simp (zg r o h0 o_ dy dP)),((a7.trans cy).trans (GP.put ao _)).le (show yK d+yK d+1<=1+2*yK d by omega)⟩
theorem oL(base g:Nat)(V:List ByteArray)(d:Nat)(t:ET)(h:EG V d t):BK base g V d t:=by
 induction h with
 |num d n _ _=>exact z2 base g V d n
 |var d s _=>exact vv base g V d s
 |new d n h0 h1=>exact z6 base g V d n h0 h1
 |field d n A s h0 h1 _=>exact wK base g V d n A s h0 h1
 |bin d o A a b h0 h1 _ _ i c=>exact z7 base g V d o A a b h0 h1 i c
section
variable{P:Program}{md:Region.Mode}{S:World->Prop}{N:Nat}{Q:Exit->Act->World->Prop}
section
variable{ops:Array Oper}{o:Oper}{rest:List Oper}{a:Act}{w:World}{l:List Oper}{tl:List Value}{ds:List Deferred}{j d:Nat}{oj:Oper}{r:List Oper}{r2:List Value}{b b':Bool}{v:Value}
theorem BQ(hg:o.guard=none)(h:wpList P ops Q rest (a.put o.dst v) w)(hy:(execOp a.eval o).run P w=.ok (.value v) w:=by first|(go_simp;done)|(go_simp;with_reducible rfl)):wpList P ops Q (o::rest) a w:=ie hg hy h
end
end
theorem nX{q:TypeId}{P:Program}{w:World}{ops:Array Oper}{o:Oper}{a:Act}{K:Act->World->Prop}{Q:Exit->Act->World->Prop}{E:Prop}(ap:o.guard=none)(s x:Operand)(t:TypeId)
 (ho:o.op=.call {callee:=.builtin .append,args:=#[s,x],argTypes:=#[t,t]})
 (base:Nat) (e:TypeId) (i:TypeInfo) (z:Value) (size bytes:Nat) (X:P.underlying t=some (.slice e)) (hi:P.info? e=some i) (hz:i.zero=some z)
 (C:i.size=size) (y:i.bytes=bytes) (D:z.cells.size=size) (au:0<size) (L:0<bytes)
 (p:Option Addr) (n aI:Nat) (xs:List Value) (hs:a.eval s=.slice p n aI) (ao:w.ownsRow base e size (.slice p n aI) n xs)
 (A:Option Addr) (m c:Nat) (news:List Value) (I:a.eval x=.slice A m c) (hr:Sl w q size A m news) (h1:∀u∈news,u.oneCell'=true)
 (f:(n+m)*bytes<=140737488355328) (aL:base<=w.heap.size)
 (h:∀(A':Option Addr) (c':Nat) (w':World),w'.ownsRow base e size (.slice A' (n+m) c') (n+m) (xs++news)->w.grownBy w' (Value.slice p n aI).ownBlock->((Value.slice A' (n+m) c').ownBlock=(Value.slice p n aI).ownBlock∨(Value.slice A' (n+m) c').ownBlock=some w.heap.size)->K (a.put o.dst (.slice A' (n+m) c')) w'):
 if Region.wanted o (yielded ops a.tmps)=true then Oper.wp P o a w K Q else E:=by
 have aK:Region.wanted o (yielded ops a.tmps)=true:=by simp[Region.wanted,ap]
 rw[Q_ aK];exact oy s x t ho base e i z size bytes X hi hz C y D au L p n aI xs hs ao A m c news I hr h1 f aL h
def At.row(a:At):Value × List Int:=(.slice a.A a.is.length a.c,a.is)
def GS.pre(s:GS)(F:List At):List (Value × List Int):=(.slice s.EA s.es.length s.ec,s.es)::(.slice s.FA s.fs.length s.fc,s.fs)::F.map At.row
theorem GS.pX(s:GS)(F:List At)(a:At)(h:s.os=F++[a]):s.rows=s.pre (s.rt++F)++[a.row]:=by
 unfold GS.rows GS.pre;rw[h,<-Er,Ed]
 rfl
theorem j4{l:List (Value × List Int)}{x:Value × List Int}:((l++[x]).filterMap λr=>r.1.ownBlock).Nodup↔(l.filterMap λr=>r.1.ownBlock).Nodup/\∀b,x.1.ownBlock=some b->∀r∈l,r.1.ownBlock≠some b:=by
 rw[List.filterMap_append,Fj]
 cases I:x.1.ownBlock with
 |none=>simp[I]
 |some c=>
  simp only[List.filterMap_cons,I,List.filterMap_nil];constructor
  .rintro⟨h1,_,h3⟩;refine⟨h1,λb hb r hr he=>?_⟩
   cases hb
   exact h3 c (Gc.2 ⟨r,hr,he⟩) c s_ rfl
  .rintro⟨h1,h2⟩;refine⟨h1,by simp,λy hy z hz=>?_⟩
   have:z=c:=by simpa using hz
   subst this;obtain⟨r,hr,he⟩:=Gc.1 hy;rintro rfl;exact h2 _ rfl r hr he
theorem mM.B_{base g:Nat}{w w':World}{s:GS}(h:mM base w g s)(F:List At)(a:At)(hs:s.os=F++[a])(A':Option Addr)(c' n:Nat)(i:Int)(hn:a.is.length=n)
 (bE:w.grownBy w' (Value.slice a.A n a.c).ownBlock) (ao:w'.ownsRow base 3 1 (.slice A' (n+1) c') (n+1) (a.is.map (i_)++[i_ i]))
 (o:(Value.slice A' (n+1) c').ownBlock=(Value.slice a.A n a.c).ownBlock∨(Value.slice A' (n+1) c').ownBlock=some w.heap.size):
 Bk w' a.box 30 #[.slice a.A n a.c]/\mM base (w'.setCell (c_ a.box 0) (.slice A' (n+1) c')) g {s with os:=F++[{a with A:=A',c:=c',is:=a.is++[i]}]}/\Gt base gT w (w'.setCell (c_ a.box 0) (.slice A' (n+1) c')):=by
 subst hn;have l:=s.pX F a hs;have kb:=h.kb;rw[l,j4]at kb;have k:=h.hi a.row (by rw[l];simp)
 have j:∀e,e≠3->ms e w w':=λe he=>.app bE k (Ne.symm he)
 have ax:s.rt++s.os=(s.rt++F)++[a]:=by rw[hs,Er]
 obtain⟨hab,qS⟩:=h.hb a (by rw[ax];simp);have d:=(j _ d_).bk hab
 have u:∀e,e≠30->ms e w' (w'.setCell (c_ a.box 0) (.slice A' (a.is.length+1) c')):=λe he=>.set d (Ne.symm he) _ _
 have hk:=λe h1 h2=>(j e h1).trans (u e h2)
 have hbn:=h.hbn;rw[ax,Ed,Fj]at hbn;have bM:Gt base gT w (w'.setCell (c_ a.box 0) (.slice A' (a.is.length+1) c')):=(Gt.app bE k d_).trans (.set d qS d_ _ _)
 have iv:(F++[({a with A:=A',c:=c',is:=a.is++[i]}:At)]).length=s.os.length:=by rw[hs];simp
 have m:GS.rows {s with os:=F++[({a with A:=A',c:=c',is:=a.is++[i]}:At)]}=s.pre (s.rt++F)++[(.slice A' (a.is.length+1) c',a.is++[i])]:=by
  rw[GS.pX _ F {a with A:=A',c:=c',is:=a.is++[i]} rfl];simp[At.row,GS.pre]
 refine⟨d,⟨?_,h.hbg,(hk _ d_ d_).own h.hl,(hk _ d_ d_).own h.hc,?_,?_,?_,?_,?_,(hk _ d_ d_).sl h.hv,F_ h.hz (hk 9 d_ d_).1⟩,bM⟩
 .have hc:GS.g8 {s with os:=F++[({a with A:=A',c:=c',is:=a.is++[i]}:At)]}=s.g8:=by unfold GS.g8;rw[iv]
  rw[hc];exact(hk _ d_ d_).bk h.hg
 .have:=(hk _ d_ d_).own h.ho
  rw[hs]at this
  simpa using this
 .intro x I
  have f:x∈(s.rt++F)++[({a with A:=A',c:=c',is:=a.is++[i]}:At)]:=by rw[Er];exact I
  rcases T_.1 f with I|I
  .obtain⟨h1,h2⟩:=h.hb x (by rw[ax];exact D4 _ I);refine⟨((j _ d_).bk h1).h7 (p:=(c_ a.box 0)) (λhe=>?_) _,h2⟩;exact hbn.2.2 x.box (D2.2 ⟨x,I,rfl⟩) a.box s_ he
  .have:x={a with A:=A',c:=c',is:=a.is++[i]}:=by simpa using I
   subst this;refine⟨?_,qS⟩
   have:=d.hJ 0 (.slice A' (a.is.length+1) c')
   show Bk _ a.box _ #[.slice A' (a.is++[i]).length c']
   rw[H_];exact this
 .have:=h.hbn
  rw[ax]at this
  simpa using this
 .intro r hr;rw[m]at hr;refine(u 3 d_).own ?_
  rcases T_.1 hr with hr|hr
  .refine nL (h.hi r (by rw[l];exact D4 _ hr)) (Gr.iM bE) λx I he=>?_
   exact kb.2 x (jw.1 I) r hr he
  .have:r=(.slice A' (a.is.length+1) c',a.is++[i]):=by simpa using hr
   subst this
   simpa using ao
 .rw[m,j4];refine⟨kb.1,λb hb r hr he=>?_⟩
  rcases o with ho|ho
  .exact kb.2 b (ho.symm.trans hb) r hr he
  .have aj:=(kj (h.hi r (by rw[l];exact D4 _ hr)) he).2
   have:some w.heap.size=some b:=ho.symm.trans hb
   injection this;omega
theorem td(i:Int):∀(l:List (Nat × List Int)) (a:Nat × List Int),qJ i (l++[a])=l++[(a.1,a.2++[i])]
 |[],a=>rfl
 |[b],a=>rfl
 |b::c::l,a=>by
  have:=td i (c::l) a
  simp only[FE]at this |-;rw[qJ,this]
theorem nV(base g:Nat)(v:iK)(w:World)(h:ln base w g v)(hn:v.l.length<=100000)(B:∀a∈v.ats,a.2.length<=100000)(cW:v.ats.length<=100000):
 Calls prog 217 #[q_ g] w (Ap base g v.protect uU w):=by
 refine hX λQ aD=>?_
 obtain⟨s,rfl,h⟩:=h;have hn:s.l.length<=100000:=hn
 rcases List.eq_nil_or_concat s.os with h0|⟨F,a,h0⟩
 .have E:w.cell? (c_ g 9)=some (.slice s.OA 0 s.oc):=by have:=h.hg.f_ 9;unfold GS.g8 at this;rw[h0]at this;exact this
  have aT:=h_ (l_ base g s 17 0 0 0 0 w h hn);have b:=h_ h0;clear h0
  go_enter func217,ntmps217
  go_wp2_with (go_at_call 138;refine aT.out.mono ?_;rintro e w2⟨L,lc,rfl,h2,ad,cj⟩)
  refine en_ ?_;rw[aD.out];refine⟨rfl,⟨_,?_,h2⟩,ad⟩;simp only[GS.lg,iK.protect,b.out]
  rfl
 .rw[List.concat_eq_append]at h0;obtain⟨bz,bw,br,bi,bf⟩:=info_parts infoInt;have aN:a.is.length<=100000:=B (a.box,a.is) (by simp[GS.lg,h0]);obtain⟨n,hn0⟩:=mn_ a.is.length;obtain⟨m,cA⟩:=mn_ F.length
  have M:s.os.length=m+1:=by rw[h0];simp[cA]
  have cu:m+1<=100000:=by
   have:s.os.length<=100000:=by simpa[GS.lg]using cW
   omega
  have E:w.cell? (c_ g 9)=some (.slice s.OA (m+1) s.oc):=by have:=h.hg.f_ 9;unfold GS.g8 at this;rw[M]at this;exact this
  obtain⟨go,cur,G,_,f,r⟩:=ky h.ho o_;have c:w.cell? (c_ go m)=some (q_ a.box):=(f.f_ m).trans (r m _ (by rw[h0];simp[<-cA]));have hab:=(h.hb a (by rw[h0];simp)).1;rw[hn0]at hab aN;have dg:w.cell? (c_ a.box 0)=some (.slice a.A n a.c):=hab.f_ 0;rw[G]at E;have aT:=h_ (l_ base g s 17 0 0 0 0 w.drew (h.g_ (D_ [] w).drew) hn);have b:=h_ h0;have a2:=h_ hn0;have z:=h_ G;have bg:=h_ M;have aY:=h_ f;clear h0 hn0 G cA M r
  go_enter func217,ntmps217
  go_upto_region 2 with fail
  have bY:IntKind.i64.wrap (m:Int)=m:=Eg _ o_
  have cl:(m:Int)<(m:Int)+1:=by omega
  refine hC (λw'=>w'.cell? (c_ g 9)=some (.slice (j_ go) (m+1) s.oc)/\w'.cell? (c_ go m)=some (q_ a.box)/\w'.cell? (c_ a.box 0)=some (.slice a.A n a.c)) 23 k_ ?_
  refine nc ⟨E,c,dg⟩ λC=>?_
  repeat refine jR C ?_
  refine hQ 19 λK H=>?_
  go_simp
  go_at_call 138
  refine aT.out.mono ?_;rintro e w2⟨L,lc,rfl,h2,ad,cj⟩;have bo:=(cj 313 d_ d_).bk aY.out;clear C
  refine hS H (
   ⟨by have:=h2.hg.f_ 9;unfold GS.g8 at this;rw[z.out,bg.out]at this;exact this,(bo.f_ m).trans ((aY.out.f_ m).symm.trans c),((cj 30 d_ d_).bk hab).f_ 0⟩) λC=>?_
  clear H K
  refine hQ 20 λK H=>?_
  go_simp;refine H.out _ _ (λ_=>⟨jo C.1 _,jo C.2.1 _,jo C.2.2 _⟩) ?_;clear H K;have h3:=h2.g_ ((D_ [] w2).alloc (.cells #[i_ s.l.length] 3));have be:Sl (w2.alloc (.cells #[i_ s.l.length] 3)) 3 1 (j_ w2.heap.size) 1 [i_ s.l.length]:=i5 (n:=1) (s:=1) (L_ w2 3 _) rfl;have S:Gt base gT w (w2.alloc (.cells #[i_ s.l.length] 3)):=((Gt.jQ (D_ [] w).drew).trans ad).trans (.jQ ((D_ [] w2).alloc _));have a8:=bo.alloc (.cells #[i_ s.l.length] 3);obtain⟨ai,O⟩:=nm_ (w2.alloc (.cells #[i_ s.l.length] 3));rw[<-O]at h3 be S a8 |-;clear O C;obtain⟨cx,cy⟩:=nm_ ({s with L:=L,lc:=lc,l:=s.l++[⟨17,0,0,0,0⟩]}:GS);rw[<-cy]at h3;have i:=h_ cy
  have N:cx.os=F++[a]:=by rw[cy];exact b.out
  have aq:=h3.hi a.row (by rw[cx.pX F a N];simp)
  have j:=by have:=aq;unfold At.row at this;simp only at this;rw[a2.out]at this;exact this
  clear cy aq h2
  refine hQ 21 λK H=>?_
  refine nX rfl (.tmp 27) (.tmp 30) 30 rfl base 3 bz _ 1 8 underlying30 bw br bi bf rfl d_ d_ a.A n a.c _ rfl j _ 1 1 _ rfl be (by intro u hu;simp at hu;subst hu;rfl) o_ h3.hz ?_;intro A' c' T ao bE o;obtain⟨d,ax,am⟩:=h3.B_ F a N A' c' n s.l.length a2.out bE ao o
  have bJ:∀e,e≠3->ms e ai T:=λe he=>.app bE j (Ne.symm he)
  refine hS H (by
   refine⟨?_,((bJ _ d_).bk a8).f_ m |>.trans ((aY.out.f_ m).symm.trans c),d.f_ 0⟩;refine(((bJ _ d_).bk h3.hg).f_ 9).trans ?_;rw[i.out]
   show some (Value.slice s.OA s.os.length s.oc)=_
   rw[z.out,bg.out]) λC=>?_
  clear H K;refine ih 22 C ?_;have bB:=d.hm 0
  refine hQ 23 λK H=>?_
  go_simp;refine H.out _ _ (λh=>D6 h d_) ?_;refine hA k_ ?_ _;go_wp2;refine rn_ ?_;rw[aD.out];refine⟨rfl,⟨_,?_,ax⟩,S.trans am⟩;rw[i.out];simp only[GS.lg,iK.protect,b.out,Ed,E1,Ff];rw[td]
def mT(w:World)(pv:Value):Prop:=∃(PA:Option Addr) (c:Nat) (fs:List FT),pv=.slice PA 3 c/\fs.length=3/\Au w PA fs/\tk pJ fs 0=1/\tk pf fs 0=2
theorem mT.gt{base:Nat}{w w':World}{pv:Value}(h:mT w pv)(hg:Gt base gT w w'):mT w' pv:=by
 obtain⟨PA,c,fs,h1,h2,h3,aw⟩:=h;exact⟨PA,c,fs,h1,h2,Sl.gt h3 hg d_,aw⟩
def BF(base g:Nat)(V:List ByteArray)(D:Nat):Prop:=∀(N:Nat) (t:ST) (v:iK) (q:Int) (p:Nat->Prop) (w:World),lJ V D N [t]->jx p w t->mT w v.pv->ln base w g v->GK v q D->v.l.length+30*N<=100000->
 Calls prog 175 #[q_ g,.agg t.g8] w (oq base g v D (30*N) w)
def ug(base g:Nat)(V:List ByteArray)(D:Nat):Prop:=∀(N:Nat) (A:Option Addr) (n c:Nat) (ts:List ST) (v:iK) (q:Int) (p:Nat->Prop) (w:World),ts.length=n->n<=100000->lJ V D N ts->Sl w 229 8 A n (ts.flatMap ST.E)->(∀u∈ts,jx p w u)->mT w v.pv->ln base w g v->GK v q D->v.l.length+30*N<=100000->
 Calls prog 137 #[q_ g,.slice A n c] w (oq base g v D (30*N) w)
theorem ST.at_{w:World}{A:Option Addr}{l:List ST}{n:Nat}(h:Sl w 229 8 A n (l.flatMap ST.E))(hn:l.length=n){k:Nat}(hk:k<l.length):∃b off,A=some (c_ b off)/\w.cell? (c_ b (off+k*8))=some (i_ l[k].hT)/\w.cell? (c_ b (off+k*8+1))=some (.string l[k].name)/\
 w.cell? (c_ b (off+k*8+2))=some (.string l[k].fn)/\w.cell? (c_ b (off+k*8+3))=some (i_ l[k].n)/\w.cell? (c_ b (off+k*8+4))=some (i_ l[k].op)/\
 w.cell? (c_ b (off+k*8+5))=some (.slice l[k].AE l[k].es.length l[k].cE)/\w.cell? (c_ b (off+k*8+6))=some (.slice l[k].AB l[k].bs.length l[k].cB)/\w.cell? (c_ b (off+k*8+7))=some (.slice l[k].AL l[k].ls.length l[k].cL):=by
 obtain⟨b,off,U,hc⟩:=Sl.f_ h o_
 have g:=λj hj=>iW ST.E 8 (λ_=>rfl) l k j hk hj
 exact⟨b,off,U,hc (k*8+0) _ (g 0 o_),hc (k*8+1) _ (g 1 o_),hc (k*8+2) _ (g 2 o_),hc (k*8+3) _ (g 3 o_),hc (k*8+4) _ (g 4 o_),hc (k*8+5) _ (g 5 o_),hc (k*8+6) _ (g 6 o_),hc (k*8+7) _ (g 7 o_)⟩
theorem Bk.iT{w:World}{g:Nat}{t:TypeId}{a b c d e f i j:Value}(h:Bk w g t #[a,b,c,d,e,f,i,j]):w.cell? (c_ g 0)=some a/\w.cell? (c_ g 1)=some b/\w.cell? (c_ g 2)=some c/\w.cell? (c_ g 3)=some d/\w.cell? (c_ g 4)=some e/\w.cell? (c_ g 5)=some f/\w.cell? (c_ g 6)=some i/\w.cell? (c_ g 7)=some j:=
 ⟨h.f_ 0,h.f_ 1,h.f_ 2,h.f_ 3,h.f_ 4,h.f_ 5,h.f_ 6,h.f_ 7⟩
theorem lJ.one{V:List ByteArray}{N:Nat}{t:ST}(h:lJ V D N [t]):∃r nb nl B L,D=r+1/\N=1+nb+nl/\mE V t.hT t.name t.fn t.n t.op t.es.length B L/\(B=false->t.bs=[])/\(L=false->t.ls=[])/\(∀e∈t.es,EG V 2 e)/\lJ V r nb t.bs/\lJ V r nl t.ls:=by
 cases h with
 |cons D a b nb nl t l B L h hB hL hes hb hl ha hr=>
  cases hr
  exact⟨D,nb,nl,B,L,rfl,by omega,h,hB,hL,hes,hb,hl⟩
theorem jx.parts{p:Nat->Prop}{w:World}{t:ST}(h:jx p w t):Sl w 226 5 t.AE t.es.length (t.es.flatMap ET.E)/\(∀u∈t.es,kc p w u)/\Sl w 229 8 t.AB t.bs.length (t.bs.flatMap ST.E)/\(∀u∈t.bs,jx p w u)/\Sl w 229 8 t.AL t.ls.length (t.ls.flatMap ST.E)/\(∀u∈t.ls,jx p w u):=by
 cases h with
 |mk t he hce hbe hes hb hcb qS hbs hl hcl hbl hls=>exact⟨he,hes,hb,hbs,hl,hls⟩
theorem lJ.len{V:List ByteArray}{N:Nat}{l:List ST}(h:lJ V D N l):l.length<=N:=by
 induction h with
 |nil D=>simp
 |cons D a b nb nl t l B L h hB hL hes hb hl ha hr _ _ ad=>simp only[D3];omega
def DP(base g:Nat)(v:iK)(D n:Nat)(w w':World):Prop:=∃v' q',ln base w' g v'/\Gt base gT w w'/\GK v' q' D/\GP v v' n
theorem mE.rng{V:List ByteArray}{k n o:Int}{x f:ByteArray}{m:Nat}{B L:Bool}(h:mE V k x f n o m B L):m<=2:=by cases h<;>omega
theorem mM.vy{base g:Nat}{w w':World}{s:GS}(h:mM base w g s)(p:Int × Int)(A':Option Addr)(c':Nat)(bE:w.grownBy w' (Value.slice s.CA s.cs.length s.cc).ownBlock)
 (ao:w'.ownsRow base 219 2 (.slice A' (s.cs.length+1) c') (s.cs.length+1) (mK s.cs++mK [p])):
 Bk w' g 210 s.g8/\mM base (w'.setCell (c_ g 5) (.slice A' (s.cs.length+1) c')) g {s with CA:=A',cc:=c',cs:=s.cs++[p]}/\Gt base gT w (w'.setCell (c_ g 5) (.slice A' (s.cs.length+1) c')):=by
 have j:∀e,e≠219->ms e w w':=λe he=>.app bE h.hc (Ne.symm he)
 have f:=(j _ d_).bk h.hg
 have u:∀e,e≠210->ms e w' (w'.setCell (c_ g 5) (.slice A' (s.cs.length+1) c')):=λe he=>.set f (Ne.symm he) _ _
 have hk:∀e,e≠219->e≠210->ms e w (w'.setCell (c_ g 5) (.slice A' (s.cs.length+1) c')):=λe h1 h2=>(j e h1).trans (u e h2)
 refine⟨f,⟨?_,h.hbg,(hk _ d_ d_).own h.hl,?_,(hk _ d_ d_).own h.ho,λa ha=>⟨(hk 30 d_ d_).bk (h.hb a ha).1,(h.hb a ha).2⟩,h.hbn,λr hr=>(hk 3 d_ d_).own (h.hi r hr),h.kb,(hk 9 d_ d_).sl h.hv,F_ h.hz (hk 9 d_ d_).1⟩,(Gt.app bE h.hc d_).trans (.set f h.hbg d_ _ _)⟩
 .have:=f.hJ 5 (.slice A' (s.cs.length+1) c')
  exact Kt
 .rw[H_]
  have e:mK (s.cs++[p])=mK s.cs++mK [p]:=by simp[mK]
  rw[e];exact(u _ d_).own ao
theorem zb(n:Int)(h0:0<=n)(h1:n<16):lq ⟨6,1,0,0,n⟩=true:=by simp[lq,jH,iZ,lV];omega
theorem ze(o r:Int)(ho:o=1∨o=6∨o=9)(h0:0<=r)(h1:r<64):lq ⟨10,0,o,0,r⟩=true:=by
 rcases ho with rfl|rfl|rfl<;>simp[lq,jH,iZ,lV,ri]<;>omega
theorem uX(base g:Nat)(V:List ByteArray)(D:Nat)(k:Int)(x f:ByteArray)(n o:Int)(AE:Option Addr)(cE:Nat)(es:List ET)(AB:Option Addr)(cB:Nat)(bs:List ST)(AL:Option Addr)(cL:Nat)(ls:List ST)(v:iK)(q:Int)(p:Nat->Prop)(w:World)(B L:Bool)(nb nl:Nat)(bN:ug base g V D)(cr:lJ V D nb bs)(d6:lJ V D nl ls)(a2:Sl w 229 8 AB bs.length (bs.flatMap ST.E))(cQ:∀u∈bs,jx p w u)(ca:Sl w 229 8 AL ls.length (ls.flatMap ST.E))(cT:∀u∈ls,jx p w u)
 (bL:mE V k x f n o es.length B L) (aJ:k≠9) (aY:k≠6) (ax:k≠5) (hes:∀e∈es,EG V 2 e) (be:Sl w 226 5 AE es.length (es.flatMap ET.E)) (kb:∀u∈es,kc p w u) (hP:mT w v.pv) (J:ln base w g v) (H:GK v q (D+1)) (iv:v.l.length+30*(1+nb+nl)<=100000):
 Calls prog 175 #[q_ g,.agg (ST.mk k x f n o AE cE es AB cB bs AL cL ls).g8] w (oq base g v (D+1) (30*(1+nb+nl)) w):=by
 refine hX λQ aD=>?_
 obtain⟨m,Y⟩:=mn_ es.length;have cl:=bL.rng;rw[Y]at cl bL;have O:=h_ Y;have bQ:=h_ bL;obtain⟨W,gx,aZ,I,hg,hB⟩:=box1 w 229 (ST.mk k x f n o AE cE es AB cB bs AL cL ls).g8
 replace hB:Bk W gx 229 #[i_ k,.string x,.string f,i_ n,i_ o,.slice AE m cE,.slice AB bs.length cB,.slice AL ls.length cL]:=by rw[<-Y];exact hB
 have d5:(k==9)=false:=by simpa using aJ
 have d4:(k==6)=false:=by simpa using aY
 have dk:(k==5)=false:=by simpa using ax
 obtain⟨Z,ah,au,aQ,aV,aE,z,y⟩:=hB.iT;have ay:=J.g_ hg;have b8:=h_ (be.g_ hg);have cK:=h_ (λu hu=>(kb u hu).g_ hg:∀u∈es,kc p W u);have aT:=h_ (hP.gt (.jQ hg:Gt base gT w W));have cY:=h_ (hP.gt (.jQ hg:Gt base gT w W));have d8:=h_ a2;have ea:=h_ ca;clear Y bL be kb hP J a2 ca
 go_enter func175,ntmps175
 go_upto_region 8 with fail
 clear Z ah au aQ aV aE z y;have bl:=h_ aZ;have M:=h_ I;clear aZ I
 go_loopw [27] (λar w'=>∃k:Nat,k<=m/\ar=i_ k/\DP base g v (D+1) (7*k) W w') (λar _=>m-(intOf ar).toNat)
 case atStart=>exact⟨0,N_ _,by go_num,v,q,ay,.refl _ _ _,H,.refl _⟩
 case round=>
  obtain⟨i,hi,rfl,v1,bp,bP,bM,F,a7⟩:=hrel;have hl1:=a7.len
  by_cases aj:i<m
  .have bm:i<es.length:=by have:=O.out;omega
   obtain⟨b,off,U,aI,c1,an,aN,c4⟩:=ET.at_ (b8.out.gt bM d_) bm;subst U;have aq:=oL base g V 2 es[i] (hes _ (J_ bm));have dN:=(cK.out _ (J_ bm)).gt bM d_;generalize es[i]=e at aI c1 an aN c4 aq dN;obtain⟨R,bt,b5,hg1,E,az⟩:=box1 wr 226 #[i_ e.hT,i_ e.n,.string e.name,i_ e.op,.slice e.A e.l.length e.c];obtain⟨Z,ah,au,aQ,aV⟩:=az.cells5;have d9:=h_ (aq i v1 bp (D+1) p R o_ o_ (dN.g_ E) (bP.g_ E) F (show v1.l.length+7<=100000 by omega));clear aq dN bP
   go_wp2_with fail
   refine d9.out.mono ?_;rintro aL w2⟨rfl,ao,bI,dw,S,cN,cy⟩;go_wp2;go_roundw
   case rel=>exact⟨i+1,by omega,by go_num,ao,bI,dw,(bM.trans (.jQ E)).trans S,cN,(a7.trans cy).le (show 7*i+7<=7*(i+1) by omega)⟩
   case measure=>simp[intOf];omega
  .have az:=hB.gt bM d_;obtain⟨Z,ah,au,aQ,aV,aE,z,y⟩:=az.iT;have bq:Gt base gT w wr:=(Gt.jQ hg).trans bM
   go_upto_region 13 with(go_at_call 204;refine(k1 base g v1 _ _ bP F.v1).mono ?_;rintro e w1⟨r,bu,bD,rfl,rfl⟩)
   have a:GP v v1 14:=a7.le o_;have cF:=a.len;have cU:=F.sb;have dr:=h_ (aT.out.gt bM);have bL:=bQ.out;clear bQ O b8 cK aT a7
   rcases bL with⟨_,X⟩|⟨_,dy,dP⟩|⟨_,X⟩|⟨_,X⟩|_|⟨_,X⟩|_|_|_|⟨_,X⟩|_|⟨_,X⟩|⟨_,X,_,eQ⟩
   .go_wp2_with (go_at_call 138;refine(ic base g v1 _ _ _ _ _ _ bP o_).mono ?_;rintro e w2⟨rfl,h2,ad⟩)
    refine en_ ?_;rw[aD.out];exact⟨rfl,_,_,h2,bq.trans ad,F.simp (lj 0 r o_ o_ bu o_),(a.trans (GP.put v1 _)).le o_⟩
   .go_wp2_with (go_at_call 138;refine(ic base g v1 _ _ _ _ _ _ bP o_).mono ?_;rintro e w2⟨rfl,h2,ad⟩)
    refine en_ ?_;rw[aD.out];exact⟨rfl,_,_,h2,bq.trans ad,F.simp (zb n dy o_),(a.trans (GP.put v1 _)).le o_⟩
   .have bH:=dr.out;obtain⟨PA,pc,dS,cX,bW,dq,bK,aM⟩:=dr.out;have aR:=h_ bK;have N:=h_ bW;have dD:=h_ dq;clear bW dq bK aM bH;obtain⟨s1,bT,bK⟩:=bP;have cV:=h_ bT
    have z0:wr.cell? (c_ g 0)=some (.slice PA 3 pc):=by
     have e:s1.pv=.slice PA 3 pc:=by rw[<-cX,<-a.pv,<-bT];rfl
     have:=bK.hg.f_ 0
     unfold GS.g8 at this;rw[e]at this;exact this
    clear bT cX
    go_upto_region 21 with fail
    refine hC (λw'=>w'.cell? (c_ g 0)=some (.slice PA 3 pc)/\w'.cell? (c_ gx 2)=some (.string pJ)) 6 k_ ?_
    refine nc ⟨z0,au⟩ λC=>?_
    iterate 6 refine jR C ?_
    refine hQ 6 λK H=>?_
    go_simp
    go_at_call 170
    refine(nt PA 3 pc dS pJ _ N.out (Sl.g_ dD.out (D_ [] _).drew) o_).mono ?_;rintro e w2⟨rfl,A⟩;rw[aR.out];replace A:=(D_ [] wr).drew.trans A;refine H.out _ _ (λh=>D6 h d_) ?_;clear H K C
    try simp only[a_]
    refine hQ 7 λK H=>?_
    go_simp;refine H.out _ _ (λh=>D6 h d_) ?_;clear H K
    try simp only[a_]
    refine hA k_ ?_ _
    go_upto_region 22 with fail
    have aM:=bK.g_ A;have bo:=az.g_ A;have dG:=bq.trans (.jQ A);clear z0 Z ah au aQ aV aE z y bK A;have z5:w2.cell? (c_ g 5)=some (.slice s1.CA s1.cs.length s1.cc):=aM.hg.f_ 5;have aE:w2.cell? (c_ gx 5)=some (.slice AE 2 cE):=bo.f_ 5;refine hC (λw'=>w'.cell? (c_ g 5)=some (.slice s1.CA s1.cs.length s1.cc)/\w'.cell? (c_ gx 5)=some (.slice AE 2 cE)) 16 k_ ?_;have C:w2.drew.cell? (c_ g 5)=some (.slice s1.CA s1.cs.length s1.cc)/\w2.drew.cell? (c_ gx 5)=some (.slice AE 2 cE):=⟨z5,aE⟩
    have hls:s1.l.length<=100000:=by
     have e:s1.l=v1.l:=D9 iK.l cV.out
     rw[e];omega
    have d:s1.cs.length<=100000:=by
     have e:s1.cs=v1.cs:=D9 iK.cs cV.out
     rw[e]
     have:=F.ok.yN
     omega
    (iterate 9 refine jR C ?_)
    refine ih 10 C ?_
    refine hQ 9 λK H=>?_
    go_simp
    go_at_call 138
    refine(l_ base g s1 13 0 2 0 0 _ (aM.g_ (D_ [] _).drew) hls).mono ?_;rintro e ai⟨eb,ei,rfl,cH,S,b0⟩;have a8:=bo.drew.gt S d_;clear C
    refine hS H ⟨cH.hg.f_ 5,a8.f_ 5⟩ λC=>?_
    clear H K;refine ih 11 C ?_
    refine hQ 12 λK H=>?_
    go_simp;refine H.out _ _ (λ_=>⟨jo C.1 _,jo C.2 _⟩) ?_;clear H K C;have be:Sl (ai.alloc (.cells #[i_ s1.l.length,i_ 1] 219)) 219 2 (j_ ai.heap.size) 1 (mK [((s1.l.length:Int),1)]):=i5 (n:=1) (s:=2) (L_ ai 219 _) rfl;have b3:=cH.g_ ((D_ [] ai).alloc (.cells #[i_ s1.l.length,i_ 1] 219));have af:=((dG.trans (.jQ (D_ [] w2).drew)).trans S).trans (.jQ ((D_ [] ai).alloc (.cells #[i_ s1.l.length,i_ 1] 219)));have bU:=a8.alloc (.cells #[i_ s1.l.length,i_ 1] 219);obtain⟨T,ek⟩:=nm_ (ai.alloc (.cells #[i_ s1.l.length,i_ 1] 219));rw[<-ek]at be b3 af bU |-;clear ek;obtain⟨bz,bw,br,bi,bf⟩:=info_parts infoPa
    try simp only[a_]
    refine hQ 13 λK H=>?_
    refine nX rfl (.tmp 74) (.tmp 82) 206 rfl base 219 bz _ 2 16 underlying206 bw br bi bf rfl d_ d_ s1.CA s1.cs.length s1.cc _ rfl b3.hc _ 1 1 _ rfl be (by intro u hu;simp[mK]at hu;rcases hu with rfl|rfl<;>rfl) o_ b3.hz ?_;intro a6 c5 ae aX dj _;obtain⟨bO,ce,aC⟩:=b3.vy _ a6 c5 dj aX;have b7:=(ms.app (e:=229) dj b3.hc d_).bk bU
    refine hS H ⟨bO.f_ 5,b7.f_ 5⟩ λC=>?_
    clear H K
    (iterate 2 refine jR C ?_)
    have f5:=bO.hm 5;have z5:=C.1
    refine hQ 16 λK H=>?_
    go_simp;refine H.out _ _ (λh=>D6 h d_) ?_;clear H K C z5 f5;refine hA k_ ?_ _;have aH:ln base (ae.setCell (c_ g 5) (.slice a6 (s1.cs.length+1) c5)) g (v1.call 2 1):=⟨_,by rw[<-cV.out];rfl,ce⟩;have bC:=af.trans aC;obtain⟨aF,cq⟩:=nm_ (ae.setCell (c_ g 5) (.slice a6 (s1.cs.length+1) c5));rw[<-cq]at aH bC |-;clear cq ce aC bO b3 cH aM af b7 bU a8
    go_wp2_with fail
    go_at_call 136
    refine(me base g _ _ aH (by have:=(GP.call v1 2 1).len;omega) cU.1 (by have:=cU.2;show v1.g9<=100000;omega)).mono ?_;rintro e aG⟨rfl,bA,aO⟩;have ap:=F.vz 2 1 o_ o_ o_ o_;have av:=(a.trans (GP.call v1 2 1)).trans (GP.mark _);exact GC
   .have bH:=dr.out;obtain⟨PA,pc,dS,cX,bW,dq,bK,aM⟩:=dr.out;have aR:=h_ aM;have N:=h_ bW;have dD:=h_ dq;clear bW dq bK aM bH;obtain⟨s1,bT,bK⟩:=bP;have cV:=h_ bT
    have z0:wr.cell? (c_ g 0)=some (.slice PA 3 pc):=by
     have e:s1.pv=.slice PA 3 pc:=by rw[<-cX,<-a.pv,<-bT];rfl
     have:=bK.hg.f_ 0
     unfold GS.g8 at this;rw[e]at this;exact this
    clear bT cX
    go_upto_region 21 with fail
    refine hC (λw'=>w'.cell? (c_ g 0)=some (.slice PA 3 pc)/\w'.cell? (c_ gx 2)=some (.string pf)) 6 k_ ?_
    refine nc ⟨z0,au⟩ λC=>?_
    iterate 6 refine jR C ?_
    refine hQ 6 λK H=>?_
    go_simp
    go_at_call 170
    refine(nt PA 3 pc dS pf _ N.out (Sl.g_ dD.out (D_ [] _).drew) o_).mono ?_;rintro e w2⟨rfl,A⟩;rw[aR.out];replace A:=(D_ [] wr).drew.trans A;refine H.out _ _ (λh=>D6 h d_) ?_;clear H K C
    try simp only[a_]
    refine hQ 7 λK H=>?_
    go_simp;refine H.out _ _ (λh=>D6 h d_) ?_;clear H K
    try simp only[a_]
    refine hA k_ ?_ _
    go_upto_region 22 with fail
    have aM:=bK.g_ A;have bo:=az.g_ A;have dG:=bq.trans (.jQ A);clear z0 Z ah au aQ aV aE z y bK A;have z5:w2.cell? (c_ g 5)=some (.slice s1.CA s1.cs.length s1.cc):=aM.hg.f_ 5;have aE:w2.cell? (c_ gx 5)=some (.slice AE 1 cE):=bo.f_ 5;refine hC (λw'=>w'.cell? (c_ g 5)=some (.slice s1.CA s1.cs.length s1.cc)/\w'.cell? (c_ gx 5)=some (.slice AE 1 cE)) 16 k_ ?_;have C:w2.drew.cell? (c_ g 5)=some (.slice s1.CA s1.cs.length s1.cc)/\w2.drew.cell? (c_ gx 5)=some (.slice AE 1 cE):=⟨z5,aE⟩
    have hls:s1.l.length<=100000:=by
     have e:s1.l=v1.l:=D9 iK.l cV.out
     rw[e];omega
    have d:s1.cs.length<=100000:=by
     have e:s1.cs=v1.cs:=D9 iK.cs cV.out
     rw[e]
     have:=F.ok.yN
     omega
    (iterate 9 refine jR C ?_)
    refine ih 10 C ?_
    refine hQ 9 λK H=>?_
    go_simp
    go_at_call 138
    refine(l_ base g s1 13 0 1 0 0 _ (aM.g_ (D_ [] _).drew) hls).mono ?_;rintro e ai⟨eb,ei,rfl,cH,S,b0⟩;have a8:=bo.drew.gt S d_;clear C
    refine hS H ⟨cH.hg.f_ 5,a8.f_ 5⟩ λC=>?_
    clear H K;refine ih 11 C ?_
    refine hQ 12 λK H=>?_
    go_simp;refine H.out _ _ (λ_=>⟨jo C.1 _,jo C.2 _⟩) ?_;clear H K C;have be:Sl (ai.alloc (.cells #[i_ s1.l.length,i_ 2] 219)) 219 2 (j_ ai.heap.size) 1 (mK [((s1.l.length:Int),2)]):=i5 (n:=1) (s:=2) (L_ ai 219 _) rfl;have b3:=cH.g_ ((D_ [] ai).alloc (.cells #[i_ s1.l.length,i_ 2] 219));have af:=((dG.trans (.jQ (D_ [] w2).drew)).trans S).trans (.jQ ((D_ [] ai).alloc (.cells #[i_ s1.l.length,i_ 2] 219)));have bU:=a8.alloc (.cells #[i_ s1.l.length,i_ 2] 219);obtain⟨T,ek⟩:=nm_ (ai.alloc (.cells #[i_ s1.l.length,i_ 2] 219));rw[<-ek]at be b3 af bU |-;clear ek;obtain⟨bz,bw,br,bi,bf⟩:=info_parts infoPa
    try simp only[a_]
    refine hQ 13 λK H=>?_
    refine nX rfl (.tmp 74) (.tmp 82) 206 rfl base 219 bz _ 2 16 underlying206 bw br bi bf rfl d_ d_ s1.CA s1.cs.length s1.cc _ rfl b3.hc _ 1 1 _ rfl be (by intro u hu;simp[mK]at hu;rcases hu with rfl|rfl<;>rfl) o_ b3.hz ?_;intro a6 c5 ae aX dj _;obtain⟨bO,ce,aC⟩:=b3.vy _ a6 c5 dj aX;have b7:=(ms.app (e:=229) dj b3.hc d_).bk bU
    refine hS H ⟨bO.f_ 5,b7.f_ 5⟩ λC=>?_
    clear H K
    (iterate 2 refine jR C ?_)
    have f5:=bO.hm 5;have z5:=C.1
    refine hQ 16 λK H=>?_
    go_simp;refine H.out _ _ (λh=>D6 h d_) ?_;clear H K C z5 f5;refine hA k_ ?_ _;have aH:ln base (ae.setCell (c_ g 5) (.slice a6 (s1.cs.length+1) c5)) g (v1.call 1 2):=⟨_,by rw[<-cV.out];rfl,ce⟩;have bC:=af.trans aC;obtain⟨aF,cq⟩:=nm_ (ae.setCell (c_ g 5) (.slice a6 (s1.cs.length+1) c5));rw[<-cq]at aH bC |-;clear cq ce aC bO b3 cH aM af b7 bU a8
    go_wp2_with fail
    go_at_call 136
    refine(me base g _ _ aH (by have:=(GP.call v1 1 2).len;omega) cU.1 (by have:=cU.2;show v1.g9<=100000;omega)).mono ?_;rintro e aG⟨rfl,bA,aO⟩;have ap:=F.vz 1 2 o_ o_ o_ o_;have av:=(a.trans (GP.call v1 1 2)).trans (GP.mark _);exact GC
   .have bS:=cY.out;have cx:=d8.out.g_ hg;have dK:=ea.out.g_ hg
    have cw:∀u∈bs,jx p W u:=λu hu=>(cQ u hu).g_ hg
    have dx:∀u∈ls,jx p W u:=λu hu=>(cT u hu).g_ hg
    go_wp2_with fail
    go_at_call 138
    refine(ic base g _ _ _ _ _ _ _ bP (by have:=a.len;omega)).mono ?_;rintro e dU⟨rfl,t,ck⟩;have cD:=F.vo 12 (.inr rfl);have b4:=a.trans (GP.put _ ⟨12,0,0,0,0⟩);have j:=bM.trans ck;clear bP bM ck;have dm:ij (iK.put v1 ⟨12,0,0,0,0⟩).l v1.l.length=12:=oe v1 _
    have d3:v1.l.length<(iK.put v1 ⟨12,0,0,0,0⟩).l.length:=by simp[iK.put]
    generalize bX:iK.put v1 ⟨12,0,0,0,0⟩=ao at*;clear bX;clear Z ah au aQ aV aE z y;obtain⟨Z,ah,au,aQ,aV,aE,z,y⟩:=(hB.gt j d_).iT
    go_wp2_with fail
    go_at_call 137
    refine(bN nb AB _ cB bs _ _ p _ rfl (by have:=cr.len;omega) cr (cx.gt j d_) (λu hu=>(cw u hu).gt j d_ d_) (by rw[b4.pv];exact bS.gt j) t (cD.le o_) (by have:=b4.len;omega)).mono ?_;rintro e cI⟨rfl,v22,dT,ct,co,c7,bj⟩;have bB:=GK.of cD bj (c7.le (N_ _));have bR:=b4.trans bj;have b9:=j.trans co;clear t j co c7;have eh:ij v22.l v1.l.length=12:=(bj.kp.2 _ o_).trans dm
    have er:v1.l.length<v22.l.length:=by have:=bj.kp.1;omega
    go_wp2_with fail
    go_at_call 138
    refine(ic base g _ _ _ _ _ _ _ ct (by have:=bR.len;omega)).mono ?_;rintro e d7⟨rfl,c8,dh⟩;have dt:=bB.vo 11 (.inl rfl);have c3:=bR.trans (GP.put _ ⟨11,0,0,0,0⟩);have cC:=b9.trans dh;clear ct b9 dh;have dQ:ij (iK.put v22 ⟨11,0,0,0,0⟩).l v22.l.length=11:=oe v22 _
    have ef:v22.l.length<(iK.put v22 ⟨11,0,0,0,0⟩).l.length:=by simp[iK.put]
    have dn:ij (iK.put v22 ⟨11,0,0,0,0⟩).l v1.l.length=12:=((GP.put v22 ⟨11,0,0,0,0⟩).kp.2 _ o_).trans eh;obtain⟨R,bn,b5,cg,E,az⟩:=box1 d7 3 #[i_ v1.l.length];have dV:Ns R 3 (j_ bn) [(v1.l.length:Int)]:=i5 (n:=1) (s:=1) az rfl;have dY:=c8.g_ E
    go_wp2_with fail
    go_at_call 205
    refine(mh base g _ _ 1 1 [(v1.l.length:Int)] _ dY (by have:=c3.len;omega) dV rfl (by intro i hi;simp at hi;subst hi;exact⟨by omega,by omega⟩) o_).mono ?_;rintro e ej⟨rfl,c9,bG⟩;have du:=dt.here v1.l.length (.inr dn);have c6:=c3.trans (GP.here _ [(v1.l.length:Int)]);have c:=(cC.trans (.jQ E)).trans bG;clear c8 cC bG dY dV b5 cg E az;clear Z ah au aQ aV aE z y;obtain⟨Z,ah,au,aQ,aV,aE,z,y⟩:=(hB.gt c d_).iT;have eg:ij (iK.here (iK.put v22 ⟨11,0,0,0,0⟩) [(v1.l.length:Int)]).l v22.l.length=11:=(n8 _ _ _ _).trans dQ
    have ep:(v22.l.length:Int)<(iK.here (iK.put v22 ⟨11,0,0,0,0⟩) [(v1.l.length:Int)]).l.length:=by simp only[iK.here,iV];omega
    generalize cf:iK.here (iK.put v22 ⟨11,0,0,0,0⟩) [(v1.l.length:Int)]=v9 at*;clear cf
    go_wp2_with fail
    go_at_call 137
    refine(bN nl AL _ cL ls _ _ p _ rfl (by have:=d6.len;omega) d6 (dK.gt c d_) (λu hu=>(dx u hu).gt c d_ d_) (by rw[c6.pv];exact bS.gt c) c9 (du.le o_) (by have:=c6.len;omega)).mono ?_;rintro e dB⟨rfl,v25,eu,cu,cR,d1,dz⟩;have dI:=GK.of du dz (d1.le (N_ _));have de:=c6.trans dz;have da:=c.trans cR;clear c9 c cR d1;have dR:ij v25.l v22.l.length=11:=(dz.kp.2 _ o_).trans eg
    have d2:(v22.l.length:Int)<v25.l.length:=by have:=dz.kp.1;omega
    obtain⟨bh,P,bF,cp,bV,bo⟩:=box1 dB 3 #[i_ v22.l.length];have dW:Ns bh 3 (j_ P) [(v22.l.length:Int)]:=i5 (n:=1) (s:=1) bo rfl;have dZ:=cu.g_ bV
    go_wp2_with fail
    go_at_call 205
    refine(mh base g _ _ 1 1 [(v22.l.length:Int)] _ dZ (by have:=de.len;omega) dW rfl (by intro i hi;simp at hi;subst hi;exact⟨by omega,d2⟩) o_).mono ?_;rintro e eo⟨rfl,dF,di⟩;have dJ:=dI.here v22.l.length (.inl dR);have dL:=de.trans (GP.here _ [(v22.l.length:Int)]);have dH:=(da.trans (.jQ bV)).trans di;clear cu da di dZ dW bF cp bV bo;exact Le
   .exact D6 rfl ax
   .exact D6 rfl aY
   .exact HQ
   .exact HQ
   .exact D6 rfl aJ
   .exact HQ
   .go_wp2_with fail
    go_at_call 206
    have dO:=F.h0;have ed:=F.hD;have cA:=F.m0;have bY:=F.m1;have cf:=F.v1;refine(sS base g v1 _ bP dO o_ cA o_ o_).mono ?_;rintro e w2⟨rfl,h2,ad⟩;have bZ:=h_ (show 0<=(v1.vs.length:Int)+v1.hidden/\(v1.vs.length:Int)+v1.hidden<64 by omega);have cN:=F.more;have cy:=GP.refl v1.more;have et:v1.more.l.length=v1.l.length:=rfl;have aK:=bq.trans ad;generalize (v1.vs.length:Int)+v1.hidden=u at bZ |-
    go_wp2_with fail
    go_at_call 138
    refine(ic base g _ _ _ _ _ _ _ h2 (by have:=cy.len;omega)).mono ?_;rintro e ai⟨rfl,h3,S⟩;have aS:=cN.simp (x:=⟨9,0,0,0,u⟩) (lj 0 u o_ o_ bZ.out.1 bZ.out.2);have cv:=cy.trans (GP.put _ ⟨9,0,0,0,u⟩);have dw:=aK.trans S;clear h2 aK S
    go_wp2_with fail
    go_at_call 136
    refine(me base g _ _ h3 (by have:=cv.len;omega) aS.sb.1 (by have:=aS.sb.2;have:=cv.len;omega)).mono ?_;rintro e T⟨rfl,aw,af⟩;have cZ:=aS.mark;have dX:=cv.trans (GP.mark _);have bv:=dw.trans af;clear h3 dw af
    go_wp2_with fail
    go_at_call 138
    refine(ic base g _ _ _ _ _ _ _ aw (by have:=dX.len;omega)).mono ?_;rintro e ae⟨rfl,ax,am⟩;have cj:=cZ.ask (by simp[iK.mark];omega) (by unfold iK.mark;have:=lW (iK.put v1.more ⟨9,0,0,0,u⟩).l ⟨21,0,0,0,(iK.put v1.more ⟨9,0,0,0,u⟩).g9⟩ [];simpa using this) u bZ.out.1 bZ.out.2;have cG:=dX.trans (GP.put _ ⟨20,0,0,0,u⟩);have ak:=bv.trans am;clear aw bv am
    go_wp2_with fail
    go_at_call 138
    refine(ic base g _ _ _ _ _ _ _ ax (by have:=cG.len;omega)).mono ?_;rintro e aF⟨rfl,aY,aC⟩;have ci:=cj.simp (x:=⟨8,0,0,0,u⟩) (o7 0 u o_ o_ bZ.out.1 bZ.out.2);have df:=cG.trans (GP.put _ ⟨8,0,0,0,u⟩);have db:=ak.trans aC;clear ax ak aC
    go_wp2_with fail
    go_at_call 138
    refine(ic base g _ _ _ _ _ _ _ aY (by have:=df.len;omega)).mono ?_;rintro e aG⟨rfl,bA,aO⟩;have ap:=ci.simp (x:=⟨9,0,0,0,r⟩) (lj 0 r o_ o_ bu o_);have av:=df.trans (GP.put _ ⟨9,0,0,0,r⟩);have b6:=db.trans aO;clear aY db aO;obtain⟨cz,bg,cn⟩:=bA;have d0:=av.hid;have dE:=h_ bg
    have cW:cz.hidden=v1.hidden+1:=by
     have e:cz.lg.hidden=v1.more.hidden:=by rw[bg];exact d0
     exact e
    have cJ:aG.cell? (c_ g 7)=some (i_ (v1.hidden+1)):=by rw[<-cW];exact cn.hg.f_ 7
    have f7:=cn.hg.hm 7;have dC:=h_ cW;clear bg d0 cW;go_wp2;refine en_ ?_;rw[aD.out];have cS:=cn.set 7 (i_ v1.hidden) (g9:=cz.g9) (hidden:=v1.hidden) (most:=cz.most) rfl;refine⟨rfl,_,_,⟨_,?_,cS⟩,b6.trans (cn.yq 7 _),GK.less F (ap.le (N_ _)) (by have:=av.hid;exact this) (by have:=av.rM;exact this),(a.trans (GP.more av)).le o_⟩;rw[<-dE.out];have cM:=dC.out;simp only[GS.lg,iK.less,cM];congr 1;omega
   .go_wp2_with (go_at_call 138;refine(ic base g v1 _ _ _ _ _ _ bP o_).mono ?_;rintro e w2⟨rfl,h2,ad⟩)
    refine en_ ?_;rw[aD.out];exact⟨rfl,_,_,h2,bq.trans ad,F.simp (ze o r eQ bu o_),(a.trans (GP.put v1 _)).le o_⟩
end Go.Proofs.YtenbhdilndfaeaaGreat
