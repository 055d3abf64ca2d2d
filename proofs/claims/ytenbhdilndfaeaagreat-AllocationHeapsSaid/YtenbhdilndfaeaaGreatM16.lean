import Derived.Test.YtenbhdilndfaeaaGreatM15
set_option maxRecDepth 100000
set_option maxHeartbeats 0
set_option linter.all false
namespace Go.Proofs.YtenbhdilndfaeaaGreat
open Go.RowKit Go.Proofs.Tryz
variable{G:Prop}{t:TypeId}{x:ByteArray}{D N R lo:Nat}{cs:Array Value}{p:Nat->Prop}{u:ST}{V:List ByteArray}{ts:List ST}{aF:World}{aJ:Option Addr}
theorem Gz(h:G:=by
 intro f vs Q hf C O K H;obtain⟨⟨a7,ta,o,cC,bj,bf,cT⟩, -⟩:=O
 try simp only[b_,o]at H |-
 go_simp;have aG:ta.length=_:=cC
 have be:Sl Q 226 5 (j_ a7) ta.length (ta.flatMap ET.E):=by rw[aG];exact bf
 have hcl:(lw 7 iU iU 0 0 (j_ a7) ta.length ta).g8=_:=rfl;simp only[ST.h9,lw,aG]at hcl;refine H.out _ _ C (D_ _ _) ⟨lw 7 iU iU 0 0 (j_ a7) ta.length ta,?_,jx.es _ _ _ _ _ be bj (λu hu=>(cT u hu).1),SG.leaf (t:=lw 7 iU iU 0 0 (j_ a7) ta.length ta) (by show mE _ 7 iU iU 0 0 ta.length _ _;rw[aG];exact .ret) rfl rfl (λu hu=>(cT u hu).2)⟩
 show Value.agg _=Value.agg (lw 7 iU iU 0 0 (j_ a7) ta.length ta).g8
 exact Kw):G:=h
theorem HC(h:G:=by
 refine hH [] ?_;intro vs Q C O K H;clear O
 try simp only[b_]at H |-
 go_simp
 go_at_call 145
 refine(j2 _ _).mono ?_;rintro e w1⟨rfl,hg1⟩;exact H.out _ _ (C.g_ hg1) (hg1.mono s_) ⟨jl A3,rfl,kc.leaf _ _ _ _ _ _,.var _ _ (by simp[h6])⟩):G:=h
theorem HS(h:G:=by
 refine jC [] ?_;intro f vs Q hf hp C O K H;clear O
 try simp only[b_]at H |-
 go_simp
 go_at_call 144
 refine(jY 0 _).mono ?_;exact J3):G:=h
theorem H0(h:G:=by
 refine jC [] ?_;intro f vs Q hf hp C O K H;clear O
 try simp only[b_]at H |-
 go_simp;exact H.out _ _ (C.rN d_ ((D_ [] _).alloc _)) (G8.jQ d_ ((D_ [] _).alloc _)) ⟨_,rfl,C.hz,L_ _ _ _⟩):G:=h
theorem Iw(h:G:=by
 refine jC [] ?_;intro f vs Q hf hp C O K H;clear O
 try simp only[b_]at H |-
 exact Kc):G:=h
theorem Jq(h:G:=by
 rintro e w1⟨t,rfl,V,aq,bh,hg1⟩;exact H.out _ _ (C.step hg1 bh) hg1 ⟨t,rfl,V.le C.hz,aq⟩):G:=h
theorem JQ(h:G:=by
 intro a b;obtain⟨x,A,h1,h2,h3⟩:=h.h2 a b;exact⟨x,A,h1,h2,h3.ir hg s_⟩):G:=h
theorem J3(h:G:=by
 rintro e w1⟨rfl,hg1⟩;exact H.out _ _ (C.rN d_ hg1) (G8.jQ d_ hg1) rfl):G:=h
theorem Kc(h:G:=by
 go_simp;exact H.out _ _ (C.add d_ (D_ [] _)) (yO.of d_ (D_ [] _)) rfl):G:=h
structure Ps(B g q:Nat)(fn hi:Int)(M:List Nat)(F L:World->Prop)(W:World)(b:Bool)(w:World):Prop where
 d:iE w B g
 lf:Lf g q 0 fn hi w
 f:F w
 l:b=false->L w
 gr:Gr M W w
 sF:∀a b,Gr M a b->F a->F b
 sL:∀a b,Gr [g] a b->L a->L b
 gM:g∈M
 qg:q≠g
section
variable{B g q:Nat}{fn hi:Int}{M:List Nat}{F L:World->Prop}{W w w':World}{b:Bool}
theorem Ps.hz(h:Ps B g q fn hi M F L W b w):W.heap.size<=w.heap.size:=h.gr.size
theorem Ps.step(h:Ps B g q fn hi M F L W b w)(hg:Gr [g] w w')(hd:iE w' B g):Ps B g q fn hi M F L W b w':=
 have Y:Gr M w w':=hg.mono (by intro x I;have:x=g:=(by simpa using I);subst this;exact h.gM)
 ⟨hd,h.lf.gr hg (by simpa using h.qg),h.sF _ _ Y h.f,λhb=>h.sL _ _ hg (h.l hb),h.gr.trans Y,h.sF,h.sL,h.gM,h.qg⟩
theorem Ps.g_(h:Ps B g q fn hi M F L W b w)(hg:Gr [] w w'):Ps B g q fn hi M F L W b w':=h.step (hg.mono s_) (h.d.g_ hg)
theorem Ps.app{o:Option Nat}(h:Ps B g q fn hi M F L W b w)(hg:Gr (ot o) w w')(ho:∀y∈ot o,B<=y/\q≠y)(z:∀y∈ot o,y∈M):Ps B g q fn hi M F L W true w':=
 ⟨h.d.h7 hg (λx I=>(ho x I).1),h.lf.gr hg (λY=>(ho _ Y).2 rfl),h.sF _ _ (hg.mono z) h.f,(λhb=>by cases hb),h.gr.trans (hg.mono z),h.sF,h.sL,h.gM,h.qg⟩
end
def h6:List ByteArray:=A3::hI
theorem Sl.yJ{w:World}{e:TypeId}{s x off n:Nat}{xs:List Value}(h:Sl w e s (some (c_ x off)) n xs)(hn:0<n)(k:Bk w R t cs)(av:e≠t):x≠R:=by
 intro he;subst he;obtain⟨b,o,y,fz,U,hb,_⟩:=h.2 hn;injection U with U;injection U with U;subst U;have cO:w.heap[x]?=_:=k;rw[hb]at cO;simp at cO;exact av cO.2.1
theorem kc.yJ{w:World}{u:ET}(h:kc p w u)(k:Bk w R t cs)(av:226≠t):kc (λx=>p x/\x≠R) w u:=by
 induction h with
 |mk u h hc hb _ ad=>exact .mk u h hc (λx off U hn=>⟨hb x off U hn,by rw[U]at h;exact h.yJ hn k av⟩) ad
theorem jx.yJ{w:World}(h:jx p w u)(k:Bk w R t cs)(av:226≠t)(I:229≠t):jx (λx=>p x/\x≠R) w u:=by
 induction h with
 |mk u he hce hbe hes hb hcb qS _ hl hcl hbl _ c d=>
  exact .mk u he hce (λx off U hn=>⟨hbe x off U hn,by rw[U]at he;exact he.yJ hn k av⟩) (λv hv=>(hes v hv).yJ k av) hb hcb (λx off U hn=>⟨qS x off U hn,by rw[U]at hb;exact hb.yJ hn k I⟩) c hl hcl (λx off U hn=>⟨hbl x off U hn,by rw[U]at hl;exact hl.yJ hn k I⟩) d
theorem jx.DW{w:World}(h:jx p w u)(hb:u.bs=[])(hl:u.ls=[])(k:Bk w R t cs)(av:226≠t):jx (λx=>p x/\x≠R) w u:=by
 cases h with
 |mk u he hce hbe hes y hcb qS hbs o hcl hbl hls=>
  exact .mk u he hce (λx off U hn=>⟨hbe x off U hn,by rw[U]at he;exact he.yJ hn k av⟩) (λv hv=>(hes v hv).yJ k av) y hcb (λx off U hn=>by rw[hb]at hn;cases hn) (λv hv=>by rw[hb]at hv;cases hv) o hcl (λx off U hn=>by rw[hl]at hn;cases hn) (λv hv=>by rw[hl]at hv;cases hv)
def SU.sq{M:List Nat}{lo:Nat}(V:List ByteArray)(z:∀y∈M,y<lo)(d:Nat):SU (λ_=>Gr M):=
 SU.of (λv w=>∃t:ET,v=.agg t.g8/\kc (jp lo) w t/\EG V d t) (λ_ _ _ hg⟨t,h1,h2,h3⟩=>⟨t,h1,h2.h7 hg (λx I=>EH.2 (z x I)),h3⟩)
def SU.y4{M:List Nat}{lo:Nat}(V:List ByteArray)(z:∀y∈M,y<lo)(d n:Nat):SU (λ_=>Gr M):=
 SU.of (λv w=>∃(x:Nat) (ts:List ET),v=.slice (j_ x) n n/\ts.length=n/\lo<=x/\Sl w 226 5 (j_ x) n (ts.flatMap ET.E)/\∀t∈ts,kc (jp lo) w t/\EG V d t)
  (λ_ _ _ hg⟨x,ts,h1,h2,h3,aw,ax⟩=>⟨x,ts,h1,h2,h3,aw.ir λy off U I=>hg.block y I (λY=>by injection U with U;injection U with U;have:=z y Y;omega),λt X=>⟨(ax t X).1.h7 hg (λx I=>EH.2 (z x I)),(ax t X).2⟩⟩)
def DG(us:List ST):Prop:=∃(cg:List ST) (eg:ST),us=cg++[eg]/\cg.map ST.name=[vh,ur,uJ,mH,ou,wB,wA]/\∀s∈cg,s.hT=1
def G8(g m HA:Nat)(i:Nat)(a b:World):Prop:=if i=19 then(∃M,Gr M a b/\∀x∈M,HA<=x/\∀t cs,Bk a x t cs->t=229) else Gr (if i=18 then[g,m] else[g]) a b
theorem G8.of{g m HA i:Nat}{a b:World}(hi:i≠19)(h:Gr [g] a b):G8 g m HA i a b:=by
 unfold G8;rw[P_ hi];split
 .exact h.mono s_
 .exact h
theorem G8.jQ{g m HA i:Nat}{a b:World}(hi:i≠19)(h:Gr [] a b):G8 g m HA i a b:=G8.of hi (h.mono s_)
theorem G8.gr{g m HA i:Nat}{a b:World}(h:G8 g m HA i a b)(hi:i∉[19]):Gr [g,m] a b:=by
 unfold G8 at h;rw[P_ (by simpa using hi)]at h;split at h
 .exact h
 .exact h.mono s_
theorem G8.bk{g m HA i x:Nat}{a b:World}(h:G8 g m HA i a b)(k:Bk a x t cs)(X:t≠229)(hg:x≠g)(Y:x≠m):Bk b x t cs:=by
 by_cases hi:i=19
 .unfold G8 at h;rw[Q_ hi]at h;obtain⟨M,h1,h2⟩:=h;exact k.gr h1 (λI=>X ((h2 x I).2 t cs k))
 .exact k.gr (h.gr (by simpa using hi)) (by simp;exact⟨hg,Y⟩)
def Dg(b1 HA:Nat)(v:Value)(w:World):Prop:=∃(x:Nat) (us:List ST),v=.slice (j_ x) 8 8/\us.length=8/\DG us/\lm h6 b1 5 9 w (j_ x) 8 us/\HA<=x
def Df(b1 HA:Nat)(v:Value)(w:World):Prop:=∃(A:Option Addr) (c:Nat) (ts:List ST) (N:Nat),v=.slice A ts.length c/\ts.length<=3/\N<=6/\lm hI b1 3 N w A c ts
def J8(b1 HA:Nat)(a d:Value)(w:World):Prop:=∃(x:Nat) (us:List ST) (A:Option Addr) (c:Nat) (ts:List ST) (N:Nat),a=.slice (j_ x) 8 8/\us.length=8/\DG us/\lm h6 b1 5 9 w (j_ x) 8 us/\HA<=x/\
 d=.slice A ts.length c/\ts.length<=3/\N<=6/\lm hI b1 3 N w A c ts/\∀u∈ts,jx (λy=>b1<=y/\y≠x) w u
theorem Dg.ir{b1 HA:Nat}{v:Value}{w w':World}{M:List Nat}(h:Dg b1 HA v w)(hg:Gr M w w')(z:∀x∈M,x<b1):Dg b1 HA v w':=by
 obtain⟨x,us,h1,h2,h3,aw,ax⟩:=h;exact⟨x,us,h1,h2,h3,aw.ir hg z,ax⟩
theorem Df.ir{b1 HA:Nat}{v:Value}{w w':World}{M:List Nat}(h:Df b1 HA v w)(hg:Gr M w w')(z:∀x∈M,x<b1):Df b1 HA v w':=by
 obtain⟨A,c,ts,N,h1,h2,h3,aw⟩:=h;exact⟨A,c,ts,N,h1,h2,h3,aw.ir hg z⟩
theorem J8.ir{b1 HA:Nat}{v v':Value}{w w':World}{M:List Nat}(h:J8 b1 HA v v' w)(hg:Gr M w w')(z:∀x∈M,x<b1):J8 b1 HA v v' w':=by
 obtain⟨x,us,A,c,ts,N,h1,h2,h3,aw,ax,aY,bA,aU,aJ,h10⟩:=h;exact⟨x,us,A,c,ts,N,h1,h2,h3,aw.ir hg z,ax,aY,bA,aU,aJ.ir hg z,λu hu=>(h10 u hu).h7 hg (λy hy hp=>by have:=z y hy;have:=hp.1;omega)⟩
theorem lm.bd{b c:Nat}{w:World}{A:Option Addr}(h:lm V b D N w A c ts){x:Nat}(I:w.heap.size<=x):∀u∈ts,jx (λy=>b<=y/\y≠x) w u:=λu hu=>((h.jd u hu).lt).imp λy hy=>⟨hy.1.1,by have:=hy.2;omega⟩
def vg:ByteArray:={data:=#[109,97,105,110]}
structure yP(lo hi:Nat)(w:World)(AP:Option Addr)(cP:Nat)(ps:List ByteArray)(A:Option Addr)(c:Nat)(bs:List ST):Prop where
 hp:Sl w 9 1 AP ps.length (ps.map Value.string)
 uK:ps.length<=cP
 Dr:∀x off,AP=some (c_ x off)->0<ps.length->lo<=x/\x<hi
 hb:Sl w 229 8 A bs.length (bs.flatMap ST.E)
 Bd:bs.length<=c
 qS:∀x off,A=some (c_ x off)->0<bs.length->lo<=x/\x<hi
 hs:∀t∈bs,jx (λx=>lo<=x/\x<hi) w t
theorem yP.ir{hi cP c:Nat}{w w':World}{AP A:Option Addr}{ps:List ByteArray}{bs:List ST}{M:List Nat}(h:yP lo hi w AP cP ps A c bs)(hg:Gr M w w')(z:∀x∈M,x<lo∨hi<=x):yP lo hi w' AP cP ps A c bs:=
 ⟨h.hp.rD λhn x off U I=>hg.block x I (λY=>by have:=z x Y;have:=h.Dr x off U hn;omega),h.uK,h.Dr,
   h.hb.rD λhn x off U I=>hg.block x I (λY=>by have:=z x Y;have:=h.qS x off U hn;omega),h.Bd,h.qS,λt X=>(h.hs t X).h7 hg (λx I hp=>by have:=z x I;omega)⟩
theorem lm.fin{c hi:Nat}{w:World}{A:Option Addr}(h:lm V lo D N w A c ts)(eT:w.heap.size<=hi):yP lo hi w none 0 [] A c ts:=
 ⟨EM _ _ _ _,G_ _,(λ_ _ h _=>by cases h),h.sl,iQ h.own,λx off U _=>by subst U;have:=kj h.own (x:=x) rfl;omega,λt X=>((h.jd t X).lt).imp λx I=>⟨I.1.1,by have:=I.2;omega⟩⟩
theorem yP.Br{hi c cP:Nat}{w:World}{A AP:Option Addr}{ps:List ByteArray}(h:yP lo hi w none 0 [] A c ts)(hp:Sl w 9 1 AP ps.length (ps.map Value.string))(hc:ps.length<=cP)(hb:∀x off,AP=some (c_ x off)->0<ps.length->lo<=x/\x<hi):yP lo hi w AP cP ps A c ts:=
 ⟨hp,hc,hb,h.hb,h.Bd,h.qS,h.hs⟩
theorem zM{b1 R0 n0 c aK:Nat}{T ae:World}{A As:Option Addr}(ci:jx (jp T.heap.size) ae (iS oW As (eNew 3)))(am:Gr [] T ae)(hL:lm hI b1 4 N T A c ts)(hn:n0=ts.length)(cj:aF.ownsRow ae.heap.size 229 8 (.slice aJ (1+n0) aK) (1+n0) ((iS oW As (eNew 3)).g8.toList++ts.flatMap ST.E))(eu:(ae.alloc (.cells (iS oW As (eNew 3)).g8 229)).grownBy aF (Value.slice (j_ ae.heap.size) 1 1).ownBlock)(de:(Value.slice aJ (1+n0) aK).ownBlock=(Value.slice (j_ ae.heap.size) 1 1).ownBlock∨(Value.slice aJ (1+n0) aK).ownBlock=some (ae.alloc (.cells (iS oW As (eNew 3)).g8 229)).heap.size)(hb:R0<=b1)(hR:R0<=T.heap.size):
 lm hI R0 5 (1+N) aF aJ aK ([iS oW As (eNew 3)]++ts):=by
 subst hn;have ax:=am.size
 have a:lm hI R0 5 1 (ae.alloc (.cells (iS oW As (eNew 3)).g8 229)) (j_ ae.heap.size) 1 [iS oW As (eNew 3)]:=by
  refine⟨od (sJ (n:=1) (s:=8) (L_ ae 229 (iS oW As (eNew 3)).g8) rfl (G_ _) d_) o_,?_,SG.leaf (.uE _ (show oW∈hI by simp[hI])) rfl rfl (by intro u hu;rcases M_.1 hu with rfl|hu;exact .new _ _ o_ o_;cases hu)⟩;intro u hu
  have:u=iS oW As (eNew 3):=by simpa using hu
  subst this;exact(ci.lt.imp (λx I=>⟨by have:T.heap.size<=x:=I.1;omega,λhe=>by have:=I.2;simp[Value.ownBlock]at he;omega⟩)).g_ ((D_ [] ae).alloc _)
 exact a.add (us:=ts) (od cj o_) eu de (λu hu=>(((hL.jd u hu).lt.imp (λx I=>⟨by have:=I.1.1;omega,λhe=>by have:=I.2;simp[Value.ownBlock]at he;omega⟩)).g_ am).g_ ((D_ [] ae).alloc _)) (hL.sg.mono o_)
theorem A6{b n0 aK:Nat}{s:ST}(h:lm V b D N aF aJ aK ([s]++ts))(hn:n0=ts.length):Sl aF 229 8 aJ (1+n0) (([s]++ts).flatMap ST.E):=by
 subst hn
 have:=h.sl
 rw[H_]at this;exact this
def Ar(bs:List ST):Prop:=∃(Z ls:List ST) (N:Nat),bs=Z++ls/\Z.map ST.name=hI/\(∀s∈Z,s.hT=1)/\lJ hI 5 N bs/\N<=28/\bs.length<=30
def mq(lo hi RM:Nat)(w:World):Prop:=∃(A:Option Addr) (c:Nat) (bs:List ST),Bk w RM 213 #[.string vg,n_,.slice A bs.length c]/\yP lo hi w none 0 [] A c bs/\Ar bs/\lo<=RM/\RM<hi
theorem mq.ir{hi RM:Nat}{w w':World}{M:List Nat}(h:mq lo hi RM w)(hg:Gr M w w')(z:∀x∈M,x<lo∨hi<=x):mq lo hi RM w':=by
 obtain⟨A,c,bs,h1,h2,h3,aw,ax⟩:=h;exact⟨A,c,bs,h1.gr hg (λY=>by have:=z RM Y;omega),h2.ir hg z,h3,aw,ax⟩
def FG(us:List ST):Prop:=∃(cg:List ST) (eg:ST) (ls:List ST),us=cg++(eg::ls)/\cg.map ST.name=[vh,ur,uJ,mH,ou,wB,wA]/\∀s∈cg,s.hT=1
def Am(HA:Nat)(x:ByteArray)(v:Value)(w:World):Prop:=∃(A:Option Addr) (a:ET),v=.agg (iS x A a).g8/\jx (jp HA) w (iS x A a)/\SG h6 1 1 (iS x A a)
def my:List (Nat × ByteArray):=[(2,vh),(4,ur),(6,uJ),(8,mH),(10,ou),(12,wB),(14,wA)]
theorem Am.ir{HA:Nat}{v:Value}{w w':World}{M:List Nat}(h:Am HA x v w)(hg:Gr M w w')(z:∀y∈M,y<HA):Am HA x v w':=by
 obtain⟨A,a,h1,h2,h3⟩:=h;exact⟨A,a,h1,h2.h7 hg (λy hy=>EH.2 (z y hy)),h3⟩
structure r9(B g m R0 b1 H9 RM RA HA:Nat)(tA:ST)(W:World)(f:Nat->Bool)(vs:Nat->Value)(w:World):Prop where
 d:iE w B g
 lf:Lf g m 0 1 3 w
 r:Bk w R0 150 #[n_]
 mo:mq b1 H9 RM w
 a:Bk w RA 229 tA.g8
 ta:jx (λx=>b1<=x/\x<HA) w tA
 oI:f 19=false->∀i x,(i,x)∈my->f i=true->Am HA x (vs i) w
 xp:f 16=true->f 18=false->Dg b1 HA (vs 16) w
 yL:f 18=true->f 16=false->Df b1 HA (vs 18) w
 hj:f 16=true->f 18=true->f 19=false->J8 b1 HA (vs 16) (vs 18) w
 Da:f 19=true->f 16=true
 gr:Gr [g,m] W w
 o:g<B/\B<=m/\R0<m/\g<R0/\m<b1/\b1<=HA/\H9<=HA/\RA<HA/\b1<=RA/\W.heap.size=HA
theorem rZ{i:Nat}(h:(i,x)∈my):i∈[2,4,6,8,10,12,14]:=by
 simp[my]at h;simp;omega
section
variable{B g m R0 b1 H9 RM RA HA:Nat}{tA:ST}{W w w':World}{f:Nat->Bool}{vs:Nat->Value}{v:Value}{i:Nat}
theorem r9.hz(h:r9 B g m R0 b1 H9 RM RA HA tA W f vs w):HA<=w.heap.size:=by have:=h.gr.size;have:=h.o;omega
theorem r9.base(h:r9 B g m R0 b1 H9 RM RA HA tA W f vs w){M:List Nat}(hg:Gr M w w')(z:∀x∈M,x=g∨x=m∨HA<=x):
 Bk w' R0 150 #[n_]/\mq b1 H9 RM w'/\Bk w' RA 229 tA.g8/\jx (λx=>b1<=x/\x<HA) w' tA/\Gr [g,m] W w':=by
 have ho:=h.o;exact⟨h.r.gr hg (λI=>by have:=z _ I;omega),h.mo.ir hg (λx I=>by have:=z x I;omega),h.a.gr hg (λI=>by have:=z _ I;omega),h.ta.h7 hg (λx I hp=>by have:=z x I;omega),h.gr.hx hg (λx I=>by have:=z x I;simp;omega)⟩
theorem ib{f:Nat->Bool}{i j:Nat}(h:j≠i):(j==i||f j)=f j:=by
 have:(j==i)=false:=by simpa using h
 rw[this,FM]
theorem kS{vs:Nat->Value}{v:Value}{i j:Nat}(h:j≠i):rU vs i v j=vs j:=by simp[rU,h]
theorem na{vs:Nat->Value}{v:Value}{i:Nat}:rU vs i v i=v:=by simp[rU]
theorem r9.add(h:r9 B g m R0 b1 H9 RM RA HA tA W f vs w)(hi:i∉[2,4,6,8,10,12,14,16,18,19])(hg:Gr [g] w w')(hd:iE w' B g):r9 B g m R0 b1 H9 RM RA HA tA W (λj=>j==i||f j) (rU vs i v) w':=by
 have ho:=h.o;obtain⟨h1,h2,h3,aw,ax⟩:=h.base hg s_
 have hb:∀x∈[g],x<b1:=by simp;omega
 have b9:∀x∈[g],x<HA:=by simp;omega
 have dh:(16:Nat)≠i:=λe=>hi (by simp[<-e])
 have du:(18:Nat)≠i:=λe=>hi (by simp[<-e])
 have d:(19:Nat)≠i:=λe=>hi (by simp[<-e])
 refine⟨hd,h.lf.gr hg p_,h1,h2,h3,aw,?_,?_,?_,?_,(by rw[ib d,ib dh];exact h.Da),ax,ho⟩
 .intro cq j x hj hf;rw[ib d]at cq
  have av:j≠i:=λe=>by
   have:=rZ hj
   subst e;exact hi (by simp at this |-;omega)
  rw[ib av]at hf;rw[kS av];exact(h.oI cq j x hj hf).ir hg b9
 .rw[ib dh,ib du,kS dh]
  exact λa b=>(h.xp a b).ir hg hb
 .rw[ib dh,ib du,kS du]
  exact λa b=>(h.yL a b).ir hg hb
 .rw[ib dh,ib du,ib d,kS dh,kS du]
  exact λa b c=>(h.hj a b c).ir hg hb
theorem r9.rN(h:r9 B g m R0 b1 H9 RM RA HA tA W f vs w)(hi:i∉[2,4,6,8,10,12,14,16,18,19])(hg:Gr [] w w'):r9 B g m R0 b1 H9 RM RA HA tA W (λj=>j==i||f j) (rU vs i v) w':=h.add hi (hg.mono s_) (h.d.g_ hg)
theorem r9.wY(h:r9 B g m R0 b1 H9 RM RA HA tA W f vs w)(hi:(i,x)∈my)(I:∀y,(i,y)∈my->y=x)(hg:Gr [] w w')(hP:Am HA x v w'):r9 B g m R0 b1 H9 RM RA HA tA W (λj=>j==i||f j) (rU vs i v) w':=by
 have ho:=h.o;have Y:=rZ hi;obtain⟨h1,h2,h3,aw,ax⟩:=h.base hg s_
 have dh:(16:Nat)≠i:=λe=>by subst e;simp at Y
 have du:(18:Nat)≠i:=λe=>by subst e;simp at Y
 have d:(19:Nat)≠i:=λe=>by subst e;simp at Y
 refine⟨h.d.g_ hg,h.lf.gr hg s_,h1,h2,h3,aw,?_,?_,?_,?_,(by rw[ib d,ib dh];exact h.Da),ax,ho⟩
 .intro cq j y hj hf;rw[ib d]at cq
  by_cases av:j=i
  .subst av;rw[na,I y hj];exact hP
  .rw[ib av]at hf;rw[kS av];exact(h.oI cq j y hj hf).ir hg s_
 .rw[ib dh,ib du,kS dh]
  exact λa b=>(h.xp a b).ir hg s_
 .rw[ib dh,ib du,kS du]
  exact λa b=>(h.yL a b).ir hg s_
 .rw[ib dh,ib du,ib d,kS dh,kS du]
  exact λa b c=>(h.hj a b c).ir hg s_
theorem r9.Dw(h:r9 B g m R0 b1 H9 RM RA HA tA W f vs w)(hf:f 16=false)(hg:Gr [] w w'){us:List ST}(hv:v=.slice (j_ w.heap.size) 8 8)(hl:us.length=8)(hk:DG us)(hL:lm h6 b1 5 9 w' (j_ w.heap.size) 8 us):r9 B g m R0 b1 H9 RM RA HA tA W (λj=>j==16||f j) (rU vs 16 v) w':=by
 have hz:=h.hz;obtain⟨h1,h2,h3,aw,ax⟩:=h.base hg s_;refine⟨h.d.g_ hg,h.lf.gr hg s_,h1,h2,h3,aw,?_,?_,?_,?_,(λ_=>by simp),ax,h.o⟩
 .intro cq j y hj k
  have av:j≠16:=λe=>by have:=rZ hj;subst e;simp at this
  rw[ib d_]at cq;rw[ib av]at k;rw[kS av];exact(h.oI cq j y hj k).ir hg s_
 .intro _ _;rw[na];exact⟨_,us,hv,hl,hk,hL,hz⟩
 .intro _ xp;simp at xp
 .intro _ d _;rw[ib d_]at d;rw[na,kS d_];obtain⟨A,c,ts,N,h1,h2,h3,aw⟩:=h.yL d hf;exact⟨_,us,A,c,ts,N,hv,hl,hk,hL,hz,h1,h2,h3,aw.ir hg s_,λu hu=>(aw.bd (G_ _) u hu).g_ hg⟩
theorem r9.Dv(h:r9 B g m R0 b1 H9 RM RA HA tA W f vs w)(hf:f 18=false)(hg:Gr [g,m] w w')(hd:iE w' B g)(dF:Lf g m 0 1 3 w'){A:Option Addr}{c:Nat}(hv:v=.slice A ts.length c)(hl:ts.length<=3)(br:N<=6)(hL:lm hI w.heap.size 3 N w' A c ts):r9 B g m R0 b1 H9 RM RA HA tA W (λj=>j==18||f j) (rU vs 18 v) w':=by
 have ho:=h.o;have hz:=h.hz;obtain⟨h1,h2,h3,aw,ax⟩:=h.base hg s_;refine⟨hd,dF,h1,h2,h3,aw,?_,?_,?_,?_,(by rw[ib d_,ib d_];exact h.Da),ax,ho⟩
 .intro cq j y hj k
  have av:j≠18:=λe=>by have:=rZ hj;subst e;simp at this
  rw[ib d_]at cq;rw[ib av]at k;rw[kS av];exact(h.oI cq j y hj k).ir hg p_
 .intro _ yL;simp at yL
 .intro _ _;rw[na];exact⟨A,c,ts,N,hv,hl,br,hL.le o_⟩
 .intro a _ _;rw[ib d_]at a;rw[na,kS d_];obtain⟨x,us,bO,bl,k3,dO,dH⟩:=h.xp a hf;have I:=(kj dO.own (x:=x) rfl).2;exact⟨x,us,A,c,ts,N,bO,bl,k3,dO.ir hg p_,dH,hv,hl,br,hL.le o_,λu hu=>(hL.jd u hu).imp λy hy=>⟨by have:=hy.1;omega,by have:=hy.1;omega⟩⟩
theorem jx.fresh{b n c:Nat}{C:Array Value}(h:jx p w u)(hp:∀x,p x->b<=x):jx (yf b (Value.slice (j_ w.heap.size) n c).ownBlock) (w.alloc (.cells C t)) u:=
 (h.lt.imp λx I=>⟨hp x I.1,λhe=>by simp[Value.ownBlock]at he;have:=I.2;omega⟩).g_ ((D_ [] w).alloc _)
theorem lm.CL{b c:Nat}{A:Option Addr}(h:lm V b D N w A c ts)(k:Bk w R 213 cs)(hg:Gr [R] w w'):lm V b D N w' A c ts:=by
 refine⟨nL h.own hg (λx I he=>?_),λu hu=>((h.jd u hu).yJ k d_ d_).h7 hg (λx I hp=>hp.2 (by simpa using I)) |>.imp (λ_ hp=>hp.1),h.sg⟩
 have I:=by simpa using I
 subst I
 rcases h.own.2 with⟨hv,_⟩|⟨q,kX,cur,hv,_,aB,_⟩
 .rw[hv]at he
  cases he
 .rw[hv]at he
  have:q=x:=by simpa[Value.ownBlock]using he
  subst this;have cO:w.heap[q]?=_:=k;rw[aB]at cO;simp at cO
theorem r9.Du(h:r9 B g m R0 b1 H9 RM RA HA tA W f vs w)(a:f 16=true)(d:f 18=true){M:List Nat}(hg:Gr M w w')(z:∀x∈M,HA<=x):r9 B g m R0 b1 H9 RM RA HA tA W (λj=>j==19||f j) (rU vs 19 v) w':=by
 have ho:=h.o;obtain⟨h1,h2,h3,aw,ax⟩:=h.base hg (λx I=>.inr (.inr (z x I)));refine⟨h.d.h7 hg (λx I=>by have:=z x I;omega),h.lf.gr hg (λI=>by have:=z _ I;omega),h1,h2,h3,aw,(λcq=>by simp at cq),(λ_ hf=>by rw[ib d_,d]at hf;cases hf),(λ_ hf=>by rw[ib d_,a]at hf;cases hf),(λ_ _ hf=>by simp at hf),(λ_=>by rw[ib d_];exact a),ax,ho⟩
end
def DO(v:Value)(w:World)(H:Nat):Prop:=∃(A:Option Addr),v=.agg (iS ou A (jl mH)).g8/\jx (jp H) w (iS ou A (jl mH))
def DN(b1 H:Nat)(v:Value)(w:World):Prop:=∃(x:Nat) (A:Option Addr),v=.slice (j_ x) 1 1/\H<=x/\lm hI b1 3 1 w (j_ x) 1 [iS ou A (jl mH)]
structure qN(b1:Nat)(W:World)(f:Nat->Bool)(vs:Nat->Value)(w:World):Prop where
 h1:f 5=false->f 1=true->DO (vs 1) w W.heap.size
 h2:f 5=false->f 2=true->DN b1 W.heap.size (vs 2) w
 o5:f 5=true->f 2=true
 gr:Gr [] W w
def yO(H:Nat)(i:Nat)(a b:World):Prop:=if i=5 then(∃M,Gr M a b/\∀x∈M,H<=x) else Gr [] a b
theorem yO.of{H i:Nat}{a b:World}(hi:i≠5)(h:Gr [] a b):yO H i a b:=by
 unfold yO;rw[P_ hi];exact h
section
variable{b1:Nat}{W w w':World}{f:Nat->Bool}{vs:Nat->Value}{v:Value}{i:Nat}
theorem qN.add(h:qN b1 W f vs w)(hi:i∉[1,2,5])(hg:Gr [] w w'):qN b1 W (λj=>j==i||f j) (rU vs i v) w':=by
 have aP:(1:Nat)≠i:=λe=>hi (by simp[<-e])
 have aL:(2:Nat)≠i:=λe=>hi (by simp[<-e])
 have a6:(5:Nat)≠i:=λe=>hi (by simp[<-e])
 refine⟨?_,?_,(by rw[ib a6,ib aL];exact h.o5),h.gr.trans hg⟩
 .rw[ib aP,ib a6,kS aP];intro a b;obtain⟨A,h1,h2⟩:=h.h1 a b;exact⟨A,h1,h2.g_ hg⟩
 .rw[ib aL,ib a6,kS aL];exact JQ
theorem qN.pI(h:qN b1 W f vs w)(hg:Gr [] w w')(hP:DO v w' W.heap.size):qN b1 W (λj=>j==1||f j) (rU vs 1 v) w':=by
 refine⟨λ_ _=>by rw[na];exact hP,?_,(by rw[ib d_,ib d_];exact h.o5),h.gr.trans hg⟩;rw[ib d_,ib d_,kS d_];exact JQ
theorem qN.D0(h:qN b1 W f vs w)(hg:Gr [] w w')(hP:DN b1 W.heap.size v w'):qN b1 W (λj=>j==2||f j) (rU vs 2 v) w':=by
 refine⟨?_,λ_ _=>by rw[na];exact hP,(λ_=>by simp),h.gr.trans hg⟩;rw[ib d_,ib d_,kS d_];intro a b;obtain⟨A,h1,h2⟩:=h.h1 a b;exact⟨A,h1,h2.g_ hg⟩
theorem qN.DZ(h:qN b1 W f vs w)(h2:f 2=true){M:List Nat}(hg:Gr M w w')(z:∀x∈M,W.heap.size<=x):qN b1 W (λj=>j==5||f j) (rU vs 5 v) w':=
 ⟨(λax=>by simp at ax),(λax=>by simp at ax),(λ_=>by rw[ib d_];exact h2),h.gr.hx hg (λx I=>.inr (z x I))⟩
end
structure FT where
 name:ByteArray
 AP:Option Addr
 cP:Nat
 ps:List ByteArray
 A:Option Addr
 c:Nat
 bs:List ST
def FT.E(f:FT):List Value:=[.string f.name,.slice f.AP f.ps.length f.cP,.slice f.A f.bs.length f.c]
def FT.In(lo hi:Nat)(w:World)(f:FT):Prop:=yP lo hi w f.AP f.cP f.ps f.A f.c f.bs
def DR(bs:List ST):Prop:=FG bs/\∃K,lJ h6 5 K bs/\K<=16/\bs.length<=12
def DQ(bs:List ST):Prop:=∃(s:ST) (Z ls:List ST) (K:Nat),bs=s::(Z++ls)/\s.hT=1/\s.name=ou/\Z.map ST.name=hI/\(∀u∈Z,u.hT=1)/\lJ hI 3 K bs/\K<=15/\bs.length<=21
theorem yP.wide{hi a k cP c:Nat}{w:World}{AP A:Option Addr}{ps:List ByteArray}{bs:List ST}(h:yP lo hi w AP cP ps A c bs)(hl:a<=lo)(aB:hi<=k):yP a k w AP cP ps A c bs:=
 ⟨h.hp,h.uK,λx off U hn=>by have:=h.Dr x off U hn;omega,h.hb,h.Bd,λx off U hn=>by have:=h.qS x off U hn;omega,λt X=>(h.hs t X).imp λx I=>by omega⟩
def DB(B g:Nat)(w:World)(e:Ending)(w':World):Prop:=∃(x:Nat) (p j n:FT),e=.returned (.agg #[.slice (j_ x) 3 3])/\Sl w' 213 3 (j_ x) 3 ([p,j,n].flatMap FT.E)/\
 p.In w.heap.size w'.heap.size w'/\j.In w.heap.size w'.heap.size w'/\n.In w.heap.size w'.heap.size w'/\(p.name=vg/\p.ps=[]/\Ar p.bs)/\(j.name=pJ/\j.ps=[oW,A3]/\DR j.bs)/\(n.name=pf/\n.ps=[mH]/\DQ n.bs)/\iE w' B g/\Gr [g] w w'
theorem BX{w:World}{x:Nat}{s:ByteArray}(h:Bk w x 9 #[.string s]):Sl w 9 1 (j_ x) [s].length ([s].map Value.string):=i5 (n:=1) (s:=1) h rfl
theorem zA(B g:Nat)(w:World)(hd:iE w B g)(hB:B<=w.heap.size):
 Calls prog 89 #[q_ g] w (DB B g w):=by
 obtain⟨i1,bK,b0,b5,cf⟩:=info_parts infoSt;have a8:=hd.vl
 go_enter func89,ntmps89
 go_upto_region 2 with fail
 obtain⟨-,-,aV⟩:=pG w 150 #[n_] 222 #[q_ g,i_ 9,i_ 0,i_ 0];have ct:=hd.g_ aV;have bX:=(L_ w 150 #[n_]).alloc (.cells #[q_ g,i_ 9,i_ 0,i_ 0] 222);obtain⟨-,cl,-⟩:=pG w 150 #[n_] 222 #[q_ g,i_ 9,i_ 0,i_ 0];obtain⟨bm,b3⟩:=nm_ ((w.alloc (.cells #[n_] 150)).alloc (.cells #[q_ g,i_ 9,i_ 0,i_ 0] 222));rw[<-b3]at aV ct bX cl |-;clear b3;obtain⟨R0,cn⟩:=nm_ w.heap.size;obtain⟨m,fG⟩:=nm_ (w.heap.size+1);rw[<-cn]at bX |-;rw[<-fG]at cl
 have di:w.heap.size<=R0:=by omega
 have eN:R0<m:=by omega
 have fH:R0+1=m:=by omega
 have hBm:B<=m:=by omega
 rw[fH];clear cn fG fH
 go_upto_region 3 with(go_at_call 139;refine((sU B g m 0).1 0 6 9 0 _ rfl o_ o_ ct cl hBm o_ o_ o_ s_).mono ?_;rintro e w2⟨A,c,ts,N,l,rfl,c8,hL,hl0,hl1,br,db,dj,S⟩)
 obtain⟨b1,aT⟩:=nm_ bm.heap.size;rw[<-aT]at hL
 have dx:m<b1:=by rw[aT];exact cl.lt
 have fh:=S.size;rw[<-aT]at fh;clear aT;have cr:=bX.gr S p_;have dw:Gr [g] w w2:=(aV.mono s_).hx S p_;clear ct cl bX S aV hd
 go_upto_if 16 with(go_at_call 19;refine(h8 B g 3 _ dj o_ o_).mono ?_;rintro e ai⟨r,rfl,bu,bD,hd,af⟩)
 have Y:=db.gr af p_;have hR:=cr.gr af p_;have J:=dw.trans af;replace hL:=hL.ir af p_;have bi:=F_ fh af.size;clear dj db cr dw af fh
 go_cut [4] (λx T=>∃(A:Option Addr) (c:Nat) (ts:List ST) (eV:Nat) (l:Int),x=.slice A ts.length c/\lm hI b1 4 eV T A c ts/\ts.length<=8/\(eV:Int)<=19/\Bk T m 222 #[q_ g,i_ l,i_ 0,i_ 0]/\Bk T R0 150 #[n_]/\iE T B g/\Gr [g] w T/\b1<=T.heap.size)
 case first=>
  by_cases hr:0<r
  .have dX:decide (0<r)=true:=by simp[hr]
   simp only[dX];clear hr dX
   go_upto_region 4 with fail
   obtain⟨W,aM⟩:=nm_ ai;rw[<-aM]at hd Y hR hL J bi |-;clear aM
   have cJ:∀y∈[g],y∈(g::ot (Value.slice A ts.length c).ownBlock):=by simp
   have dW:∀y∈ot (Value.slice A ts.length c).ownBlock,b1<=y:=λy hy=>(kj hL.own (jw.1 hy)).1
   have ey:∀y∈ot (Value.slice A ts.length c).ownBlock,B<=y/\m≠y:=λy hy=>by have:=dW y hy;omega
   have eP:∀y,(Value.slice A ts.length c).ownBlock=some y->y<W.heap.size:=λy hy=>(kj hL.own hy).2
   have aN:∀y∈(g::ot (Value.slice A ts.length c).ownBlock),y<W.heap.size:=J7;have aD:Ps B g m 0 100 (g::ot (Value.slice A ts.length c).ownBlock) (λw=>Bk w R0 150 #[n_]) (λw=>lm hI b1 4 N w A c ts) W false W:=⟨hd,⟨l,hl0,by omega,Y⟩,hR,λ_=>hL,D_ _ W,λa b h h2=>h2.gr h (λY=>by rcases M_.1 Y with h|h;omega;have:=dW _ h;omega),λa b h h2=>h2.ir h p_,by simp,by omega⟩;refine pN (λf=>Ps B g m 0 100 (g::ot (Value.slice A ts.length c).ownBlock) (λw=>Bk w R0 150 #[n_]) (λw=>lm hI b1 4 N w A c ts) W (f 6)) (λ_ _=>True) (G2 6 [g] (g::ot (Value.slice A ts.length c).ownBlock)) [SU.l4 _ (.slice A ts.length c),SU.l4 _ (q_ m),(SU.tree aN (0)).uI (λ_ _ _ h=>h.gr cJ),(SU.trees aN 2 1).uI (λ_ _ _ h=>h.gr cJ),(SU.stmt aN (1) (1)).uI (λ_ _ _ h=>h.gr cJ),(SU.of (λv w=>∃(x:Nat) (t:ST),v=.slice (j_ x) 1 1/\W.heap.size<=x/\Bk w x 229 t.g8/\jx (jp W.heap.size) w t/\SG hI 1 1 t) (λ_ _ _ hg⟨x,t,h1,h2,h3,aw,ax⟩=>⟨x,t,h1,h2,h3.gr hg (λY=>by have:=aN x Y;omega),aw.h7 hg (λy hy=>EH.2 (aN y hy)),ax⟩)).uI (λ_ _ _ h=>h.gr cJ),SU.yI [6] (λv w=>∃(ay:Option Addr) (an:Nat) (us:List ST) (K:Nat),v=.slice ay us.length an/\lm hI b1 4 K w ay an us/\us.length<=8/\K<=N+1) (λi hi v w w' hg⟨ay,an,us,K,h1,h2,h3⟩=>⟨ay,an,us,K,h1,h2.ir (hg.ne (by simpa using hi)) p_,h3⟩),SU.yI [6] (λv w=>∃(ay:Option Addr) (an:Nat) (us:List ST) (K:Nat),v=.slice ay us.length an/\lm hI b1 4 K w ay an us/\us.length<=8/\K<=N+1) (λi hi v w w' hg⟨ay,an,us,K,h1,h2,h3⟩=>⟨ay,an,us,K,h1,h2.ir (hg.ne (by simpa using hi)) p_,h3⟩)] (SU.anyI _) [[],[],[1],[2],[3],[4],[0,5],[6]] false [(some 17,0),(some 18,1),(some 19,2),(some 20,3),(some 21,4),(some 22,5),(some 23,6),(some 4,7)] k_ k_ (λ_ _ _ _ _ h=>h) k_ rfl rfl k_ aD ⟨?_,?_,?_,?_,?_,?_,?_,?_,trivial⟩ ?_
   .exact I1
   .exact I1
   .refine i3 [(some 18,1)] ?_;intro f vs Q hf C O K H;obtain⟨o, -⟩:=O;replace o:_=_:=o
    try simp only[b_,o]at H |-
    obtain⟨cQ,ej,ev,cu⟩:=C.lf;go_simp
    go_at_call 140
    refine(kq B g m cQ 0 0 0 o_ _ rfl _ C.d cu hBm).mono ?_;exact Jq
   .refine i3 [(some 19,2)] ?_;exact G3
   .refine i3 [(some 20,3)] ?_;exact Gz
   .refine i3 [(some 21,4)] ?_;exact Hg
   .refine i3 [(some 17,0),(some 22,5)] ?_;intro f vs Q hf C O K H;obtain⟨o,⟨aI,tb,ar,cw,bv,X,d⟩, -⟩:=O;replace o:_=_:=o
    try simp only[b_,o,ar]at H |-
    have ca:=C.l hf;have e7:=C.hz;refine iL k_ ?_;refine oy _ _ _ rfl b1 229 i1 _ 8 128 underlying211 bK b0 b5 cf rfl d_ d_ A ts.length c (ts.flatMap ST.E) r_ ca.own _ 1 1 ([tb].flatMap ST.E) r_ (qZ tb bv) (kM _) o_ o_ ?_;intro ay an bJ ce bE bF;have cZ:=ca.add (us:=[tb]) ce bE bF (λu hu=>by have:u=tb:=(by simpa using hu);subst this;exact X.imp (λy hy=>⟨by have:W.heap.size<=y:=hy;omega,λhe=>by have h1:=eP y he;have:W.heap.size<=y:=hy;omega⟩)) (d.mono o_);exact H.out (.slice ay (ts.length+1) an) _ (C.app (Gr.iM bE) ey (λy hy=>by simp[hy])) ((Gr.iM bE).mono (by intro y hy;simp[hy])) ⟨ay,an,ts++[tb],N+1,by simp,by simpa using cZ,by simp;omega,G_ _⟩
   .refine i3 [(some 23,6)] ?_;intro f vs Q hf C O K H;obtain⟨⟨fR,fW,ta,er,o,fU,cC⟩, -⟩:=O
    try simp only[b_,o]at H |-
    go_simp;exact H.out _ _ C (D_ _ _) ⟨fR,fW,ta,er,rfl,fU,cC⟩
   rintro f vs bq hf⟨C,O⟩;obtain⟨e0,aP,⟨ak,aL,i2,bl⟩,⟨ao,t3,bN,n3,dk,dE,g5⟩,⟨t4,bY,eC,dO⟩,⟨bQ,t5,a6,dt,et,g3,dH⟩,⟨aJ,aK,g4,gF,dn,eH,n6⟩,⟨bg,bo,gE,fV,dQ,ft,n7⟩, -⟩:=O;replace e0:vs 0=.slice A ts.length c:=e0;replace aP:vs 1=q_ m:=aP;simp only[b_,e0,aP,aL,bN,bY,a6,dn,dQ];clear e0 aP aL bN bY a6 dn dQ;clear hd Y hR hL aD;obtain⟨hd,⟨l',ck,dU,Y⟩,hR, -,G, -, -, -, -⟩:=C;have eB:=F_ bi G.size;replace J:=J.hx G (by intro y hy;rcases M_.1 hy with h|h;left;simp[h];right;have:=dW _ h;omega);go_wp2;go_meet;exact⟨bg,bo,gE,fV,l',rfl,ft,n7.1,by have:=n7.2;omega,Y,hR,hd,J,eB⟩
  .have dX:decide (0<r)=false:=by simp[hr]
   go_wp2;go_meet;exact⟨A,c,ts,N,l,rfl,hL,by omega,by omega,Y,hR,hd,J,bi⟩
 case rest=>
  clear hd Y hR J bi hL hl0 hl1 br c8 A c ts N l;obtain⟨A,c,ts,eV,l,rfl,hL,iv,dS,Y,hR,hd,J,eB⟩:=hcut;obtain⟨T,ek⟩:=nm_ wc;rw[<-ek]at hL Y hR hd J eB |-;clear ek;obtain⟨n0,hn0⟩:=nm_ ts.length;have a2:=h_ hn0;have cv:=hL.own;have gm:=eB;rw[<-hn0]at cv iv |-;clear hn0
  go_upto_region 6 with(first|(go_at_call 142;refine(kw T.heap.size oW (eNew 3) T (G_ _) (kc.leaf _ _ _ _ _ _)).mono ?_;rintro e ae⟨As,rfl,ci,am⟩;simp only[iS,ST.h9])|(at_builtin;refine jU rfl _ _ _ rfl ae.heap.size 229 i1 _ 8 128 underlying211 bK b0 b5 cf rfl d_ d_ (j_ ae.heap.size) 1 1 _ rfl (sJ (n:=1) (s:=8) (L_ ae 229 (iS oW As (eNew 3)).g8) rfl (G_ _) d_) A n0 c (ts.flatMap ST.E) rfl (((Sl.iG cv).g_ am).alloc _) (kM _) o_ s_ ?_;intro aJ aK aF cj eu de;have eH:=zM ci am hL a2.out cj eu de (G_ _) gm)|(go_at_call 141;go_loud (refine(t7 b1 4 (1+eV) aJ (1+n0) aK ([iS oW As (eNew 3)]++ts) (j_ aF.heap.size) 3 9 _ (by have:=a2.out;simp;omega) (A6 (eH.ir ((D_ [] aF).alloc (.cells #[.string {data:=#[105]},.string {data:=#[106]},.string {data:=#[107]}] 9)) s_) a2.out) o_ (λu hu=>(eH.ir ((D_ [] aF).alloc (.cells #[.string {data:=#[105]},.string {data:=#[106]},.string {data:=#[107]}] 9)) s_).from u hu) eH.sg (by have h1:=(Gr.iM eu).size;have h2:=am.size;simp at h1 |-;omega) (i5 (n:=3) (s:=1) (L_ aF 9 #[.string {data:=#[105]},.string {data:=#[106]},.string {data:=#[107]}]) rfl)).mono ?_;rintro e bJ⟨bW,cA,Z,rfl,d6,ez,e5,aW,eo,dN⟩;obtain⟨cD,d4⟩:=nm_ (Z++([iS oW As (eNew 3)]++ts));rw[<-d4]at d6 dN;rw[<-d4];have cW:=h_ d4;obtain⟨cR,dy⟩:=nm_ cD.length;have ep:=h_ dy;rw[<-dy];clear d4 dy)))
  have eO:Gr [] T (bJ.alloc (.cells #[.string vg,n_,.slice bW cR cA] 213)):=by
   have h1:=(am.alloc _).hx (Gr.iM eu) (λx I=>by have:=jw.1 I;simp[Value.ownBlock]at this;have:=am.size;right;omega);exact((h1.alloc _).trans aW).alloc _
  have p:mq b1 (bJ.alloc (.cells #[.string vg,n_,.slice bW cR cA] 213)).heap.size bJ.heap.size (bJ.alloc (.cells #[.string vg,n_,.slice bW cR cA] 213)):=by
   refine⟨bW,cA,cD,?_,(d6.ir ((D_ [] bJ).alloc (.cells #[.string vg,n_,.slice bW cR cA] 213)) s_).fin (G_ _),⟨Z,_,_,cW.out,ez,e5,d6.sg,by omega,?_⟩,?_,by simp⟩
   .rw[<-ep.out];exact L_ bJ 213 #[.string vg,n_,.slice bW cR cA]
   .have aU:=by have:=D9 List.length ez;simpa[hI]using this
    rw[cW.out];simp[aU]
    have:=a2.out
    omega
   .have:=aW.size
    have:=hR.lt
    have:=am.size
    have:=(Gr.iM eu).size
    simp at*;omega
  replace Y:=Y.g_ eO;replace hd:=hd.g_ eO;replace hR:=hR.g_ eO;replace J:=J.trans (eO.mono s_);clear hL cv cj eu de eH d6 aW eo dN cW ep eO ci am eB ez e5;obtain⟨RM,d3⟩:=nm_ bJ.heap.size;obtain⟨ag,b4⟩:=nm_ (bJ.alloc (.cells #[.string vg,n_,.slice bW cR cA] 213));rw[<-d3]at p |-;rw[show(bJ.alloc (.cells #[.string {data:=#[109,97,105,110]},n_,.slice bW cR cA] 213))=ag from b4.symm];rw[<-b4]at p Y hd hR J;clear d3 b4;obtain⟨H9,eY⟩:=nm_ ag.heap.size;rw[<-eY]at p
  have gW:m<H9:=by rw[eY];exact Y.lt
  have aQ:=Y.f_ 3;have z3:=Y.hm 3;have ah:=Y.f_ 1;have aS:=Y.hm 1
  go_upto_region 7 with fail
  clear aQ z3 ah aS;have bC:Gr [m] ag ((ag.setCell (c_ m 3) (i_ 1)).setCell (c_ m 1) (i_ 3)):=((D_ [m] ag).setCell (.inl s_) _).setCell (.inl s_) _;replace Y:Bk ((ag.setCell (c_ m 3) (i_ 1)).setCell (c_ m 1) (i_ 3)) m 222 #[q_ g,i_ 3,i_ 0,i_ 1]:=(Y.hJ 3 _).hJ 1 _;replace hd:=hd.h7 bC p_;replace hR:=hR.gr bC p_;replace p:=p.ir bC p_;replace J:=J.hx bC p_;have e6:=bC.size;rw[<-eY]at e6;obtain⟨bS,fM⟩:=nm_ ((ag.setCell (c_ m 3) (i_ 1)).setCell (c_ m 1) (i_ 3));rw[<-fM]at Y hd hR p J e6 |-;clear fM bC eY;obtain⟨W,aM⟩:=nm_ bS;rw[<-aM]at hd Y hR p J e6 |-;clear aM
  have aN:∀y∈[g],y<W.heap.size:=by simp;omega
  have aD:Ps B g m 1 3 [g] (λw=>Bk w R0 150 #[n_]/\mq b1 H9 RM w) (λ_=>True) W true W:=⟨hd,⟨3,by omega,by omega,Y⟩,⟨hR,p⟩,(λh=>by cases h),D_ _ W,λa b h h2=>⟨h2.1.gr h p_,h2.2.ir h p_⟩,λ_ _ _ h=>h,by simp,by omega⟩;refine iF (Ps B g m 1 3 [g] (λw=>Bk w R0 150 #[n_]/\mq b1 H9 RM w) (λ_=>True) W true) (λvs ag=>∃(RA:Nat) (t:ST),vs 12=q_ RA/\W.heap.size<=RA/\Bk ag RA 229 t.g8/\jx (jp W.heap.size) ag t/\SG h6 2 2 t/\iE ag B g/\Lf g m 0 1 3 ag/\(Bk ag R0 150 #[n_]/\mq b1 H9 RM ag)/\Gr [g,RA] W ag) (Gr [g]) [SU.sq h6 aN (0),SU.sq h6 aN (0),SU.sq h6 aN (0+1),SU.y4 h6 aN 2 1,SU.sq h6 aN (0),SU.sq h6 aN (0),SU.sq h6 aN (0),SU.sq h6 aN (0+1),SU.y4 h6 aN 2 2,SU.of (λv w=>∃t:ST,v=.agg t.g8/\jx (jp W.heap.size) w t/\SG h6 1 1 t/\t.hT=3/\t.bs=[]/\t.ls=[]) (λ_ _ _ hg⟨t,h1,h2,h3⟩=>⟨t,h1,h2.h7 hg (λx I=>EH.2 (aN x I)),h3⟩),SU.of (λv w=>∃(y:Nat) (t:ST),v=.slice (j_ y) 1 1/\W.heap.size<=y/\Bk w y 229 t.g8/\jx (jp W.heap.size) w t/\SG h6 1 1 t/\t.hT=3/\t.bs=[]/\t.ls=[]) (λ_ _ _ hg⟨y,t,h0,h1,h2,h3,aw⟩=>⟨y,t,h0,h1,h2.gr hg (λY=>by have:=aN y Y;omega),h3.h7 hg (λx I=>EH.2 (aN x I)),aw⟩),SU.of (λv w=>∃(x y:Nat) (t3:List ET) (t:ST),v=.agg #[i_ 4,.string iU,.string iU,i_ 0,i_ 0,.slice (j_ x) 1 1,.slice (j_ y) 1 1,n_]/\t3.length=1/\W.heap.size<=x/\Sl w 226 5 (j_ x) 1 (t3.flatMap ET.E)/\(∀u∈t3,kc (jp W.heap.size) w u/\EG h6 2 u)/\W.heap.size<=y/\Bk w y 229 t.g8/\jx (jp W.heap.size) w t/\SG h6 1 1 t/\t.hT=3/\t.bs=[]/\t.ls=[]) (λ_ _ _ hg⟨x,y,t3,t,h0,h1,h2,h3,aw,ax,aY,bA,aU⟩=>⟨x,y,t3,t,h0,h1,h2,h3.ir λz off U I=>hg.block z I (λY=>by injection U with U;injection U with U;have:=aN z Y;omega),λu hu=>⟨(aw u hu).1.h7 hg (λx I=>EH.2 (aN x I)),(aw u hu).2⟩,ax,aY.gr hg (λY=>by have:=aN y Y;omega),bA.h7 hg (λx I=>EH.2 (aN x I)),aU⟩),SU.of (λv w=>∃R,v=q_ R/\W.heap.size<=R/\Bk w R 229 #[i_ 0,.string iU,.string iU,i_ 0,i_ 0,n_,n_,n_]) (λ_ _ _ hg⟨x,h2,h3,aw⟩=>⟨x,h2,h3,aw.gr hg (λY=>by have:=aN x Y;omega)⟩),SU.any _] (SU.any _) [[],[],[0,1],[2],[],[],[],[5,6],[4,7],[8],[9],[3,10],[],[12,11]] true [(some 38,0),(some 39,1),(some 40,2),(some 41,3),(some 42,4),(some 43,5),(some 44,6),(some 45,7),(some 46,8),(some 47,9),(some 48,10),(some 49,11),(some 6,12),(none,13)] k_ k_ (λ_ _ _ _ _ h=>h) k_ rfl rfl k_ aD ⟨?_,?_,?_,?_,?_,?_,?_,?_,?_,?_,?_,?_,?_,?_,trivial⟩ ?_
  .refine hH [] ?_;intro vs Q C O K H;clear O
   try simp only[b_]at H |-
   go_simp
   go_at_call 144
   refine(jY _ _).mono ?_;rintro e w1⟨rfl,hg1⟩;exact H.out _ _ (C.g_ hg1) (hg1.mono s_) ⟨jj 0,rfl,kc.leaf _ _ _ _ _ _,.num _ _ o_ o_⟩
  .exact HC
  .refine hH [(some 38,0),(some 39,1)] ?_;intro vs Q C O K H;exact Ho
  .refine hH [(some 40,2)] ?_;intro vs Q C O K H;exact G7
  .refine hH [] ?_;intro vs Q C O K H;clear O
   try simp only[b_]at H |-
   go_simp
   go_at_call 145
   refine(j2 _ _).mono ?_;rintro e w1⟨rfl,hg1⟩;exact H.out _ _ (C.g_ hg1) (hg1.mono s_) ⟨jl vh,rfl,kc.leaf _ _ _ _ _ _,.var _ _ (by simp[h6,hI])⟩
  .exact HC
  .refine hH [] ?_;intro vs Q C O K H;exact HT
  .refine hH [(some 43,5),(some 44,6)] ?_;intro vs Q C O K H;obtain⟨⟨ta,o,ap,E⟩,⟨tb,ar,X,d⟩, -⟩:=O
   try simp only[b_,o,ar]at H |-
   go_simp
   go_at_call 143
   refine(ol W.heap.size 2 ta tb _ C.hz ap X).mono ?_;rintro e w1⟨A,rfl,V,hg1⟩;exact H.out _ _ (C.g_ hg1) (hg1.mono s_) ⟨pK 2 A ta tb,rfl,V,.bin 0 _ _ _ _ o_ o_ (E.mono o_) (d.mono o_)⟩
  .refine hH [(some 42,4),(some 45,7)] ?_;intro vs Q C O K H;obtain⟨⟨ta,o,ap,E⟩,⟨tb,ar,X,d⟩, -⟩:=O
   try simp only[b_,o,ar]at H |-
   obtain⟨ad,bz,bG,bL,bT,bU,bV⟩:=ta;obtain⟨d7,d8,d9,ea,eb,ed,ef⟩:=tb;simp only[ET.h9]at H |-;go_simp;refine H.out _ _ (C.g_ ((D_ [] _).alloc _)) ((D_ _ _).alloc _) ⟨_,[ET.mk ad bz bG bL bT bU bV,ET.mk d7 d8 d9 ea eb ed ef],rfl,rfl,C.hz,sy (ET.mk ad bz bG bL bT bU bV) (ET.mk d7 d8 d9 ea eb ed ef) (L_ _ _ _),?_⟩;exact Ib
  .refine hH [(some 46,8)] ?_;intro vs Q C O K H;obtain⟨⟨a7,ta,o,cC,bj,bf,cT⟩, -⟩:=O
   try simp only[b_,o]at H |-
   go_simp;refine H.out _ _ C (D_ _ _) ⟨(lw 3 ur pJ 0 0 (j_ a7) ta.length ta),?_,jx.es _ _ _ _ _ (by rw[cC];exact bf) bj (λu hu=>(cT u hu).1),SG.leaf (t:=(lw 3 ur pJ 0 0 (j_ a7) ta.length ta)) (by show mE _ 3 ur pJ 0 0 ta.length _ _;rw[cC];exact .vB _ (by simp[h6,hI])) rfl rfl (λu hu=>(cT u hu).2),rfl,rfl,rfl⟩
   show Value.agg _=Value.agg (lw 3 ur pJ 0 0 (j_ a7) ta.length ta).g8
   simp only[lw,ST.h9,cC]
   rfl
  .refine hH [(some 47,9)] ?_;intro vs Q C O K H;obtain⟨⟨ta,o,ap,E,fZ⟩, -⟩:=O
   try simp only[b_,o]at H |-
   obtain⟨s1,b6,cx,dz,b7,bR,cg,df,cz,bw,sb,sc,dB,dC⟩:=ta;simp only[ST.h9]at H |-;go_simp;exact H.out _ _ (C.g_ ((D_ [] _).alloc _)) ((D_ _ _).alloc _) ⟨_,ST.mk s1 b6 cx dz b7 bR cg df cz bw sb sc dB dC,rfl,C.hz,L_ _ _ _,ap.g_ ((D_ [] _).alloc _),E,fZ⟩
  .refine hH [(some 41,3),(some 48,10)] ?_;intro vs Q C O K H;obtain⟨⟨a7,ta,o,cC,bj,bf,cT⟩,⟨dg,tb,ar,cw,bv,X,d⟩, -⟩:=O
   try simp only[b_,o,ar]at H |-
   go_simp;exact H.out _ _ C (D_ _ _) ⟨a7,dg,ta,tb,rfl,cC,bj,bf,cT,cw,bv,X,d⟩
  .refine hH [] ?_;intro vs Q C O K H;clear O
   try simp only[b_]at H |-
   go_simp;exact H.out _ _ (C.g_ ((D_ [] _).alloc _)) ((D_ _ _).alloc _) ⟨_,rfl,C.hz,L_ _ _ _⟩
  .refine jf [(some 6,12),(some 49,11)] ?_;intro vs Q C O K H;obtain⟨⟨a7,o,bj,bf⟩,⟨aI,dg,sb,tb,ar,nb,cw,bv,cK,c9,cS,X,d,fa⟩, -⟩:=O
   try simp only[b_,o,ar]at H |-
   have g0:dg≠a7:=by
    intro he;subst he;have h1:Q.heap[dg]?=_:=cS;have h2:Q.heap[dg]?=_:=bf;rw[h1]at h2;have h3:=fa.1;obtain⟨s1,b6,cx,dz,b7,bR,cg,df,cz,bw,sb,sc,dB,dC⟩:=tb;simp only[ST.h9]at h2;simp at h2;have aw:s1=3:=h3;omega
   have gY:=bv.yJ d_ bf d_;refine iL k_ ?_;refine h4 229 _ _ rfl a7 r_ #[i_ 4,.string iU,.string iU,i_ 0,i_ 0,.slice (j_ aI) 1 1,.slice (j_ dg) 1 1,n_] r_ 229 _ bf rfl k_ (by simp[Value.oneCell']) ?_;intro ag az G;refine H.out undef _ (λ_=>⟨a7,ST.mk 4 iU iU 0 0 (j_ aI) 1 sb (j_ dg) 1 [tb] none 0 [],o,bj,?_,?_,?_,C.d.h7 G p_,C.lf.gr G p_,⟨C.f.1.gr G p_,C.f.2.ir G p_⟩,(C.gr.mono s_).trans (G.mono s_)⟩)
   .simp only[ST.h9,nb];exact az
   .refine jx.mk _ (by rw[show((ST.mk 4 iU iU 0 0 (j_ aI) 1 sb (j_ dg) 1 [tb] none 0 []).es.length)=1 from nb];exact bv.ir λz off U I=>G.block z I (λY=>by injection U with U;injection U with U;simp at Y;omega)) (Nat.le_of_eq nb) (λz off h _=>by injection h with h;injection h with h;omega) (λu hu=>(((cK u hu).1.yJ bf d_).h7 G (by intro z hz hp;simp at hz;exact hp.2 hz)).imp λ_ hp=>hp.1) ((qZ tb cS).ir λz off U I=>G.block z I (λY=>by injection U with U;injection U with U;simp at Y;omega)) (G_ _) (λz off h _=>by injection h with h;injection h with h;omega) ?_ (EM _ _ _ _) (G_ _) (λ_ _ h _=>by cases h) (λu hu=>by cases hu);intro u hu
    have:u=tb:=R_.1 hu
    subst this
    exact((X.DW fa.2.1 fa.2.2 bf d_).h7 G (by intro z hz hp;simp at hz;exact hp.2 hz)).imp λ_ hp=>hp.1
   .exact SG.node (nb:=1) (nl:=0) (t:=ST.mk 4 iU iU 0 0 (j_ aI) 1 sb (j_ dg) 1 [tb] none 0 []) (by show mE _ 4 iU iU 0 0 sb.length true true;rw[nb];exact .Cv) (λu hu=>(cK u hu).2) d (.nil _)
  intro vs bq C;simp only[b_];clear hd Y hR p aD;obtain⟨RA,tA,fv,gG,U,eh,fI,hd,dF,⟨hR,p⟩,G⟩:=C;rw[fv];clear fv;replace J:=J.hx G p_;have dG:=F_ e6 G.size
  go_upto_region 8 with fail
  have gP:b1<=H9:=by obtain⟨_,_,_,_,_,_,h1,h2⟩:=p;omega
  replace eh:=eh.lt.imp (q:=λx=>b1<=x/\x<bq.heap.size) (λx I=>⟨by have:W.heap.size<=x:=I.1;omega,I.2⟩)
  have gK:b1<=RA:=by omega
  obtain⟨W,aM⟩:=nm_ bq;rw[<-aM]at hd dF hR p U eh J dG |-;clear aM;obtain⟨HA,eZ⟩:=nm_ W.heap.size
  have gJ:RA<HA:=by rw[eZ];exact U.lt
  rw[<-eZ]at eh dG;have eL:=aN;clear aN
  have aN:∀y∈[g,m],y<HA:=by simp;omega
  have eQ:g<B/\B<=m/\R0<m/\g<R0/\m<b1/\b1<=HA/\H9<=HA/\RA<HA/\b1<=RA/\W.heap.size=HA:=⟨by omega,by omega,by omega,by omega,by omega,by omega,by omega,by omega,by omega,eZ.symm⟩;have aZ:=(D_ [] W).drew
  obtain⟨s1,b6,cx,dz,b7,bR,cg,df,cz,bw,sb,sc,dB,dC,fE⟩:∃s1 b6 cx dz b7 bR cg df cz bw sb sc dB dC,tA=ST.mk s1 b6 cx dz b7 bR cg df cz bw sb sc dB dC:=by
   cases tA
   exact⟨_,_,_,_,_,_,_,_,_,_,_,_,_,_,rfl⟩
  have e8:=h_ fE;clear fE eZ
  have aD:∀vs,r9 B g m R0 b1 H9 RM RA HA tA W (λ_=>false) vs W.drew:=λvs=>⟨hd.g_ aZ,dF.gr aZ s_,hR.g_ aZ,p.ir aZ s_,U.g_ aZ,eh.g_ aZ,(λ_ _ _ _ h=>by cases h),(λh=>by cases h),(λh=>by cases h),(λh=>by cases h),(λh=>h),aZ.mono s_,eQ⟩
  refine nS (λf vs=>r9 B g m R0 b1 H9 RM RA HA tA W f vs) (λvs ag=>∃(cX x:Nat) (A:Option Addr) (c:Nat) (us:List ST) (K:Nat),vs 21=q_ cX/\HA<=cX/\Bk ag cX 213 #[.string pJ,.slice (j_ x) 2 2,.slice A us.length c]/\HA<=x/\Bk ag x 9 #[.string {data:=#[112]},.string {data:=#[110]}]/\lm h6 b1 5 K ag A c us/\(K<=15/\us.length<=11/\FG us/\∀y,(Value.slice A us.length c).ownBlock=some y->HA<=y)/\iE ag B g/\Lf g m 0 1 3 ag/\Bk ag R0 150 #[n_]/\mq b1 H9 RM ag/\Gr [g,m] W ag/\True) (G8 g m HA) [SU.yI [] (λv w=>∃x,v=.slice (j_ x) 2 2/\HA<=x/\Bk w x 9 #[.string {data:=#[112]},.string {data:=#[110]}]) (λ_ _ _ _ _ hg⟨x,h1,h2,h3⟩=>⟨x,h1,h2,hg.bk h3 d_ o_ o_⟩),SU.l4 _ (.agg (jj 1).g8),SU.anyI _,SU.l4 _ (.agg (jj 0).g8),SU.anyI _,SU.l4 _ (.agg (jj 2).g8),SU.anyI _,SU.l4 _ (.agg (jl oW).g8),SU.anyI _,SU.l4 _ (.agg (jj 0).g8),SU.anyI _,SU.l4 _ (.agg (jj 0).g8),SU.anyI _,SU.l4 _ (.agg (jj 0).g8),SU.anyI _,SU.l4 _ (.agg tA.g8),SU.anyI _,SU.l4 _ (q_ m),SU.anyI _,SU.yI [19] (λv w=>∃(A:Option Addr) (c:Nat) (us:List ST) (K:Nat),v=.slice A us.length c/\lm h6 b1 5 K w A c us/\K<=15/\us.length<=11/\FG us/\∀y,(Value.slice A us.length c).ownBlock=some y->HA<=y) (λi hi v w w' hg⟨A,c,us,K,h1,h2,h3⟩=>⟨A,c,us,K,h1,h2.ir (hg.gr hi) p_,h3⟩),SU.yI [19] (λv w=>∃(x:Nat) (A:Option Addr) (c:Nat) (us:List ST) (K:Nat),v=.agg #[.string pJ,.slice (j_ x) 2 2,.slice A us.length c]/\HA<=x/\Bk w x 9 #[.string {data:=#[112]},.string {data:=#[110]}]/\lm h6 b1 5 K w A c us/\K<=15/\us.length<=11/\FG us/\∀y,(Value.slice A us.length c).ownBlock=some y->HA<=y) (λi hi v w w' hg⟨x,A,c,us,K,h1,h0,I,h2,h3⟩=>⟨x,A,c,us,K,h1,h0,hg.bk I d_ o_ o_,h2.ir (hg.gr hi) p_,h3⟩),SU.yI [] (λv w=>∃R,v=q_ R/\HA<=R/\Bk w R 213 #[.string iU,n_,n_]) (λ_ _ _ _ _ hg⟨x,h1,h2,h3⟩=>⟨x,h1,h2,hg.bk h3 d_ o_ o_⟩),SU.anyI _] (SU.anyI _) [[],[],[1],[],[3],[],[5],[],[7],[],[9],[],[11],[],[13],[],[2,4,6,8,10,12,14,15],[],[17],[16,18],[0,19],[],[21,20]] true [(some 50,0),(some 51,1),(some 52,2),(some 53,3),(some 54,4),(some 55,5),(some 56,6),(some 57,7),(some 58,8),(some 59,9),(some 60,10),(some 61,11),(some 62,12),(some 63,13),(some 64,14),(some 65,15),(some 66,16),(some 67,17),(some 68,18),(some 69,19),(some 70,20),(some 7,21),(none,22)] k_ k_ k_ (λ_ _ _ _ _ h=>h) k_ rfl rfl k_ aD ⟨?_,?_,?_,?_,?_,?_,?_,?_,?_,?_,?_,?_,?_,?_,?_,?_,?_,?_,?_,?_,?_,?_,?_,trivial⟩ ?_
  .exact H0
  .refine jC [] ?_;intro f vs Q hf hp C O K H;clear O
   try simp only[b_]at H |-
   go_simp
   go_at_call 144
   refine(jY 1 _).mono ?_;exact J3
  .refine jC [(some 51,1)] ?_;intro f vs Q hf hp C O K H;obtain⟨o, -⟩:=O;replace o:_=_:=o
   try simp only[b_,o]at H |-
   go_simp
   go_at_call 142
   refine(kw HA vh (jj 1) _ C.hz (kc.leaf _ _ _ _ _ _)).mono ?_;rintro e w1⟨A,rfl,V,hg1⟩;exact H.out _ _ (C.wY (x:=vh) (by simp[my]) (by intro y hy;simp[my]at hy;exact hy) hg1 ⟨A,jj 1,rfl,V,SG.leaf (t:=iS vh A (jj 1)) (.uE _ (show vh∈h6 by simp[h6,hI])) rfl rfl (by intro u hu;rcases M_.1 hu with rfl|hu;exact .num _ _ o_ o_;cases hu)⟩) (G8.jQ d_ hg1) trivial
  .exact HS
  .refine jC [(some 53,3)] ?_;intro f vs Q hf hp C O K H;obtain⟨o, -⟩:=O;replace o:_=_:=o
   try simp only[b_,o]at H |-
   go_simp
   go_at_call 142
   refine(kw HA ur (jj 0) _ C.hz (kc.leaf _ _ _ _ _ _)).mono ?_;rintro e w1⟨A,rfl,V,hg1⟩;exact H.out _ _ (C.wY (x:=ur) (by simp[my]) (by intro y hy;simp[my]at hy;exact hy) hg1 ⟨A,jj 0,rfl,V,SG.leaf (t:=iS ur A (jj 0)) (.uE _ (show ur∈h6 by simp[h6,hI])) rfl rfl (by intro u hu;rcases M_.1 hu with rfl|hu;exact .num _ _ o_ o_;cases hu)⟩) (G8.jQ d_ hg1) trivial
  .refine jC [] ?_;intro f vs Q hf hp C O K H;clear O
   try simp only[b_]at H |-
   go_simp
   go_at_call 144
   refine(jY 2 _).mono ?_;exact J3
  .refine jC [(some 55,5)] ?_;intro f vs Q hf hp C O K H;obtain⟨o, -⟩:=O;replace o:_=_:=o
   try simp only[b_,o]at H |-
   go_simp
   go_at_call 142
   refine(kw HA uJ (jj 2) _ C.hz (kc.leaf _ _ _ _ _ _)).mono ?_;rintro e w1⟨A,rfl,V,hg1⟩;exact H.out _ _ (C.wY (x:=uJ) (by simp[my]) (by intro y hy;simp[my]at hy;exact hy) hg1 ⟨A,jj 2,rfl,V,SG.leaf (t:=iS uJ A (jj 2)) (.uE _ (show uJ∈h6 by simp[h6,hI])) rfl rfl (by intro u hu;rcases M_.1 hu with rfl|hu;exact .num _ _ o_ o_;cases hu)⟩) (G8.jQ d_ hg1) trivial
  .refine jC [] ?_;intro f vs Q hf hp C O K H;clear O
   try simp only[b_]at H |-
   go_simp
   go_at_call 145
   refine(j2 oW _).mono ?_;exact J3
  .refine jC [(some 57,7)] ?_;intro f vs Q hf hp C O K H;obtain⟨o, -⟩:=O;replace o:_=_:=o
   try simp only[b_,o]at H |-
   go_simp
   go_at_call 142
   refine(kw HA mH (jl oW) _ C.hz (kc.leaf _ _ _ _ _ _)).mono ?_;rintro e w1⟨A,rfl,V,hg1⟩;exact H.out _ _ (C.wY (x:=mH) (by simp[my]) (by intro y hy;simp[my]at hy;exact hy) hg1 ⟨A,jl oW,rfl,V,SG.leaf (t:=iS mH A (jl oW)) (.uE _ (show mH∈h6 by simp[h6,hI])) rfl rfl (by intro u hu;rcases M_.1 hu with rfl|hu;exact .var _ _ (by simp[h6,hI]);cases hu)⟩) (G8.jQ d_ hg1) trivial
  .exact HS
  .refine jC [(some 59,9)] ?_;intro f vs Q hf hp C O K H;obtain⟨o, -⟩:=O;replace o:_=_:=o
   try simp only[b_,o]at H |-
   go_simp
   go_at_call 142
   refine(kw HA ou (jj 0) _ C.hz (kc.leaf _ _ _ _ _ _)).mono ?_;rintro e w1⟨A,rfl,V,hg1⟩;exact H.out _ _ (C.wY (x:=ou) (by simp[my]) (by intro y hy;simp[my]at hy;exact hy) hg1 ⟨A,jj 0,rfl,V,SG.leaf (t:=iS ou A (jj 0)) (.uE _ (show ou∈h6 by simp[h6,hI])) rfl rfl (by intro u hu;rcases M_.1 hu with rfl|hu;exact .num _ _ o_ o_;cases hu)⟩) (G8.jQ d_ hg1) trivial
  .exact HS
  .refine jC [(some 61,11)] ?_;intro f vs Q hf hp C O K H;obtain⟨o, -⟩:=O;replace o:_=_:=o
   try simp only[b_,o]at H |-
   go_simp
   go_at_call 142
   refine(kw HA wB (jj 0) _ C.hz (kc.leaf _ _ _ _ _ _)).mono ?_;rintro e w1⟨A,rfl,V,hg1⟩;exact H.out _ _ (C.wY (x:=wB) (by simp[my]) (by intro y hy;simp[my]at hy;exact hy) hg1 ⟨A,jj 0,rfl,V,SG.leaf (t:=iS wB A (jj 0)) (.uE _ (show wB∈h6 by simp[h6,hI])) rfl rfl (by intro u hu;rcases M_.1 hu with rfl|hu;exact .num _ _ o_ o_;cases hu)⟩) (G8.jQ d_ hg1) trivial
  .exact HS
  .refine jC [(some 63,13)] ?_;intro f vs Q hf hp C O K H;obtain⟨o, -⟩:=O;replace o:_=_:=o
   try simp only[b_,o]at H |-
   go_simp
   go_at_call 142
   refine(kw HA wA (jj 0) _ C.hz (kc.leaf _ _ _ _ _ _)).mono ?_;rintro e w1⟨A,rfl,V,hg1⟩;exact H.out _ _ (C.wY (x:=wA) (by simp[my]) (by intro y hy;simp[my]at hy;exact hy) hg1 ⟨A,jj 0,rfl,V,SG.leaf (t:=iS wA A (jj 0)) (.uE _ (show wA∈h6 by simp[h6,hI])) rfl rfl (by intro u hu;rcases M_.1 hu with rfl|hu;exact .num _ _ o_ o_;cases hu)⟩) (G8.jQ d_ hg1) trivial
  .refine jC [] ?_;intro f vs Q hf hp C O K H;clear O
   try simp only[b_]at H |-
   refine iL k_ ?_;refine ox 229 _ rfl RA 0 r_ 229 tA.g8 tA.g8 C.a (λj _=>by rw[U_]) _ underlying229 rfl k_ ?_;exact H.out _ _ (C.rN d_ (D_ [] _)) (G8.jQ d_ (D_ [] _)) rfl
  .refine jC [(some 52,2),(some 54,4),(some 56,6),(some 58,8),(some 60,10),(some 62,12),(some 64,14),(some 65,15)] ?_;intro f vs Q hf hp C O K H;obtain⟨-, -, -, -, -, -, -,d2, -⟩:=O;replace d2:_=_:=d2
   try simp only[b_,d2]at H |-
   have cq:f 19=false:=by
    cases h:f 19 with
    |false=>rfl
    |true=>rw[C.Da h]at hf;cases hf
   obtain⟨ay,eS,aL,i2,bl⟩:=C.oI cq 2 vh (by simp[my]) (hp 2 d_);obtain⟨aR,fP,bY,eC,dO⟩:=C.oI cq 4 ur (by simp[my]) (hp 4 d_);obtain⟨aJ,fQ,dn,gA,dI⟩:=C.oI cq 6 uJ (by simp[my]) (hp 6 d_);obtain⟨bW,u8,dR,gB,eD⟩:=C.oI cq 8 mH (by simp[my]) (hp 8 d_);obtain⟨cV,ew,e10,gv,fi⟩:=C.oI cq 10 ou (by simp[my]) (hp 10 d_);obtain⟨fo,fN,fX,gy,gC⟩:=C.oI cq 12 wB (by simp[my]) (hp 12 d_);obtain⟨fp,fO,fY,gz,gD⟩:=C.oI cq 14 wA (by simp[my]) (hp 14 d_);have fF:=C.ta;rw[e8.out]at fF fI
   have e3:tA.g8=(ST.mk s1 b6 cx dz b7 bR cg df cz bw sb sc dB dC).g8:=by rw[e8.out]
   simp only[aL,bY,dn,dR,e10,fX,fY]at H |-;simp only[iS,ST.h9,e3]at H |-;go_simp
   have b9:b1<=HA:=by omega
   refine H.out _ _ (C.Dw hf ((D_ [] _).alloc _) (us:=[iS vh ay eS,iS ur aR fP,iS uJ aJ fQ,iS mH bW u8,iS ou cV ew,iS wB fo fN,iS wA fp fO,tA]) rfl rfl ?_ ?_) (G8.jQ d_ ((D_ [] _).alloc _)) trivial
   .refine⟨[iS vh ay eS,iS ur aR fP,iS uJ aJ fQ,iS mH bW u8,iS ou cV ew,iS wB fo fN,iS wA fp fO],tA,rfl,rfl,?_⟩;intro s hs
    iterate 7 (rcases M_.1 hs with rfl|hs;exact rfl)
    cases hs
   .rw[e8.out];refine⟨od (sJ (n:=8) (s:=8) (L_ Q 229 _) rfl (G_ _) d_) (by have:=C.hz;omega),?_,?_⟩
    .intro u hu
     rcases M_.1 hu with rfl|hu
     .exact i2.fresh (λx I=>F_ b9 I)
     rcases M_.1 hu with rfl|hu
     .exact eC.fresh (λx I=>F_ b9 I)
     rcases M_.1 hu with rfl|hu
     .exact gA.fresh (λx I=>F_ b9 I)
     rcases M_.1 hu with rfl|hu
     .exact gB.fresh (λx I=>F_ b9 I)
     rcases M_.1 hu with rfl|hu
     .exact gv.fresh (λx I=>F_ b9 I)
     rcases M_.1 hu with rfl|hu
     .exact gy.fresh (λx I=>F_ b9 I)
     rcases M_.1 hu with rfl|hu
     .exact gz.fresh (λx I=>F_ b9 I)
     rcases M_.1 hu with rfl|hu
     .exact fF.fresh (λx I=>I.1)
     .cases hu
    .exact(((((((bl.mono d_).append (dO.mono d_)).append (dI.mono d_)).append (eD.mono d_)).append (fi.mono d_)).append (gC.mono d_)).append (gD.mono d_)).append (fI.mono d_)
  .refine jC [] ?_;intro f vs Q hf hp C O K H;clear O
   try simp only[b_]at H |-
   go_simp;exact H.out _ _ (C.rN d_ (D_ [] _)) (G8.jQ d_ (D_ [] _)) rfl
  .refine jC [(some 67,17)] ?_;intro f vs Q hf hp C O K H;obtain⟨o, -⟩:=O;replace o:_=_:=o
   try simp only[b_,o]at H |-
   obtain⟨cQ,ej,ev,cu⟩:=C.lf;go_simp
   go_at_call 139
   refine((sU B g m 1).2 1 2 cQ 0 _ rfl o_ o_ C.d cu hBm ej o_ o_ s_).mono ?_;rintro e w1⟨A,c,ts,N,l,rfl,c8,ca,ck,dU,br,co,bt,aO⟩;exact H.out _ _ (C.Dv hf aO bt ⟨l,ck,by omega,co⟩ rfl o_ o_ ca) (by unfold G8;rw[P_ d_,Q_ d_];exact aO) trivial
  .refine jC [(some 66,16),(some 68,18)] ?_;intro f vs Q hf hp C O K H;obtain⟨-, -, -⟩:=O
   try simp only[b_]at H |-
   obtain⟨x,us,A,c,ts,N,dh,d5,ei,fA,fg,du,aj,gI,fB,gi⟩:=C.hj (hp 16 d_) (hp 18 d_) hf;have e7:=C.hz;simp only[dh,du]at H |-;have ce:=fA.own;rw[d5]at ce;refine iL k_ ?_;refine oy _ _ _ rfl b1 229 i1 _ 8 128 underlying211 bK b0 b5 cf rfl d_ d_ (j_ x) 8 8 (us.flatMap ST.E) r_ ce A ts.length c (ts.flatMap ST.E) r_ fB.sl (kM _) o_ o_ ?_;intro ay an bJ c3 bE bF;have cZ:=fA.add (us:=ts) (A':=ay) (c':=an) (by rw[d5];exact c3) (by rw[d5];exact bE) (by rw[d5];exact bF) (λu hu=>(gi u hu).imp (λy hy=>⟨hy.1,λhe=>by simp[Value.ownBlock]at he;exact hy.2 he.symm⟩)) ((fB.sg.sub (λs hs=>by simp[h6,hs])).mono o_);have aE:=Gr.iM bE
   have eM:∀y∈ot (Value.slice (j_ x) 8 8).ownBlock,y=x:=λy hy=>by have:=jw.1 hy;simp[Value.ownBlock]at this;exact this.symm
   refine H.out (.slice ay (8+ts.length) an) _ (C.Du (hp 16 d_) (hp 18 d_) aE (λy hy=>by rw[eM y hy];exact fg)) ?_ ⟨ay,an,us++ts,9+N,by rw[H_,d5],cZ,by omega,by rw[H_,d5];omega,?_,?_⟩
   .unfold G8;rw[Q_ d_];refine⟨_,aE,λy hy=>?_⟩;rw[eM y hy];refine⟨fg,λt cs hk=>?_⟩
    rcases ce.2 with⟨hv,_⟩|⟨q,kX,cur,hv,_,aB,_⟩
    .cases hv
    .injection hv with hv;injection hv with hv;injection hv with hv;subst hv;have cO:Q.heap[x]?=_:=hk;rw[aB]at cO;simp at cO;exact cO.2.symm
   .obtain⟨cg,eg,hu,hn,hk⟩:=ei;exact⟨cg,eg,ts,by rw[hu];simp,hn,hk⟩
   .intro y hy;rw[H_,d5]at hy
    rcases bF with bF|bF
    .rw[bF]at hy;simp[Value.ownBlock]at hy;omega
    .rw[bF]at hy;injection hy with hy;omega
  .refine jC [(some 50,0),(some 69,19)] ?_;intro f vs Q hf hp C O K H;obtain⟨⟨a7,o,bj,bf⟩,⟨dm,cb,tb,eI,ar,dP,nb⟩, -⟩:=O
   try simp only[b_,o,ar]at H |-
   go_simp;exact H.out _ _ (C.rN d_ (D_ [] _)) (G8.jQ d_ (D_ [] _)) ⟨a7,dm,cb,tb,eI,rfl,bj,bf,dP,nb⟩
  .exact H0
  .refine u2 [(some 7,21),(some 70,20)] ?_;intro f vs Q hf hp C O K H;obtain⟨⟨a7,o,bj,bf⟩,⟨aI,dm,cb,tb,eI,ar,cw,bv,dP,nb⟩, -⟩:=O
   try simp only[b_,o,ar]at H |-
   have av:=Bk.lF bv bf d_;refine iL k_ ?_;refine h4 213 _ _ rfl a7 r_ #[.string pJ,.slice (j_ aI) 2 2,.slice dm tb.length cb] r_ 213 _ bf rfl k_ (by simp[Value.oneCell']) ?_;intro ag az G;obtain⟨h1,h2,h3,aw,ax⟩:=C.base G p_;exact H.out undef _ (λ_=>⟨a7,aI,dm,cb,tb,eI,o,bj,az,cw,bv.gr G (by simpa using av),dP.CL bf G,nb,C.d.h7 G p_,C.lf.gr G p_,h1,h2,ax,trivial⟩)
  intro f vs bq hf C;simp only[b_];clear hd dF hR p U eh aD;obtain⟨cX,aC,cM,cI,k,eG,fw,gN,b8,gZ,cy,cY,eX,hd,dF,hR,p,G, -⟩:=C;rw[fw];clear fw;replace J:=J.hx G p_;obtain⟨dk,gS,gU,Y⟩:=dF;clear G;have aQ:=Y.f_ 3;have z3:=Y.hm 3;have ah:=Y.f_ 1;have aS:=Y.hm 1
  go_upto_region 10 with fail
  clear aQ z3 ah aS;have bC:Gr [m] bq ((bq.setCell (c_ m 3) (i_ 2)).setCell (c_ m 1) (i_ 3)):=((D_ [m] bq).setCell (.inl s_) _).setCell (.inl s_) _;replace Y:Bk ((bq.setCell (c_ m 3) (i_ 2)).setCell (c_ m 1) (i_ 3)) m 222 #[q_ g,i_ 3,i_ 0,i_ 2]:=(Y.hJ 3 _).hJ 1 _;replace hd:=hd.h7 bC p_;replace hR:=hR.gr bC p_;replace p:=p.ir bC p_;replace b8:=b8.gr bC p_;replace cy:=cy.gr bC p_;replace cY:=cY.ir bC p_;replace J:=J.hx bC p_;have gp:=bC.size;obtain⟨bn,dY⟩:=nm_ ((bq.setCell (c_ m 3) (i_ 2)).setCell (c_ m 1) (i_ 3));rw[<-dY]at Y hd hR p b8 cy cY J gp |-;clear dY bC;have ct:=hd.g_ ((D_ [] bn).alloc (.cells #[.string {data:=#[113]}] 9));have cl:=Y.alloc (.cells #[.string {data:=#[113]}] 9)
  have gk:∀y,(Value.slice cM k.length cI).ownBlock=some y->y<bn.heap.size:=λy hy=>(kj cY.own hy).2
  have f4:cX<bn.heap.size/\aC<bn.heap.size:=⟨b8.lt,cy.lt⟩
  have g2:b1<=bn.heap.size:=by have:=b8.lt;omega
  go_upto_region 11 with(first|(go_at_call 139;refine((sU B g m 2).2 1 2 3 0 _ rfl o_ o_ ct cl hBm o_ o_ o_ s_).mono ?_;rintro e eE⟨A,c,ts,N,l,rfl,c8,ca,ck,dU,br,co,bt,aO⟩;obtain⟨n0,hn0⟩:=nm_ ts.length;have a2:=h_ hn0;rw[<-hn0];rw[<-hn0]at c8;clear hn0)|(go_at_call 141;go_loud (refine(t7 bn.heap.size 2 N A n0 c ts (j_ eE.heap.size) 3 9 _ a2.out.symm (by rw[a2.out];exact(ca.ir ((D_ [] eE).alloc (.cells #[.string {data:=#[105]},.string {data:=#[106]},.string {data:=#[107]}] 9)) s_).sl) o_ (λu hu=>((ca.ir ((D_ [] eE).alloc (.cells #[.string {data:=#[105]},.string {data:=#[106]},.string {data:=#[107]}] 9)) s_).from u hu).le s_) ca.sg (by have:=aO.size;simp at this |-;omega) (i5 (n:=3) (s:=1) (L_ eE 9 #[.string {data:=#[105]},.string {data:=#[106]},.string {data:=#[107]}]) rfl)).mono ?_;rintro e bJ⟨bW,cA,Z,rfl,d6,ez,e5,aW,eo,dN⟩;obtain⟨cD,d4⟩:=nm_ (Z++ts);rw[<-d4]at d6 dN;rw[<-d4];have cW:=h_ d4;obtain⟨cR,dy⟩:=nm_ cD.length;have ep:=h_ dy;rw[<-dy];clear d4 dy)))
  obtain⟨wc,dZ⟩:=nm_ (bJ.alloc (.cells #[.string pf,.slice (j_ bn.heap.size) 1 1,.slice bW cR cA] 213))
  have a8:Gr [g,m] bn wc:=by rw[dZ];exact(((((D_ [g,m] bn).alloc _).trans aO).alloc _).trans (aW.mono s_)).alloc _
  have dT:Gr [] eE wc:=by rw[dZ];exact(((D_ [] eE).alloc _).trans aW).alloc _
  replace hd:=bt.g_ dT;clear Y;have Y:=co.g_ dT;replace hR:=hR.gr a8 p_;replace p:=p.ir a8 p_;replace b8:=b8.gr a8 p_;replace cy:=cy.gr a8 p_;replace cY:=cY.ir a8 p_;replace J:=J.hx a8 p_
  have dr:lm hI bn.heap.size 3 (8+N) wc bW cA cD:=by rw[dZ];exact d6.ir ((D_ [] bJ).alloc _) s_
  have aH:Bk wc bn.heap.size 9 #[.string mH]:=by rw[dZ];exact(((L_ bn 9 #[.string mH]).gr aO p_).alloc _ |>.g_ aW).alloc _
  have cN:Bk wc bJ.heap.size 213 #[.string pf,.slice (j_ bn.heap.size) 1 1,.slice bW cR cA]:=by rw[dZ];exact L_ bJ 213 #[.string pf,.slice (j_ bn.heap.size) 1 1,.slice bW cR cA]
  obtain⟨dD,fb⟩:=nm_ bJ.heap.size;obtain⟨xg,eA⟩:=nm_ bn.heap.size
  have gR:b1<=xg:=by omega
  have gQ:xg<dD:=by have:=aW.size;have:=aO.size;simp at*;omega
  have gV:cR<=20:=by
   have aU:=by have:=D9 List.length ez;simpa[hI]using this
   rw[ep.out,cW.out,H_,aU,<-a2.out];omega
  have gH:N<=6:=by omega
  rw[<-fb,<-eA]at cN;rw[<-eA]at aH dr
  have fJ:∀y,(Value.slice cM k.length cI).ownBlock=some y->y<xg:=λy hy=>by rw[eA];exact gk y hy
  have gL:cX<xg/\aC<xg:=by rw[eA];exact f4
  rw[show bJ.alloc (.cells #[.string {data:=#[103]},.slice (j_ bn.heap.size) 1 1,.slice bW cR cA] 213)=wc from dZ.symm,<-fb,<-eA];clear dZ a8 dT bt co aO d6 aW eo dN ca fb eA ct cl;have f1:=cY;obtain⟨W,aM⟩:=nm_ wc;rw[<-aM]at hd Y hR p b8 cy cY J dr aH cN |-;clear aM f1
  have gf:xg<=W.heap.size:=by have:=cN.lt;omega
  have aD:∀vs,qN xg W (λ_=>false) vs W.drew:=λvs=>⟨(λ_ h=>by cases h),(λ_ h=>by cases h),(λh=>by cases h),(D_ [] W).drew⟩
  refine nS (λf vs=>qN xg W f vs) (λvs ag=>∃(A:Option Addr) (c:Nat) (A1:Option Addr),Bk ag dD 213 #[.string pf,.slice (j_ xg) 1 1,.slice A ([(iS ou A1 (jl mH))]++cD).length c]/\lm hI xg 3 (1+(8+N)) ag A c ([(iS ou A1 (jl mH))]++cD)/\Gr [dD] W ag) (yO W.heap.size) [SU.l4 _ (.agg (jl mH).g8),SU.anyI _,SU.anyI _,SU.l4 _ (.pointer (some (c_ dD 2))),SU.l4 _ (.slice bW cR cA),SU.yI [5] (λv w=>∃(A:Option Addr) (c:Nat) (A1:Option Addr),v=.slice A ([(iS ou A1 (jl mH))]++cD).length c/\lm hI xg 3 (1+(8+N)) w A c ([(iS ou A1 (jl mH))]++cD)) (λi hi v w w' hg⟨A,c,A1,h1,h2⟩=>⟨A,c,A1,h1,by unfold yO at hg;rw[P_ (by simpa using hi)]at hg;exact h2.ir hg s_⟩),SU.l4 _ (.pointer (some (c_ dD 2))),SU.anyI _] (SU.anyI _) [[],[0],[1],[],[3],[2,4],[],[6,5]] true [(some 83,0),(some 84,1),(some 85,2),(some 86,3),(some 87,4),(some 88,5),(some 89,6),(none,7)] k_ k_ k_ (λ_ _ _ _ _ h=>h) k_ rfl rfl k_ aD ⟨?_,?_,?_,?_,?_,?_,?_,?_,trivial⟩ ?_
  .refine jC [] ?_;intro f vs Q hf hp C O K H;clear O
   try simp only[b_]at H |-
   go_simp
   go_at_call 145
   refine(j2 mH _).mono ?_;rintro e w1⟨rfl,hg1⟩;exact H.out _ _ (C.add d_ hg1) (yO.of d_ hg1) rfl
  .refine jC [(some 83,0)] ?_;intro f vs Q hf hp C O K H;obtain⟨o, -⟩:=O;replace o:_=_:=o
   try simp only[b_,o]at H |-
   go_simp
   go_at_call 142
   refine(kw W.heap.size ou (jl mH) _ C.gr.size (kc.leaf _ _ _ _ _ _)).mono ?_;rintro e w1⟨A,rfl,V,hg1⟩;exact H.out _ _ (C.pI hg1 ⟨A,rfl,V⟩) (yO.of d_ hg1) trivial
  .refine jC [(some 84,1)] ?_;intro f vs Q hf hp C O K H;obtain⟨-, -⟩:=O
   try simp only[b_]at H |-
   have ax:f 5=false:=by
    cases h:f 5 with
    |false=>rfl
    |true=>rw[C.o5 h]at hf;cases hf
   obtain⟨A1,aP,gu⟩:=C.h1 ax (hp 1 d_);simp only[aP]at H |-;simp only[iS,ST.h9]at H |-;go_simp;refine H.out _ _ (C.D0 ((D_ [] _).alloc _) ⟨Q.heap.size,A1,rfl,C.gr.size,?_⟩) (yO.of d_ ((D_ [] _).alloc _)) trivial;refine⟨od (sJ (n:=1) (s:=8) (L_ Q 229 (iS ou A1 (jl mH)).g8) rfl (G_ _) d_) (by have:=C.gr.size;omega),λu hu=>?_,SG.leaf (t:=(iS ou A1 (jl mH))) (.uE _ (show ou∈hI by simp[hI])) rfl rfl (by intro u hu;rcases M_.1 hu with rfl|hu;exact .var _ _ (by simp[hI]);cases hu)⟩
   have:u=(iS ou A1 (jl mH)):=R_.1 hu
   subst this;exact gu.fresh (λx I=>F_ gf I)
  .exact Iw
  .refine jC [(some 86,3)] ?_;intro f vs Q hf hp C O K H;obtain⟨o, -⟩:=O;replace o:_=_:=o
   try simp only[b_,o]at H |-
   obtain⟨aS,aX,g7,cH⟩:=id C;have au:=(cN.g_ cH).f_ 2;exact Kc
  .refine jC [(some 85,2),(some 87,4)] ?_;intro f vs Q hf hp C O K H;obtain⟨-,ar, -⟩:=O;replace ar:_=_:=ar
   try simp only[b_,ar]at H |-
   obtain⟨P,A1,aL,cp,e1⟩:=C.h2 hf (hp 2 d_);have f2:=dr.ir C.gr s_;have e7:=C.gr.size;simp only[aL]at H |-;refine iL k_ ?_;refine oy _ _ _ rfl xg 229 i1 _ 8 128 underlying211 bK b0 b5 cf rfl d_ d_ (j_ P) 1 1 _ r_ e1.own bW cR cA (cD.flatMap ST.E) r_ (by rw[ep.out];exact f2.sl) (kM _) o_ o_ ?_;intro ay an ag c3 bE bF;have dy:=ep.out;have cZ:=e1.add (us:=cD) (A':=ay) (c':=an) (by rw[<-dy];exact c3) bE (by rw[<-dy];exact bF) (λu hu=>((dr.jd u hu).lt.imp (λy hy=>⟨hy.1.1,λhe=>by simp[Value.ownBlock]at he;have:=hy.2;omega⟩)).g_ C.gr) (dr.sg);have aE:=Gr.iM bE
   have eM:∀y∈ot (Value.slice (j_ P) 1 1).ownBlock,W.heap.size<=y:=λy hy=>by have:=jw.1 hy;simp[Value.ownBlock]at this;omega
   refine H.out (.slice ay (1+cR) an) _ (C.DZ (hp 2 d_) aE eM) (by unfold yO;rw[Q_ d_];exact⟨_,aE,eM⟩) ⟨ay,an,A1,by rw[H_,<-dy];rfl,cZ⟩
  .exact Iw
  .refine u2 [(some 89,6),(some 88,5)] ?_;intro f vs Q hf hp C O K H;obtain⟨o,⟨dm,cb,fu,ar,dP⟩, -⟩:=O;replace o:_=_:=o
   try simp only[b_,o,ar]at H |-
   have e2:=cN.g_ C.gr;have au:=e2.f_ 2;have aX:=e2.hm 2;go_simp;have G:Gr [dD] Q (Q.setCell (c_ dD 2) (.slice dm ([iS ou fu (jl mH)]++cD).length cb)):=(D_ [dD] Q).setCell (.inl s_) _;exact H.out undef _ (λ_=>⟨dm,cb,fu,e2.hJ 2 _,dP.CL e2 G,(C.gr.mono s_).trans G⟩)
  intro f vs bq hf C;simp only[b_];have fC:=cN;clear dr aD cN;obtain⟨dK,dL,a1,cN,dr,G⟩:=C
  have gO:b1<=dD:=by omega
  have gn:=Bk.lF cy b8 d_;replace hd:=hd.h7 G p_;replace Y:=Y.gr G p_;replace hR:=hR.gr G p_;replace p:=p.ir G p_;replace b8:=b8.gr G p_;replace cy:=cy.gr G p_;replace aH:=aH.gr G p_;replace cY:=cY.CL fC G;clear fC;replace J:=J.hx G p_;clear G
  go_upto_region 12 with fail
  obtain⟨W,aM⟩:=nm_ bq;rw[<-aM]at hd Y hR p b8 cy cY J dr aH cN |-;clear aM;have gd:=cN.lt
  have cJ:∀y∈[g],y∈(g::ot (Value.slice cM k.length cI).ownBlock):=by simp
  have e4:∀y∈ot (Value.slice cM k.length cI).ownBlock,HA<=y/\y<xg:=λy hy=>⟨eX.2.2.2 y (jw.1 hy),fJ y (jw.1 hy)⟩
  have fK:∀y∈ot (Value.slice cM k.length cI).ownBlock,y≠cX/\y≠aC:=λy hy=>by
   rcases cY.own.2 with⟨hv,_⟩|⟨q,kX,cur,hv,_,aB,_⟩
   .have:=jw.1 hy
    rw[hv]at this
    cases this
   .have h1:=jw.1 hy;rw[hv]at h1
    have h2:=by simpa[Value.ownBlock]using h1
    subst h2;refine⟨λhe=>?_,λhe=>?_⟩
    .have cO:W.heap[cX]?=_:=b8;rw[<-he,aB]at cO;simp at cO
    .have cO:W.heap[aC]?=_:=cy;rw[<-he,aB]at cO;simp at cO
  have ey:∀y∈ot (Value.slice cM k.length cI).ownBlock,B<=y/\m≠y:=λy hy=>by have:=e4 y hy;omega
  have fL:∀y,(Value.slice cM k.length cI).ownBlock=some y->y<W.heap.size:=λy hy=>by have:=fJ y hy;omega
  have eL:=aN;clear aN
  have aN:∀y∈(g::ot (Value.slice cM k.length cI).ownBlock),y<W.heap.size:=by
   intro y hy
   rcases M_.1 hy with rfl|hy
   .omega
   .exact fL y (jw.1 hy)
  have aD:Ps B g m 2 3 (g::ot (Value.slice cM k.length cI).ownBlock) (λw=>Bk w R0 150 #[n_]/\mq b1 H9 RM w/\Bk w cX 213 #[.string pJ,.slice (j_ aC) 2 2,.slice cM k.length cI]/\Bk w aC 9 #[.string {data:=#[112]},.string {data:=#[110]}]/\Bk w dD 213 #[.string pf,.slice (j_ xg) 1 1,.slice dK ([iS ou a1 (jl mH)]++cD).length dL]/\Bk w xg 9 #[.string mH]/\lm hI xg 3 (1+(8+N)) w dK dL ([iS ou a1 (jl mH)]++cD)) (λw=>lm h6 b1 5 eG w cM cI k) W false W.drew:=⟨hd.g_ (D_ [] W).drew,⟨l,ck,by omega,Y.g_ (D_ [] W).drew⟩,⟨hR.g_ (D_ [] W).drew,p.ir (D_ [] W).drew s_,b8.g_ (D_ [] W).drew,cy.g_ (D_ [] W).drew,cN.g_ (D_ [] W).drew,aH.g_ (D_ [] W).drew,dr.ir (D_ [] W).drew s_⟩,λ_=>cY.ir (D_ [] W).drew s_,(D_ _ W).drew,
   λa b h⟨bH,bZ,dq,dM,f5,f6,f7⟩=>by
    have c7:∀x∈(g::ot (Value.slice cM k.length cI).ownBlock),x=g∨(HA<=x/\x<xg/\x≠cX/\x≠aC):=λx I=>by
     rcases M_.1 I with rfl|I
     .exact .inl rfl
     .exact .inr ⟨(e4 x I).1,(e4 x I).2,(fK x I).1,(fK x I).2⟩
    exact⟨bH.gr h (λI=>by have:=c7 _ I;omega),bZ.ir h (λx I=>by have:=c7 x I;omega),dq.gr h (λI=>by have:=c7 _ I;omega),dM.gr h (λI=>by have:=c7 _ I;omega),f5.gr h (λI=>by have:=c7 _ I;omega),f6.gr h (λI=>by have:=c7 _ I;omega),f7.ir h (λx I=>by have:=c7 x I;omega)⟩,
   λa b h h2=>h2.ir h p_,by simp,by omega⟩
  refine nT (λf=>Ps B g m 2 3 (g::ot (Value.slice cM k.length cI).ownBlock) (λw=>Bk w R0 150 #[n_]/\mq b1 H9 RM w/\Bk w cX 213 #[.string pJ,.slice (j_ aC) 2 2,.slice cM k.length cI]/\Bk w aC 9 #[.string {data:=#[112]},.string {data:=#[110]}]/\Bk w dD 213 #[.string pf,.slice (j_ xg) 1 1,.slice dK ([iS ou a1 (jl mH)]++cD).length dL]/\Bk w xg 9 #[.string mH]/\lm hI xg 3 (1+(8+N)) w dK dL ([iS ou a1 (jl mH)]++cD)) (λw=>lm h6 b1 5 eG w cM cI k) W (f 7)) (λvs ag=>∃(A:Option Addr) (c:Nat) (us:List ST),us.length=1/\Bk ag cX 213 #[.string pJ,.slice (j_ aC) 2 2,.slice A (k++us).length c]/\lm h6 b1 5 (eG+1) ag A c (k++us)/\iE ag B g/\Bk ag R0 150 #[n_]/\mq b1 H9 RM ag/\Bk ag aC 9 #[.string {data:=#[112]},.string {data:=#[110]}]/\Bk ag dD 213 #[.string pf,.slice (j_ xg) 1 1,.slice dK ([iS ou a1 (jl mH)]++cD).length dL]/\Bk ag xg 9 #[.string mH]/\lm hI xg 3 (1+(8+N)) ag dK dL ([iS ou a1 (jl mH)]++cD)/\Gr (cX::(g::ot (Value.slice cM k.length cI).ownBlock)) W ag) (G2 7 [g] (g::ot (Value.slice cM k.length cI).ownBlock)) [SU.l4 _ (.pointer (some (c_ cX 2))),SU.l4 _ (.slice cM k.length cI),SU.l4 _ (q_ m),(SU.tree aN (1)).uI (λ_ _ _ h=>h.gr cJ),(SU.trees aN 2 1).uI (λ_ _ _ h=>h.gr cJ),(SU.stmt aN (1) (1)).uI (λ_ _ _ h=>h.gr cJ),(SU.of (λv w=>∃(x:Nat) (t:ST),v=.slice (j_ x) 1 1/\W.heap.size<=x/\Bk w x 229 t.g8/\jx (jp W.heap.size) w t/\SG hI 1 1 t) (λ_ _ _ hg⟨x,t,h1,h2,h3,aw,ax⟩=>⟨x,t,h1,h2,h3.gr hg (λY=>by have:=aN x Y;omega),aw.h7 hg (λy hy=>EH.2 (aN y hy)),ax⟩)).uI (λ_ _ _ h=>h.gr cJ),SU.yI [7] (λv w=>∃(ay:Option Addr) (an:Nat) (us:List ST) (n2:Nat),v=.slice ay n2 an/\(us.length=1/\n2=(k++us).length)/\lm h6 b1 5 (eG+1) w ay an (k++us)) (λi hi v w w' hg⟨ay,an,us,n2,h1,h0,h2⟩=>⟨ay,an,us,n2,h1,h0,h2.ir (hg.ne (by simpa using hi)) p_⟩),SU.l4 _ (.pointer (some (c_ cX 2))),SU.anyI _] (SU.anyI _) [[],[0],[],[2],[3],[4],[5],[1,6],[],[8,7]] true [(some 90,0),(some 91,1),(some 92,2),(some 93,3),(some 94,4),(some 95,5),(some 96,6),(some 97,7),(some 98,8),(none,9)] k_ k_ k_ (λ_ _ _ _ _ h=>h) k_ rfl rfl k_ aD ⟨?_,?_,?_,?_,?_,?_,?_,?_,?_,?_,trivial⟩ ?_
  .exact I1
  .refine i3 [(some 90,0)] ?_;intro f vs Q hf C O K H;obtain⟨o, -⟩:=O;replace o:_=_:=o
   try simp only[b_,o]at H |-
   obtain⟨cU,fm,eT,g6,cH, -⟩:=id C;have au:=eT.2.2.1.f_ 2;exact Kn
  .exact I1
  .refine i3 [(some 92,2)] ?_;intro f vs Q hf C O K H;obtain⟨o, -⟩:=O;replace o:_=_:=o
   try simp only[b_,o]at H |-
   obtain⟨cQ,ej,ev,cu⟩:=C.lf;go_simp
   go_at_call 140
   refine(kq B g m cQ 0 2 1 o_ _ rfl _ C.d cu hBm).mono ?_;exact Jq
  .refine i3 [(some 93,3)] ?_;exact G3
  .refine i3 [(some 94,4)] ?_;exact Gz
  .refine i3 [(some 95,5)] ?_;exact Hg
  .refine i3 [(some 91,1),(some 96,6)] ?_;intro f vs Q hf C O K H;obtain⟨o,⟨aI,tb,ar,cw,bv,X,d⟩, -⟩:=O;replace o:_=_:=o
   try simp only[b_,o,ar]at H |-
   have ca:=C.l hf;have e7:=C.hz;refine iL k_ ?_;refine oy _ _ _ rfl b1 229 i1 _ 8 128 underlying211 bK b0 b5 cf rfl d_ d_ cM k.length cI (k.flatMap ST.E) r_ ca.own _ 1 1 ([tb].flatMap ST.E) r_ (qZ tb bv) (kM _) o_ o_ ?_;intro ay an bJ ce bE bF;have cZ:=ca.add (us:=[tb]) ce bE bF (λu hu=>by have:u=tb:=(by simpa using hu);subst this;exact X.imp (λy hy=>⟨by have:W.heap.size<=y:=hy;omega,λhe=>by have h1:=fL y he;have:W.heap.size<=y:=hy;omega⟩)) ((d.sub (λs hs=>by simp[h6,hs])).mono o_);exact H.out (.slice ay (k.length+1) an) _ (C.app (Gr.iM bE) ey (λy hy=>by simp[hy])) ((Gr.iM bE).mono (by intro y hy;simp[hy])) ⟨ay,an,[tb],k.length+1,rfl,⟨rfl,by simp⟩,cZ⟩
  .exact I1
  .refine u3 [(some 98,8),(some 97,7)] ?_;intro f vs Q hf C O K H;obtain⟨o,⟨dm,cb,tb,mb,ar,nb,dP⟩, -⟩:=O;replace o:_=_:=o
   try simp only[b_,o,ar]at H |-
   have fq:=h_ nb;clear nb;have fD:=C.f.2.2.1;have au:=fD.f_ 2;have aX:=fD.hm 2;go_simp;have G:Gr [cX] Q (Q.setCell (c_ cX 2) (.slice dm mb cb)):=(D_ [cX] Q).setCell (.inl s_) _;obtain⟨bH,bZ,dq,dM,f5,f6,f7⟩:=C.f;exact H.out undef _ (λ_=>⟨dm,cb,tb,fq.out.1,by rw[<-fq.out.2];exact dq.hJ 2 _,dP.CL dq G,C.d.h7 G p_,bH.gr G p_,bZ.ir G p_,dM.gr G (by simp;exact gn),f5.gr G p_,f6.gr G p_,f7.CL dq G,(C.gr.mono (by intro y hy;simp[hy])).trans (G.mono s_)⟩)
  intro f vs bq hf C;simp only[b_];clear hd Y hR p b8 cy cY dr aH cN aD;obtain⟨eF,eJ,us,gl,b8,cY,hd,hR,p,cy,cN,aH,dr,G⟩:=C;replace J:=J.hx G (by intro x I;rcases M_.1 I with rfl|I;right;omega;rcases M_.1 I with rfl|I;left;simp;right;have:=e4 x I;omega);clear G;obtain⟨d1,cm,e9,d3,fy,f3,aT,bB⟩:=p;obtain⟨nm,dV⟩:=nm_ e9.length;obtain⟨fj,fd⟩:=nm_ ((k++us).length);obtain⟨fk,fe⟩:=nm_ (([iS ou a1 (jl mH)]++cD).length);rw[<-dV]at d3;rw[<-fd]at b8;rw[<-fe]at cN;have eU:=h_ dV;have fS:=h_ fd;have fT:=h_ fe
  have gj:([iS ou a1 (jl mH)]++cD).length=1+cR:=by rw[H_,<-ep.out];rfl
  have gh:b1<bq.heap.size/\R0<m/\m<b1:=⟨by have:=d3.lt;omega,by omega,by omega⟩
  have f0:H9<=bq.heap.size:=by have:=cN.lt;omega
  have eK:=(cY.fin (G_ _)).Br (ps:=[oW,A3]) (i5 (n:=2) (s:=1) cy rfl) (G_ 2) (λy off h _=>by injection h with h;injection h with h;have:=cy.lt;omega);have fx:=((dr.fin (G_ _)).Br (ps:=[mH]) (BX aH) (G_ 1) (λy off h _=>by injection h with h;injection h with h;have:=aH.lt;omega));have f9:=cY.sg;have ga:=dr.sg;clear dV fd fe cy aH cY dr;obtain⟨dJ,eR⟩:=nm_ bq;rw[<-eR]at hd hR d3 b8 cN fy eK fx J gh f0 |-;clear eR;have bM:=d3.f_ 0;have bp:=d3.f_ 1;have bI:=d3.f_ 2;have bP:=b8.f_ 0;have c6:=b8.f_ 1;have da:=b8.f_ 2;have d0:=cN.f_ 0;have cG:=cN.f_ 1;have cF:=cN.f_ 2
  go_wp2_with (refine kG #[.slice (j_ dJ.heap.size) 3 3] (hR.alloc _) (by simp[Value.oneCell']) ?_;intro ag az G)
  have D:Bk (dJ.alloc (.cells #[.string vg,n_,.slice d1 nm cm,.string pJ,.slice (j_ aC) 2 2,.slice eF fj eJ,.string pf,.slice (j_ xg) 1 1,.slice dK fk dL] 213)) dJ.heap.size 213 #[.string vg,n_,.slice d1 nm cm,.string pJ,.slice (j_ aC) 2 2,.slice eF fj eJ,.string pf,.slice (j_ xg) 1 1,.slice dK fk dL]:=L_ dJ 213 _
  have g1:dJ.heap.size<=ag.heap.size:=by have:=G.size;simp at this;omega
  have dY:w.heap.size<=b1:=by omega
  have eW:=(D_ [] dJ).alloc (.cells #[.string vg,n_,.slice d1 nm cm,.string pJ,.slice (j_ aC) 2 2,.slice eF fj eJ,.string pf,.slice (j_ xg) 1 1,.slice dK fk dL] 213)
  have be:Sl ag 213 3 (j_ dJ.heap.size) 3 ([(⟨vg,none,0,[],d1,cm,e9⟩:FT),⟨pJ,some (c_ aC 0),2,[oW,A3],eF,eJ,k++us⟩,⟨pf,some (c_ xg 0),1,[mH],dK,dL,([iS ou a1 (jl mH)]++cD)⟩].flatMap FT.E):=by
   have:=i5 (n:=3) (s:=3) (D.gr G p_) rfl
   rw[eU.out,fS.out,fT.out]at this;exact this
  refine rr_ #[.slice (j_ dJ.heap.size) 3 3] az underlying150 ⟨dJ.heap.size,⟨vg,none,0,[],d1,cm,e9⟩,⟨pJ,some (c_ aC 0),2,[oW,A3],eF,eJ,k++us⟩,⟨pf,some (c_ xg 0),1,[mH],dK,dL,([iS ou a1 (jl mH)]++cD)⟩,rfl,be,?_,?_,?_,⟨rfl,rfl,f3⟩,⟨rfl,rfl,?_⟩,⟨rfl,rfl,?_⟩,(hd.g_ eW).h7 G p_,(J.alloc _).hx G p_⟩
  .exact((fy.ir eW s_).ir G p_).wide dY o_
  .exact((eK.ir eW s_).ir G p_).wide dY o_
  .exact((fx.ir eW s_).ir G p_).wide o_ o_
  .refine⟨?_,eG+1,f9,by have:=eX.1;omega,by rw[H_,gl];have:=eX.2.1;omega⟩;obtain⟨cg,eg,ls,bO,bl,k3⟩:=eX.2.2.1;exact⟨cg,eg,ls++us,by rw[bO];simp,bl,k3⟩
  .exact⟨iS ou a1 (jl mH),Z,ts,1+(8+N),by rw[cW.out];rfl,rfl,rfl,ez,e5,ga,by omega,by rw[gj];omega⟩
end Go.Proofs.YtenbhdilndfaeaaGreat
