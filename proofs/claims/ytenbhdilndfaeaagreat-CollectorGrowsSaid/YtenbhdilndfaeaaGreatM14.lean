import Derived.Test.YtenbhdilndfaeaaGreatM13
set_option maxRecDepth 100000
set_option maxHeartbeats 0
set_option linter.all false
namespace Go.Proofs.YtenbhdilndfaeaaGreat
open Go.RowKit Go.Proofs.Tryz
variable{G:Prop}{t:TypeId}{x:ByteArray}{D N R lo:Nat}{cs:Array Value}{p:Nat->Prop}{u:ST}{V:List ByteArray}{ts:List ST}{ax:World}{aI:OA}
theorem HH(h:G:=by
 intro f vs Q hf C J K H;obtain⟨⟨aX,ta,o,cH,bi,a6,c3⟩, -⟩:=J
 try simp only[b_,o]at H |-
 go_simp;have aD:ta.length=_:=cH
 have a7:Sl Q 226 5 (j_ aX) ta.length (ta.flatMap ET.E):=by rw[aD];exact a6
 have hcl:(lI 7 i4 i4 0 0 (j_ aX) ta.length ta).g_=_:=rfl;simp only[ST.ip,lI,aD]at hcl;refine H.out _ _ C (F_ _ _) ⟨lI 7 i4 i4 0 0 (j_ aX) ta.length ta,?_,jK.es _ _ _ _ _ a7 bi (λu hu=>(c3 u hu).1),SG.leaf (t:=lI 7 i4 i4 0 0 (j_ aX) ta.length ta) (by show mP _ 7 i4 i4 0 0 ta.length _ _;rw[aD];exact .ret) rfl rfl (λu hu=>(c3 u hu).2)⟩
 show Value.agg _=Value.agg (lI 7 i4 i4 0 0 (j_ aX) ta.length ta).g_
 exact LM):G:=h
theorem IB(h:G:=by
 refine hT [] ?_;intro vs Q C J K H;clear J
 try simp only[b_]at H |-
 go_simp
 go_at_call 145
 refine(ka _ _).mono ?_;rintro e w1⟨rfl,hg1⟩;exact H.out _ _ (C.hG hg1) (hg1.mono s_) ⟨jA Bz,rfl,kk.leaf _ _ _ _ _ _,.var _ _ (by simp[ig])⟩):G:=h
theorem IT(h:G:=by
 refine jP [] ?_;intro f vs Q hf hp C J K H;clear J
 try simp only[b_]at H |-
 go_simp
 go_at_call 144
 refine(j7 0 _).mono ?_;exact K5):G:=h
theorem I2(h:G:=by
 refine jP [] ?_;intro f vs Q hf hp C J K H;clear J
 try simp only[b_]at H |-
 go_simp;exact H.out _ _ (C.rU d_ ((F_ [] _).alloc _)) (G8.jC d_ ((F_ [] _).alloc _)) ⟨_,rfl,C.hz,P_ _ _ _⟩):G:=h
theorem Jv(h:G:=by
 refine jP [] ?_;intro f vs Q hf hp C J K H;clear J
 try simp only[b_]at H |-
 exact Li):G:=h
theorem Kr(h:G:=by
 rintro e w1⟨t,rfl,O,am,bg,hg1⟩;exact H.out _ _ (C.step hg1 bg) hg1 ⟨t,rfl,O.le C.hz,am⟩):G:=h
theorem KR(h:G:=by
 intro a b;obtain⟨x,A,h1,h2,h3⟩:=h.h2 a b;exact⟨x,A,h1,h2,h3.iy hg s_⟩):G:=h
theorem K5(h:G:=by
 rintro e w1⟨rfl,hg1⟩;exact H.out _ _ (C.rU d_ hg1) (G8.jC d_ hg1) rfl):G:=h
theorem Li(h:G:=by
 go_simp;exact H.out _ _ (C.add d_ (F_ [] _)) (zi.of d_ (F_ [] _)) rfl):G:=h
structure Ps(B g q:Nat)(fn hi:Int)(M:List Nat)(F L:World->Prop)(W:World)(b:Bool)(w:World):Prop where
 d:iQ w B g
 lf:Lf g q 0 fn hi w
 f:F w
 l:b=false->L w
 gr:Gr M W w
 sF:∀a b,Gr M a b->F a->F b
 sL:∀a b,Gr [g] a b->L a->L b
 gM:g∈M
 qg:q≠g
section
variable{B g q:Nat}{fn hi:Int}{M:List Nat}{F L:World->Prop}{W w w':World}{b:Bool}
theorem Ps.hz(h:Ps B g q fn hi M F L W b w):W.heap.size<=w.heap.size:=h.gr.size
theorem Ps.step(h:Ps B g q fn hi M F L W b w)(hg:Gr [g] w w')(hd:iQ w' B g):Ps B g q fn hi M F L W b w':=
 have hm:Gr M w w':=hg.mono (by intro x hx;have:x=g:=(zu hx);subst this;exact h.gM)
 ⟨hd,h.lf.gr hg (zu h.qg),h.sF _ _ hm h.f,λhb=>h.sL _ _ hg (h.l hb),h.gr.trans hm,h.sF,h.sL,h.gM,h.qg⟩
theorem Ps.hG(h:Ps B g q fn hi M F L W b w)(hg:Gr [] w w'):Ps B g q fn hi M F L W b w':=h.step (hg.mono s_) (h.d.hG hg)
theorem Ps.app{o:Option Nat}(h:Ps B g q fn hi M F L W b w)(hg:Gr (oA o) w w')(ho:∀y∈oA o,B<=y/\q≠y)(z:∀y∈oA o,y∈M):Ps B g q fn hi M F L W true w':=
 ⟨h.d.ih hg (λx hx=>(ho x hx).1),h.lf.gr hg (λhm=>(ho _ hm).2 rfl),h.sF _ _ (hg.mono z) h.f,(λhb=>by cases hb),h.gr.trans (hg.mono z),h.sF,h.sL,h.gM,h.qg⟩
end
def ig:List ByteArray:=Bz::hV
theorem Sl.ze{w:World}{e:TypeId}{s x off n:Nat}{xs:List Value}(h:Sl w e s (some (c_ x off)) n xs)(hn:0<n)(k:Bk w R t cs)(ao:e≠t):x≠R:=by
 intro he;subst he;obtain⟨b,o,c,fz,hA,hb,_⟩:=h.2 hn;injection hA with hA;injection hA with hA;subst hA;have cW:w.heap[x]?=_:=k;rw[hb]at cW;simp at cW;exact ao cW.2.1
theorem kk.ze{w:World}{u:ET}(h:kk p w u)(k:Bk w R t cs)(ao:226≠t):kk (λx=>p x/\x≠R) w u:=by
 induction h with
 |mk u h hc hb _ Z=>exact .mk u h hc (λx off hA hn=>⟨hb x off hA hn,by rw[hA]at h;exact h.ze hn k ao⟩) Z
theorem jK.ze{w:World}(h:jK p w u)(k:Bk w R t cs)(ao:226≠t)(N:229≠t):jK (λx=>p x/\x≠R) w u:=by
 induction h with
 |mk u he hce hbe hes hb hcb te _ hl hcl hbl _ d e=>
  exact .mk u he hce (λx off hA hn=>⟨hbe x off hA hn,by rw[hA]at he;exact he.ze hn k ao⟩) (λv hv=>(hes v hv).ze k ao) hb hcb (λx off hA hn=>⟨te x off hA hn,by rw[hA]at hb;exact hb.ze hn k N⟩) d hl hcl (λx off hA hn=>⟨hbl x off hA hn,by rw[hA]at hl;exact hl.ze hn k N⟩) e
theorem jK.Eu{w:World}(h:jK p w u)(hb:u.bs=[])(hl:u.ls=[])(k:Bk w R t cs)(ao:226≠t):jK (λx=>p x/\x≠R) w u:=by
 cases h with
 |mk u he hce hbe hes o hcb te hbs r hcl hbl hls=>
  exact .mk u he hce (λx off hA hn=>⟨hbe x off hA hn,by rw[hA]at he;exact he.ze hn k ao⟩) (λv hv=>(hes v hv).ze k ao) o hcb (λx off hA hn=>by rw[hb]at hn;cases hn) (λv hv=>by rw[hb]at hv;cases hv) r hcl (λx off hA hn=>by rw[hl]at hn;cases hn) (λv hv=>by rw[hl]at hv;cases hv)
def SU.sD{M:List Nat}{lo:Nat}(V:List ByteArray)(z:∀y∈M,y<lo)(d:Nat):SU (λ_=>Gr M):=
 SU.of (λv w=>∃t:ET,v=.agg t.g_/\kk (jE lo) w t/\EG V d t) (λ_ _ _ hg⟨t,h1,h2,h3⟩=>⟨t,h1,h2.ih hg (λx hx=>Fn.2 (z x hx)),h3⟩)
def SU.zB{M:List Nat}{lo:Nat}(V:List ByteArray)(z:∀y∈M,y<lo)(d n:Nat):SU (λ_=>Gr M):=
 SU.of (λv w=>∃(x:Nat) (ts:List ET),v=.slice (j_ x) n n/\ts.length=n/\lo<=x/\Sl w 226 5 (j_ x) n (ts.flatMap ET.E)/\∀t∈ts,kk (jE lo) w t/\EG V d t)
  (λ_ _ _ hg⟨x,ts,h1,h2,h3,au,aq⟩=>⟨x,ts,h1,h2,h3,au.iy λy off hA hx=>hg.block y hx (λhm=>by injection hA with hA;injection hA with hA;have:=z y hm;omega),λt ht=>⟨(aq t ht).1.ih hg (λx hx=>Fn.2 (z x hx)),(aq t ht).2⟩⟩)
def Ea(us:List ST):Prop:=∃(ck:List ST) (ek:ST),us=ck++[ek]/\ck.map ST.name=[vE,uJ,u0,mR,oB,w8,w7]/\∀s∈ck,s.h6=1
def G8(g m HA:Nat)(i:Nat)(a b:World):Prop:=if i=19 then(∃M,Gr M a b/\∀x∈M,HA<=x/\∀t cs,Bk a x t cs->t=229) else Gr (if i=18 then[g,m] else[g]) a b
theorem G8.of{g m HA i:Nat}{a b:World}(hi:i≠19)(h:Gr [g] a b):G8 g m HA i a b:=by
 unfold G8;rw[Q_ hi];split
 .exact h.mono s_
 .exact h
theorem G8.jC{g m HA i:Nat}{a b:World}(hi:i≠19)(h:Gr [] a b):G8 g m HA i a b:=G8.of hi (h.mono s_)
theorem G8.gr{g m HA i:Nat}{a b:World}(h:G8 g m HA i a b)(hi:i∉[19]):Gr [g,m] a b:=by
 unfold G8 at h;rw[Q_ (zu hi)]at h;split at h
 .exact h
 .exact h.mono s_
theorem G8.bk{g m HA i x:Nat}{a b:World}(h:G8 g m HA i a b)(k:Bk a x t cs)(ht:t≠229)(hg:x≠g)(hm:x≠m):Bk b x t cs:=by
 by_cases hi:i=19
 .unfold G8 at h;rw[T_ hi]at h;obtain⟨M,h1,h2⟩:=h;exact k.gr h1 (λhx=>ht ((h2 x hx).2 t cs k))
 .exact k.gr (h.gr (zu hi)) (by simp;exact⟨hg,hm⟩)
def DQ(b1 HA:Nat)(v:Value)(w:World):Prop:=∃(x:Nat) (us:List ST),v=.slice (j_ x) 8 8/\us.length=8/\Ea us/\lC ig b1 5 9 w (j_ x) 8 us/\HA<=x
def DP(b1 HA:Nat)(v:Value)(w:World):Prop:=∃(A:OA) (c:Nat) (ts:List ST) (N:Nat),v=.slice A ts.length c/\ts.length<=3/\N<=6/\lC hV b1 3 N w A c ts
def J8(b1 HA:Nat)(a d:Value)(w:World):Prop:=∃(x:Nat) (us:List ST) (A:OA) (c:Nat) (ts:List ST) (N:Nat),a=.slice (j_ x) 8 8/\us.length=8/\Ea us/\lC ig b1 5 9 w (j_ x) 8 us/\HA<=x/\
 d=.slice A ts.length c/\ts.length<=3/\N<=6/\lC hV b1 3 N w A c ts/\∀u∈ts,jK (λy=>b1<=y/\y≠x) w u
theorem DQ.iy{b1 HA:Nat}{v:Value}{w w':World}{M:List Nat}(h:DQ b1 HA v w)(hg:Gr M w w')(z:∀x∈M,x<b1):DQ b1 HA v w':=by
 obtain⟨x,us,h1,h2,h3,au,aq⟩:=h;exact⟨x,us,h1,h2,h3,au.iy hg z,aq⟩
theorem DP.iy{b1 HA:Nat}{v:Value}{w w':World}{M:List Nat}(h:DP b1 HA v w)(hg:Gr M w w')(z:∀x∈M,x<b1):DP b1 HA v w':=by
 obtain⟨A,c,ts,N,h1,h2,h3,au⟩:=h;exact⟨A,c,ts,N,h1,h2,h3,au.iy hg z⟩
theorem J8.iy{b1 HA:Nat}{v v':Value}{w w':World}{M:List Nat}(h:J8 b1 HA v v' w)(hg:Gr M w w')(z:∀x∈M,x<b1):J8 b1 HA v v' w':=by
 obtain⟨x,us,A,c,ts,N,h1,h2,h3,au,aq,aU,bG,bL,aM,h10⟩:=h;exact⟨x,us,A,c,ts,N,h1,h2,h3,au.iy hg z,aq,aU,bG,bL,aM.iy hg z,λu hu=>(h10 u hu).ih hg (λy hy hp=>by have:=z y hy;have:=hp.1;omega)⟩
theorem lC.bd{b c:Nat}{w:World}{A:OA}(h:lC V b D N w A c ts){x:Nat}(hx:w.heap.size<=x):∀u∈ts,jK (λy=>b<=y/\y≠x) w u:=λu hu=>((h.js u hu).lt).imp λy hy=>⟨hy.1.1,by have:=hy.2;omega⟩
def vD:ByteArray:={data:=#[109,97,105,110]}
structure zj(lo hi:Nat)(w:World)(AP:OA)(cP:Nat)(ps:List ByteArray)(A:OA)(c:Nat)(bs:List ST):Prop where
 hp:Sl w 9 1 AP ps.length (ps.map Value.string)
 u1:ps.length<=cP
 DX:∀x off,AP=some (c_ x off)->0<ps.length->lo<=x/\x<hi
 hb:Sl w 229 8 A bs.length (bs.flatMap ST.E)
 BK:bs.length<=c
 te:∀x off,A=some (c_ x off)->0<bs.length->lo<=x/\x<hi
 hs:∀t∈bs,jK (λx=>lo<=x/\x<hi) w t
theorem zj.iy{hi cP c:Nat}{w w':World}{AP A:OA}{ps:List ByteArray}{bs:List ST}{M:List Nat}(h:zj lo hi w AP cP ps A c bs)(hg:Gr M w w')(z:∀x∈M,x<lo∨hi<=x):zj lo hi w' AP cP ps A c bs:=
 ⟨h.hp.rI λhn x off hA hx=>hg.block x hx (λhm=>by have:=z x hm;have:=h.DX x off hA hn;omega),h.u1,h.DX,
   h.hb.rI λhn x off hA hx=>hg.block x hx (λhm=>by have:=z x hm;have:=h.te x off hA hn;omega),h.BK,h.te,λt ht=>(h.hs t ht).ih hg (λx hx hp=>by have:=z x hx;omega)⟩
theorem lC.fin{c hi:Nat}{w:World}{A:OA}(h:lC V lo D N w A c ts)(eX:w.heap.size<=hi):zj lo hi w none 0 [] A c ts:=
 ⟨Fm _ _ _ _,H_ _,(λ_ _ h _=>by cases h),h.sl,jf h.own,λx off hA _=>by subst hA;have:=ku h.own (x:=x) rfl;omega,λt ht=>((h.js t ht).lt).imp λx hx=>⟨hx.1.1,ov hx.2⟩⟩
theorem zj.B1{hi c cP:Nat}{w:World}{A AP:OA}{ps:List ByteArray}(h:zj lo hi w none 0 [] A c ts)(hp:Sl w 9 1 AP ps.length (ps.map Value.string))(hc:ps.length<=cP)(hb:∀x off,AP=some (c_ x off)->0<ps.length->lo<=x/\x<hi):zj lo hi w AP cP ps A c ts:=
 ⟨hp,hc,hb,h.hb,h.BK,h.te,h.hs⟩
theorem Al{b1 R0 n0 c aF:Nat}{T Y:World}{A As:OA}(cn:jK (jE T.heap.size) Y (iZ oZ As (eNew 3)))(ah:Gr [] T Y)(hL:lC hV b1 4 N T A c ts)(hn:n0=ts.length)(cr:ax.ownsRow Y.heap.size 229 8 (.slice aI (1+n0) aF) (1+n0) ((iZ oZ As (eNew 3)).g_.toList++ts.flatMap ST.E))(ey:(Y.alloc (.cells (iZ oZ As (eNew 3)).g_ 229)).grownBy ax (Value.slice (j_ Y.heap.size) 1 1).ownBlock)(dk:(Value.slice aI (1+n0) aF).ownBlock=(Value.slice (j_ Y.heap.size) 1 1).ownBlock∨(Value.slice aI (1+n0) aF).ownBlock=some (Y.alloc (.cells (iZ oZ As (eNew 3)).g_ 229)).heap.size)(hb:R0<=b1)(hR:R0<=T.heap.size):
 lC hV R0 5 (1+N) ax aI aF ([iZ oZ As (eNew 3)]++ts):=by
 subst hn;have aq:=ah.size
 have a:lC hV R0 5 1 (Y.alloc (.cells (iZ oZ As (eNew 3)).g_ 229)) (j_ Y.heap.size) 1 [iZ oZ As (eNew 3)]:=by
  refine⟨oi (sT (n:=1) (s:=8) (P_ Y 229 (iZ oZ As (eNew 3)).g_) rfl (H_ _) d_) o_,?_,SG.leaf (.uU _ (show oZ∈hV by simp[hV])) rfl rfl (by intro u hu;rcases L_.1 hu with rfl|hu;exact .new _ _ o_ o_;cases hu)⟩;intro u hu
  have:u=iZ oZ As (eNew 3):=zu hu
  subst this;exact(cn.lt.imp (λx hx=>⟨by have:T.heap.size<=x:=hx.1;omega,λhe=>by have:=hx.2;simp[Value.ownBlock]at he;omega⟩)).hG ((F_ [] Y).alloc _)
 exact a.add (us:=ts) (oi cr o_) ey dk (λu hu=>(((hL.js u hu).lt.imp (λx hx=>⟨ov hx.1.1,λhe=>by have:=hx.2;simp[Value.ownBlock]at he;omega⟩)).hG ah).hG ((F_ [] Y).alloc _)) (hL.sg.mono o_)
theorem BD{b n0 aF:Nat}{s:ST}(h:lC V b D N ax aI aF ([s]++ts))(hn:n0=ts.length):Sl ax 229 8 aI (1+n0) (([s]++ts).flatMap ST.E):=by
 subst hn
 have:=h.sl
 rw[J_]at this;exact this
def A5(bs:List ST):Prop:=∃(ss ls:List ST) (N:Nat),bs=ss++ls/\ss.map ST.name=hV/\(∀s∈ss,s.h6=1)/\lR hV 5 N bs/\N<=28/\bs.length<=30
def mE(lo hi RM:Nat)(w:World):Prop:=∃(A:OA) (c:Nat) (bs:List ST),Bk w RM 213 #[.string vD,n_,.slice A bs.length c]/\zj lo hi w none 0 [] A c bs/\A5 bs/\lo<=RM/\RM<hi
theorem mE.iy{hi RM:Nat}{w w':World}{M:List Nat}(h:mE lo hi RM w)(hg:Gr M w w')(z:∀x∈M,x<lo∨hi<=x):mE lo hi RM w':=by
 obtain⟨A,c,bs,h1,h2,h3,au,aq⟩:=h;exact⟨A,c,bs,h1.gr hg (λhm=>by have:=z RM hm;omega),h2.iy hg z,h3,au,aq⟩
def FG(us:List ST):Prop:=∃(ck:List ST) (ek:ST) (ls:List ST),us=ck++(ek::ls)/\ck.map ST.name=[vE,uJ,u0,mR,oB,w8,w7]/\∀s∈ck,s.h6=1
def AY(HA:Nat)(x:ByteArray)(v:Value)(w:World):Prop:=∃(A:OA) (a:ET),v=.agg (iZ x A a).g_/\jK (jE HA) w (iZ x A a)/\SG ig 1 1 (iZ x A a)
def mL:List (Nat × ByteArray):=[(2,vE),(4,uJ),(6,u0),(8,mR),(10,oB),(12,w8),(14,w7)]
theorem AY.iy{HA:Nat}{v:Value}{w w':World}{M:List Nat}(h:AY HA x v w)(hg:Gr M w w')(z:∀y∈M,y<HA):AY HA x v w':=by
 obtain⟨A,a,h1,h2,h3⟩:=h;exact⟨A,a,h1,h2.ih hg (λy hy=>Fn.2 (z y hy)),h3⟩
structure sn(B g m R0 b1 H9 RM RA HA:Nat)(tA:ST)(W:World)(f:Nat->Bool)(vs:Nat->Value)(w:World):Prop where
 d:iQ w B g
 lf:Lf g m 0 1 3 w
 r:Bk w R0 150 #[n_]
 mo:mE b1 H9 RM w
 a:Bk w RA 229 tA.g_
 ta:jK (λx=>b1<=x/\x<HA) w tA
 oN:f 19=false->∀i x,(i,x)∈mL->f i=true->AY HA x (vs i) w
 BM:f 16=true->f 18=false->DQ b1 HA (vs 16) w
 BL:f 18=true->f 16=false->DP b1 HA (vs 18) w
 hj:f 16=true->f 18=true->f 19=false->J8 b1 HA (vs 16) (vs 18) w
 DK:f 19=true->f 16=true
 gr:Gr [g,m] W w
 o:g<B/\B<=m/\R0<m/\g<R0/\m<b1/\b1<=HA/\H9<=HA/\RA<HA/\b1<=RA/\W.heap.size=HA
theorem sa{i:Nat}(h:(i,x)∈mL):i∈[2,4,6,8,10,12,14]:=by
 simp[mL]at h;simp;omega
section
variable{B g m R0 b1 H9 RM RA HA:Nat}{tA:ST}{W w w':World}{f:Nat->Bool}{vs:Nat->Value}{v:Value}{i:Nat}
theorem sn.hz(h:sn B g m R0 b1 H9 RM RA HA tA W f vs w):HA<=w.heap.size:=by have:=h.gr.size;have:=h.o;omega
theorem sn.base(h:sn B g m R0 b1 H9 RM RA HA tA W f vs w){M:List Nat}(hg:Gr M w w')(z:∀x∈M,x=g∨x=m∨HA<=x):
 Bk w' R0 150 #[n_]/\mE b1 H9 RM w'/\Bk w' RA 229 tA.g_/\jK (λx=>b1<=x/\x<HA) w' tA/\Gr [g,m] W w':=by
 have ho:=h.o;exact⟨h.r.gr hg (λhx=>by have:=z _ hx;omega),h.mo.iy hg (λx hx=>by have:=z x hx;omega),h.a.gr hg (λhx=>by have:=z _ hx;omega),h.ta.ih hg (λx hx hp=>by have:=z x hx;omega),h.gr.hK hg (λx hx=>by have:=z x hx;simp;omega)⟩
theorem iq{f:Nat->Bool}{i j:Nat}(h:j≠i):(j==i||f j)=f j:=by
 have:(j==i)=false:=zu h
 rw[this,Gp]
theorem k7{vs:Nat->Value}{v:Value}{i j:Nat}(h:j≠i):r6 vs i v j=vs j:=by simp[r6,h]
theorem ns{vs:Nat->Value}{v:Value}{i:Nat}:r6 vs i v i=v:=by simp[r6]
theorem sn.add(h:sn B g m R0 b1 H9 RM RA HA tA W f vs w)(hi:i∉[2,4,6,8,10,12,14,16,18,19])(hg:Gr [g] w w')(hd:iQ w' B g):sn B g m R0 b1 H9 RM RA HA tA W (λj=>j==i||f j) (r6 vs i v) w':=by
 have ho:=h.o;obtain⟨h1,h2,h3,au,aq⟩:=h.base hg s_;have hb:∀x∈[g],x<b1:=p_;have cU:∀x∈[g],x<HA:=p_
 have dh:(16:Nat)≠i:=λe=>hi (by simp[<-e])
 have dC:(18:Nat)≠i:=λe=>hi (by simp[<-e])
 have d:(19:Nat)≠i:=λe=>hi (by simp[<-e])
 refine⟨hd,h.lf.gr hg p_,h1,h2,h3,au,?_,?_,?_,?_,(by rw[iq d,iq dh];exact h.DK),aq,ho⟩
 .intro U j x hj hf;rw[iq d]at U
  have ao:j≠i:=λe=>by
   have:=sa hj
   subst e;exact hi (by simp at this |-;omega)
  rw[iq ao]at hf;rw[k7 ao];exact(h.oN U j x hj hf).iy hg cU
 .rw[iq dh,iq dC,k7 dh]
  exact λa b=>(h.BM a b).iy hg hb
 .rw[iq dh,iq dC,k7 dC]
  exact λa b=>(h.BL a b).iy hg hb
 .rw[iq dh,iq dC,iq d,k7 dh,k7 dC]
  exact λa b c=>(h.hj a b c).iy hg hb
theorem sn.rU(h:sn B g m R0 b1 H9 RM RA HA tA W f vs w)(hi:i∉[2,4,6,8,10,12,14,16,18,19])(hg:Gr [] w w'):sn B g m R0 b1 H9 RM RA HA tA W (λj=>j==i||f j) (r6 vs i v) w':=h.add hi (hg.mono s_) (h.d.hG hg)
theorem sn.xy(h:sn B g m R0 b1 H9 RM RA HA tA W f vs w)(hi:(i,x)∈mL)(hx:∀y,(i,y)∈mL->y=x)(hg:Gr [] w w')(hP:AY HA x v w'):sn B g m R0 b1 H9 RM RA HA tA W (λj=>j==i||f j) (r6 vs i v) w':=by
 have ho:=h.o;have hm:=sa hi;obtain⟨h1,h2,h3,au,aq⟩:=h.base hg s_
 have dh:(16:Nat)≠i:=λe=>by subst e;simp at hm
 have dC:(18:Nat)≠i:=λe=>by subst e;simp at hm
 have d:(19:Nat)≠i:=λe=>by subst e;simp at hm
 refine⟨h.d.hG hg,h.lf.gr hg s_,h1,h2,h3,au,?_,?_,?_,?_,(by rw[iq d,iq dh];exact h.DK),aq,ho⟩
 .intro U j y hj hf;rw[iq d]at U
  by_cases ao:j=i
  .subst ao;rw[ns,hx y hj];exact hP
  .rw[iq ao]at hf;rw[k7 ao];exact(h.oN U j y hj hf).iy hg s_
 .rw[iq dh,iq dC,k7 dh]
  exact λa b=>(h.BM a b).iy hg s_
 .rw[iq dh,iq dC,k7 dC]
  exact λa b=>(h.BL a b).iy hg s_
 .rw[iq dh,iq dC,iq d,k7 dh,k7 dC]
  exact λa b c=>(h.hj a b c).iy hg s_
theorem sn.D1(h:sn B g m R0 b1 H9 RM RA HA tA W f vs w)(hf:f 16=false)(hg:Gr [] w w'){us:List ST}(hv:v=.slice (j_ w.heap.size) 8 8)(hl:us.length=8)(hk:Ea us)(hL:lC ig b1 5 9 w' (j_ w.heap.size) 8 us):sn B g m R0 b1 H9 RM RA HA tA W (λj=>j==16||f j) (r6 vs 16 v) w':=by
 have hz:=h.hz;obtain⟨h1,h2,h3,au,aq⟩:=h.base hg s_;refine⟨h.d.hG hg,h.lf.gr hg s_,h1,h2,h3,au,?_,?_,?_,?_,(λ_=>by simp),aq,h.o⟩
 .intro U j y hj k
  have ao:j≠16:=λe=>by have:=sa hj;subst e;simp at this
  rw[iq d_]at U;rw[iq ao]at k;rw[k7 ao];exact(h.oN U j y hj k).iy hg s_
 .intro _ _;rw[ns];exact⟨_,us,hv,hl,hk,hL,hz⟩
 .intro _ BM;simp at BM
 .intro _ d _;rw[iq d_]at d;rw[ns,k7 d_];obtain⟨A,c,ts,N,h1,h2,h3,au⟩:=h.BL d hf;exact⟨_,us,A,c,ts,N,hv,hl,hk,hL,hz,h1,h2,h3,au.iy hg s_,λu hu=>(au.bd (H_ _) u hu).hG hg⟩
theorem sn.D0(h:sn B g m R0 b1 H9 RM RA HA tA W f vs w)(hf:f 18=false)(hg:Gr [g,m] w w')(hd:iQ w' B g)(dK:Lf g m 0 1 3 w'){A:OA}{c:Nat}(hv:v=.slice A ts.length c)(hl:ts.length<=3)(bt:N<=6)(hL:lC hV w.heap.size 3 N w' A c ts):sn B g m R0 b1 H9 RM RA HA tA W (λj=>j==18||f j) (r6 vs 18 v) w':=by
 have ho:=h.o;have hz:=h.hz;obtain⟨h1,h2,h3,au,aq⟩:=h.base hg s_;refine⟨hd,dK,h1,h2,h3,au,?_,?_,?_,?_,(by rw[iq d_,iq d_];exact h.DK),aq,ho⟩
 .intro U j y hj k
  have ao:j≠18:=λe=>by have:=sa hj;subst e;simp at this
  rw[iq d_]at U;rw[iq ao]at k;rw[k7 ao];exact(h.oN U j y hj k).iy hg p_
 .intro _ BL;simp at BL
 .intro _ _;rw[ns];exact⟨A,c,ts,N,hv,hl,bt,hL.le o_⟩
 .intro a _ _;rw[iq d_]at a;rw[ns,k7 d_];obtain⟨x,us,bV,bz,k3,dU,dL⟩:=h.BM a hf;have hx:=(ku dU.own (x:=x) rfl).2;exact⟨x,us,A,c,ts,N,bV,bz,k3,dU.iy hg p_,dL,hv,hl,bt,hL.le o_,λu hu=>(hL.js u hu).imp λy hy=>⟨ov hy.1,by have:=hy.1;omega⟩⟩
theorem jK.fresh{b n c:Nat}{C:Array Value}(h:jK p w u)(hp:∀x,p x->b<=x):jK (yM b (Value.slice (j_ w.heap.size) n c).ownBlock) (w.alloc (.cells C t)) u:=
 (h.lt.imp λx hx=>⟨hp x hx.1,λhe=>by simp[Value.ownBlock]at he;have:=hx.2;omega⟩).hG ((F_ [] w).alloc _)
theorem lC.Df{b c:Nat}{A:OA}(h:lC V b D N w A c ts)(k:Bk w R 213 cs)(hg:Gr [R] w w'):lC V b D N w' A c ts:=by
 refine⟨nP h.own hg (λx hx he=>?_),λu hu=>((h.js u hu).ze k d_ d_).ih hg (λx hx hp=>hp.2 (zu hx)) |>.imp (λ_ hp=>hp.1),h.sg⟩;have hx:=zu hx;subst hx
 rcases h.own.2 with⟨hv,_⟩|⟨q,lW,cur,hv,_,ay,_⟩
 .rw[hv]at he
  cases he
 .rw[hv]at he
  have:q=x:=by simpa[Value.ownBlock]using he
  subst this;have cW:w.heap[q]?=_:=k;rw[ay]at cW;simp at cW
theorem sn.DZ(h:sn B g m R0 b1 H9 RM RA HA tA W f vs w)(a:f 16=true)(d:f 18=true){M:List Nat}(hg:Gr M w w')(z:∀x∈M,HA<=x):sn B g m R0 b1 H9 RM RA HA tA W (λj=>j==19||f j) (r6 vs 19 v) w':=by
 have ho:=h.o;obtain⟨h1,h2,h3,au,aq⟩:=h.base hg (λx hx=>.inr (.inr (z x hx)));refine⟨h.d.ih hg (λx hx=>by have:=z x hx;omega),h.lf.gr hg (λhx=>by have:=z _ hx;omega),h1,h2,h3,au,(λU=>by simp at U),(λ_ hf=>by rw[iq d_,d]at hf;cases hf),(λ_ hf=>by rw[iq d_,a]at hf;cases hf),(λ_ _ hf=>by simp at hf),(λ_=>by rw[iq d_];exact a),aq,ho⟩
end
def Ek(v:Value)(w:World)(H:Nat):Prop:=∃(A:OA),v=.agg (iZ oB A (jA mR)).g_/\jK (jE H) w (iZ oB A (jA mR))
def Ej(b1 H:Nat)(v:Value)(w:World):Prop:=∃(x:Nat) (A:OA),v=.slice (j_ x) 1 1/\H<=x/\lC hV b1 3 1 w (j_ x) 1 [iZ oB A (jA mR)]
structure qQ(b1:Nat)(W:World)(f:Nat->Bool)(vs:Nat->Value)(w:World):Prop where
 h1:f 5=false->f 1=true->Ek (vs 1) w W.heap.size
 h2:f 5=false->f 2=true->Ej b1 W.heap.size (vs 2) w
 o5:f 5=true->f 2=true
 gr:Gr [] W w
def zi(H:Nat)(i:Nat)(a b:World):Prop:=if i=5 then(∃M,Gr M a b/\∀x∈M,H<=x) else Gr [] a b
theorem zi.of{H i:Nat}{a b:World}(hi:i≠5)(h:Gr [] a b):zi H i a b:=by
 unfold zi;rw[Q_ hi];exact h
section
variable{b1:Nat}{W w w':World}{f:Nat->Bool}{vs:Nat->Value}{v:Value}{i:Nat}
theorem qQ.add(h:qQ b1 W f vs w)(hi:i∉[1,2,5])(hg:Gr [] w w'):qQ b1 W (λj=>j==i||f j) (r6 vs i v) w':=by
 have aJ:(1:Nat)≠i:=λe=>hi (by simp[<-e])
 have aG:(2:Nat)≠i:=λe=>hi (by simp[<-e])
 have bS:(5:Nat)≠i:=λe=>hi (by simp[<-e])
 refine⟨?_,?_,(by rw[iq bS,iq aG];exact h.o5),h.gr.trans hg⟩
 .rw[iq aJ,iq bS,k7 aJ];intro a b;obtain⟨A,h1,h2⟩:=h.h1 a b;exact⟨A,h1,h2.hG hg⟩
 .rw[iq aG,iq bS,k7 aG];exact KR
theorem qQ.pP(h:qQ b1 W f vs w)(hg:Gr [] w w')(hP:Ek v w' W.heap.size):qQ b1 W (λj=>j==1||f j) (r6 vs 1 v) w':=by
 refine⟨λ_ _=>by rw[ns];exact hP,?_,(by rw[iq d_,iq d_];exact h.o5),h.gr.trans hg⟩;rw[iq d_,iq d_,k7 d_];exact KR
theorem qQ.EB(h:qQ b1 W f vs w)(hg:Gr [] w w')(hP:Ej b1 W.heap.size v w'):qQ b1 W (λj=>j==2||f j) (r6 vs 2 v) w':=by
 refine⟨?_,λ_ _=>by rw[ns];exact hP,(λ_=>by simp),h.gr.trans hg⟩;rw[iq d_,iq d_,k7 d_];intro a b;obtain⟨A,h1,h2⟩:=h.h1 a b;exact⟨A,h1,h2.hG hg⟩
theorem qQ.Ez(h:qQ b1 W f vs w)(h2:f 2=true){M:List Nat}(hg:Gr M w w')(z:∀x∈M,W.heap.size<=x):qQ b1 W (λj=>j==5||f j) (r6 vs 5 v) w':=
 ⟨(λaq=>by simp at aq),(λaq=>by simp at aq),(λ_=>by rw[iq d_];exact h2),h.gr.hK hg (λx hx=>.inr (z x hx))⟩
end
structure FT where
 name:ByteArray
 AP:Option Addr
 cP:Nat
 ps:List ByteArray
 A:Option Addr
 c:Nat
 bs:List ST
def FT.E(f:FT):List Value:=[.string f.name,.slice f.AP f.ps.length f.cP,.slice f.A f.bs.length f.c]
def FT.In(lo hi:Nat)(w:World)(f:FT):Prop:=zj lo hi w f.AP f.cP f.ps f.A f.c f.bs
def En(bs:List ST):Prop:=FG bs/\∃K,lR ig 5 K bs/\K<=16/\bs.length<=12
def Em(bs:List ST):Prop:=∃(s:ST) (ss ls:List ST) (K:Nat),bs=s::(ss++ls)/\s.h6=1/\s.name=oB/\ss.map ST.name=hV/\(∀u∈ss,u.h6=1)/\lR hV 3 K bs/\K<=15/\bs.length<=21
theorem zj.wide{hi a k cP c:Nat}{w:World}{AP A:OA}{ps:List ByteArray}{bs:List ST}(h:zj lo hi w AP cP ps A c bs)(hl:a<=lo)(ay:hi<=k):zj a k w AP cP ps A c bs:=
 ⟨h.hp,h.u1,λx off hA hn=>by have:=h.DX x off hA hn;omega,h.hb,h.BK,λx off hA hn=>by have:=h.te x off hA hn;omega,λt ht=>(h.hs t ht).imp λx hx=>by omega⟩
def D6(B g:Nat)(w:World)(e:Ending)(w':World):Prop:=∃(x:Nat) (r n p:FT),e=.returned (.agg #[.slice (j_ x) 3 3])/\Sl w' 213 3 (j_ x) 3 ([r,n,p].flatMap FT.E)/\
 r.In w.heap.size w'.heap.size w'/\n.In w.heap.size w'.heap.size w'/\p.In w.heap.size w'.heap.size w'/\(r.name=vD/\r.ps=[]/\A5 r.bs)/\(n.name=pQ/\n.ps=[oZ,Bz]/\En n.bs)/\(p.name=pm/\p.ps=[mR]/\Em p.bs)/\iQ w' B g/\Gr [g] w w'
theorem Cw{w:World}{x:Nat}{s:ByteArray}(h:Bk w x 9 #[.string s]):Sl w 9 1 (j_ x) [s].length ([s].map Value.string):=jj (n:=1) (s:=1) h rfl
theorem Aa(B g:Nat)(w:World)(hd:iQ w B g)(hB:B<=w.heap.size):
 Calls prog 89 #[q_ g] w (D6 B g w):=by
 obtain⟨i1,bM,ca,ce,cp⟩:=info_parts infoSt;have bl:=hd.xa
 go_enter func89,ntmps89
 go_upto_region 2 with fail
 obtain⟨-,-,a2⟩:=qh w 150 #[n_] 222 #[q_ g,i_ 9,i_ 0,i_ 0];have cO:=hd.hG a2;have cf:=(P_ w 150 #[n_]).alloc (.cells #[q_ g,i_ 9,i_ 0,i_ 0] 222);obtain⟨-,cA,-⟩:=qh w 150 #[n_] 222 #[q_ g,i_ 9,i_ 0,i_ 0];obtain⟨bp,b5⟩:=nm_ ((w.alloc (.cells #[n_] 150)).alloc (.cells #[q_ g,i_ 9,i_ 0,i_ 0] 222));rw[<-b5]at a2 cO cf cA |-;clear b5;obtain⟨R0,cw⟩:=nm_ w.heap.size;obtain⟨m,fJ⟩:=nm_ (w.heap.size+1);rw[<-cw]at cf |-;rw[<-fJ]at cA;have dt:w.heap.size<=R0:=o_;have eR:R0<m:=o_;have fK:R0+1=m:=o_;have hBm:B<=m:=o_;rw[fK];clear cw fJ fK
 go_upto_region 3 with(go_at_call 139;refine((s6 B g m 0).1 0 6 9 0 _ rfl o_ o_ cO cA hBm o_ o_ o_ s_).mono ?_;rintro e w2⟨A,c,ts,N,l,rfl,cV,hL,hl0,hl1,bt,dE,eo,S⟩)
 obtain⟨b1,aQ⟩:=nm_ bp.heap.size;rw[<-aQ]at hL
 have dF:m<b1:=by rw[aQ];exact cA.lt
 have fj:=S.size;rw[<-aQ]at fj;clear aQ;have cz:=cf.gr S p_;have cy:Gr [g] w w2:=(a2.mono s_).hK S p_;clear cO cA cf S a2 hd
 go_upto_if 16 with(go_at_call 19;refine(iw B g 3 _ eo o_ o_).mono ?_;rintro e ae⟨r,rfl,bD,bJ,hd,Z⟩)
 have hm:=dE.gr Z p_;have hR:=cz.gr Z p_;have I:=cy.trans Z;replace hL:=hL.iy Z p_;have a8:=G_ fj Z.size;clear eo dE cz cy Z fj
 go_cut [4] (λx T=>∃(A:OA) (c:Nat) (ts:List ST) (e0:Nat) (l:Int),x=.slice A ts.length c/\lC hV b1 4 e0 T A c ts/\ts.length<=8/\(e0:Int)<=19/\Bk T m 222 #[q_ g,i_ l,i_ 0,i_ 0]/\Bk T R0 150 #[n_]/\iQ T B g/\Gr [g] w T/\b1<=T.heap.size)
 case first=>
  by_cases hr:0<r
  .have eA:decide (0<r)=true:=by simp[hr]
   simp only[eA];clear hr eA
   go_upto_region 4 with fail
   obtain⟨W,aE⟩:=nm_ ae;rw[<-aE]at hd hm hR hL I a8 |-;clear aE;have cN:∀y∈[g],y∈(g::oA (Value.slice A ts.length c).ownBlock):=s_
   have d3:∀y∈oA (Value.slice A ts.length c).ownBlock,b1<=y:=λy hy=>(ku hL.own (jJ.1 hy)).1
   have eD:∀y∈oA (Value.slice A ts.length c).ownBlock,B<=y/\m≠y:=λy hy=>by have:=d3 y hy;omega
   have eT:∀y,(Value.slice A ts.length c).ownBlock=some y->y<W.heap.size:=λy hy=>(ku hL.own hy).2
   have aH:∀y∈(g::oA (Value.slice A ts.length c).ownBlock),y<W.heap.size:=K9;have aC:Ps B g m 0 100 (g::oA (Value.slice A ts.length c).ownBlock) (λw=>Bk w R0 150 #[n_]) (λw=>lC hV b1 4 N w A c ts) W false W:=⟨hd,⟨l,hl0,o_,hm⟩,hR,λ_=>hL,F_ _ W,λa b h h2=>h2.gr h (λhm=>by rcases L_.1 hm with h|h;omega;have:=d3 _ h;omega),λa b h h2=>h2.iy h p_,s_,o_⟩;refine pT (λf=>Ps B g m 0 100 (g::oA (Value.slice A ts.length c).ownBlock) (λw=>Bk w R0 150 #[n_]) (λw=>lC hV b1 4 N w A c ts) W (f 6)) (λ_ _=>True) (G2 6 [g] (g::oA (Value.slice A ts.length c).ownBlock)) [SU.mh _ (.slice A ts.length c),SU.mh _ (q_ m),(SU.tree aH (0)).uY (λ_ _ _ h=>h.gr cN),(SU.trees aH 2 1).uY (λ_ _ _ h=>h.gr cN),(SU.stmt aH (1) (1)).uY (λ_ _ _ h=>h.gr cN),(SU.of (λv w=>∃(x:Nat) (t:ST),v=.slice (j_ x) 1 1/\W.heap.size<=x/\Bk w x 229 t.g_/\jK (jE W.heap.size) w t/\SG hV 1 1 t) (λ_ _ _ hg⟨x,t,h1,h2,h3,au,aq⟩=>⟨x,t,h1,h2,h3.gr hg (λhm=>by have:=aH x hm;omega),au.ih hg (λy hy=>Fn.2 (aH y hy)),aq⟩)).uY (λ_ _ _ h=>h.gr cN),SU.zd [6] (λv w=>∃(av:OA) (ai:Nat) (us:List ST) (K:Nat),v=.slice av us.length ai/\lC hV b1 4 K w av ai us/\us.length<=8/\K<=N+1) (λi hi v w w' hg⟨av,ai,us,K,h1,h2,h3⟩=>⟨av,ai,us,K,h1,h2.iy (hg.ne (zu hi)) p_,h3⟩),SU.zd [6] (λv w=>∃(av:OA) (ai:Nat) (us:List ST) (K:Nat),v=.slice av us.length ai/\lC hV b1 4 K w av ai us/\us.length<=8/\K<=N+1) (λi hi v w w' hg⟨av,ai,us,K,h1,h2,h3⟩=>⟨av,ai,us,K,h1,h2.iy (hg.ne (zu hi)) p_,h3⟩)] (SU.anyI _) [[],[],[1],[2],[3],[4],[0,5],[6]] false [(some 17,0),(some 18,1),(some 19,2),(some 20,3),(some 21,4),(some 22,5),(some 23,6),(some 4,7)] k_ k_ (λ_ _ _ _ _ h=>h) k_ rfl rfl k_ aC ⟨?_,?_,?_,?_,?_,?_,?_,?_,trivial⟩ ?_
   .exact J2
   .exact J2
   .refine je [(some 18,1)] ?_;intro f vs Q hf C J K H;obtain⟨o, -⟩:=J;replace o:_=_:=o
    try simp only[b_,o]at H |-
    obtain⟨cX,er,ez,cC⟩:=C.lf;go_simp
    go_at_call 140
    refine(kC B g m cX 0 0 0 o_ _ rfl _ C.d cC hBm).mono ?_;exact Kr
   .refine je [(some 19,2)] ?_;exact HY
   .refine je [(some 20,3)] ?_;exact HH
   .refine je [(some 21,4)] ?_;exact Ie
   .refine je [(some 17,0),(some 22,5)] ?_;intro f vs Q hf C J K H;obtain⟨o,⟨aN,tb,ap,cD,bB,ak,d⟩, -⟩:=J;replace o:_=_:=o
    try simp only[b_,o,ap]at H |-
    have cg:=C.l hf;have fb:=C.hz;refine iW k_ ?_;refine oE _ _ _ rfl b1 229 i1 _ 8 128 underlying211 bM ca ce cp rfl d_ d_ A ts.length c (ts.flatMap ST.E) r_ cg.own _ 1 1 ([tb].flatMap ST.E) r_ (q0 tb bB) (kX _) o_ o_ ?_;intro av ai bq cj bC bw;have da:=cg.add (us:=[tb]) cj bC bw (λu hu=>by have:u=tb:=(zu hu);subst this;exact ak.imp (λy hy=>⟨by have:W.heap.size<=y:=hy;omega,λhe=>by have h1:=eT y he;have:W.heap.size<=y:=hy;omega⟩)) (d.mono o_);exact H.out (.slice av (ts.length+1) ai) _ (C.app (Gr.iX bC) eD (λy hy=>by simp[hy])) ((Gr.iX bC).mono (by intro y hy;simp[hy])) ⟨av,ai,ts++[tb],N+1,s_,by simpa using da,p_,H_ _⟩
   .refine je [(some 23,6)] ?_;intro f vs Q hf C J K H;obtain⟨⟨fV,f0,ta,eu,o,fY,cH⟩, -⟩:=J
    try simp only[b_,o]at H |-
    go_simp;exact H.out _ _ C (F_ _ _) ⟨fV,f0,ta,eu,rfl,fY,cH⟩
   rintro f vs bu hf⟨C,J⟩;obtain⟨aS,aJ,⟨af,aG,i2,bz⟩,⟨aj,t3,bQ,n3,du,b3,hq⟩,⟨t4,b4,fQ,dU⟩,⟨bP,t5,bS,dB,ev,g8,dL⟩,⟨aI,aF,g9,gK,dx,eL,eB⟩,⟨be,aZ,gJ,fZ,dW,fv,n7⟩, -⟩:=J;replace aS:vs 0=.slice A ts.length c:=aS;replace aJ:vs 1=q_ m:=aJ;simp only[b_,aS,aJ,aG,bQ,b4,bS,dx,dW];clear aS aJ aG bQ b4 bS dx dW;clear hd hm hR hL aC;obtain⟨hd,⟨l',cu,d0,hm⟩,hR, -,G, -, -, -, -⟩:=C;have eH:=G_ a8 G.size;replace I:=I.hK G (by intro y hy;rcases L_.1 hy with h|h;left;simp[h];right;have:=d3 _ h;omega);go_wp2;go_meet;exact⟨be,aZ,gJ,fZ,l',rfl,fv,n7.1,ov n7.2,hm,hR,hd,I,eH⟩
  .have eA:decide (0<r)=false:=by simp[hr]
   go_wp2;go_meet;exact⟨A,c,ts,N,l,rfl,hL,o_,o_,hm,hR,hd,I,a8⟩
 case rest=>
  clear hd hm hR I a8 hL hl0 hl1 bt cV A c ts N l;obtain⟨A,c,ts,e0,l,rfl,hL,iM,dY,hm,hR,hd,I,eH⟩:=hcut;obtain⟨T,dz⟩:=nm_ wc;rw[<-dz]at hL hm hR hd I eH |-;clear dz;obtain⟨n0,hn0⟩:=nm_ ts.length;have aW:=h_ hn0;have cG:=hL.own;have gy:=eH;rw[<-hn0]at cG iM |-;clear hn0
  go_upto_region 6 with(first|(go_at_call 142;refine(kG T.heap.size oZ (eNew 3) T (H_ _) (kk.leaf _ _ _ _ _ _)).mono ?_;rintro e Y⟨As,rfl,cn,ah⟩;simp only[iZ,ST.ip])|(at_builtin;refine j4 rfl _ _ _ rfl Y.heap.size 229 i1 _ 8 128 underlying211 bM ca ce cp rfl d_ d_ (j_ Y.heap.size) 1 1 _ rfl (sT (n:=1) (s:=8) (P_ Y 229 (iZ oZ As (eNew 3)).g_) rfl (H_ _) d_) A n0 c (ts.flatMap ST.E) rfl (((Sl.iT cG).hG ah).alloc _) (kX _) o_ s_ ?_;intro aI aF ax cr ey dk;have eL:=Al cn ah hL aW.out cr ey dk (H_ _) gy)|(go_at_call 141;go_loud (refine(ul b1 4 (1+e0) aI (1+n0) aF ([iZ oZ As (eNew 3)]++ts) (j_ ax.heap.size) 3 9 _ (by have:=aW.out;simp;omega) (BD (eL.iy ((F_ [] ax).alloc (.cells #[.string {data:=#[105]},.string {data:=#[106]},.string {data:=#[107]}] 9)) s_) aW.out) o_ (λu hu=>(eL.iy ((F_ [] ax).alloc (.cells #[.string {data:=#[105]},.string {data:=#[106]},.string {data:=#[107]}] 9)) s_).from u hu) eL.sg (by have h1:=(Gr.iX ey).size;have h2:=ah.size;simp at h1 |-;omega) (jj (n:=3) (s:=1) (P_ ax 9 #[.string {data:=#[105]},.string {data:=#[106]},.string {data:=#[107]}]) rfl)).mono ?_;rintro e bq⟨b9,cq,ss,rfl,ea,eE,e8,br,eW,dT⟩;obtain⟨cI,d9⟩:=nm_ (ss++([iZ oZ As (eNew 3)]++ts));rw[<-d9]at ea dT;rw[<-d9];have c7:=h_ d9;obtain⟨cY,dG⟩:=nm_ cI.length;have et:=h_ dG;rw[<-dG];clear d9 dG)))
  have eS:Gr [] T (bq.alloc (.cells #[.string vD,n_,.slice b9 cY cq] 213)):=by
   have h1:=(ah.alloc _).hK (Gr.iX ey) (λx hx=>by have:=jJ.1 hx;simp[Value.ownBlock]at this;have:=ah.size;right;omega);exact((h1.alloc _).trans br).alloc _
  have p:mE b1 (bq.alloc (.cells #[.string vD,n_,.slice b9 cY cq] 213)).heap.size bq.heap.size (bq.alloc (.cells #[.string vD,n_,.slice b9 cY cq] 213)):=by
   refine⟨b9,cq,cI,?_,(ea.iy ((F_ [] bq).alloc (.cells #[.string vD,n_,.slice b9 cY cq] 213)) s_).fin (H_ _),⟨ss,_,_,c7.out,eE,e8,ea.sg,o_,?_⟩,?_,s_⟩
   .rw[<-et.out];exact P_ bq 213 #[.string vD,n_,.slice b9 cY cq]
   .have bL:=by have:=ED List.length eE;simpa[hV]using this
    rw[c7.out];simp[bL]
    have:=aW.out
    omega
   .have:=br.size
    have:=hR.lt
    have:=ah.size
    have:=(Gr.iX ey).size
    simp at*;omega
  replace hm:=hm.hG eS;replace hd:=hd.hG eS;replace hR:=hR.hG eS;replace I:=I.trans (eS.mono s_);clear hL cG cr ey dk eL ea br eW dT c7 et eS cn ah eH eE e8;obtain⟨RM,d8⟩:=nm_ bq.heap.size;obtain⟨X,co⟩:=nm_ (bq.alloc (.cells #[.string vD,n_,.slice b9 cY cq] 213));rw[<-d8]at p |-;rw[show(bq.alloc (.cells #[.string {data:=#[109,97,105,110]},n_,.slice b9 cY cq] 213))=X from co.symm];rw[<-co]at p hm hd hR I;clear d8 co;obtain⟨H9,e3⟩:=nm_ X.heap.size;rw[<-e3]at p
  have g2:m<H9:=by rw[e3];exact hm.lt
  have aL:=hm.f_ 3;have z3:=hm.hH 3;have ad:=hm.f_ 1;have aM:=hm.hH 1
  go_upto_region 7 with fail
  clear aL z3 ad aM;have bO:Gr [m] X ((X.setCell (c_ m 3) (i_ 1)).setCell (c_ m 1) (i_ 3)):=((F_ [m] X).setCell (.inl s_) _).setCell (.inl s_) _;replace hm:Bk ((X.setCell (c_ m 3) (i_ 1)).setCell (c_ m 1) (i_ 3)) m 222 #[q_ g,i_ 3,i_ 0,i_ 1]:=(hm.hW 3 _).hW 1 _;replace hd:=hd.ih bO p_;replace hR:=hR.gr bO p_;replace p:=p.iy bO p_;replace I:=I.hK bO p_;have fa:=bO.size;rw[<-e3]at fa;obtain⟨aY,fP⟩:=nm_ ((X.setCell (c_ m 3) (i_ 1)).setCell (c_ m 1) (i_ 3));rw[<-fP]at hm hd hR p I fa |-;clear fP bO e3;obtain⟨W,aE⟩:=nm_ aY;rw[<-aE]at hd hm hR p I fa |-;clear aE;have aH:∀y∈[g],y<W.heap.size:=p_;have aC:Ps B g m 1 3 [g] (λw=>Bk w R0 150 #[n_]/\mE b1 H9 RM w) (λ_=>True) W true W:=⟨hd,⟨3,o_,o_,hm⟩,⟨hR,p⟩,(λh=>by cases h),F_ _ W,λa b h h2=>⟨h2.1.gr h p_,h2.2.iy h p_⟩,λ_ _ _ h=>h,s_,o_⟩;refine iN (Ps B g m 1 3 [g] (λw=>Bk w R0 150 #[n_]/\mE b1 H9 RM w) (λ_=>True) W true) (λvs X=>∃(RA:Nat) (t:ST),vs 12=q_ RA/\W.heap.size<=RA/\Bk X RA 229 t.g_/\jK (jE W.heap.size) X t/\SG ig 2 2 t/\iQ X B g/\Lf g m 0 1 3 X/\(Bk X R0 150 #[n_]/\mE b1 H9 RM X)/\Gr [g,RA] W X) (Gr [g]) [SU.sD ig aH (0),SU.sD ig aH (0),SU.sD ig aH (0+1),SU.zB ig aH 2 1,SU.sD ig aH (0),SU.sD ig aH (0),SU.sD ig aH (0),SU.sD ig aH (0+1),SU.zB ig aH 2 2,SU.of (λv w=>∃t:ST,v=.agg t.g_/\jK (jE W.heap.size) w t/\SG ig 1 1 t/\t.h6=3/\t.bs=[]/\t.ls=[]) (λ_ _ _ hg⟨t,h1,h2,h3⟩=>⟨t,h1,h2.ih hg (λx hx=>Fn.2 (aH x hx)),h3⟩),SU.of (λv w=>∃(y:Nat) (t:ST),v=.slice (j_ y) 1 1/\W.heap.size<=y/\Bk w y 229 t.g_/\jK (jE W.heap.size) w t/\SG ig 1 1 t/\t.h6=3/\t.bs=[]/\t.ls=[]) (λ_ _ _ hg⟨y,t,h0,h1,h2,h3,au⟩=>⟨y,t,h0,h1,h2.gr hg (λhm=>by have:=aH y hm;omega),h3.ih hg (λx hx=>Fn.2 (aH x hx)),au⟩),SU.of (λv w=>∃(x y:Nat) (t3:List ET) (t:ST),v=.agg #[i_ 4,.string i4,.string i4,i_ 0,i_ 0,.slice (j_ x) 1 1,.slice (j_ y) 1 1,n_]/\t3.length=1/\W.heap.size<=x/\Sl w 226 5 (j_ x) 1 (t3.flatMap ET.E)/\(∀u∈t3,kk (jE W.heap.size) w u/\EG ig 2 u)/\W.heap.size<=y/\Bk w y 229 t.g_/\jK (jE W.heap.size) w t/\SG ig 1 1 t/\t.h6=3/\t.bs=[]/\t.ls=[]) (λ_ _ _ hg⟨x,y,t3,t,h0,h1,h2,h3,au,aq,aU,bG,bL⟩=>⟨x,y,t3,t,h0,h1,h2,h3.iy λz off hA hx=>hg.block z hx (λhm=>by injection hA with hA;injection hA with hA;have:=aH z hm;omega),λu hu=>⟨(au u hu).1.ih hg (λx hx=>Fn.2 (aH x hx)),(au u hu).2⟩,aq,aU.gr hg (λhm=>by have:=aH y hm;omega),bG.ih hg (λx hx=>Fn.2 (aH x hx)),bL⟩),SU.of (λv w=>∃R,v=q_ R/\W.heap.size<=R/\Bk w R 229 #[i_ 0,.string i4,.string i4,i_ 0,i_ 0,n_,n_,n_]) (λ_ _ _ hg⟨x,h2,h3,au⟩=>⟨x,h2,h3,au.gr hg (λhm=>by have:=aH x hm;omega)⟩),SU.any _] (SU.any _) [[],[],[0,1],[2],[],[],[],[5,6],[4,7],[8],[9],[3,10],[],[12,11]] true [(some 38,0),(some 39,1),(some 40,2),(some 41,3),(some 42,4),(some 43,5),(some 44,6),(some 45,7),(some 46,8),(some 47,9),(some 48,10),(some 49,11),(some 6,12),(none,13)] k_ k_ (λ_ _ _ _ _ h=>h) k_ rfl rfl k_ aC ⟨?_,?_,?_,?_,?_,?_,?_,?_,?_,?_,?_,?_,?_,?_,trivial⟩ ?_
  .refine hT [] ?_;intro vs Q C J K H;clear J
   try simp only[b_]at H |-
   go_simp
   go_at_call 144
   refine(j7 _ _).mono ?_;rintro e w1⟨rfl,hg1⟩;exact H.out _ _ (C.hG hg1) (hg1.mono s_) ⟨jy 0,rfl,kk.leaf _ _ _ _ _ _,.num _ _ o_ o_⟩
  .exact IB
  .refine hT [(some 38,0),(some 39,1)] ?_;intro vs Q C J K H;exact Io
  .refine hT [(some 40,2)] ?_;intro vs Q C J K H;exact H4
  .refine hT [] ?_;intro vs Q C J K H;clear J
   try simp only[b_]at H |-
   go_simp
   go_at_call 145
   refine(ka _ _).mono ?_;rintro e w1⟨rfl,hg1⟩;exact H.out _ _ (C.hG hg1) (hg1.mono s_) ⟨jA vE,rfl,kk.leaf _ _ _ _ _ _,.var _ _ (by simp[ig,hV])⟩
  .exact IB
  .refine hT [] ?_;intro vs Q C J K H;exact IV
  .refine hT [(some 43,5),(some 44,6)] ?_;intro vs Q C J K H;obtain⟨⟨ta,o,V,E⟩,⟨tb,ap,ak,d⟩, -⟩:=J
   try simp only[b_,o,ap]at H |-
   go_simp
   go_at_call 143
   refine(ot W.heap.size 2 ta tb _ C.hz V ak).mono ?_;rintro e w1⟨A,rfl,O,hg1⟩;exact H.out _ _ (C.hG hg1) (hg1.mono s_) ⟨pR 2 A ta tb,rfl,O,.bin 0 _ _ _ _ o_ o_ (E.mono o_) (d.mono o_)⟩
  .refine hT [(some 42,4),(some 45,7)] ?_;intro vs Q C J K H;obtain⟨⟨ta,o,V,E⟩,⟨tb,ap,ak,d⟩, -⟩:=J
   try simp only[b_,o,ap]at H |-
   obtain⟨bA,bE,bF,bW,bX,bY,bZ⟩:=ta;obtain⟨eb,ed,ef,eg,eh,ei,ej⟩:=tb;simp only[ET.ip]at H |-;go_simp;refine H.out _ _ (C.hG ((F_ [] _).alloc _)) ((F_ _ _).alloc _) ⟨_,[ET.mk bA bE bF bW bX bY bZ,ET.mk eb ed ef eg eh ei ej],rfl,rfl,C.hz,sK (ET.mk bA bE bF bW bX bY bZ) (ET.mk eb ed ef eg eh ei ej) (P_ _ _ _),?_⟩;exact I7
  .refine hT [(some 46,8)] ?_;intro vs Q C J K H;obtain⟨⟨aX,ta,o,cH,bi,a6,c3⟩, -⟩:=J
   try simp only[b_,o]at H |-
   go_simp;refine H.out _ _ C (F_ _ _) ⟨(lI 3 uJ pQ 0 0 (j_ aX) ta.length ta),?_,jK.es _ _ _ _ _ (by rw[cH];exact a6) bi (λu hu=>(c3 u hu).1),SG.leaf (t:=(lI 3 uJ pQ 0 0 (j_ aX) ta.length ta)) (by show mP _ 3 uJ pQ 0 0 ta.length _ _;rw[cH];exact .v2 _ (by simp[ig,hV])) rfl rfl (λu hu=>(c3 u hu).2),rfl,rfl,rfl⟩
   show Value.agg _=Value.agg (lI 3 uJ pQ 0 0 (j_ aX) ta.length ta).g_
   simp only[lI,ST.ip,cH]
   rfl
  .refine hT [(some 47,9)] ?_;intro vs Q C J K H;obtain⟨⟨ta,o,V,E,f3⟩, -⟩:=J
   try simp only[b_,o]at H |-
   obtain⟨s1,b0,cv,dm,b7,bR,ck,dn,cF,bo,sb,sc,dH,dI⟩:=ta;simp only[ST.ip]at H |-;go_simp;exact H.out _ _ (C.hG ((F_ [] _).alloc _)) ((F_ _ _).alloc _) ⟨_,ST.mk s1 b0 cv dm b7 bR ck dn cF bo sb sc dH dI,rfl,C.hz,P_ _ _ _,V.hG ((F_ [] _).alloc _),E,f3⟩
  .refine hT [(some 41,3),(some 48,10)] ?_;intro vs Q C J K H;obtain⟨⟨aX,ta,o,cH,bi,a6,c3⟩,⟨dq,tb,ap,cD,bB,ak,d⟩, -⟩:=J
   try simp only[b_,o,ap]at H |-
   go_simp;exact H.out _ _ C (F_ _ _) ⟨aX,dq,ta,tb,rfl,cH,bi,a6,c3,cD,bB,ak,d⟩
  .refine hT [] ?_;intro vs Q C J K H;clear J
   try simp only[b_]at H |-
   go_simp;exact H.out _ _ (C.hG ((F_ [] _).alloc _)) ((F_ _ _).alloc _) ⟨_,rfl,C.hz,P_ _ _ _⟩
  .refine ju [(some 6,12),(some 49,11)] ?_;intro vs Q C J K H;obtain⟨⟨aX,o,bi,a6⟩,⟨aN,dq,sb,tb,ap,nb,cD,bB,cR,di,cZ,ak,d,fe⟩, -⟩:=J
   try simp only[b_,o,ap]at H |-
   have g5:dq≠aX:=by
    intro he;subst he;have h1:Q.heap[dq]?=_:=cZ;have h2:Q.heap[dq]?=_:=a6;rw[h1]at h2;have h3:=fe.1;obtain⟨s1,b0,cv,dm,b7,bR,ck,dn,cF,bo,sb,sc,dH,dI⟩:=tb;simp only[ST.ip]at h2;simp at h2;have au:s1=3:=h3;omega
   have g3:=bB.ze d_ a6 d_;refine iW k_ ?_;refine ij 229 _ _ rfl aX r_ #[i_ 4,.string i4,.string i4,i_ 0,i_ 0,.slice (j_ aN) 1 1,.slice (j_ dq) 1 1,n_] r_ 229 _ a6 rfl k_ (by simp[Value.oneCell']) ?_;intro X aw G;refine H.out undef _ (λ_=>⟨aX,ST.mk 4 i4 i4 0 0 (j_ aN) 1 sb (j_ dq) 1 [tb] none 0 [],o,bi,?_,?_,?_,C.d.ih G p_,C.lf.gr G p_,⟨C.f.1.gr G p_,C.f.2.iy G p_⟩,(C.gr.mono s_).trans (G.mono s_)⟩)
   .simp only[ST.ip,nb];exact aw
   .refine jK.mk _ (by rw[show((ST.mk 4 i4 i4 0 0 (j_ aN) 1 sb (j_ dq) 1 [tb] none 0 []).es.length)=1 from nb];exact bB.iy λz off hA hx=>G.block z hx (λhm=>by injection hA with hA;injection hA with hA;simp at hm;omega)) (Nat.le_of_eq nb) (λz off h _=>by injection h with h;injection h with h;omega) (λu hu=>(((cR u hu).1.ze a6 d_).ih G (by intro z hz hp;simp at hz;exact hp.2 hz)).imp λ_ hp=>hp.1) ((q0 tb cZ).iy λz off hA hx=>G.block z hx (λhm=>by injection hA with hA;injection hA with hA;simp at hm;omega)) (H_ _) (λz off h _=>by injection h with h;injection h with h;omega) ?_ (Fm _ _ _ _) (H_ _) (λ_ _ h _=>by cases h) (λu hu=>by cases hu);intro u hu
    have:u=tb:=I_.1 hu
    subst this
    exact((ak.Eu fe.2.1 fe.2.2 a6 d_).ih G (by intro z hz hp;simp at hz;exact hp.2 hz)).imp λ_ hp=>hp.1
   .exact SG.node (nb:=1) (nl:=0) (t:=ST.mk 4 i4 i4 0 0 (j_ aN) 1 sb (j_ dq) 1 [tb] none 0 []) (by show mP _ 4 i4 i4 0 0 sb.length true true;rw[nb];exact .C7) (λu hu=>(cR u hu).2) d (.nil _)
  intro vs bu C;simp only[b_];clear hd hm hR p aC;obtain⟨RA,tA,fy,gL,hA,em,fL,hd,dK,⟨hR,p⟩,G⟩:=C;rw[fy];clear fy;replace I:=I.hK G p_;have e9:=G_ fa G.size
  go_upto_region 8 with fail
  have gV:b1<=H9:=by obtain⟨_,_,_,_,_,_,h1,h2⟩:=p;omega
  replace em:=em.lt.imp (q:=λx=>b1<=x/\x<bu.heap.size) (λx hx=>⟨by have:W.heap.size<=x:=hx.1;omega,hx.2⟩);have gQ:b1<=RA:=o_;obtain⟨W,aE⟩:=nm_ bu;rw[<-aE]at hd dK hR p hA em I e9 |-;clear aE;obtain⟨HA,e4⟩:=nm_ W.heap.size
  have gP:RA<HA:=by rw[e4];exact hA.lt
  rw[<-e4]at em e9;have eP:=aH;clear aH;have aH:∀y∈[g,m],y<HA:=p_;have eU:g<B/\B<=m/\R0<m/\g<R0/\m<b1/\b1<=HA/\H9<=HA/\RA<HA/\b1<=RA/\W.heap.size=HA:=⟨o_,o_,o_,o_,o_,o_,o_,o_,o_,e4.symm⟩;have b6:=(F_ [] W).drew
  obtain⟨s1,b0,cv,dm,b7,bR,ck,dn,cF,bo,sb,sc,dH,dI,fH⟩:∃s1 b0 cv dm b7 bR ck dn cF bo sb sc dH dI,tA=ST.mk s1 b0 cv dm b7 bR ck dn cF bo sb sc dH dI:=by
   cases tA
   exact⟨_,_,_,_,_,_,_,_,_,_,_,_,_,_,rfl⟩
  have fd:=h_ fH;clear fH e4
  have aC:∀vs,sn B g m R0 b1 H9 RM RA HA tA W (λ_=>false) vs W.drew:=λvs=>⟨hd.hG b6,dK.gr b6 s_,hR.hG b6,p.iy b6 s_,hA.hG b6,em.hG b6,(λ_ _ _ _ h=>by cases h),(λh=>by cases h),(λh=>by cases h),(λh=>by cases h),(λh=>h),b6.mono s_,eU⟩
  refine nY (λf vs=>sn B g m R0 b1 H9 RM RA HA tA W f vs) (λvs X=>∃(c8 x:Nat) (A:OA) (c:Nat) (us:List ST) (K:Nat),vs 21=q_ c8/\HA<=c8/\Bk X c8 213 #[.string pQ,.slice (j_ x) 2 2,.slice A us.length c]/\HA<=x/\Bk X x 9 #[.string {data:=#[112]},.string {data:=#[110]}]/\lC ig b1 5 K X A c us/\(K<=15/\us.length<=11/\FG us/\∀y,(Value.slice A us.length c).ownBlock=some y->HA<=y)/\iQ X B g/\Lf g m 0 1 3 X/\Bk X R0 150 #[n_]/\mE b1 H9 RM X/\Gr [g,m] W X/\True) (G8 g m HA) [SU.zd [] (λv w=>∃x,v=.slice (j_ x) 2 2/\HA<=x/\Bk w x 9 #[.string {data:=#[112]},.string {data:=#[110]}]) (λ_ _ _ _ _ hg⟨x,h1,h2,h3⟩=>⟨x,h1,h2,hg.bk h3 d_ o_ o_⟩),SU.mh _ (.agg (jy 1).g_),SU.anyI _,SU.mh _ (.agg (jy 0).g_),SU.anyI _,SU.mh _ (.agg (jy 2).g_),SU.anyI _,SU.mh _ (.agg (jA oZ).g_),SU.anyI _,SU.mh _ (.agg (jy 0).g_),SU.anyI _,SU.mh _ (.agg (jy 0).g_),SU.anyI _,SU.mh _ (.agg (jy 0).g_),SU.anyI _,SU.mh _ (.agg tA.g_),SU.anyI _,SU.mh _ (q_ m),SU.anyI _,SU.zd [19] (λv w=>∃(A:OA) (c:Nat) (us:List ST) (K:Nat),v=.slice A us.length c/\lC ig b1 5 K w A c us/\K<=15/\us.length<=11/\FG us/\∀y,(Value.slice A us.length c).ownBlock=some y->HA<=y) (λi hi v w w' hg⟨A,c,us,K,h1,h2,h3⟩=>⟨A,c,us,K,h1,h2.iy (hg.gr hi) p_,h3⟩),SU.zd [19] (λv w=>∃(x:Nat) (A:OA) (c:Nat) (us:List ST) (K:Nat),v=.agg #[.string pQ,.slice (j_ x) 2 2,.slice A us.length c]/\HA<=x/\Bk w x 9 #[.string {data:=#[112]},.string {data:=#[110]}]/\lC ig b1 5 K w A c us/\K<=15/\us.length<=11/\FG us/\∀y,(Value.slice A us.length c).ownBlock=some y->HA<=y) (λi hi v w w' hg⟨x,A,c,us,K,h1,h0,hx,h2,h3⟩=>⟨x,A,c,us,K,h1,h0,hg.bk hx d_ o_ o_,h2.iy (hg.gr hi) p_,h3⟩),SU.zd [] (λv w=>∃R,v=q_ R/\HA<=R/\Bk w R 213 #[.string i4,n_,n_]) (λ_ _ _ _ _ hg⟨x,h1,h2,h3⟩=>⟨x,h1,h2,hg.bk h3 d_ o_ o_⟩),SU.anyI _] (SU.anyI _) [[],[],[1],[],[3],[],[5],[],[7],[],[9],[],[11],[],[13],[],[2,4,6,8,10,12,14,15],[],[17],[16,18],[0,19],[],[21,20]] true [(some 50,0),(some 51,1),(some 52,2),(some 53,3),(some 54,4),(some 55,5),(some 56,6),(some 57,7),(some 58,8),(some 59,9),(some 60,10),(some 61,11),(some 62,12),(some 63,13),(some 64,14),(some 65,15),(some 66,16),(some 67,17),(some 68,18),(some 69,19),(some 70,20),(some 7,21),(none,22)] k_ k_ k_ (λ_ _ _ _ _ h=>h) k_ rfl rfl k_ aC ⟨?_,?_,?_,?_,?_,?_,?_,?_,?_,?_,?_,?_,?_,?_,?_,?_,?_,?_,?_,?_,?_,?_,?_,trivial⟩ ?_
  .exact I2
  .refine jP [] ?_;intro f vs Q hf hp C J K H;clear J
   try simp only[b_]at H |-
   go_simp
   go_at_call 144
   refine(j7 1 _).mono ?_;exact K5
  .refine jP [(some 51,1)] ?_;intro f vs Q hf hp C J K H;obtain⟨o, -⟩:=J;replace o:_=_:=o
   try simp only[b_,o]at H |-
   go_simp
   go_at_call 142
   refine(kG HA vE (jy 1) _ C.hz (kk.leaf _ _ _ _ _ _)).mono ?_;rintro e w1⟨A,rfl,O,hg1⟩;exact H.out _ _ (C.xy (x:=vE) (by simp[mL]) (by intro y hy;simp[mL]at hy;exact hy) hg1 ⟨A,jy 1,rfl,O,SG.leaf (t:=iZ vE A (jy 1)) (.uU _ (show vE∈ig by simp[ig,hV])) rfl rfl (by intro u hu;rcases L_.1 hu with rfl|hu;exact .num _ _ o_ o_;cases hu)⟩) (G8.jC d_ hg1) trivial
  .exact IT
  .refine jP [(some 53,3)] ?_;intro f vs Q hf hp C J K H;obtain⟨o, -⟩:=J;replace o:_=_:=o
   try simp only[b_,o]at H |-
   go_simp
   go_at_call 142
   refine(kG HA uJ (jy 0) _ C.hz (kk.leaf _ _ _ _ _ _)).mono ?_;rintro e w1⟨A,rfl,O,hg1⟩;exact H.out _ _ (C.xy (x:=uJ) (by simp[mL]) (by intro y hy;simp[mL]at hy;exact hy) hg1 ⟨A,jy 0,rfl,O,SG.leaf (t:=iZ uJ A (jy 0)) (.uU _ (show uJ∈ig by simp[ig,hV])) rfl rfl (by intro u hu;rcases L_.1 hu with rfl|hu;exact .num _ _ o_ o_;cases hu)⟩) (G8.jC d_ hg1) trivial
  .refine jP [] ?_;intro f vs Q hf hp C J K H;clear J
   try simp only[b_]at H |-
   go_simp
   go_at_call 144
   refine(j7 2 _).mono ?_;exact K5
  .refine jP [(some 55,5)] ?_;intro f vs Q hf hp C J K H;obtain⟨o, -⟩:=J;replace o:_=_:=o
   try simp only[b_,o]at H |-
   go_simp
   go_at_call 142
   refine(kG HA u0 (jy 2) _ C.hz (kk.leaf _ _ _ _ _ _)).mono ?_;rintro e w1⟨A,rfl,O,hg1⟩;exact H.out _ _ (C.xy (x:=u0) (by simp[mL]) (by intro y hy;simp[mL]at hy;exact hy) hg1 ⟨A,jy 2,rfl,O,SG.leaf (t:=iZ u0 A (jy 2)) (.uU _ (show u0∈ig by simp[ig,hV])) rfl rfl (by intro u hu;rcases L_.1 hu with rfl|hu;exact .num _ _ o_ o_;cases hu)⟩) (G8.jC d_ hg1) trivial
  .refine jP [] ?_;intro f vs Q hf hp C J K H;clear J
   try simp only[b_]at H |-
   go_simp
   go_at_call 145
   refine(ka oZ _).mono ?_;exact K5
  .refine jP [(some 57,7)] ?_;intro f vs Q hf hp C J K H;obtain⟨o, -⟩:=J;replace o:_=_:=o
   try simp only[b_,o]at H |-
   go_simp
   go_at_call 142
   refine(kG HA mR (jA oZ) _ C.hz (kk.leaf _ _ _ _ _ _)).mono ?_;rintro e w1⟨A,rfl,O,hg1⟩;exact H.out _ _ (C.xy (x:=mR) (by simp[mL]) (by intro y hy;simp[mL]at hy;exact hy) hg1 ⟨A,jA oZ,rfl,O,SG.leaf (t:=iZ mR A (jA oZ)) (.uU _ (show mR∈ig by simp[ig,hV])) rfl rfl (by intro u hu;rcases L_.1 hu with rfl|hu;exact .var _ _ (by simp[ig,hV]);cases hu)⟩) (G8.jC d_ hg1) trivial
  .exact IT
  .refine jP [(some 59,9)] ?_;intro f vs Q hf hp C J K H;obtain⟨o, -⟩:=J;replace o:_=_:=o
   try simp only[b_,o]at H |-
   go_simp
   go_at_call 142
   refine(kG HA oB (jy 0) _ C.hz (kk.leaf _ _ _ _ _ _)).mono ?_;rintro e w1⟨A,rfl,O,hg1⟩;exact H.out _ _ (C.xy (x:=oB) (by simp[mL]) (by intro y hy;simp[mL]at hy;exact hy) hg1 ⟨A,jy 0,rfl,O,SG.leaf (t:=iZ oB A (jy 0)) (.uU _ (show oB∈ig by simp[ig,hV])) rfl rfl (by intro u hu;rcases L_.1 hu with rfl|hu;exact .num _ _ o_ o_;cases hu)⟩) (G8.jC d_ hg1) trivial
  .exact IT
  .refine jP [(some 61,11)] ?_;intro f vs Q hf hp C J K H;obtain⟨o, -⟩:=J;replace o:_=_:=o
   try simp only[b_,o]at H |-
   go_simp
   go_at_call 142
   refine(kG HA w8 (jy 0) _ C.hz (kk.leaf _ _ _ _ _ _)).mono ?_;rintro e w1⟨A,rfl,O,hg1⟩;exact H.out _ _ (C.xy (x:=w8) (by simp[mL]) (by intro y hy;simp[mL]at hy;exact hy) hg1 ⟨A,jy 0,rfl,O,SG.leaf (t:=iZ w8 A (jy 0)) (.uU _ (show w8∈ig by simp[ig,hV])) rfl rfl (by intro u hu;rcases L_.1 hu with rfl|hu;exact .num _ _ o_ o_;cases hu)⟩) (G8.jC d_ hg1) trivial
  .exact IT
  .refine jP [(some 63,13)] ?_;intro f vs Q hf hp C J K H;obtain⟨o, -⟩:=J;replace o:_=_:=o
   try simp only[b_,o]at H |-
   go_simp
   go_at_call 142
   refine(kG HA w7 (jy 0) _ C.hz (kk.leaf _ _ _ _ _ _)).mono ?_;rintro e w1⟨A,rfl,O,hg1⟩;exact H.out _ _ (C.xy (x:=w7) (by simp[mL]) (by intro y hy;simp[mL]at hy;exact hy) hg1 ⟨A,jy 0,rfl,O,SG.leaf (t:=iZ w7 A (jy 0)) (.uU _ (show w7∈ig by simp[ig,hV])) rfl rfl (by intro u hu;rcases L_.1 hu with rfl|hu;exact .num _ _ o_ o_;cases hu)⟩) (G8.jC d_ hg1) trivial
  .refine jP [] ?_;intro f vs Q hf hp C J K H;clear J
   try simp only[b_]at H |-
   refine iW k_ ?_;refine oD 229 _ rfl RA 0 r_ 229 tA.g_ tA.g_ C.a (λj _=>by rw[U_]) _ underlying229 rfl k_ ?_;exact H.out _ _ (C.rU d_ (F_ [] _)) (G8.jC d_ (F_ [] _)) rfl
  .refine jP [(some 52,2),(some 54,4),(some 56,6),(some 58,8),(some 60,10),(some 62,12),(some 64,14),(some 65,15)] ?_;intro f vs Q hf hp C J K H;obtain⟨-, -, -, -, -, -, -,d7, -⟩:=J;replace d7:_=_:=d7
   try simp only[b_,d7]at H |-
   have U:f 19=false:=by
    cases h:f 19 with
    |false=>rfl
    |true=>rw[C.DK h]at hf;cases hf
   obtain⟨av,eX,aG,i2,bz⟩:=C.oN U 2 vE (by simp[mL]) (hp 2 d_);obtain⟨aO,fT,b4,fQ,dU⟩:=C.oN U 4 uJ (by simp[mL]) (hp 4 d_);obtain⟨aI,fU,dx,gF,dM⟩:=C.oN U 6 u0 (by simp[mL]) (hp 6 d_);obtain⟨b9,u8,dX,gG,dN⟩:=C.oN U 8 mR (by simp[mL]) (hp 8 d_);obtain⟨dg,eC,e10,gC,fk⟩:=C.oN U 10 oB (by simp[mL]) (hp 10 d_);obtain⟨fq,fR,f1,gD,gH⟩:=C.oN U 12 w8 (by simp[mL]) (hp 12 d_);obtain⟨ft,fS,f2,gE,gI⟩:=C.oN U 14 w7 (by simp[mL]) (hp 14 d_);have fI:=C.ta;rw[fd.out]at fI fL
   have ew:tA.g_=(ST.mk s1 b0 cv dm b7 bR ck dn cF bo sb sc dH dI).g_:=by rw[fd.out]
   simp only[aG,b4,dx,dX,e10,f1,f2]at H |-;simp only[iZ,ST.ip,ew]at H |-;go_simp;have cU:b1<=HA:=o_;refine H.out _ _ (C.D1 hf ((F_ [] _).alloc _) (us:=[iZ vE av eX,iZ uJ aO fT,iZ u0 aI fU,iZ mR b9 u8,iZ oB dg eC,iZ w8 fq fR,iZ w7 ft fS,tA]) rfl rfl ?_ ?_) (G8.jC d_ ((F_ [] _).alloc _)) trivial
   .refine⟨[iZ vE av eX,iZ uJ aO fT,iZ u0 aI fU,iZ mR b9 u8,iZ oB dg eC,iZ w8 fq fR,iZ w7 ft fS],tA,rfl,rfl,?_⟩;intro s hs
    iterate 7 (rcases L_.1 hs with rfl|hs;exact rfl)
    cases hs
   .rw[fd.out];refine⟨oi (sT (n:=8) (s:=8) (P_ Q 229 _) rfl (H_ _) d_) (ov C.hz),?_,?_⟩
    .intro u hu
     rcases L_.1 hu with rfl|hu
     .exact i2.fresh (λx hx=>G_ cU hx)
     rcases L_.1 hu with rfl|hu
     .exact fQ.fresh (λx hx=>G_ cU hx)
     rcases L_.1 hu with rfl|hu
     .exact gF.fresh (λx hx=>G_ cU hx)
     rcases L_.1 hu with rfl|hu
     .exact gG.fresh (λx hx=>G_ cU hx)
     rcases L_.1 hu with rfl|hu
     .exact gC.fresh (λx hx=>G_ cU hx)
     rcases L_.1 hu with rfl|hu
     .exact gD.fresh (λx hx=>G_ cU hx)
     rcases L_.1 hu with rfl|hu
     .exact gE.fresh (λx hx=>G_ cU hx)
     rcases L_.1 hu with rfl|hu
     .exact fI.fresh (λx hx=>hx.1)
     .cases hu
    .exact(((((((bz.mono d_).append (dU.mono d_)).append (dM.mono d_)).append (dN.mono d_)).append (fk.mono d_)).append (gH.mono d_)).append (gI.mono d_)).append (fL.mono d_)
  .refine jP [] ?_;intro f vs Q hf hp C J K H;clear J
   try simp only[b_]at H |-
   go_simp;exact H.out _ _ (C.rU d_ (F_ [] _)) (G8.jC d_ (F_ [] _)) rfl
  .refine jP [(some 67,17)] ?_;intro f vs Q hf hp C J K H;obtain⟨o, -⟩:=J;replace o:_=_:=o
   try simp only[b_,o]at H |-
   obtain⟨cX,er,ez,cC⟩:=C.lf;go_simp
   go_at_call 139
   refine((s6 B g m 1).2 1 2 cX 0 _ rfl o_ o_ C.d cC hBm er o_ o_ s_).mono ?_;rintro e w1⟨A,c,ts,N,l,rfl,cV,cg,cu,d0,bt,cx,bK,aT⟩;exact H.out _ _ (C.D0 hf aT bK ⟨l,cu,o_,cx⟩ rfl o_ o_ cg) (by unfold G8;rw[Q_ d_,T_ d_];exact aT) trivial
  .refine jP [(some 66,16),(some 68,18)] ?_;intro f vs Q hf hp C J K H;obtain⟨-, -, -⟩:=J
   try simp only[b_]at H |-
   obtain⟨x,us,A,c,ts,N,dh,d1,ep,fD,eV,dC,ag,gO,fE,gm⟩:=C.hj (hp 16 d_) (hp 18 d_) hf;have fb:=C.hz;simp only[dh,dC]at H |-;have cj:=fD.own;rw[d1]at cj;refine iW k_ ?_;refine oE _ _ _ rfl b1 229 i1 _ 8 128 underlying211 bM ca ce cp rfl d_ d_ (j_ x) 8 8 (us.flatMap ST.E) r_ cj A ts.length c (ts.flatMap ST.E) r_ fE.sl (kX _) o_ o_ ?_;intro av ai bq db bC bw;have da:=fD.add (us:=ts) (A':=av) (c':=ai) (by rw[d1];exact db) (by rw[d1];exact bC) (by rw[d1];exact bw) (λu hu=>(gm u hu).imp (λy hy=>⟨hy.1,λhe=>by simp[Value.ownBlock]at he;exact hy.2 he.symm⟩)) ((fE.sg.sub (λs hs=>by simp[ig,hs])).mono o_);have aP:=Gr.iX bC
   have eQ:∀y∈oA (Value.slice (j_ x) 8 8).ownBlock,y=x:=λy hy=>by have:=jJ.1 hy;simp[Value.ownBlock]at this;exact this.symm
   refine H.out (.slice av (8+ts.length) ai) _ (C.DZ (hp 16 d_) (hp 18 d_) aP (λy hy=>by rw[eQ y hy];exact eV)) ?_ ⟨av,ai,us++ts,9+N,by rw[J_,d1],da,o_,by rw[J_,d1];omega,?_,?_⟩
   .unfold G8;rw[T_ d_];refine⟨_,aP,λy hy=>?_⟩;rw[eQ y hy];refine⟨eV,λt cs hk=>?_⟩
    rcases cj.2 with⟨hv,_⟩|⟨q,lW,cur,hv,_,ay,_⟩
    .cases hv
    .injection hv with hv;injection hv with hv;injection hv with hv;subst hv;have cW:Q.heap[x]?=_:=hk;rw[ay]at cW;simp at cW;exact cW.2.symm
   .obtain⟨ck,ek,hu,hn,hk⟩:=ep;exact⟨ck,ek,ts,by rw[hu];simp,hn,hk⟩
   .intro y hy;rw[J_,d1]at hy
    rcases bw with bw|bw
    .rw[bw]at hy;simp[Value.ownBlock]at hy;omega
    .rw[bw]at hy;injection hy with hy;omega
  .refine jP [(some 50,0),(some 69,19)] ?_;intro f vs Q hf hp C J K H;obtain⟨⟨aX,o,bi,a6⟩,⟨dw,cb,tb,eM,ap,dV,nb⟩, -⟩:=J
   try simp only[b_,o,ap]at H |-
   go_simp;exact H.out _ _ (C.rU d_ (F_ [] _)) (G8.jC d_ (F_ [] _)) ⟨aX,dw,cb,tb,eM,rfl,bi,a6,dV,nb⟩
  .exact I2
  .refine vp [(some 7,21),(some 70,20)] ?_;intro f vs Q hf hp C J K H;obtain⟨⟨aX,o,bi,a6⟩,⟨aN,dw,cb,tb,eM,ap,cD,bB,dV,nb⟩, -⟩:=J
   try simp only[b_,o,ap]at H |-
   have ao:=Bk.lZ bB a6 d_;refine iW k_ ?_;refine ij 213 _ _ rfl aX r_ #[.string pQ,.slice (j_ aN) 2 2,.slice dw tb.length cb] r_ 213 _ a6 rfl k_ (by simp[Value.oneCell']) ?_;intro X aw G;obtain⟨h1,h2,h3,au,aq⟩:=C.base G p_;exact H.out undef _ (λ_=>⟨aX,aN,dw,cb,tb,eM,o,bi,aw,cD,bB.gr G (zu ao),dV.Df a6 G,nb,C.d.ih G p_,C.lf.gr G p_,h1,h2,aq,trivial⟩)
  intro f vs bu hf C;simp only[b_];clear hd dK hR p hA em aC;obtain⟨c8,aB,cS,cM,k,eK,fA,gS,bT,g4,aK,c9,e2,hd,dK,hR,p,G, -⟩:=C;rw[fA];clear fA;replace I:=I.hK G p_;obtain⟨du,gZ,g0,hm⟩:=dK;clear G;have aL:=hm.f_ 3;have z3:=hm.hH 3;have ad:=hm.f_ 1;have aM:=hm.hH 1
  go_upto_region 10 with fail
  clear aL z3 ad aM;have bO:Gr [m] bu ((bu.setCell (c_ m 3) (i_ 2)).setCell (c_ m 1) (i_ 3)):=((F_ [m] bu).setCell (.inl s_) _).setCell (.inl s_) _;replace hm:Bk ((bu.setCell (c_ m 3) (i_ 2)).setCell (c_ m 1) (i_ 3)) m 222 #[q_ g,i_ 3,i_ 0,i_ 2]:=(hm.hW 3 _).hW 1 _;replace hd:=hd.ih bO p_;replace hR:=hR.gr bO p_;replace p:=p.iy bO p_;replace bT:=bT.gr bO p_;replace aK:=aK.gr bO p_;replace c9:=c9.iy bO p_;replace I:=I.hK bO p_;have gA:=bO.size;obtain⟨aR,de⟩:=nm_ ((bu.setCell (c_ m 3) (i_ 2)).setCell (c_ m 1) (i_ 3));rw[<-de]at hm hd hR p bT aK c9 I gA |-;clear de bO;have cO:=hd.hG ((F_ [] aR).alloc (.cells #[.string {data:=#[113]}] 9));have cA:=hm.alloc (.cells #[.string {data:=#[113]}] 9)
  have gu:∀y,(Value.slice cS k.length cM).ownBlock=some y->y<aR.heap.size:=λy hy=>(ku c9.own hy).2
  have gf:c8<aR.heap.size/\aB<aR.heap.size:=⟨bT.lt,aK.lt⟩;have g7:b1<=aR.heap.size:=ov bT.lt
  go_upto_region 11 with(first|(go_at_call 139;refine((s6 B g m 2).2 1 2 3 0 _ rfl o_ o_ cO cA hBm o_ o_ o_ s_).mono ?_;rintro e eI⟨A,c,ts,N,l,rfl,cV,cg,cu,d0,bt,cx,bK,aT⟩;obtain⟨n0,hn0⟩:=nm_ ts.length;have aW:=h_ hn0;rw[<-hn0];rw[<-hn0]at cV;clear hn0)|(go_at_call 141;go_loud (refine(ul aR.heap.size 2 N A n0 c ts (j_ eI.heap.size) 3 9 _ aW.out.symm (by rw[aW.out];exact(cg.iy ((F_ [] eI).alloc (.cells #[.string {data:=#[105]},.string {data:=#[106]},.string {data:=#[107]}] 9)) s_).sl) o_ (λu hu=>((cg.iy ((F_ [] eI).alloc (.cells #[.string {data:=#[105]},.string {data:=#[106]},.string {data:=#[107]}] 9)) s_).from u hu).le s_) cg.sg (by have:=aT.size;simp at this |-;omega) (jj (n:=3) (s:=1) (P_ eI 9 #[.string {data:=#[105]},.string {data:=#[106]},.string {data:=#[107]}]) rfl)).mono ?_;rintro e bq⟨b9,cq,ss,rfl,ea,eE,e8,br,eW,dT⟩;obtain⟨cI,d9⟩:=nm_ (ss++ts);rw[<-d9]at ea dT;rw[<-d9];have c7:=h_ d9;obtain⟨cY,dG⟩:=nm_ cI.length;have et:=h_ dG;rw[<-dG];clear d9 dG)))
  obtain⟨wc,d4⟩:=nm_ (bq.alloc (.cells #[.string pm,.slice (j_ aR.heap.size) 1 1,.slice b9 cY cq] 213))
  have bl:Gr [g,m] aR wc:=by rw[d4];exact(((((F_ [g,m] aR).alloc _).trans aT).alloc _).trans (br.mono s_)).alloc _
  have dZ:Gr [] eI wc:=by rw[d4];exact(((F_ [] eI).alloc _).trans br).alloc _
  replace hd:=bK.hG dZ;clear hm;have hm:=cx.hG dZ;replace hR:=hR.gr bl p_;replace p:=p.iy bl p_;replace bT:=bT.gr bl p_;replace aK:=aK.gr bl p_;replace c9:=c9.iy bl p_;replace I:=I.hK bl p_
  have dy:lC hV aR.heap.size 3 (8+N) wc b9 cq cI:=by rw[d4];exact ea.iy ((F_ [] bq).alloc _) s_
  have az:Bk wc aR.heap.size 9 #[.string mR]:=by rw[d4];exact(((P_ aR 9 #[.string mR]).gr aT p_).alloc _ |>.hG br).alloc _
  have cT:Bk wc bq.heap.size 213 #[.string pm,.slice (j_ aR.heap.size) 1 1,.slice b9 cY cq]:=by rw[d4];exact P_ bq 213 #[.string pm,.slice (j_ aR.heap.size) 1 1,.slice b9 cY cq]
  obtain⟨dJ,fg⟩:=nm_ bq.heap.size;obtain⟨xg,eG⟩:=nm_ aR.heap.size;have gY:b1<=xg:=o_
  have gW:xg<dJ:=by have:=br.size;have:=aT.size;simp at*;omega
  have g1:cY<=20:=by
   have bL:=by have:=ED List.length eE;simpa[hV]using this
   rw[et.out,c7.out,J_,bL,<-aW.out];omega
  have gN:N<=6:=o_;rw[<-fg,<-eG]at cT;rw[<-eG]at az dy
  have fM:∀y,(Value.slice cS k.length cM).ownBlock=some y->y<xg:=λy hy=>by rw[eG];exact gu y hy
  have gR:c8<xg/\aB<xg:=by rw[eG];exact gf
  rw[show bq.alloc (.cells #[.string {data:=#[103]},.slice (j_ aR.heap.size) 1 1,.slice b9 cY cq] 213)=wc from d4.symm,<-fg,<-eG];clear d4 bl dZ bK cx aT ea br eW dT cg fg eG cO cA;have f6:=c9;obtain⟨W,aE⟩:=nm_ wc;rw[<-aE]at hd hm hR p bT aK c9 I dy az cT |-;clear aE f6;have gk:xg<=W.heap.size:=ov cT.lt
  have aC:∀vs,qQ xg W (λ_=>false) vs W.drew:=λvs=>⟨(λ_ h=>by cases h),(λ_ h=>by cases h),(λh=>by cases h),(F_ [] W).drew⟩
  refine nY (λf vs=>qQ xg W f vs) (λvs X=>∃(A:OA) (c:Nat) (A1:OA),Bk X dJ 213 #[.string pm,.slice (j_ xg) 1 1,.slice A ([(iZ oB A1 (jA mR))]++cI).length c]/\lC hV xg 3 (1+(8+N)) X A c ([(iZ oB A1 (jA mR))]++cI)/\Gr [dJ] W X) (zi W.heap.size) [SU.mh _ (.agg (jA mR).g_),SU.anyI _,SU.anyI _,SU.mh _ (.pointer (some (c_ dJ 2))),SU.mh _ (.slice b9 cY cq),SU.zd [5] (λv w=>∃(A:OA) (c:Nat) (A1:OA),v=.slice A ([(iZ oB A1 (jA mR))]++cI).length c/\lC hV xg 3 (1+(8+N)) w A c ([(iZ oB A1 (jA mR))]++cI)) (λi hi v w w' hg⟨A,c,A1,h1,h2⟩=>⟨A,c,A1,h1,by unfold zi at hg;rw[Q_ (zu hi)]at hg;exact h2.iy hg s_⟩),SU.mh _ (.pointer (some (c_ dJ 2))),SU.anyI _] (SU.anyI _) [[],[0],[1],[],[3],[2,4],[],[6,5]] true [(some 83,0),(some 84,1),(some 85,2),(some 86,3),(some 87,4),(some 88,5),(some 89,6),(none,7)] k_ k_ k_ (λ_ _ _ _ _ h=>h) k_ rfl rfl k_ aC ⟨?_,?_,?_,?_,?_,?_,?_,?_,trivial⟩ ?_
  .refine jP [] ?_;intro f vs Q hf hp C J K H;clear J
   try simp only[b_]at H |-
   go_simp
   go_at_call 145
   refine(ka mR _).mono ?_;rintro e w1⟨rfl,hg1⟩;exact H.out _ _ (C.add d_ hg1) (zi.of d_ hg1) rfl
  .refine jP [(some 83,0)] ?_;intro f vs Q hf hp C J K H;obtain⟨o, -⟩:=J;replace o:_=_:=o
   try simp only[b_,o]at H |-
   go_simp
   go_at_call 142
   refine(kG W.heap.size oB (jA mR) _ C.gr.size (kk.leaf _ _ _ _ _ _)).mono ?_;rintro e w1⟨A,rfl,O,hg1⟩;exact H.out _ _ (C.pP hg1 ⟨A,rfl,O⟩) (zi.of d_ hg1) trivial
  .refine jP [(some 84,1)] ?_;intro f vs Q hf hp C J K H;obtain⟨-, -⟩:=J
   try simp only[b_]at H |-
   have aq:f 5=false:=by
    cases h:f 5 with
    |false=>rfl
    |true=>rw[C.o5 h]at hf;cases hf
   obtain⟨A1,aJ,gB⟩:=C.h1 aq (hp 1 d_);simp only[aJ]at H |-;simp only[iZ,ST.ip]at H |-;go_simp;refine H.out _ _ (C.EB ((F_ [] _).alloc _) ⟨Q.heap.size,A1,rfl,C.gr.size,?_⟩) (zi.of d_ ((F_ [] _).alloc _)) trivial;refine⟨oi (sT (n:=1) (s:=8) (P_ Q 229 (iZ oB A1 (jA mR)).g_) rfl (H_ _) d_) (ov C.gr.size),λu hu=>?_,SG.leaf (t:=(iZ oB A1 (jA mR))) (.uU _ (show oB∈hV by simp[hV])) rfl rfl (by intro u hu;rcases L_.1 hu with rfl|hu;exact .var _ _ (by simp[hV]);cases hu)⟩
   have:u=(iZ oB A1 (jA mR)):=I_.1 hu
   subst this;exact gB.fresh (λx hx=>G_ gk hx)
  .exact Jv
  .refine jP [(some 86,3)] ?_;intro f vs Q hf hp C J K H;obtain⟨o, -⟩:=J;replace o:_=_:=o
   try simp only[b_,o]at H |-
   obtain⟨aM,aV,hC,cK⟩:=id C;have ar:=(cT.hG cK).f_ 2;exact Li
  .refine jP [(some 85,2),(some 87,4)] ?_;intro f vs Q hf hp C J K H;obtain⟨-,ap, -⟩:=J;replace ap:_=_:=ap
   try simp only[b_,ap]at H |-
   obtain⟨P,A1,aG,ct,e5⟩:=C.h2 hf (hp 2 d_);have ga:=dy.iy C.gr s_;have fb:=C.gr.size;simp only[aG]at H |-;refine iW k_ ?_;refine oE _ _ _ rfl xg 229 i1 _ 8 128 underlying211 bM ca ce cp rfl d_ d_ (j_ P) 1 1 _ r_ e5.own b9 cY cq (cI.flatMap ST.E) r_ (by rw[et.out];exact ga.sl) (kX _) o_ o_ ?_;intro av ai X db bC bw;have dG:=et.out;have da:=e5.add (us:=cI) (A':=av) (c':=ai) (by rw[<-dG];exact db) bC (by rw[<-dG];exact bw) (λu hu=>((dy.js u hu).lt.imp (λy hy=>⟨hy.1.1,λhe=>by simp[Value.ownBlock]at he;have:=hy.2;omega⟩)).hG C.gr) (dy.sg);have aP:=Gr.iX bC
   have eQ:∀y∈oA (Value.slice (j_ P) 1 1).ownBlock,W.heap.size<=y:=λy hy=>by have:=jJ.1 hy;simp[Value.ownBlock]at this;omega
   refine H.out (.slice av (1+cY) ai) _ (C.Ez (hp 2 d_) aP eQ) (by unfold zi;rw[T_ d_];exact⟨_,aP,eQ⟩) ⟨av,ai,A1,by rw[J_,<-dG];rfl,da⟩
  .exact Jv
  .refine vp [(some 89,6),(some 88,5)] ?_;intro f vs Q hf hp C J K H;obtain⟨o,⟨dw,cb,fw,ap,dV⟩, -⟩:=J;replace o:_=_:=o
   try simp only[b_,o,ap]at H |-
   have e6:=cT.hG C.gr;have ar:=e6.f_ 2;have aV:=e6.hH 2;go_simp;have G:Gr [dJ] Q (Q.setCell (c_ dJ 2) (.slice dw ([iZ oB fw (jA mR)]++cI).length cb)):=(F_ [dJ] Q).setCell (.inl s_) _;exact H.out undef _ (λ_=>⟨dw,cb,fw,e6.hW 2 _,dV.Df e6 G,(C.gr.mono s_).trans G⟩)
  intro f vs bu hf C;simp only[b_];have fF:=cT;clear dy aC cT;obtain⟨dP,dQ,a1,cT,dy,G⟩:=C;have gU:b1<=dJ:=o_;have gz:=Bk.lZ aK bT d_;replace hd:=hd.ih G p_;replace hm:=hm.gr G p_;replace hR:=hR.gr G p_;replace p:=p.iy G p_;replace bT:=bT.gr G p_;replace aK:=aK.gr G p_;replace az:=az.gr G p_;replace c9:=c9.Df fF G;clear fF;replace I:=I.hK G p_;clear G
  go_upto_region 12 with fail
  obtain⟨W,aE⟩:=nm_ bu;rw[<-aE]at hd hm hR p bT aK c9 I dy az cT |-;clear aE;have gj:=cT.lt;have cN:∀y∈[g],y∈(g::oA (Value.slice cS k.length cM).ownBlock):=s_
  have e7:∀y∈oA (Value.slice cS k.length cM).ownBlock,HA<=y/\y<xg:=λy hy=>⟨e2.2.2.2 y (jJ.1 hy),fM y (jJ.1 hy)⟩
  have fN:∀y∈oA (Value.slice cS k.length cM).ownBlock,y≠c8/\y≠aB:=λy hy=>by
   rcases c9.own.2 with⟨hv,_⟩|⟨q,lW,cur,hv,_,ay,_⟩
   .have:=jJ.1 hy
    rw[hv]at this
    cases this
   .have h1:=jJ.1 hy;rw[hv]at h1
    have h2:=by simpa[Value.ownBlock]using h1
    subst h2;refine⟨λhe=>?_,λhe=>?_⟩
    .have cW:W.heap[c8]?=_:=bT;rw[<-he,ay]at cW;simp at cW
    .have cW:W.heap[aB]?=_:=aK;rw[<-he,ay]at cW;simp at cW
  have eD:∀y∈oA (Value.slice cS k.length cM).ownBlock,B<=y/\m≠y:=λy hy=>by have:=e7 y hy;omega
  have fO:∀y,(Value.slice cS k.length cM).ownBlock=some y->y<W.heap.size:=λy hy=>by have:=fM y hy;omega
  have eP:=aH;clear aH
  have aH:∀y∈(g::oA (Value.slice cS k.length cM).ownBlock),y<W.heap.size:=by
   intro y hy
   rcases L_.1 hy with rfl|hy
   .omega
   .exact fO y (jJ.1 hy)
  have aC:Ps B g m 2 3 (g::oA (Value.slice cS k.length cM).ownBlock) (λw=>Bk w R0 150 #[n_]/\mE b1 H9 RM w/\Bk w c8 213 #[.string pQ,.slice (j_ aB) 2 2,.slice cS k.length cM]/\Bk w aB 9 #[.string {data:=#[112]},.string {data:=#[110]}]/\Bk w dJ 213 #[.string pm,.slice (j_ xg) 1 1,.slice dP ([iZ oB a1 (jA mR)]++cI).length dQ]/\Bk w xg 9 #[.string mR]/\lC hV xg 3 (1+(8+N)) w dP dQ ([iZ oB a1 (jA mR)]++cI)) (λw=>lC ig b1 5 eK w cS cM k) W false W.drew:=⟨hd.hG (F_ [] W).drew,⟨l,cu,o_,hm.hG (F_ [] W).drew⟩,⟨hR.hG (F_ [] W).drew,p.iy (F_ [] W).drew s_,bT.hG (F_ [] W).drew,aK.hG (F_ [] W).drew,cT.hG (F_ [] W).drew,az.hG (F_ [] W).drew,dy.iy (F_ [] W).drew s_⟩,λ_=>c9.iy (F_ [] W).drew s_,(F_ _ W).drew,
   λa b h⟨bH,b8,dr,dR,f5,dS,f7⟩=>by
    have dD:∀x∈(g::oA (Value.slice cS k.length cM).ownBlock),x=g∨(HA<=x/\x<xg/\x≠c8/\x≠aB):=λx hx=>by
     rcases L_.1 hx with rfl|hx
     .exact .inl rfl
     .exact .inr ⟨(e7 x hx).1,(e7 x hx).2,(fN x hx).1,(fN x hx).2⟩
    exact⟨bH.gr h (λhx=>by have:=dD _ hx;omega),b8.iy h (λx hx=>by have:=dD x hx;omega),dr.gr h (λhx=>by have:=dD _ hx;omega),dR.gr h (λhx=>by have:=dD _ hx;omega),f5.gr h (λhx=>by have:=dD _ hx;omega),dS.gr h (λhx=>by have:=dD _ hx;omega),f7.iy h (λx hx=>by have:=dD x hx;omega)⟩,
   λa b h h2=>h2.iy h p_,s_,o_⟩
  refine nZ (λf=>Ps B g m 2 3 (g::oA (Value.slice cS k.length cM).ownBlock) (λw=>Bk w R0 150 #[n_]/\mE b1 H9 RM w/\Bk w c8 213 #[.string pQ,.slice (j_ aB) 2 2,.slice cS k.length cM]/\Bk w aB 9 #[.string {data:=#[112]},.string {data:=#[110]}]/\Bk w dJ 213 #[.string pm,.slice (j_ xg) 1 1,.slice dP ([iZ oB a1 (jA mR)]++cI).length dQ]/\Bk w xg 9 #[.string mR]/\lC hV xg 3 (1+(8+N)) w dP dQ ([iZ oB a1 (jA mR)]++cI)) (λw=>lC ig b1 5 eK w cS cM k) W (f 7)) (λvs X=>∃(A:OA) (c:Nat) (us:List ST),us.length=1/\Bk X c8 213 #[.string pQ,.slice (j_ aB) 2 2,.slice A (k++us).length c]/\lC ig b1 5 (eK+1) X A c (k++us)/\iQ X B g/\Bk X R0 150 #[n_]/\mE b1 H9 RM X/\Bk X aB 9 #[.string {data:=#[112]},.string {data:=#[110]}]/\Bk X dJ 213 #[.string pm,.slice (j_ xg) 1 1,.slice dP ([iZ oB a1 (jA mR)]++cI).length dQ]/\Bk X xg 9 #[.string mR]/\lC hV xg 3 (1+(8+N)) X dP dQ ([iZ oB a1 (jA mR)]++cI)/\Gr (c8::(g::oA (Value.slice cS k.length cM).ownBlock)) W X) (G2 7 [g] (g::oA (Value.slice cS k.length cM).ownBlock)) [SU.mh _ (.pointer (some (c_ c8 2))),SU.mh _ (.slice cS k.length cM),SU.mh _ (q_ m),(SU.tree aH (1)).uY (λ_ _ _ h=>h.gr cN),(SU.trees aH 2 1).uY (λ_ _ _ h=>h.gr cN),(SU.stmt aH (1) (1)).uY (λ_ _ _ h=>h.gr cN),(SU.of (λv w=>∃(x:Nat) (t:ST),v=.slice (j_ x) 1 1/\W.heap.size<=x/\Bk w x 229 t.g_/\jK (jE W.heap.size) w t/\SG hV 1 1 t) (λ_ _ _ hg⟨x,t,h1,h2,h3,au,aq⟩=>⟨x,t,h1,h2,h3.gr hg (λhm=>by have:=aH x hm;omega),au.ih hg (λy hy=>Fn.2 (aH y hy)),aq⟩)).uY (λ_ _ _ h=>h.gr cN),SU.zd [7] (λv w=>∃(av:OA) (ai:Nat) (us:List ST) (n2:Nat),v=.slice av n2 ai/\(us.length=1/\n2=(k++us).length)/\lC ig b1 5 (eK+1) w av ai (k++us)) (λi hi v w w' hg⟨av,ai,us,n2,h1,h0,h2⟩=>⟨av,ai,us,n2,h1,h0,h2.iy (hg.ne (zu hi)) p_⟩),SU.mh _ (.pointer (some (c_ c8 2))),SU.anyI _] (SU.anyI _) [[],[0],[],[2],[3],[4],[5],[1,6],[],[8,7]] true [(some 90,0),(some 91,1),(some 92,2),(some 93,3),(some 94,4),(some 95,5),(some 96,6),(some 97,7),(some 98,8),(none,9)] k_ k_ k_ (λ_ _ _ _ _ h=>h) k_ rfl rfl k_ aC ⟨?_,?_,?_,?_,?_,?_,?_,?_,?_,?_,trivial⟩ ?_
  .exact J2
  .refine je [(some 90,0)] ?_;intro f vs Q hf C J K H;obtain⟨o, -⟩:=J;replace o:_=_:=o
   try simp only[b_,o]at H |-
   obtain⟨c6,fp,eY,hw,cK, -⟩:=id C;have ar:=eY.2.2.1.f_ 2;exact LD
  .exact J2
  .refine je [(some 92,2)] ?_;intro f vs Q hf C J K H;obtain⟨o, -⟩:=J;replace o:_=_:=o
   try simp only[b_,o]at H |-
   obtain⟨cX,er,ez,cC⟩:=C.lf;go_simp
   go_at_call 140
   refine(kC B g m cX 0 2 1 o_ _ rfl _ C.d cC hBm).mono ?_;exact Kr
  .refine je [(some 93,3)] ?_;exact HY
  .refine je [(some 94,4)] ?_;exact HH
  .refine je [(some 95,5)] ?_;exact Ie
  .refine je [(some 91,1),(some 96,6)] ?_;intro f vs Q hf C J K H;obtain⟨o,⟨aN,tb,ap,cD,bB,ak,d⟩, -⟩:=J;replace o:_=_:=o
   try simp only[b_,o,ap]at H |-
   have cg:=C.l hf;have fb:=C.hz;refine iW k_ ?_;refine oE _ _ _ rfl b1 229 i1 _ 8 128 underlying211 bM ca ce cp rfl d_ d_ cS k.length cM (k.flatMap ST.E) r_ cg.own _ 1 1 ([tb].flatMap ST.E) r_ (q0 tb bB) (kX _) o_ o_ ?_;intro av ai bq cj bC bw;have da:=cg.add (us:=[tb]) cj bC bw (λu hu=>by have:u=tb:=(zu hu);subst this;exact ak.imp (λy hy=>⟨by have:W.heap.size<=y:=hy;omega,λhe=>by have h1:=fO y he;have:W.heap.size<=y:=hy;omega⟩)) ((d.sub (λs hs=>by simp[ig,hs])).mono o_);exact H.out (.slice av (k.length+1) ai) _ (C.app (Gr.iX bC) eD (λy hy=>by simp[hy])) ((Gr.iX bC).mono (by intro y hy;simp[hy])) ⟨av,ai,[tb],k.length+1,rfl,⟨rfl,s_⟩,da⟩
  .exact J2
  .refine vq [(some 98,8),(some 97,7)] ?_;intro f vs Q hf C J K H;obtain⟨o,⟨dw,cb,tb,mb,ap,nb,dV⟩, -⟩:=J;replace o:_=_:=o
   try simp only[b_,o,ap]at H |-
   have fu:=h_ nb;clear nb;have fG:=C.f.2.2.1;have ar:=fG.f_ 2;have aV:=fG.hH 2;go_simp;have G:Gr [c8] Q (Q.setCell (c_ c8 2) (.slice dw mb cb)):=(F_ [c8] Q).setCell (.inl s_) _;obtain⟨bH,b8,dr,dR,f5,dS,f7⟩:=C.f;exact H.out undef _ (λ_=>⟨dw,cb,tb,fu.out.1,by rw[<-fu.out.2];exact dr.hW 2 _,dV.Df dr G,C.d.ih G p_,bH.gr G p_,b8.iy G p_,dR.gr G (by simp;exact gz),f5.gr G p_,dS.gr G p_,f7.Df dr G,(C.gr.mono (by intro y hy;simp[hy])).trans (G.mono s_)⟩)
  intro f vs bu hf C;simp only[b_];clear hd hm hR p bT aK c9 dy az cT aC;obtain⟨eJ,eN,us,gv,bT,c9,hd,hR,p,aK,cT,az,dy,G⟩:=C;replace I:=I.hK G (by intro x hx;rcases L_.1 hx with rfl|hx;right;omega;rcases L_.1 hx with rfl|hx;left;simp;right;have:=e7 x hx;omega);clear G;obtain⟨d6,cm,bm,d8,fC,gd,aQ,bU⟩:=p;obtain⟨nm,d2⟩:=nm_ bm.length;obtain⟨fm,fh⟩:=nm_ ((k++us).length);obtain⟨fo,fi⟩:=nm_ (([iZ oB a1 (jA mR)]++cI).length);rw[<-d2]at d8;rw[<-fh]at bT;rw[<-fi]at cT;have eZ:=h_ d2;have fW:=h_ fh;have fX:=h_ fi
  have gp:([iZ oB a1 (jA mR)]++cI).length=1+cY:=by rw[J_,<-et.out];rfl
  have gl:b1<bu.heap.size/\R0<m/\m<b1:=⟨ov d8.lt,o_,o_⟩;have f4:H9<=bu.heap.size:=ov cT.lt;have eO:=(c9.fin (H_ _)).B1 (ps:=[oZ,Bz]) (jj (n:=2) (s:=1) aK rfl) (H_ 2) (λy off h _=>by injection h with h;injection h with h;have:=aK.lt;omega);have fB:=((dy.fin (H_ _)).B1 (ps:=[mR]) (Cw az) (H_ 1) (λy off h _=>by injection h with h;injection h with h;have:=az.lt;omega));have gh:=c9.sg;have gi:=dy.sg;clear d2 fh fi aK az c9 dy;obtain⟨dO,eF⟩:=nm_ bu;rw[<-eF]at hd hR d8 bT cT fC eO fB I gl f4 |-;clear eF;have bj:=d8.f_ 0;have bn:=d8.f_ 1;have bI:=d8.f_ 2;have bN:=bT.f_ 0;have df:=bT.f_ 1;have dj:=bT.f_ 2;have d5:=cT.f_ 0;have cJ:=cT.f_ 1;have cQ:=cT.f_ 2
  go_wp2_with (refine kQ #[.slice (j_ dO.heap.size) 3 3] (hR.alloc _) (by simp[Value.oneCell']) ?_;intro X aw G)
  have D:Bk (dO.alloc (.cells #[.string vD,n_,.slice d6 nm cm,.string pQ,.slice (j_ aB) 2 2,.slice eJ fm eN,.string pm,.slice (j_ xg) 1 1,.slice dP fo dQ] 213)) dO.heap.size 213 #[.string vD,n_,.slice d6 nm cm,.string pQ,.slice (j_ aB) 2 2,.slice eJ fm eN,.string pm,.slice (j_ xg) 1 1,.slice dP fo dQ]:=P_ dO 213 _
  have g6:dO.heap.size<=X.heap.size:=by have:=G.size;simp at this;omega
  have de:w.heap.size<=b1:=o_;have e1:=(F_ [] dO).alloc (.cells #[.string vD,n_,.slice d6 nm cm,.string pQ,.slice (j_ aB) 2 2,.slice eJ fm eN,.string pm,.slice (j_ xg) 1 1,.slice dP fo dQ] 213)
  have a7:Sl X 213 3 (j_ dO.heap.size) 3 ([(⟨vD,none,0,[],d6,cm,bm⟩:FT),⟨pQ,some (c_ aB 0),2,[oZ,Bz],eJ,eN,k++us⟩,⟨pm,some (c_ xg 0),1,[mR],dP,dQ,([iZ oB a1 (jA mR)]++cI)⟩].flatMap FT.E):=by
   have:=jj (n:=3) (s:=3) (D.gr G p_) rfl
   rw[eZ.out,fW.out,fX.out]at this;exact this
  refine rr_ #[.slice (j_ dO.heap.size) 3 3] aw underlying150 ⟨dO.heap.size,⟨vD,none,0,[],d6,cm,bm⟩,⟨pQ,some (c_ aB 0),2,[oZ,Bz],eJ,eN,k++us⟩,⟨pm,some (c_ xg 0),1,[mR],dP,dQ,([iZ oB a1 (jA mR)]++cI)⟩,rfl,a7,?_,?_,?_,⟨rfl,rfl,gd⟩,⟨rfl,rfl,?_⟩,⟨rfl,rfl,?_⟩,(hd.hG e1).ih G p_,(I.alloc _).hK G p_⟩
  .exact((fC.iy e1 s_).iy G p_).wide de o_
  .exact((eO.iy e1 s_).iy G p_).wide de o_
  .exact((fB.iy e1 s_).iy G p_).wide o_ o_
  .refine⟨?_,eK+1,gh,ov e2.1,by rw[J_,gv];have:=e2.2.1;omega⟩;obtain⟨ck,ek,ls,bV,bz,k3⟩:=e2.2.2.1;exact⟨ck,ek,ls++us,by rw[bV];simp,bz,k3⟩
  .exact⟨iZ oB a1 (jA mR),ss,ts,1+(8+N),by rw[c7.out];rfl,rfl,rfl,eE,e8,gi,o_,by rw[gp];omega⟩
end Go.Proofs.YtenbhdilndfaeaaGreat
