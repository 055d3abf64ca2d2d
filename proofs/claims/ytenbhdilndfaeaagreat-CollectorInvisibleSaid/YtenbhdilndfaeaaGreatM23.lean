import Derived.Test.YtenbhdilndfaeaaGreatM22
set_option maxRecDepth 100000
set_option maxHeartbeats 0
set_option linter.all false
namespace Go.Proofs.YtenbhdilndfaeaaGreat
open Go.RowKit Go.Proofs.Tryz
variable{G:Prop}{t:TypeId}{x:ByteArray}{D N R lo:Nat}{cs:Array Value}{p:Nat->Prop}{u:ST}{V:List ByteArray}{ts:List ST}{ax:World}{aH:OA}
def IP(h:G:=by
 intro f vs Q hf C M0 K MY;obtain⟨⟨be,ta,o,cN,bj,bi,c6⟩, -⟩:=M0
 try simp only[b_,o]at MY |-
 go_simp;have aJ:ta.length=_:=cN
 have bn:Sl Q 226 5 (j_ be) ta.length (ta.flatMap ET.E):=by rw[aJ];exact bi
 have hcl:(lN 7 i6 i6 0 0 (j_ be) ta.length ta).g_=_:=rfl;simp only[ST.ij,lN,aJ]at hcl;refine MY.out _ _ C (H _ _) ⟨lN 7 i6 i6 0 0 (j_ be) ta.length ta,?_,jL.es _ _ _ _ _ bn bj (λu hu=>(c6 u hu).1),SG.leaf (t:=lN 7 i6 i6 0 0 (j_ be) ta.length ta) (by show mY _ 7 i6 i6 0 0 ta.length _ _;rw[aJ];exact .ret) rfl rfl (λu hu=>(c6 u hu).2)⟩
 show Value.agg _=Value.agg (lN 7 i6 i6 0 0 (j_ be) ta.length ta).g_
 exact MO):G:=h
def JF(h:G:=by
 refine hS [] ?_;intro vs Q C M0 K MY;clear M0
 try simp only[b_]at MY |-
 go_simp
 go_at_call 145
 refine(ke _).mono ?_;rintro e w1⟨rfl,hg1⟩;exact MY.out _ _ (C.hF hg1) (hg1.mono J) ⟨jA Cw,rfl,kq.leaf _ _ _ _ _ _,.var _ _ (by simp[ig])⟩):G:=h
def JW(h:G:=by
 refine jR [] ?_;intro f vs Q hf hp C M0 K MY;clear M0
 try simp only[b_]at MY |-
 go_simp
 go_at_call 144
 refine(kb 0).mono ?_;exact Mc):G:=h
def J4(h:G:=by
 refine jR [] ?_;intro f vs Q hf hp C M0 K MY;clear M0
 try simp only[b_]at MY |-
 go_simp;exact MY.out _ _ (C.sa O ((H [] _).alloc _)) (G8.js O ((H [] _).alloc _)) ⟨_,rfl,C.hz,P_ _ _ _⟩):G:=h
def KB(h:G:=by
 refine jR [] ?_;intro f vs Q hf hp C M0 K MY;clear M0
 try simp only[b_]at MY |-
 exact Mp):G:=h
def Lx(h:G:=by
 rintro e w1⟨t,rfl,MX,ao,aU,hg1⟩;exact MY.out _ _ (C.step hg1 aU) hg1 ⟨t,rfl,MX.le C.hz,ao⟩):G:=h
def LY(h:G:=by
 intro a b;obtain⟨x,A,h1,h2,h3⟩:=h.h2 a b;exact⟨x,A,h1,h2,h3.iz hg J⟩):G:=h
def Mc(h:G:=by
 rintro e w1⟨rfl,hg1⟩;exact MY.out _ _ (C.sa O hg1) (G8.js O hg1) rfl):G:=h
def Mp(h:G:=by
 go_simp;exact MY.out _ _ (C.add O (H [] _)) (zT.of O (H [] _)) rfl):G:=h
structure Ps(B g q:Nat)(fn hi:Int)(M:List Nat)(F L:World->Prop)(W:World)(b:Bool)(w:World):Prop where
 d:iQ w B g
 lf:Lf g q 0 fn hi w
 f:F w
 l:b=false->L w
 gr:I M W w
 sF:∀a b,I M a b->F a->F b
 sL:∀a b,I [g] a b->L a->L b
 gM:g∈M
 qg:q≠g
section
variable{B g q:Nat}{fn hi:Int}{M:List Nat}{F L:World->Prop}{W w w':World}{b:Bool}
def Ps.hz(h:Ps B g q fn hi M F L W b w):W.heap.size<=w.heap.size:=h.gr.size
def Ps.step(h:Ps B g q fn hi M F L W b w)(a:I [g] w w')(e:iQ w' B g):Ps B g q fn hi M F L W b w':=
 have c:I M w w':=a.mono (by intro x j;have:x=g:=(zu j);subst this;exact h.gM)
 ⟨e,h.lf.gr a (zu h.qg),h.sF _ _ c h.f,λd=>h.sL _ _ a (h.l d),h.gr.trans c,h.sF,h.sL,h.gM,h.qg⟩
def Ps.hF(h:Ps B g q fn hi M F L W b w)(a:I [] w w'):Ps B g q fn hi M F L W b w':=h.step (a.mono J) (h.d.hF a)
def Ps.app{o:Option Nat}(h:Ps B g q fn hi M F L W b w)(a:I (oK o) w w')(c:∀y∈oK o,B<=y/\q≠y)(d:∀y∈oK o,y∈M):Ps B g q fn hi M F L W true w':=
 ⟨h.d.ih a (λx k=>(c x k).1),h.lf.gr a (λj=>(c _ j).2 rfl),h.sF _ _ (a.mono d) h.f,(λe=>by cases e),h.gr.trans (a.mono d),h.sF,h.sL,h.gM,h.qg⟩
end
def ig:List ByteArray:=Cw::hU
def Sl.zO{w:World}{e:TypeId}{s x r n:Nat}{y:List Value}(h:Sl w e s (some (Z x r)) n y)(o:0<n)(k:Bk w R t cs)(d:e≠t):x≠R:=by
 intro l;subst l;obtain⟨b,C,z,A,a,j,_⟩:=h.2 o;injection a with a;injection a with a;subst a;have c:w.heap[x]?=_:=k;rw[j]at c;simp at c;exact d c.2.1
def kq.zO{w:World}{u:ET}(h:kq p w u)(k:Bk w R t cs)(e:226≠t):kq (λx=>p x/\x≠R) w u:=by
 induction h with
 |mk u h l j _ d=>exact .mk u h l (λx n a c=>⟨j x n a c,by rw[a]at h;exact h.zO c k e⟩) d
def jL.zO{w:World}(h:jL p w u)(k:Bk w R t cs)(o:226≠t)(n:229≠t):jL (λx=>p x/\x≠R) w u:=by
 induction h with
 |mk u j C y H e A J _ l E z _ r s=>
  exact .mk u j C (λx d a c=>⟨y x d a c,by rw[a]at j;exact j.zO c k o⟩) (λv I=>(H v I).zO k o) e A (λx d a c=>⟨J x d a c,by rw[a]at e;exact e.zO c k n⟩) r l E (λx d a c=>⟨z x d a c,by rw[a]at l;exact l.zO c k n⟩) s
def jL.FC{w:World}(h:jL p w u)(n:u.bs=[])(o:u.ls=[])(k:Bk w R t cs)(l:226≠t):jL (λx=>p x/\x≠R) w u:=by
 cases h with
 |mk u e y r A C s K I E z H J=>
  exact .mk u e y (λx j d a=>⟨r x j d a,by rw[d]at e;exact e.zO a k l⟩) (λv c=>(A v c).zO k l) C s (λx j d a=>by rw[n]at a;cases a) (λv c=>by rw[n]at c;cases c) E z (λx j d a=>by rw[o]at a;cases a) (λv c=>by rw[o]at c;cases c)
def SU.sR{M:List Nat}{lo:Nat}(V:List ByteArray)(z:∀y∈M,y<lo)(d:Nat):SU (λ_=>I M):=
 SU.of (λv w=>∃t:ET,v=.agg t.g_/\kq (jD lo) w t/\EG V d t) (λ_ _ _ hg⟨t,h1,h2,h3⟩=>⟨t,h1,h2.ih hg (λx hx=>Gy.2 (z x hx)),h3⟩)
def SU.Ah{M:List Nat}{lo:Nat}(V:List ByteArray)(z:∀y∈M,y<lo)(d n:Nat):SU (λ_=>I M):=
 SU.of (λv w=>∃(x:Nat) (ts:List ET),v=.slice (j_ x) n n/\ts.length=n/\lo<=x/\Sl w 226 5 (j_ x) n (ts.flatMap ET.E)/\∀t∈ts,kq (jD lo) w t/\EG V d t)
  (λ_ _ _ hg⟨x,ts,h1,h2,h3,aw,av⟩=>⟨x,ts,h1,h2,h3,aw.iz λy off hA hx=>hg.block y hx (λhm=>by injection hA with hA;injection hA with hA;have:=z y hm;omega),λt ht=>⟨(av t ht).1.ih hg (λx hx=>Gy.2 (z x hx)),(av t ht).2⟩⟩)
def Fe(us:List ST):Prop:=∃(cr:List ST) (ep:ST),us=cr++[ep]/\cr.map ST.name=[vU,u0,vi,m6,oL,xt,xq]/\∀s∈cr,s.h6=1
def G8(g m HA:Nat)(i:Nat)(a b:World):Prop:=if i=19 then(∃M,I M a b/\∀x∈M,HA<=x/\∀t cs,Bk a x t cs->t=229) else I (if i=18 then[g,m] else[g]) a b
def G8.of{g m HA i:Nat}{a b:World}(hi:i≠19)(h:I [g] a b):G8 g m HA i a b:=by
 unfold G8;rw[R_ hi];split
 .exact h.mono J
 .exact h
def G8.js{g m HA i:Nat}{a b:World}(hi:i≠19)(h:I [] a b):G8 g m HA i a b:=G8.of hi (h.mono J)
def G8.gr{g m HA i:Nat}{a b:World}(h:G8 g m HA i a b)(hi:i∉[19]):I [g,m] a b:=by
 unfold G8 at h;rw[R_ (zu hi)]at h;split at h
 .exact h
 .exact h.mono J
def G8.bk{g m HA i x:Nat}{a b:World}(h:G8 g m HA i a b)(k:Bk a x t cs)(l:t≠229)(e:x≠g)(j:x≠m):Bk b x t cs:=by
 by_cases hi:i=19
 .unfold G8 at h;rw[U_ hi]at h;obtain⟨M,c,d⟩:=h;exact k.gr c (λn=>l ((d x n).2 t cs k))
 .exact k.gr (h.gr (zu hi)) (by simp;exact⟨e,j⟩)
def EQ(b1 HA:Nat)(v:Value)(w:World):Prop:=∃(x:Nat) (us:List ST),v=.slice (j_ x) 8 8/\us.length=8/\Fe us/\lH ig b1 5 9 w (j_ x) 8 us/\HA<=x
def EP(b1 HA:Nat)(v:Value)(w:World):Prop:=∃(A:OA) (c:Nat) (ts:List ST) (N:Nat),v=.slice A ts.length c/\ts.length<=3/\N<=6/\lH hU b1 3 N w A c ts
def J8(b1 HA:Nat)(a d:Value)(w:World):Prop:=∃(x:Nat) (us:List ST) (A:OA) (c:Nat) (ts:List ST) (N:Nat),a=.slice (j_ x) 8 8/\us.length=8/\Fe us/\lH ig b1 5 9 w (j_ x) 8 us/\HA<=x/\
 d=.slice A ts.length c/\ts.length<=3/\N<=6/\lH hU b1 3 N w A c ts/\∀u∈ts,jL (λy=>b1<=y/\y≠x) w u
def EQ.iz{b1 HA:Nat}{v:Value}{w w':World}{M:List Nat}(h:EQ b1 HA v w)(k:I M w w')(n:∀x∈M,x<b1):EQ b1 HA v w':=by
 obtain⟨x,l,d,e,j,c,a⟩:=h;exact⟨x,l,d,e,j,c.iz k n,a⟩
def EP.iz{b1 HA:Nat}{v:Value}{w w':World}{M:List Nat}(h:EP b1 HA v w)(l:I M w w')(n:∀x∈M,x<b1):EP b1 HA v w':=by
 obtain⟨a,d,ts,N,e,j,k,c⟩:=h;exact⟨a,d,ts,N,e,j,k,c.iz l n⟩
def J8.iz{b1 HA:Nat}{v d:Value}{w w':World}{M:List Nat}(h:J8 b1 HA v d w)(a:I M w w')(c:∀x∈M,x<b1):J8 b1 HA v d w':=by
 obtain⟨x,K,e,s,ts,N,y,A,C,n,l,k,o,r,j,z⟩:=h;exact⟨x,K,e,s,ts,N,y,A,C,n.iz a c,l,k,o,r,j.iz a c,λu H=>(z u H).ih a (λO J E=>by have:=c O J;have:=E.1;omega)⟩
def lH.bd{b c:Nat}{w:World}{A:OA}(h:lH V b D N w A c ts){x:Nat}(e:w.heap.size<=x):∀u∈ts,jL (λy=>b<=y/\y≠x) w u:=λu d=>((h.jt u d).lt).imp λy a=>⟨a.1.1,by have:=a.2;omega⟩
def vT:ByteArray:={data:=#[109,97,105,110]}
structure zU(lo hi:Nat)(w:World)(AP:OA)(cP:Nat)(ps:List ByteArray)(A:OA)(c:Nat)(bs:List ST):Prop where
 hp:Sl w 9 1 AP ps.length (ps.map Value.string)
 vj:ps.length<=cP
 E0:∀x off,AP=some (Z x off)->0<ps.length->lo<=x/\x<hi
 hb:Sl w 229 8 A bs.length (bs.flatMap ST.E)
 CJ:bs.length<=c
 tw:∀x off,A=some (Z x off)->0<bs.length->lo<=x/\x<hi
 hs:∀t∈bs,jL (λx=>lo<=x/\x<hi) w t
def zU.iz{hi s c:Nat}{w w':World}{o A:OA}{ps:List ByteArray}{r:List ST}{M:List Nat}(h:zU lo hi w o s ps A c r)(e:I M w w')(n:∀x∈M,x<lo∨hi<=x):zU lo hi w' o s ps A c r:=
 ⟨h.hp.rT λk x l d a=>e.block x a (λj=>by have:=n x j;have:=h.E0 x l d k;omega),h.vj,h.E0,
   h.hb.rT λk x l d a=>e.block x a (λj=>by have:=n x j;have:=h.tw x l d k;omega),h.CJ,h.tw,λt y=>(h.hs t y).ih e (λx a z=>by have:=n x a;omega)⟩
def lH.fin{c hi:Nat}{w:World}{A:OA}(h:lH V lo D N w A c ts)(j:w.heap.size<=hi):zU lo hi w none 0 [] A c ts:=
 ⟨Gw _ _ _ _,H_ _,(λ_ _ h _=>by cases h),h.sl,iY h.own,λx k d _=>by subst d;have:=kk h.own (x:=x) rfl;omega,λt e=>((h.jt t e).lt).imp λx a=>⟨a.1.1,ov a.2⟩⟩
def zU.C2{hi c d:Nat}{w:World}{A a:OA}{ps:List ByteArray}(h:zU lo hi w none 0 [] A c ts)(j:Sl w 9 1 a ps.length (ps.map Value.string))(hc:ps.length<=d)(e:∀x k,a=some (Z x k)->0<ps.length->lo<=x/\x<hi):zU lo hi w a d ps A c ts:=
 ⟨j,hc,e,h.hb,h.CJ,h.tw,h.hs⟩
def A7{b1 R0 j c k:Nat}{e a:World}{A As:OA}(z:jL (jD e.heap.size) a (i4 pa As (eNew 3)))(o:I [] e a)(r:lH hU b1 4 N e A c ts)(K:j=ts.length)(C:ax.ownsRow a.heap.size 229 8 (.slice aH (1+j) k) (1+j) ((i4 pa As (eNew 3)).g_.toList++ts.flatMap ST.E))(J:(a.alloc (.cells (i4 pa As (eNew 3)).g_ 229)).grownBy ax (Value.slice (j_ a.heap.size) 1 1).ownBlock)(E:(Value.slice aH (1+j) k).ownBlock=(Value.slice (j_ a.heap.size) 1 1).ownBlock∨(Value.slice aH (1+j) k).ownBlock=some (a.alloc (.cells (i4 pa As (eNew 3)).g_ 229)).heap.size)(S:R0<=b1)(Q:R0<=e.heap.size):
 lH hU R0 5 (1+N) ax aH k ([i4 pa As (eNew 3)]++ts):=by
 subst K;have P:=o.size
 have y:lH hU R0 5 1 (a.alloc (.cells (i4 pa As (eNew 3)).g_ 229)) (j_ a.heap.size) 1 [i4 pa As (eNew 3)]:=by
  refine⟨ox (s7 (n:=1) (s:=8) (P_ a 229 (i4 pa As (eNew 3)).g_) rfl (H_ _) O) X,?_,SG.leaf (.vb _ (show pa∈hU by simp[hU])) rfl rfl (by intro u d;rcases M_.1 d with rfl|d;exact .new _ _ X X;cases d)⟩;intro u d
  have:u=i4 pa As (eNew 3):=zu d
  subst this;exact(z.lt.imp (λx h=>⟨by have:e.heap.size<=x:=h.1;omega,λl=>by have:=h.2;simp[Value.ownBlock]at l;omega⟩)).hF ((H [] a).alloc _)
 exact y.add (us:=ts) (ox C X) J E (λu d=>(((r.jt u d).lt.imp (λx h=>⟨ov h.1.1,λl=>by have:=h.2;simp[Value.ownBlock]at l;omega⟩)).hF o).hF ((H [] a).alloc _)) (r.sg.mono X)
def Cz{b a c:Nat}{s:ST}(h:lH V b D N ax aH c ([s]++ts))(d:a=ts.length):Sl ax 229 8 aH (1+a) (([s]++ts).flatMap ST.E):=by
 subst d
 have:=h.sl
 rw[J_]at this;exact this
def BX(bs:List ST):Prop:=∃(ss ls:List ST) (N:Nat),bs=ss++ls/\ss.map ST.name=hU/\(∀s∈ss,s.h6=1)/\lX hU 5 N bs/\N<=28/\bs.length<=30
def mM(lo hi RM:Nat)(w:World):Prop:=∃(A:OA) (c:Nat) (bs:List ST),Bk w RM 213 #[.string vT,n_,.slice A bs.length c]/\zU lo hi w none 0 [] A c bs/\BX bs/\lo<=RM/\RM<hi
def mM.iz{hi RM:Nat}{w w':World}{M:List Nat}(h:mM lo hi RM w)(a:I M w w')(c:∀x∈M,x<lo∨hi<=x):mM lo hi RM w':=by
 obtain⟨d,l,k,n,o,r,j,e⟩:=h;exact⟨d,l,k,n.gr a (λs=>by have:=c RM s;omega),o.iz a c,r,j,e⟩
def FG(us:List ST):Prop:=∃(cr:List ST) (ep:ST) (ls:List ST),us=cr++(ep::ls)/\cr.map ST.name=[vU,u0,vi,m6,oL,xt,xq]/\∀s∈cr,s.h6=1
def BQ(HA:Nat)(x:ByteArray)(v:Value)(w:World):Prop:=∃(A:OA) (a:ET),v=.agg (i4 x A a).g_/\jL (jD HA) w (i4 x A a)/\SG ig 1 1 (i4 x A a)
def mS:List (Nat × ByteArray):=[(2,vU),(4,u0),(6,vi),(8,m6),(10,oL),(12,xt),(14,xq)]
def BQ.iz{HA:Nat}{v:Value}{w w':World}{M:List Nat}(h:BQ HA x v w)(k:I M w w')(n:∀y∈M,y<HA):BQ HA x v w':=by
 obtain⟨a,c,d,e,j⟩:=h;exact⟨a,c,d,e.ih k (λy l=>Gy.2 (n y l)),j⟩
structure sB(B g m R0 b1 H9 RM RA HA:Nat)(tA:ST)(W:World)(f:Nat->Bool)(vs:Nat->Value)(w:World):Prop where
 d:iQ w B g
 lf:Lf g m 0 1 3 w
 r:Bk w R0 150 #[n_]
 mo:mM b1 H9 RM w
 a:Bk w RA 229 tA.g_
 ta:jL (λx=>b1<=x/\x<HA) w tA
 oY:f 19=false->∀i x,(i,x)∈mS->f i=true->BQ HA x (vs i) w
 CL:f 16=true->f 18=false->EQ b1 HA (vs 16) w
 CK:f 18=true->f 16=false->EP b1 HA (vs 18) w
 hj:f 16=true->f 18=true->f 19=false->J8 b1 HA (vs 16) (vs 18) w
 EJ:f 19=true->f 16=true
 gr:I [g,m] W w
 o:g<B/\B<=m/\R0<m/\g<R0/\m<b1/\b1<=HA/\H9<=HA/\RA<HA/\b1<=RA/\W.heap.size=HA
def sq{i:Nat}(h:(i,x)∈mS):i∈[2,4,6,8,10,12,14]:=by
 simp[mS]at h;simp;omega
section
variable{B g m R0 b1 H9 RM RA HA:Nat}{tA:ST}{W w w':World}{f:Nat->Bool}{vs:Nat->Value}{v:Value}{i:Nat}
def sB.hz(h:sB B g m R0 b1 H9 RM RA HA tA W f vs w):HA<=w.heap.size:=by have:=h.gr.size;have:=h.o;omega
def sB.base(h:sB B g m R0 b1 H9 RM RA HA tA W f vs w){M:List Nat}(c:I M w w')(d:∀x∈M,x=g∨x=m∨HA<=x):
 Bk w' R0 150 #[n_]/\mM b1 H9 RM w'/\Bk w' RA 229 tA.g_/\jL (λx=>b1<=x/\x<HA) w' tA/\I [g,m] W w':=by
 have e:=h.o;exact⟨h.r.gr c (λa=>by have:=d _ a;omega),h.mo.iz c (λx a=>by have:=d x a;omega),h.a.gr c (λa=>by have:=d _ a;omega),h.ta.ih c (λx a j=>by have:=d x a;omega),h.gr.hJ c (λx a=>by have:=d x a;simp;omega)⟩
def ip{f:Nat->Bool}{i a:Nat}(h:a≠i):(a==i||f a)=f a:=by
 have:(a==i)=false:=zu h
 rw[this,HH]
def lb{vs:Nat->Value}{v:Value}{i a:Nat}(h:a≠i):sk vs i v a=vs a:=by simp[sk,h]
def nE{vs:Nat->Value}{v:Value}{i:Nat}:sk vs i v i=v:=by simp[sk]
def sB.add(h:sB B g m R0 b1 H9 RM RA HA tA W f vs w)(hi:i∉[2,4,6,8,10,12,14,16,18,19])(d:I [g] w w')(O:iQ w' B g):sB B g m R0 b1 H9 RM RA HA tA W (λk=>k==i||f k) (sk vs i v) w':=by
 have P:=h.o;obtain⟨E,H,K,A,z⟩:=h.base d J;have n:∀x∈[g],x<b1:=p_;have C:∀x∈[g],x<HA:=p_
 have c:(16:Nat)≠i:=λa=>hi (by simp[<-a])
 have j:(18:Nat)≠i:=λa=>hi (by simp[<-a])
 have l:(19:Nat)≠i:=λa=>hi (by simp[<-a])
 refine⟨O,h.lf.gr d p_,E,H,K,A,?_,?_,?_,?_,(by rw[ip l,ip c];exact h.EJ),z,P⟩
 .intro o k x y s;rw[ip l]at o
  have r:k≠i:=λa=>by
   have:=sq y
   subst a;exact hi (by simp at this |-;omega)
  rw[ip r]at s;rw[lb r];exact(h.oY o k x y s).iz d C
 .rw[ip c,ip j,lb c]
  exact λe b=>(h.CL e b).iz d n
 .rw[ip c,ip j,lb j]
  exact λe b=>(h.CK e b).iz d n
 .rw[ip c,ip j,ip l,lb c,lb j]
  exact λe b o=>(h.hj e b o).iz d n
def sB.sa(h:sB B g m R0 b1 H9 RM RA HA tA W f vs w)(hi:i∉[2,4,6,8,10,12,14,16,18,19])(a:I [] w w'):sB B g m R0 b1 H9 RM RA HA tA W (λc=>c==i||f c) (sk vs i v) w':=h.add hi (a.mono J) (h.d.hF a)
def sB.xR(h:sB B g m R0 b1 H9 RM RA HA tA W f vs w)(hi:(i,x)∈mS)(Q:∀y,(i,y)∈mS->y=x)(a:I [] w w')(O:BQ HA x v w'):sB B g m R0 b1 H9 RM RA HA tA W (λk=>k==i||f k) (sk vs i v) w':=by
 have P:=h.o;have o:=sq hi;obtain⟨E,H,K,C,A⟩:=h.base a J
 have c:(16:Nat)≠i:=λj=>by subst j;simp at o
 have e:(18:Nat)≠i:=λj=>by subst j;simp at o
 have n:(19:Nat)≠i:=λj=>by subst j;simp at o
 refine⟨h.d.hF a,h.lf.gr a J,E,H,K,C,?_,?_,?_,?_,(by rw[ip n,ip c];exact h.EJ),A,P⟩
 .intro r k y z s;rw[ip n]at r
  by_cases l:k=i
  .subst l;rw[nE,Q y z];exact O
  .rw[ip l]at s;rw[lb l];exact(h.oY r k y z s).iz a J
 .rw[ip c,ip e,lb c]
  exact λd b=>(h.CL d b).iz a J
 .rw[ip c,ip e,lb e]
  exact λd b=>(h.CK d b).iz a J
 .rw[ip c,ip e,ip n,lb c,lb e]
  exact λd b l=>(h.hj d b l).iz a J
def sB.E4(h:sB B g m R0 b1 H9 RM RA HA tA W f vs w)(K:f 16=false)(a:I [] w w'){us:List ST}(z:v=.slice (j_ w.heap.size) 8 8)(y:us.length=8)(s:Fe us)(o:lH ig b1 5 9 w' (j_ w.heap.size) 8 us):sB B g m R0 b1 H9 RM RA HA tA W (λc=>c==16||f c) (sk vs 16 v) w':=by
 have A:=h.hz;obtain⟨e,j,k,d,E⟩:=h.base a J;refine⟨h.d.hF a,h.lf.gr a J,e,j,k,d,?_,?_,?_,?_,(λ_=>by simp),E,h.o⟩
 .intro l c P r C
  have n:c≠16:=λH=>by have:=sq r;subst H;simp at this
  rw[ip O]at l;rw[ip n]at C;rw[lb n];exact(h.oY l c P r C).iz a J
 .intro _ _;rw[nE];exact⟨_,us,z,y,s,o,A⟩
 .intro _ l;simp at l
 .intro _ l _;rw[ip O]at l;rw[nE,lb O];obtain⟨n,r,ts,N,e,j,k,d⟩:=h.CK l K;exact⟨_,us,n,r,ts,N,z,y,s,o,A,e,j,k,d.iz a J,λu C=>(d.bd (H_ _) u C).hF a⟩
def sB.E3(h:sB B g m R0 b1 H9 RM RA HA tA W f vs w)(U:f 18=false)(e:I [g,m] w w')(T:iQ w' B g)(H:Lf g m 0 1 3 w'){A:OA}{c:Nat}(r:v=.slice A ts.length c)(o:ts.length<=3)(l:N<=6)(d:lH hU w.heap.size 3 N w' A c ts):sB B g m R0 b1 H9 RM RA HA tA W (λa=>a==18||f a) (sk vs 18 v) w':=by
 have Y:=h.o;have hz:=h.hz;obtain⟨P,Q,S,C,z⟩:=h.base e J;refine⟨T,H,P,Q,S,C,?_,?_,?_,?_,(by rw[ip O,ip O];exact h.EJ),z,Y⟩
 .intro j a y n s
  have k:a≠18:=λE=>by have:=sq n;subst E;simp at this
  rw[ip O]at j;rw[ip k]at s;rw[lb k];exact(h.oY j a y n s).iz e p_
 .intro _ j;simp at j
 .intro _ _;rw[nE];exact⟨A,c,ts,N,r,o,l,d.le X⟩
 .intro j _ _;rw[ip O]at j;rw[nE,lb O];obtain⟨x,us,E,s,k3,k,K⟩:=h.CL j U;have hx:=(kk k.own (x:=x) rfl).2;exact⟨x,us,A,c,ts,N,E,s,k3,k.iz e p_,K,r,o,l,d.le X,λu Z=>(d.jt u Z).imp λy n=>⟨ov n.1,by have:=n.1;omega⟩⟩
def jL.fresh{b n c:Nat}{C:Array Value}(h:jL p w u)(e:∀x,p x->b<=x):jL (zf b (Value.slice (j_ w.heap.size) n c).ownBlock) (w.alloc (.cells C t)) u:=
 (h.lt.imp λx a=>⟨e x a.1,λd=>by simp[Value.ownBlock]at d;have:=a.2;omega⟩).hF ((H [] w).alloc _)
def lH.Eb{b c:Nat}{A:OA}(h:lH V b D N w A c ts)(k:Bk w R 213 cs)(n:I [R] w w'):lH V b D N w' A c ts:=by
 refine⟨ns h.own n (λx a d=>?_),λu r=>((h.jt u r).zO k O O).ih n (λx a e=>e.2 (zu a)) |>.imp (λ_ e=>e.1),h.sg⟩;have a:=zu a;subst a
 rcases h.own.2 with⟨j,_⟩|⟨q,y,s,j,_,o,_⟩
 .rw[j]at d
  cases d
 .rw[j]at d
  have:q=x:=by simpa[Value.ownBlock]using d
  subst this;have l:w.heap[q]?=_:=k;rw[o]at l;simp at l
def sB.E2(h:sB B g m R0 b1 H9 RM RA HA tA W f vs w)(k:f 16=true)(d:f 18=true){M:List Nat}(e:I M w w')(j:∀x∈M,HA<=x):sB B g m R0 b1 H9 RM RA HA tA W (λl=>l==19||f l) (sk vs 19 v) w':=by
 have A:=h.o;obtain⟨s,y,z,r,o⟩:=h.base e (λx c=>.inr (.inr (j x c)));refine⟨h.d.ih e (λx c=>by have:=j x c;omega),h.lf.gr e (λc=>by have:=j _ c;omega),s,y,z,r,(λn=>by simp at n),(λ_ a=>by rw[ip O,d]at a;cases a),(λ_ a=>by rw[ip O,k]at a;cases a),(λ_ _ a=>by simp at a),(λ_=>by rw[ip O];exact k),o,A⟩
end
def Fp(v:Value)(w:World)(M0:Nat):Prop:=∃(A:OA),v=.agg (i4 oL A (jA m6)).g_/\jL (jD M0) w (i4 oL A (jA m6))
def Fn(b1 M0:Nat)(v:Value)(w:World):Prop:=∃(x:Nat) (A:OA),v=.slice (j_ x) 1 1/\M0<=x/\lH hU b1 3 1 w (j_ x) 1 [i4 oL A (jA m6)]
structure q0(b1:Nat)(W:World)(f:Nat->Bool)(vs:Nat->Value)(w:World):Prop where
 h1:f 5=false->f 1=true->Fp (vs 1) w W.heap.size
 h2:f 5=false->f 2=true->Fn b1 W.heap.size (vs 2) w
 o5:f 5=true->f 2=true
 gr:I [] W w
def zT(M0:Nat)(i:Nat)(a b:World):Prop:=if i=5 then(∃M,I M a b/\∀x∈M,M0<=x) else I [] a b
def zT.of{c i:Nat}{a b:World}(hi:i≠5)(h:I [] a b):zT c i a b:=by
 unfold zT;rw[R_ hi];exact h
section
variable{b1:Nat}{W w w':World}{f:Nat->Bool}{vs:Nat->Value}{v:Value}{i:Nat}
def q0.add(h:q0 b1 W f vs w)(hi:i∉[1,2,5])(hg:I [] w w'):q0 b1 W (λk=>k==i||f k) (sk vs i v) w':=by
 have j:(1:Nat)≠i:=λc=>hi (by simp[<-c])
 have d:(2:Nat)≠i:=λc=>hi (by simp[<-c])
 have e:(5:Nat)≠i:=λc=>hi (by simp[<-c])
 refine⟨?_,?_,(by rw[ip e,ip d];exact h.o5),h.gr.trans hg⟩
 .rw[ip j,ip e,lb j];intro a b;obtain⟨A,h1,h2⟩:=h.h1 a b;exact⟨A,h1,h2.hF hg⟩
 .rw[ip d,ip e,lb d];exact LY
def q0.pW(h:q0 b1 W f vs w)(hg:I [] w w')(d:Fp v w' W.heap.size):q0 b1 W (λc=>c==1||f c) (sk vs 1 v) w':=by
 refine⟨λ_ _=>by rw[nE];exact d,?_,(by rw[ip O,ip O];exact h.o5),h.gr.trans hg⟩;rw[ip O,ip O,lb O];exact LY
def q0.FI(h:q0 b1 W f vs w)(a:I [] w w')(l:Fn b1 W.heap.size v w'):q0 b1 W (λc=>c==2||f c) (sk vs 2 v) w':=by
 refine⟨?_,λ_ _=>by rw[nE];exact l,(λ_=>by simp),h.gr.trans a⟩;rw[ip O,ip O,lb O];intro e b;obtain⟨d,j,k⟩:=h.h1 e b;exact⟨d,j,k.hF a⟩
def q0.FH(h:q0 b1 W f vs w)(d:f 2=true){M:List Nat}(e:I M w w')(k:∀x∈M,W.heap.size<=x):q0 b1 W (λc=>c==5||f c) (sk vs 5 v) w':=
 ⟨(λa=>by simp at a),(λa=>by simp at a),(λ_=>by rw[ip O];exact d),h.gr.hJ e (λx j=>.inr (k x j))⟩
end
structure FT where
 name:ByteArray
 AP:Option Addr
 cP:Nat
 ps:List ByteArray
 A:Option Addr
 c:Nat
 bs:List ST
def FT.E(f:FT):List Value:=[.string f.name,.slice f.AP f.ps.length f.cP,.slice f.A f.bs.length f.c]
def FT.In(lo hi:Nat)(w:World)(f:FT):Prop:=zU lo hi w f.AP f.cP f.ps f.A f.c f.bs
def Ft(bs:List ST):Prop:=FG bs/\∃K,lX ig 5 K bs/\K<=16/\bs.length<=12
def Fr(bs:List ST):Prop:=∃(s:ST) (ss ls:List ST) (K:Nat),bs=s::(ss++ls)/\s.h6=1/\s.name=oL/\ss.map ST.name=hU/\(∀u∈ss,u.h6=1)/\lX hU 3 K bs/\K<=15/\bs.length<=21
def zU.wide{hi l k o c:Nat}{w:World}{j A:OA}{ps:List ByteArray}{n:List ST}(h:zU lo hi w j o ps A c n)(y:l<=lo)(s:hi<=k):zU l k w j o ps A c n:=
 ⟨h.hp,h.vj,λx e a d=>by have:=h.E0 x e a d;omega,h.hb,h.CJ,λx e a d=>by have:=h.tw x e a d;omega,λt r=>(h.hs t r).imp λx z=>by omega⟩
def E9(B g:Nat)(w:World)(e:Ending)(w':World):Prop:=∃(x:Nat) (r n p:FT),e=.returned (.agg #[.slice (j_ x) 3 3])/\Sl w' 213 3 (j_ x) 3 ([r,n,p].flatMap FT.E)/\
 r.In w.heap.size w'.heap.size w'/\n.In w.heap.size w'.heap.size w'/\p.In w.heap.size w'.heap.size w'/\(r.name=vT/\r.ps=[]/\BX r.bs)/\(n.name=pX/\n.ps=[pa,Cw]/\Ft n.bs)/\(p.name=pz/\p.ps=[m6]/\Fr p.bs)/\iQ w' B g/\I [g] w w'
def Dy{w:World}{x:Nat}{s:ByteArray}(h:Bk w x 9 #[.string s]):Sl w 9 1 (j_ x) [s].length ([s].map Value.string):=jj (n:=1) (s:=1) h rfl
def AU(B g:Nat)(w:World)(r:iQ w B g)(hB:B<=w.heap.size):
 Calls prog 89 #[q_ g] w (E9 B g w):=by
 obtain⟨i1,bS,cj,co,cv⟩:=info_parts infoSt;have bt:=r.xw
 go_enter func89,ntmps89
 go_upto_region 2 with fail
 obtain⟨-,-,bg⟩:=pZ w 150 #[n_] 222 #[q_ g,Y 9,Y 0,Y 0];have cT:=r.hF bg;have ck:=(P_ w 150 #[n_]).alloc (.cells #[q_ g,Y 9,Y 0,Y 0] 222);obtain⟨-,cF,-⟩:=pZ w 150 #[n_] 222 #[q_ g,Y 9,Y 0,Y 0];obtain⟨bw,b9⟩:=nm_ ((w.alloc (.cells #[n_] 150)).alloc (.cells #[q_ g,Y 9,Y 0,Y 0] 222));rw[<-b9]at bg cT ck cF |-;clear b9;obtain⟨R0,cA⟩:=nm_ w.heap.size;obtain⟨m,fM⟩:=nm_ (w.heap.size+1);rw[<-cA]at ck |-;rw[<-fM]at cF;have dw:w.heap.size<=R0:=X;have eW:R0<m:=X;have fN:R0+1=m:=X;have hBm:B<=m:=X;rw[fN];clear cA fM fN
 go_upto_region 3 with(go_at_call 139;refine((tk B g m 0).1 0 6 9 0 _ rfl X X cT cF hBm X X X J).mono ?_;rintro e w2⟨A,j,ts,N,al,rfl,di,hL,hl0,hl1,bA,dI,et,an⟩)
 obtain⟨b1,aV⟩:=nm_ bw.heap.size;rw[<-aV]at hL
 have dJ:m<b1:=by rw[aV];exact cF.lt
 have fq:=an.size;rw[<-aV]at fq;clear aV;have cD:=ck.gr an p_;have ct:I [g] w w2:=(bg.mono J).hJ an p_;clear cT cF ck an bg r
 go_upto_if 16 with(go_at_call 19;refine(iw B g 3 et X X).mono ?_;rintro e ag⟨aA,rfl,bL,bO,r,MS⟩)
 have h:=dI.gr MS p_;have P:=cD.gr MS p_;have MZ:=ct.trans MS;replace hL:=hL.iz MS p_;have a6:=G_ fq MS.size;clear et dI cD ct MS fq
 go_cut [4] (λx ad=>∃(A:OA) (j:Nat) (ts:List ST) (e6:Nat) (al:Int),x=.slice A ts.length j/\lH hU b1 4 e6 ad A j ts/\ts.length<=8/\(e6:Int)<=19/\Bk ad m 222 #[q_ g,Y al,Y 0,Y 0]/\Bk ad R0 150 #[n_]/\iQ ad B g/\I [g] w ad/\b1<=ad.heap.size)
 case first=>
  by_cases hr:0<aA
  .have eE:decide (0<aA)=true:=by simp[hr]
   simp only[eE];clear hr eE
   go_upto_region 4 with fail
   obtain⟨W,aO⟩:=nm_ ag;rw[<-aO]at r h P hL MZ a6 |-;clear aO;have cS:∀y∈[g],y∈(g::oK (Value.slice A ts.length j).ownBlock):=J
   have l:∀y∈oK (Value.slice A ts.length j).ownBlock,b1<=y:=λy hy=>(kk hL.own (jK.1 hy)).1
   have eI:∀y∈oK (Value.slice A ts.length j).ownBlock,B<=y/\m≠y:=λy hy=>by have:=l y hy;omega
   have eY:∀y,(Value.slice A ts.length j).ownBlock=some y->y<W.heap.size:=λy hy=>(kk hL.own hy).2
   have T:∀y∈(g::oK (Value.slice A ts.length j).ownBlock),y<W.heap.size:=Mi;have aW:Ps B g m 0 100 (g::oK (Value.slice A ts.length j).ownBlock) (λw=>Bk w R0 150 #[n_]) (λw=>lH hU b1 4 N w A j ts) W false W:=⟨r,⟨al,hl0,X,h⟩,P,λ_=>hL,H _ W,λbd b a k=>k.gr a (λh=>by rcases M_.1 h with a|a;omega;have:=l _ a;omega),λbd b a k=>k.iz a p_,J,X⟩;refine p3 (λf=>Ps B g m 0 100 (g::oK (Value.slice A ts.length j).ownBlock) (λw=>Bk w R0 150 #[n_]) (λw=>lH hU b1 4 N w A j ts) W (f 6)) (λ_ _=>True) (G2 6 [g] (g::oK (Value.slice A ts.length j).ownBlock)) [SU.mx _ (.slice A ts.length j),SU.mx _ (q_ m),(SU.tree T (0)).vg (λ_ _ _ a=>a.gr cS),(SU.trees T 2 1).vg (λ_ _ _ a=>a.gr cS),(SU.stmt T (1) (1)).vg (λ_ _ _ a=>a.gr cS),(SU.of (λv w=>∃(x:Nat) (t:ST),v=.slice (j_ x) 1 1/\W.heap.size<=x/\Bk w x 229 t.g_/\jL (jD W.heap.size) w t/\SG hU 1 1 t) (λ_ _ _ S⟨x,t,z,k,h3,aw,av⟩=>⟨x,t,z,k,h3.gr S (λh=>by have:=T x h;omega),aw.ih S (λy hy=>Gy.2 (T y hy)),av⟩)).vg (λ_ _ _ a=>a.gr cS),SU.zN [6] (λv w=>∃(ap:OA) (ai:Nat) (us:List ST) (K:Nat),v=.slice ap us.length ai/\lH hU b1 4 K w ap ai us/\us.length<=8/\K<=N+1) (λi hi v w w' S⟨ap,ai,us,K,z,k,h3⟩=>⟨ap,ai,us,K,z,k.iz (S.ne (zu hi)) p_,h3⟩),SU.zN [6] (λv w=>∃(ap:OA) (ai:Nat) (us:List ST) (K:Nat),v=.slice ap us.length ai/\lH hU b1 4 K w ap ai us/\us.length<=8/\K<=N+1) (λi hi v w w' S⟨ap,ai,us,K,z,k,h3⟩=>⟨ap,ai,us,K,z,k.iz (S.ne (zu hi)) p_,h3⟩)] (SU.anyI _) [[],[],[1],[2],[3],[4],[0,5],[6]] false [(some 17,0),(some 18,1),(some 19,2),(some 20,3),(some 21,4),(some 22,5),(some 23,6),(some 4,7)] k_ k_ (λ_ _ _ _ _ a=>a) k_ rfl rfl k_ aW ⟨?_,?_,?_,?_,?_,?_,?_,?_,trivial⟩ ?_
   .exact K8
   .exact K8
   .refine jf [(some 18,1)] ?_;intro f vs Q hf C M0 K MY;obtain⟨o, -⟩:=M0;replace o:_=_:=o
    try simp only[b_,o]at MY |-
    obtain⟨cH,ev,eD,cG⟩:=C.lf;go_simp
    go_at_call 140
    refine(kF B g m cH 0 0 0 X _ rfl _ C.d cG hBm).mono ?_;exact Lx
   .refine jf [(some 19,2)] ?_;exact I6
   .refine jf [(some 20,3)] ?_;exact IP
   .refine jf [(some 21,4)] ?_;exact Jj
   .refine jf [(some 17,0),(some 22,5)] ?_;intro f vs Q hf C M0 K MY;obtain⟨o,⟨aQ,aI,aL,cI,bC,V,d⟩, -⟩:=M0;replace o:_=_:=o
    try simp only[b_,o,aL]at MY |-
    have cp:=C.l hf;have fh:=C.hz;refine iZ k_ ?_;refine oO _ _ _ rfl b1 229 i1 _ 8 128 underlying211 bS cj co cv rfl O O A ts.length j (ts.flatMap ST.E) r_ cp.own _ 1 1 ([aI].flatMap ST.E) r_ (rc aI bC) (kZ) X X ?_;intro ap ai bP cq bE bD;have db:=cp.add (us:=[aI]) cq bE bD (λu hu=>by have:u=aI:=(zu hu);subst this;exact V.imp (λy hy=>⟨by have:W.heap.size<=y:=hy;omega,λhe=>by have z:=eY y he;have:W.heap.size<=y:=hy;omega⟩)) (d.mono X);exact MY.out (.slice ap (ts.length+1) ai) _ (C.app (I.iW bE) eI (λy hy=>by simp[hy])) ((I.iW bE).mono (by intro y hy;simp[hy])) ⟨ap,ai,ts++[aI],N+1,J,by simpa using db,p_,H_ _⟩
   .refine jf [(some 23,6)] ?_;intro f vs Q hf C M0 K MY;obtain⟨⟨fV,f0,ta,ey,o,fY,cN⟩, -⟩:=M0
    try simp only[b_,o]at MY |-
    go_simp;exact MY.out _ _ C (H _ _) ⟨fV,f0,ta,ey,rfl,fY,cN⟩
   rintro f vs bu hf⟨C,M0⟩;obtain⟨c,aN,⟨ah,aK,i2,a8⟩,⟨ak,t3,bQ,n3,dz,b3,g9⟩,⟨t4,b8,dy,dX⟩,⟨bR,t5,bW,dF,ez,g7,dP⟩,⟨aH,aE,g8,gJ,dC,eQ,eG⟩,⟨aX,br,gI,fZ,dZ,fA,n7⟩, -⟩:=M0;replace c:vs 0=.slice A ts.length j:=c;replace aN:vs 1=q_ m:=aN;simp only[b_,c,aN,aK,bQ,b8,bW,dC,dZ];clear c aN aK bQ b8 bW dC dZ;clear r h P hL aW;obtain⟨r,⟨l',cy,d3,h⟩,P, -,G, -, -, -, -⟩:=C;have dx:=G_ a6 G.size;replace MZ:=MZ.hJ G (by intro y hy;rcases M_.1 hy with a|a;left;simp[a];right;have:=l _ a;omega);go_wp2;go_meet;exact⟨aX,br,gI,fZ,l',rfl,fA,n7.1,ov n7.2,h,P,r,MZ,dx⟩
  .have eE:decide (0<aA)=false:=by simp[hr]
   go_wp2;go_meet;exact⟨A,j,ts,N,al,rfl,hL,X,X,h,P,r,MZ,a6⟩
 case rest=>
  clear r h P MZ a6 hL hl0 hl1 bA di A j ts N al;obtain⟨A,j,ts,e6,al,rfl,hL,iN,d1,h,P,r,MZ,dx⟩:=hcut;obtain⟨ad,dE⟩:=nm_ wc;rw[<-dE]at hL h P r MZ dx |-;clear dE;obtain⟨n0,hn0⟩:=nm_ ts.length;have a2:=U hn0;have cK:=hL.own;have gv:=dx;rw[<-hn0]at cK iN |-;clear hn0
  go_upto_region 6 with(first|(go_at_call 142;refine(kJ ad.heap.size pa (eNew 3) ad (H_ _) (kq.leaf _ _ _ _ _ _)).mono ?_;rintro e MT⟨As,rfl,bp,aj⟩;simp only[i4,ST.ij])|(at_builtin;refine j7 rfl rfl MT.heap.size 229 i1 8 128 underlying211 bS cj co cv rfl O O (j_ MT.heap.size) 1 1 _ rfl (s7 (n:=1) (s:=8) (P_ MT 229 (i4 pa As (eNew 3)).g_) rfl (H_ _) O) A n0 j (ts.flatMap ST.E) rfl (((Sl.iR cK).hF aj).alloc _) (kZ) X J ?_;intro aH aE ax cw eC dm;have eQ:=A7 bp aj hL a2.out cw eC dm (H_ _) gv)|(go_at_call 141;go_loud (refine(uD b1 4 (1+e6) aH (1+n0) aE ([i4 pa As (eNew 3)]++ts) (j_ ax.heap.size) 3 9 (by have:=a2.out;simp;omega) (Cz (eQ.iz ((H [] ax).alloc (.cells #[.string {data:=#[105]},.string {data:=#[106]},.string {data:=#[107]}] 9)) J) a2.out) X (λu hu=>(eQ.iz ((H [] ax).alloc (.cells #[.string {data:=#[105]},.string {data:=#[106]},.string {data:=#[107]}] 9)) J).from u hu) eQ.sg (by have z:=(I.iW eC).size;have k:=aj.size;simp at z |-;omega) (jj (n:=3) (s:=1) (P_ ax 9 #[.string {data:=#[105]},.string {data:=#[106]},.string {data:=#[107]}]) rfl)).mono ?_;rintro e bP⟨bZ,cg,ss,rfl,ef,eJ,fe,bB,eF,dW⟩;obtain⟨aG,eb⟩:=nm_ (ss++([i4 pa As (eNew 3)]++ts));rw[<-eb]at ef dW;rw[<-eb];have c8:=U eb;obtain⟨cY,dK⟩:=nm_ aG.length;have ew:=U dK;rw[<-dK];clear eb dK)))
  have eX:I [] ad (bP.alloc (.cells #[.string vT,n_,.slice bZ cY cg] 213)):=by
   have z:=(aj.alloc _).hJ (I.iW eC) (λx c=>by have:=jK.1 c;simp[Value.ownBlock]at this;have:=aj.size;right;omega);exact((z.alloc _).trans bB).alloc _
  have bf:mM b1 (bP.alloc (.cells #[.string vT,n_,.slice bZ cY cg] 213)).heap.size bP.heap.size (bP.alloc (.cells #[.string vT,n_,.slice bZ cY cg] 213)):=by
   refine⟨bZ,cg,aG,?_,(ef.iz ((H [] bP).alloc (.cells #[.string vT,n_,.slice bZ cY cg] 213)) J).fin (H_ _),⟨ss,_,_,c8.out,eJ,fe,ef.sg,X,?_⟩,?_,J⟩
   .rw[<-ew.out];exact P_ bP 213 #[.string vT,n_,.slice bZ cY cg]
   .have bY:=by have:=Z_ List.length eJ;simpa[hU]using this
    rw[c8.out];simp[bY]
    have:=a2.out
    omega
   .have:=bB.size
    have:=P.lt
    have:=aj.size
    have:=(I.iW eC).size
    simp at*;omega
  replace h:=h.hF eX;replace r:=r.hF eX;replace P:=P.hF eX;replace MZ:=MZ.trans (eX.mono J);clear hL cK cw eC dm eQ ef bB eF dW c8 ew eX bp aj dx eJ fe;obtain⟨RM,ea⟩:=nm_ bP.heap.size;obtain⟨l,cu⟩:=nm_ (bP.alloc (.cells #[.string vT,n_,.slice bZ cY cg] 213));rw[<-ea]at bf |-;rw[show(bP.alloc (.cells #[.string {data:=#[109,97,105,110]},n_,.slice bZ cY cg] 213))=l from cu.symm];rw[<-cu]at bf h r P MZ;clear ea cu;obtain⟨H9,e8⟩:=nm_ l.heap.size;rw[<-e8]at bf
  have g1:m<H9:=by rw[e8];exact h.lt
  have aP:=h.f_ 3;have z3:=h.hG 3;have MU:=h.f_ 1;have aR:=h.hG 1
  go_upto_region 7 with fail
  clear aP z3 MU aR;have bl:I [m] l ((l.setCell (Z m 3) (Y 1)).setCell (Z m 1) (Y 3)):=((H [m] l).setCell (.inl J) _).setCell (.inl J) _;replace h:Bk ((l.setCell (Z m 3) (Y 1)).setCell (Z m 1) (Y 3)) m 222 #[q_ g,Y 3,Y 0,Y 1]:=(h.hV 3 _).hV 1 _;replace r:=r.ih bl p_;replace P:=P.gr bl p_;replace bf:=bf.iz bl p_;replace MZ:=MZ.hJ bl p_;have fg:=bl.size;rw[<-e8]at fg;obtain⟨bX,fS⟩:=nm_ ((l.setCell (Z m 3) (Y 1)).setCell (Z m 1) (Y 3));rw[<-fS]at h r P bf MZ fg |-;clear fS bl e8;obtain⟨W,aO⟩:=nm_ bX;rw[<-aO]at r h P bf MZ fg |-;clear aO;have T:∀y∈[g],y<W.heap.size:=p_;have aW:Ps B g m 1 3 [g] (λw=>Bk w R0 150 #[n_]/\mM b1 H9 RM w) (λ_=>True) W true W:=⟨r,⟨3,X,X,h⟩,⟨P,bf⟩,(λa=>by cases a),H _ W,λbd b a k=>⟨k.1.gr a p_,k.2.iz a p_⟩,λ_ _ _ a=>a,J,X⟩;refine iP (Ps B g m 1 3 [g] (λw=>Bk w R0 150 #[n_]/\mM b1 H9 RM w) (λ_=>True) W true) (λvs l=>∃(RA:Nat) (t:ST),vs 12=q_ RA/\W.heap.size<=RA/\Bk l RA 229 t.g_/\jL (jD W.heap.size) l t/\SG ig 2 2 t/\iQ l B g/\Lf g m 0 1 3 l/\(Bk l R0 150 #[n_]/\mM b1 H9 RM l)/\I [g,RA] W l) (I [g]) [SU.sR ig T (0),SU.sR ig T (0),SU.sR ig T (0+1),SU.Ah ig T 2 1,SU.sR ig T (0),SU.sR ig T (0),SU.sR ig T (0),SU.sR ig T (0+1),SU.Ah ig T 2 2,SU.of (λv w=>∃t:ST,v=.agg t.g_/\jL (jD W.heap.size) w t/\SG ig 1 1 t/\t.h6=3/\t.bs=[]/\t.ls=[]) (λ_ _ _ S⟨t,z,k,h3⟩=>⟨t,z,k.ih S (λx c=>Gy.2 (T x c)),h3⟩),SU.of (λv w=>∃(y:Nat) (t:ST),v=.slice (j_ y) 1 1/\W.heap.size<=y/\Bk w y 229 t.g_/\jL (jD W.heap.size) w t/\SG ig 1 1 t/\t.h6=3/\t.bs=[]/\t.ls=[]) (λ_ _ _ S⟨y,t,h0,z,k,h3,aw⟩=>⟨y,t,h0,z,k.gr S (λh=>by have:=T y h;omega),h3.ih S (λx c=>Gy.2 (T x c)),aw⟩),SU.of (λv w=>∃(x y:Nat) (t3:List ET) (t:ST),v=.agg #[Y 4,.string i6,.string i6,Y 0,Y 0,.slice (j_ x) 1 1,.slice (j_ y) 1 1,n_]/\t3.length=1/\W.heap.size<=x/\Sl w 226 5 (j_ x) 1 (t3.flatMap ET.E)/\(∀u∈t3,kq (jD W.heap.size) w u/\EG ig 2 u)/\W.heap.size<=y/\Bk w y 229 t.g_/\jL (jD W.heap.size) w t/\SG ig 1 1 t/\t.h6=3/\t.bs=[]/\t.ls=[]) (λ_ _ _ S⟨x,y,t3,t,h0,z,k,h3,aw,av,aY,bI,bY⟩=>⟨x,y,t3,t,h0,z,k,h3.iz λbh off hA c=>S.block bh c (λh=>by injection hA with hA;injection hA with hA;have:=T bh h;omega),λu hu=>⟨(aw u hu).1.ih S (λx c=>Gy.2 (T x c)),(aw u hu).2⟩,av,aY.gr S (λh=>by have:=T y h;omega),bI.ih S (λx c=>Gy.2 (T x c)),bY⟩),SU.of (λv w=>∃R,v=q_ R/\W.heap.size<=R/\Bk w R 229 #[Y 0,.string i6,.string i6,Y 0,Y 0,n_,n_,n_]) (λ_ _ _ S⟨x,k,h3,aw⟩=>⟨x,k,h3,aw.gr S (λh=>by have:=T x h;omega)⟩),SU.any _] (SU.any _) [[],[],[0,1],[2],[],[],[],[5,6],[4,7],[8],[9],[3,10],[],[12,11]] true [(some 38,0),(some 39,1),(some 40,2),(some 41,3),(some 42,4),(some 43,5),(some 44,6),(some 45,7),(some 46,8),(some 47,9),(some 48,10),(some 49,11),(some 6,12),(none,13)] k_ k_ (λ_ _ _ _ _ a=>a) k_ rfl rfl k_ aW ⟨?_,?_,?_,?_,?_,?_,?_,?_,?_,?_,?_,?_,?_,?_,trivial⟩ ?_
  .refine hS [] ?_;intro vs Q C M0 K MY;clear M0
   try simp only[b_]at MY |-
   go_simp
   go_at_call 144
   refine(kb _).mono ?_;rintro e w1⟨rfl,hg1⟩;exact MY.out _ _ (C.hF hg1) (hg1.mono J) ⟨jz 0,rfl,kq.leaf _ _ _ _ _ _,.num _ _ X X⟩
  .exact JF
  .refine hS [(some 38,0),(some 39,1)] ?_;intro vs Q C M0 K MY;exact Jt
  .refine hS [(some 40,2)] ?_;intro vs Q C M0 K MY;exact Jb
  .refine hS [] ?_;intro vs Q C M0 K MY;clear M0
   try simp only[b_]at MY |-
   go_simp
   go_at_call 145
   refine(ke _).mono ?_;rintro e w1⟨rfl,hg1⟩;exact MY.out _ _ (C.hF hg1) (hg1.mono J) ⟨jA vU,rfl,kq.leaf _ _ _ _ _ _,.var _ _ (by simp[ig,hU])⟩
  .exact JF
  .refine hS [] ?_;intro vs Q C M0 K MY;exact JZ
  .refine hS [(some 43,5),(some 44,6)] ?_;intro vs Q C M0 K MY;obtain⟨⟨ta,o,aq,E⟩,⟨aI,aL,V,d⟩, -⟩:=M0
   try simp only[b_,o,aL]at MY |-
   go_simp
   go_at_call 143
   refine(oF W.heap.size 2 ta aI C.hz aq V).mono ?_;rintro e w1⟨A,rfl,MX,hg1⟩;exact MY.out _ _ (C.hF hg1) (hg1.mono J) ⟨pY 2 A ta aI,rfl,MX,.bin 0 _ _ _ _ X X (E.mono X) (d.mono X)⟩
  .refine hS [(some 42,4),(some 45,7)] ?_;intro vs Q C M0 K MY;obtain⟨⟨ta,o,aq,E⟩,⟨aI,aL,V,d⟩, -⟩:=M0
   try simp only[b_,o,aL]at MY |-
   obtain⟨bF,bH,bJ,b0,b4,b5,b6⟩:=ta;obtain⟨eg,eh,ei,ej,ek,em,eo⟩:=aI;simp only[ET.ij]at MY |-;go_simp;refine MY.out _ _ (C.hF ((H [] _).alloc _)) ((H _ _).alloc _) ⟨_,[ET.mk bF bH bJ b0 b4 b5 b6,ET.mk eg eh ei ej ek em eo],rfl,rfl,C.hz,sX (ET.mk bF bH bJ b0 b4 b5 b6) (ET.mk eg eh ei ej ek em eo) (P_ _ _ _),?_⟩;exact Kb
  .refine hS [(some 46,8)] ?_;intro vs Q C M0 K MY;obtain⟨⟨be,ta,o,cN,bj,bi,c6⟩, -⟩:=M0
   try simp only[b_,o]at MY |-
   go_simp;refine MY.out _ _ C (H _ _) ⟨(lN 3 u0 pX 0 0 (j_ be) ta.length ta),?_,jL.es _ _ _ _ _ (by rw[cN];exact bi) bj (λu hu=>(c6 u hu).1),SG.leaf (t:=(lN 3 u0 pX 0 0 (j_ be) ta.length ta)) (by show mY _ 3 u0 pX 0 0 ta.length _ _;rw[cN];exact .wq _ (by simp[ig,hU])) rfl rfl (λu hu=>(c6 u hu).2),rfl,rfl,rfl⟩
   show Value.agg _=Value.agg (lN 3 u0 pX 0 0 (j_ be) ta.length ta).g_
   simp only[lN,ST.ij,cN]
   rfl
  .refine hS [(some 47,9)] ?_;intro vs Q C M0 K MY;obtain⟨⟨ta,o,aq,E,f3⟩, -⟩:=M0
   try simp only[b_,o]at MY |-
   obtain⟨s1,b7,cz,dn,ca,bV,cr,dq,cJ,bG,sb,sc,dL,dM⟩:=ta;simp only[ST.ij]at MY |-;go_simp;exact MY.out _ _ (C.hF ((H [] _).alloc _)) ((H _ _).alloc _) ⟨_,ST.mk s1 b7 cz dn ca bV cr dq cJ bG sb sc dL dM,rfl,C.hz,P_ _ _ _,aq.hF ((H [] _).alloc _),E,f3⟩
  .refine hS [(some 41,3),(some 48,10)] ?_;intro vs Q C M0 K MY;obtain⟨⟨be,ta,o,cN,bj,bi,c6⟩,⟨dr,aI,aL,cI,bC,V,d⟩, -⟩:=M0
   try simp only[b_,o,aL]at MY |-
   go_simp;exact MY.out _ _ C (H _ _) ⟨be,dr,ta,aI,rfl,cN,bj,bi,c6,cI,bC,V,d⟩
  .refine hS [] ?_;intro vs Q C M0 K MY;clear M0
   try simp only[b_]at MY |-
   go_simp;exact MY.out _ _ (C.hF ((H [] _).alloc _)) ((H _ _).alloc _) ⟨_,rfl,C.hz,P_ _ _ _⟩
  .refine jv [(some 6,12),(some 49,11)] ?_;intro vs Q C M0 K MY;obtain⟨⟨be,o,bj,bi⟩,⟨aQ,dr,sb,aI,aL,nb,cI,bC,cU,dj,c3,V,d,fk⟩, -⟩:=M0
   try simp only[b_,o,aL]at MY |-
   have g4:dr≠be:=by
    intro he;subst he;have z:Q.heap[dr]?=_:=c3;have k:Q.heap[dr]?=_:=bi;rw[z]at k;have h3:=fk.1;obtain⟨s1,b7,cz,dn,ca,bV,cr,dq,cJ,bG,sb,sc,dL,dM⟩:=aI;simp only[ST.ij]at k;simp at k;have aw:s1=3:=h3;omega
   have g2:=bC.zO O bi O;refine iZ k_ ?_;refine ia 229 rfl be r_ #[Y 4,.string i6,.string i6,Y 0,Y 0,.slice (j_ aQ) 1 1,.slice (j_ dr) 1 1,n_] r_ 229 bi rfl k_ (by simp[Value.oneCell']) ?_;intro l aB G;refine MY.out undef _ (λ_=>⟨be,ST.mk 4 i6 i6 0 0 (j_ aQ) 1 sb (j_ dr) 1 [aI] none 0 [],o,bj,?_,?_,?_,C.d.ih G p_,C.lf.gr G p_,⟨C.f.1.gr G p_,C.f.2.iz G p_⟩,(C.gr.mono J).trans (G.mono J)⟩)
   .simp only[ST.ij,nb];exact aB
   .refine jL.mk _ (by rw[show((ST.mk 4 i6 i6 0 0 (j_ aQ) 1 sb (j_ dr) 1 [aI] none 0 []).es.length)=1 from nb];exact bC.iz λbh off hA c=>G.block bh c (λh=>by injection hA with hA;injection hA with hA;simp at h;omega)) (Nat.le_of_eq nb) (λbh off a _=>by injection a with a;injection a with a;omega) (λu hu=>(((cU u hu).1.zO bi O).ih G (by intro bh hz hp;simp at hz;exact hp.2 hz)).imp λ_ hp=>hp.1) ((rc aI c3).iz λbh off hA c=>G.block bh c (λh=>by injection hA with hA;injection hA with hA;simp at h;omega)) (H_ _) (λbh off a _=>by injection a with a;injection a with a;omega) ?_ (Gw _ _ _ _) (H_ _) (λ_ _ a _=>by cases a) (λu hu=>by cases hu);intro u hu
    have:u=aI:=I_.1 hu
    subst this
    exact((V.FC fk.2.1 fk.2.2 bi O).ih G (by intro bh hz hp;simp at hz;exact hp.2 hz)).imp λ_ hp=>hp.1
   .exact SG.node (nb:=1) (nl:=0) (t:=ST.mk 4 i6 i6 0 0 (j_ aQ) 1 sb (j_ dr) 1 [aI] none 0 []) (by show mY _ 4 i6 i6 0 0 sb.length true true;rw[nb];exact .D3) (λu hu=>(cU u hu).2) d (.nil _)
  intro vs bu C;simp only[b_];clear r h P bf aW;obtain⟨RA,tA,fC,gK,hA,er,fO,r,dO,⟨P,bf⟩,G⟩:=C;rw[fC];clear fC;replace MZ:=MZ.hJ G p_;have dg:=G_ fg G.size
  go_upto_region 8 with fail
  have gU:b1<=H9:=by obtain⟨_,_,_,_,_,_,z,k⟩:=bf;omega
  replace er:=er.lt.imp (q:=λx=>b1<=x/\x<bu.heap.size) (λx c=>⟨by have:W.heap.size<=x:=c.1;omega,c.2⟩);have gP:b1<=RA:=X;obtain⟨W,aO⟩:=nm_ bu;rw[<-aO]at r dO P bf hA er MZ dg |-;clear aO;obtain⟨HA,e9⟩:=nm_ W.heap.size
  have gO:RA<HA:=by rw[e9];exact hA.lt
  rw[<-e9]at er dg;have eU:=T;clear T;have T:∀y∈[g,m],y<HA:=p_;have eZ:g<B/\B<=m/\R0<m/\g<R0/\m<b1/\b1<=HA/\H9<=HA/\RA<HA/\b1<=RA/\W.heap.size=HA:=⟨X,X,X,X,X,X,X,X,X,e9.symm⟩;have cf:=(H [] W).drew
  obtain⟨s1,b7,cz,dn,ca,bV,cr,dq,cJ,bG,sb,sc,dL,dM,fK⟩:∃s1 b7 cz dn ca bV cr dq cJ bG sb sc dL dM,tA=ST.mk s1 b7 cz dn ca bV cr dq cJ bG sb sc dL dM:=by
   cases tA
   exact⟨_,_,_,_,_,_,_,_,_,_,_,_,_,_,rfl⟩
  have fj:=U fK;clear fK e9
  have aW:∀vs,sB B g m R0 b1 H9 RM RA HA tA W (λ_=>false) vs W.drew:=λvs=>⟨r.hF cf,dO.gr cf J,P.hF cf,bf.iz cf J,hA.hF cf,er.hF cf,(λ_ _ _ _ a=>by cases a),(λa=>by cases a),(λa=>by cases a),(λa=>by cases a),(λa=>a),cf.mono J,eZ⟩
  refine od (λf vs=>sB B g m R0 b1 H9 RM RA HA tA W f vs) (λvs l=>∃(c9 x:Nat) (A:OA) (j:Nat) (us:List ST) (K:Nat),vs 21=q_ c9/\HA<=c9/\Bk l c9 213 #[.string pX,.slice (j_ x) 2 2,.slice A us.length j]/\HA<=x/\Bk l x 9 #[.string {data:=#[112]},.string {data:=#[110]}]/\lH ig b1 5 K l A j us/\(K<=15/\us.length<=11/\FG us/\∀y,(Value.slice A us.length j).ownBlock=some y->HA<=y)/\iQ l B g/\Lf g m 0 1 3 l/\Bk l R0 150 #[n_]/\mM b1 H9 RM l/\I [g,m] W l/\True) (G8 g m HA) [SU.zN [] (λv w=>∃x,v=.slice (j_ x) 2 2/\HA<=x/\Bk w x 9 #[.string {data:=#[112]},.string {data:=#[110]}]) (λ_ _ _ _ _ S⟨x,z,k,h3⟩=>⟨x,z,k,S.bk h3 O X X⟩),SU.mx _ (.agg (jz 1).g_),SU.anyI _,SU.mx _ (.agg (jz 0).g_),SU.anyI _,SU.mx _ (.agg (jz 2).g_),SU.anyI _,SU.mx _ (.agg (jA pa).g_),SU.anyI _,SU.mx _ (.agg (jz 0).g_),SU.anyI _,SU.mx _ (.agg (jz 0).g_),SU.anyI _,SU.mx _ (.agg (jz 0).g_),SU.anyI _,SU.mx _ (.agg tA.g_),SU.anyI _,SU.mx _ (q_ m),SU.anyI _,SU.zN [19] (λv w=>∃(A:OA) (j:Nat) (us:List ST) (K:Nat),v=.slice A us.length j/\lH ig b1 5 K w A j us/\K<=15/\us.length<=11/\FG us/\∀y,(Value.slice A us.length j).ownBlock=some y->HA<=y) (λi hi v w w' S⟨A,j,us,K,z,k,h3⟩=>⟨A,j,us,K,z,k.iz (S.gr hi) p_,h3⟩),SU.zN [19] (λv w=>∃(x:Nat) (A:OA) (j:Nat) (us:List ST) (K:Nat),v=.agg #[.string pX,.slice (j_ x) 2 2,.slice A us.length j]/\HA<=x/\Bk w x 9 #[.string {data:=#[112]},.string {data:=#[110]}]/\lH ig b1 5 K w A j us/\K<=15/\us.length<=11/\FG us/\∀y,(Value.slice A us.length j).ownBlock=some y->HA<=y) (λi hi v w w' S⟨x,A,j,us,K,z,h0,c,k,h3⟩=>⟨x,A,j,us,K,z,h0,S.bk c O X X,k.iz (S.gr hi) p_,h3⟩),SU.zN [] (λv w=>∃R,v=q_ R/\HA<=R/\Bk w R 213 #[.string i6,n_,n_]) (λ_ _ _ _ _ S⟨x,z,k,h3⟩=>⟨x,z,k,S.bk h3 O X X⟩),SU.anyI _] (SU.anyI _) [[],[],[1],[],[3],[],[5],[],[7],[],[9],[],[11],[],[13],[],[2,4,6,8,10,12,14,15],[],[17],[16,18],[0,19],[],[21,20]] true [(some 50,0),(some 51,1),(some 52,2),(some 53,3),(some 54,4),(some 55,5),(some 56,6),(some 57,7),(some 58,8),(some 59,9),(some 60,10),(some 61,11),(some 62,12),(some 63,13),(some 64,14),(some 65,15),(some 66,16),(some 67,17),(some 68,18),(some 69,19),(some 70,20),(some 7,21),(none,22)] k_ k_ k_ (λ_ _ _ _ _ a=>a) k_ rfl rfl k_ aW ⟨?_,?_,?_,?_,?_,?_,?_,?_,?_,?_,?_,?_,?_,?_,?_,?_,?_,?_,?_,?_,?_,?_,?_,trivial⟩ ?_
  .exact J4
  .refine jR [] ?_;intro f vs Q hf hp C M0 K MY;clear M0
   try simp only[b_]at MY |-
   go_simp
   go_at_call 144
   refine(kb 1).mono ?_;exact Mc
  .refine jR [(some 51,1)] ?_;intro f vs Q hf hp C M0 K MY;obtain⟨o, -⟩:=M0;replace o:_=_:=o
   try simp only[b_,o]at MY |-
   go_simp
   go_at_call 142
   refine(kJ HA vU (jz 1) _ C.hz (kq.leaf _ _ _ _ _ _)).mono ?_;rintro e w1⟨A,rfl,MX,hg1⟩;exact MY.out _ _ (C.xR (x:=vU) (by simp[mS]) (by intro y hy;simp[mS]at hy;exact hy) hg1 ⟨A,jz 1,rfl,MX,SG.leaf (t:=i4 vU A (jz 1)) (.vb _ (show vU∈ig by simp[ig,hU])) rfl rfl (by intro u hu;rcases M_.1 hu with rfl|hu;exact .num _ _ X X;cases hu)⟩) (G8.js O hg1) trivial
  .exact JW
  .refine jR [(some 53,3)] ?_;intro f vs Q hf hp C M0 K MY;obtain⟨o, -⟩:=M0;replace o:_=_:=o
   try simp only[b_,o]at MY |-
   go_simp
   go_at_call 142
   refine(kJ HA u0 (jz 0) _ C.hz (kq.leaf _ _ _ _ _ _)).mono ?_;rintro e w1⟨A,rfl,MX,hg1⟩;exact MY.out _ _ (C.xR (x:=u0) (by simp[mS]) (by intro y hy;simp[mS]at hy;exact hy) hg1 ⟨A,jz 0,rfl,MX,SG.leaf (t:=i4 u0 A (jz 0)) (.vb _ (show u0∈ig by simp[ig,hU])) rfl rfl (by intro u hu;rcases M_.1 hu with rfl|hu;exact .num _ _ X X;cases hu)⟩) (G8.js O hg1) trivial
  .refine jR [] ?_;intro f vs Q hf hp C M0 K MY;clear M0
   try simp only[b_]at MY |-
   go_simp
   go_at_call 144
   refine(kb 2).mono ?_;exact Mc
  .refine jR [(some 55,5)] ?_;intro f vs Q hf hp C M0 K MY;obtain⟨o, -⟩:=M0;replace o:_=_:=o
   try simp only[b_,o]at MY |-
   go_simp
   go_at_call 142
   refine(kJ HA vi (jz 2) _ C.hz (kq.leaf _ _ _ _ _ _)).mono ?_;rintro e w1⟨A,rfl,MX,hg1⟩;exact MY.out _ _ (C.xR (x:=vi) (by simp[mS]) (by intro y hy;simp[mS]at hy;exact hy) hg1 ⟨A,jz 2,rfl,MX,SG.leaf (t:=i4 vi A (jz 2)) (.vb _ (show vi∈ig by simp[ig,hU])) rfl rfl (by intro u hu;rcases M_.1 hu with rfl|hu;exact .num _ _ X X;cases hu)⟩) (G8.js O hg1) trivial
  .refine jR [] ?_;intro f vs Q hf hp C M0 K MY;clear M0
   try simp only[b_]at MY |-
   go_simp
   go_at_call 145
   refine(ke pa).mono ?_;exact Mc
  .refine jR [(some 57,7)] ?_;intro f vs Q hf hp C M0 K MY;obtain⟨o, -⟩:=M0;replace o:_=_:=o
   try simp only[b_,o]at MY |-
   go_simp
   go_at_call 142
   refine(kJ HA m6 (jA pa) _ C.hz (kq.leaf _ _ _ _ _ _)).mono ?_;rintro e w1⟨A,rfl,MX,hg1⟩;exact MY.out _ _ (C.xR (x:=m6) (by simp[mS]) (by intro y hy;simp[mS]at hy;exact hy) hg1 ⟨A,jA pa,rfl,MX,SG.leaf (t:=i4 m6 A (jA pa)) (.vb _ (show m6∈ig by simp[ig,hU])) rfl rfl (by intro u hu;rcases M_.1 hu with rfl|hu;exact .var _ _ (by simp[ig,hU]);cases hu)⟩) (G8.js O hg1) trivial
  .exact JW
  .refine jR [(some 59,9)] ?_;intro f vs Q hf hp C M0 K MY;obtain⟨o, -⟩:=M0;replace o:_=_:=o
   try simp only[b_,o]at MY |-
   go_simp
   go_at_call 142
   refine(kJ HA oL (jz 0) _ C.hz (kq.leaf _ _ _ _ _ _)).mono ?_;rintro e w1⟨A,rfl,MX,hg1⟩;exact MY.out _ _ (C.xR (x:=oL) (by simp[mS]) (by intro y hy;simp[mS]at hy;exact hy) hg1 ⟨A,jz 0,rfl,MX,SG.leaf (t:=i4 oL A (jz 0)) (.vb _ (show oL∈ig by simp[ig,hU])) rfl rfl (by intro u hu;rcases M_.1 hu with rfl|hu;exact .num _ _ X X;cases hu)⟩) (G8.js O hg1) trivial
  .exact JW
  .refine jR [(some 61,11)] ?_;intro f vs Q hf hp C M0 K MY;obtain⟨o, -⟩:=M0;replace o:_=_:=o
   try simp only[b_,o]at MY |-
   go_simp
   go_at_call 142
   refine(kJ HA xt (jz 0) _ C.hz (kq.leaf _ _ _ _ _ _)).mono ?_;rintro e w1⟨A,rfl,MX,hg1⟩;exact MY.out _ _ (C.xR (x:=xt) (by simp[mS]) (by intro y hy;simp[mS]at hy;exact hy) hg1 ⟨A,jz 0,rfl,MX,SG.leaf (t:=i4 xt A (jz 0)) (.vb _ (show xt∈ig by simp[ig,hU])) rfl rfl (by intro u hu;rcases M_.1 hu with rfl|hu;exact .num _ _ X X;cases hu)⟩) (G8.js O hg1) trivial
  .exact JW
  .refine jR [(some 63,13)] ?_;intro f vs Q hf hp C M0 K MY;obtain⟨o, -⟩:=M0;replace o:_=_:=o
   try simp only[b_,o]at MY |-
   go_simp
   go_at_call 142
   refine(kJ HA xq (jz 0) _ C.hz (kq.leaf _ _ _ _ _ _)).mono ?_;rintro e w1⟨A,rfl,MX,hg1⟩;exact MY.out _ _ (C.xR (x:=xq) (by simp[mS]) (by intro y hy;simp[mS]at hy;exact hy) hg1 ⟨A,jz 0,rfl,MX,SG.leaf (t:=i4 xq A (jz 0)) (.vb _ (show xq∈ig by simp[ig,hU])) rfl rfl (by intro u hu;rcases M_.1 hu with rfl|hu;exact .num _ _ X X;cases hu)⟩) (G8.js O hg1) trivial
  .refine jR [] ?_;intro f vs Q hf hp C M0 K MY;clear M0
   try simp only[b_]at MY |-
   refine iZ k_ ?_;refine oN 229 _ rfl RA 0 r_ 229 tA.g_ tA.g_ C.a (λbk _=>by rw[W_]) _ underlying229 rfl k_ ?_;exact MY.out _ _ (C.sa O (H [] _)) (G8.js O (H [] _)) rfl
  .refine jR [(some 52,2),(some 54,4),(some 56,6),(some 58,8),(some 60,10),(some 62,12),(some 64,14),(some 65,15)] ?_;intro f vs Q hf hp C M0 K MY;obtain⟨-, -, -, -, -, -, -,d9, -⟩:=M0;replace d9:_=_:=d9
   try simp only[b_,d9]at MY |-
   have bv:f 19=false:=by
    cases a:f 19 with
    |false=>rfl
    |true=>rw[C.EJ a]at hf;cases hf
   obtain⟨ap,e1,aK,i2,a8⟩:=C.oY bv 2 vU (by simp[mS]) (hp 2 O);obtain⟨aM,e2,b8,dy,dX⟩:=C.oY bv 4 u0 (by simp[mS]) (hp 4 O);obtain⟨aH,e3,dC,gE,dQ⟩:=C.oY bv 6 vi (by simp[mS]) (hp 6 O);obtain⟨bZ,u8,d0,gF,eM⟩:=C.oY bv 8 m6 (by simp[mS]) (hp 8 O);obtain⟨cV,eH,e10,gB,ft⟩:=C.oY bv 10 oL (by simp[mS]) (hp 10 O);obtain⟨fi,fT,f1,gC,gG⟩:=C.oY bv 12 xt (by simp[mS]) (hp 12 O);obtain⟨fx,fU,f2,gD,gH⟩:=C.oY bv 14 xq (by simp[mS]) (hp 14 O);have fL:=C.ta;rw[fj.out]at fL fO
   have eB:tA.g_=(ST.mk s1 b7 cz dn ca bV cr dq cJ bG sb sc dL dM).g_:=by rw[fj.out]
   simp only[aK,b8,dC,d0,e10,f1,f2]at MY |-;simp only[i4,ST.ij,eB]at MY |-;go_simp;have cn:b1<=HA:=X;refine MY.out _ _ (C.E4 hf ((H [] _).alloc _) (us:=[i4 vU ap e1,i4 u0 aM e2,i4 vi aH e3,i4 m6 bZ u8,i4 oL cV eH,i4 xt fi fT,i4 xq fx fU,tA]) rfl rfl ?_ ?_) (G8.js O ((H [] _).alloc _)) trivial
   .refine⟨[i4 vU ap e1,i4 u0 aM e2,i4 vi aH e3,i4 m6 bZ u8,i4 oL cV eH,i4 xt fi fT,i4 xq fx fU],tA,rfl,rfl,?_⟩;intro s hs
    iterate 7 (rcases M_.1 hs with rfl|hs;exact rfl)
    cases hs
   .rw[fj.out];refine⟨ox (s7 (n:=8) (s:=8) (P_ Q 229 _) rfl (H_ _) O) (ov C.hz),?_,?_⟩
    .intro u hu
     rcases M_.1 hu with rfl|hu
     .exact i2.fresh (λx c=>G_ cn c)
     rcases M_.1 hu with rfl|hu
     .exact dy.fresh (λx c=>G_ cn c)
     rcases M_.1 hu with rfl|hu
     .exact gE.fresh (λx c=>G_ cn c)
     rcases M_.1 hu with rfl|hu
     .exact gF.fresh (λx c=>G_ cn c)
     rcases M_.1 hu with rfl|hu
     .exact gB.fresh (λx c=>G_ cn c)
     rcases M_.1 hu with rfl|hu
     .exact gC.fresh (λx c=>G_ cn c)
     rcases M_.1 hu with rfl|hu
     .exact gD.fresh (λx c=>G_ cn c)
     rcases M_.1 hu with rfl|hu
     .exact fL.fresh (λx c=>c.1)
     .cases hu
    .exact(((((((a8.mono O).append (dX.mono O)).append (dQ.mono O)).append (eM.mono O)).append (ft.mono O)).append (gG.mono O)).append (gH.mono O)).append (fO.mono O)
  .refine jR [] ?_;intro f vs Q hf hp C M0 K MY;clear M0
   try simp only[b_]at MY |-
   go_simp;exact MY.out _ _ (C.sa O (H [] _)) (G8.js O (H [] _)) rfl
  .refine jR [(some 67,17)] ?_;intro f vs Q hf hp C M0 K MY;obtain⟨o, -⟩:=M0;replace o:_=_:=o
   try simp only[b_,o]at MY |-
   obtain⟨cH,ev,eD,cG⟩:=C.lf;go_simp
   go_at_call 139
   refine((tk B g m 1).2 1 2 cH 0 _ rfl X X C.d cG hBm ev X X J).mono ?_;rintro e w1⟨A,j,ts,N,al,rfl,di,cp,cy,d3,bA,cC,bK,a7⟩;exact MY.out _ _ (C.E3 hf a7 bK ⟨al,cy,X,cC⟩ rfl X X cp) (by unfold G8;rw[R_ O,U_ O];exact a7) trivial
  .refine jR [(some 66,16),(some 68,18)] ?_;intro f vs Q hf hp C M0 K MY;obtain⟨-, -, -⟩:=M0
   try simp only[b_]at MY |-
   obtain⟨x,us,A,j,ts,N,dt,ed,eu,fG,e0,dG,af,gN,fH,gl⟩:=C.hj (hp 16 O) (hp 18 O) hf;have fh:=C.hz;simp only[dt,dG]at MY |-;have cq:=fG.own;rw[ed]at cq;refine iZ k_ ?_;refine oO _ _ _ rfl b1 229 i1 _ 8 128 underlying211 bS cj co cv rfl O O (j_ x) 8 8 (us.flatMap ST.E) r_ cq A ts.length j (ts.flatMap ST.E) r_ fH.sl (kZ) X X ?_;intro ap ai bP de bE bD;have db:=fG.add (us:=ts) (A':=ap) (c':=ai) (by rw[ed];exact de) (by rw[ed];exact bE) (by rw[ed];exact bD) (λu hu=>(gl u hu).imp (λy hy=>⟨hy.1,λhe=>by simp[Value.ownBlock]at he;exact hy.2 he.symm⟩)) ((fH.sg.sub (λs hs=>by simp[ig,hs])).mono X);have aF:=I.iW bE
   have eV:∀y∈oK (Value.slice (j_ x) 8 8).ownBlock,y=x:=λy hy=>by have:=jK.1 hy;simp[Value.ownBlock]at this;exact this.symm
   refine MY.out (.slice ap (8+ts.length) ai) _ (C.E2 (hp 16 O) (hp 18 O) aF (λy hy=>by rw[eV y hy];exact e0)) ?_ ⟨ap,ai,us++ts,9+N,by rw[J_,ed],db,X,by rw[J_,ed];omega,?_,?_⟩
   .unfold G8;rw[U_ O];refine⟨_,aF,λy hy=>?_⟩;rw[eV y hy];refine⟨e0,λt cs hk=>?_⟩
    rcases cq.2 with⟨hv,_⟩|⟨q,l3,cur,hv,_,az,_⟩
    .cases hv
    .injection hv with hv;injection hv with hv;injection hv with hv;subst hv;have cM:Q.heap[x]?=_:=hk;rw[az]at cM;simp at cM;exact cM.2.symm
   .obtain⟨cr,ep,hu,hn,hk⟩:=eu;exact⟨cr,ep,ts,by rw[hu];simp,hn,hk⟩
   .intro y hy;rw[J_,ed]at hy
    rcases bD with bD|bD
    .rw[bD]at hy;simp[Value.ownBlock]at hy;omega
    .rw[bD]at hy;injection hy with hy;omega
  .refine jR [(some 50,0),(some 69,19)] ?_;intro f vs Q hf hp C M0 K MY;obtain⟨⟨be,o,bj,bi⟩,⟨dB,cb,aI,eR,aL,dY,nb⟩, -⟩:=M0
   try simp only[b_,o,aL]at MY |-
   go_simp;exact MY.out _ _ (C.sa O (H [] _)) (G8.js O (H [] _)) ⟨be,dB,cb,aI,eR,rfl,bj,bi,dY,nb⟩
  .exact J4
  .refine vF [(some 7,21),(some 70,20)] ?_;intro f vs Q hf hp C M0 K MY;obtain⟨⟨be,o,bj,bi⟩,⟨aQ,dB,cb,aI,eR,aL,cI,bC,dY,nb⟩, -⟩:=M0
   try simp only[b_,o,aL]at MY |-
   have ar:=Bk.l8 bC bi O;refine iZ k_ ?_;refine ia 213 rfl be r_ #[.string pX,.slice (j_ aQ) 2 2,.slice dB aI.length cb] r_ 213 bi rfl k_ (by simp[Value.oneCell']) ?_;intro l aB G;obtain⟨z,k,h3,aw,av⟩:=C.base G p_;exact MY.out undef _ (λ_=>⟨be,aQ,dB,cb,aI,eR,o,bj,aB,cI,bC.gr G (zu ar),dY.Eb bi G,nb,C.d.ih G p_,C.lf.gr G p_,z,k,av,trivial⟩)
  intro f vs bu hf C;simp only[b_];clear r dO P bf hA er aW;obtain⟨c9,ay,cW,cR,p,eP,fD,gR,bx,g3,MV,da,eA,r,dO,P,bf,G, -⟩:=C;rw[fD];clear fD;replace MZ:=MZ.hJ G p_;obtain⟨dz,gY,gZ,h⟩:=dO;clear G;have aP:=h.f_ 3;have z3:=h.hG 3;have MU:=h.f_ 1;have aR:=h.hG 1
  go_upto_region 10 with fail
  clear aP z3 MU aR;have bl:I [m] bu ((bu.setCell (Z m 3) (Y 2)).setCell (Z m 1) (Y 3)):=((H [m] bu).setCell (.inl J) _).setCell (.inl J) _;replace h:Bk ((bu.setCell (Z m 3) (Y 2)).setCell (Z m 1) (Y 3)) m 222 #[q_ g,Y 3,Y 0,Y 2]:=(h.hV 3 _).hV 1 _;replace r:=r.ih bl p_;replace P:=P.gr bl p_;replace bf:=bf.iz bl p_;replace bx:=bx.gr bl p_;replace MV:=MV.gr bl p_;replace da:=da.iz bl p_;replace MZ:=MZ.hJ bl p_;have gz:=bl.size;obtain⟨aS,df⟩:=nm_ ((bu.setCell (Z m 3) (Y 2)).setCell (Z m 1) (Y 3));rw[<-df]at h r P bf bx MV da MZ gz |-;clear df bl;have cT:=r.hF ((H [] aS).alloc (.cells #[.string {data:=#[113]}] 9));have cF:=h.alloc (.cells #[.string {data:=#[113]}] 9)
  have gp:∀y,(Value.slice cW p.length cR).ownBlock=some y->y<aS.heap.size:=λy hy=>(kk da.own hy).2
  have gd:c9<aS.heap.size/\ay<aS.heap.size:=⟨bx.lt,MV.lt⟩;have g6:b1<=aS.heap.size:=ov bx.lt
  go_upto_region 11 with(first|(go_at_call 139;refine((tk B g m 2).2 1 2 3 0 _ rfl X X cT cF hBm X X X J).mono ?_;rintro e eN⟨A,j,ts,N,al,rfl,di,cp,cy,d3,bA,cC,bK,a7⟩;obtain⟨n0,hn0⟩:=nm_ ts.length;have a2:=U hn0;rw[<-hn0];rw[<-hn0]at di;clear hn0)|(go_at_call 141;go_loud (refine(uD aS.heap.size 2 N A n0 j ts (j_ eN.heap.size) 3 9 a2.out.symm (by rw[a2.out];exact(cp.iz ((H [] eN).alloc (.cells #[.string {data:=#[105]},.string {data:=#[106]},.string {data:=#[107]}] 9)) J).sl) X (λu hu=>((cp.iz ((H [] eN).alloc (.cells #[.string {data:=#[105]},.string {data:=#[106]},.string {data:=#[107]}] 9)) J).from u hu).le J) cp.sg (by have:=a7.size;simp at this |-;omega) (jj (n:=3) (s:=1) (P_ eN 9 #[.string {data:=#[105]},.string {data:=#[106]},.string {data:=#[107]}]) rfl)).mono ?_;rintro e bP⟨bZ,cg,ss,rfl,ef,eJ,fe,bB,eF,dW⟩;obtain⟨aG,eb⟩:=nm_ (ss++ts);rw[<-eb]at ef dW;rw[<-eb];have c8:=U eb;obtain⟨cY,dK⟩:=nm_ aG.length;have ew:=U dK;rw[<-dK];clear eb dK)))
  obtain⟨wc,d6⟩:=nm_ (bP.alloc (.cells #[.string pz,.slice (j_ aS.heap.size) 1 1,.slice bZ cY cg] 213))
  have bt:I [g,m] aS wc:=by rw[d6];exact(((((H [g,m] aS).alloc _).trans a7).alloc _).trans (bB.mono J)).alloc _
  have d2:I [] eN wc:=by rw[d6];exact(((H [] eN).alloc _).trans bB).alloc _
  replace r:=bK.hF d2;clear h;have h:=cC.hF d2;replace P:=P.gr bt p_;replace bf:=bf.iz bt p_;replace bx:=bx.gr bt p_;replace MV:=MV.gr bt p_;replace da:=da.iz bt p_;replace MZ:=MZ.hJ bt p_
  have dD:lH hU aS.heap.size 3 (8+N) wc bZ cg aG:=by rw[d6];exact ef.iz ((H [] bP).alloc _) J
  have aD:Bk wc aS.heap.size 9 #[.string m6]:=by rw[d6];exact(((P_ aS 9 #[.string m6]).gr a7 p_).alloc _ |>.hF bB).alloc _
  have cX:Bk wc bP.heap.size 213 #[.string pz,.slice (j_ aS.heap.size) 1 1,.slice bZ cY cg]:=by rw[d6];exact P_ bP 213 #[.string pz,.slice (j_ aS.heap.size) 1 1,.slice bZ cY cg]
  obtain⟨dN,fm⟩:=nm_ bP.heap.size;obtain⟨xg,eL⟩:=nm_ aS.heap.size;have gW:b1<=xg:=X
  have gV:xg<dN:=by have:=bB.size;have:=a7.size;simp at*;omega
  have g0:cY<=20:=by
   have bY:=by have:=Z_ List.length eJ;simpa[hU]using this
   rw[ew.out,c8.out,J_,bY,<-a2.out];omega
  have gL:N<=6:=X;rw[<-fm,<-eL]at cX;rw[<-eL]at aD dD
  have fP:∀y,(Value.slice cW p.length cR).ownBlock=some y->y<xg:=λy hy=>by rw[eL];exact gp y hy
  have gQ:c9<xg/\ay<xg:=by rw[eL];exact gd
  rw[show bP.alloc (.cells #[.string {data:=#[103]},.slice (j_ aS.heap.size) 1 1,.slice bZ cY cg] 213)=wc from d6.symm,<-fm,<-eL];clear d6 bt d2 bK cC a7 ef bB eF dW cp fm eL cT cF;have f6:=da;obtain⟨W,aO⟩:=nm_ wc;rw[<-aO]at r h P bf bx MV da MZ dD aD cX |-;clear aO f6;have gj:xg<=W.heap.size:=ov cX.lt
  have aW:∀vs,q0 xg W (λ_=>false) vs W.drew:=λvs=>⟨(λ_ a=>by cases a),(λ_ a=>by cases a),(λa=>by cases a),(H [] W).drew⟩
  refine od (λf vs=>q0 xg W f vs) (λvs l=>∃(A:OA) (j:Nat) (A1:OA),Bk l dN 213 #[.string pz,.slice (j_ xg) 1 1,.slice A ([(i4 oL A1 (jA m6))]++aG).length j]/\lH hU xg 3 (1+(8+N)) l A j ([(i4 oL A1 (jA m6))]++aG)/\I [dN] W l) (zT W.heap.size) [SU.mx _ (.agg (jA m6).g_),SU.anyI _,SU.anyI _,SU.mx _ (.pointer (some (Z dN 2))),SU.mx _ (.slice bZ cY cg),SU.zN [5] (λv w=>∃(A:OA) (j:Nat) (A1:OA),v=.slice A ([(i4 oL A1 (jA m6))]++aG).length j/\lH hU xg 3 (1+(8+N)) w A j ([(i4 oL A1 (jA m6))]++aG)) (λi hi v w w' S⟨A,j,A1,z,k⟩=>⟨A,j,A1,z,by unfold zT at S;rw[R_ (zu hi)]at S;exact k.iz S J⟩),SU.mx _ (.pointer (some (Z dN 2))),SU.anyI _] (SU.anyI _) [[],[0],[1],[],[3],[2,4],[],[6,5]] true [(some 83,0),(some 84,1),(some 85,2),(some 86,3),(some 87,4),(some 88,5),(some 89,6),(none,7)] k_ k_ k_ (λ_ _ _ _ _ a=>a) k_ rfl rfl k_ aW ⟨?_,?_,?_,?_,?_,?_,?_,?_,trivial⟩ ?_
  .refine jR [] ?_;intro f vs Q hf hp C M0 K MY;clear M0
   try simp only[b_]at MY |-
   go_simp
   go_at_call 145
   refine(ke m6).mono ?_;rintro e w1⟨rfl,hg1⟩;exact MY.out _ _ (C.add O hg1) (zT.of O hg1) rfl
  .refine jR [(some 83,0)] ?_;intro f vs Q hf hp C M0 K MY;obtain⟨o, -⟩:=M0;replace o:_=_:=o
   try simp only[b_,o]at MY |-
   go_simp
   go_at_call 142
   refine(kJ W.heap.size oL (jA m6) _ C.gr.size (kq.leaf _ _ _ _ _ _)).mono ?_;rintro e w1⟨A,rfl,MX,hg1⟩;exact MY.out _ _ (C.pW hg1 ⟨A,rfl,MX⟩) (zT.of O hg1) trivial
  .refine jR [(some 84,1)] ?_;intro f vs Q hf hp C M0 K MY;obtain⟨-, -⟩:=M0
   try simp only[b_]at MY |-
   have av:f 5=false:=by
    cases a:f 5 with
    |false=>rfl
    |true=>rw[C.o5 a]at hf;cases hf
   obtain⟨A1,aN,gA⟩:=C.h1 av (hp 1 O);simp only[aN]at MY |-;simp only[i4,ST.ij]at MY |-;go_simp;refine MY.out _ _ (C.FI ((H [] _).alloc _) ⟨Q.heap.size,A1,rfl,C.gr.size,?_⟩) (zT.of O ((H [] _).alloc _)) trivial;refine⟨ox (s7 (n:=1) (s:=8) (P_ Q 229 (i4 oL A1 (jA m6)).g_) rfl (H_ _) O) (ov C.gr.size),λu hu=>?_,SG.leaf (t:=(i4 oL A1 (jA m6))) (.vb _ (show oL∈hU by simp[hU])) rfl rfl (by intro u hu;rcases M_.1 hu with rfl|hu;exact .var _ _ (by simp[hU]);cases hu)⟩
   have:u=(i4 oL A1 (jA m6)):=I_.1 hu
   subst this;exact gA.fresh (λx c=>G_ gj c)
  .exact KB
  .refine jR [(some 86,3)] ?_;intro f vs Q hf hp C M0 K MY;obtain⟨o, -⟩:=M0;replace o:_=_:=o
   try simp only[b_,o]at MY |-
   obtain⟨aR,aZ,hw,cQ⟩:=id C;have au:=(cX.hF cQ).f_ 2;exact Mp
  .refine jR [(some 85,2),(some 87,4)] ?_;intro f vs Q hf hp C M0 K MY;obtain⟨-,aL, -⟩:=M0;replace aL:_=_:=aL
   try simp only[b_,aL]at MY |-
   obtain⟨aC,A1,aK,cx,fa⟩:=C.h2 hf (hp 2 O);have f9:=dD.iz C.gr J;have fh:=C.gr.size;simp only[aK]at MY |-;refine iZ k_ ?_;refine oO _ _ _ rfl xg 229 i1 _ 8 128 underlying211 bS cj co cv rfl O O (j_ aC) 1 1 _ r_ fa.own bZ cY cg (aG.flatMap ST.E) r_ (by rw[ew.out];exact f9.sl) (kZ) X X ?_;intro ap ai l de bE bD;have dK:=ew.out;have db:=fa.add (us:=aG) (A':=ap) (c':=ai) (by rw[<-dK];exact de) bE (by rw[<-dK];exact bD) (λu hu=>((dD.jt u hu).lt.imp (λy hy=>⟨hy.1.1,λhe=>by simp[Value.ownBlock]at he;have:=hy.2;omega⟩)).hF C.gr) (dD.sg);have aF:=I.iW bE
   have eV:∀y∈oK (Value.slice (j_ aC) 1 1).ownBlock,W.heap.size<=y:=λy hy=>by have:=jK.1 hy;simp[Value.ownBlock]at this;omega
   refine MY.out (.slice ap (1+cY) ai) _ (C.FH (hp 2 O) aF eV) (by unfold zT;rw[U_ O];exact⟨_,aF,eV⟩) ⟨ap,ai,A1,by rw[J_,<-dK];rfl,db⟩
  .exact KB
  .refine vF [(some 89,6),(some 88,5)] ?_;intro f vs Q hf hp C M0 K MY;obtain⟨o,⟨dB,cb,fB,aL,dY⟩, -⟩:=M0;replace o:_=_:=o
   try simp only[b_,o,aL]at MY |-
   have fb:=cX.hF C.gr;have au:=fb.f_ 2;have aZ:=fb.hG 2;go_simp;have G:I [dN] Q (Q.setCell (Z dN 2) (.slice dB ([i4 oL fB (jA m6)]++aG).length cb)):=(H [dN] Q).setCell (.inl J) _;exact MY.out undef _ (λ_=>⟨dB,cb,fB,fb.hV 2 _,dY.Eb fb G,(C.gr.mono J).trans G⟩)
  intro f vs bu hf C;simp only[b_];have fI:=cX;clear dD aW cX;obtain⟨dS,dT,a1,cX,dD,G⟩:=C;have gS:b1<=dN:=X;have gy:=Bk.l8 MV bx O;replace r:=r.ih G p_;replace h:=h.gr G p_;replace P:=P.gr G p_;replace bf:=bf.iz G p_;replace bx:=bx.gr G p_;replace MV:=MV.gr G p_;replace aD:=aD.gr G p_;replace da:=da.Eb fI G;clear fI;replace MZ:=MZ.hJ G p_;clear G
  go_upto_region 12 with fail
  obtain⟨W,aO⟩:=nm_ bu;rw[<-aO]at r h P bf bx MV da MZ dD aD cX |-;clear aO;have gi:=cX.lt;have cS:∀y∈[g],y∈(g::oK (Value.slice cW p.length cR).ownBlock):=J
  have fd:∀y∈oK (Value.slice cW p.length cR).ownBlock,HA<=y/\y<xg:=λy hy=>⟨eA.2.2.2 y (jK.1 hy),fP y (jK.1 hy)⟩
  have fQ:∀y∈oK (Value.slice cW p.length cR).ownBlock,y≠c9/\y≠ay:=λy hy=>by
   rcases da.own.2 with⟨hv,_⟩|⟨q,l3,cur,hv,_,az,_⟩
   .have:=jK.1 hy
    rw[hv]at this
    cases this
   .have z:=jK.1 hy;rw[hv]at z
    have k:=by simpa[Value.ownBlock]using z
    subst k;refine⟨λhe=>?_,λhe=>?_⟩
    .have cM:W.heap[c9]?=_:=bx;rw[<-he,az]at cM;simp at cM
    .have cM:W.heap[ay]?=_:=MV;rw[<-he,az]at cM;simp at cM
  have eI:∀y∈oK (Value.slice cW p.length cR).ownBlock,B<=y/\m≠y:=λy hy=>by have:=fd y hy;omega
  have fR:∀y,(Value.slice cW p.length cR).ownBlock=some y->y<W.heap.size:=λy hy=>by have:=fP y hy;omega
  have eU:=T;clear T
  have T:∀y∈(g::oK (Value.slice cW p.length cR).ownBlock),y<W.heap.size:=by
   intro y hy
   rcases M_.1 hy with rfl|hy
   .omega
   .exact fR y (jK.1 hy)
  have aW:Ps B g m 2 3 (g::oK (Value.slice cW p.length cR).ownBlock) (λw=>Bk w R0 150 #[n_]/\mM b1 H9 RM w/\Bk w c9 213 #[.string pX,.slice (j_ ay) 2 2,.slice cW p.length cR]/\Bk w ay 9 #[.string {data:=#[112]},.string {data:=#[110]}]/\Bk w dN 213 #[.string pz,.slice (j_ xg) 1 1,.slice dS ([i4 oL a1 (jA m6)]++aG).length dT]/\Bk w xg 9 #[.string m6]/\lH hU xg 3 (1+(8+N)) w dS dT ([i4 oL a1 (jA m6)]++aG)) (λw=>lH ig b1 5 eP w cW cR p) W false W.drew:=⟨r.hF (H [] W).drew,⟨al,cy,X,h.hF (H [] W).drew⟩,⟨P.hF (H [] W).drew,bf.iz (H [] W).drew J,bx.hF (H [] W).drew,MV.hF (H [] W).drew,cX.hF (H [] W).drew,aD.hF (H [] W).drew,dD.iz (H [] W).drew J⟩,λ_=>da.iz (H [] W).drew J,(H _ W).drew,
   λbd b a⟨bM,ce,du,dU,f5,dV,f7⟩=>by
    have dH:∀x∈(g::oK (Value.slice cW p.length cR).ownBlock),x=g∨(HA<=x/\x<xg/\x≠c9/\x≠ay):=λx c=>by
     rcases M_.1 c with rfl|c
     .exact .inl rfl
     .exact .inr ⟨(fd x c).1,(fd x c).2,(fQ x c).1,(fQ x c).2⟩
    exact⟨bM.gr a (λc=>by have:=dH _ c;omega),ce.iz a (λx c=>by have:=dH x c;omega),du.gr a (λc=>by have:=dH _ c;omega),dU.gr a (λc=>by have:=dH _ c;omega),f5.gr a (λc=>by have:=dH _ c;omega),dV.gr a (λc=>by have:=dH _ c;omega),f7.iz a (λx c=>by have:=dH x c;omega)⟩,
   λbd b a k=>k.iz a p_,J,X⟩
  refine oe (λf=>Ps B g m 2 3 (g::oK (Value.slice cW p.length cR).ownBlock) (λw=>Bk w R0 150 #[n_]/\mM b1 H9 RM w/\Bk w c9 213 #[.string pX,.slice (j_ ay) 2 2,.slice cW p.length cR]/\Bk w ay 9 #[.string {data:=#[112]},.string {data:=#[110]}]/\Bk w dN 213 #[.string pz,.slice (j_ xg) 1 1,.slice dS ([i4 oL a1 (jA m6)]++aG).length dT]/\Bk w xg 9 #[.string m6]/\lH hU xg 3 (1+(8+N)) w dS dT ([i4 oL a1 (jA m6)]++aG)) (λw=>lH ig b1 5 eP w cW cR p) W (f 7)) (λvs l=>∃(A:OA) (j:Nat) (us:List ST),us.length=1/\Bk l c9 213 #[.string pX,.slice (j_ ay) 2 2,.slice A (p++us).length j]/\lH ig b1 5 (eP+1) l A j (p++us)/\iQ l B g/\Bk l R0 150 #[n_]/\mM b1 H9 RM l/\Bk l ay 9 #[.string {data:=#[112]},.string {data:=#[110]}]/\Bk l dN 213 #[.string pz,.slice (j_ xg) 1 1,.slice dS ([i4 oL a1 (jA m6)]++aG).length dT]/\Bk l xg 9 #[.string m6]/\lH hU xg 3 (1+(8+N)) l dS dT ([i4 oL a1 (jA m6)]++aG)/\I (c9::(g::oK (Value.slice cW p.length cR).ownBlock)) W l) (G2 7 [g] (g::oK (Value.slice cW p.length cR).ownBlock)) [SU.mx _ (.pointer (some (Z c9 2))),SU.mx _ (.slice cW p.length cR),SU.mx _ (q_ m),(SU.tree T (1)).vg (λ_ _ _ a=>a.gr cS),(SU.trees T 2 1).vg (λ_ _ _ a=>a.gr cS),(SU.stmt T (1) (1)).vg (λ_ _ _ a=>a.gr cS),(SU.of (λv w=>∃(x:Nat) (t:ST),v=.slice (j_ x) 1 1/\W.heap.size<=x/\Bk w x 229 t.g_/\jL (jD W.heap.size) w t/\SG hU 1 1 t) (λ_ _ _ S⟨x,t,z,k,h3,aw,av⟩=>⟨x,t,z,k,h3.gr S (λh=>by have:=T x h;omega),aw.ih S (λy hy=>Gy.2 (T y hy)),av⟩)).vg (λ_ _ _ a=>a.gr cS),SU.zN [7] (λv w=>∃(ap:OA) (ai:Nat) (us:List ST) (n2:Nat),v=.slice ap n2 ai/\(us.length=1/\n2=(p++us).length)/\lH ig b1 5 (eP+1) w ap ai (p++us)) (λi hi v w w' S⟨ap,ai,us,n2,z,h0,k⟩=>⟨ap,ai,us,n2,z,h0,k.iz (S.ne (zu hi)) p_⟩),SU.mx _ (.pointer (some (Z c9 2))),SU.anyI _] (SU.anyI _) [[],[0],[],[2],[3],[4],[5],[1,6],[],[8,7]] true [(some 90,0),(some 91,1),(some 92,2),(some 93,3),(some 94,4),(some 95,5),(some 96,6),(some 97,7),(some 98,8),(none,9)] k_ k_ k_ (λ_ _ _ _ _ a=>a) k_ rfl rfl k_ aW ⟨?_,?_,?_,?_,?_,?_,?_,?_,?_,?_,trivial⟩ ?_
  .exact K8
  .refine jf [(some 90,0)] ?_;intro f vs Q hf C M0 K MY;obtain⟨o, -⟩:=M0;replace o:_=_:=o
   try simp only[b_,o]at MY |-
   obtain⟨c7,fw,e4,hq,cQ, -⟩:=id C;have au:=e4.2.2.1.f_ 2;exact MG
  .exact K8
  .refine jf [(some 92,2)] ?_;intro f vs Q hf C M0 K MY;obtain⟨o, -⟩:=M0;replace o:_=_:=o
   try simp only[b_,o]at MY |-
   obtain⟨cH,ev,eD,cG⟩:=C.lf;go_simp
   go_at_call 140
   refine(kF B g m cH 0 2 1 X _ rfl _ C.d cG hBm).mono ?_;exact Lx
  .refine jf [(some 93,3)] ?_;exact I6
  .refine jf [(some 94,4)] ?_;exact IP
  .refine jf [(some 95,5)] ?_;exact Jj
  .refine jf [(some 91,1),(some 96,6)] ?_;intro f vs Q hf C M0 K MY;obtain⟨o,⟨aQ,aI,aL,cI,bC,V,d⟩, -⟩:=M0;replace o:_=_:=o
   try simp only[b_,o,aL]at MY |-
   have cp:=C.l hf;have fh:=C.hz;refine iZ k_ ?_;refine oO _ _ _ rfl b1 229 i1 _ 8 128 underlying211 bS cj co cv rfl O O cW p.length cR (p.flatMap ST.E) r_ cp.own _ 1 1 ([aI].flatMap ST.E) r_ (rc aI bC) (kZ) X X ?_;intro ap ai bP cq bE bD;have db:=cp.add (us:=[aI]) cq bE bD (λu hu=>by have:u=aI:=(zu hu);subst this;exact V.imp (λy hy=>⟨by have:W.heap.size<=y:=hy;omega,λhe=>by have z:=fR y he;have:W.heap.size<=y:=hy;omega⟩)) ((d.sub (λs hs=>by simp[ig,hs])).mono X);exact MY.out (.slice ap (p.length+1) ai) _ (C.app (I.iW bE) eI (λy hy=>by simp[hy])) ((I.iW bE).mono (by intro y hy;simp[hy])) ⟨ap,ai,[aI],p.length+1,rfl,⟨rfl,J⟩,db⟩
  .exact K8
  .refine vG [(some 98,8),(some 97,7)] ?_;intro f vs Q hf C M0 K MY;obtain⟨o,⟨dB,cb,aI,mb,aL,nb,dY⟩, -⟩:=M0;replace o:_=_:=o
   try simp only[b_,o,aL]at MY |-
   have fy:=U nb;clear nb;have fJ:=C.f.2.2.1;have au:=fJ.f_ 2;have aZ:=fJ.hG 2;go_simp;have G:I [c9] Q (Q.setCell (Z c9 2) (.slice dB mb cb)):=(H [c9] Q).setCell (.inl J) _;obtain⟨bM,ce,du,dU,f5,dV,f7⟩:=C.f;exact MY.out undef _ (λ_=>⟨dB,cb,aI,fy.out.1,by rw[<-fy.out.2];exact du.hV 2 _,dY.Eb du G,C.d.ih G p_,bM.gr G p_,ce.iz G p_,dU.gr G (by simp;exact gy),f5.gr G p_,dV.gr G p_,f7.Eb du G,(C.gr.mono (by intro y hy;simp[hy])).trans (G.mono J)⟩)
  intro f vs bu hf C;simp only[b_];clear r h P bf bx MV da dD aD cX aW;obtain⟨eO,eS,us,gu,bx,da,r,P,bf,MV,cX,aD,dD,G⟩:=C;replace MZ:=MZ.hJ G (by intro x c;rcases M_.1 c with rfl|c;right;omega;rcases M_.1 c with rfl|c;left;simp;right;have:=fd x c;omega);clear G;obtain⟨d8,cm,bm,ea,fF,ga,aV,bT⟩:=bf;obtain⟨nm,d4⟩:=nm_ bm.length;obtain⟨fu,fo⟩:=nm_ ((p++us).length);obtain⟨fv,fp⟩:=nm_ (([i4 oL a1 (jA m6)]++aG).length);rw[<-d4]at ea;rw[<-fo]at bx;rw[<-fp]at cX;have e5:=U d4;have fW:=U fo;have fX:=U fp
  have gm:([i4 oL a1 (jA m6)]++aG).length=1+cY:=by rw[J_,<-ew.out];rfl
  have gk:b1<bu.heap.size/\R0<m/\m<b1:=⟨ov ea.lt,X,X⟩;have f4:H9<=bu.heap.size:=ov cX.lt;have eT:=(da.fin (H_ _)).C2 (ps:=[pa,Cw]) (jj (n:=2) (s:=1) MV rfl) (H_ 2) (λy off a _=>by injection a with a;injection a with a;have:=MV.lt;omega);have fE:=((dD.fin (H_ _)).C2 (ps:=[m6]) (Dy aD) (H_ 1) (λy off a _=>by injection a with a;injection a with a;have:=aD.lt;omega));have gf:=da.sg;have gh:=dD.sg;clear d4 fo fp MV aD da dD;obtain⟨dR,eK⟩:=nm_ bu;rw[<-eK]at r P ea bx cX fF eT fE MZ gk f4 |-;clear eK;have bq:=ea.f_ 0;have bo:=ea.f_ 1;have bN:=ea.f_ 2;have bU:=bx.f_ 0;have dh:=bx.f_ 1;have dk:=bx.f_ 2;have d7:=cX.f_ 0;have cO:=cX.f_ 1;have cZ:=cX.f_ 2
  go_wp2_with (refine kS #[.slice (j_ dR.heap.size) 3 3] (P.alloc _) (by simp[Value.oneCell']) ?_;intro l aB G)
  have D:Bk (dR.alloc (.cells #[.string vT,n_,.slice d8 nm cm,.string pX,.slice (j_ ay) 2 2,.slice eO fu eS,.string pz,.slice (j_ xg) 1 1,.slice dS fv dT] 213)) dR.heap.size 213 #[.string vT,n_,.slice d8 nm cm,.string pX,.slice (j_ ay) 2 2,.slice eO fu eS,.string pz,.slice (j_ xg) 1 1,.slice dS fv dT]:=P_ dR 213 _
  have g5:dR.heap.size<=l.heap.size:=by have:=G.size;simp at this;omega
  have df:w.heap.size<=b1:=X;have e7:=(H [] dR).alloc (.cells #[.string vT,n_,.slice d8 nm cm,.string pX,.slice (j_ ay) 2 2,.slice eO fu eS,.string pz,.slice (j_ xg) 1 1,.slice dS fv dT] 213)
  have bn:Sl l 213 3 (j_ dR.heap.size) 3 ([(⟨vT,none,0,[],d8,cm,bm⟩:FT),⟨pX,some (Z ay 0),2,[pa,Cw],eO,eS,p++us⟩,⟨pz,some (Z xg 0),1,[m6],dS,dT,([i4 oL a1 (jA m6)]++aG)⟩].flatMap FT.E):=by
   have:=jj (n:=3) (s:=3) (D.gr G p_) rfl
   rw[e5.out,fW.out,fX.out]at this;exact this
  refine rr_ #[.slice (j_ dR.heap.size) 3 3] aB underlying150 ⟨dR.heap.size,⟨vT,none,0,[],d8,cm,bm⟩,⟨pX,some (Z ay 0),2,[pa,Cw],eO,eS,p++us⟩,⟨pz,some (Z xg 0),1,[m6],dS,dT,([i4 oL a1 (jA m6)]++aG)⟩,rfl,bn,?_,?_,?_,⟨rfl,rfl,ga⟩,⟨rfl,rfl,?_⟩,⟨rfl,rfl,?_⟩,(r.hF e7).ih G p_,(MZ.alloc _).hJ G p_⟩
  .exact((fF.iz e7 J).iz G p_).wide df X
  .exact((eT.iz e7 J).iz G p_).wide df X
  .exact((fE.iz e7 J).iz G p_).wide X X
  .refine⟨?_,eP+1,gf,ov eA.1,by rw[J_,gu];have:=eA.2.1;omega⟩;obtain⟨cr,ep,ls,bz,a8,k3⟩:=eA.2.2.1;exact⟨cr,ep,ls++us,by rw[bz];simp,a8,k3⟩
  .exact⟨i4 oL a1 (jA m6),ss,ts,1+(8+N),by rw[c8.out];rfl,rfl,rfl,eJ,fe,gh,X,by rw[gm];omega⟩
