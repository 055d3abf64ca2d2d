import Derived.Test.YtenbhdilndfaeaaGreatR14
set_option maxRecDepth 100000
set_option maxHeartbeats 0
set_option linter.all false
namespace Go.Proofs.YtenbhdilndfaeaaGreat
open Go.RowKit Go.Proofs.Tryz
variable{G:Prop}{t:TypeId}{x:ByteArray}{D N R lo:Nat}{cs:Array Value}{p:Nat->Prop}{u:ST}{V:List ByteArray}{ts:List ST}{ay:World}{aK:OA}
def Ix(h:G:=by
 intro f vs Q hf C MS K MT;obtain⟨⟨a6,ta,o,cv,bg,be,cQ⟩, -⟩:=MS
 try simp only[b_,o]at MT |-
 go_simp;have aH:ta.length=_:=cv
 have a8:Sl Q 226 5 (j_ a6) ta.length (ta.flatMap ET.E):=by rw[aH];exact be
 have hcl:(lR 7 i4 i4 0 0 (j_ a6) ta.length ta).g8=_:=rfl;simp only[ST.ic,lR,aH]at hcl;refine MT.out _ _ C (H _ _) ⟨lR 7 i4 i4 0 0 (j_ a6) ta.length ta,?_,jD.es _ _ _ _ _ a8 bg (λu hu=>(cQ u hu).1),SG.leaf (t:=lR 7 i4 i4 0 0 (j_ a6) ta.length ta) (by show m7 _ 7 i4 i4 0 0 ta.length _ _;rw[aH];exact .ret) rfl rfl (λu hu=>(cQ u hu).2)⟩
 show Value.agg _=Value.agg (lR 7 i4 i4 0 0 (j_ a6) ta.length ta).g8
 exact MK):G:=h
def Jk(h:G:=by
 refine hK [] ?_;intro vs Q C MS K MT;clear MS
 try simp only[b_]at MT |-
 go_simp
 go_at_call 145
 refine(j5 _).mono ?_;rintro e w1⟨rfl,hg1⟩;exact MT.out _ _ (C.g_ hg1) (hg1.mono s_) ⟨jv Cv,rfl,kl.leaf _ _ _ _ _ _,.var _ _ (by simp[ia])⟩):G:=h
def JC(h:G:=by
 refine jJ [] ?_;intro f vs Q hf hp C MS K MT;clear MS
 try simp only[b_]at MT |-
 go_simp
 go_at_call 144
 refine(j3 0).mono ?_;exact L6):G:=h
def JK(h:G:=by
 refine jJ [] ?_;intro f vs Q hf hp C MS K MT;clear MS
 try simp only[b_]at MT |-
 go_simp;exact MT.out _ _ (C.sM I ((H [] _).alloc _)) (G8.jX I ((H [] _).alloc _)) ⟨_,rfl,C.hz,Q_ _ _ _⟩):G:=h
def Kk(h:G:=by
 refine jJ [] ?_;intro f vs Q hf hp C MS K MT;clear MS
 try simp only[b_]at MT |-
 exact Mi):G:=h
def Li(h:G:=by
 rintro e w1⟨t,rfl,MP,V,bf,hg1⟩;exact MT.out _ _ (C.step hg1 bf) hg1 ⟨t,rfl,MP.le C.hz,V⟩):G:=h
def LM(h:G:=by
 intro a b;obtain⟨x,A,h1,h2,h3⟩:=h.h2 a b;exact⟨x,A,h1,h2,h3.iy hg s_⟩):G:=h
def L6(h:G:=by
 rintro e w1⟨rfl,hg1⟩;exact MT.out _ _ (C.sM I hg1) (G8.jX I hg1) rfl):G:=h
def Mi(h:G:=by
 go_simp;exact MT.out _ _ (C.add I (H [] _)) (Ah.of I (H [] _)) rfl):G:=h
structure Ps(B g q:Nat)(fn hi:Int)(M:List Nat)(F L:World->Prop)(W:World)(b:Bool)(w:World):Prop where
 d:iL w B g
 lf:Lf g q 0 fn hi w
 f:F w
 l:b=false->L w
 gr:J M W w
 sF:∀a b,J M a b->F a->F b
 sL:∀a b,J [g] a b->L a->L b
 gM:g∈M
 qg:q≠g
section
variable{B g q:Nat}{fn hi:Int}{M:List Nat}{F L:World->Prop}{W w w':World}{b:Bool}
def Ps.hz(h:Ps B g q fn hi M F L W b w):W.heap.size<=w.heap.size:=h.gr.size
def Ps.step(h:Ps B g q fn hi M F L W b w)(a:J [g] w w')(e:iL w' B g):Ps B g q fn hi M F L W b w':=
 have c:J M w w':=a.mono (by intro x j;have:x=g:=(zu j);subst this;exact h.gM)
 ⟨e,h.lf.gr a (zu h.qg),h.sF _ _ c h.f,λd=>h.sL _ _ a (h.l d),h.gr.trans c,h.sF,h.sL,h.gM,h.qg⟩
def Ps.g_(h:Ps B g q fn hi M F L W b w)(a:J [] w w'):Ps B g q fn hi M F L W b w':=h.step (a.mono s_) (h.d.g_ a)
def Ps.app{c:Option Nat}(h:Ps B g q fn hi M F L W b w)(a:J (oS c) w w')(d:∀y∈oS c,B<=y/\q≠y)(e:∀y∈oS c,y∈M):Ps B g q fn hi M F L W true w':=
 ⟨h.d.ib a (λx l=>(d x l).1),h.lf.gr a (λj=>(d _ j).2 rfl),h.sF _ _ (a.mono e) h.f,(λk=>by cases k),h.gr.trans (a.mono e),h.sF,h.sL,h.gM,h.qg⟩
end
def ia:List ByteArray:=Cv::hM
def Sl.Ab{w:World}{e:TypeId}{s x r n:Nat}{xs:List Value}(h:Sl w e s (some (Z x r)) n xs)(o:0<n)(k:Bk w R t cs)(d:e≠t):x≠R:=by
 intro l;subst l;obtain⟨b,A,y,z,a,j,_⟩:=h.2 o;injection a with a;injection a with a;subst a;have c:w.heap[x]?=_:=k;rw[j]at c;simp at c;exact d c.2.1
def kl.Ab{w:World}{u:ET}(h:kl p w u)(k:Bk w R t cs)(e:226≠t):kl (λx=>p x/\x≠R) w u:=by
 induction h with
 |mk u h l j _ d=>exact .mk u h l (λx n a c=>⟨j x n a c,by rw[a]at h;exact h.Ab c k e⟩) d
def jD.Ab{w:World}(h:jD p w u)(k:Bk w R t cs)(n:226≠t)(E:229≠t):jD (λx=>p x/\x≠R) w u:=by
 induction h with
 |mk u j A s H e z J _ l C y _ o r=>
  exact .mk u j A (λx d a c=>⟨s x d a c,by rw[a]at j;exact j.Ab c k n⟩) (λv I=>(H v I).Ab k n) e z (λx d a c=>⟨J x d a c,by rw[a]at e;exact e.Ab c k E⟩) o l C (λx d a c=>⟨y x d a c,by rw[a]at l;exact l.Ab c k E⟩) r
def jD.Fw{w:World}(h:jD p w u)(n:u.bs=[])(o:u.ls=[])(k:Bk w R t cs)(l:226≠t):jD (λx=>p x/\x≠R) w u:=by
 cases h with
 |mk u e y r A E s K I C z H J=>
  exact .mk u e y (λx j d a=>⟨r x j d a,by rw[d]at e;exact e.Ab a k l⟩) (λv c=>(A v c).Ab k l) E s (λx j d a=>by rw[n]at a;cases a) (λv c=>by rw[n]at c;cases c) C z (λx j d a=>by rw[o]at a;cases a) (λv c=>by rw[o]at c;cases c)
def SU.tw{M:List Nat}{lo:Nat}(V:List ByteArray)(z:∀y∈M,y<lo)(d:Nat):SU (λ_=>J M):=
 SU.of (λv w=>∃t:ET,v=.agg t.g8/\kl (jx lo) w t/\EG V d t) (λ_ _ _ hg⟨t,h1,h2,h3⟩=>⟨t,h1,h2.ib hg (λx hx=>Gm.2 (z x hx)),h3⟩)
def SU.Az{M:List Nat}{lo:Nat}(V:List ByteArray)(z:∀y∈M,y<lo)(d n:Nat):SU (λ_=>J M):=
 SU.of (λv w=>∃(x:Nat) (ts:List ET),v=.slice (j_ x) n n/\ts.length=n/\lo<=x/\Sl w 226 5 (j_ x) n (ts.flatMap ET.E)/\∀t∈ts,kl (jx lo) w t/\EG V d t)
  (λ_ _ _ hg⟨x,ts,h1,h2,h3,ar,av⟩=>⟨x,ts,h1,h2,h3,ar.iy λy off U hx=>hg.block y hx (λMM=>by injection U with U;injection U with U;have:=z y MM;omega),λt MO=>⟨(av t MO).1.ib hg (λx hx=>Gm.2 (z x hx)),(av t MO).2⟩⟩)
def Fc(us:List ST):Prop:=∃(b6:List ST) (d8:ST),us=b6++[d8]/\b6.map ST.name=[wB,vv,vM,m9,oT,xX,xW]/\∀s∈b6,s.hS=1
def G8(g m HA:Nat)(i:Nat)(a b:World):Prop:=if i=19 then(∃M,J M a b/\∀x∈M,HA<=x/\∀t cs,Bk a x t cs->t=229) else J (if i=18 then[g,m] else[g]) a b
def G8.of{g m HA i:Nat}{a b:World}(hi:i≠19)(h:J [g] a b):G8 g m HA i a b:=by
 unfold G8;rw[I_ hi];split
 .exact h.mono s_
 .exact h
def G8.jX{g m HA i:Nat}{a b:World}(hi:i≠19)(h:J [] a b):G8 g m HA i a b:=G8.of hi (h.mono s_)
def G8.gr{g m HA i:Nat}{a b:World}(h:G8 g m HA i a b)(hi:i∉[19]):J [g,m] a b:=by
 unfold G8 at h;rw[I_ (zu hi)]at h;split at h
 .exact h
 .exact h.mono s_
def G8.bk{g m HA i x:Nat}{a b:World}(h:G8 g m HA i a b)(k:Bk a x t cs)(d:t≠229)(l:x≠g)(c:x≠m):Bk b x t cs:=by
 by_cases hi:i=19
 .unfold G8 at h;rw[O_ hi]at h;obtain⟨M,e,j⟩:=h;exact k.gr e (λn=>d ((j x n).2 t cs k))
 .exact k.gr (h.gr (zu hi)) (by simp;exact⟨l,c⟩)
def EK(b1 HA:Nat)(v:Value)(w:World):Prop:=∃(x:Nat) (us:List ST),v=.slice (j_ x) 8 8/\us.length=8/\Fc us/\lI ia b1 5 9 w (j_ x) 8 us/\HA<=x
def EJ(b1 HA:Nat)(v:Value)(w:World):Prop:=∃(A:OA) (c:Nat) (ts:List ST) (N:Nat),v=.slice A ts.length c/\ts.length<=3/\N<=6/\lI hM b1 3 N w A c ts
def J8(b1 HA:Nat)(a d:Value)(w:World):Prop:=∃(x:Nat) (us:List ST) (A:OA) (c:Nat) (ts:List ST) (N:Nat),a=.slice (j_ x) 8 8/\us.length=8/\Fc us/\lI ia b1 5 9 w (j_ x) 8 us/\HA<=x/\
 d=.slice A ts.length c/\ts.length<=3/\N<=6/\lI hM b1 3 N w A c ts/\∀u∈ts,jD (λy=>b1<=y/\y≠x) w u
def EK.iy{b1 HA:Nat}{v:Value}{w w':World}{M:List Nat}(h:EK b1 HA v w)(k:J M w w')(n:∀x∈M,x<b1):EK b1 HA v w':=by
 obtain⟨x,l,d,e,j,a,c⟩:=h;exact⟨x,l,d,e,j,a.iy k n,c⟩
def EJ.iy{b1 HA:Nat}{v:Value}{w w':World}{M:List Nat}(h:EJ b1 HA v w)(l:J M w w')(n:∀x∈M,x<b1):EJ b1 HA v w':=by
 obtain⟨a,d,ts,N,e,j,k,c⟩:=h;exact⟨a,d,ts,N,e,j,k,c.iy l n⟩
def J8.iy{b1 HA:Nat}{v d:Value}{w w':World}{M:List Nat}(h:J8 b1 HA v d w)(a:J M w w')(c:∀x∈M,x<b1):J8 b1 HA v d w':=by
 obtain⟨x,K,e,s,ts,N,y,A,C,n,o,l,r,k,j,z⟩:=h;exact⟨x,K,e,s,ts,N,y,A,C,n.iy a c,o,l,r,k,j.iy a c,λu H=>(z u H).ib a (λO I E=>by have:=c O I;have:=E.1;omega)⟩
def lI.bd{b c:Nat}{w:World}{A:OA}(h:lI V b D N w A c ts){x:Nat}(e:w.heap.size<=x):∀u∈ts,jD (λy=>b<=y/\y≠x) w u:=λu d=>((h.i3 u d).lt).imp λy a=>⟨a.1.1,by have:=a.2;omega⟩
def wA:ByteArray:={data:=#[109,97,105,110]}
structure Ai(lo hi:Nat)(w:World)(AP:OA)(cP:Nat)(ps:List ByteArray)(A:OA)(c:Nat)(bs:List ST):Prop where
 hp:Sl w 9 1 AP ps.length (ps.map Value.string)
 s4:ps.length<=cP
 EZ:∀x off,AP=some (Z x off)->0<ps.length->lo<=x/\x<hi
 hb:Sl w 229 8 A bs.length (bs.flatMap ST.E)
 CH:bs.length<=c
 tZ:∀x off,A=some (Z x off)->0<bs.length->lo<=x/\x<hi
 hs:∀t∈bs,jD (λx=>lo<=x/\x<hi) w t
def Ai.iy{hi s c:Nat}{w w':World}{o A:OA}{ps:List ByteArray}{r:List ST}{M:List Nat}(h:Ai lo hi w o s ps A c r)(j:J M w w')(n:∀x∈M,x<lo∨hi<=x):Ai lo hi w' o s ps A c r:=
 ⟨h.hp.sy λk x l e a=>j.block x a (λd=>by have:=n x d;have:=h.EZ x l e k;omega),h.s4,h.EZ,
   h.hb.sy λk x l e a=>j.block x a (λd=>by have:=n x d;have:=h.tZ x l e k;omega),h.CH,h.tZ,λt y=>(h.hs t y).ib j (λx a z=>by have:=n x a;omega)⟩
def lI.fin{c hi:Nat}{w:World}{A:OA}(h:lI V lo D N w A c ts)(j:w.heap.size<=hi):Ai lo hi w none 0 [] A c ts:=
 ⟨Gz _ _ _ _,H_ _,(λ_ _ h _=>by cases h),h.sl,jk h.own,λx k e _=>by subst e;have:=kx h.own (x:=x) rfl;omega,λt d=>((h.i3 t d).lt).imp λx a=>⟨a.1.1,ov a.2⟩⟩
def Ai.CX{hi c d:Nat}{w:World}{A a:OA}{ps:List ByteArray}(h:Ai lo hi w none 0 [] A c ts)(k:Sl w 9 1 a ps.length (ps.map Value.string))(j:ps.length<=d)(e:∀x l,a=some (Z x l)->0<ps.length->lo<=x/\x<hi):Ai lo hi w a d ps A c ts:=
 ⟨k,j,e,h.hb,h.CH,h.tZ,h.hs⟩
def Bu{b1 R0 h c j:Nat}{T a:World}{A As:OA}(z:jD (jx T.heap.size) a (iZ pw As (eNew 3)))(l:J [] T a)(o:lI hM b1 4 N T A c ts)(K:h=ts.length)(y:ay.ownsRow a.heap.size 229 8 (.slice aK (1+h) j) (1+h) ((iZ pw As (eNew 3)).g8.toList++ts.flatMap ST.E))(E:(a.alloc (.cells (iZ pw As (eNew 3)).g8 229)).grownBy ay (Value.slice (j_ a.heap.size) 1 1).ownBlock)(C:(Value.slice aK (1+h) j).ownBlock=(Value.slice (j_ a.heap.size) 1 1).ownBlock∨(Value.slice aK (1+h) j).ownBlock=some (a.alloc (.cells (iZ pw As (eNew 3)).g8 229)).heap.size)(Q:R0<=b1)(P:R0<=T.heap.size):
 lI hM R0 5 (1+N) ay aK j ([iZ pw As (eNew 3)]++ts):=by
 subst K;have O:=l.size
 have r:lI hM R0 5 1 (a.alloc (.cells (iZ pw As (eNew 3)).g8 229)) (j_ a.heap.size) 1 [iZ pw As (eNew 3)]:=by
  refine⟨oE (tJ (n:=1) (s:=8) (Q_ a 229 (iZ pw As (eNew 3)).g8) rfl (H_ _) I) X,?_,SG.leaf (.vH _ (show pw∈hM by simp[hM])) rfl rfl (by intro u d;rcases N_.1 d with rfl|d;exact .new _ _ X X;cases d)⟩;intro u d
  have:u=iZ pw As (eNew 3):=zu d
  subst this;exact(z.lt.imp (λx e=>⟨by have:T.heap.size<=x:=e.1;omega,λk=>by have:=e.2;simp[Value.ownBlock]at k;omega⟩)).g_ ((H [] a).alloc _)
 exact r.add (us:=ts) (oE y X) E C (λu d=>(((o.i3 u d).lt.imp (λx e=>⟨ov e.1.1,λk=>by have:=e.2;simp[Value.ownBlock]at k;omega⟩)).g_ l).g_ ((H [] a).alloc _)) (o.sg.mono X)
def Cy{b a c:Nat}{s:ST}(h:lI V b D N ay aK c ([s]++ts))(d:a=ts.length):Sl ay 229 8 aK (1+a) (([s]++ts).flatMap ST.E):=by
 subst d
 have:=h.sl
 rw[K_]at this;exact this
def BZ(bs:List ST):Prop:=∃(MN ls:List ST) (N:Nat),bs=MN++ls/\MN.map ST.name=hM/\(∀s∈MN,s.hS=1)/\l3 hM 5 N bs/\N<=28/\bs.length<=30
def mS(lo hi RM:Nat)(w:World):Prop:=∃(A:OA) (c:Nat) (bs:List ST),Bk w RM 213 #[.string wA,n_,.slice A bs.length c]/\Ai lo hi w none 0 [] A c bs/\BZ bs/\lo<=RM/\RM<hi
def mS.iy{hi RM:Nat}{w w':World}{M:List Nat}(h:mS lo hi RM w)(a:J M w w')(c:∀x∈M,x<lo∨hi<=x):mS lo hi RM w':=by
 obtain⟨d,n,l,o,r,s,j,k⟩:=h;exact⟨d,n,l,o.gr a (λe=>by have:=c RM e;omega),r.iy a c,s,j,k⟩
def FG(us:List ST):Prop:=∃(b6:List ST) (d8:ST) (ls:List ST),us=b6++(d8::ls)/\b6.map ST.name=[wB,vv,vM,m9,oT,xX,xW]/\∀s∈b6,s.hS=1
def BU(HA:Nat)(x:ByteArray)(v:Value)(w:World):Prop:=∃(A:OA) (a:ET),v=.agg (iZ x A a).g8/\jD (jx HA) w (iZ x A a)/\SG ia 1 1 (iZ x A a)
def mX:List (Nat × ByteArray):=[(2,wB),(4,vv),(6,vM),(8,m9),(10,oT),(12,xX),(14,xW)]
def BU.iy{HA:Nat}{v:Value}{w w':World}{M:List Nat}(h:BU HA x v w)(k:J M w w')(n:∀y∈M,y<HA):BU HA x v w':=by
 obtain⟨a,c,d,e,j⟩:=h;exact⟨a,c,d,e.ib k (λy l=>Gm.2 (n y l)),j⟩
structure s8(B g m R0 b1 H9 RM RA HA:Nat)(tA:ST)(W:World)(f:Nat->Bool)(vs:Nat->Value)(w:World):Prop where
 d:iL w B g
 lf:Lf g m 0 1 3 w
 r:Bk w R0 150 #[n_]
 mo:mS b1 H9 RM w
 a:Bk w RA 229 tA.g8
 ta:jD (λx=>b1<=x/\x<HA) w tA
 pe:f 19=false->∀i x,(i,x)∈mX->f i=true->BU HA x (vs i) w
 CK:f 16=true->f 18=false->EK b1 HA (vs 16) w
 CJ:f 18=true->f 16=false->EJ b1 HA (vs 18) w
 hj:f 16=true->f 18=true->f 19=false->J8 b1 HA (vs 16) (vs 18) w
 ED:f 19=true->f 16=true
 gr:J [g,m] W w
 o:g<B/\B<=m/\R0<m/\g<R0/\m<b1/\b1<=HA/\H9<=HA/\RA<HA/\b1<=RA/\W.heap.size=HA
def sY{i:Nat}(h:(i,x)∈mX):i∈[2,4,6,8,10,12,14]:=by
 simp[mX]at h;simp;omega
section
variable{B g m R0 b1 H9 RM RA HA:Nat}{tA:ST}{W w w':World}{f:Nat->Bool}{vs:Nat->Value}{v:Value}{i:Nat}
def s8.hz(h:s8 B g m R0 b1 H9 RM RA HA tA W f vs w):HA<=w.heap.size:=by have:=h.gr.size;have:=h.o;omega
def s8.base(h:s8 B g m R0 b1 H9 RM RA HA tA W f vs w){M:List Nat}(c:J M w w')(d:∀x∈M,x=g∨x=m∨HA<=x):
 Bk w' R0 150 #[n_]/\mS b1 H9 RM w'/\Bk w' RA 229 tA.g8/\jD (λx=>b1<=x/\x<HA) w' tA/\J [g,m] W w':=by
 have e:=h.o;exact⟨h.r.gr c (λa=>by have:=d _ a;omega),h.mo.iy c (λx a=>by have:=d x a;omega),h.a.gr c (λa=>by have:=d _ a;omega),h.ta.ib c (λx a j=>by have:=d x a;omega),h.gr.hA c (λx a=>by have:=d x a;simp;omega)⟩
def ij{f:Nat->Bool}{i a:Nat}(h:a≠i):(a==i||f a)=f a:=by
 have:(a==i)=false:=zu h
 rw[this,Hx]
def ll{vs:Nat->Value}{v:Value}{i a:Nat}(h:a≠i):sV vs i v a=vs a:=by simp[sV,h]
def nF{vs:Nat->Value}{v:Value}{i:Nat}:sV vs i v i=v:=by simp[sV]
def s8.add(h:s8 B g m R0 b1 H9 RM RA HA tA W f vs w)(hi:i∉[2,4,6,8,10,12,14,16,18,19])(d:J [g] w w')(K:iL w' B g):s8 B g m R0 b1 H9 RM RA HA tA W (λk=>k==i||f k) (sV vs i v) w':=by
 have O:=h.o;obtain⟨E,H,I,z,A⟩:=h.base d s_;have n:∀x∈[g],x<b1:=p_;have C:∀x∈[g],x<HA:=p_
 have c:(16:Nat)≠i:=λa=>hi (by simp[<-a])
 have j:(18:Nat)≠i:=λa=>hi (by simp[<-a])
 have l:(19:Nat)≠i:=λa=>hi (by simp[<-a])
 refine⟨K,h.lf.gr d p_,E,H,I,z,?_,?_,?_,?_,(by rw[ij l,ij c];exact h.ED),A,O⟩
 .intro r k x y s;rw[ij l]at r
  have o:k≠i:=λa=>by
   have:=sY y
   subst a;exact hi (by simp at this |-;omega)
  rw[ij o]at s;rw[ll o];exact(h.pe r k x y s).iy d C
 .rw[ij c,ij j,ll c]
  exact λe b=>(h.CK e b).iy d n
 .rw[ij c,ij j,ll j]
  exact λe b=>(h.CJ e b).iy d n
 .rw[ij c,ij j,ij l,ll c,ll j]
  exact λe b o=>(h.hj e b o).iy d n
def s8.sM(h:s8 B g m R0 b1 H9 RM RA HA tA W f vs w)(hi:i∉[2,4,6,8,10,12,14,16,18,19])(a:J [] w w'):s8 B g m R0 b1 H9 RM RA HA tA W (λc=>c==i||f c) (sV vs i v) w':=h.add hi (a.mono s_) (h.d.g_ a)
def s8.ym(h:s8 B g m R0 b1 H9 RM RA HA tA W f vs w)(hi:(i,x)∈mX)(P:∀y,(i,y)∈mX->y=x)(a:J [] w w')(K:BU HA x v w'):s8 B g m R0 b1 H9 RM RA HA tA W (λk=>k==i||f k) (sV vs i v) w':=by
 have O:=h.o;have l:=sY hi;obtain⟨E,H,I,A,C⟩:=h.base a s_
 have c:(16:Nat)≠i:=λj=>by subst j;simp at l
 have e:(18:Nat)≠i:=λj=>by subst j;simp at l
 have o:(19:Nat)≠i:=λj=>by subst j;simp at l
 refine⟨h.d.g_ a,h.lf.gr a s_,E,H,I,A,?_,?_,?_,?_,(by rw[ij o,ij c];exact h.ED),C,O⟩
 .intro r k y z s;rw[ij o]at r
  by_cases n:k=i
  .subst n;rw[nF,P y z];exact K
  .rw[ij n]at s;rw[ll n];exact(h.pe r k y z s).iy a s_
 .rw[ij c,ij e,ll c]
  exact λd b=>(h.CK d b).iy a s_
 .rw[ij c,ij e,ll e]
  exact λd b=>(h.CJ d b).iy a s_
 .rw[ij c,ij e,ij o,ll c,ll e]
  exact λd b n=>(h.hj d b n).iy a s_
def s8.E3(h:s8 B g m R0 b1 H9 RM RA HA tA W f vs w)(K:f 16=false)(a:J [] w w'){us:List ST}(z:v=.slice (j_ w.heap.size) 8 8)(y:us.length=8)(s:Fc us)(o:lI ia b1 5 9 w' (j_ w.heap.size) 8 us):s8 B g m R0 b1 H9 RM RA HA tA W (λc=>c==16||f c) (sV vs 16 v) w':=by
 have A:=h.hz;obtain⟨e,j,k,d,E⟩:=h.base a s_;refine⟨h.d.g_ a,h.lf.gr a s_,e,j,k,d,?_,?_,?_,?_,(λ_=>by simp),E,h.o⟩
 .intro n c O r C
  have l:c≠16:=λH=>by have:=sY r;subst H;simp at this
  rw[ij I]at n;rw[ij l]at C;rw[ll l];exact(h.pe n c O r C).iy a s_
 .intro _ _;rw[nF];exact⟨_,us,z,y,s,o,A⟩
 .intro _ l;simp at l
 .intro _ l _;rw[ij I]at l;rw[nF,ll I];obtain⟨n,r,ts,N,e,j,k,d⟩:=h.CJ l K;exact⟨_,us,n,r,ts,N,z,y,s,o,A,e,j,k,d.iy a s_,λu C=>(d.bd (H_ _) u C).g_ a⟩
def s8.E2(h:s8 B g m R0 b1 H9 RM RA HA tA W f vs w)(S:f 18=false)(e:J [g,m] w w')(Q:iL w' B g)(E:Lf g m 0 1 3 w'){A:OA}{c:Nat}(r:v=.slice A ts.length c)(o:ts.length<=3)(l:N<=6)(d:lI hM w.heap.size 3 N w' A c ts):s8 B g m R0 b1 H9 RM RA HA tA W (λa=>a==18||f a) (sV vs 18 v) w':=by
 have T:=h.o;have hz:=h.hz;obtain⟨K,O,P,z,C⟩:=h.base e s_;refine⟨Q,E,K,O,P,z,?_,?_,?_,?_,(by rw[ij I,ij I];exact h.ED),C,T⟩
 .intro k a y n s
  have j:a≠18:=λH=>by have:=sY n;subst H;simp at this
  rw[ij I]at k;rw[ij j]at s;rw[ll j];exact(h.pe k a y n s).iy e p_
 .intro _ j;simp at j
 .intro _ _;rw[nF];exact⟨A,c,ts,N,r,o,l,d.le X⟩
 .intro j _ _;rw[ij I]at j;rw[nF,ll I];obtain⟨x,us,Y,s,Z,n,H⟩:=h.CK j S;have hx:=(kx n.own (x:=x) rfl).2;exact⟨x,us,A,c,ts,N,Y,s,Z,n.iy e p_,H,r,o,l,d.le X,λu U=>(d.i3 u U).imp λy k=>⟨ov k.1,by have:=k.1;omega⟩⟩
def jD.fresh{b n c:Nat}{C:Array Value}(h:jD p w u)(e:∀x,p x->b<=x):jD (zC b (Value.slice (j_ w.heap.size) n c).ownBlock) (w.alloc (.cells C t)) u:=
 (h.lt.imp λx a=>⟨e x a.1,λd=>by simp[Value.ownBlock]at d;have:=a.2;omega⟩).g_ ((H [] w).alloc _)
def lI.D7{b c:Nat}{A:OA}(h:lI V b D N w A c ts)(k:Bk w R 213 cs)(n:J [R] w w'):lI V b D N w' A c ts:=by
 refine⟨oa h.own n (λx a d=>?_),λu r=>((h.i3 u r).Ab k I I).ib n (λx a e=>e.2 (zu a)) |>.imp (λ_ e=>e.1),h.sg⟩;have a:=zu a;subst a
 rcases h.own.2 with⟨j,_⟩|⟨q,y,s,j,_,o,_⟩
 .rw[j]at d
  cases d
 .rw[j]at d
  have:q=x:=by simpa[Value.ownBlock]using d
  subst this;have l:w.heap[q]?=_:=k;rw[o]at l;simp at l
def s8.E1(h:s8 B g m R0 b1 H9 RM RA HA tA W f vs w)(a:f 16=true)(d:f 18=true){M:List Nat}(j:J M w w')(k:∀x∈M,HA<=x):s8 B g m R0 b1 H9 RM RA HA tA W (λl=>l==19||f l) (sV vs 19 v) w':=by
 have A:=h.o;obtain⟨s,y,z,n,o⟩:=h.base j (λx e=>.inr (.inr (k x e)));refine⟨h.d.ib j (λx e=>by have:=k x e;omega),h.lf.gr j (λe=>by have:=k _ e;omega),s,y,z,n,(λr=>by simp at r),(λ_ c=>by rw[ij I,d]at c;cases c),(λ_ c=>by rw[ij I,a]at c;cases c),(λ_ _ c=>by simp at c),(λ_=>by rw[ij I];exact a),o,A⟩
end
def Fm(v:Value)(w:World)(MT:Nat):Prop:=∃(A:OA),v=.agg (iZ oT A (jv m9)).g8/\jD (jx MT) w (iZ oT A (jv m9))
def Fl(b1 MT:Nat)(v:Value)(w:World):Prop:=∃(x:Nat) (A:OA),v=.slice (j_ x) 1 1/\MT<=x/\lI hM b1 3 1 w (j_ x) 1 [iZ oT A (jv m9)]
structure rC(b1:Nat)(W:World)(f:Nat->Bool)(vs:Nat->Value)(w:World):Prop where
 h1:f 5=false->f 1=true->Fm (vs 1) w W.heap.size
 h2:f 5=false->f 2=true->Fl b1 W.heap.size (vs 2) w
 o5:f 5=true->f 2=true
 gr:J [] W w
def Ah(MT:Nat)(i:Nat)(a b:World):Prop:=if i=5 then(∃M,J M a b/\∀x∈M,MT<=x) else J [] a b
def Ah.of{c i:Nat}{a b:World}(hi:i≠5)(h:J [] a b):Ah c i a b:=by
 unfold Ah;rw[I_ hi];exact h
section
variable{b1:Nat}{W w w':World}{f:Nat->Bool}{vs:Nat->Value}{v:Value}{i:Nat}
def rC.add(h:rC b1 W f vs w)(hi:i∉[1,2,5])(hg:J [] w w'):rC b1 W (λk=>k==i||f k) (sV vs i v) w':=by
 have j:(1:Nat)≠i:=λc=>hi (by simp[<-c])
 have e:(2:Nat)≠i:=λc=>hi (by simp[<-c])
 have d:(5:Nat)≠i:=λc=>hi (by simp[<-c])
 refine⟨?_,?_,(by rw[ij d,ij e];exact h.o5),h.gr.trans hg⟩
 .rw[ij j,ij d,ll j];intro a b;obtain⟨A,h1,h2⟩:=h.h1 a b;exact⟨A,h1,h2.g_ hg⟩
 .rw[ij e,ij d,ll e];exact LM
def rC.qq(h:rC b1 W f vs w)(hg:J [] w w')(d:Fm v w' W.heap.size):rC b1 W (λc=>c==1||f c) (sV vs 1 v) w':=by
 refine⟨λ_ _=>by rw[nF];exact d,?_,(by rw[ij I,ij I];exact h.o5),h.gr.trans hg⟩;rw[ij I,ij I,ll I];exact LM
def rC.FB(h:rC b1 W f vs w)(a:J [] w w')(l:Fl b1 W.heap.size v w'):rC b1 W (λc=>c==2||f c) (sV vs 2 v) w':=by
 refine⟨?_,λ_ _=>by rw[nF];exact l,(λ_=>by simp),h.gr.trans a⟩;rw[ij I,ij I,ll I];intro e b;obtain⟨d,j,k⟩:=h.h1 e b;exact⟨d,j,k.g_ a⟩
def rC.Fz(h:rC b1 W f vs w)(d:f 2=true){M:List Nat}(e:J M w w')(k:∀x∈M,W.heap.size<=x):rC b1 W (λc=>c==5||f c) (sV vs 5 v) w':=
 ⟨(λa=>by simp at a),(λa=>by simp at a),(λ_=>by rw[ij I];exact d),h.gr.hA e (λx j=>.inr (k x j))⟩
end
structure FT where
 name:ByteArray
 AP:Option Addr
 cP:Nat
 ps:List ByteArray
 A:Option Addr
 c:Nat
 bs:List ST
def FT.E(f:FT):List Value:=[.string f.name,.slice f.AP f.ps.length f.cP,.slice f.A f.bs.length f.c]
def FT.In(lo hi:Nat)(w:World)(f:FT):Prop:=Ai lo hi w f.AP f.cP f.ps f.A f.c f.bs
def Fq(bs:List ST):Prop:=FG bs/\∃K,l3 ia 5 K bs/\K<=16/\bs.length<=12
def Fp(bs:List ST):Prop:=∃(s:ST) (MN ls:List ST) (K:Nat),bs=s::(MN++ls)/\s.hS=1/\s.name=oT/\MN.map ST.name=hM/\(∀u∈MN,u.hS=1)/\l3 hM 3 K bs/\K<=15/\bs.length<=21
def Ai.wide{hi a k o c:Nat}{w:World}{l A:OA}{ps:List ByteArray}{n:List ST}(h:Ai lo hi w l o ps A c n)(y:a<=lo)(s:hi<=k):Ai a k w l o ps A c n:=
 ⟨h.hp,h.s4,λx j d e=>by have:=h.EZ x j d e;omega,h.hb,h.CH,λx j d e=>by have:=h.tZ x j d e;omega,λt r=>(h.hs t r).imp λx z=>by omega⟩
def E8(B g:Nat)(w:World)(e:Ending)(w':World):Prop:=∃(x:Nat) (p j n:FT),e=.returned (.agg #[.slice (j_ x) 3 3])/\Sl w' 213 3 (j_ x) 3 ([p,j,n].flatMap FT.E)/\
 p.In w.heap.size w'.heap.size w'/\j.In w.heap.size w'.heap.size w'/\n.In w.heap.size w'.heap.size w'/\(p.name=wA/\p.ps=[]/\BZ p.bs)/\(j.name=qt/\j.ps=[pw,Cv]/\Fq j.bs)/\(n.name=pV/\n.ps=[m9]/\Fp n.bs)/\iL w' B g/\J [g] w w'
def Dq{w:World}{x:Nat}{s:ByteArray}(h:Bk w x 9 #[.string s]):Sl w 9 1 (j_ x) [s].length ([s].map Value.string):=jj (n:=1) (s:=1) h rfl
def Bb(B g:Nat)(w:World)(r:iL w B g)(hB:B<=w.heap.size):
 Calls prog 89 #[q_ g] w (E8 B g w):=by
 obtain⟨i1,bJ,bY,bZ,ca⟩:=info_parts infoSt;have a2:=r.x0
 go_enter func89,ntmps89
 go_upto_region 2 with fail
 obtain⟨-,-,aX⟩:=qL w 150 #[n_] 222 #[q_ g,Y 9,Y 0,Y 0];have cI:=r.g_ aX;have b9:=(Q_ w 150 #[n_]).alloc (.cells #[q_ g,Y 9,Y 0,Y 0] 222);obtain⟨-,cn,-⟩:=qL w 150 #[n_] 222 #[q_ g,Y 9,Y 0,Y 0];obtain⟨bj,b0⟩:=nm_ ((w.alloc (.cells #[n_] 150)).alloc (.cells #[q_ g,Y 9,Y 0,Y 0] 222));rw[<-b0]at aX cI b9 cn |-;clear b0;obtain⟨R0,cg⟩:=nm_ w.heap.size;obtain⟨m,fA⟩:=nm_ (w.heap.size+1);rw[<-cg]at b9 |-;rw[<-fA]at cn;have de:w.heap.size<=R0:=X;have eG:R0<m:=X;have fB:R0+1=m:=X;have hBm:B<=m:=X;rw[fB];clear cg fA fB
 go_upto_region 3 with(go_at_call 139;refine((tS B g m 0).1 0 6 9 0 _ rfl X X cI cn hBm X X X s_).mono ?_;rintro e w2⟨A,j,ts,N,al,rfl,c6,hL,hl0,hl1,bv,dn,ea,an⟩)
 obtain⟨b1,aQ⟩:=nm_ bj.heap.size;rw[<-aQ]at hL
 have dq:m<b1:=by rw[aQ];exact cn.lt
 have e9:=an.size;rw[<-aQ]at e9;clear aQ;have cj:=b9.gr an p_;have dC:J [g] w w2:=(aX.mono s_).hA an p_;clear cI cn b9 an aX r
 go_upto_if 16 with(go_at_call 19;refine(iq B g 3 ea X X).mono ?_;rintro e ah⟨aA,rfl,bp,bA,r,af⟩)
 have h:=dn.gr af p_;have P:=cj.gr af p_;have U:=dC.trans af;replace hL:=hL.iy af p_;have aZ:=G_ e9 af.size;clear ea dn cj dC af e9
 go_cut [4] (λx bd=>∃(A:OA) (j:Nat) (ts:List ST) (eP:Nat) (al:Int),x=.slice A ts.length j/\lI hM b1 4 eP bd A j ts/\ts.length<=8/\(eP:Int)<=19/\Bk bd m 222 #[q_ g,Y al,Y 0,Y 0]/\Bk bd R0 150 #[n_]/\iL bd B g/\J [g] w bd/\b1<=bd.heap.size)
 case first=>
  by_cases hr:0<aA
  .have dt:decide (0<aA)=true:=by simp[hr]
   simp only[dt];clear hr dt
   go_upto_region 4 with fail
   obtain⟨W,aM⟩:=nm_ ah;rw[<-aM]at r h P hL U aZ |-;clear aM;have cD:∀y∈[g],y∈(g::oS (Value.slice A ts.length j).ownBlock):=s_
   have l:∀y∈oS (Value.slice A ts.length j).ownBlock,b1<=y:=λy hy=>(kx hL.own (jC.1 hy)).1
   have eo:∀y∈oS (Value.slice A ts.length j).ownBlock,B<=y/\m≠y:=λy hy=>by have:=l y hy;omega
   have eI:∀y,(Value.slice A ts.length j).ownBlock=some y->y<W.heap.size:=λy hy=>(kx hL.own hy).2
   have T:∀y∈(g::oS (Value.slice A ts.length j).ownBlock),y<W.heap.size:=Ma;have aI:Ps B g m 0 100 (g::oS (Value.slice A ts.length j).ownBlock) (λw=>Bk w R0 150 #[n_]) (λw=>lI hM b1 4 N w A j ts) W false W:=⟨r,⟨al,hl0,X,h⟩,P,λ_=>hL,H _ W,λbk b a k=>k.gr a (λh=>by rcases N_.1 h with a|a;omega;have:=l _ a;omega),λbk b a k=>k.iy a p_,s_,X⟩;refine qw (λf=>Ps B g m 0 100 (g::oS (Value.slice A ts.length j).ownBlock) (λw=>Bk w R0 150 #[n_]) (λw=>lI hM b1 4 N w A j ts) W (f 6)) (λ_ _=>True) (G2 6 [g] (g::oS (Value.slice A ts.length j).ownBlock)) [SU.my _ (.slice A ts.length j),SU.my _ (q_ m),(SU.tree T (0)).vK (λ_ _ _ a=>a.gr cD),(SU.trees T 2 1).vK (λ_ _ _ a=>a.gr cD),(SU.stmt T (1) (1)).vK (λ_ _ _ a=>a.gr cD),(SU.of (λv w=>∃(x:Nat) (t:ST),v=.slice (j_ x) 1 1/\W.heap.size<=x/\Bk w x 229 t.g8/\jD (jx W.heap.size) w t/\SG hM 1 1 t) (λ_ _ _ S⟨x,t,z,k,h3,ar,av⟩=>⟨x,t,z,k,h3.gr S (λh=>by have:=T x h;omega),ar.ib S (λy hy=>Gm.2 (T y hy)),av⟩)).vK (λ_ _ _ a=>a.gr cD),SU.Aa [6] (λv w=>∃(aD:OA) (am:Nat) (us:List ST) (K:Nat),v=.slice aD us.length am/\lI hM b1 4 K w aD am us/\us.length<=8/\K<=N+1) (λi hi v w w' S⟨aD,am,us,K,z,k,h3⟩=>⟨aD,am,us,K,z,k.iy (S.ne (zu hi)) p_,h3⟩),SU.Aa [6] (λv w=>∃(aD:OA) (am:Nat) (us:List ST) (K:Nat),v=.slice aD us.length am/\lI hM b1 4 K w aD am us/\us.length<=8/\K<=N+1) (λi hi v w w' S⟨aD,am,us,K,z,k,h3⟩=>⟨aD,am,us,K,z,k.iy (S.ne (zu hi)) p_,h3⟩)] (SU.anyI _) [[],[],[1],[2],[3],[4],[0,5],[6]] false [(some 17,0),(some 18,1),(some 19,2),(some 20,3),(some 21,4),(some 22,5),(some 23,6),(some 4,7)] k_ k_ (λ_ _ _ _ _ a=>a) k_ rfl rfl k_ aI ⟨?_,?_,?_,?_,?_,?_,?_,?_,trivial⟩ ?_
   .exact KQ
   .exact KQ
   .refine je [(some 18,1)] ?_;intro f vs Q hf C MS K MT;obtain⟨o, -⟩:=MS;replace o:_=_:=o
    try simp only[b_,o]at MT |-
    obtain⟨cK,ed,ej,co⟩:=C.lf;go_simp
    go_at_call 140
    refine(kE B g m cK 0 0 0 X _ rfl _ C.d co hBm).mono ?_;exact Li
   .refine je [(some 19,2)] ?_;exact IK
   .refine je [(some 20,3)] ?_;exact Ix
   .refine je [(some 21,4)] ?_;exact I1
   .refine je [(some 17,0),(some 22,5)] ?_;intro f vs Q hf C MS K MT;obtain⟨o,⟨aG,tb,aq,cp,bn,MO,d⟩, -⟩:=MS;replace o:_=_:=o
    try simp only[b_,o,aq]at MT |-
    have b7:=C.l hf;have e1:=C.hz;refine iV k_ ?_;refine oW _ _ _ rfl b1 229 i1 _ 8 128 underlying211 bJ bY bZ ca rfl I I A ts.length j (ts.flatMap ST.E) r_ b7.own _ 1 1 ([tb].flatMap ST.E) r_ (rO tb bn) (k9) X X ?_;intro aD am bH b8 bz bD;have cW:=b7.add (us:=[tb]) b8 bz bD (λu hu=>by have:u=tb:=(zu hu);subst this;exact MO.imp (λy hy=>⟨by have:W.heap.size<=y:=hy;omega,λhe=>by have z:=eI y he;have:W.heap.size<=y:=hy;omega⟩)) (d.mono X);exact MT.out (.slice aD (ts.length+1) am) _ (C.app (J.iW bz) eo (λy hy=>by simp[hy])) ((J.iW bz).mono (by intro y hy;simp[hy])) ⟨aD,am,ts++[tb],N+1,s_,by simpa using cW,p_,H_ _⟩
   .refine je [(some 23,6)] ?_;intro f vs Q hf C MS K MT;obtain⟨⟨fN,fS,ta,eg,o,fQ,cv⟩, -⟩:=MS
    try simp only[b_,o]at MT |-
    go_simp;exact MT.out _ _ C (H _ _) ⟨fN,fS,ta,eg,rfl,fQ,cv⟩
   rintro f vs bo hf⟨C,MS⟩;obtain⟨c,aC,⟨ag,aw,i2,bm⟩,⟨ao,t3,bE,n3,dF,dB,g5⟩,⟨t4,bu,fI,k4⟩,⟨bK,t5,a7,dk,eh,g3,du⟩,⟨aK,aJ,g4,gF,dh,eA,n6⟩,⟨aO,bl,gE,fR,dK,fj,n7⟩, -⟩:=MS;replace c:vs 0=.slice A ts.length j:=c;replace aC:vs 1=q_ m:=aC;simp only[b_,c,aC,aw,bE,bu,a7,dh,dK];clear c aC aw bE bu a7 dh dK;clear r h P hL aI;obtain⟨r,⟨l',ce,dO,h⟩,P, -,G, -, -, -, -⟩:=C;have eu:=G_ aZ G.size;replace U:=U.hA G (by intro y hy;rcases N_.1 hy with a|a;left;simp[a];right;have:=l _ a;omega);go_wp2;go_meet;exact⟨aO,bl,gE,fR,l',rfl,fj,n7.1,ov n7.2,h,P,r,U,eu⟩
  .have dt:decide (0<aA)=false:=by simp[hr]
   go_wp2;go_meet;exact⟨A,j,ts,N,al,rfl,hL,X,X,h,P,r,U,aZ⟩
 case rest=>
  clear r h P U aZ hL hl0 hl1 bv c6 A j ts N al;obtain⟨A,j,ts,eP,al,rfl,hL,iG,dM,h,P,r,U,eu⟩:=hcut;obtain⟨bd,er⟩:=nm_ wc;rw[<-er]at hL h P r U eu |-;clear er;obtain⟨n0,hn0⟩:=nm_ ts.length;have aW:=O hn0;have cy:=hL.own;have gl:=eu;rw[<-hn0]at cy iG |-;clear hn0
  go_upto_region 6 with(first|(go_at_call 142;refine(kP bd.heap.size pw (eNew 3) bd (H_ _) (kl.leaf _ _ _ _ _ _)).mono ?_;rintro e ad⟨As,rfl,b5,ak⟩;simp only[iZ,ST.ic])|(at_builtin;refine j0 rfl rfl ad.heap.size 229 i1 8 128 underlying211 bJ bY bZ ca rfl I I (j_ ad.heap.size) 1 1 _ rfl (tJ (n:=1) (s:=8) (Q_ ad 229 (iZ pw As (eNew 3)).g8) rfl (H_ _) I) A n0 j (ts.flatMap ST.E) rfl (((Sl.iQ cy).g_ ak).alloc _) (k9) X s_ ?_;intro aK aJ ay b3 ei dj;have eA:=Bu b5 ak hL aW.out b3 ei dj (H_ _) gl)|(go_at_call 141;go_loud (refine(uZ b1 4 (1+eP) aK (1+n0) aJ ([iZ pw As (eNew 3)]++ts) (j_ ay.heap.size) 3 9 (by have:=aW.out;simp;omega) (Cy (eA.iy ((H [] ay).alloc (.cells #[.string {data:=#[105]},.string {data:=#[106]},.string {data:=#[107]}] 9)) s_) aW.out) X (λu hu=>(eA.iy ((H [] ay).alloc (.cells #[.string {data:=#[105]},.string {data:=#[106]},.string {data:=#[107]}] 9)) s_).from u hu) eA.sg (by have z:=(J.iW ei).size;have k:=ak.size;simp at z |-;omega) (jj (n:=3) (s:=1) (Q_ ay 9 #[.string {data:=#[105]},.string {data:=#[106]},.string {data:=#[107]}]) rfl)).mono ?_;rintro e bH⟨bN,cx,MN,rfl,d0,ep,eY,aY,eL,dP⟩;obtain⟨cw,dW⟩:=nm_ (MN++([iZ pw As (eNew 3)]++ts));rw[<-dW]at d0 dP;rw[<-dW];have cT:=O dW;obtain⟨cM,dr⟩:=nm_ cw.length;have ef:=O dr;rw[<-dr];clear dW dr)))
  have eH:J [] bd (bH.alloc (.cells #[.string wA,n_,.slice bN cM cx] 213)):=by
   have z:=(ak.alloc _).hA (J.iW ei) (λx c=>by have:=jC.1 c;simp[Value.ownBlock]at this;have:=ak.size;right;omega);exact((z.alloc _).trans aY).alloc _
  have p:mS b1 (bH.alloc (.cells #[.string wA,n_,.slice bN cM cx] 213)).heap.size bH.heap.size (bH.alloc (.cells #[.string wA,n_,.slice bN cM cx] 213)):=by
   refine⟨bN,cx,cw,?_,(d0.iy ((H [] bH).alloc (.cells #[.string wA,n_,.slice bN cM cx] 213)) s_).fin (H_ _),⟨MN,_,_,cT.out,ep,eY,d0.sg,X,?_⟩,?_,s_⟩
   .rw[<-ef.out];exact Q_ bH 213 #[.string wA,n_,.slice bN cM cx]
   .have aT:=by have:=FN List.length ep;simpa[hM]using this
    rw[cT.out];simp[aT]
    have:=aW.out
    omega
   .have:=aY.size
    have:=P.lt
    have:=ak.size
    have:=(J.iW ei).size
    simp at*;omega
  replace h:=h.g_ eH;replace r:=r.g_ eH;replace P:=P.g_ eH;replace U:=U.trans (eH.mono s_);clear hL cy b3 ei dj eA d0 aY eL dP cT ef eH b5 ak eu ep eY;obtain⟨RM,dV⟩:=nm_ bH.heap.size;obtain⟨l,b4⟩:=nm_ (bH.alloc (.cells #[.string wA,n_,.slice bN cM cx] 213));rw[<-dV]at p |-;rw[show(bH.alloc (.cells #[.string {data:=#[109,97,105,110]},n_,.slice bN cM cx] 213))=l from b4.symm];rw[<-b4]at p h r P U;clear dV b4;obtain⟨H9,eS⟩:=nm_ l.heap.size;rw[<-eS]at p
  have gW:m<H9:=by rw[eS];exact h.lt
  have aS:=h.f_ 3;have z3:=h.hm 3;have ai:=h.f_ 1;have aR:=h.hm 1
  go_upto_region 7 with fail
  clear aS z3 ai aR;have bt:J [m] l ((l.setCell (Z m 3) (Y 1)).setCell (Z m 1) (Y 3)):=((H [m] l).setCell (.inl s_) _).setCell (.inl s_) _;replace h:Bk ((l.setCell (Z m 3) (Y 1)).setCell (Z m 1) (Y 3)) m 222 #[q_ g,Y 3,Y 0,Y 1]:=(h.hN 3 _).hN 1 _;replace r:=r.ib bt p_;replace P:=P.gr bt p_;replace p:=p.iy bt p_;replace U:=U.hA bt p_;have eZ:=bt.size;rw[<-eS]at eZ;obtain⟨bB,fG⟩:=nm_ ((l.setCell (Z m 3) (Y 1)).setCell (Z m 1) (Y 3));rw[<-fG]at h r P p U eZ |-;clear fG bt eS;obtain⟨W,aM⟩:=nm_ bB;rw[<-aM]at r h P p U eZ |-;clear aM;have T:∀y∈[g],y<W.heap.size:=p_;have aI:Ps B g m 1 3 [g] (λw=>Bk w R0 150 #[n_]/\mS b1 H9 RM w) (λ_=>True) W true W:=⟨r,⟨3,X,X,h⟩,⟨P,p⟩,(λa=>by cases a),H _ W,λbk b a k=>⟨k.1.gr a p_,k.2.iy a p_⟩,λ_ _ _ a=>a,s_,X⟩;refine iI (Ps B g m 1 3 [g] (λw=>Bk w R0 150 #[n_]/\mS b1 H9 RM w) (λ_=>True) W true) (λvs l=>∃(RA:Nat) (t:ST),vs 12=q_ RA/\W.heap.size<=RA/\Bk l RA 229 t.g8/\jD (jx W.heap.size) l t/\SG ia 2 2 t/\iL l B g/\Lf g m 0 1 3 l/\(Bk l R0 150 #[n_]/\mS b1 H9 RM l)/\J [g,RA] W l) (J [g]) [SU.tw ia T (0),SU.tw ia T (0),SU.tw ia T (0+1),SU.Az ia T 2 1,SU.tw ia T (0),SU.tw ia T (0),SU.tw ia T (0),SU.tw ia T (0+1),SU.Az ia T 2 2,SU.of (λv w=>∃t:ST,v=.agg t.g8/\jD (jx W.heap.size) w t/\SG ia 1 1 t/\t.hS=3/\t.bs=[]/\t.ls=[]) (λ_ _ _ S⟨t,z,k,h3⟩=>⟨t,z,k.ib S (λx c=>Gm.2 (T x c)),h3⟩),SU.of (λv w=>∃(y:Nat) (t:ST),v=.slice (j_ y) 1 1/\W.heap.size<=y/\Bk w y 229 t.g8/\jD (jx W.heap.size) w t/\SG ia 1 1 t/\t.hS=3/\t.bs=[]/\t.ls=[]) (λ_ _ _ S⟨y,t,h0,z,k,h3,ar⟩=>⟨y,t,h0,z,k.gr S (λh=>by have:=T y h;omega),h3.ib S (λx c=>Gm.2 (T x c)),ar⟩),SU.of (λv w=>∃(x y:Nat) (t3:List ET) (t:ST),v=.agg #[Y 4,.string i4,.string i4,Y 0,Y 0,.slice (j_ x) 1 1,.slice (j_ y) 1 1,n_]/\t3.length=1/\W.heap.size<=x/\Sl w 226 5 (j_ x) 1 (t3.flatMap ET.E)/\(∀u∈t3,kl (jx W.heap.size) w u/\EG ia 2 u)/\W.heap.size<=y/\Bk w y 229 t.g8/\jD (jx W.heap.size) w t/\SG ia 1 1 t/\t.hS=3/\t.bs=[]/\t.ls=[]) (λ_ _ _ S⟨x,y,t3,t,h0,z,k,h3,ar,av,aV,bq,aT⟩=>⟨x,y,t3,t,h0,z,k,h3.iy λbr off bx c=>S.block br c (λh=>by injection bx with bx;injection bx with bx;have:=T br h;omega),λu hu=>⟨(ar u hu).1.ib S (λx c=>Gm.2 (T x c)),(ar u hu).2⟩,av,aV.gr S (λh=>by have:=T y h;omega),bq.ib S (λx c=>Gm.2 (T x c)),aT⟩),SU.of (λv w=>∃R,v=q_ R/\W.heap.size<=R/\Bk w R 229 #[Y 0,.string i4,.string i4,Y 0,Y 0,n_,n_,n_]) (λ_ _ _ S⟨x,k,h3,ar⟩=>⟨x,k,h3,ar.gr S (λh=>by have:=T x h;omega)⟩),SU.any _] (SU.any _) [[],[],[0,1],[2],[],[],[],[5,6],[4,7],[8],[9],[3,10],[],[12,11]] true [(some 38,0),(some 39,1),(some 40,2),(some 41,3),(some 42,4),(some 43,5),(some 44,6),(some 45,7),(some 46,8),(some 47,9),(some 48,10),(some 49,11),(some 6,12),(none,13)] k_ k_ (λ_ _ _ _ _ a=>a) k_ rfl rfl k_ aI ⟨?_,?_,?_,?_,?_,?_,?_,?_,?_,?_,?_,?_,?_,?_,trivial⟩ ?_
  .refine hK [] ?_;intro vs Q C MS K MT;clear MS
   try simp only[b_]at MT |-
   go_simp
   go_at_call 144
   refine(j3 _).mono ?_;rintro e w1⟨rfl,hg1⟩;exact MT.out _ _ (C.g_ hg1) (hg1.mono s_) ⟨ju 0,rfl,kl.leaf _ _ _ _ _ _,.num _ _ X X⟩
  .exact Jk
  .refine hK [(some 38,0),(some 39,1)] ?_;intro vs Q C MS K MT;exact I9
  .refine hK [(some 40,2)] ?_;intro vs Q C MS K MT;exact IR
  .refine hK [] ?_;intro vs Q C MS K MT;clear MS
   try simp only[b_]at MT |-
   go_simp
   go_at_call 145
   refine(j5 _).mono ?_;rintro e w1⟨rfl,hg1⟩;exact MT.out _ _ (C.g_ hg1) (hg1.mono s_) ⟨jv wB,rfl,kl.leaf _ _ _ _ _ _,.var _ _ (by simp[ia,hM])⟩
  .exact Jk
  .refine hK [] ?_;intro vs Q C MS K MT;exact JD
  .refine hK [(some 43,5),(some 44,6)] ?_;intro vs Q C MS K MT;obtain⟨⟨ta,o,aE,E⟩,⟨tb,aq,MO,d⟩, -⟩:=MS
   try simp only[b_,o,aq]at MT |-
   go_simp
   go_at_call 143
   refine(oM W.heap.size 2 ta tb C.hz aE MO).mono ?_;rintro e w1⟨A,rfl,MP,hg1⟩;exact MT.out _ _ (C.g_ hg1) (hg1.mono s_) ⟨qu 2 A ta tb,rfl,MP,.bin 0 _ _ _ _ X X (E.mono X) (d.mono X)⟩
  .refine hK [(some 42,4),(some 45,7)] ?_;intro vs Q C MS K MT;obtain⟨⟨ta,o,aE,E⟩,⟨tb,aq,MO,d⟩, -⟩:=MS
   try simp only[b_,o,aq]at MT |-
   obtain⟨bC,bF,bQ,bR,bS,bT,bU⟩:=ta;obtain⟨d1,d2,d3,d4,d5,d6,d7⟩:=tb;simp only[ET.ic]at MT |-;go_simp;refine MT.out _ _ (C.g_ ((H [] _).alloc _)) ((H _ _).alloc _) ⟨_,[ET.mk bC bF bQ bR bS bT bU,ET.mk d1 d2 d3 d4 d5 d6 d7],rfl,rfl,C.hz,tE (ET.mk bC bF bQ bR bS bT bU) (ET.mk d1 d2 d3 d4 d5 d6 d7) (Q_ _ _ _),?_⟩;exact JR
  .refine hK [(some 46,8)] ?_;intro vs Q C MS K MT;obtain⟨⟨a6,ta,o,cv,bg,be,cQ⟩, -⟩:=MS
   try simp only[b_,o]at MT |-
   go_simp;refine MT.out _ _ C (H _ _) ⟨(lR 3 vv qt 0 0 (j_ a6) ta.length ta),?_,jD.es _ _ _ _ _ (by rw[cv];exact be) bg (λu hu=>(cQ u hu).1),SG.leaf (t:=(lR 3 vv qt 0 0 (j_ a6) ta.length ta)) (by show m7 _ 3 vv qt 0 0 ta.length _ _;rw[cv];exact .wW _ (by simp[ia,hM])) rfl rfl (λu hu=>(cQ u hu).2),rfl,rfl,rfl⟩
   show Value.agg _=Value.agg (lR 3 vv qt 0 0 (j_ a6) ta.length ta).g8
   simp only[lR,ST.ic,cv]
   rfl
  .refine hK [(some 47,9)] ?_;intro vs Q C MS K MT;obtain⟨⟨ta,o,aE,E,fV⟩, -⟩:=MS
   try simp only[b_,o]at MT |-
   obtain⟨s1,bV,cr,dw,bX,bL,b6,da,cu,bw,sb,sc,dx,dy⟩:=ta;simp only[ST.ic]at MT |-;go_simp;exact MT.out _ _ (C.g_ ((H [] _).alloc _)) ((H _ _).alloc _) ⟨_,ST.mk s1 bV cr dw bX bL b6 da cu bw sb sc dx dy,rfl,C.hz,Q_ _ _ _,aE.g_ ((H [] _).alloc _),E,fV⟩
  .refine hK [(some 41,3),(some 48,10)] ?_;intro vs Q C MS K MT;obtain⟨⟨a6,ta,o,cv,bg,be,cQ⟩,⟨df,tb,aq,cp,bn,MO,d⟩, -⟩:=MS
   try simp only[b_,o,aq]at MT |-
   go_simp;exact MT.out _ _ C (H _ _) ⟨a6,df,ta,tb,rfl,cv,bg,be,cQ,cp,bn,MO,d⟩
  .refine hK [] ?_;intro vs Q C MS K MT;clear MS
   try simp only[b_]at MT |-
   go_simp;exact MT.out _ _ (C.g_ ((H [] _).alloc _)) ((H _ _).alloc _) ⟨_,rfl,C.hz,Q_ _ _ _⟩
  .refine jr [(some 6,12),(some 49,11)] ?_;intro vs Q C MS K MT;obtain⟨⟨a6,o,bg,be⟩,⟨aG,df,sb,tb,aq,nb,cp,bn,cF,c7,cO,MO,d,e4⟩, -⟩:=MS
   try simp only[b_,o,aq]at MT |-
   have g0:df≠a6:=by
    intro he;subst he;have z:Q.heap[df]?=_:=cO;have k:Q.heap[df]?=_:=be;rw[z]at k;have h3:=e4.1;obtain⟨s1,bV,cr,dw,bX,bL,b6,da,cu,bw,sb,sc,dx,dy⟩:=tb;simp only[ST.ic]at k;simp at k;have ar:s1=3:=h3;omega
   have gY:=bn.Ab I be I;refine iV k_ ?_;refine ie 229 rfl a6 r_ #[Y 4,.string i4,.string i4,Y 0,Y 0,.slice (j_ aG) 1 1,.slice (j_ df) 1 1,n_] r_ 229 be rfl k_ (by simp[Value.oneCell']) ?_;intro l ax G;refine MT.out undef _ (λ_=>⟨a6,ST.mk 4 i4 i4 0 0 (j_ aG) 1 sb (j_ df) 1 [tb] none 0 [],o,bg,?_,?_,?_,C.d.ib G p_,C.lf.gr G p_,⟨C.f.1.gr G p_,C.f.2.iy G p_⟩,(C.gr.mono s_).trans (G.mono s_)⟩)
   .simp only[ST.ic,nb];exact ax
   .refine jD.mk _ (by rw[show((ST.mk 4 i4 i4 0 0 (j_ aG) 1 sb (j_ df) 1 [tb] none 0 []).es.length)=1 from nb];exact bn.iy λbr off bx c=>G.block br c (λh=>by injection bx with bx;injection bx with bx;simp at h;omega)) (Nat.le_of_eq nb) (λbr off a _=>by injection a with a;injection a with a;omega) (λu hu=>(((cF u hu).1.Ab be I).ib G (by intro br hz hp;simp at hz;exact hp.2 hz)).imp λ_ hp=>hp.1) ((rO tb cO).iy λbr off bx c=>G.block br c (λh=>by injection bx with bx;injection bx with bx;simp at h;omega)) (H_ _) (λbr off a _=>by injection a with a;injection a with a;omega) ?_ (Gz _ _ _ _) (H_ _) (λ_ _ a _=>by cases a) (λu hu=>by cases hu);intro u hu
    have:u=tb:=R_.1 hu
    subst this
    exact((MO.Fw e4.2.1 e4.2.2 be I).ib G (by intro br hz hp;simp at hz;exact hp.2 hz)).imp λ_ hp=>hp.1
   .exact SG.node (nb:=1) (nl:=0) (t:=ST.mk 4 i4 i4 0 0 (j_ aG) 1 sb (j_ df) 1 [tb] none 0 []) (by show m7 _ 4 i4 i4 0 0 sb.length true true;rw[nb];exact .DX) (λu hu=>(cF u hu).2) d (.nil _)
  intro vs bo C;simp only[b_];clear r h P p aI;obtain⟨RA,tA,fm,gG,bx,d9,fC,r,dD,⟨P,p⟩,G⟩:=C;rw[fm];clear fm;replace U:=U.hA G p_;have fH:=G_ eZ G.size
  go_upto_region 8 with fail
  have gP:b1<=H9:=by obtain⟨_,_,_,_,_,_,z,k⟩:=p;omega
  replace d9:=d9.lt.imp (q:=λx=>b1<=x/\x<bo.heap.size) (λx c=>⟨by have:W.heap.size<=x:=c.1;omega,c.2⟩);have gK:b1<=RA:=X;obtain⟨W,aM⟩:=nm_ bo;rw[<-aM]at r dD P p bx d9 U fH |-;clear aM;obtain⟨HA,eT⟩:=nm_ W.heap.size
  have gJ:RA<HA:=by rw[eT];exact bx.lt
  rw[<-eT]at d9 fH;have eE:=T;clear T;have T:∀y∈[g,m],y<HA:=p_;have eJ:g<B/\B<=m/\R0<m/\g<R0/\m<b1/\b1<=HA/\H9<=HA/\RA<HA/\b1<=RA/\W.heap.size=HA:=⟨X,X,X,X,X,X,X,X,X,eT.symm⟩;have bO:=(H [] W).drew
  obtain⟨s1,bV,cr,dw,bX,bL,b6,da,cu,bw,sb,sc,dx,dy,fx⟩:∃s1 bV cr dw bX bL b6 da cu bw sb sc dx dy,tA=ST.mk s1 bV cr dw bX bL b6 da cu bw sb sc dx dy:=by
   cases tA
   exact⟨_,_,_,_,_,_,_,_,_,_,_,_,_,_,rfl⟩
  have e2:=O fx;clear fx eT
  have aI:∀vs,s8 B g m R0 b1 H9 RM RA HA tA W (λ_=>false) vs W.drew:=λvs=>⟨r.g_ bO,dD.gr bO s_,P.g_ bO,p.iy bO s_,bx.g_ bO,d9.g_ bO,(λ_ _ _ _ a=>by cases a),(λa=>by cases a),(λa=>by cases a),(λa=>by cases a),(λa=>a),bO.mono s_,eJ⟩
  refine oo (λf vs=>s8 B g m R0 b1 H9 RM RA HA tA W f vs) (λvs l=>∃(cU x:Nat) (A:OA) (j:Nat) (us:List ST) (K:Nat),vs 21=q_ cU/\HA<=cU/\Bk l cU 213 #[.string qt,.slice (j_ x) 2 2,.slice A us.length j]/\HA<=x/\Bk l x 9 #[.string {data:=#[112]},.string {data:=#[110]}]/\lI ia b1 5 K l A j us/\(K<=15/\us.length<=11/\FG us/\∀y,(Value.slice A us.length j).ownBlock=some y->HA<=y)/\iL l B g/\Lf g m 0 1 3 l/\Bk l R0 150 #[n_]/\mS b1 H9 RM l/\J [g,m] W l/\True) (G8 g m HA) [SU.Aa [] (λv w=>∃x,v=.slice (j_ x) 2 2/\HA<=x/\Bk w x 9 #[.string {data:=#[112]},.string {data:=#[110]}]) (λ_ _ _ _ _ S⟨x,z,k,h3⟩=>⟨x,z,k,S.bk h3 I X X⟩),SU.my _ (.agg (ju 1).g8),SU.anyI _,SU.my _ (.agg (ju 0).g8),SU.anyI _,SU.my _ (.agg (ju 2).g8),SU.anyI _,SU.my _ (.agg (jv pw).g8),SU.anyI _,SU.my _ (.agg (ju 0).g8),SU.anyI _,SU.my _ (.agg (ju 0).g8),SU.anyI _,SU.my _ (.agg (ju 0).g8),SU.anyI _,SU.my _ (.agg tA.g8),SU.anyI _,SU.my _ (q_ m),SU.anyI _,SU.Aa [19] (λv w=>∃(A:OA) (j:Nat) (us:List ST) (K:Nat),v=.slice A us.length j/\lI ia b1 5 K w A j us/\K<=15/\us.length<=11/\FG us/\∀y,(Value.slice A us.length j).ownBlock=some y->HA<=y) (λi hi v w w' S⟨A,j,us,K,z,k,h3⟩=>⟨A,j,us,K,z,k.iy (S.gr hi) p_,h3⟩),SU.Aa [19] (λv w=>∃(x:Nat) (A:OA) (j:Nat) (us:List ST) (K:Nat),v=.agg #[.string qt,.slice (j_ x) 2 2,.slice A us.length j]/\HA<=x/\Bk w x 9 #[.string {data:=#[112]},.string {data:=#[110]}]/\lI ia b1 5 K w A j us/\K<=15/\us.length<=11/\FG us/\∀y,(Value.slice A us.length j).ownBlock=some y->HA<=y) (λi hi v w w' S⟨x,A,j,us,K,z,h0,c,k,h3⟩=>⟨x,A,j,us,K,z,h0,S.bk c I X X,k.iy (S.gr hi) p_,h3⟩),SU.Aa [] (λv w=>∃R,v=q_ R/\HA<=R/\Bk w R 213 #[.string i4,n_,n_]) (λ_ _ _ _ _ S⟨x,z,k,h3⟩=>⟨x,z,k,S.bk h3 I X X⟩),SU.anyI _] (SU.anyI _) [[],[],[1],[],[3],[],[5],[],[7],[],[9],[],[11],[],[13],[],[2,4,6,8,10,12,14,15],[],[17],[16,18],[0,19],[],[21,20]] true [(some 50,0),(some 51,1),(some 52,2),(some 53,3),(some 54,4),(some 55,5),(some 56,6),(some 57,7),(some 58,8),(some 59,9),(some 60,10),(some 61,11),(some 62,12),(some 63,13),(some 64,14),(some 65,15),(some 66,16),(some 67,17),(some 68,18),(some 69,19),(some 70,20),(some 7,21),(none,22)] k_ k_ k_ (λ_ _ _ _ _ a=>a) k_ rfl rfl k_ aI ⟨?_,?_,?_,?_,?_,?_,?_,?_,?_,?_,?_,?_,?_,?_,?_,?_,?_,?_,?_,?_,?_,?_,?_,trivial⟩ ?_
  .exact JK
  .refine jJ [] ?_;intro f vs Q hf hp C MS K MT;clear MS
   try simp only[b_]at MT |-
   go_simp
   go_at_call 144
   refine(j3 1).mono ?_;exact L6
  .refine jJ [(some 51,1)] ?_;intro f vs Q hf hp C MS K MT;obtain⟨o, -⟩:=MS;replace o:_=_:=o
   try simp only[b_,o]at MT |-
   go_simp
   go_at_call 142
   refine(kP HA wB (ju 1) _ C.hz (kl.leaf _ _ _ _ _ _)).mono ?_;rintro e w1⟨A,rfl,MP,hg1⟩;exact MT.out _ _ (C.ym (x:=wB) (by simp[mX]) (by intro y hy;simp[mX]at hy;exact hy) hg1 ⟨A,ju 1,rfl,MP,SG.leaf (t:=iZ wB A (ju 1)) (.vH _ (show wB∈ia by simp[ia,hM])) rfl rfl (by intro u hu;rcases N_.1 hu with rfl|hu;exact .num _ _ X X;cases hu)⟩) (G8.jX I hg1) trivial
  .exact JC
  .refine jJ [(some 53,3)] ?_;intro f vs Q hf hp C MS K MT;obtain⟨o, -⟩:=MS;replace o:_=_:=o
   try simp only[b_,o]at MT |-
   go_simp
   go_at_call 142
   refine(kP HA vv (ju 0) _ C.hz (kl.leaf _ _ _ _ _ _)).mono ?_;rintro e w1⟨A,rfl,MP,hg1⟩;exact MT.out _ _ (C.ym (x:=vv) (by simp[mX]) (by intro y hy;simp[mX]at hy;exact hy) hg1 ⟨A,ju 0,rfl,MP,SG.leaf (t:=iZ vv A (ju 0)) (.vH _ (show vv∈ia by simp[ia,hM])) rfl rfl (by intro u hu;rcases N_.1 hu with rfl|hu;exact .num _ _ X X;cases hu)⟩) (G8.jX I hg1) trivial
  .refine jJ [] ?_;intro f vs Q hf hp C MS K MT;clear MS
   try simp only[b_]at MT |-
   go_simp
   go_at_call 144
   refine(j3 2).mono ?_;exact L6
  .refine jJ [(some 55,5)] ?_;intro f vs Q hf hp C MS K MT;obtain⟨o, -⟩:=MS;replace o:_=_:=o
   try simp only[b_,o]at MT |-
   go_simp
   go_at_call 142
   refine(kP HA vM (ju 2) _ C.hz (kl.leaf _ _ _ _ _ _)).mono ?_;rintro e w1⟨A,rfl,MP,hg1⟩;exact MT.out _ _ (C.ym (x:=vM) (by simp[mX]) (by intro y hy;simp[mX]at hy;exact hy) hg1 ⟨A,ju 2,rfl,MP,SG.leaf (t:=iZ vM A (ju 2)) (.vH _ (show vM∈ia by simp[ia,hM])) rfl rfl (by intro u hu;rcases N_.1 hu with rfl|hu;exact .num _ _ X X;cases hu)⟩) (G8.jX I hg1) trivial
  .refine jJ [] ?_;intro f vs Q hf hp C MS K MT;clear MS
   try simp only[b_]at MT |-
   go_simp
   go_at_call 145
   refine(j5 pw).mono ?_;exact L6
  .refine jJ [(some 57,7)] ?_;intro f vs Q hf hp C MS K MT;obtain⟨o, -⟩:=MS;replace o:_=_:=o
   try simp only[b_,o]at MT |-
   go_simp
   go_at_call 142
   refine(kP HA m9 (jv pw) _ C.hz (kl.leaf _ _ _ _ _ _)).mono ?_;rintro e w1⟨A,rfl,MP,hg1⟩;exact MT.out _ _ (C.ym (x:=m9) (by simp[mX]) (by intro y hy;simp[mX]at hy;exact hy) hg1 ⟨A,jv pw,rfl,MP,SG.leaf (t:=iZ m9 A (jv pw)) (.vH _ (show m9∈ia by simp[ia,hM])) rfl rfl (by intro u hu;rcases N_.1 hu with rfl|hu;exact .var _ _ (by simp[ia,hM]);cases hu)⟩) (G8.jX I hg1) trivial
  .exact JC
  .refine jJ [(some 59,9)] ?_;intro f vs Q hf hp C MS K MT;obtain⟨o, -⟩:=MS;replace o:_=_:=o
   try simp only[b_,o]at MT |-
   go_simp
   go_at_call 142
   refine(kP HA oT (ju 0) _ C.hz (kl.leaf _ _ _ _ _ _)).mono ?_;rintro e w1⟨A,rfl,MP,hg1⟩;exact MT.out _ _ (C.ym (x:=oT) (by simp[mX]) (by intro y hy;simp[mX]at hy;exact hy) hg1 ⟨A,ju 0,rfl,MP,SG.leaf (t:=iZ oT A (ju 0)) (.vH _ (show oT∈ia by simp[ia,hM])) rfl rfl (by intro u hu;rcases N_.1 hu with rfl|hu;exact .num _ _ X X;cases hu)⟩) (G8.jX I hg1) trivial
  .exact JC
  .refine jJ [(some 61,11)] ?_;intro f vs Q hf hp C MS K MT;obtain⟨o, -⟩:=MS;replace o:_=_:=o
   try simp only[b_,o]at MT |-
   go_simp
   go_at_call 142
   refine(kP HA xX (ju 0) _ C.hz (kl.leaf _ _ _ _ _ _)).mono ?_;rintro e w1⟨A,rfl,MP,hg1⟩;exact MT.out _ _ (C.ym (x:=xX) (by simp[mX]) (by intro y hy;simp[mX]at hy;exact hy) hg1 ⟨A,ju 0,rfl,MP,SG.leaf (t:=iZ xX A (ju 0)) (.vH _ (show xX∈ia by simp[ia,hM])) rfl rfl (by intro u hu;rcases N_.1 hu with rfl|hu;exact .num _ _ X X;cases hu)⟩) (G8.jX I hg1) trivial
  .exact JC
  .refine jJ [(some 63,13)] ?_;intro f vs Q hf hp C MS K MT;obtain⟨o, -⟩:=MS;replace o:_=_:=o
   try simp only[b_,o]at MT |-
   go_simp
   go_at_call 142
   refine(kP HA xW (ju 0) _ C.hz (kl.leaf _ _ _ _ _ _)).mono ?_;rintro e w1⟨A,rfl,MP,hg1⟩;exact MT.out _ _ (C.ym (x:=xW) (by simp[mX]) (by intro y hy;simp[mX]at hy;exact hy) hg1 ⟨A,ju 0,rfl,MP,SG.leaf (t:=iZ xW A (ju 0)) (.vH _ (show xW∈ia by simp[ia,hM])) rfl rfl (by intro u hu;rcases N_.1 hu with rfl|hu;exact .num _ _ X X;cases hu)⟩) (G8.jX I hg1) trivial
  .refine jJ [] ?_;intro f vs Q hf hp C MS K MT;clear MS
   try simp only[b_]at MT |-
   refine iV k_ ?_;refine oV 229 _ rfl RA 0 r_ 229 tA.g8 tA.g8 C.a (λcc _=>by rw[W_]) _ underlying229 rfl k_ ?_;exact MT.out _ _ (C.sM I (H [] _)) (G8.jX I (H [] _)) rfl
  .refine jJ [(some 52,2),(some 54,4),(some 56,6),(some 58,8),(some 60,10),(some 62,12),(some 64,14),(some 65,15)] ?_;intro f vs Q hf hp C MS K MT;obtain⟨-, -, -, -, -, -, -,dU, -⟩:=MS;replace dU:_=_:=dU
   try simp only[b_,dU]at MT |-
   have bh:f 19=false:=by
    cases a:f 19 with
    |false=>rfl
    |true=>rw[C.ED a]at hf;cases hf
   obtain⟨aD,eM,aw,i2,bm⟩:=C.pe bh 2 wB (by simp[mX]) (hp 2 I);obtain⟨aP,fL,bu,fI,k4⟩:=C.pe bh 4 vv (by simp[mX]) (hp 4 I);obtain⟨aK,fM,dh,gA,dE⟩:=C.pe bh 6 vM (by simp[mX]) (hp 6 I);obtain⟨bN,u8,dL,gB,ev⟩:=C.pe bh 8 m9 (by simp[mX]) (hp 8 I);obtain⟨cS,ek,e10,gv,fa⟩:=C.pe bh 10 oT (by simp[mX]) (hp 10 I);obtain⟨fg,fJ,fT,gy,gC⟩:=C.pe bh 12 xX (by simp[mX]) (hp 12 I);obtain⟨fh,fK,fU,gz,gD⟩:=C.pe bh 14 xW (by simp[mX]) (hp 14 I);have fy:=C.ta;rw[e2.out]at fy fC
   have eW:tA.g8=(ST.mk s1 bV cr dw bX bL b6 da cu bw sb sc dx dy).g8:=by rw[e2.out]
   simp only[aw,bu,dh,dL,e10,fT,fU]at MT |-;simp only[iZ,ST.ic,eW]at MT |-;go_simp;have cZ:b1<=HA:=X;refine MT.out _ _ (C.E3 hf ((H [] _).alloc _) (us:=[iZ wB aD eM,iZ vv aP fL,iZ vM aK fM,iZ m9 bN u8,iZ oT cS ek,iZ xX fg fJ,iZ xW fh fK,tA]) rfl rfl ?_ ?_) (G8.jX I ((H [] _).alloc _)) trivial
   .refine⟨[iZ wB aD eM,iZ vv aP fL,iZ vM aK fM,iZ m9 bN u8,iZ oT cS ek,iZ xX fg fJ,iZ xW fh fK],tA,rfl,rfl,?_⟩;intro s hs
    iterate 7 (rcases N_.1 hs with rfl|hs;exact rfl)
    cases hs
   .rw[e2.out];refine⟨oE (tJ (n:=8) (s:=8) (Q_ Q 229 _) rfl (H_ _) I) (ov C.hz),?_,?_⟩
    .intro u hu
     rcases N_.1 hu with rfl|hu
     .exact i2.fresh (λx c=>G_ cZ c)
     rcases N_.1 hu with rfl|hu
     .exact fI.fresh (λx c=>G_ cZ c)
     rcases N_.1 hu with rfl|hu
     .exact gA.fresh (λx c=>G_ cZ c)
     rcases N_.1 hu with rfl|hu
     .exact gB.fresh (λx c=>G_ cZ c)
     rcases N_.1 hu with rfl|hu
     .exact gv.fresh (λx c=>G_ cZ c)
     rcases N_.1 hu with rfl|hu
     .exact gy.fresh (λx c=>G_ cZ c)
     rcases N_.1 hu with rfl|hu
     .exact gz.fresh (λx c=>G_ cZ c)
     rcases N_.1 hu with rfl|hu
     .exact fy.fresh (λx c=>c.1)
     .cases hu
    .exact(((((((bm.mono I).append (k4.mono I)).append (dE.mono I)).append (ev.mono I)).append (fa.mono I)).append (gC.mono I)).append (gD.mono I)).append (fC.mono I)
  .refine jJ [] ?_;intro f vs Q hf hp C MS K MT;clear MS
   try simp only[b_]at MT |-
   go_simp;exact MT.out _ _ (C.sM I (H [] _)) (G8.jX I (H [] _)) rfl
  .refine jJ [(some 67,17)] ?_;intro f vs Q hf hp C MS K MT;obtain⟨o, -⟩:=MS;replace o:_=_:=o
   try simp only[b_,o]at MT |-
   obtain⟨cK,ed,ej,co⟩:=C.lf;go_simp
   go_at_call 139
   refine((tS B g m 1).2 1 2 cK 0 _ rfl X X C.d co hBm ed X X s_).mono ?_;rintro e w1⟨A,j,ts,N,al,rfl,c6,b7,ce,dO,bv,ck,bI,aN⟩;exact MT.out _ _ (C.E2 hf aN bI ⟨al,ce,X,ck⟩ rfl X X b7) (by unfold G8;rw[I_ I,O_ I];exact aN) trivial
  .refine jJ [(some 66,16),(some 68,18)] ?_;intro f vs Q hf hp C MS K MT;obtain⟨-, -, -⟩:=MS
   try simp only[b_]at MT |-
   obtain⟨x,us,A,j,ts,N,db,dX,eb,ft,e8,dm,aj,gI,fu,gh⟩:=C.hj (hp 16 I) (hp 18 I) hf;have e1:=C.hz;simp only[db,dm]at MT |-;have b8:=ft.own;rw[dX]at b8;refine iV k_ ?_;refine oW _ _ _ rfl b1 229 i1 _ 8 128 underlying211 bJ bY bZ ca rfl I I (j_ x) 8 8 (us.flatMap ST.E) r_ b8 A ts.length j (ts.flatMap ST.E) r_ fu.sl (k9) X X ?_;intro aD am bH cX bz bD;have cW:=ft.add (us:=ts) (A':=aD) (c':=am) (by rw[dX];exact cX) (by rw[dX];exact bz) (by rw[dX];exact bD) (λu hu=>(gh u hu).imp (λy hy=>⟨hy.1,λhe=>by simp[Value.ownBlock]at he;exact hy.2 he.symm⟩)) ((fu.sg.sub (λs hs=>by simp[ia,hs])).mono X);have aL:=J.iW bz
   have eF:∀y∈oS (Value.slice (j_ x) 8 8).ownBlock,y=x:=λy hy=>by have:=jC.1 hy;simp[Value.ownBlock]at this;exact this.symm
   refine MT.out (.slice aD (8+ts.length) am) _ (C.E1 (hp 16 I) (hp 18 I) aL (λy hy=>by rw[eF y hy];exact e8)) ?_ ⟨aD,am,us++ts,9+N,by rw[K_,dX],cW,X,by rw[K_,dX];omega,?_,?_⟩
   .unfold G8;rw[O_ I];refine⟨_,aL,λy hy=>?_⟩;rw[eF y hy];refine⟨e8,λt cs hk=>?_⟩
    rcases b8.2 with⟨hv,_⟩|⟨q,lO,cur,hv,_,hh,_⟩
    .cases hv
    .injection hv with hv;injection hv with hv;injection hv with hv;subst hv;have cJ:Q.heap[x]?=_:=hk;rw[hh]at cJ;simp at cJ;exact cJ.2.symm
   .obtain⟨b6,d8,hu,hn,hk⟩:=eb;exact⟨b6,d8,ts,by rw[hu];simp,hn,hk⟩
   .intro y hy;rw[K_,dX]at hy
    rcases bD with bD|bD
    .rw[bD]at hy;simp[Value.ownBlock]at hy;omega
    .rw[bD]at hy;injection hy with hy;omega
  .refine jJ [(some 50,0),(some 69,19)] ?_;intro f vs Q hf hp C MS K MT;obtain⟨⟨a6,o,bg,be⟩,⟨dg,cb,tb,eB,aq,dJ,nb⟩, -⟩:=MS
   try simp only[b_,o,aq]at MT |-
   go_simp;exact MT.out _ _ (C.sM I (H [] _)) (G8.jX I (H [] _)) ⟨a6,dg,cb,tb,eB,rfl,bg,be,dJ,nb⟩
  .exact JK
  .refine wj [(some 7,21),(some 70,20)] ?_;intro f vs Q hf hp C MS K MT;obtain⟨⟨a6,o,bg,be⟩,⟨aG,dg,cb,tb,eB,aq,cp,bn,dJ,nb⟩, -⟩:=MS
   try simp only[b_,o,aq]at MT |-
   have au:=Bk.me bn be I;refine iV k_ ?_;refine ie 213 rfl a6 r_ #[.string qt,.slice (j_ aG) 2 2,.slice dg tb.length cb] r_ 213 be rfl k_ (by simp[Value.oneCell']) ?_;intro l ax G;obtain⟨z,k,h3,ar,av⟩:=C.base G p_;exact MT.out undef _ (λ_=>⟨a6,aG,dg,cb,tb,eB,o,bg,ax,cp,bn.gr G (zu au),dJ.D7 be G,nb,C.d.ib G p_,C.lf.gr G p_,z,k,av,trivial⟩)
  intro f vs bo hf C;simp only[b_];clear r dD P p bx d9 aI;obtain⟨cU,az,cG,cC,ch,ez,fo,gN,bP,gZ,ct,cV,eR,r,dD,P,p,G, -⟩:=C;rw[fo];clear fo;replace U:=U.hA G p_;obtain⟨dF,gS,gU,h⟩:=dD;clear G;have aS:=h.f_ 3;have z3:=h.hm 3;have ai:=h.f_ 1;have aR:=h.hm 1
  go_upto_region 10 with fail
  clear aS z3 ai aR;have bt:J [m] bo ((bo.setCell (Z m 3) (Y 2)).setCell (Z m 1) (Y 3)):=((H [m] bo).setCell (.inl s_) _).setCell (.inl s_) _;replace h:Bk ((bo.setCell (Z m 3) (Y 2)).setCell (Z m 1) (Y 3)) m 222 #[q_ g,Y 3,Y 0,Y 2]:=(h.hN 3 _).hN 1 _;replace r:=r.ib bt p_;replace P:=P.gr bt p_;replace p:=p.iy bt p_;replace bP:=bP.gr bt p_;replace ct:=ct.gr bt p_;replace cV:=cV.iy bt p_;replace U:=U.hA bt p_;have gp:=bt.size;obtain⟨bi,dQ⟩:=nm_ ((bo.setCell (Z m 3) (Y 2)).setCell (Z m 1) (Y 3));rw[<-dQ]at h r P p bP ct cV U gp |-;clear dQ bt;have cI:=r.g_ ((H [] bi).alloc (.cells #[.string {data:=#[113]}] 9));have cn:=h.alloc (.cells #[.string {data:=#[113]}] 9)
  have gj:∀y,(Value.slice cG ch.length cC).ownBlock=some y->y<bi.heap.size:=λy hy=>(kx cV.own hy).2
  have f2:cU<bi.heap.size/\az<bi.heap.size:=⟨bP.lt,ct.lt⟩;have g2:b1<=bi.heap.size:=ov bP.lt
  go_upto_region 11 with(first|(go_at_call 139;refine((tS B g m 2).2 1 2 3 0 _ rfl X X cI cn hBm X X X s_).mono ?_;rintro e ew⟨A,j,ts,N,al,rfl,c6,b7,ce,dO,bv,ck,bI,aN⟩;obtain⟨n0,hn0⟩:=nm_ ts.length;have aW:=O hn0;rw[<-hn0];rw[<-hn0]at c6;clear hn0)|(go_at_call 141;go_loud (refine(uZ bi.heap.size 2 N A n0 j ts (j_ ew.heap.size) 3 9 aW.out.symm (by rw[aW.out];exact(b7.iy ((H [] ew).alloc (.cells #[.string {data:=#[105]},.string {data:=#[106]},.string {data:=#[107]}] 9)) s_).sl) X (λu hu=>((b7.iy ((H [] ew).alloc (.cells #[.string {data:=#[105]},.string {data:=#[106]},.string {data:=#[107]}] 9)) s_).from u hu).le s_) b7.sg (by have:=aN.size;simp at this |-;omega) (jj (n:=3) (s:=1) (Q_ ew 9 #[.string {data:=#[105]},.string {data:=#[106]},.string {data:=#[107]}]) rfl)).mono ?_;rintro e bH⟨bN,cx,MN,rfl,d0,ep,eY,aY,eL,dP⟩;obtain⟨cw,dW⟩:=nm_ (MN++ts);rw[<-dW]at d0 dP;rw[<-dW];have cT:=O dW;obtain⟨cM,dr⟩:=nm_ cw.length;have ef:=O dr;rw[<-dr];clear dW dr)))
  obtain⟨wc,dR⟩:=nm_ (bH.alloc (.cells #[.string pV,.slice (j_ bi.heap.size) 1 1,.slice bN cM cx] 213))
  have a2:J [g,m] bi wc:=by rw[dR];exact(((((H [g,m] bi).alloc _).trans aN).alloc _).trans (aY.mono s_)).alloc _
  have dN:J [] ew wc:=by rw[dR];exact(((H [] ew).alloc _).trans aY).alloc _
  replace r:=bI.g_ dN;clear h;have h:=ck.g_ dN;replace P:=P.gr a2 p_;replace p:=p.iy a2 p_;replace bP:=bP.gr a2 p_;replace ct:=ct.gr a2 p_;replace cV:=cV.iy a2 p_;replace U:=U.hA a2 p_
  have di:lI hM bi.heap.size 3 (8+N) wc bN cx cw:=by rw[dR];exact d0.iy ((H [] bH).alloc _) s_
  have aF:Bk wc bi.heap.size 9 #[.string m9]:=by rw[dR];exact(((Q_ bi 9 #[.string m9]).gr aN p_).alloc _ |>.g_ aY).alloc _
  have cH:Bk wc bH.heap.size 213 #[.string pV,.slice (j_ bi.heap.size) 1 1,.slice bN cM cx]:=by rw[dR];exact Q_ bH 213 #[.string pV,.slice (j_ bi.heap.size) 1 1,.slice bN cM cx]
  obtain⟨dz,e5⟩:=nm_ bH.heap.size;obtain⟨xg,et⟩:=nm_ bi.heap.size;have gR:b1<=xg:=X
  have gQ:xg<dz:=by have:=aY.size;have:=aN.size;simp at*;omega
  have gV:cM<=20:=by
   have aT:=by have:=FN List.length ep;simpa[hM]using this
   rw[ef.out,cT.out,K_,aT,<-aW.out];omega
  have gH:N<=6:=X;rw[<-e5,<-et]at cH;rw[<-et]at aF di
  have fD:∀y,(Value.slice cG ch.length cC).ownBlock=some y->y<xg:=λy hy=>by rw[et];exact gj y hy
  have gL:cU<xg/\az<xg:=by rw[et];exact f2
  rw[show bH.alloc (.cells #[.string {data:=#[103]},.slice (j_ bi.heap.size) 1 1,.slice bN cM cx] 213)=wc from dR.symm,<-e5,<-et];clear dR a2 dN bI ck aN d0 aY eL dP b7 e5 et cI cn;have fX:=cV;obtain⟨W,aM⟩:=nm_ wc;rw[<-aM]at r h P p bP ct cV U di aF cH |-;clear aM fX;have gd:xg<=W.heap.size:=ov cH.lt
  have aI:∀vs,rC xg W (λ_=>false) vs W.drew:=λvs=>⟨(λ_ a=>by cases a),(λ_ a=>by cases a),(λa=>by cases a),(H [] W).drew⟩
  refine oo (λf vs=>rC xg W f vs) (λvs l=>∃(A:OA) (j:Nat) (A1:OA),Bk l dz 213 #[.string pV,.slice (j_ xg) 1 1,.slice A ([(iZ oT A1 (jv m9))]++cw).length j]/\lI hM xg 3 (1+(8+N)) l A j ([(iZ oT A1 (jv m9))]++cw)/\J [dz] W l) (Ah W.heap.size) [SU.my _ (.agg (jv m9).g8),SU.anyI _,SU.anyI _,SU.my _ (.pointer (some (Z dz 2))),SU.my _ (.slice bN cM cx),SU.Aa [5] (λv w=>∃(A:OA) (j:Nat) (A1:OA),v=.slice A ([(iZ oT A1 (jv m9))]++cw).length j/\lI hM xg 3 (1+(8+N)) w A j ([(iZ oT A1 (jv m9))]++cw)) (λi hi v w w' S⟨A,j,A1,z,k⟩=>⟨A,j,A1,z,by unfold Ah at S;rw[I_ (zu hi)]at S;exact k.iy S s_⟩),SU.my _ (.pointer (some (Z dz 2))),SU.anyI _] (SU.anyI _) [[],[0],[1],[],[3],[2,4],[],[6,5]] true [(some 83,0),(some 84,1),(some 85,2),(some 86,3),(some 87,4),(some 88,5),(some 89,6),(none,7)] k_ k_ k_ (λ_ _ _ _ _ a=>a) k_ rfl rfl k_ aI ⟨?_,?_,?_,?_,?_,?_,?_,?_,trivial⟩ ?_
  .refine jJ [] ?_;intro f vs Q hf hp C MS K MT;clear MS
   try simp only[b_]at MT |-
   go_simp
   go_at_call 145
   refine(j5 m9).mono ?_;rintro e w1⟨rfl,hg1⟩;exact MT.out _ _ (C.add I hg1) (Ah.of I hg1) rfl
  .refine jJ [(some 83,0)] ?_;intro f vs Q hf hp C MS K MT;obtain⟨o, -⟩:=MS;replace o:_=_:=o
   try simp only[b_,o]at MT |-
   go_simp
   go_at_call 142
   refine(kP W.heap.size oT (jv m9) _ C.gr.size (kl.leaf _ _ _ _ _ _)).mono ?_;rintro e w1⟨A,rfl,MP,hg1⟩;exact MT.out _ _ (C.qq hg1 ⟨A,rfl,MP⟩) (Ah.of I hg1) trivial
  .refine jJ [(some 84,1)] ?_;intro f vs Q hf hp C MS K MT;obtain⟨-, -⟩:=MS
   try simp only[b_]at MT |-
   have av:f 5=false:=by
    cases a:f 5 with
    |false=>rfl
    |true=>rw[C.o5 a]at hf;cases hf
   obtain⟨A1,aC,gu⟩:=C.h1 av (hp 1 I);simp only[aC]at MT |-;simp only[iZ,ST.ic]at MT |-;go_simp;refine MT.out _ _ (C.FB ((H [] _).alloc _) ⟨Q.heap.size,A1,rfl,C.gr.size,?_⟩) (Ah.of I ((H [] _).alloc _)) trivial;refine⟨oE (tJ (n:=1) (s:=8) (Q_ Q 229 (iZ oT A1 (jv m9)).g8) rfl (H_ _) I) (ov C.gr.size),λu hu=>?_,SG.leaf (t:=(iZ oT A1 (jv m9))) (.vH _ (show oT∈hM by simp[hM])) rfl rfl (by intro u hu;rcases N_.1 hu with rfl|hu;exact .var _ _ (by simp[hM]);cases hu)⟩
   have:u=(iZ oT A1 (jv m9)):=R_.1 hu
   subst this;exact gu.fresh (λx c=>G_ gd c)
  .exact Kk
  .refine jJ [(some 86,3)] ?_;intro f vs Q hf hp C MS K MT;obtain⟨o, -⟩:=MS;replace o:_=_:=o
   try simp only[b_,o]at MT |-
   obtain⟨aR,aU,g7,cA⟩:=id C;have aB:=(cH.g_ cA).f_ 2;exact Mi
  .refine jJ [(some 85,2),(some 87,4)] ?_;intro f vs Q hf hp C MS K MT;obtain⟨-,aq, -⟩:=MS;replace aq:_=_:=aq
   try simp only[b_,aq]at MT |-
   obtain⟨ci,A1,aw,cf,eU⟩:=C.h2 hf (hp 2 I);have fY:=di.iy C.gr s_;have e1:=C.gr.size;simp only[aw]at MT |-;refine iV k_ ?_;refine oW _ _ _ rfl xg 229 i1 _ 8 128 underlying211 bJ bY bZ ca rfl I I (j_ ci) 1 1 _ r_ eU.own bN cM cx (cw.flatMap ST.E) r_ (by rw[ef.out];exact fY.sl) (k9) X X ?_;intro aD am l cX bz bD;have dr:=ef.out;have cW:=eU.add (us:=cw) (A':=aD) (c':=am) (by rw[<-dr];exact cX) bz (by rw[<-dr];exact bD) (λu hu=>((di.i3 u hu).lt.imp (λy hy=>⟨hy.1.1,λhe=>by simp[Value.ownBlock]at he;have:=hy.2;omega⟩)).g_ C.gr) (di.sg);have aL:=J.iW bz
   have eF:∀y∈oS (Value.slice (j_ ci) 1 1).ownBlock,W.heap.size<=y:=λy hy=>by have:=jC.1 hy;simp[Value.ownBlock]at this;omega
   refine MT.out (.slice aD (1+cM) am) _ (C.Fz (hp 2 I) aL eF) (by unfold Ah;rw[O_ I];exact⟨_,aL,eF⟩) ⟨aD,am,A1,by rw[K_,<-dr];rfl,cW⟩
  .exact Kk
  .refine wj [(some 89,6),(some 88,5)] ?_;intro f vs Q hf hp C MS K MT;obtain⟨o,⟨dg,cb,fk,aq,dJ⟩, -⟩:=MS;replace o:_=_:=o
   try simp only[b_,o,aq]at MT |-
   have eV:=cH.g_ C.gr;have aB:=eV.f_ 2;have aU:=eV.hm 2;go_simp;have G:J [dz] Q (Q.setCell (Z dz 2) (.slice dg ([iZ oT fk (jv m9)]++cw).length cb)):=(H [dz] Q).setCell (.inl s_) _;exact MT.out undef _ (λ_=>⟨dg,cb,fk,eV.hN 2 _,dJ.D7 eV G,(C.gr.mono s_).trans G⟩)
  intro f vs bo hf C;simp only[b_];have fv:=cH;clear di aI cH;obtain⟨dH,dI,a1,cH,di,G⟩:=C;have gO:b1<=dz:=X;have gm:=Bk.me ct bP I;replace r:=r.ib G p_;replace h:=h.gr G p_;replace P:=P.gr G p_;replace p:=p.iy G p_;replace bP:=bP.gr G p_;replace ct:=ct.gr G p_;replace aF:=aF.gr G p_;replace cV:=cV.D7 fv G;clear fv;replace U:=U.hA G p_;clear G
  go_upto_region 12 with fail
  obtain⟨W,aM⟩:=nm_ bo;rw[<-aM]at r h P p bP ct cV U di aF cH |-;clear aM;have ga:=cH.lt;have cD:∀y∈[g],y∈(g::oS (Value.slice cG ch.length cC).ownBlock):=s_
  have eX:∀y∈oS (Value.slice cG ch.length cC).ownBlock,HA<=y/\y<xg:=λy hy=>⟨eR.2.2.2 y (jC.1 hy),fD y (jC.1 hy)⟩
  have fE:∀y∈oS (Value.slice cG ch.length cC).ownBlock,y≠cU/\y≠az:=λy hy=>by
   rcases cV.own.2 with⟨hv,_⟩|⟨q,lO,cur,hv,_,hh,_⟩
   .have:=jC.1 hy
    rw[hv]at this
    cases this
   .have z:=jC.1 hy;rw[hv]at z
    have k:=by simpa[Value.ownBlock]using z
    subst k;refine⟨λhe=>?_,λhe=>?_⟩
    .have cJ:W.heap[cU]?=_:=bP;rw[<-he,hh]at cJ;simp at cJ
    .have cJ:W.heap[az]?=_:=ct;rw[<-he,hh]at cJ;simp at cJ
  have eo:∀y∈oS (Value.slice cG ch.length cC).ownBlock,B<=y/\m≠y:=λy hy=>by have:=eX y hy;omega
  have fF:∀y,(Value.slice cG ch.length cC).ownBlock=some y->y<W.heap.size:=λy hy=>by have:=fD y hy;omega
  have eE:=T;clear T
  have T:∀y∈(g::oS (Value.slice cG ch.length cC).ownBlock),y<W.heap.size:=by
   intro y hy
   rcases N_.1 hy with rfl|hy
   .omega
   .exact fF y (jC.1 hy)
  have aI:Ps B g m 2 3 (g::oS (Value.slice cG ch.length cC).ownBlock) (λw=>Bk w R0 150 #[n_]/\mS b1 H9 RM w/\Bk w cU 213 #[.string qt,.slice (j_ az) 2 2,.slice cG ch.length cC]/\Bk w az 9 #[.string {data:=#[112]},.string {data:=#[110]}]/\Bk w dz 213 #[.string pV,.slice (j_ xg) 1 1,.slice dH ([iZ oT a1 (jv m9)]++cw).length dI]/\Bk w xg 9 #[.string m9]/\lI hM xg 3 (1+(8+N)) w dH dI ([iZ oT a1 (jv m9)]++cw)) (λw=>lI ia b1 5 ez w cG cC ch) W false W.drew:=⟨r.g_ (H [] W).drew,⟨al,ce,X,h.g_ (H [] W).drew⟩,⟨P.g_ (H [] W).drew,p.iy (H [] W).drew s_,bP.g_ (H [] W).drew,ct.g_ (H [] W).drew,cH.g_ (H [] W).drew,aF.g_ (H [] W).drew,di.iy (H [] W).drew s_⟩,λ_=>cV.iy (H [] W).drew s_,(H _ W).drew,
   λbk b a⟨f1,bW,c9,f4,f5,f6,f7⟩=>by
    have c3:∀x∈(g::oS (Value.slice cG ch.length cC).ownBlock),x=g∨(HA<=x/\x<xg/\x≠cU/\x≠az):=λx c=>by
     rcases N_.1 c with rfl|c
     .exact .inl rfl
     .exact .inr ⟨(eX x c).1,(eX x c).2,(fE x c).1,(fE x c).2⟩
    exact⟨f1.gr a (λc=>by have:=c3 _ c;omega),bW.iy a (λx c=>by have:=c3 x c;omega),c9.gr a (λc=>by have:=c3 _ c;omega),f4.gr a (λc=>by have:=c3 _ c;omega),f5.gr a (λc=>by have:=c3 _ c;omega),f6.gr a (λc=>by have:=c3 _ c;omega),f7.iy a (λx c=>by have:=c3 x c;omega)⟩,
   λbk b a k=>k.iy a p_,s_,X⟩
  refine oq (λf=>Ps B g m 2 3 (g::oS (Value.slice cG ch.length cC).ownBlock) (λw=>Bk w R0 150 #[n_]/\mS b1 H9 RM w/\Bk w cU 213 #[.string qt,.slice (j_ az) 2 2,.slice cG ch.length cC]/\Bk w az 9 #[.string {data:=#[112]},.string {data:=#[110]}]/\Bk w dz 213 #[.string pV,.slice (j_ xg) 1 1,.slice dH ([iZ oT a1 (jv m9)]++cw).length dI]/\Bk w xg 9 #[.string m9]/\lI hM xg 3 (1+(8+N)) w dH dI ([iZ oT a1 (jv m9)]++cw)) (λw=>lI ia b1 5 ez w cG cC ch) W (f 7)) (λvs l=>∃(A:OA) (j:Nat) (us:List ST),us.length=1/\Bk l cU 213 #[.string qt,.slice (j_ az) 2 2,.slice A (ch++us).length j]/\lI ia b1 5 (ez+1) l A j (ch++us)/\iL l B g/\Bk l R0 150 #[n_]/\mS b1 H9 RM l/\Bk l az 9 #[.string {data:=#[112]},.string {data:=#[110]}]/\Bk l dz 213 #[.string pV,.slice (j_ xg) 1 1,.slice dH ([iZ oT a1 (jv m9)]++cw).length dI]/\Bk l xg 9 #[.string m9]/\lI hM xg 3 (1+(8+N)) l dH dI ([iZ oT a1 (jv m9)]++cw)/\J (cU::(g::oS (Value.slice cG ch.length cC).ownBlock)) W l) (G2 7 [g] (g::oS (Value.slice cG ch.length cC).ownBlock)) [SU.my _ (.pointer (some (Z cU 2))),SU.my _ (.slice cG ch.length cC),SU.my _ (q_ m),(SU.tree T (1)).vK (λ_ _ _ a=>a.gr cD),(SU.trees T 2 1).vK (λ_ _ _ a=>a.gr cD),(SU.stmt T (1) (1)).vK (λ_ _ _ a=>a.gr cD),(SU.of (λv w=>∃(x:Nat) (t:ST),v=.slice (j_ x) 1 1/\W.heap.size<=x/\Bk w x 229 t.g8/\jD (jx W.heap.size) w t/\SG hM 1 1 t) (λ_ _ _ S⟨x,t,z,k,h3,ar,av⟩=>⟨x,t,z,k,h3.gr S (λh=>by have:=T x h;omega),ar.ib S (λy hy=>Gm.2 (T y hy)),av⟩)).vK (λ_ _ _ a=>a.gr cD),SU.Aa [7] (λv w=>∃(aD:OA) (am:Nat) (us:List ST) (n2:Nat),v=.slice aD n2 am/\(us.length=1/\n2=(ch++us).length)/\lI ia b1 5 (ez+1) w aD am (ch++us)) (λi hi v w w' S⟨aD,am,us,n2,z,h0,k⟩=>⟨aD,am,us,n2,z,h0,k.iy (S.ne (zu hi)) p_⟩),SU.my _ (.pointer (some (Z cU 2))),SU.anyI _] (SU.anyI _) [[],[0],[],[2],[3],[4],[5],[1,6],[],[8,7]] true [(some 90,0),(some 91,1),(some 92,2),(some 93,3),(some 94,4),(some 95,5),(some 96,6),(some 97,7),(some 98,8),(none,9)] k_ k_ k_ (λ_ _ _ _ _ a=>a) k_ rfl rfl k_ aI ⟨?_,?_,?_,?_,?_,?_,?_,?_,?_,?_,trivial⟩ ?_
  .exact KQ
  .refine je [(some 90,0)] ?_;intro f vs Q hf C MS K MT;obtain⟨o, -⟩:=MS;replace o:_=_:=o
   try simp only[b_,o]at MT |-
   obtain⟨cR,fe,eN,g6,cA, -⟩:=id C;have aB:=eN.2.2.1.f_ 2;exact MC
  .exact KQ
  .refine je [(some 92,2)] ?_;intro f vs Q hf C MS K MT;obtain⟨o, -⟩:=MS;replace o:_=_:=o
   try simp only[b_,o]at MT |-
   obtain⟨cK,ed,ej,co⟩:=C.lf;go_simp
   go_at_call 140
   refine(kE B g m cK 0 2 1 X _ rfl _ C.d co hBm).mono ?_;exact Li
  .refine je [(some 93,3)] ?_;exact IK
  .refine je [(some 94,4)] ?_;exact Ix
  .refine je [(some 95,5)] ?_;exact I1
  .refine je [(some 91,1),(some 96,6)] ?_;intro f vs Q hf C MS K MT;obtain⟨o,⟨aG,tb,aq,cp,bn,MO,d⟩, -⟩:=MS;replace o:_=_:=o
   try simp only[b_,o,aq]at MT |-
   have b7:=C.l hf;have e1:=C.hz;refine iV k_ ?_;refine oW _ _ _ rfl b1 229 i1 _ 8 128 underlying211 bJ bY bZ ca rfl I I cG ch.length cC (ch.flatMap ST.E) r_ b7.own _ 1 1 ([tb].flatMap ST.E) r_ (rO tb bn) (k9) X X ?_;intro aD am bH b8 bz bD;have cW:=b7.add (us:=[tb]) b8 bz bD (λu hu=>by have:u=tb:=(zu hu);subst this;exact MO.imp (λy hy=>⟨by have:W.heap.size<=y:=hy;omega,λhe=>by have z:=fF y he;have:W.heap.size<=y:=hy;omega⟩)) ((d.sub (λs hs=>by simp[ia,hs])).mono X);exact MT.out (.slice aD (ch.length+1) am) _ (C.app (J.iW bz) eo (λy hy=>by simp[hy])) ((J.iW bz).mono (by intro y hy;simp[hy])) ⟨aD,am,[tb],ch.length+1,rfl,⟨rfl,s_⟩,cW⟩
  .exact KQ
  .refine wk [(some 98,8),(some 97,7)] ?_;intro f vs Q hf C MS K MT;obtain⟨o,⟨dg,cb,tb,mb,aq,nb,dJ⟩, -⟩:=MS;replace o:_=_:=o
   try simp only[b_,o,aq]at MT |-
   have fi:=O nb;clear nb;have fw:=C.f.2.2.1;have aB:=fw.f_ 2;have aU:=fw.hm 2;go_simp;have G:J [cU] Q (Q.setCell (Z cU 2) (.slice dg mb cb)):=(H [cU] Q).setCell (.inl s_) _;obtain⟨f1,bW,c9,f4,f5,f6,f7⟩:=C.f;exact MT.out undef _ (λ_=>⟨dg,cb,tb,fi.out.1,by rw[<-fi.out.2];exact c9.hN 2 _,dJ.D7 c9 G,C.d.ib G p_,f1.gr G p_,bW.iy G p_,f4.gr G (by simp;exact gm),f5.gr G p_,f6.gr G p_,f7.D7 c9 G,(C.gr.mono (by intro y hy;simp[hy])).trans (G.mono s_)⟩)
  intro f vs bo hf C;simp only[b_];clear r h P p bP ct cV di aF cH aI;obtain⟨ey,eC,us,gk,bP,cV,r,P,p,ct,cH,aF,di,G⟩:=C;replace U:=U.hA G (by intro x c;rcases N_.1 c with rfl|c;right;omega;rcases N_.1 c with rfl|c;left;simp;right;have:=eX x c;omega);clear G;obtain⟨dT,cm,e3,dV,fq,fZ,aQ,bM⟩:=p;obtain⟨nm,dY⟩:=nm_ e3.length;obtain⟨fb,e6⟩:=nm_ ((ch++us).length);obtain⟨fd,e7⟩:=nm_ (([iZ oT a1 (jv m9)]++cw).length);rw[<-dY]at dV;rw[<-e6]at bP;rw[<-e7]at cH;have eO:=O dY;have fO:=O e6;have fP:=O e7
  have gi:([iZ oT a1 (jv m9)]++cw).length=1+cM:=by rw[K_,<-ef.out];rfl
  have gf:b1<bo.heap.size/\R0<m/\m<b1:=⟨ov dV.lt,X,X⟩;have fW:H9<=bo.heap.size:=ov cH.lt;have eD:=(cV.fin (H_ _)).CX (ps:=[pw,Cv]) (jj (n:=2) (s:=1) ct rfl) (H_ 2) (λy off a _=>by injection a with a;injection a with a;have:=ct.lt;omega);have fp:=((di.fin (H_ _)).CX (ps:=[m9]) (Dq aF) (H_ 1) (λy off a _=>by injection a with a;injection a with a;have:=aF.lt;omega));have f3:=cV.sg;have f9:=di.sg;clear dY e6 e7 ct aF cV di;obtain⟨dG,eK⟩:=nm_ bo;rw[<-eK]at r P dV bP cH fq eD fp U gf fW |-;clear eK;have bG:=dV.f_ 0;have q1:=dV.f_ 1;have q2:=dV.f_ 2;have q3:=bP.f_ 0;have cY:=bP.f_ 1;have c8:=bP.f_ 2;have dS:=cH.f_ 0;have cz:=cH.f_ 1;have cN:=cH.f_ 2
  go_wp2_with (refine kZ #[.slice (j_ dG.heap.size) 3 3] (P.alloc _) (by simp[Value.oneCell']) ?_;intro l ax G)
  have D:Bk (dG.alloc (.cells #[.string wA,n_,.slice dT nm cm,.string qt,.slice (j_ az) 2 2,.slice ey fb eC,.string pV,.slice (j_ xg) 1 1,.slice dH fd dI] 213)) dG.heap.size 213 #[.string wA,n_,.slice dT nm cm,.string qt,.slice (j_ az) 2 2,.slice ey fb eC,.string pV,.slice (j_ xg) 1 1,.slice dH fd dI]:=Q_ dG 213 _
  have g1:dG.heap.size<=l.heap.size:=by have:=G.size;simp at this;omega
  have dQ:w.heap.size<=b1:=X;have eQ:=(H [] dG).alloc (.cells #[.string wA,n_,.slice dT nm cm,.string qt,.slice (j_ az) 2 2,.slice ey fb eC,.string pV,.slice (j_ xg) 1 1,.slice dH fd dI] 213)
  have a8:Sl l 213 3 (j_ dG.heap.size) 3 ([(⟨wA,none,0,[],dT,cm,e3⟩:FT),⟨qt,some (Z az 0),2,[pw,Cv],ey,eC,ch++us⟩,⟨pV,some (Z xg 0),1,[m9],dH,dI,([iZ oT a1 (jv m9)]++cw)⟩].flatMap FT.E):=by
   have:=jj (n:=3) (s:=3) (D.gr G p_) rfl
   rw[eO.out,fO.out,fP.out]at this;exact this
  refine rr_ #[.slice (j_ dG.heap.size) 3 3] ax underlying150 ⟨dG.heap.size,⟨wA,none,0,[],dT,cm,e3⟩,⟨qt,some (Z az 0),2,[pw,Cv],ey,eC,ch++us⟩,⟨pV,some (Z xg 0),1,[m9],dH,dI,([iZ oT a1 (jv m9)]++cw)⟩,rfl,a8,?_,?_,?_,⟨rfl,rfl,fZ⟩,⟨rfl,rfl,?_⟩,⟨rfl,rfl,?_⟩,(r.g_ eQ).ib G p_,(U.alloc _).hA G p_⟩
  .exact((fq.iy eQ s_).iy G p_).wide dQ X
  .exact((eD.iy eQ s_).iy G p_).wide dQ X
  .exact((fp.iy eQ s_).iy G p_).wide X X
  .refine⟨?_,ez+1,f3,ov eR.1,by rw[K_,gk];have:=eR.2.1;omega⟩;obtain⟨b6,d8,ls,k1,bm,k3⟩:=eR.2.2.1;exact⟨b6,d8,ls++us,by rw[k1];simp,bm,k3⟩
  .exact⟨iZ oT a1 (jv m9),MN,ts,1+(8+N),by rw[cT.out];rfl,rfl,rfl,ep,eY,f9,X,by rw[gi];omega⟩
