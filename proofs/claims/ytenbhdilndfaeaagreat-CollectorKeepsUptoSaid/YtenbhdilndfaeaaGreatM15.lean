import Derived.Test.YtenbhdilndfaeaaGreatM14
set_option maxRecDepth 100000
set_option maxHeartbeats 0
set_option linter.all false
namespace Go.Proofs.YtenbhdilndfaeaaGreat
open Go.RowKit Go.Proofs.Tryz
variable{G:Prop}{t:TypeId}{x:ByteArray}{D N R lo:Nat}{cs:Array Value}{p:Nat->Prop}{u:ST}{V:QU}{ts:QV}{az:World}{aL:OA}
def I9(h:G:=by
 intro f vs V hf C Nw K Nu;obtain⟨⟨a8,ta,o,cS,bu,be,dg⟩, -⟩:=Nw;try simp only[b_,o]at Nu |-
 go_simp;have bF:ta.length=_:=cS;have bn:Sl V 226 5 (j_ a8) ta.length (ta.flatMap ET.E):=by rw[bF];exact be
 have hcl:(lT 7 i6 i6 0 0 (j_ a8) ta.length ta).g_=_:=rfl;simp only[ST.ik,lT,bF]at hcl;refine Nu.out _ _ C (F_ _ _) ⟨lT 7 i6 i6 0 0 (j_ a8) ta.length ta,?_,jL.es _ _ _ _ _ bn bu (λu hu=>(dg u hu).1),SG.leaf (t:=lT 7 i6 i6 0 0 (j_ a8) ta.length ta) (by show m_ _ 7 i6 i6 0 0 ta.length _ _;rw[bF];exact .ret) rfl rfl (λu hu=>(dg u hu).2)⟩;show Value.agg _=Value.agg (lT 7 i6 i6 0 0 (j_ a8) ta.length ta).g_;exact Nl):G:=h
def JY(h:G:=by
 refine hS [] ?_;intro vs V C Nw K Nu;clear Nw;try simp only[b_]at Nu |-
 go_simp;go_at_call 145;refine(ki _).mono ?_;rintro e w1⟨rfl,hg1⟩;exact Nu.out _ _ (C.hF hg1) (hg1.mono H) ⟨jy Cw,rfl,kw.leaf _ _ _ _ _ _,.var _ _ (by simp[ig])⟩):G:=h
def Ki(h:G:=by
 refine jT [] ?_;intro f vs V hf hp C Nw K Nu;clear Nw;try simp only[b_]at Nu |-
 go_simp;go_at_call 144;refine(kf 0).mono ?_;exact MG):G:=h
def Kq(h:G:=by
 refine jT [] ?_;intro f vs V hf hp C Nw K Nu;clear Nw;try simp only[b_]at Nu |-
 go_simp;exact Nu.out _ _ (C.sd I ((F_ [] _).alloc _)) (G8.jD I ((F_ [] _).alloc _)) ⟨_,rfl,C.hz,P_ _ _ _⟩):G:=h
def KV(h:G:=by
 refine jT [] ?_;intro f vs V hf hp C Nw K Nu;clear Nw;try simp only[b_]at Nu |-
 exact MT):G:=h
def LW(h:G:=by
 rintro e w1⟨t,rfl,Nt,ar,a2,hg1⟩;exact Nu.out _ _ (C.step hg1 a2) hg1 ⟨t,rfl,Nt.le C.hz,ar⟩):G:=h
def Mu(h:G:=by
 intro a b;obtain⟨x,A,h1,h2,h3⟩:=h.h2 a b;exact⟨x,A,h1,h2,h3.iy hg H⟩):G:=h
def MG(h:G:=by
 rintro e w1⟨rfl,hg1⟩;exact Nu.out _ _ (C.sd I hg1) (G8.jD I hg1) rfl):G:=h
def MT(h:G:=by
 go_simp;exact Nu.out _ _ (C.add I (F_ [] _)) (z1.of I (F_ [] _)) rfl):G:=h
structure Ps(B g q:Nat)(fn hi:Int)(M:QY)(F L:World->Prop)(W:World)(b:Bool)(w:World):Prop where
 d:iN w B g
 lf:Lf g q 0 fn hi w
 f:F w
 l:b=false->L w
 gr:J M W w
 sF:∀a b,J M a b->F a->F b
 sL:∀a b,J [g] a b->L a->L b
 gM:g∈M
 qg:q≠g
section
variable{B g q:Nat}{fn hi:Int}{M:QY}{F L:World->Prop}{W w w':World}{b:Bool}
def Ps.hz(h:Ps B g q fn hi M F L W b w):W.heap.size<=w.heap.size:=h.gr.size
def Ps.step(h:Ps B g q fn hi M F L W b w)(a:J [g] w w')(e:iN w' B g):Ps B g q fn hi M F L W b w':=
 have c:J M w w':=a.mono (by intro x j;have:x=g:=(zu j);subst this;exact h.gM)
 ⟨e,h.lf.gr a (zu h.qg),h.sF _ _ c h.f,λd=>h.sL _ _ a (h.l d),h.gr.trans c,h.sF,h.sL,h.gM,h.qg⟩
def Ps.hF(h:Ps B g q fn hi M F L W b w)(a:J [] w w'):Ps B g q fn hi M F L W b w':=h.step (a.mono H) (h.d.hF a)
def Ps.app{o:Option Nat}(h:Ps B g q fn hi M F L W b w)(a:J (oK o) w w')(c:∀y∈oK o,B<=y/\q≠y)(d:∀y∈oK o,y∈M):Ps B g q fn hi M F L W true w':=
 ⟨h.d.ih a (λx k=>(c x k).1),h.lf.gr a (λj=>(c _ j).2 rfl),h.sF _ _ (a.mono d) h.f,(λe=>by cases e),h.gr.trans (a.mono d),h.sF,h.sL,h.gM,h.qg⟩
end
def ig:List ByteArray:=Cw::hV
def Sl.zW{w:World}{e:TypeId}{s x r n:Nat}{xs:QW}(h:Sl w e s (some (Z x r)) n xs)(o:0<n)(k:Bk w R t cs)(d:e≠t):x≠R:=by
 intro l;subst l;obtain⟨b,A,y,z,a,j,_⟩:=h.2 o;injection a with a;injection a with a;subst a;have c:w.heap[x]?=_:=k;rw[j]at c;simp at c;exact d c.2.1
def kw.zW{w:World}{u:ET}(h:kw p w u)(k:Bk w R t cs)(e:226≠t):kw (λx=>p x/\x≠R) w u:=by
 induction h with
 |mk u h l j _ d=>exact .mk u h l (λx n a c=>⟨j x n a c,by rw[a]at h;exact h.zW c k e⟩) d
def jL.zW{w:World}(h:jL p w u)(k:Bk w R t cs)(n:226≠t)(S:229≠t):jL (λx=>p x/\x≠R) w u:=by
 induction h with
 |mk u j A s E e z I _ l C y _ o r=>
  exact .mk u j A (λx d a c=>⟨s x d a c,by rw[a]at j;exact j.zW c k n⟩) (λv H=>(E v H).zW k n) e z (λx d a c=>⟨I x d a c,by rw[a]at e;exact e.zW c k S⟩) o l C (λx d a c=>⟨y x d a c,by rw[a]at l;exact l.zW c k S⟩) r
def jL.FV{w:World}(h:jL p w u)(n:u.bs=[])(o:u.ls=[])(k:Bk w R t cs)(l:226≠t):jL (λx=>p x/\x≠R) w u:=by
 cases h with
 |mk u e y r A E s K I C z H J=>
  exact .mk u e y (λx j d a=>⟨r x j d a,by rw[d]at e;exact e.zW a k l⟩) (λv c=>(A v c).zW k l) E s (λx j d a=>by rw[n]at a;cases a) (λv c=>by rw[n]at c;cases c) C z (λx j d a=>by rw[o]at a;cases a) (λv c=>by rw[o]at c;cases c)
def SU.sR{M:QY}{lo:Nat}(V:QU)(z:∀y∈M,y<lo)(d:Nat):SU (λ_=>J M):=
 SU.of (λv w=>∃t:ET,v=.agg t.g_/\kw (jC lo) w t/\EG V d t) (λ_ _ _ hg⟨t,h1,h2,h3⟩=>⟨t,h1,h2.ih hg (λx hx=>G3.2 (z x hx)),h3⟩)
def SU.An{M:QY}{lo:Nat}(V:QU)(z:∀y∈M,y<lo)(d n:Nat):SU (λ_=>J M):=
 SU.of (λv w=>∃(x:Nat) (ts:QE),v=.slice (j_ x) n n/\ts.length=n/\lo<=x/\Sl w 226 5 (j_ x) n (ts.flatMap ET.E)/\∀t∈ts,kw (jC lo) w t/\EG V d t)
  (λ_ _ _ hg⟨x,ts,h1,h2,h3,am,au⟩=>⟨x,ts,h1,h2,h3,am.iy λy off hA hx=>hg.block y hx (λhm=>by injection hA with hA;injection hA with hA;have:=z y hm;omega),λt ht=>⟨(au t ht).1.ih hg (λx hx=>G3.2 (z x hx)),(au t ht).2⟩⟩)
def Ft(us:QV):Prop:=∃(cp:QV) (ew:ST),us=cp++[ew]/\cp.map ST.name=[wt,vm,vI,nc,oL,xJ,xI]/\∀s∈cp,s.h7=1
def G8(g m HA:Nat)(i:Nat)(a b:World):Prop:=if i=19 then(∃M,J M a b/\∀x∈M,HA<=x/\∀t cs,Bk a x t cs->t=229) else J (if i=18 then[g,m] else[g]) a b
def G8.of{g m HA i:Nat}{a b:World}(hi:i≠19)(h:J [g] a b):G8 g m HA i a b:=by
 unfold G8;rw[T_ hi];split;exact h.mono H;exact h
def G8.jD{g m HA i:Nat}{a b:World}(hi:i≠19)(h:J [] a b):G8 g m HA i a b:=G8.of hi (h.mono H)
def G8.gr{g m HA i:Nat}{a b:World}(h:G8 g m HA i a b)(hi:i∉[19]):J [g,m] a b:=by
 unfold G8 at h;rw[T_ (zu hi)]at h;split at h;exact h;exact h.mono H
def G8.bk{g m HA i x:Nat}{a b:World}(h:G8 g m HA i a b)(k:Bk a x t cs)(l:t≠229)(e:x≠g)(j:x≠m):Bk b x t cs:=by
 by_cases hi:i=19;unfold G8 at h;rw[U_ hi]at h;obtain⟨M,c,d⟩:=h;exact k.gr c (λn=>l ((d x n).2 t cs k));exact k.gr (h.gr (zu hi)) (by simp;exact⟨e,j⟩)
def EW(b1 HA:Nat)(v:Value)(w:World):Prop:=∃(x:Nat) (us:QV),v=.slice (j_ x) 8 8/\us.length=8/\Ft us/\lL ig b1 5 9 w (j_ x) 8 us/\HA<=x
def EV(b1 HA:Nat)(v:Value)(w:World):Prop:=∃(A:OA) (c:Nat) (ts:QV) (N:Nat),v=.slice A ts.length c/\ts.length<=3/\N<=6/\lL hV b1 3 N w A c ts
def J8(b1 HA:Nat)(a d:Value)(w:World):Prop:=∃(x:Nat) (us:QV) (A:OA) (c:Nat) (ts:QV) (N:Nat),a=.slice (j_ x) 8 8/\us.length=8/\Ft us/\lL ig b1 5 9 w (j_ x) 8 us/\HA<=x/\
 d=.slice A ts.length c/\ts.length<=3/\N<=6/\lL hV b1 3 N w A c ts/\∀u∈ts,jL (λy=>b1<=y/\y≠x) w u
def EW.iy{b1 HA:Nat}{v:Value}{w w':World}{M:QY}(h:EW b1 HA v w)(k:J M w w')(n:∀x∈M,x<b1):EW b1 HA v w':=by
 obtain⟨x,l,d,e,j,a,c⟩:=h;exact⟨x,l,d,e,j,a.iy k n,c⟩
def EV.iy{b1 HA:Nat}{v:Value}{w w':World}{M:QY}(h:EV b1 HA v w)(l:J M w w')(n:∀x∈M,x<b1):EV b1 HA v w':=by
 obtain⟨a,d,ts,N,e,j,k,c⟩:=h;exact⟨a,d,ts,N,e,j,k,c.iy l n⟩
def J8.iy{b1 HA:Nat}{v d:Value}{w w':World}{M:QY}(h:J8 b1 HA v d w)(a:J M w w')(c:∀x∈M,x<b1):J8 b1 HA v d w':=by
 obtain⟨x,K,e,s,ts,N,y,A,C,k,l,r,n,o,j,z⟩:=h;exact⟨x,K,e,s,ts,N,y,A,C,k.iy a c,l,r,n,o,j.iy a c,λu H=>(z u H).ih a (λO I E=>by have:=c O I;have:=E.1;omega)⟩
def lL.bd{b c:Nat}{w:World}{A:OA}(h:lL V b D N w A c ts){x:Nat}(e:w.heap.size<=x):∀u∈ts,jL (λy=>b<=y/\y≠x) w u:=λu d=>((h.jo u d).lt).imp λy a=>⟨a.1.1,by have:=a.2;omega⟩
def wq:ByteArray:={data:=#[109,97,105,110]}
structure z2(lo hi:Nat)(w:World)(AP:OA)(cP:Nat)(ps:QU)(A:OA)(c:Nat)(bs:QV):Prop where
 hp:Sl w 9 1 AP ps.length (ps.map Value.string)
 vJ:ps.length<=cP
 E8:∀x off,AP=some (Z x off)->0<ps.length->lo<=x/\x<hi
 hb:Sl w 229 8 A bs.length (bs.flatMap ST.E)
 CM:bs.length<=c
 tF:∀x off,A=some (Z x off)->0<bs.length->lo<=x/\x<hi
 hs:∀t∈bs,jL (λx=>lo<=x/\x<hi) w t
def z2.iy{hi s c:Nat}{w w':World}{o A:OA}{ps:QU}{r:QV}{M:QY}(h:z2 lo hi w o s ps A c r)(e:J M w w')(n:∀x∈M,x<lo∨hi<=x):z2 lo hi w' o s ps A c r:=
 ⟨h.hp.rV λk x l d a=>e.block x a (λj=>by have:=n x j;have:=h.E8 x l d k;omega),h.vJ,h.E8,
   h.hb.rV λk x l d a=>e.block x a (λj=>by have:=n x j;have:=h.tF x l d k;omega),h.CM,h.tF,λt y=>(h.hs t y).ih e (λx a z=>by have:=n x a;omega)⟩
def lL.fin{c hi:Nat}{w:World}{A:OA}(h:lL V lo D N w A c ts)(j:w.heap.size<=hi):z2 lo hi w none 0 [] A c ts:=
 ⟨GU _ _ _ _,H_ _,(λ_ _ h _=>by cases h),h.sl,iY h.own,λx k d _=>by subst d;have:=kD h.own (x:=x) rfl;omega,λt e=>((h.jo t e).lt).imp λx a=>⟨a.1.1,ov a.2⟩⟩
def z2.C4{hi c d:Nat}{w:World}{A a:OA}{ps:QU}(h:z2 lo hi w none 0 [] A c ts)(j:Sl w 9 1 a ps.length (ps.map Value.string))(hc:ps.length<=d)(e:∀x k,a=some (Z x k)->0<ps.length->lo<=x/\x<hi):z2 lo hi w a d ps A c ts:=
 ⟨j,hc,e,h.hb,h.CM,h.tF,h.hs⟩
def Bd{b1 R0 j c k:Nat}{e a:World}{A As:OA}(z:jL (jC e.heap.size) a (i3 ph As (eNew 3)))(o:J [] e a)(r:lL hV b1 4 N e A c ts)(K:j=ts.length)(C:az.ownsRow a.heap.size 229 8 (.slice aL (1+j) k) (1+j) ((i3 ph As (eNew 3)).g_.toList++ts.flatMap ST.E))(H:(a.alloc (.cells (i3 ph As (eNew 3)).g_ 229)).grownBy az (Value.slice (j_ a.heap.size) 1 1).ownBlock)(E:(Value.slice aL (1+j) k).ownBlock=(Value.slice (j_ a.heap.size) 1 1).ownBlock∨(Value.slice aL (1+j) k).ownBlock=some (a.alloc (.cells (i3 ph As (eNew 3)).g_ 229)).heap.size)(Q:R0<=b1)(P:R0<=e.heap.size):
 lL hV R0 5 (1+N) az aL k ([i3 ph As (eNew 3)]++ts):=by
 subst K;have O:=o.size;have y:lL hV R0 5 1 (a.alloc (.cells (i3 ph As (eNew 3)).g_ 229)) (j_ a.heap.size) 1 [i3 ph As (eNew 3)]:=by
  refine⟨oA (s9 (n:=1) (s:=8) (P_ a 229 (i3 ph As (eNew 3)).g_) rfl (H_ _) I) X,?_,SG.leaf (.vC _ (show ph∈hV by simp[hV])) rfl rfl (by intro u d;rcases O_.1 d with rfl|d;exact .new _ _ X X;cases d)⟩;intro u d;have:u=i3 ph As (eNew 3):=zu d;subst this;exact(z.lt.imp (λx h=>⟨by have:e.heap.size<=x:=h.1;omega,λl=>by have:=h.2;simp[Value.ownBlock]at l;omega⟩)).hF ((F_ [] a).alloc _)
 exact y.add (us:=ts) (oA C X) H E (λu d=>(((r.jo u d).lt.imp (λx h=>⟨ov h.1.1,λl=>by have:=h.2;simp[Value.ownBlock]at l;omega⟩)).hF o).hF ((F_ [] a).alloc _)) (r.sg.mono X)
def CC{b a c:Nat}{s:ST}(h:lL V b D N az aL c ([s]++ts))(d:a=ts.length):Sl az 229 8 aL (1+a) (([s]++ts).flatMap ST.E):=by
 subst d;have:=h.sl;rw[I_]at this;exact this
def B0(bs:QV):Prop:=∃(ss ls:QV) (N:Nat),bs=ss++ls/\ss.map ST.name=hV/\(∀s∈ss,s.h7=1)/\l4 hV 5 N bs/\N<=28/\bs.length<=30
def mU(lo hi RM:Nat)(w:World):Prop:=∃(A:OA) (c:Nat) (bs:QV),Bk w RM 213 #[.string wq,n_,.slice A bs.length c]/\z2 lo hi w none 0 [] A c bs/\B0 bs/\lo<=RM/\RM<hi
def mU.iy{hi RM:Nat}{w w':World}{M:QY}(h:mU lo hi RM w)(a:J M w w')(c:∀x∈M,x<lo∨hi<=x):mU lo hi RM w':=by
 obtain⟨d,l,k,n,o,r,e,j⟩:=h;exact⟨d,l,k,n.gr a (λs=>by have:=c RM s;omega),o.iy a c,r,e,j⟩
def FG(us:QV):Prop:=∃(cp:QV) (ew:ST) (ls:QV),us=cp++(ew::ls)/\cp.map ST.name=[wt,vm,vI,nc,oL,xJ,xI]/\∀s∈cp,s.h7=1
def BT(HA:Nat)(x:ByteArray)(v:Value)(w:World):Prop:=∃(A:OA) (a:ET),v=.agg (i3 x A a).g_/\jL (jC HA) w (i3 x A a)/\SG ig 1 1 (i3 x A a)
def mY:List (Nat × ByteArray):=[(2,wt),(4,vm),(6,vI),(8,nc),(10,oL),(12,xJ),(14,xI)]
def BT.iy{HA:Nat}{v:Value}{w w':World}{M:QY}(h:BT HA x v w)(k:J M w w')(n:∀y∈M,y<HA):BT HA x v w':=by
 obtain⟨a,c,d,e,j⟩:=h;exact⟨a,c,d,e.ih k (λy l=>G3.2 (n y l)),j⟩
structure sB(B g m R0 b1 H9 RM RA HA:Nat)(tA:ST)(W:World)(f:Nat->Bool)(vs:Nat->Value)(w:World):Prop where
 d:iN w B g
 lf:Lf g m 0 1 3 w
 r:Bk w R0 150 #[n_]
 mo:mU b1 H9 RM w
 a:Bk w RA 229 tA.g_
 ta:jL (λx=>b1<=x/\x<HA) w tA
 o0:f 19=false->∀i x,(i,x)∈mY->f i=true->BT HA x (vs i) w
 CO:f 16=true->f 18=false->EW b1 HA (vs 16) w
 CN:f 18=true->f 16=false->EV b1 HA (vs 18) w
 hj:f 16=true->f 18=true->f 19=false->J8 b1 HA (vs 16) (vs 18) w
 EP:f 19=true->f 16=true
 gr:J [g,m] W w
 o:g<B/\B<=m/\R0<m/\g<R0/\m<b1/\b1<=HA/\H9<=HA/\RA<HA/\b1<=RA/\W.heap.size=HA
def su{i:Nat}(h:(i,x)∈mY):i∈[2,4,6,8,10,12,14]:=by
 simp[mY]at h;simp;omega
section
variable{B g m R0 b1 H9 RM RA HA:Nat}{tA:ST}{W w w':World}{f:Nat->Bool}{vs:Nat->Value}{v:Value}{i:Nat}
def sB.hz(h:sB B g m R0 b1 H9 RM RA HA tA W f vs w):HA<=w.heap.size:=by have:=h.gr.size;have:=h.o;omega
def sB.base(h:sB B g m R0 b1 H9 RM RA HA tA W f vs w){M:QY}(c:J M w w')(d:∀x∈M,x=g∨x=m∨HA<=x):
 Bk w' R0 150 #[n_]/\mU b1 H9 RM w'/\Bk w' RA 229 tA.g_/\jL (λx=>b1<=x/\x<HA) w' tA/\J [g,m] W w':=by
 have e:=h.o;exact⟨h.r.gr c (λa=>by have:=d _ a;omega),h.mo.iy c (λx a=>by have:=d x a;omega),h.a.gr c (λa=>by have:=d _ a;omega),h.ta.ih c (λx a j=>by have:=d x a;omega),h.gr.hI c (λx a=>by have:=d x a;simp;omega)⟩
def it{f:Nat->Bool}{i a:Nat}(h:a≠i):(a==i||f a)=f a:=by
 have:(a==i)=false:=zu h;rw[this,H8]
def li{vs:Nat->Value}{v:Value}{i a:Nat}(h:a≠i):sn vs i v a=vs a:=by simp[sn,h]
def nI{vs:Nat->Value}{v:Value}{i:Nat}:sn vs i v i=v:=by simp[sn]
def sB.add(h:sB B g m R0 b1 H9 RM RA HA tA W f vs w)(hi:i∉[2,4,6,8,10,12,14,16,18,19])(d:J [g] w w')(O:iN w' B g):sB B g m R0 b1 H9 RM RA HA tA W (λk=>k==i||f k) (sn vs i v) w':=by
 have P:=h.o;obtain⟨E,I,K,z,A⟩:=h.base d H;have n:∀x∈[g],x<b1:=p_;have C:∀x∈[g],x<HA:=p_;have c:(16:Nat)≠i:=λa=>hi (by simp[<-a]);have j:(18:Nat)≠i:=λa=>hi (by simp[<-a]);have l:(19:Nat)≠i:=λa=>hi (by simp[<-a]);refine⟨O,h.lf.gr d p_,E,I,K,z,?_,?_,?_,?_,(by rw[it l,it c];exact h.EP),A,P⟩;intro o k x y s;rw[it l]at o;have r:k≠i:=λa=>by
  have:=su y;subst a;exact hi (by simp at this |-;omega)
 rw[it r]at s;rw[li r];exact(h.o0 o k x y s).iy d C;rw[it c,it j,li c];exact λe b=>(h.CO e b).iy d n;rw[it c,it j,li j];exact λe b=>(h.CN e b).iy d n;rw[it c,it j,it l,li c,li j];exact λe b o=>(h.hj e b o).iy d n
def sB.sd(h:sB B g m R0 b1 H9 RM RA HA tA W f vs w)(hi:i∉[2,4,6,8,10,12,14,16,18,19])(a:J [] w w'):sB B g m R0 b1 H9 RM RA HA tA W (λc=>c==i||f c) (sn vs i v) w':=h.add hi (a.mono H) (h.d.hF a)
def sB.x6(h:sB B g m R0 b1 H9 RM RA HA tA W f vs w)(hi:(i,x)∈mY)(Q:∀y,(i,y)∈mY->y=x)(a:J [] w w')(O:BT HA x v w'):sB B g m R0 b1 H9 RM RA HA tA W (λk=>k==i||f k) (sn vs i v) w':=by
 have P:=h.o;have o:=su hi;obtain⟨E,I,K,A,C⟩:=h.base a H;have c:(16:Nat)≠i:=λj=>by subst j;simp at o
 have e:(18:Nat)≠i:=λj=>by subst j;simp at o
 have n:(19:Nat)≠i:=λj=>by subst j;simp at o
 refine⟨h.d.hF a,h.lf.gr a H,E,I,K,A,?_,?_,?_,?_,(by rw[it n,it c];exact h.EP),C,P⟩;intro r k y z s;rw[it n]at r;by_cases l:k=i;subst l;rw[nI,Q y z];exact O;rw[it l]at s;rw[li l];exact(h.o0 r k y z s).iy a H;rw[it c,it e,li c];exact λd b=>(h.CO d b).iy a H;rw[it c,it e,li e];exact λd b=>(h.CN d b).iy a H;rw[it c,it e,it n,li c,li e];exact λd b l=>(h.hj d b l).iy a H
def sB.Fg(h:sB B g m R0 b1 H9 RM RA HA tA W f vs w)(O:f 16=false)(a:J [] w w'){us:QV}(z:v=.slice (j_ w.heap.size) 8 8)(y:us.length=8)(s:Ft us)(o:lL ig b1 5 9 w' (j_ w.heap.size) 8 us):sB B g m R0 b1 H9 RM RA HA tA W (λc=>c==16||f c) (sn vs 16 v) w':=by
 have A:=h.hz;obtain⟨e,j,k,d,E⟩:=h.base a H;refine⟨h.d.hF a,h.lf.gr a H,e,j,k,d,?_,?_,?_,?_,(λ_=>by simp),E,h.o⟩;intro l c P r C;have n:c≠16:=λK=>by have:=su r;subst K;simp at this
 rw[it I]at l;rw[it n]at C;rw[li n];exact(h.o0 l c P r C).iy a H;intro _ _;rw[nI];exact⟨_,us,z,y,s,o,A⟩;intro _ l;simp at l;intro _ l _;rw[it I]at l;rw[nI,li I];obtain⟨n,r,ts,N,e,j,k,d⟩:=h.CN l O;exact⟨_,us,n,r,ts,N,z,y,s,o,A,e,j,k,d.iy a H,λu C=>(d.bd (H_ _) u C).hF a⟩
def sB.Ff(h:sB B g m R0 b1 H9 RM RA HA tA W f vs w)(U:f 18=false)(e:J [g,m] w w')(T:iN w' B g)(O:Lf g m 0 1 3 w'){A:OA}{c:Nat}(r:v=.slice A ts.length c)(o:ts.length<=3)(l:N<=6)(d:lL hV w.heap.size 3 N w' A c ts):sB B g m R0 b1 H9 RM RA HA tA W (λa=>a==18||f a) (sn vs 18 v) w':=by
 have Y:=h.o;have hz:=h.hz;obtain⟨P,Q,S,z,C⟩:=h.base e H;refine⟨T,O,P,Q,S,z,?_,?_,?_,?_,(by rw[it I,it I];exact h.EP),C,Y⟩;intro j a y n s;have k:a≠18:=λE=>by have:=su n;subst E;simp at this
 rw[it I]at j;rw[it k]at s;rw[li k];exact(h.o0 j a y n s).iy e p_;intro _ j;simp at j;intro _ _;rw[nI];exact⟨A,c,ts,N,r,o,l,d.le X⟩;intro j _ _;rw[it I]at j;rw[nI,li I];obtain⟨x,us,s,E,k3,k,K⟩:=h.CO j U;have hx:=(kD k.own (x:=x) rfl).2;exact⟨x,us,A,c,ts,N,s,E,k3,k.iy e p_,K,r,o,l,d.le X,λu Z=>(d.jo u Z).imp λy n=>⟨ov n.1,by have:=n.1;omega⟩⟩
def jL.fresh{b n c:Nat}{C:Array Value}(h:jL p w u)(e:∀x,p x->b<=x):jL (zq b (Value.slice (j_ w.heap.size) n c).ownBlock) (w.alloc (.cells C t)) u:=
 (h.lt.imp λx a=>⟨e x a.1,λd=>by simp[Value.ownBlock]at d;have:=a.2;omega⟩).hF ((F_ [] w).alloc _)
def lL.Ek{b c:Nat}{A:OA}(h:lL V b D N w A c ts)(k:Bk w R 213 cs)(n:J [R] w w'):lL V b D N w' A c ts:=by
 refine⟨n6 h.own n (λx a d=>?_),λu r=>((h.jo u r).zW k I I).ih n (λx a e=>e.2 (zu a)) |>.imp (λ_ e=>e.1),h.sg⟩;have a:=zu a;subst a;rcases h.own.2 with⟨j,_⟩|⟨q,y,s,j,_,o,_⟩
 rw[j]at d;cases d
 rw[j]at d;have:q=x:=by simpa[Value.ownBlock]using d
 subst this;have l:w.heap[q]?=_:=k;rw[o]at l;simp at l
def sB.Fe(h:sB B g m R0 b1 H9 RM RA HA tA W f vs w)(k:f 16=true)(d:f 18=true){M:QY}(e:J M w w')(j:∀x∈M,HA<=x):sB B g m R0 b1 H9 RM RA HA tA W (λl=>l==19||f l) (sn vs 19 v) w':=by
 have A:=h.o;obtain⟨s,y,z,o,r⟩:=h.base e (λx c=>.inr (.inr (j x c)));refine⟨h.d.ih e (λx c=>by have:=j x c;omega),h.lf.gr e (λc=>by have:=j _ c;omega),s,y,z,o,(λn=>by simp at n),(λ_ a=>by rw[it I,d]at a;cases a),(λ_ a=>by rw[it I,k]at a;cases a),(λ_ _ a=>by simp at a),(λ_=>by rw[it I];exact k),r,A⟩
end
def FI(v:Value)(w:World)(Nw:Nat):Prop:=∃(A:OA),v=.agg (i3 oL A (jy nc)).g_/\jL (jC Nw) w (i3 oL A (jy nc))
def FH(b1 Nw:Nat)(v:Value)(w:World):Prop:=∃(x:Nat) (A:OA),v=.slice (j_ x) 1 1/\Nw<=x/\lL hV b1 3 1 w (j_ x) 1 [i3 oL A (jy nc)]
structure q2(b1:Nat)(W:World)(f:Nat->Bool)(vs:Nat->Value)(w:World):Prop where
 h1:f 5=false->f 1=true->FI (vs 1) w W.heap.size
 h2:f 5=false->f 2=true->FH b1 W.heap.size (vs 2) w
 o5:f 5=true->f 2=true
 gr:J [] W w
def z1(Nw:Nat)(i:Nat)(a b:World):Prop:=if i=5 then(∃M,J M a b/\∀x∈M,Nw<=x) else J [] a b
def z1.of{c i:Nat}{a b:World}(hi:i≠5)(h:J [] a b):z1 c i a b:=by
 unfold z1;rw[T_ hi];exact h
section
variable{b1:Nat}{W w w':World}{f:Nat->Bool}{vs:Nat->Value}{v:Value}{i:Nat}
def q2.add(h:q2 b1 W f vs w)(hi:i∉[1,2,5])(hg:J [] w w'):q2 b1 W (λk=>k==i||f k) (sn vs i v) w':=by
 have j:(1:Nat)≠i:=λc=>hi (by simp[<-c]);have d:(2:Nat)≠i:=λc=>hi (by simp[<-c]);have e:(5:Nat)≠i:=λc=>hi (by simp[<-c]);refine⟨?_,?_,(by rw[it e,it d];exact h.o5),h.gr.trans hg⟩;rw[it j,it e,li j];intro a b;obtain⟨A,h1,h2⟩:=h.h1 a b;exact⟨A,h1,h2.hF hg⟩;rw[it d,it e,li d];exact Mu
def q2.p3(h:q2 b1 W f vs w)(hg:J [] w w')(d:FI v w' W.heap.size):q2 b1 W (λc=>c==1||f c) (sn vs 1 v) w':=by
 refine⟨λ_ _=>by rw[nI];exact d,?_,(by rw[it I,it I];exact h.o5),h.gr.trans hg⟩;rw[it I,it I,li I];exact Mu
def q2.F5(h:q2 b1 W f vs w)(a:J [] w w')(l:FH b1 W.heap.size v w'):q2 b1 W (λc=>c==2||f c) (sn vs 2 v) w':=by
 refine⟨?_,λ_ _=>by rw[nI];exact l,(λ_=>by simp),h.gr.trans a⟩;rw[it I,it I,li I];intro e b;obtain⟨d,j,k⟩:=h.h1 e b;exact⟨d,j,k.hF a⟩
def q2.F4(h:q2 b1 W f vs w)(d:f 2=true){M:QY}(e:J M w w')(k:∀x∈M,W.heap.size<=x):q2 b1 W (λc=>c==5||f c) (sn vs 5 v) w':=
 ⟨(λa=>by simp at a),(λa=>by simp at a),(λ_=>by rw[it I];exact d),h.gr.hI e (λx j=>.inr (k x j))⟩
end
structure FT where
 name:ByteArray
 AP:Option Addr
 cP:Nat
 ps:List ByteArray
 A:Option Addr
 c:Nat
 bs:List ST
abbrev QF:=List FT
def FT.E(f:FT):List Value:=[.string f.name,.slice f.AP f.ps.length f.cP,.slice f.A f.bs.length f.c]
def FT.In(lo hi:Nat)(w:World)(f:FT):Prop:=z2 lo hi w f.AP f.cP f.ps f.A f.c f.bs
def FN(bs:QV):Prop:=FG bs/\∃K,l4 ig 5 K bs/\K<=16/\bs.length<=12
def FK(bs:QV):Prop:=∃(s:ST) (ss ls:QV) (K:Nat),bs=s::(ss++ls)/\s.h7=1/\s.name=oL/\ss.map ST.name=hV/\(∀u∈ss,u.h7=1)/\l4 hV 3 K bs/\K<=15/\bs.length<=21
def z2.wide{hi l k o c:Nat}{w:World}{j A:OA}{ps:QU}{n:QV}(h:z2 lo hi w j o ps A c n)(y:l<=lo)(s:hi<=k):z2 l k w j o ps A c n:=
 ⟨h.hp,h.vJ,λx e a d=>by have:=h.E8 x e a d;omega,h.hb,h.CM,λx e a d=>by have:=h.tF x e a d;omega,λt r=>(h.hs t r).imp λx z=>by omega⟩
def Fl(B g:Nat)(w:World)(e:Ending)(w':World):Prop:=∃(x:Nat) (r n p:FT),e=.returned (.agg #[.slice (j_ x) 3 3])/\Sl w' 213 3 (j_ x) 3 ([r,n,p].flatMap FT.E)/\
 r.In w.heap.size w'.heap.size w'/\n.In w.heap.size w'.heap.size w'/\p.In w.heap.size w'.heap.size w'/\(r.name=wq/\r.ps=[]/\B0 r.bs)/\(n.name=p4/\n.ps=[ph,Cw]/\FN n.bs)/\(p.name=pD/\p.ps=[nc]/\FK p.bs)/\iN w' B g/\J [g] w w'
def DE{w:World}{x:Nat}{s:ByteArray}(h:Bk w x 9 #[.string s]):Sl w 9 1 (j_ x) [s].length ([s].map Value.string):=jh (n:=1) (s:=1) h rfl
def A3(B g:Nat)(w:World)(z:iN w B g)(hB:B<=w.heap.size):
 Calls prog 89 #[q_ g] w (Fl B g w):=by
 obtain⟨i1,bT,cj,cn,cr⟩:=info_parts infoSt;have bq:=z.wx;go_enter func89,ntmps89;go_upto_region 2 with fail;obtain⟨-,-,aY⟩:=pZ w 150 #[n_] 222 #[q_ g,Y 9,Y 0,Y 0];have cM:=z.hF aY;have cg:=(P_ w 150 #[n_]).alloc (.cells #[q_ g,Y 9,Y 0,Y 0] 222);obtain⟨-,cH,-⟩:=pZ w 150 #[n_] 222 #[q_ g,Y 9,Y 0,Y 0];obtain⟨bo,co⟩:=nm_ ((w.alloc (.cells #[n_] 150)).alloc (.cells #[q_ g,Y 9,Y 0,Y 0] 222));rw[<-co]at aY cM cg cH |-;clear co;obtain⟨R0,cC⟩:=nm_ w.heap.size;obtain⟨m,fL⟩:=nm_ (w.heap.size+1);rw[<-cC]at cg |-;rw[<-fL]at cH;have dC:w.heap.size<=R0:=X;have eV:R0<m:=X;have fM:R0+1=m:=X;have hBm:B<=m:=X;rw[fM];clear cC fL fM
 go_upto_region 3 with(go_at_call 139;refine((tv B g m 0).1 0 6 9 0 _ rfl X X cM cH hBm X X X H).mono ?_;rintro e w2⟨A,k,ts,N,al,rfl,dq,hL,hl0,hl1,bt,dK,dD,an⟩);obtain⟨b1,aT⟩:=nm_ bo.heap.size;rw[<-aT]at hL;have dL:m<b1:=by rw[aT];exact cH.lt
 have fm:=an.size;rw[<-aT]at fm;clear aT;have cG:=cg.gr an p_;have cR:J [g] w w2:=(aY.mono H).hI an p_;clear cM cH cg an aY z;go_upto_if 16 with(go_at_call 19;refine(ij B g 3 dD X X).mono ?_;rintro e af⟨aA,rfl,bC,bJ,z,ad⟩)
 have j:=dK.gr ad p_;have Q:=cG.gr ad p_;have U:=cR.trans ad;replace hL:=hL.iy ad p_;have a7:=G_ fm ad.size;clear dD dK cG cR ad fm;go_cut [4] (λx ae=>∃(A:OA) (k:Nat) (ts:QV) (e4:Nat) (al:Int),x=.slice A ts.length k/\lL hV b1 4 e4 ae A k ts/\ts.length<=8/\(e4:Int)<=19/\Bk ae m 222 #[q_ g,Y al,Y 0,Y 0]/\Bk ae R0 150 #[n_]/\iN ae B g/\J [g] w ae/\b1<=ae.heap.size)
 case first=>
  by_cases hr:0<aA
  .have r:decide (0<aA)=true:=by simp[hr]
   simp only[r];clear hr r;go_upto_region 4 with fail;obtain⟨W,aH⟩:=nm_ af;rw[<-aH]at z j Q hL U a7 |-;clear aH;have cX:∀y∈[g],y∈(g::oK (Value.slice A ts.length k).ownBlock):=H
   have eh:∀y∈oK (Value.slice A ts.length k).ownBlock,b1<=y:=λy hy=>(kD hL.own (jK.1 hy)).1;have eJ:∀y∈oK (Value.slice A ts.length k).ownBlock,B<=y/\m≠y:=λy hy=>by have:=eh y hy;omega
   have eX:∀y,(Value.slice A ts.length k).ownBlock=some y->y<W.heap.size:=λy hy=>(kD hL.own hy).2;have T:∀y∈(g::oK (Value.slice A ts.length k).ownBlock),y<W.heap.size:=ML;have aV:Ps B g m 0 100 (g::oK (Value.slice A ts.length k).ownBlock) (λw=>Bk w R0 150 #[n_]) (λw=>lL hV b1 4 N w A k ts) W false W:=⟨z,⟨al,hl0,X,j⟩,Q,λ_=>hL,F_ _ W,λbd b a l=>l.gr a (λj=>by rcases O_.1 j with a|a;omega;have:=eh _ a;omega),λbd b a l=>l.iy a p_,H,X⟩;refine p8 (λf=>Ps B g m 0 100 (g::oK (Value.slice A ts.length k).ownBlock) (λw=>Bk w R0 150 #[n_]) (λw=>lL hV b1 4 N w A k ts) W (f 6)) (λ_ _=>True) (G2 6 [g] (g::oK (Value.slice A ts.length k).ownBlock)) [SU.mB _ (.slice A ts.length k),SU.mB _ (q_ m),(SU.tree T (0)).vG (λ_ _ _ a=>a.gr cX),(SU.trees T 2 1).vG (λ_ _ _ a=>a.gr cX),(SU.stmt T (1) (1)).vG (λ_ _ _ a=>a.gr cX),(SU.of (λv w=>∃(x:Nat) (t:ST),v=.slice (j_ x) 1 1/\W.heap.size<=x/\Bk w x 229 t.g_/\jL (jC W.heap.size) w t/\SG hV 1 1 t) (λ_ _ _ S⟨x,t,P,l,h3,am,au⟩=>⟨x,t,P,l,h3.gr S (λj=>by have:=T x j;omega),am.ih S (λy hy=>G3.2 (T y hy)),au⟩)).vG (λ_ _ _ a=>a.gr cX),SU.zV [6] (λv w=>∃(aw:OA) (aj:Nat) (us:QV) (K:Nat),v=.slice aw us.length aj/\lL hV b1 4 K w aw aj us/\us.length<=8/\K<=N+1) (λi hi v w w' S⟨aw,aj,us,K,P,l,h3⟩=>⟨aw,aj,us,K,P,l.iy (S.ne (zu hi)) p_,h3⟩),SU.zV [6] (λv w=>∃(aw:OA) (aj:Nat) (us:QV) (K:Nat),v=.slice aw us.length aj/\lL hV b1 4 K w aw aj us/\us.length<=8/\K<=N+1) (λi hi v w w' S⟨aw,aj,us,K,P,l,h3⟩=>⟨aw,aj,us,K,P,l.iy (S.ne (zu hi)) p_,h3⟩)] (SU.anyI _) [[],[],[1],[2],[3],[4],[0,5],[6]] false [(some 17,0),(some 18,1),(some 19,2),(some 20,3),(some 21,4),(some 22,5),(some 23,6),(some 4,7)] k_ k_ (λ_ _ _ _ _ a=>a) k_ rfl rfl k_ aV ⟨?_,?_,?_,?_,?_,?_,?_,?_,trivial⟩ ?_;exact Lw;exact Lw
   .refine jg [(some 18,1)] ?_;intro f vs V hf C Nw K Nu;obtain⟨o, -⟩:=Nw;replace o:_=_:=o;try simp only[b_,o]at Nu |-
    obtain⟨cT,eA,eG,cI⟩:=C.lf;go_simp;go_at_call 140;refine(kL B g m cT 0 0 0 X _ rfl _ C.d cI hBm).mono ?_;exact LW
   refine jg [(some 19,2)] ?_;exact Jm;refine jg [(some 20,3)] ?_;exact I9;refine jg [(some 21,4)] ?_;exact JB;refine jg [(some 17,0),(some 22,5)] ?_;intro f vs V hf C Nw K Nu;obtain⟨o,⟨aP,tb,aq,cK,bE,ao,d⟩, -⟩:=Nw;replace o:_=_:=o;try simp only[b_,o,aq]at Nu |-
   have ct:=C.l hf;have fd:=C.hz;refine iZ k_ ?_;refine oO _ _ _ rfl b1 229 i1 _ 8 128 underlying211 bT cj cn cr rfl I I A ts.length k (ts.flatMap ST.E) r_ ct.own _ 1 1 ([tb].flatMap ST.E) r_ (rf tb bE) (k7) X X ?_;intro aw aj bN cu bI bO;have dm:=ct.add (us:=[tb]) cu bI bO (λu hu=>by have:u=tb:=(zu hu);subst this;exact ao.imp (λy hy=>⟨by have:W.heap.size<=y:=hy;omega,λhe=>by have P:=eX y he;have:W.heap.size<=y:=hy;omega⟩)) (d.mono X);exact Nu.out (.slice aw (ts.length+1) aj) _ (C.app (J.iR bI) eJ (λy hy=>by simp[hy])) ((J.iR bI).mono (by intro y hy;simp[hy])) ⟨aw,aj,ts++[tb],N+1,H,by simpa using dm,p_,H_ _⟩
   .refine jg [(some 23,6)] ?_;intro f vs V hf C Nw K Nu;obtain⟨⟨fW,f1,ta,eD,o,fZ,cS⟩, -⟩:=Nw;try simp only[b_,o]at Nu |-
    go_simp;exact Nu.out _ _ C (F_ _ _) ⟨fW,f1,ta,eD,rfl,fZ,cS⟩
   rintro f vs bw hf⟨C,Nw⟩;obtain⟨c,aJ,⟨bf,aG,i2,bj⟩,⟨ak,t3,bD,n3,ck,b3,g9⟩,⟨t4,b4,dY,cY⟩,⟨bV,t5,bR,cJ,d9,g7,cA⟩,⟨aL,aI,g8,gJ,dx,eP,eB⟩,⟨bp,bi,gI,f0,dS,fy,n7⟩, -⟩:=Nw;replace c:vs 0=.slice A ts.length k:=c;replace aJ:vs 1=q_ m:=aJ;simp only[b_,c,aJ,aG,bD,b4,bR,dx,dS];clear c aJ aG bD b4 bR dx dS;clear z j Q hL aV;obtain⟨z,⟨l',cy,d4,j⟩,Q, -,h, -, -, -, -⟩:=C;have dX:=G_ a7 h.size;replace U:=U.hI h (by intro y hy;rcases O_.1 hy with a|a;left;simp[a];right;have:=eh _ a;omega);go_wp2;go_meet;exact⟨bp,bi,gI,f0,l',rfl,fy,n7.1,ov n7.2,j,Q,z,U,dX⟩
  have r:decide (0<aA)=false:=by simp[hr]
  go_wp2;go_meet;exact⟨A,k,ts,N,al,rfl,hL,X,X,j,Q,z,U,a7⟩
 clear z j Q U a7 hL hl0 hl1 bt dq A k ts N al;obtain⟨A,k,ts,e4,al,rfl,hL,iF,d3,j,Q,z,U,dX⟩:=hcut;obtain⟨ae,dW⟩:=nm_ wc;rw[<-dW]at hL j Q z U dX |-;clear dW;obtain⟨n0,hn0⟩:=nm_ ts.length;have aX:=O hn0;have cN:=hL.own;have gz:=dX;rw[<-hn0]at cN iF |-;clear hn0
 go_upto_region 6 with(first|(go_at_call 142;refine(kQ ae.heap.size ph (eNew 3) ae (H_ _) (kw.leaf _ _ _ _ _ _)).mono ?_;rintro e Nq⟨As,rfl,ce,ai⟩;simp only[i3,ST.ik])|(at_builtin;refine jZ rfl rfl Nq.heap.size 229 i1 8 128 underlying211 bT cj cn cr rfl I I (j_ Nq.heap.size) 1 1 _ rfl (s9 (n:=1) (s:=8) (P_ Nq 229 (i3 ph As (eNew 3)).g_) rfl (H_ _) I) A n0 k (ts.flatMap ST.E) rfl (((Sl.iP cN).hF ai).alloc _) (k7) X H ?_;intro aL aI az cw eF dH;have eP:=Bd ce ai hL aX.out cw eF dH (H_ _) gz)|(go_at_call 141;go_loud (refine(uI b1 4 (1+e4) aL (1+n0) aI ([i3 ph As (eNew 3)]++ts) (j_ az.heap.size) 3 9 (by have:=aX.out;simp;omega) (CC (eP.iy ((F_ [] az).alloc (.cells #[.string {data:=#[105]},.string {data:=#[106]},.string {data:=#[107]}] 9)) H) aX.out) X (λu hu=>(eP.iy ((F_ [] az).alloc (.cells #[.string {data:=#[105]},.string {data:=#[106]},.string {data:=#[107]}] 9)) H).from u hu) eP.sg (by have P:=(J.iR eF).size;have l:=ai.size;simp at P |-;omega) (jh (n:=3) (s:=1) (P_ az 9 #[.string {data:=#[105]},.string {data:=#[106]},.string {data:=#[107]}]) rfl)).mono ?_;rintro e bN⟨b0,cq,ss,rfl,ek,eK,fa,bA,ei,d5⟩;obtain⟨aF,ed⟩:=nm_ (ss++([i3 ph As (eNew 3)]++ts));rw[<-ed]at ek d5;rw[<-ed];have di:=O ed;obtain⟨db,dM⟩:=nm_ aF.length;have eC:=O dM;rw[<-dM];clear ed dM)));have eW:J [] ae (bN.alloc (.cells #[.string wq,n_,.slice b0 db cq] 213)):=by
  have P:=(ai.alloc _).hI (J.iR eF) (λx c=>by have:=jK.1 c;simp[Value.ownBlock]at this;have:=ai.size;right;omega);exact((P.alloc _).trans bA).alloc _
 have p:mU b1 (bN.alloc (.cells #[.string wq,n_,.slice b0 db cq] 213)).heap.size bN.heap.size (bN.alloc (.cells #[.string wq,n_,.slice b0 db cq] 213)):=by
  refine⟨b0,cq,aF,?_,(ek.iy ((F_ [] bN).alloc (.cells #[.string wq,n_,.slice b0 db cq] 213)) H).fin (H_ _),⟨ss,_,_,di.out,eK,fa,ek.sg,X,?_⟩,?_,H⟩;rw[<-eC.out];exact P_ bN 213 #[.string wq,n_,.slice b0 db cq];have bS:=by have:=Z_ List.length eK;simpa[hV]using this
  rw[di.out];simp[bS];have:=aX.out;omega;have:=bA.size;have:=Q.lt;have:=ai.size;have:=(J.iR eF).size;simp at*;omega
 replace j:=j.hF eW;replace z:=z.hF eW;replace Q:=Q.hF eW;replace U:=U.trans (eW.mono H);clear hL cN cw eF dH eP ek bA ei d5 di eC eW ce ai dX eK fa;obtain⟨RM,eb⟩:=nm_ bN.heap.size;obtain⟨r,cv⟩:=nm_ (bN.alloc (.cells #[.string wq,n_,.slice b0 db cq] 213));rw[<-eb]at p |-;rw[show(bN.alloc (.cells #[.string {data:=#[109,97,105,110]},n_,.slice b0 db cq] 213))=r from cv.symm];rw[<-cv]at p j z Q U;clear eb cv;obtain⟨H9,e6⟩:=nm_ r.heap.size;rw[<-e6]at p
 have g1:m<H9:=by rw[e6];exact j.lt
 have aS:=j.f_ 3;have z3:=j.hG 3;have ah:=j.f_ 1;have aR:=j.hG 1;go_upto_region 7 with fail;clear aS z3 ah aR;have bX:J [m] r ((r.setCell (Z m 3) (Y 1)).setCell (Z m 1) (Y 3)):=((F_ [m] r).setCell (.inl H) _).setCell (.inl H) _;replace j:Bk ((r.setCell (Z m 3) (Y 1)).setCell (Z m 1) (Y 3)) m 222 #[q_ g,Y 3,Y 0,Y 1]:=(j.hU 3 _).hU 1 _;replace z:=z.ih bX p_;replace Q:=Q.gr bX p_;replace p:=p.iy bX p_;replace U:=U.hI bX p_;have fb:=bX.size;rw[<-e6]at fb;obtain⟨bQ,fR⟩:=nm_ ((r.setCell (Z m 3) (Y 1)).setCell (Z m 1) (Y 3));rw[<-fR]at j z Q p U fb |-;clear fR bX e6;obtain⟨W,aH⟩:=nm_ bQ;rw[<-aH]at z j Q p U fb |-;clear aH;have T:∀y∈[g],y<W.heap.size:=p_;have aV:Ps B g m 1 3 [g] (λw=>Bk w R0 150 #[n_]/\mU b1 H9 RM w) (λ_=>True) W true W:=⟨z,⟨3,X,X,j⟩,⟨Q,p⟩,(λa=>by cases a),F_ _ W,λbd b a l=>⟨l.1.gr a p_,l.2.iy a p_⟩,λ_ _ _ a=>a,H,X⟩;refine iO (Ps B g m 1 3 [g] (λw=>Bk w R0 150 #[n_]/\mU b1 H9 RM w) (λ_=>True) W true) (λvs r=>∃(RA:Nat) (t:ST),vs 12=q_ RA/\W.heap.size<=RA/\Bk r RA 229 t.g_/\jL (jC W.heap.size) r t/\SG ig 2 2 t/\iN r B g/\Lf g m 0 1 3 r/\(Bk r R0 150 #[n_]/\mU b1 H9 RM r)/\J [g,RA] W r) (J [g]) [SU.sR ig T (0),SU.sR ig T (0),SU.sR ig T (0+1),SU.An ig T 2 1,SU.sR ig T (0),SU.sR ig T (0),SU.sR ig T (0),SU.sR ig T (0+1),SU.An ig T 2 2,SU.of (λv w=>∃t:ST,v=.agg t.g_/\jL (jC W.heap.size) w t/\SG ig 1 1 t/\t.h7=3/\t.bs=[]/\t.ls=[]) (λ_ _ _ S⟨t,P,l,h3⟩=>⟨t,P,l.ih S (λx c=>G3.2 (T x c)),h3⟩),SU.of (λv w=>∃(y:Nat) (t:ST),v=.slice (j_ y) 1 1/\W.heap.size<=y/\Bk w y 229 t.g_/\jL (jC W.heap.size) w t/\SG ig 1 1 t/\t.h7=3/\t.bs=[]/\t.ls=[]) (λ_ _ _ S⟨y,t,h0,P,l,h3,am⟩=>⟨y,t,h0,P,l.gr S (λj=>by have:=T y j;omega),h3.ih S (λx c=>G3.2 (T x c)),am⟩),SU.of (λv w=>∃(x y:Nat) (t3:QE) (t:ST),v=.agg #[Y 4,.string i6,.string i6,Y 0,Y 0,.slice (j_ x) 1 1,.slice (j_ y) 1 1,n_]/\t3.length=1/\W.heap.size<=x/\Sl w 226 5 (j_ x) 1 (t3.flatMap ET.E)/\(∀u∈t3,kw (jC W.heap.size) w u/\EG ig 2 u)/\W.heap.size<=y/\Bk w y 229 t.g_/\jL (jC W.heap.size) w t/\SG ig 1 1 t/\t.h7=3/\t.bs=[]/\t.ls=[]) (λ_ _ _ S⟨x,y,t3,t,h0,P,l,h3,am,au,bl,bM,bS⟩=>⟨x,y,t3,t,h0,P,l,h3.iy λbh off hA c=>S.block bh c (λj=>by injection hA with hA;injection hA with hA;have:=T bh j;omega),λu hu=>⟨(am u hu).1.ih S (λx c=>G3.2 (T x c)),(am u hu).2⟩,au,bl.gr S (λj=>by have:=T y j;omega),bM.ih S (λx c=>G3.2 (T x c)),bS⟩),SU.of (λv w=>∃R,v=q_ R/\W.heap.size<=R/\Bk w R 229 #[Y 0,.string i6,.string i6,Y 0,Y 0,n_,n_,n_]) (λ_ _ _ S⟨x,l,h3,am⟩=>⟨x,l,h3,am.gr S (λj=>by have:=T x j;omega)⟩),SU.any _] (SU.any _) [[],[],[0,1],[2],[],[],[],[5,6],[4,7],[8],[9],[3,10],[],[12,11]] true [(some 38,0),(some 39,1),(some 40,2),(some 41,3),(some 42,4),(some 43,5),(some 44,6),(some 45,7),(some 46,8),(some 47,9),(some 48,10),(some 49,11),(some 6,12),(none,13)] k_ k_ (λ_ _ _ _ _ a=>a) k_ rfl rfl k_ aV ⟨?_,?_,?_,?_,?_,?_,?_,?_,?_,?_,?_,?_,?_,?_,trivial⟩ ?_
 .refine hS [] ?_;intro vs V C Nw K Nu;clear Nw;try simp only[b_]at Nu |-
  go_simp;go_at_call 144;refine(kf _).mono ?_;rintro e w1⟨rfl,hg1⟩;exact Nu.out _ _ (C.hF hg1) (hg1.mono H) ⟨jx 0,rfl,kw.leaf _ _ _ _ _ _,.num _ _ X X⟩
 exact JY;refine hS [(some 38,0),(some 39,1)] ?_;intro vs V C Nw K Nu;exact JI;refine hS [(some 40,2)] ?_;intro vs V C Nw K Nu;exact Js
 .refine hS [] ?_;intro vs V C Nw K Nu;clear Nw;try simp only[b_]at Nu |-
  go_simp;go_at_call 145;refine(ki _).mono ?_;rintro e w1⟨rfl,hg1⟩;exact Nu.out _ _ (C.hF hg1) (hg1.mono H) ⟨jy wt,rfl,kw.leaf _ _ _ _ _ _,.var _ _ (by simp[ig,hV])⟩
 exact JY;refine hS [] ?_;intro vs V C Nw K Nu;exact Kl
 .refine hS [(some 43,5),(some 44,6)] ?_;intro vs V C Nw K Nu;obtain⟨⟨ta,o,ap,E⟩,⟨tb,aq,ao,d⟩, -⟩:=Nw;try simp only[b_,o,aq]at Nu |-
  go_simp;go_at_call 143;refine(oG W.heap.size 2 ta tb C.hz ap ao).mono ?_;rintro e w1⟨A,rfl,Nt,hg1⟩;exact Nu.out _ _ (C.hF hg1) (hg1.mono H) ⟨p5 2 A ta tb,rfl,Nt,.bin 0 _ _ _ _ X X (E.mono X) (d.mono X)⟩
 .refine hS [(some 42,4),(some 45,7)] ?_;intro vs V C Nw K Nu;obtain⟨⟨ta,o,ap,E⟩,⟨tb,aq,ao,d⟩, -⟩:=Nw;try simp only[b_,o,aq]at Nu |-
  obtain⟨Np,b5,b6,b7,b8,b9,ca⟩:=ta;obtain⟨em,eo,ep,er,et,eu,ev⟩:=tb;simp only[ET.ik]at Nu |-;go_simp;refine Nu.out _ _ (C.hF ((F_ [] _).alloc _)) ((F_ _ _).alloc _) ⟨_,[ET.mk Np b5 b6 b7 b8 b9 ca,ET.mk em eo ep er et eu ev],rfl,rfl,C.hz,sX (ET.mk Np b5 b6 b7 b8 b9 ca) (ET.mk em eo ep er et eu ev) (P_ _ _ _),?_⟩;exact Kv
 .refine hS [(some 46,8)] ?_;intro vs V C Nw K Nu;obtain⟨⟨a8,ta,o,cS,bu,be,dg⟩, -⟩:=Nw;try simp only[b_,o]at Nu |-
  go_simp;refine Nu.out _ _ C (F_ _ _) ⟨(lT 3 vm p4 0 0 (j_ a8) ta.length ta),?_,jL.es _ _ _ _ _ (by rw[cS];exact be) bu (λu hu=>(dg u hu).1),SG.leaf (t:=(lT 3 vm p4 0 0 (j_ a8) ta.length ta)) (by show m_ _ 3 vm p4 0 0 ta.length _ _;rw[cS];exact .wN _ (by simp[ig,hV])) rfl rfl (λu hu=>(dg u hu).2),rfl,rfl,rfl⟩;show Value.agg _=Value.agg (lT 3 vm p4 0 0 (j_ a8) ta.length ta).g_;simp only[lT,ST.ik,cS];rfl
 .refine hS [(some 47,9)] ?_;intro vs V C Nw K Nu;obtain⟨⟨ta,o,ap,E,f4⟩, -⟩:=Nw;try simp only[b_,o]at Nu |-
  obtain⟨s1,aW,cx,df,bY,bU,cp,dt,cQ,bB,sb,sc,dO,dP⟩:=ta;simp only[ST.ik]at Nu |-;go_simp;exact Nu.out _ _ (C.hF ((F_ [] _).alloc _)) ((F_ _ _).alloc _) ⟨_,ST.mk s1 aW cx df bY bU cp dt cQ bB sb sc dO dP,rfl,C.hz,P_ _ _ _,ap.hF ((F_ [] _).alloc _),E,f4⟩
 .refine hS [(some 41,3),(some 48,10)] ?_;intro vs V C Nw K Nu;obtain⟨⟨a8,ta,o,cS,bu,be,dg⟩,⟨dE,tb,aq,cK,bE,ao,d⟩, -⟩:=Nw;try simp only[b_,o,aq]at Nu |-
  go_simp;exact Nu.out _ _ C (F_ _ _) ⟨a8,dE,ta,tb,rfl,cS,bu,be,dg,cK,bE,ao,d⟩
 .refine hS [] ?_;intro vs V C Nw K Nu;clear Nw;try simp only[b_]at Nu |-
  go_simp;exact Nu.out _ _ (C.hF ((F_ [] _).alloc _)) ((F_ _ _).alloc _) ⟨_,rfl,C.hz,P_ _ _ _⟩
 .refine ju [(some 6,12),(some 49,11)] ?_;intro vs V C Nw K Nu;obtain⟨⟨a8,o,bu,be⟩,⟨aP,dE,sb,tb,aq,nb,cK,bE,c7,dw,c6,ao,d,fg⟩, -⟩:=Nw;try simp only[b_,o,aq]at Nu |-
  have g4:dE≠a8:=by
   intro he;subst he;have P:V.heap[dE]?=_:=c6;have l:V.heap[dE]?=_:=be;rw[P]at l;have h3:=fg.1;obtain⟨s1,aW,cx,df,bY,bU,cp,dt,cQ,bB,sb,sc,dO,dP⟩:=tb;simp only[ST.ik]at l;simp at l;have am:s1=3:=h3;omega
  have g2:=bE.zW I be I;refine iZ k_ ?_;refine ic 229 rfl a8 r_ #[Y 4,.string i6,.string i6,Y 0,Y 0,.slice (j_ aP) 1 1,.slice (j_ dE) 1 1,n_] r_ 229 be rfl k_ (by simp[Value.oneCell']) ?_;intro r aB h;refine Nu.out undef _ (λ_=>⟨a8,ST.mk 4 i6 i6 0 0 (j_ aP) 1 sb (j_ dE) 1 [tb] none 0 [],o,bu,?_,?_,?_,C.d.ih h p_,C.lf.gr h p_,⟨C.f.1.gr h p_,C.f.2.iy h p_⟩,(C.gr.mono H).trans (h.mono H)⟩);simp only[ST.ik,nb];exact aB;refine jL.mk _ (by rw[show((ST.mk 4 i6 i6 0 0 (j_ aP) 1 sb (j_ dE) 1 [tb] none 0 []).es.length)=1 from nb];exact bE.iy λbh off hA c=>h.block bh c (λj=>by injection hA with hA;injection hA with hA;simp at j;omega)) (Nat.le_of_eq nb) (λbh off a _=>by injection a with a;injection a with a;omega) (λu hu=>(((c7 u hu).1.zW be I).ih h (by intro bh hz hp;simp at hz;exact hp.2 hz)).imp λ_ hp=>hp.1) ((rf tb c6).iy λbh off hA c=>h.block bh c (λj=>by injection hA with hA;injection hA with hA;simp at j;omega)) (H_ _) (λbh off a _=>by injection a with a;injection a with a;omega) ?_ (GU _ _ _ _) (H_ _) (λ_ _ a _=>by cases a) (λu hu=>by cases hu);intro u hu;have:u=tb:=J_.1 hu;subst this;exact((ao.FV fg.2.1 fg.2.2 be I).ih h (by intro bh hz hp;simp at hz;exact hp.2 hz)).imp λ_ hp=>hp.1;exact SG.node (nb:=1) (nl:=0) (t:=ST.mk 4 i6 i6 0 0 (j_ aP) 1 sb (j_ dE) 1 [tb] none 0 []) (by show m_ _ 4 i6 i6 0 0 sb.length true true;rw[nb];exact .Ea) (λu hu=>(c7 u hu).2) d (.nil _)
 intro vs bw C;simp only[b_];clear z j Q p aV;obtain⟨RA,tA,fB,gK,hA,ey,fN,z,dV,⟨Q,p⟩,h⟩:=C;rw[fB];clear fB;replace U:=U.hI h p_;have d7:=G_ fb h.size;go_upto_region 8 with fail;have gU:b1<=H9:=by obtain⟨_,_,_,_,_,_,P,l⟩:=p;omega
 replace ey:=ey.lt.imp (q:=λx=>b1<=x/\x<bw.heap.size) (λx c=>⟨by have:W.heap.size<=x:=c.1;omega,c.2⟩);have gP:b1<=RA:=X;obtain⟨W,aH⟩:=nm_ bw;rw[<-aH]at z dV Q p hA ey U d7 |-;clear aH;obtain⟨HA,e7⟩:=nm_ W.heap.size
 have gO:RA<HA:=by rw[e7];exact hA.lt
 rw[<-e7]at ey d7;have eT:=T;clear T;have T:∀y∈[g,m],y<HA:=p_;have eY:g<B/\B<=m/\R0<m/\g<R0/\m<b1/\b1<=HA/\H9<=HA/\RA<HA/\b1<=RA/\W.heap.size=HA:=⟨X,X,X,X,X,X,X,X,X,e7.symm⟩;have bZ:=(F_ [] W).drew;obtain⟨s1,aW,cx,df,bY,bU,cp,dt,cQ,bB,sb,sc,dO,dP,fJ⟩:∃s1 aW cx df bY bU cp dt cQ bB sb sc dO dP,tA=ST.mk s1 aW cx df bY bU cp dt cQ bB sb sc dO dP:=by
  cases tA
  exact⟨_,_,_,_,_,_,_,_,_,_,_,_,_,_,rfl⟩
 have fe:=O fJ;clear fJ e7;have aV:∀vs,sB B g m R0 b1 H9 RM RA HA tA W (λ_=>false) vs W.drew:=λvs=>⟨z.hF bZ,dV.gr bZ H,Q.hF bZ,p.iy bZ H,hA.hF bZ,ey.hF bZ,(λ_ _ _ _ a=>by cases a),(λa=>by cases a),(λa=>by cases a),(λa=>by cases a),(λa=>a),bZ.mono H,eY⟩;refine oi (λf vs=>sB B g m R0 b1 H9 RM RA HA tA W f vs) (λvs r=>∃(dj x:Nat) (A:OA) (k:Nat) (us:QV) (K:Nat),vs 21=q_ dj/\HA<=dj/\Bk r dj 213 #[.string p4,.slice (j_ x) 2 2,.slice A us.length k]/\HA<=x/\Bk r x 9 #[.string {data:=#[112]},.string {data:=#[110]}]/\lL ig b1 5 K r A k us/\(K<=15/\us.length<=11/\FG us/\∀y,(Value.slice A us.length k).ownBlock=some y->HA<=y)/\iN r B g/\Lf g m 0 1 3 r/\Bk r R0 150 #[n_]/\mU b1 H9 RM r/\J [g,m] W r/\True) (G8 g m HA) [SU.zV [] (λv w=>∃x,v=.slice (j_ x) 2 2/\HA<=x/\Bk w x 9 #[.string {data:=#[112]},.string {data:=#[110]}]) (λ_ _ _ _ _ S⟨x,P,l,h3⟩=>⟨x,P,l,S.bk h3 I X X⟩),SU.mB _ (.agg (jx 1).g_),SU.anyI _,SU.mB _ (.agg (jx 0).g_),SU.anyI _,SU.mB _ (.agg (jx 2).g_),SU.anyI _,SU.mB _ (.agg (jy ph).g_),SU.anyI _,SU.mB _ (.agg (jx 0).g_),SU.anyI _,SU.mB _ (.agg (jx 0).g_),SU.anyI _,SU.mB _ (.agg (jx 0).g_),SU.anyI _,SU.mB _ (.agg tA.g_),SU.anyI _,SU.mB _ (q_ m),SU.anyI _,SU.zV [19] (λv w=>∃(A:OA) (k:Nat) (us:QV) (K:Nat),v=.slice A us.length k/\lL ig b1 5 K w A k us/\K<=15/\us.length<=11/\FG us/\∀y,(Value.slice A us.length k).ownBlock=some y->HA<=y) (λi hi v w w' S⟨A,k,us,K,P,l,h3⟩=>⟨A,k,us,K,P,l.iy (S.gr hi) p_,h3⟩),SU.zV [19] (λv w=>∃(x:Nat) (A:OA) (k:Nat) (us:QV) (K:Nat),v=.agg #[.string p4,.slice (j_ x) 2 2,.slice A us.length k]/\HA<=x/\Bk w x 9 #[.string {data:=#[112]},.string {data:=#[110]}]/\lL ig b1 5 K w A k us/\K<=15/\us.length<=11/\FG us/\∀y,(Value.slice A us.length k).ownBlock=some y->HA<=y) (λi hi v w w' S⟨x,A,k,us,K,P,h0,c,l,h3⟩=>⟨x,A,k,us,K,P,h0,S.bk c I X X,l.iy (S.gr hi) p_,h3⟩),SU.zV [] (λv w=>∃R,v=q_ R/\HA<=R/\Bk w R 213 #[.string i6,n_,n_]) (λ_ _ _ _ _ S⟨x,P,l,h3⟩=>⟨x,P,l,S.bk h3 I X X⟩),SU.anyI _] (SU.anyI _) [[],[],[1],[],[3],[],[5],[],[7],[],[9],[],[11],[],[13],[],[2,4,6,8,10,12,14,15],[],[17],[16,18],[0,19],[],[21,20]] true [(some 50,0),(some 51,1),(some 52,2),(some 53,3),(some 54,4),(some 55,5),(some 56,6),(some 57,7),(some 58,8),(some 59,9),(some 60,10),(some 61,11),(some 62,12),(some 63,13),(some 64,14),(some 65,15),(some 66,16),(some 67,17),(some 68,18),(some 69,19),(some 70,20),(some 7,21),(none,22)] k_ k_ k_ (λ_ _ _ _ _ a=>a) k_ rfl rfl k_ aV ⟨?_,?_,?_,?_,?_,?_,?_,?_,?_,?_,?_,?_,?_,?_,?_,?_,?_,?_,?_,?_,?_,?_,?_,trivial⟩ ?_;exact Kq
 .refine jT [] ?_;intro f vs V hf hp C Nw K Nu;clear Nw;try simp only[b_]at Nu |-
  go_simp;go_at_call 144;refine(kf 1).mono ?_;exact MG
 .refine jT [(some 51,1)] ?_;intro f vs V hf hp C Nw K Nu;obtain⟨o, -⟩:=Nw;replace o:_=_:=o;try simp only[b_,o]at Nu |-
  go_simp;go_at_call 142;refine(kQ HA wt (jx 1) _ C.hz (kw.leaf _ _ _ _ _ _)).mono ?_;rintro e w1⟨A,rfl,Nt,hg1⟩;exact Nu.out _ _ (C.x6 (x:=wt) (by simp[mY]) (by intro y hy;simp[mY]at hy;exact hy) hg1 ⟨A,jx 1,rfl,Nt,SG.leaf (t:=i3 wt A (jx 1)) (.vC _ (show wt∈ig by simp[ig,hV])) rfl rfl (by intro u hu;rcases O_.1 hu with rfl|hu;exact .num _ _ X X;cases hu)⟩) (G8.jD I hg1) trivial
 exact Ki
 .refine jT [(some 53,3)] ?_;intro f vs V hf hp C Nw K Nu;obtain⟨o, -⟩:=Nw;replace o:_=_:=o;try simp only[b_,o]at Nu |-
  go_simp;go_at_call 142;refine(kQ HA vm (jx 0) _ C.hz (kw.leaf _ _ _ _ _ _)).mono ?_;rintro e w1⟨A,rfl,Nt,hg1⟩;exact Nu.out _ _ (C.x6 (x:=vm) (by simp[mY]) (by intro y hy;simp[mY]at hy;exact hy) hg1 ⟨A,jx 0,rfl,Nt,SG.leaf (t:=i3 vm A (jx 0)) (.vC _ (show vm∈ig by simp[ig,hV])) rfl rfl (by intro u hu;rcases O_.1 hu with rfl|hu;exact .num _ _ X X;cases hu)⟩) (G8.jD I hg1) trivial
 .refine jT [] ?_;intro f vs V hf hp C Nw K Nu;clear Nw;try simp only[b_]at Nu |-
  go_simp;go_at_call 144;refine(kf 2).mono ?_;exact MG
 .refine jT [(some 55,5)] ?_;intro f vs V hf hp C Nw K Nu;obtain⟨o, -⟩:=Nw;replace o:_=_:=o;try simp only[b_,o]at Nu |-
  go_simp;go_at_call 142;refine(kQ HA vI (jx 2) _ C.hz (kw.leaf _ _ _ _ _ _)).mono ?_;rintro e w1⟨A,rfl,Nt,hg1⟩;exact Nu.out _ _ (C.x6 (x:=vI) (by simp[mY]) (by intro y hy;simp[mY]at hy;exact hy) hg1 ⟨A,jx 2,rfl,Nt,SG.leaf (t:=i3 vI A (jx 2)) (.vC _ (show vI∈ig by simp[ig,hV])) rfl rfl (by intro u hu;rcases O_.1 hu with rfl|hu;exact .num _ _ X X;cases hu)⟩) (G8.jD I hg1) trivial
 .refine jT [] ?_;intro f vs V hf hp C Nw K Nu;clear Nw;try simp only[b_]at Nu |-
  go_simp;go_at_call 145;refine(ki ph).mono ?_;exact MG
 .refine jT [(some 57,7)] ?_;intro f vs V hf hp C Nw K Nu;obtain⟨o, -⟩:=Nw;replace o:_=_:=o;try simp only[b_,o]at Nu |-
  go_simp;go_at_call 142;refine(kQ HA nc (jy ph) _ C.hz (kw.leaf _ _ _ _ _ _)).mono ?_;rintro e w1⟨A,rfl,Nt,hg1⟩;exact Nu.out _ _ (C.x6 (x:=nc) (by simp[mY]) (by intro y hy;simp[mY]at hy;exact hy) hg1 ⟨A,jy ph,rfl,Nt,SG.leaf (t:=i3 nc A (jy ph)) (.vC _ (show nc∈ig by simp[ig,hV])) rfl rfl (by intro u hu;rcases O_.1 hu with rfl|hu;exact .var _ _ (by simp[ig,hV]);cases hu)⟩) (G8.jD I hg1) trivial
 exact Ki
 .refine jT [(some 59,9)] ?_;intro f vs V hf hp C Nw K Nu;obtain⟨o, -⟩:=Nw;replace o:_=_:=o;try simp only[b_,o]at Nu |-
  go_simp;go_at_call 142;refine(kQ HA oL (jx 0) _ C.hz (kw.leaf _ _ _ _ _ _)).mono ?_;rintro e w1⟨A,rfl,Nt,hg1⟩;exact Nu.out _ _ (C.x6 (x:=oL) (by simp[mY]) (by intro y hy;simp[mY]at hy;exact hy) hg1 ⟨A,jx 0,rfl,Nt,SG.leaf (t:=i3 oL A (jx 0)) (.vC _ (show oL∈ig by simp[ig,hV])) rfl rfl (by intro u hu;rcases O_.1 hu with rfl|hu;exact .num _ _ X X;cases hu)⟩) (G8.jD I hg1) trivial
 exact Ki
 .refine jT [(some 61,11)] ?_;intro f vs V hf hp C Nw K Nu;obtain⟨o, -⟩:=Nw;replace o:_=_:=o;try simp only[b_,o]at Nu |-
  go_simp;go_at_call 142;refine(kQ HA xJ (jx 0) _ C.hz (kw.leaf _ _ _ _ _ _)).mono ?_;rintro e w1⟨A,rfl,Nt,hg1⟩;exact Nu.out _ _ (C.x6 (x:=xJ) (by simp[mY]) (by intro y hy;simp[mY]at hy;exact hy) hg1 ⟨A,jx 0,rfl,Nt,SG.leaf (t:=i3 xJ A (jx 0)) (.vC _ (show xJ∈ig by simp[ig,hV])) rfl rfl (by intro u hu;rcases O_.1 hu with rfl|hu;exact .num _ _ X X;cases hu)⟩) (G8.jD I hg1) trivial
 exact Ki
 .refine jT [(some 63,13)] ?_;intro f vs V hf hp C Nw K Nu;obtain⟨o, -⟩:=Nw;replace o:_=_:=o;try simp only[b_,o]at Nu |-
  go_simp;go_at_call 142;refine(kQ HA xI (jx 0) _ C.hz (kw.leaf _ _ _ _ _ _)).mono ?_;rintro e w1⟨A,rfl,Nt,hg1⟩;exact Nu.out _ _ (C.x6 (x:=xI) (by simp[mY]) (by intro y hy;simp[mY]at hy;exact hy) hg1 ⟨A,jx 0,rfl,Nt,SG.leaf (t:=i3 xI A (jx 0)) (.vC _ (show xI∈ig by simp[ig,hV])) rfl rfl (by intro u hu;rcases O_.1 hu with rfl|hu;exact .num _ _ X X;cases hu)⟩) (G8.jD I hg1) trivial
 refine jT [] ?_;intro f vs V hf hp C Nw K Nu;clear Nw;try simp only[b_]at Nu |-
 refine iZ k_ ?_;refine oN 229 _ rfl RA 0 r_ 229 tA.g_ tA.g_ C.a (λbk _=>by rw[X_]) _ underlying229 rfl k_ ?_;exact Nu.out _ _ (C.sd I (F_ [] _)) (G8.jD I (F_ [] _)) rfl
 .refine jT [(some 52,2),(some 54,4),(some 56,6),(some 58,8),(some 60,10),(some 62,12),(some 64,14),(some 65,15)] ?_;intro f vs V hf hp C Nw K Nu;obtain⟨-, -, -, -, -, -, -,ea, -⟩:=Nw;replace ea:_=_:=ea;try simp only[b_,ea]at Nu |-
  have bv:f 19=false:=by
   cases a:f 19 with
   |false=>rfl
   |true=>rw[C.EP a]at hf;cases hf
  obtain⟨aw,e1,aG,i2,bj⟩:=C.o0 bv 2 wt (by simp[mY]) (hp 2 I);obtain⟨aO,fU,b4,dY,cY⟩:=C.o0 bv 4 vm (by simp[mY]) (hp 4 I);obtain⟨aL,fV,dx,gG,cO⟩:=C.o0 bv 6 vI (by simp[mY]) (hp 6 I);obtain⟨b0,u8,dT,gH,ej⟩:=C.o0 bv 8 nc (by simp[mY]) (hp 8 I);obtain⟨c8,eI,e10,gD,e0⟩:=C.o0 bv 10 oL (by simp[mY]) (hp 10 I);obtain⟨fv,fS,f2,gE,fo⟩:=C.o0 bv 12 xJ (by simp[mY]) (hp 12 I);obtain⟨fw,fT,f3,gF,fp⟩:=C.o0 bv 14 xI (by simp[mY]) (hp 14 I);have fK:=C.ta;rw[fe.out]at fK fN;have dy:tA.g_=(ST.mk s1 aW cx df bY bU cp dt cQ bB sb sc dO dP).g_:=by rw[fe.out]
  simp only[aG,b4,dx,dT,e10,f2,f3]at Nu |-;simp only[i3,ST.ik,dy]at Nu |-;go_simp;have cD:b1<=HA:=X;refine Nu.out _ _ (C.Fg hf ((F_ [] _).alloc _) (us:=[i3 wt aw e1,i3 vm aO fU,i3 vI aL fV,i3 nc b0 u8,i3 oL c8 eI,i3 xJ fv fS,i3 xI fw fT,tA]) rfl rfl ?_ ?_) (G8.jD I ((F_ [] _).alloc _)) trivial
  refine⟨[i3 wt aw e1,i3 vm aO fU,i3 vI aL fV,i3 nc b0 u8,i3 oL c8 eI,i3 xJ fv fS,i3 xI fw fT],tA,rfl,rfl,?_⟩;intro s hs;iterate 7 (rcases O_.1 hs with rfl|hs;exact rfl)
  cases hs
  rw[fe.out];refine⟨oA (s9 (n:=8) (s:=8) (P_ V 229 _) rfl (H_ _) I) (ov C.hz),?_,?_⟩
  .intro u hu;rcases O_.1 hu with rfl|hu
   .exact i2.fresh (λx c=>G_ cD c)
   rcases O_.1 hu with rfl|hu
   .exact dY.fresh (λx c=>G_ cD c)
   rcases O_.1 hu with rfl|hu
   .exact gG.fresh (λx c=>G_ cD c)
   rcases O_.1 hu with rfl|hu
   .exact gH.fresh (λx c=>G_ cD c)
   rcases O_.1 hu with rfl|hu
   .exact gD.fresh (λx c=>G_ cD c)
   rcases O_.1 hu with rfl|hu
   .exact gE.fresh (λx c=>G_ cD c)
   rcases O_.1 hu with rfl|hu
   .exact gF.fresh (λx c=>G_ cD c)
   rcases O_.1 hu with rfl|hu
   exact fK.fresh (λx c=>c.1);cases hu
  exact(((((((bj.mono I).append (cY.mono I)).append (cO.mono I)).append (ej.mono I)).append (e0.mono I)).append (fo.mono I)).append (fp.mono I)).append (fN.mono I)
 .refine jT [] ?_;intro f vs V hf hp C Nw K Nu;clear Nw;try simp only[b_]at Nu |-
  go_simp;exact Nu.out _ _ (C.sd I (F_ [] _)) (G8.jD I (F_ [] _)) rfl
 .refine jT [(some 67,17)] ?_;intro f vs V hf hp C Nw K Nu;obtain⟨o, -⟩:=Nw;replace o:_=_:=o;try simp only[b_,o]at Nu |-
  obtain⟨cT,eA,eG,cI⟩:=C.lf;go_simp;go_at_call 139;refine((tv B g m 1).2 1 2 cT 0 _ rfl X X C.d cI hBm eA X X H).mono ?_;rintro e w1⟨A,k,ts,N,al,rfl,dq,ct,cy,d4,bt,cF,bH,a6⟩;exact Nu.out _ _ (C.Ff hf a6 bH ⟨al,cy,X,cF⟩ rfl X X ct) (by unfold G8;rw[T_ I,U_ I];exact a6) trivial
 refine jT [(some 66,16),(some 68,18)] ?_;intro f vs V hf hp C Nw K Nu;obtain⟨-, -, -⟩:=Nw;try simp only[b_]at Nu |-
 obtain⟨x,us,A,k,ts,N,dz,ef,ez,fF,fk,dI,ag,gN,fG,gp⟩:=C.hj (hp 16 I) (hp 18 I) hf;have fd:=C.hz;simp only[dz,dI]at Nu |-;have cu:=fF.own;rw[ef]at cu;refine iZ k_ ?_;refine oO _ _ _ rfl b1 229 i1 _ 8 128 underlying211 bT cj cn cr rfl I I (j_ x) 8 8 (us.flatMap ST.E) r_ cu A ts.length k (ts.flatMap ST.E) r_ fG.sl (k7) X X ?_;intro aw aj bN dn bI bO;have dm:=fF.add (us:=ts) (A':=aw) (c':=aj) (by rw[ef];exact dn) (by rw[ef];exact bI) (by rw[ef];exact bO) (λu hu=>(gp u hu).imp (λy hy=>⟨hy.1,λhe=>by simp[Value.ownBlock]at he;exact hy.2 he.symm⟩)) ((fG.sg.sub (λs hs=>by simp[ig,hs])).mono X);have aM:=J.iR bI
 have eU:∀y∈oK (Value.slice (j_ x) 8 8).ownBlock,y=x:=λy hy=>by have:=jK.1 hy;simp[Value.ownBlock]at this;exact this.symm
 refine Nu.out (.slice aw (8+ts.length) aj) _ (C.Fe (hp 16 I) (hp 18 I) aM (λy hy=>by rw[eU y hy];exact fk)) ?_ ⟨aw,aj,us++ts,9+N,by rw[I_,ef],dm,X,by rw[I_,ef];omega,?_,?_⟩;unfold G8;rw[U_ I];refine⟨_,aM,λy hy=>?_⟩;rw[eU y hy];refine⟨fk,λt cs hk=>?_⟩;rcases cu.2 with⟨hv,_⟩|⟨q,lR,cur,hv,_,av,_⟩
 cases hv
 injection hv with hv;injection hv with hv;injection hv with hv;subst hv;have bg:V.heap[x]?=_:=hk;rw[av]at bg;simp at bg;exact bg.2.symm;obtain⟨cp,ew,hu,hn,hk⟩:=ez;exact⟨cp,ew,ts,by rw[hu];simp,hn,hk⟩;intro y hy;rw[I_,ef]at hy;rcases bO with bO|bO
 rw[bO]at hy;simp[Value.ownBlock]at hy;omega;rw[bO]at hy;injection hy with hy;omega
 .refine jT [(some 50,0),(some 69,19)] ?_;intro f vs V hf hp C Nw K Nu;obtain⟨⟨a8,o,bu,be⟩,⟨dF,cb,tb,eQ,aq,d2,nb⟩, -⟩:=Nw;try simp only[b_,o,aq]at Nu |-
  go_simp;exact Nu.out _ _ (C.sd I (F_ [] _)) (G8.jD I (F_ [] _)) ⟨a8,dF,cb,tb,eQ,rfl,bu,be,d2,nb⟩
 exact Kq
 .refine wa [(some 7,21),(some 70,20)] ?_;intro f vs V hf hp C Nw K Nu;obtain⟨⟨a8,o,bu,be⟩,⟨aP,dF,cb,tb,eQ,aq,cK,bE,d2,nb⟩, -⟩:=Nw;try simp only[b_,o,aq]at Nu |-
  have ax:=Bk.l8 bE be I;refine iZ k_ ?_;refine ic 213 rfl a8 r_ #[.string p4,.slice (j_ aP) 2 2,.slice dF tb.length cb] r_ 213 be rfl k_ (by simp[Value.oneCell']) ?_;intro r aB h;obtain⟨P,l,h3,am,au⟩:=C.base h p_;exact Nu.out undef _ (λ_=>⟨a8,aP,dF,cb,tb,eQ,o,bu,aB,cK,bE.gr h (zu ax),d2.Ek be h,nb,C.d.ih h p_,C.lf.gr h p_,P,l,au,trivial⟩)
 intro f vs bw hf C;simp only[b_];clear z dV Q p hA ey aV;obtain⟨dj,aC,c9,cW,bx,eO,fC,gR,G,g3,cc,dk,e5,z,dV,Q,p,h, -⟩:=C;rw[fC];clear fC;replace U:=U.hI h p_;obtain⟨ck,gY,gZ,j⟩:=dV;clear h;have aS:=j.f_ 3;have z3:=j.hG 3;have ah:=j.f_ 1;have aR:=j.hG 1;go_upto_region 10 with fail;clear aS z3 ah aR;have bX:J [m] bw ((bw.setCell (Z m 3) (Y 2)).setCell (Z m 1) (Y 3)):=((F_ [m] bw).setCell (.inl H) _).setCell (.inl H) _;replace j:Bk ((bw.setCell (Z m 3) (Y 2)).setCell (Z m 1) (Y 3)) m 222 #[q_ g,Y 3,Y 0,Y 2]:=(j.hU 3 _).hU 1 _;replace z:=z.ih bX p_;replace Q:=Q.gr bX p_;replace p:=p.iy bX p_;replace G:=G.gr bX p_;replace cc:=cc.gr bX p_;replace dk:=dk.iy bX p_;replace U:=U.hI bX p_;have gB:=bX.size;obtain⟨aU,dr⟩:=nm_ ((bw.setCell (Z m 3) (Y 2)).setCell (Z m 1) (Y 3));rw[<-dr]at j z Q p G cc dk U gB |-;clear dr bX;have cM:=z.hF ((F_ [] aU).alloc (.cells #[.string {data:=#[113]}] 9));have cH:=j.alloc (.cells #[.string {data:=#[113]}] 9)
 have gv:∀y,(Value.slice c9 bx.length cW).ownBlock=some y->y<aU.heap.size:=λy hy=>(kD dk.own hy).2;have gh:dj<aU.heap.size/\aC<aU.heap.size:=⟨G.lt,cc.lt⟩;have g6:b1<=aU.heap.size:=ov G.lt;go_upto_region 11 with(first|(go_at_call 139;refine((tv B g m 2).2 1 2 3 0 _ rfl X X cM cH hBm X X X H).mono ?_;rintro e eM⟨A,k,ts,N,al,rfl,dq,ct,cy,d4,bt,cF,bH,a6⟩;obtain⟨n0,hn0⟩:=nm_ ts.length;have aX:=O hn0;rw[<-hn0];rw[<-hn0]at dq;clear hn0)|(go_at_call 141;go_loud (refine(uI aU.heap.size 2 N A n0 k ts (j_ eM.heap.size) 3 9 aX.out.symm (by rw[aX.out];exact(ct.iy ((F_ [] eM).alloc (.cells #[.string {data:=#[105]},.string {data:=#[106]},.string {data:=#[107]}] 9)) H).sl) X (λu hu=>((ct.iy ((F_ [] eM).alloc (.cells #[.string {data:=#[105]},.string {data:=#[106]},.string {data:=#[107]}] 9)) H).from u hu).le H) ct.sg (by have:=a6.size;simp at this |-;omega) (jh (n:=3) (s:=1) (P_ eM 9 #[.string {data:=#[105]},.string {data:=#[106]},.string {data:=#[107]}]) rfl)).mono ?_;rintro e bN⟨b0,cq,ss,rfl,ek,eK,fa,bA,ei,d5⟩;obtain⟨aF,ed⟩:=nm_ (ss++ts);rw[<-ed]at ek d5;rw[<-ed];have di:=O ed;obtain⟨db,dM⟩:=nm_ aF.length;have eC:=O dM;rw[<-dM];clear ed dM)));obtain⟨wc,d6⟩:=nm_ (bN.alloc (.cells #[.string pD,.slice (j_ aU.heap.size) 1 1,.slice b0 db cq] 213));have bq:J [g,m] aU wc:=by rw[d6];exact(((((F_ [g,m] aU).alloc _).trans a6).alloc _).trans (bA.mono H)).alloc _
 have d1:J [] eM wc:=by rw[d6];exact(((F_ [] eM).alloc _).trans bA).alloc _
 replace z:=bH.hF d1;clear j;have j:=cF.hF d1;replace Q:=Q.gr bq p_;replace p:=p.iy bq p_;replace G:=G.gr bq p_;replace cc:=cc.gr bq p_;replace dk:=dk.iy bq p_;replace U:=U.hI bq p_;have dG:lL hV aU.heap.size 3 (8+N) wc b0 cq aF:=by rw[d6];exact ek.iy ((F_ [] bN).alloc _) H
 have aE:Bk wc aU.heap.size 9 #[.string nc]:=by rw[d6];exact(((P_ aU 9 #[.string nc]).gr a6 p_).alloc _ |>.hF bA).alloc _
 have da:Bk wc bN.heap.size 213 #[.string pD,.slice (j_ aU.heap.size) 1 1,.slice b0 db cq]:=by rw[d6];exact P_ bN 213 #[.string pD,.slice (j_ aU.heap.size) 1 1,.slice b0 db cq]
 obtain⟨dR,fh⟩:=nm_ bN.heap.size;obtain⟨xg,eL⟩:=nm_ aU.heap.size;have gW:b1<=xg:=X;have gV:xg<dR:=by have:=bA.size;have:=a6.size;simp at*;omega
 have g0:db<=20:=by
  have bS:=by have:=Z_ List.length eK;simpa[hV]using this
  rw[eC.out,di.out,I_,bS,<-aX.out];omega
 have gL:N<=6:=X;rw[<-fh,<-eL]at da;rw[<-eL]at aE dG;have fO:∀y,(Value.slice c9 bx.length cW).ownBlock=some y->y<xg:=λy hy=>by rw[eL];exact gv y hy
 have gQ:dj<xg/\aC<xg:=by rw[eL];exact gh
 rw[show bN.alloc (.cells #[.string {data:=#[103]},.slice (j_ aU.heap.size) 1 1,.slice b0 db cq] 213)=wc from d6.symm,<-fh,<-eL];clear d6 bq d1 bH cF a6 ek bA ei d5 ct fh eL cM cH;have ga:=dk;obtain⟨W,aH⟩:=nm_ wc;rw[<-aH]at z j Q p G cc dk U dG aE da |-;clear aH ga;have gl:xg<=W.heap.size:=ov da.lt
 have aV:∀vs,q2 xg W (λ_=>false) vs W.drew:=λvs=>⟨(λ_ a=>by cases a),(λ_ a=>by cases a),(λa=>by cases a),(F_ [] W).drew⟩;refine oi (λf vs=>q2 xg W f vs) (λvs r=>∃(A:OA) (k:Nat) (A1:OA),Bk r dR 213 #[.string pD,.slice (j_ xg) 1 1,.slice A ([(i3 oL A1 (jy nc))]++aF).length k]/\lL hV xg 3 (1+(8+N)) r A k ([(i3 oL A1 (jy nc))]++aF)/\J [dR] W r) (z1 W.heap.size) [SU.mB _ (.agg (jy nc).g_),SU.anyI _,SU.anyI _,SU.mB _ (.pointer (some (Z dR 2))),SU.mB _ (.slice b0 db cq),SU.zV [5] (λv w=>∃(A:OA) (k:Nat) (A1:OA),v=.slice A ([(i3 oL A1 (jy nc))]++aF).length k/\lL hV xg 3 (1+(8+N)) w A k ([(i3 oL A1 (jy nc))]++aF)) (λi hi v w w' S⟨A,k,A1,P,l⟩=>⟨A,k,A1,P,by unfold z1 at S;rw[T_ (zu hi)]at S;exact l.iy S H⟩),SU.mB _ (.pointer (some (Z dR 2))),SU.anyI _] (SU.anyI _) [[],[0],[1],[],[3],[2,4],[],[6,5]] true [(some 83,0),(some 84,1),(some 85,2),(some 86,3),(some 87,4),(some 88,5),(some 89,6),(none,7)] k_ k_ k_ (λ_ _ _ _ _ a=>a) k_ rfl rfl k_ aV ⟨?_,?_,?_,?_,?_,?_,?_,?_,trivial⟩ ?_
 .refine jT [] ?_;intro f vs V hf hp C Nw K Nu;clear Nw;try simp only[b_]at Nu |-
  go_simp;go_at_call 145;refine(ki nc).mono ?_;rintro e w1⟨rfl,hg1⟩;exact Nu.out _ _ (C.add I hg1) (z1.of I hg1) rfl
 .refine jT [(some 83,0)] ?_;intro f vs V hf hp C Nw K Nu;obtain⟨o, -⟩:=Nw;replace o:_=_:=o;try simp only[b_,o]at Nu |-
  go_simp;go_at_call 142;refine(kQ W.heap.size oL (jy nc) _ C.gr.size (kw.leaf _ _ _ _ _ _)).mono ?_;rintro e w1⟨A,rfl,Nt,hg1⟩;exact Nu.out _ _ (C.p3 hg1 ⟨A,rfl,Nt⟩) (z1.of I hg1) trivial
 .refine jT [(some 84,1)] ?_;intro f vs V hf hp C Nw K Nu;obtain⟨-, -⟩:=Nw;try simp only[b_]at Nu |-
  have au:f 5=false:=by
   cases a:f 5 with
   |false=>rfl
   |true=>rw[C.o5 a]at hf;cases hf
  obtain⟨A1,aJ,gC⟩:=C.h1 au (hp 1 I);simp only[aJ]at Nu |-;simp only[i3,ST.ik]at Nu |-;go_simp;refine Nu.out _ _ (C.F5 ((F_ [] _).alloc _) ⟨V.heap.size,A1,rfl,C.gr.size,?_⟩) (z1.of I ((F_ [] _).alloc _)) trivial;refine⟨oA (s9 (n:=1) (s:=8) (P_ V 229 (i3 oL A1 (jy nc)).g_) rfl (H_ _) I) (ov C.gr.size),λu hu=>?_,SG.leaf (t:=(i3 oL A1 (jy nc))) (.vC _ (show oL∈hV by simp[hV])) rfl rfl (by intro u hu;rcases O_.1 hu with rfl|hu;exact .var _ _ (by simp[hV]);cases hu)⟩
  have:u=(i3 oL A1 (jy nc)):=J_.1 hu;subst this;exact gC.fresh (λx c=>G_ gl c)
 exact KV;refine jT [(some 86,3)] ?_;intro f vs V hf hp C Nw K Nu;obtain⟨o, -⟩:=Nw;replace o:_=_:=o;try simp only[b_,o]at Nu |-
 obtain⟨aR,aZ,hw,cV⟩:=id C;have ay:=(da.hF cV).f_ 2;exact MT;refine jT [(some 85,2),(some 87,4)] ?_;intro f vs V hf hp C Nw K Nu;obtain⟨-,aq, -⟩:=Nw;replace aq:_=_:=aq;try simp only[b_,aq]at Nu |-
 obtain⟨aD,A1,aG,cz,eE⟩:=C.h2 hf (hp 2 I);have gd:=dG.iy C.gr H;have fd:=C.gr.size;simp only[aG]at Nu |-;refine iZ k_ ?_;refine oO _ _ _ rfl xg 229 i1 _ 8 128 underlying211 bT cj cn cr rfl I I (j_ aD) 1 1 _ r_ eE.own b0 db cq (aF.flatMap ST.E) r_ (by rw[eC.out];exact gd.sl) (k7) X X ?_;intro aw aj r dn bI bO;have dM:=eC.out;have dm:=eE.add (us:=aF) (A':=aw) (c':=aj) (by rw[<-dM];exact dn) bI (by rw[<-dM];exact bO) (λu hu=>((dG.jo u hu).lt.imp (λy hy=>⟨hy.1.1,λhe=>by simp[Value.ownBlock]at he;have:=hy.2;omega⟩)).hF C.gr) (dG.sg);have aM:=J.iR bI
 have eU:∀y∈oK (Value.slice (j_ aD) 1 1).ownBlock,W.heap.size<=y:=λy hy=>by have:=jK.1 hy;simp[Value.ownBlock]at this;omega
 refine Nu.out (.slice aw (1+db) aj) _ (C.F4 (hp 2 I) aM eU) (by unfold z1;rw[U_ I];exact⟨_,aM,eU⟩) ⟨aw,aj,A1,by rw[I_,<-dM];rfl,dm⟩;exact KV
 .refine wa [(some 89,6),(some 88,5)] ?_;intro f vs V hf hp C Nw K Nu;obtain⟨o,⟨dF,cb,fA,aq,d2⟩, -⟩:=Nw;replace o:_=_:=o;try simp only[b_,o,aq]at Nu |-
  have e8:=da.hF C.gr;have ay:=e8.f_ 2;have aZ:=e8.hG 2;go_simp;have h:J [dR] V (V.setCell (Z dR 2) (.slice dF ([i3 oL fA (jy nc)]++aF).length cb)):=(F_ [dR] V).setCell (.inl H) _;exact Nu.out undef _ (λ_=>⟨dF,cb,fA,e8.hU 2 _,d2.Ek e8 h,(C.gr.mono H).trans h⟩)
 intro f vs bw hf C;simp only[b_];have fH:=da;clear dG aV da;obtain⟨dZ,d0,a1,da,dG,h⟩:=C;have gS:b1<=dR:=X;have gA:=Bk.l8 cc G I;replace z:=z.ih h p_;replace j:=j.gr h p_;replace Q:=Q.gr h p_;replace p:=p.iy h p_;replace G:=G.gr h p_;replace cc:=cc.gr h p_;replace aE:=aE.gr h p_;replace dk:=dk.Ek fH h;clear fH;replace U:=U.hI h p_;clear h;go_upto_region 12 with fail;obtain⟨W,aH⟩:=nm_ bw;rw[<-aH]at z j Q p G cc dk U dG aE da |-;clear aH;have gk:=da.lt;have cX:∀y∈[g],y∈(g::oK (Value.slice c9 bx.length cW).ownBlock):=H
 have e9:∀y∈oK (Value.slice c9 bx.length cW).ownBlock,HA<=y/\y<xg:=λy hy=>⟨e5.2.2.2 y (jK.1 hy),fO y (jK.1 hy)⟩;have fP:∀y∈oK (Value.slice c9 bx.length cW).ownBlock,y≠dj/\y≠aC:=λy hy=>by
  rcases dk.own.2 with⟨hv,_⟩|⟨q,lR,cur,hv,_,av,_⟩
  have:=jK.1 hy;rw[hv]at this;cases this
  have P:=jK.1 hy;rw[hv]at P;have l:=by simpa[Value.ownBlock]using P
  subst l;refine⟨λhe=>?_,λhe=>?_⟩;have bg:W.heap[dj]?=_:=G;rw[<-he,av]at bg;simp at bg;have bg:W.heap[aC]?=_:=cc;rw[<-he,av]at bg;simp at bg
 have eJ:∀y∈oK (Value.slice c9 bx.length cW).ownBlock,B<=y/\m≠y:=λy hy=>by have:=e9 y hy;omega
 have fQ:∀y,(Value.slice c9 bx.length cW).ownBlock=some y->y<W.heap.size:=λy hy=>by have:=fO y hy;omega
 have eT:=T;clear T;have T:∀y∈(g::oK (Value.slice c9 bx.length cW).ownBlock),y<W.heap.size:=by
  intro y hy;rcases O_.1 hy with rfl|hy
  omega;exact fQ y (jK.1 hy)
 have aV:Ps B g m 2 3 (g::oK (Value.slice c9 bx.length cW).ownBlock) (λw=>Bk w R0 150 #[n_]/\mU b1 H9 RM w/\Bk w dj 213 #[.string p4,.slice (j_ aC) 2 2,.slice c9 bx.length cW]/\Bk w aC 9 #[.string {data:=#[112]},.string {data:=#[110]}]/\Bk w dR 213 #[.string pD,.slice (j_ xg) 1 1,.slice dZ ([i3 oL a1 (jy nc)]++aF).length d0]/\Bk w xg 9 #[.string nc]/\lL hV xg 3 (1+(8+N)) w dZ d0 ([i3 oL a1 (jy nc)]++aF)) (λw=>lL ig b1 5 eO w c9 cW bx) W false W.drew:=⟨z.hF (F_ [] W).drew,⟨al,cy,X,j.hF (F_ [] W).drew⟩,⟨Q.hF (F_ [] W).drew,p.iy (F_ [] W).drew H,G.hF (F_ [] W).drew,cc.hF (F_ [] W).drew,da.hF (F_ [] W).drew,aE.hF (F_ [] W).drew,dG.iy (F_ [] W).drew H⟩,λ_=>dk.iy (F_ [] W).drew H,(F_ _ W).drew,
  λbd b a⟨bL,cf,dB,dU,f5,f6,f7⟩=>by
   have dJ:∀x∈(g::oK (Value.slice c9 bx.length cW).ownBlock),x=g∨(HA<=x/\x<xg/\x≠dj/\x≠aC):=λx c=>by
    rcases O_.1 c with rfl|c
    exact .inl rfl;exact .inr ⟨(e9 x c).1,(e9 x c).2,(fP x c).1,(fP x c).2⟩
   exact⟨bL.gr a (λc=>by have:=dJ _ c;omega),cf.iy a (λx c=>by have:=dJ x c;omega),dB.gr a (λc=>by have:=dJ _ c;omega),dU.gr a (λc=>by have:=dJ _ c;omega),f5.gr a (λc=>by have:=dJ _ c;omega),f6.gr a (λc=>by have:=dJ _ c;omega),f7.iy a (λx c=>by have:=dJ x c;omega)⟩,
  λbd b a l=>l.iy a p_,H,X⟩
 refine ol (λf=>Ps B g m 2 3 (g::oK (Value.slice c9 bx.length cW).ownBlock) (λw=>Bk w R0 150 #[n_]/\mU b1 H9 RM w/\Bk w dj 213 #[.string p4,.slice (j_ aC) 2 2,.slice c9 bx.length cW]/\Bk w aC 9 #[.string {data:=#[112]},.string {data:=#[110]}]/\Bk w dR 213 #[.string pD,.slice (j_ xg) 1 1,.slice dZ ([i3 oL a1 (jy nc)]++aF).length d0]/\Bk w xg 9 #[.string nc]/\lL hV xg 3 (1+(8+N)) w dZ d0 ([i3 oL a1 (jy nc)]++aF)) (λw=>lL ig b1 5 eO w c9 cW bx) W (f 7)) (λvs r=>∃(A:OA) (k:Nat) (us:QV),us.length=1/\Bk r dj 213 #[.string p4,.slice (j_ aC) 2 2,.slice A (bx++us).length k]/\lL ig b1 5 (eO+1) r A k (bx++us)/\iN r B g/\Bk r R0 150 #[n_]/\mU b1 H9 RM r/\Bk r aC 9 #[.string {data:=#[112]},.string {data:=#[110]}]/\Bk r dR 213 #[.string pD,.slice (j_ xg) 1 1,.slice dZ ([i3 oL a1 (jy nc)]++aF).length d0]/\Bk r xg 9 #[.string nc]/\lL hV xg 3 (1+(8+N)) r dZ d0 ([i3 oL a1 (jy nc)]++aF)/\J (dj::(g::oK (Value.slice c9 bx.length cW).ownBlock)) W r) (G2 7 [g] (g::oK (Value.slice c9 bx.length cW).ownBlock)) [SU.mB _ (.pointer (some (Z dj 2))),SU.mB _ (.slice c9 bx.length cW),SU.mB _ (q_ m),(SU.tree T (1)).vG (λ_ _ _ a=>a.gr cX),(SU.trees T 2 1).vG (λ_ _ _ a=>a.gr cX),(SU.stmt T (1) (1)).vG (λ_ _ _ a=>a.gr cX),(SU.of (λv w=>∃(x:Nat) (t:ST),v=.slice (j_ x) 1 1/\W.heap.size<=x/\Bk w x 229 t.g_/\jL (jC W.heap.size) w t/\SG hV 1 1 t) (λ_ _ _ S⟨x,t,P,l,h3,am,au⟩=>⟨x,t,P,l,h3.gr S (λj=>by have:=T x j;omega),am.ih S (λy hy=>G3.2 (T y hy)),au⟩)).vG (λ_ _ _ a=>a.gr cX),SU.zV [7] (λv w=>∃(aw:OA) (aj:Nat) (us:QV) (n2:Nat),v=.slice aw n2 aj/\(us.length=1/\n2=(bx++us).length)/\lL ig b1 5 (eO+1) w aw aj (bx++us)) (λi hi v w w' S⟨aw,aj,us,n2,P,h0,l⟩=>⟨aw,aj,us,n2,P,h0,l.iy (S.ne (zu hi)) p_⟩),SU.mB _ (.pointer (some (Z dj 2))),SU.anyI _] (SU.anyI _) [[],[0],[],[2],[3],[4],[5],[1,6],[],[8,7]] true [(some 90,0),(some 91,1),(some 92,2),(some 93,3),(some 94,4),(some 95,5),(some 96,6),(some 97,7),(some 98,8),(none,9)] k_ k_ k_ (λ_ _ _ _ _ a=>a) k_ rfl rfl k_ aV ⟨?_,?_,?_,?_,?_,?_,?_,?_,?_,?_,trivial⟩ ?_;exact Lw;refine jg [(some 90,0)] ?_;intro f vs V hf C Nw K Nu;obtain⟨o, -⟩:=Nw;replace o:_=_:=o;try simp only[b_,o]at Nu |-
 obtain⟨dh,fu,e2,hq,cV, -⟩:=id C;have ay:=e2.2.2.1.f_ 2;exact Nc;exact Lw
 .refine jg [(some 92,2)] ?_;intro f vs V hf C Nw K Nu;obtain⟨o, -⟩:=Nw;replace o:_=_:=o;try simp only[b_,o]at Nu |-
  obtain⟨cT,eA,eG,cI⟩:=C.lf;go_simp;go_at_call 140;refine(kL B g m cT 0 2 1 X _ rfl _ C.d cI hBm).mono ?_;exact LW
 refine jg [(some 93,3)] ?_;exact Jm;refine jg [(some 94,4)] ?_;exact I9;refine jg [(some 95,5)] ?_;exact JB;refine jg [(some 91,1),(some 96,6)] ?_;intro f vs V hf C Nw K Nu;obtain⟨o,⟨aP,tb,aq,cK,bE,ao,d⟩, -⟩:=Nw;replace o:_=_:=o;try simp only[b_,o,aq]at Nu |-
 have ct:=C.l hf;have fd:=C.hz;refine iZ k_ ?_;refine oO _ _ _ rfl b1 229 i1 _ 8 128 underlying211 bT cj cn cr rfl I I c9 bx.length cW (bx.flatMap ST.E) r_ ct.own _ 1 1 ([tb].flatMap ST.E) r_ (rf tb bE) (k7) X X ?_;intro aw aj bN cu bI bO;have dm:=ct.add (us:=[tb]) cu bI bO (λu hu=>by have:u=tb:=(zu hu);subst this;exact ao.imp (λy hy=>⟨by have:W.heap.size<=y:=hy;omega,λhe=>by have P:=fQ y he;have:W.heap.size<=y:=hy;omega⟩)) ((d.sub (λs hs=>by simp[ig,hs])).mono X);exact Nu.out (.slice aw (bx.length+1) aj) _ (C.app (J.iR bI) eJ (λy hy=>by simp[hy])) ((J.iR bI).mono (by intro y hy;simp[hy])) ⟨aw,aj,[tb],bx.length+1,rfl,⟨rfl,H⟩,dm⟩;exact Lw
 .refine wb [(some 98,8),(some 97,7)] ?_;intro f vs V hf C Nw K Nu;obtain⟨o,⟨dF,cb,tb,mb,aq,nb,d2⟩, -⟩:=Nw;replace o:_=_:=o;try simp only[b_,o,aq]at Nu |-
  have fx:=O nb;clear nb;have fI:=C.f.2.2.1;have ay:=fI.f_ 2;have aZ:=fI.hG 2;go_simp;have h:J [dj] V (V.setCell (Z dj 2) (.slice dF mb cb)):=(F_ [dj] V).setCell (.inl H) _;obtain⟨bL,cf,dB,dU,f5,f6,f7⟩:=C.f;exact Nu.out undef _ (λ_=>⟨dF,cb,tb,fx.out.1,by rw[<-fx.out.2];exact dB.hU 2 _,d2.Ek dB h,C.d.ih h p_,bL.gr h p_,cf.iy h p_,dU.gr h (by simp;exact gA),f5.gr h p_,f6.gr h p_,f7.Ek dB h,(C.gr.mono (by intro y hy;simp[hy])).trans (h.mono H)⟩)
 intro f vs bw hf C;simp only[b_];clear z j Q p G cc dk dG aE da aV;obtain⟨eN,eR,us,gy,G,dk,z,Q,p,cc,da,aE,dG,h⟩:=C;replace U:=U.hI h (by intro x c;rcases O_.1 c with rfl|c;right;omega;rcases O_.1 c with rfl|c;left;simp;right;have:=e9 x c;omega);clear h;obtain⟨d8,cm,bm,eb,fE,gf,aT,bW⟩:=p;obtain⟨nm,eg⟩:=nm_ bm.length;obtain⟨fq,fi⟩:=nm_ ((bx++us).length);obtain⟨ft,fj⟩:=nm_ (([i3 oL a1 (jy nc)]++aF).length);rw[<-eg]at eb;rw[<-fi]at G;rw[<-fj]at da;have e3:=O eg;have fX:=O fi;have fY:=O fj;have gu:([i3 oL a1 (jy nc)]++aF).length=1+db:=by rw[I_,<-eC.out];rfl
 have gm:b1<bw.heap.size/\R0<m/\m<b1:=⟨ov eb.lt,X,X⟩;have f9:H9<=bw.heap.size:=ov da.lt;have eS:=(dk.fin (H_ _)).C4 (ps:=[ph,Cw]) (jh (n:=2) (s:=1) cc rfl) (H_ 2) (λy off a _=>by injection a with a;injection a with a;have:=cc.lt;omega);have fD:=((dG.fin (H_ _)).C4 (ps:=[nc]) (DE aE) (H_ 1) (λy off a _=>by injection a with a;injection a with a;have:=aE.lt;omega));have gi:=dk.sg;have gj:=dG.sg;clear eg fi fj cc aE dk dG;obtain⟨dQ,eZ⟩:=nm_ bw;rw[<-eZ]at z Q eb G da fE eS fD U gm f9 |-;clear eZ;have bz:=eb.f_ 0;have br:=eb.f_ 1;have bG:=eb.f_ 2;have bP:=G.f_ 0;have cU:=G.f_ 1;have cZ:=G.f_ 2;have dN:=da.f_ 0;have aK:=da.f_ 1;have de:=da.f_ 2
 go_wp2_with (refine kP #[.slice (j_ dQ.heap.size) 3 3] (Q.alloc _) (by simp[Value.oneCell']) ?_;intro r aB h);have D:Bk (dQ.alloc (.cells #[.string wq,n_,.slice d8 nm cm,.string p4,.slice (j_ aC) 2 2,.slice eN fq eR,.string pD,.slice (j_ xg) 1 1,.slice dZ ft d0] 213)) dQ.heap.size 213 #[.string wq,n_,.slice d8 nm cm,.string p4,.slice (j_ aC) 2 2,.slice eN fq eR,.string pD,.slice (j_ xg) 1 1,.slice dZ ft d0]:=P_ dQ 213 _;have g5:dQ.heap.size<=r.heap.size:=by have:=h.size;simp at this;omega
 have dr:w.heap.size<=b1:=X;have du:=(F_ [] dQ).alloc (.cells #[.string wq,n_,.slice d8 nm cm,.string p4,.slice (j_ aC) 2 2,.slice eN fq eR,.string pD,.slice (j_ xg) 1 1,.slice dZ ft d0] 213);have bn:Sl r 213 3 (j_ dQ.heap.size) 3 ([(⟨wq,none,0,[],d8,cm,bm⟩:FT),⟨p4,some (Z aC 0),2,[ph,Cw],eN,eR,bx++us⟩,⟨pD,some (Z xg 0),1,[nc],dZ,d0,([i3 oL a1 (jy nc)]++aF)⟩].flatMap FT.E):=by
  have:=jh (n:=3) (s:=3) (D.gr h p_) rfl;rw[e3.out,fX.out,fY.out]at this;exact this
 refine rr_ #[.slice (j_ dQ.heap.size) 3 3] aB underlying150 ⟨dQ.heap.size,⟨wq,none,0,[],d8,cm,bm⟩,⟨p4,some (Z aC 0),2,[ph,Cw],eN,eR,bx++us⟩,⟨pD,some (Z xg 0),1,[nc],dZ,d0,([i3 oL a1 (jy nc)]++aF)⟩,rfl,bn,?_,?_,?_,⟨rfl,rfl,gf⟩,⟨rfl,rfl,?_⟩,⟨rfl,rfl,?_⟩,(z.hF du).ih h p_,(U.alloc _).hI h p_⟩;exact((fE.iy du H).iy h p_).wide dr X;exact((eS.iy du H).iy h p_).wide dr X;exact((fD.iy du H).iy h p_).wide X X;refine⟨?_,eO+1,gi,ov e5.1,by rw[I_,gy];have:=e5.2.1;omega⟩;obtain⟨cp,ew,ls,bK,bj,k3⟩:=e5.2.2.1;exact⟨cp,ew,ls++us,by rw[bK];simp,bj,k3⟩;exact⟨i3 oL a1 (jy nc),ss,ts,1+(8+N),by rw[di.out];rfl,rfl,rfl,eK,fa,gj,X,by rw[gu];omega⟩
