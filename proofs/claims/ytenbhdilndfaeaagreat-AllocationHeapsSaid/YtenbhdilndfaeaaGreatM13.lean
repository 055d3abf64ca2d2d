import Derived.Test.YtenbhdilndfaeaaGreatM02
import Derived.Test.YtenbhdilndfaeaaGreatM07
import Derived.Maps.AppendAt
set_option maxRecDepth 100000
set_option maxHeartbeats 0
set_option linter.all false
namespace Go.Proofs.YtenbhdilndfaeaaGreat
open Go.RowKit Go.Proofs.Tryz
variable{G:Prop}{P:Program}{Q:Exit->Act->World->Prop}{an g:Nat}{t:TypeId}{cs:Array Value}{ay:Option Addr}{v:Vl}
theorem Ky(h:G:=by
 cases Y:v.r with
 |true=>
  exact KC
 |false=>
  exact KC):G:=h
theorem KB(h:G:=by
 have c:=h_ Y;rw[Y]at i;clear Y
 have O:Hid (hK x.p=(({P with hF:=true}:X1).p,v.n,(a.fs.length:Int))):=h_ (by
  rw[ld j.out,<-az.out];have aL:=s.out.symm;have bY:=HG.out;rw[aL,aB.out];unfold iv;rw[bY];have a6:=q.out;simp only[a6,c.out]
  first|rfl|(simp;done)|(simp;rfl))
 clear az s aB HG j q c;exact KE):G:=h
theorem KC(h:G:=by
 have c:=h_ Y;rw[Y]at i;clear Y
 have O:Hid (hK x.p=(({P with hF:=true}:X1).p,v.n,0)):=h_ (by
  rw[ld j.out,<-az.out];have aL:=s.out.symm;have bY:=HG.out;rw[aL,aB.out];unfold iv;rw[bY];have a6:=q.out;simp only[a6,c.out]
  first|rfl|(simp;done)|(simp;rfl))
 clear az s aB HG j q c;have hs:=B.set (x':={P with hF:=true}) 81 (.bool true) rfl rfl rfl rfl rfl rfl rfl rfl;have M:=(D_ [gx] wc).setCell (p:=(c_ gx 81)) (.inl s_) (.bool true);have m:wc.cell? (c_ gx 81)=some (.bool P.hF):=(B.bk.f_ 81).trans rfl;rw[d]at m;clear d;have U:=B.bk.hm 81;have Z:=i.f_ 0;have ah:=i.f_ 1;have aS:=av.f_ 1
 go_upto_region 7 with fail
 have h:=i.h7 (p:=(c_ gx 81)) (Bk.lF i B.bk d_) (.bool true);have W:=av.h7 (p:=(c_ gx 81)) (Bk.lF av B.bk d_) (.bool true);clear Z ah aS m U;obtain⟨Q,f⟩:=nm_ (wc.setCell (c_ gx 81) (.bool true));rw[<-f]at hs h W M |-;clear f;refine hC (λw'=>w'.cell? (c_ ay 1)=some (i_ v.n)/\w'.cell? (c_ z 1)=some (.slice aR 0 c4)) 7 k_ ?_;exact KT):G:=h
theorem KE(h:G:=by
 have hs:=B.set (x':={P with hF:=true}) 81 (.bool true) rfl rfl rfl rfl rfl rfl rfl rfl;have M:=(D_ [gx] wc).setCell (p:=(c_ gx 81)) (.inl s_) (.bool true);have m:wc.cell? (c_ gx 81)=some (.bool P.hF):=(B.bk.f_ 81).trans rfl;rw[d]at m;clear d;have U:=B.bk.hm 81;have Z:=i.f_ 0;have ah:=i.f_ 1;have aS:=av.f_ 1
 go_upto_region 7 with fail
 have h:=i.h7 (p:=(c_ gx 81)) (Bk.lF i B.bk d_) (.bool true);have W:=av.h7 (p:=(c_ gx 81)) (Bk.lF av B.bk d_) (.bool true);clear Z ah aS m U;obtain⟨Q,f⟩:=nm_ (wc.setCell (c_ gx 81) (.bool true));exact Hh):G:=h
theorem Hh(h:G:=by
 rw[<-f]at hs h W M |-;clear f;refine hC (λw'=>w'.cell? (c_ ay 1)=some (i_ v.n)/\w'.cell? (c_ z 1)=some (.slice aR a.fs.length c4)) 7 k_ ?_;exact KT):G:=h
theorem KS(h:G:=by
 refine rn_ ?_;have hs:=g.set (x':={x with hF:=true}) 81 (.bool true) rfl rfl rfl rfl rfl rfl rfl rfl;exact Jm):G:=h
theorem KT(h:G:=by
 refine nc ⟨h.drew.f_ 1,W.drew.f_ 1⟩ λC=>?_
 (repeat refine jR C ?_)
 refine hA k_ ?_ _;go_wp2
 go_ret2
 rw[O.out];exact⟨_,rfl,hs.g_ ((D_ [] Q).drew),rfl,(aH.ig M).g_ ((D_ [] Q).drew)⟩):G:=h
theorem IA(h:G:=by
 intro y fz he;have aU:w'.heap[gx]?=some (.cells x.g8 186 (0,0)):=c;rw[aU]at he;injection he with he;injection he with _ he _;exact D6 he d_):G:=h
theorem IN(h:G:=by
 go_wp2;go_roundw
 case rel=>exact⟨k+1,by omega,by go_num,by rw[aR.out,aW.out],A.trans m⟩
 case measure=>simp[intOf];omega):G:=h
theorem IV(h:G:=by
 have aU:w.heap[g]?=some (.cells cs t (0,0)):=hk;rw[aU]at hc;injection hc with hc;injection hc with _ hc _;exact av hc):G:=h
theorem IZ(h:G:=by
 intro he;obtain⟨_,cur,hc⟩:=aq gx he;rw[i]at hc;injection hc with hc;injection hc with _ hc _;exact D6 hc d_):G:=h
theorem Jm(h:G:=by
 exact⟨_,rfl,hs,O.out,((XG.refl gx w).g_ (hg1.alloc _)).ig ((D_ [gx] _).setCell (.inl s_) _)⟩):G:=h
theorem JB(h:G:=by
 rw[hv]at f
 have:j=g:=by simpa[Value.ownBlock]using f
 subst this;exact⟨d,cur,aB⟩):G:=h
theorem JD(h:G:=by
 rw[hv]at f
 have:j=g:=by simpa[Value.ownBlock]using f
 subst this;exact⟨cur,aB⟩):G:=h
theorem JR(h:G:=by
 rw[hv]at f
 have:j=g:=by simpa[Value.ownBlock]using f
 subst this;exact jE aB):G:=h
theorem JU(h:G:=by
 exact λr hr=>⟨Sl.ig (Sl.xg (h.nr r hr).1 h.bk aH) c d_ M,(h.nr r hr).2⟩):G:=h
theorem J6(h:G:=by
 go_enter func162,ntmps162
 go_wp2;go_ret;exact⟨iq (by rw[O.out]),J⟩):G:=h
section
theorem tO{w:World}{ops:Array Oper}{o:Oper}{a:Act}{K:Act->World->Prop}{E:Prop}(ap:o.guard=none)(s x:Operand)(t:TypeId)(ho:o.op=.call {callee:=.builtin .append,args:=#[s,x],argTypes:=#[t,t]})(base:Nat)(e:TypeId)(i:TypeInfo)(z:Value)(size bytes:Nat)(X:P.underlying t=some (.slice e))(hi:P.info? e=some i)(hz:i.zero=some z)(C:i.size=size)(y:i.bytes=bytes)(D:z.cells.size=size)(au:0<size)(L:0<bytes)(v:Value)(n:Nat)(xs:List Value)(hs:a.eval s=v)(ao:w.ownsRow base e size v n xs)(d:Addr)(m c:Nat)(news:List Value)(I:a.eval x=.slice (some d) m c)(hl:news.length=m*size)(k:∀j u,news[j]?=some u->w.cell? (d.add j)=some u)(h1:∀u∈news,u.oneCell'=true)(Y:0<m)(f:(n+m)*bytes<=140737488355328)(aL:base<=w.heap.size)(h:∀(A':Option Addr) (c':Nat) (w':World),w'.ownsRow base e size (.slice A' (n+m) c') (n+m) (xs++news)->w.grownBy w' v.ownBlock->((Value.slice A' (n+m) c').ownBlock=v.ownBlock∨(Value.slice A' (n+m) c').ownBlock=some w.heap.size)->K (a.put o.dst (.slice A' (n+m) c')) w'):
 if Region.wanted o (yielded ops a.tmps)=true then Oper.wp P o a w K Q else E:=by
 have aK:Region.wanted o (yielded ops a.tmps)=true:=by simp[Region.wanted,ap]
 rw[Q_ aK]
 have l:n+m<=maxLen:=by
  have:n+m<=(n+m)*bytes:=Fq _ L
  simp only[maxLen];omega
 obtain⟨v',w',H,h2,h3,_,ax⟩:=run_append_own_at (P:=P) w base t o.type e i z size bytes X hi hz C y D au v n xs ao d m c news hl k h1 l f aL;have hf:∃A' c',v'=.slice A' (n+m) c':=I7;obtain⟨A',c',rfl⟩:=hf;unfold Oper.wp execOp;simp only[ho,resolve,invoke,builtin,Sem.run_bind,Sem.run_pure,Result.andThen_ok,Fu,E1,Ff,hs,I,H];exact h A' c' w' h2 h3 ax
structure XG(gx:Nat)(w w':World):Prop where
 ir:∀g t cs,w.heap[g]?=some (.cells cs t (0,0))->t≠116->g≠gx->w'.heap[g]?=some (.cells cs t (0,0))
 vn:∀g t cs fz,w.heap[g]?=some (.cells cs t fz)->t≠116->g≠gx->w'.heap[g]?=some (.cells cs t fz)
 size:w.heap.size<=w'.heap.size
theorem XG.refl(gx:Nat)(w:World):XG gx w w:=⟨λ_ _ _ h _ _=>h,λ_ _ _ _ h _ _=>h,G_ _⟩
theorem XG.trans{gx:Nat}{a b c:World}(h:XG gx a b)(k:XG gx b c):XG gx a c:=
 ⟨λg t cs h1 h2 h3=>k.ir g t cs (h.ir g t cs h1 h2 h3) h2 h3,λg t cs fz h1 h2 h3=>k.vn g t cs fz (h.vn g t cs fz h1 h2 h3) h2 h3,F_ h.size k.size⟩
theorem jE{w:World}{o:Obj}(h:w.heap[g]?=some o):g<w.heap.size:=by
 rcases D5 g w.heap.size with h1|h1
 .exact h1
 .rw[Y_ h1]at h
  cases h
theorem XG.vd{gx:Nat}{w w':World}(h:Gr [gx] w w'):XG gx w w':=
 ⟨λg t cs h1 _ h3=>(h.block g (jE h1) (by simpa using h3)).trans h1,λg t cs fz h1 _ h3=>(h.block g (jE h1) (by simpa using h3)).trans h1,h.size⟩
theorem XG.g_{gx:Nat}{a w w':World}(h:XG gx a w)(k:Gr [] w w'):XG gx a w':=h.trans (XG.vd (k.of_nil _))
theorem XG.ig{gx:Nat}{a w w':World}(h:XG gx a w)(k:Gr [gx] w w'):XG gx a w':=h.trans (XG.vd k)
theorem Bk.xg{gx:Nat}{w w':World}(h:Bk w g t cs)(k:XG gx w w')(av:g≠gx)(X:t≠116:=by decide):Bk w' g t cs:=k.ir g t cs h X av
theorem Sl.xg{gx:Nat}{w w':World}{e:TypeId}{size:Nat}{A:Option Addr}{n:Nat}{xs:List Value}{a:Array Value}(h:Sl w e size A n xs)(I:Bk w gx 186 a)(k:XG gx w w')(hc:e≠116:=by decide)(ho:e≠186:=by decide):Sl w' e size A n xs:=
 ⟨h.1,λhn=>by
   obtain⟨b,off,cs,fz,U,hb,d⟩:=h.2 hn
   have av:b≠gx:=by
    intro he;subst he;have h2:w.heap[b]?=some (.cells a 186 (0,0)):=I;rw[h2]at hb;injection hb with hb;injection hb with _ hb _;exact ho hb.symm
   exact⟨b,off,cs,fz,U,k.vn b e cs fz hb hc av,d⟩⟩
def Sv.val(s:Sv Cl):Value:=.slice s.A s.l.length s.c
structure ke(b w:World)(gx:Nat)(x:X1):Prop where
 bk:Bk w gx 186 x.g8
 gr:Gr [gx] b w
 bx:∃cs,Bk b gx 186 cs
 jd:Is b x.jd.A x.jd.l
 h:l5 b x.h.A x.h.c x.h.l
 rs:w.ownsRow b.heap.size 116 4 x.e.rs.val x.e.rs.l.length (x.e.rs.l.flatMap Cl.E)
 ws:w.ownsRow b.heap.size 116 4 x.e.ws.val x.e.ws.l.length (x.e.ws.l.flatMap Cl.E)
 ne:∀g,x.e.rs.val.ownBlock=some g->x.e.ws.val.ownBlock≠some g
 nw:Os w x.e.nw.A x.e.nw.l
 nr:mW w x.e.nw.l
 ds:Ds w x.e.ds.A x.e.ds.l
 hU:As w x.e.hU.A x.e.hU.l
 sO:x.e.nw.ok
 rL:x.e.ds.ok
 px:x.e.hU.ok
 il:x.jd.l.length<=1000000000
 hl:x.h.l.length<=1000000000
variable{b w w':World}{gx:Nat}{x:X1}
theorem ke.CM(h:ke b w gx x):Is w x.jd.A x.jd.l:=by
 obtain⟨cs,hb⟩:=h.bx;exact Sl.ig h.jd hb d_ h.gr
theorem ke.kb(h:ke b w gx x):l5 w x.h.A x.h.c x.h.l:=by
 obtain⟨cs,hb⟩:=h.bx;exact h.h.ig hb d_ d_ h.gr
theorem ke.lt(h:ke b w gx x):gx<b.heap.size:=by
 obtain⟨cs,hb⟩:=h.bx;exact hb.lt
theorem ke.g_(h:ke b w gx x)(k:Gr [] w w'):ke b w' gx x:=
 ⟨h.bk.g_ k,h.gr.trans (k.of_nil _),h.bx,h.jd,h.h,iu h.rs k,iu h.ws k,h.ne,h.nw.g_ k,h.nr.g_ k,h.ds.g_ k,h.hU.g_ k,h.sO,h.rL,h.px,h.il,h.hl⟩
theorem ke.rI{x':X1}(h:ke b w gx x)(k:Gr [gx] w w')(hb:Bk w' gx 186 x'.g8)(h1:x'.jd=x.jd)(h2:x'.h=x.h)(h3:x'.e.rs=x.e.rs)(aw:x'.e.ws=x.e.ws)(ax:x'.e.nw=x.e.nw)(aY:x'.e.ds=x.e.ds)(bA:x'.e.hU=x.e.hU):ke b w' gx x':=by
 refine⟨hb,h.gr.trans k,h.bx,by rw[h1];exact h.jd,by rw[h2];exact h.h,?_,?_,by rw[h3,aw];exact h.ne,?_,?_,?_,?_,by rw[ax];exact h.sO,by rw[aY];exact h.rL,by rw[bA];exact h.px,by rw[h1];exact h.il,by rw[h2];exact h.hl⟩
 .rw[h3];exact kx (x:=gx) h.rs (λy fz he=>by have aU:w.heap[gx]?=some (.cells x.g8 186 (0,0)):=h.bk;rw[aU]at he;injection he with he;injection he with _ he _;exact D6 he d_) k
 .rw[aw];exact kx (x:=gx) h.ws (λy fz he=>by have aU:w.heap[gx]?=some (.cells x.g8 186 (0,0)):=h.bk;rw[aU]at he;injection he with he;injection he with _ he _;exact D6 he d_) k
 .rw[ax];exact Sl.ig h.nw h.bk d_ k
 .rw[ax];exact h.nr.ig h.bk d_ k
 .rw[aY];exact Sl.ig h.ds h.bk d_ k
 .rw[bA];exact Sl.ig h.hU h.bk d_ k
theorem ke.set{x':X1}(h:ke b w gx x)(i:Nat)(u:Value)(hc:x'.g8=x.g8.setIfInBounds i u)(h1:x'.jd=x.jd)(h2:x'.h=x.h)(h3:x'.e.rs=x.e.rs)(aw:x'.e.ws=x.e.ws)(ax:x'.e.nw=x.e.nw)(aY:x'.e.ds=x.e.ds)(bA:x'.e.hU=x.e.hU):ke b (w.setCell (c_ gx i) u) gx x':=
 h.rI ((D_ [gx] w).setCell (p:=(c_ gx i)) (.inl s_) u) (by rw[hc];exact h.bk.hJ i u) h1 h2 h3 aw ax aY bA
def kE(v:Value)(P:XP)(b:World)(gx:Nat)(w:World)(e:Ending)(w':World):Prop:=∃x':X1,e=.returned v/\ke b w' gx x'/\x'.p=P/\XG gx w w'
theorem rJ{b w:World}{gx:Nat}{x:X1}(h:ke b w gx x)(v:Array Value):∃W g,w.alloc (.cells v 189)=W/\w.heap.size=g/\ke b W gx x/\Bk W g 189 v/\XG gx w W/\g≠gx:=⟨_,_,rfl,rfl,h.g_ ((D_ [] w).alloc _),L_ w 189 v,(XG.refl gx w).g_ ((D_ [] w).alloc _),by have:=h.bk.lt;omega⟩
end
theorem oH(A:Option Addr)(c:Nat)(l:List In)(hq g9 n:Int)(w:World)(h:Is w A l)(hn:l.length<=1000000000):
 Calls prog 162 #[.agg #[.slice A l.length c,i_ hq,i_ g9],i_ n] w λe w'=>e=.returned (.bool (iX l n))/\Gr [] w w':=by
 have J:=(D_ [] w).alloc (.cells #[.slice A l.length c,i_ hq,i_ g9] 26);have hB:=L_ w 26 #[.slice A l.length c,i_ hq,i_ g9];have z0:=hB.f_ 0
 by_cases aP:0<=n
 .by_cases av:n<(l.length:Int)
  .obtain⟨k,rfl⟩:∃k:Nat,n=k:=⟨n.toNat,by omega⟩
   have hk:k<l.length:=by omega
   have O:=h_ (show iX l (k:Int)=(l[k].op==21) by unfold iX;simp[hk]);obtain⟨bv,off,rfl,bj,be,bJ,bU,bu⟩:=(h.g_ J).at_ hk;clear be bJ bU bu;generalize l[k].op=q at*;generalize l.length=n at*;exact J6
  .have O:=h_ (show iX l n=false by unfold iX;simp[av])
   have bf:(n<(l.length:Int))=False:=by simp;omega
   clear av;exact J6
 .have O:=h_ (show iX l n=false by unfold iX;simp[aP])
  have bf:(0<=n)=False:=by simp;omega
  clear aP;exact J6
theorem qr(b w:World)(gx:Nat)(x:X1)(L:ke b w gx x):
 Calls prog 116 #[q_ gx] w (kE (.tuple #[]) (iA x.p) b gx w):=by
 have af:w.cell? (c_ gx 36)=some (.slice x.h.A x.h.l.length x.h.c):=(L.bk.f_ 36).trans rfl
 cases d:x.hF with
 |true=>
  have aW:x.g8[81]?=some (.bool true):=by rw[<-d];rfl
  have O:Hid (({x with hF:=true}:X1).p=iA x.p):=h_ (by show _=iA x.p;unfold iA;have e:x.p.hF=true:=d;rw[e];rfl)
  cases hg:jn (hN x.h.l) 1 with
  |none=>
   go_enter func116,ntmps116
   go_wp2_with (go_at_call 14;((with_reducible refine(get_none x.h.A x.h.c x.h.l 1 _ L.kb.os L.hl hg).mono ?_);rintro e w1⟨rfl,hg1⟩;have g:=L.g_ (hg1.alloc (.cells #[i_ 0,n_] 56));have hL:=L_ w1 56 #[i_ 0,n_];have ah:=hL.f_ 1;have m:(w1.alloc (.cells #[i_ 0,n_] 56)).cell? (c_ gx 81)=some (.bool true):=(g.bk.f_ 81).trans aW;have U:=g.bk.hm 81))
   exact KS
  |some o=>
   go_enter func116,ntmps116
   go_wp2_with (go_at_call 14;((with_reducible refine(get_some x.h.A x.h.c x.h.l 1 o _ L.kb.os L.kb.la L.hl hg).mono ?_);rintro e w1⟨A1,c1,rfl,i,hg1⟩;have g:=L.g_ (hg1.alloc (.cells #[i_ o.id,.slice A1 o.fs.length c1] 56));have hL:=L_ w1 56 #[i_ o.id,.slice A1 o.fs.length c1];have ah:=hL.f_ 1;have m:(w1.alloc (.cells #[i_ o.id,.slice A1 o.fs.length c1] 56)).cell? (c_ gx 81)=some (.bool true):=(g.bk.f_ 81).trans aW;have U:=g.bk.hm 81))
   exact KS
 |false=>
  have aW:x.g8[81]?=some (.bool false):=by rw[<-d];rfl
  cases hg:jn (hN x.h.l) 1 with
  |none=>
   have O:Hid (({x with hF:=true}:X1).p=iA x.p):=h_ (by show _=iA x.p;unfold iA;have e:x.p.hF=false:=d;have aL:jn x.p.h 1=none:=hg;rw[e,aL];rfl)
   go_enter func116,ntmps116
   go_wp2_with (go_at_call 14;((with_reducible refine(get_none x.h.A x.h.c x.h.l 1 _ L.kb.os L.hl hg).mono ?_);rintro e w1⟨rfl,hg1⟩;have g:=L.g_ (hg1.alloc (.cells #[i_ 0,n_] 56));have hL:=L_ w1 56 #[i_ 0,n_];have ah:=hL.f_ 1;have m:(w1.alloc (.cells #[i_ 0,n_] 56)).cell? (c_ gx 81)=some (.bool false):=(g.bk.f_ 81).trans aW;have U:=g.bk.hm 81))
   exact KS
  |some o=>
   by_cases hl:(o.fs.length:Int)<3
   .have O:Hid (({x with hF:=true}:X1).p=iA x.p):=h_ (by show _=iA x.p;unfold iA;have e:x.p.hF=false:=d;have aL:jn x.p.h 1=some o:=hg;rw[e,aL];simp[hl];rfl)
    have q:((o.fs.length:Int)<3)=True:=by simp[hl]
    clear hl
    go_enter func116,ntmps116
    go_wp2_with (go_at_call 14;((with_reducible refine(get_some x.h.A x.h.c x.h.l 1 o _ L.kb.os L.kb.la L.hl hg).mono ?_);rintro e w1⟨A1,c1,rfl,i,hg1⟩;have g:=L.g_ (hg1.alloc (.cells #[i_ o.id,.slice A1 o.fs.length c1] 56));have hL:=L_ w1 56 #[i_ o.id,.slice A1 o.fs.length c1];have ah:=hL.f_ 1;have m:(w1.alloc (.cells #[i_ o.id,.slice A1 o.fs.length c1] 56)).cell? (c_ gx 81)=some (.bool false):=(g.bk.f_ 81).trans aW;have U:=g.bk.hm 81))
    exact KS
   .have O:Hid (({x with hF:=false}:X1).p=iA x.p):=h_ (by show _=iA x.p;unfold iA;have e:x.p.hF=false:=d;have aL:jn x.p.h 1=some o:=hg;rw[e,aL];simp[hl];rfl)
    have q:((o.fs.length:Int)<3)=False:=by simp[hl]
    clear hl
    go_enter func116,ntmps116
    go_wp2_with (go_at_call 14;((with_reducible refine(get_some x.h.A x.h.c x.h.l 1 o _ L.kb.os L.kb.la L.hl hg).mono ?_);rintro e w1⟨A1,c1,rfl,i,hg1⟩;have g:=L.g_ (hg1.alloc (.cells #[i_ o.id,.slice A1 o.fs.length c1] 56));have hL:=L_ w1 56 #[i_ o.id,.slice A1 o.fs.length c1];have ah:=hL.f_ 1;have m:(w1.alloc (.cells #[i_ o.id,.slice A1 o.fs.length c1] 56)).cell? (c_ gx 81)=some (.bool false):=(g.bk.f_ 81).trans aW;have U:=g.bk.hm 81))
    refine rn_ ?_;have hs:=g.set (x':={x with hF:=false}) 81 (.bool false) rfl rfl rfl rfl rfl rfl rfl rfl;exact Jm
theorem ke.Cd{b w w':World}{gx:Nat}{x:X1}(h:ke b w gx x)(a:Cl)(ao:w'.ownsRow b.heap.size 116 4 (.slice ay (x.e.ws.l.length+1) an) (x.e.ws.l.length+1) (x.e.ws.l.flatMap Cl.E++Cl.E a))(hg:w.grownBy w' x.e.ws.val.ownBlock)(hb:(Value.slice ay (x.e.ws.l.length+1) an).ownBlock=x.e.ws.val.ownBlock∨(Value.slice ay (x.e.ws.l.length+1) an).ownBlock=some w.heap.size):
 ke b (w'.setCell (c_ gx 73) (.slice ay (x.e.ws.l.length+1) an)) gx ({x with e:={x.e with ws:=⟨ay,an,x.e.ws.l++[a]⟩}}:X1)/\XG gx w (w'.setCell (c_ gx 73) (.slice ay (x.e.ws.l.length+1) an)):=by
 have hl1:(x.e.ws.l++[a]).length=x.e.ws.l.length+1:=by simp
 have aq:∀g,x.e.ws.val.ownBlock=some g->b.heap.size<=g/\∃cur,w.heap[g]?=some (.cells cur 116 (0,0)):=by
  intro g f
  rcases h.ws.2 with⟨hv,_⟩|⟨j,kX,cur,hv,d,aB,_⟩
  .rw[hv]at f
   cases f
  .exact JB
 have l:∀g,x.e.rs.val.ownBlock=some g->g<w.heap.size:=by
  intro g f
  rcases h.rs.2 with⟨hv,_⟩|⟨j,kX,cur,hv,d,aB,_⟩
  .rw[hv]at f
   cases f
  .exact JR
 have i:w.heap[gx]?=some (.cells x.g8 186 (0,0)):=h.bk;have m:x.e.ws.val.ownBlock≠some gx:=IZ;have c:Bk w' gx 186 x.g8:=(hg.block gx (jE i) (Ne.symm m)).trans i
 have aH:XG gx w w':=⟨λg t cs h1 h2 h3=>(hg.block g (jE h1) (λhe=>by
  obtain⟨_,cur,hc⟩:=aq g he.symm;rw[h1]at hc;injection hc with hc;injection hc with _ hc _
  exact h2 hc)).trans h1,λg t cs fz h1 h2 h3=>(hg.block g (jE h1) (λhe=>by
  obtain⟨_,cur,hc⟩:=aq g he.symm;rw[h1]at hc;injection hc with hc;injection hc with _ hc _
  exact h2 hc)).trans h1,hg.size⟩
 have M:=(D_ [gx] w').setCell (p:=(c_ gx 73)) (.inl s_) (.slice ay (x.e.ws.l.length+1) an);have n:∀y fz,w'.heap[gx]?≠some (.cells y 116 fz):=IA
 have ho:w'.ownsRow b.heap.size 116 4 x.e.rs.val x.e.rs.l.length (x.e.rs.l.flatMap Cl.E):=by
  refine h.rs.kept hg ?_
  rcases h.rs.2 with⟨hv,_⟩|⟨j,kX,cur,hv,_⟩
  .exact .inl (by rw[hv];rfl)
  .right;rw[hv];intro he
   have aJ:x.e.rs.val.ownBlock=some j:=by rw[hv];rfl
   have h10:x.e.ws.val.ownBlock=some j:=he.symm.trans rfl;exact h.ne j aJ h10
 refine⟨⟨?_,(h.gr.grown hg (λk hk=>.inr (aq k hk).1)).trans M,h.bx,h.jd,h.h,?_,?_,?_,?_,?_,?_,?_,h.sO,h.rL,h.px,h.il,h.hl⟩,aH.ig M⟩
 .have e:({x with e:={x.e with ws:=⟨ay,an,x.e.ws.l++[a]⟩}}:X1).g8=x.g8.setIfInBounds 73 (.slice ay (x.e.ws.l.length+1) an):=by rw[<-hl1];rfl
  rw[e];exact c.hJ 73 _
 .exact kx (x:=gx) ho n M
 .show World.ownsRow _ _ _ _ (.slice ay (x.e.ws.l++[a]).length an) (x.e.ws.l++[a]).length ((x.e.ws.l++[a]).flatMap Cl.E)
  rw[hl1,Ej]
  simpa using kx (x:=gx) ao n M
 .intro g h1 h2
  rcases hb with hb|hb
  .exact h.ne g h1 (by rw[<-hb,<-hl1];exact h2)
  .have h3:=h2;unfold Sv.val at h3;simp only at h3;rw[hl1,hb]at h3;injection h3 with h3
   have:=l g h1
   omega
 .exact Sl.ig (Sl.xg h.nw h.bk aH) c d_ M
 .exact JU
 .exact Sl.ig (Sl.xg h.ds h.bk aH) c d_ M
 .exact Sl.ig (Sl.xg h.hU h.bk aH) c d_ M
theorem ke.Ce{b w w':World}{gx:Nat}{x:X1}(h:ke b w gx x)(a:Cl)(ao:w'.ownsRow b.heap.size 116 4 (.slice ay (x.e.rs.l.length+1) an) (x.e.rs.l.length+1) (x.e.rs.l.flatMap Cl.E++Cl.E a))(hg:w.grownBy w' x.e.rs.val.ownBlock)(hb:(Value.slice ay (x.e.rs.l.length+1) an).ownBlock=x.e.rs.val.ownBlock∨(Value.slice ay (x.e.rs.l.length+1) an).ownBlock=some w.heap.size):
 ke b (w'.setCell (c_ gx 72) (.slice ay (x.e.rs.l.length+1) an)) gx ({x with e:={x.e with rs:=⟨ay,an,x.e.rs.l++[a]⟩}}:X1)/\XG gx w (w'.setCell (c_ gx 72) (.slice ay (x.e.rs.l.length+1) an)):=by
 have hl1:(x.e.rs.l++[a]).length=x.e.rs.l.length+1:=by simp
 have aq:∀g,x.e.rs.val.ownBlock=some g->b.heap.size<=g/\∃cur,w.heap[g]?=some (.cells cur 116 (0,0)):=by
  intro g f
  rcases h.rs.2 with⟨hv,_⟩|⟨j,kX,cur,hv,d,aB,_⟩
  .rw[hv]at f
   cases f
  .exact JB
 have l:∀g,x.e.ws.val.ownBlock=some g->g<w.heap.size:=by
  intro g f
  rcases h.ws.2 with⟨hv,_⟩|⟨j,kX,cur,hv,d,aB,_⟩
  .rw[hv]at f
   cases f
  .exact JR
 have i:w.heap[gx]?=some (.cells x.g8 186 (0,0)):=h.bk;have m:x.e.rs.val.ownBlock≠some gx:=IZ;have c:Bk w' gx 186 x.g8:=(hg.block gx (jE i) (Ne.symm m)).trans i
 have aH:XG gx w w':=⟨λg t cs h1 h2 h3=>(hg.block g (jE h1) (λhe=>by
  obtain⟨_,cur,hc⟩:=aq g he.symm;rw[h1]at hc;injection hc with hc;injection hc with _ hc _
  exact h2 hc)).trans h1,λg t cs fz h1 h2 h3=>(hg.block g (jE h1) (λhe=>by
  obtain⟨_,cur,hc⟩:=aq g he.symm;rw[h1]at hc;injection hc with hc;injection hc with _ hc _
  exact h2 hc)).trans h1,hg.size⟩
 have M:=(D_ [gx] w').setCell (p:=(c_ gx 72)) (.inl s_) (.slice ay (x.e.rs.l.length+1) an);have n:∀y fz,w'.heap[gx]?≠some (.cells y 116 fz):=IA
 have ho:w'.ownsRow b.heap.size 116 4 x.e.ws.val x.e.ws.l.length (x.e.ws.l.flatMap Cl.E):=by
  refine h.ws.kept hg ?_
  rcases h.ws.2 with⟨hv,_⟩|⟨j,kX,cur,hv,_⟩
  .exact .inl (by rw[hv];rfl)
  .right;rw[hv];intro he
   have aJ:x.e.ws.val.ownBlock=some j:=by rw[hv];rfl
   have h10:x.e.rs.val.ownBlock=some j:=he.symm.trans rfl;exact h.ne j h10 aJ
 refine⟨⟨?_,(h.gr.grown hg (λk hk=>.inr (aq k hk).1)).trans M,h.bx,h.jd,h.h,?_,?_,?_,?_,?_,?_,?_,h.sO,h.rL,h.px,h.il,h.hl⟩,aH.ig M⟩
 .have e:({x with e:={x.e with rs:=⟨ay,an,x.e.rs.l++[a]⟩}}:X1).g8=x.g8.setIfInBounds 72 (.slice ay (x.e.rs.l.length+1) an):=by rw[<-hl1];rfl
  rw[e];exact c.hJ 72 _
 .show World.ownsRow _ _ _ _ (.slice ay (x.e.rs.l++[a]).length an) (x.e.rs.l++[a]).length ((x.e.rs.l++[a]).flatMap Cl.E)
  rw[hl1,Ej]
  simpa using kx (x:=gx) ao n M
 .exact kx (x:=gx) ho n M
 .intro g h1 h2
  rcases hb with hb|hb
  .exact h.ne g (by rw[<-hb,<-hl1];exact h1) h2
  .have h3:=h1;unfold Sv.val at h3;simp only at h3;rw[hl1,hb]at h3;injection h3 with h3
   have:=l g h2
   omega
 .exact Sl.ig (Sl.xg h.nw h.bk aH) c d_ M
 .exact JU
 .exact Sl.ig (Sl.xg h.ds h.bk aH) c d_ M
 .exact Sl.ig (Sl.xg h.hU h.bk aH) c d_ M
theorem ke.zn{b w:World}{gx:Nat}{x:X1}(h:ke b w gx x):∀g,x.e.ws.val.ownBlock=some g->∃cur,w.heap[g]?=some (.cells cur 116 (0,0)):=by
 intro g f
 rcases h.ws.2 with⟨hv,_⟩|⟨j,kX,cur,hv,d,aB,_⟩
 .rw[hv]at f
  cases f
 .exact JD
theorem ke.z1{b w w':World}{gx:Nat}{x:X1}(h:ke b w gx x)(hg:w.grownBy w' x.e.ws.val.ownBlock)(hk:Bk w g t cs)(av:t≠116):Bk w' g t cs:=by
 refine(hg.block g hk.lt (λhe=>?_)).trans hk;obtain⟨cur,hc⟩:=h.zn g he.symm;exact IV
theorem ke.A7{b w w':World}{gx:Nat}{x:X1}(h:ke b w gx x)(hg:w.grownBy w' x.e.ws.val.ownBlock):Bk w' gx 186 x.g8:=h.z1 hg h.bk d_
theorem ke.zo{b w:World}{gx:Nat}{x:X1}(h:ke b w gx x):∀g,x.e.rs.val.ownBlock=some g->∃cur,w.heap[g]?=some (.cells cur 116 (0,0)):=by
 intro g f
 rcases h.rs.2 with⟨hv,_⟩|⟨j,kX,cur,hv,d,aB,_⟩
 .rw[hv]at f
  cases f
 .exact JD
theorem ke.wJ{b w w':World}{gx:Nat}{x:X1}(h:ke b w gx x)(hg:w.grownBy w' x.e.rs.val.ownBlock)(hk:Bk w g t cs)(av:t≠116):Bk w' g t cs:=by
 refine(hg.block g hk.lt (λhe=>?_)).trans hk;obtain⟨cur,hc⟩:=h.zo g he.symm;exact IV
theorem ke.A8{b w w':World}{gx:Nat}{x:X1}(h:ke b w gx x)(hg:w.grownBy w' x.e.rs.val.ownBlock):Bk w' gx 186 x.g8:=h.wJ hg h.bk d_
theorem jT(b w:World)(gx:Nat)(x:X1)(id f:Int)(v:Vl)(L:ke b w gx x)(hn:x.e.ws.l.length<=1000000):
 Calls prog 163 #[q_ gx,i_ id,i_ f,.agg (V_ v)] w (kE (.tuple #[]) (hY x.p id f v) b gx w):=by
 obtain⟨bz,bw,br,bi,bf⟩:=info_parts infoCl;have aq:=L_ w 38 (V_ v);have aI:=(D_ [] w).alloc (.cells (V_ v) 38);have g:=L.g_ aI
 go_enter func163,ntmps163
 go_upto_region 1 with fail
 obtain⟨R,I⟩:=nm_ (w.alloc (.cells (V_ v) 38));rw[<-I]at aq aI g |-;clear I;have ap:Gr [] R R.drew:=(D_ [] R).drew;refine hC (λw'=>w'.cell? (c_ gx 73)=some (.slice x.e.ws.A x.e.ws.l.length x.e.ws.c)/\w'.cell? (c_ w.heap.size 0)=some (.bool v.r)/\w'.cell? (c_ w.heap.size 1)=some (i_ v.n)) 15 k_ ?_
 refine nc ⟨((g.bk.g_ ap).f_ 73).trans rfl,(aq.g_ ap).f_ 0,(aq.g_ ap).f_ 1⟩ λC=>?_
 repeat refine jR C ?_
 refine hQ 10 λK H=>?_
 go_simp;have o:Gr [] R ((R.alloc (.cells #[i_ id,i_ f,.bool v.r,i_ v.n] 116)).drew):=((D_ [] R).alloc _).drew;clear C;have C:((R.alloc (.cells #[i_ id,i_ f,.bool v.r,i_ v.n] 116)).drew).cell? (c_ gx 73)=some (.slice x.e.ws.A x.e.ws.l.length x.e.ws.c)/\((R.alloc (.cells #[i_ id,i_ f,.bool v.r,i_ v.n] 116)).drew).cell? (c_ w.heap.size 0)=some (.bool v.r)/\((R.alloc (.cells #[i_ id,i_ f,.bool v.r,i_ v.n] 116)).drew).cell? (c_ w.heap.size 1)=some (i_ v.n):=⟨((g.bk.g_ o).f_ 73).trans rfl,(aq.g_ o).f_ 0,(aq.g_ o).f_ 1⟩;have D:Bk ((R.alloc (.cells #[i_ id,i_ f,.bool v.r,i_ v.n] 116)).drew) R.heap.size 116 #[i_ id,i_ f,.bool v.r,i_ v.n]:=(L_ R 116 #[i_ id,i_ f,.bool v.r,i_ v.n]).drew;have V:=g.g_ o;obtain⟨bh,bF⟩:=nm_ ((R.alloc (.cells #[i_ id,i_ f,.bool v.r,i_ v.n] 116)).drew);rw[<-bF]at o C D V |-;clear bF;generalize R.heap.size=U at*;obtain⟨d,l,a⟩:=(kC (s:=4) D rfl).nA d_;injection l with l;subst l
 refine hS H C λC=>?_
 clear H K
 refine hQ 11 λK H=>?_
 refine tO rfl (.tmp 13) (.tmp 18) 50 rfl (b.heap.size) 116 bz _ 4 32 underlying50 bw br bi bf rfl d_ d_ (.slice x.e.ws.A x.e.ws.l.length x.e.ws.c) x.e.ws.l.length _ r_ V.ws (c_ U 0) 1 1 (Cl.E ⟨id,f,v⟩) r_ rfl a (by intro u hu;exact pq [⟨id,f,v⟩] u (by simpa using hu)) d_ o_ V.gr.size ?_;intro ay an ai bE S n;obtain⟨P,T⟩:=V.Cd ⟨id,f,v⟩ bE S n;have a8:=V.A7 S;have i:Bk ai w.heap.size 38 (V_ v):=V.z1 S (aq.g_ o) d_;have e:=a8.f_ 73;have c:=a8.hm 73;clear C
 refine hS H ⟨(a8.f_ 73).trans rfl,i.f_ 0,i.f_ 1⟩ λC=>?_
 clear H K
 refine hQ 12 λK H=>?_
 go_simp
 refine hS H C λC=>?_
 clear H K
 refine hQ 13 λK H=>?_
 go_simp
 refine hS H C λC=>?_
 clear H K
 refine hQ 14 λK H=>?_
 go_simp
 refine hS H C λC=>?_
 clear H K
 refine hQ 15 λK H=>?_
 go_simp;refine H.out _ _ (λh=>D6 h d_) ?_;clear H K
 try simp only[a_]
 refine hA k_ ?_ _;go_wp2;refine en_ ?_;exact⟨_,rfl,P,rfl,((XG.refl gx w).g_ (aI.trans o)).trans T⟩
theorem XG.new{gx:Nat}{w ai T:World}(h:XG gx w ai)(k:Gr [g] ai T)(hg:w.heap.size<=g):XG gx w T:=
 ⟨λq t cs h1 h2 h3=>(k.block q (jE (h.ir q t cs h1 h2 h3)) (by have:=jE h1;simp;omega)).trans (h.ir q t cs h1 h2 h3),
  λq t cs fz h1 h2 h3=>(k.block q (jE (h.vn q t cs fz h1 h2 h3)) (by have:=jE h1;simp;omega)).trans (h.vn q t cs fz h1 h2 h3),F_ h.size k.size⟩
theorem Bk.pF{w:World}{e:TypeId}(h:Bk w g t cs)(av:e≠t):∀y fz,w.heap[g]?≠some (.cells y e fz):=ID
theorem ke.late{b w ai T:World}{gx:Nat}{x ao:X1}(h:ke b ai gx ao)(h0:ke b w gx x)(aP:ao.e.nw=x.e.nw)(aL:ao.e.ds=x.e.ds)(bN:ao.e.hU=x.e.hU)(k:Gr [g] ai T)(bC:w.heap.size<=g)(hk:Bk ai g t cs)(X:t≠116)(a:t≠186)(aH:XG gx w T):ke b T gx ao:=by
 have av:gx≠g:=by
  intro he;subst he;have h1:ai.heap[gx]?=some (.cells ao.g8 186 (0,0)):=h.bk;have h2:ai.heap[gx]?=some (.cells cs t (0,0)):=hk;rw[h1]at h2;injection h2 with h2;injection h2 with _ h2 _;exact a h2.symm
 have n:∀y fz,ai.heap[g]?≠some (.cells y 116 fz):=hk.pF (Ne.symm X);refine⟨h.bk.gr k (by simpa using av),h.gr.hx k (λq aq=>Or.inr (by rw[show q=g from by simpa using aq];exact F_ h0.gr.size bC)),h.bx,h.jd,h.h,kx (x:=g) h.rs n k,kx (x:=g) h.ws n k,h.ne,?_,?_,?_,?_,h.sO,h.rL,h.px,h.il,h.hl⟩
 .rw[aP];exact Sl.xg h0.nw h0.bk aH
 .rw[aP]
  exact λr hr=>⟨Sl.xg (h0.nr r hr).1 h0.bk aH,(h0.nr r hr).2⟩
 .rw[aL];exact Sl.xg h0.ds h0.bk aH
 .rw[bN];exact Sl.xg h0.hU h0.bk aH
def mF(P:XP)(v:Vl)(b:World)(gx:Nat)(w:World)(e:Ending)(w':World):Prop:=∃x':X1,e=.returned (.agg (V_ v))/\ke b w' gx x'/\x'.p=P/\XG gx w w'
theorem u_(b w:World)(gx:Nat)(x:X1)(id f:Int)(L:ke b w gx x)(hn:x.e.rs.l.length<=1000000)(hr:ji (hN x.h.l) id f=none):
 Calls prog 118 #[q_ gx,i_ id,i_ f] w (mF (hM x.p id f).1 (hM x.p id f).2 b gx w):=by
 have r:=h_ hr;have O:Hid (hM x.p id f=({x.p with hF:=true},default)):=h_ (by unfold hM;have e:ji x.p.h id f=none:=hr;rw[e]);clear hr;have aI:=(D_ [] w).alloc (.cells #[.bool false,i_ 0] 38);have hR:=L_ w 38 #[.bool false,i_ 0];have g:=L.g_ aI
 go_enter func118,ntmps118
 go_upto_region 1 with fail
 obtain⟨R,I⟩:=nm_ (w.alloc (.cells #[.bool false,i_ 0] 38));rw[<-I]at hR aI g |-;clear I;have af:R.cell? (c_ gx 36)=some (.slice x.h.A x.h.l.length x.h.c):=(g.bk.f_ 36).trans rfl
 have z:gx≠w.heap.size:=by have:=L.bk.lt;omega
 go_upto_region 3 with(go_at_call 148;((with_reducible refine(km x.h.A x.h.c x.h.l id f _ g.kb.os g.kb.la L.hl).mono ?_);rintro e w2⟨rfl,ad⟩;rw[r.out];simp only[FQ,FV];have V:=g.g_ (ad.alloc (.cells (V_ (default:Vl)) 38));have bX:=(hR.g_ ad).alloc (.cells (V_ (default:Vl)) 38);have hL:Bk (w2.alloc (.cells (V_ (default:Vl)) 38)) w2.heap.size 38 (V_ (default:Vl)):=L_ w2 38 (V_ (default:Vl));have Q:Gr [] R (w2.alloc (.cells (V_ (default:Vl)) 38)):=ad.alloc _;have am:(w2.alloc (.cells (V_ (default:Vl)) 38)).cell? (c_ gx 72)=some (.slice x.e.rs.A x.e.rs.l.length x.e.rs.c):=(V.bk.f_ 72).trans rfl))
 have m:(w2.alloc (.cells (V_ (default:Vl)) 38)).cell? (c_ gx 81)=some (.bool x.hF):=(V.bk.f_ 81).trans rfl;have U:=V.bk.hm 81;have B:=V.set (x':={x with hF:=true}) 81 (.bool true) rfl rfl rfl rfl rfl rfl rfl rfl;have cr:=bX.h7 (p:=(c_ gx 81)) (Ne.symm z) (.bool true);have Z:=cr.f_ 0;have ah:=cr.f_ 1;have bB:=cr.hm 0;have bH:=cr.hm 1;go_wp2;have q:=(cr.hJ 0 (.bool false)).hJ 1 (i_ 0);have bq:Gr [gx] w ((w2.alloc (.cells (V_ (default:Vl)) 38)).setCell (c_ gx 81) (.bool true)):=(((aI.trans Q).of_nil [gx])).setCell (p:=(c_ gx 81)) (.inl s_) _;have F:=((D_ [w.heap.size] ((w2.alloc (.cells (V_ (default:Vl)) 38)).setCell (c_ gx 81) (.bool true))).setCell (p:=(c_ w.heap.size 0)) (.inl s_) (.bool false)).setCell (p:=(c_ w.heap.size 1)) (.inl s_) (i_ 0);have aH:=(XG.vd bq).new F (G_ _);refine rr_ #[.bool false,i_ 0] q underlying38 ?_;rw[O.out];exact⟨_,rfl,B.late L rfl rfl rfl F (G_ _) cr d_ d_ aH,rfl,aH⟩
theorem xF{x:XP}{id f:Int}(h:ji x.h id f=some v)(hc:0<=cat x.e.rs id f):hM x id f=(x,v):=by
 unfold hM;rw[h];simp[hc]
theorem vU{x:XP}{id f:Int}(h:ji x.h id f=some v)(hc:cat x.e.rs id f= -1):hM x id f=({x with e:={x.e with rs:=x.e.rs++[⟨id,f,v⟩]}},v):=by
 unfold hM;rw[h];simp[hc]
theorem u9(b w:World)(gx:Nat)(x:X1)(id f:Int)(L:ke b w gx x)(hn:x.e.rs.l.length<=1000000)(v:Vl)(hr:ji (hN x.h.l) id f=some v):
 Calls prog 118 #[q_ gx,i_ id,i_ f] w (mF (hM x.p id f).1 (hM x.p id f).2 b gx w):=by
 have r:=h_ hr;have bg:=h_ (show cat x.e.rs.l id f=iO (λc:Cl=>c.id==id&&c.f==f) (x.e.rs.l.drop 0) 0 from rfl);clear hr;obtain⟨bz,bw,br,bi,bf⟩:=info_parts infoCl;have aI:=(D_ [] w).alloc (.cells #[.bool false,i_ 0] 38);have hR:=L_ w 38 #[.bool false,i_ 0];have g:=L.g_ aI
 go_enter func118,ntmps118
 go_upto_region 1 with fail
 obtain⟨R,I⟩:=nm_ (w.alloc (.cells #[.bool false,i_ 0] 38));rw[<-I]at hR aI g |-;clear I;have af:R.cell? (c_ gx 36)=some (.slice x.h.A x.h.l.length x.h.c):=(g.bk.f_ 36).trans rfl
 have z:gx≠w.heap.size:=by have:=L.bk.lt;omega
 go_wp2_with (go_at_call 148;((with_reducible refine(km x.h.A x.h.c x.h.l id f _ g.kb.os g.kb.la L.hl).mono ?_);rintro e w2⟨rfl,ad⟩;rw[r.out];simp only[EW,Fw];have V:=g.g_ (ad.alloc (.cells (V_ v) 38));have bX:=(hR.g_ ad).alloc (.cells (V_ v) 38);have hL:Bk (w2.alloc (.cells (V_ v) 38)) w2.heap.size 38 (V_ v):=L_ w2 38 (V_ v);have Q:Gr [] R (w2.alloc (.cells (V_ v) 38)):=ad.alloc _;have am:(w2.alloc (.cells (V_ v) 38)).cell? (c_ gx 72)=some (.slice x.e.rs.A x.e.rs.l.length x.e.rs.c):=(V.bk.f_ 72).trans rfl))
 have bP:=L;have B:=bX;clear bX hR g af am;obtain⟨bh,bF⟩:=nm_ (w2.alloc (.cells (V_ v) 38));rw[<-bF]at V B hL Q |-;clear bF;clear ad;generalize w2.heap.size=E at*;have ar:=V
 go_loopw [33] (λi wr=>∃k:Nat,k<=x.e.rs.l.length/\i=i_ k/\cat x.e.rs.l id f=iO (λc:Cl=>c.id==id&&c.f==f) (x.e.rs.l.drop k) k/\Gr [] bh wr) (λi _=>x.e.rs.l.length-(intOf i).toNat)
 case atStart=>exact⟨0,N_ _,rfl,bg.out,D_ _ _⟩
 case round=>
  obtain⟨k,hk,rfl,G,A⟩:=hrel;have aR:=h_ G;clear G;replace V:=ar.g_ A;replace hL:=hL.g_ A;replace B:=B.g_ A
  by_cases aj:k<x.e.rs.l.length
  .have aL:(k:Int)<(x.e.rs.l.length:Int):=by omega
   obtain⟨bv,off,aX,bj,be,bJ,bU⟩:=Cs.at_ (Sl.iG V.rs) aj;rw[aX];have a2:=h_ (show x.e.rs.l.drop k=x.e.rs.l[k]::x.e.rs.l.drop (k+1) from X_ aj);have bK:=h_ (λaq:((λc:Cl=>c.id==id&&c.f==f) x.e.rs.l[k]=true)=>lG (λc:Cl=>c.id==id&&c.f==f) x.e.rs.l k k aj aq);have ae:=h_ (λaq:((λc:Cl=>c.id==id&&c.f==f) x.e.rs.l[k]=false)=>ko (λc:Cl=>c.id==id&&c.f==f) x.e.rs.l k k aj aq);generalize x.e.rs.l[k]=y at*;have t:=L_ wr 116 #[i_ y.id,i_ y.f,.bool y.v.r,i_ y.v.n];have m:=(D_ [] wr).alloc (.cells #[i_ y.id,i_ y.f,.bool y.v.r,i_ y.v.n] 116);have z0:=t.f_ 0;have aS:=t.f_ 1
   by_cases t0:y.id=id
   .have bM:(y.id==id)=true:=by simpa using t0
    by_cases t1:y.f=f
    .have bp:(y.f==f)=true:=by simpa using t1
     have aW:=h_ (show 0<=cat x.p.e.rs id f by show 0<=cat x.e.rs.l id f;rw[aR.out,bK.out (by simp[bM,bp])];omega);have O:=h_ (xF (x:=x.p) r.out aW.out);clear t0 t1;have ak:=hL.g_ m;have Z:=ak.f_ 0;have ah:=ak.f_ 1;have j:=B.g_ m;have bV:=j.f_ 0;have r1:=j.f_ 1;have bB:=j.hm 0;have bH:=j.hm 1;go_wp2;have q:=(j.hJ 0 (.bool v.r)).hJ 1 (i_ v.n);have bq:Gr [] w (wr.alloc (.cells #[i_ y.id,i_ y.f,.bool y.v.r,i_ y.v.n] 116)):=((aI.trans Q).trans A).trans m;have F:=((D_ [w.heap.size] (wr.alloc (.cells #[i_ y.id,i_ y.f,.bool y.v.r,i_ y.v.n] 116))).setCell (p:=(c_ w.heap.size 0)) (.inl s_) (.bool v.r)).setCell (p:=(c_ w.heap.size 1)) (.inl s_) (i_ v.n);have aH:=((XG.refl gx w).g_ bq).new F (G_ _);refine rr_ (V_ v) q underlying38 ?_;rw[O.out];exact⟨_,rfl,(V.g_ m).late bP rfl rfl rfl F (G_ _) j d_ d_ aH,rfl,aH⟩
    .have bp:(y.f==f)=false:=by simpa using t1
     have aW:=h_ (ae.out (by simp[bM,bp]));clear t0 t1;exact IN
   .have bM:(y.id==id)=false:=by simpa using t0
    have aW:=h_ (ae.out (by simp[bM]));clear t0;exact IN
  .have aL:¬(k:Int)<(x.e.rs.l.length:Int):=by omega
   have aW:=h_ (show cat x.p.e.rs id f= -1 by show cat x.e.rs.l id f= -1;rw[aR.out,El o_];rfl);have O:=h_ (vU (x:=x.p) r.out aW.out);clear aR bg aW
   go_wp2_with fail
   clear aL;have ap:Gr [] wr wr.drew:=(D_ [] wr).drew;refine hC (λw'=>w'.cell? (c_ gx 72)=some (.slice x.e.rs.A x.e.rs.l.length x.e.rs.c)/\w'.cell? (c_ E 0)=some (.bool v.r)/\w'.cell? (c_ E 1)=some (i_ v.n)) 15 k_ ?_
   refine nc ⟨((V.bk.g_ ap).f_ 72).trans rfl,(hL.g_ ap).f_ 0,(hL.g_ ap).f_ 1⟩ λC=>?_
   repeat refine jR C ?_
   refine hQ 10 λK H=>?_
   go_simp;have o:Gr [] wr ((wr.alloc (.cells #[i_ id,i_ f,.bool v.r,i_ v.n] 116)).drew):=((D_ [] wr).alloc _).drew;clear C;have C:((wr.alloc (.cells #[i_ id,i_ f,.bool v.r,i_ v.n] 116)).drew).cell? (c_ gx 72)=some (.slice x.e.rs.A x.e.rs.l.length x.e.rs.c)/\((wr.alloc (.cells #[i_ id,i_ f,.bool v.r,i_ v.n] 116)).drew).cell? (c_ E 0)=some (.bool v.r)/\((wr.alloc (.cells #[i_ id,i_ f,.bool v.r,i_ v.n] 116)).drew).cell? (c_ E 1)=some (i_ v.n):=⟨((V.bk.g_ o).f_ 72).trans rfl,(hL.g_ o).f_ 0,(hL.g_ o).f_ 1⟩;have D:Bk ((wr.alloc (.cells #[i_ id,i_ f,.bool v.r,i_ v.n] 116)).drew) wr.heap.size 116 #[i_ id,i_ f,.bool v.r,i_ v.n]:=(L_ wr 116 #[i_ id,i_ f,.bool v.r,i_ v.n]).drew;have aZ:=V.g_ o;have bD:=B.g_ o;have ag:=hL.g_ o;obtain⟨a6,N⟩:=nm_ ((wr.alloc (.cells #[i_ id,i_ f,.bool v.r,i_ v.n] 116)).drew);rw[<-N]at o C D aZ bD ag |-;clear N;generalize wr.heap.size=U at*;obtain⟨d,l,a⟩:=(kC (s:=4) D rfl).nA d_;injection l with l;subst l
   refine hS H C λC=>?_
   clear H K
   refine hQ 11 λK H=>?_
   refine tO rfl (.tmp 54) (.tmp 59) 50 rfl (b.heap.size) 116 bz _ 4 32 underlying50 bw br bi bf rfl d_ d_ (.slice x.e.rs.A x.e.rs.l.length x.e.rs.c) x.e.rs.l.length _ r_ aZ.rs (c_ U 0) 1 1 (Cl.E ⟨id,f,v⟩) r_ rfl a (by intro u hu;exact pq [⟨id,f,v⟩] u (by simpa using hu)) d_ o_ aZ.gr.size ?_;intro ay an ai bE S n;obtain⟨P,T⟩:=aZ.Ce ⟨id,f,v⟩ bE S n;have a8:=aZ.A8 S;have J:=aZ.wJ S ag d_;have cr:=aZ.wJ S bD d_;have av:=a8.f_ 72;have ao:=a8.hm 72;clear C
   refine hS H ⟨(a8.f_ 72).trans rfl,J.f_ 0,J.f_ 1⟩ λC=>?_
   clear H K
   refine hQ 12 λK H=>?_
   go_simp
   refine hS H C λC=>?_
   clear H K
   refine hQ 13 λK H=>?_
   go_simp
   refine hS H C λC=>?_
   clear H K
   refine hQ 14 λK H=>?_
   go_simp
   refine hS H C λC=>?_
   clear H K
   refine hQ 15 λK H=>?_
   go_simp;refine H.out _ _ (λh=>D6 h d_) ?_;clear H K
   try simp only[a_]
   refine hA k_ ?_ _;have au:=(D_ [gx] ai).setCell (p:=(c_ gx 72)) (.inl s_) (.slice ay (x.e.rs.l.length+1) an);have X:=J.h7 (p:=(c_ gx 72)) (Bk.lF J a8 d_) (.slice ay (x.e.rs.l.length+1) an);have M:=cr.h7 (p:=(c_ gx 72)) (Ne.symm z) (.slice ay (x.e.rs.l.length+1) an);obtain⟨Y,W⟩:=nm_ (ai.setCell (c_ gx 72) (.slice ay (x.e.rs.l.length+1) an));rw[<-W]at P T X M |-;clear W C av ao au;have Z:=X.f_ 0;have ah:=X.f_ 1;have bV:=M.f_ 0;have r1:=M.f_ 1;have bB:=M.hm 0;have bH:=M.hm 1;go_wp2;have aQ:=(M.hJ 0 (.bool v.r)).hJ 1 (i_ v.n);have bq:Gr [] w a6:=((aI.trans Q).trans A).trans o;have F:=((D_ [w.heap.size] Y).setCell (p:=(c_ w.heap.size 0)) (.inl s_) (.bool v.r)).setCell (p:=(c_ w.heap.size 1)) (.inl s_) (i_ v.n);have aH:=(((XG.refl gx w).g_ bq).trans T).new F (G_ _);refine rr_ (V_ v) aQ underlying38 ?_;rw[O.out];exact⟨_,rfl,P.late bP rfl rfl rfl F (G_ _) M d_ d_ aH,rfl,aH⟩
theorem jD(b w:World)(gx:Nat)(x:X1)(id f:Int)(L:ke b w gx x)(hn:x.e.rs.l.length<=1000000):
 Calls prog 118 #[q_ gx,i_ id,i_ f] w (mF (hM x.p id f).1 (hM x.p id f).2 b gx w):=by
 cases hr:ji (hN x.h.l) id f with
 |none=>exact u_ b w gx x id f L hn hr
 |some v=>exact u9 b w gx x id f L hn v hr
theorem i6{md:Region.Mode}{S:World->Prop}{N:Nat}{l:List Oper}(i j:Nat){aN d:Oper}{r1 r2:List Oper}{fuel:Nat}{listed:Array Bool}{a:Act}{w:World}(h1:l.drop i=aN::r1)(h2:l.drop j=d::r2)(hr:Region.ready md l.toArray listed=[i,j])(hi:∀e:Act->World->Prop,Shut (∀a w,(i<N->S w)->jI P md l.toArray Q S N fuel (listed.setIfInBounds i true) a w->e a w)->if Region.wanted aN (yielded l.toArray a.tmps)=true then Oper.wp P aN a w e Q else e (a.put aN.dst undef) w)(hj:∀e:Act->World->Prop,Shut (∀a w,(j<N->S w)->jI P md l.toArray Q S N fuel (listed.setIfInBounds j true) a w->e a w)->if Region.wanted d (yielded l.toArray a.tmps)=true then Oper.wp P d a w e Q else e (a.put d.dst undef) w):
 jI P md l.toArray Q S N (fuel+1) listed a w:=by
 exact KK
def ue(P:XP × Int × Int)(b:World)(gx:Nat)(w:World)(e:Ending)(w':World):Prop:=∃x':X1,e=.returned (.tuple #[i_ P.2.1,i_ P.2.2])/\ke b w' gx x'/\x'.p=P.1/\XG gx w w'
theorem vW{x:XP}(h:(iA x).hF=true):hK x=(iA x,0,0):=by
 unfold hK;simp[h]
theorem ld{x:XP}(h:(iA x).hF=false):hK x=({(hM (iA x) 1 0).1 with hF:=(hM (iA x) 1 0).1.hF||(!(hM (iA x) 1 0).2.r||(match jn (hM (iA x) 1 0).1.h (hM (iA x) 1 0).2.n with|none=>true|some o=>decide ((o.fs.length:Int)<3)))},(hM (iA x) 1 0).2.n,iv (hM (iA x) 1 0).1.h (hM (iA x) 1 0).2.n):=by
 unfold hK;simp[h]
 rfl
theorem mB(b w:World)(gx:Nat)(x:X1)(L:ke b w gx x)(hn:x.e.rs.l.length<=1000000):
 Calls prog 161 #[q_ gx] w (ue (hK x.p) b gx w):=by
 go_enter func161,ntmps161
 go_upto_region 2 with(go_at_call 116;((with_reducible refine(qr b _ gx x L).mono ?_);unfold kE;rintro e w1⟨bn,rfl,g,bo,hg1⟩;have az:=h_ bo;clear bo;have m:w1.cell? (c_ gx 81)=some (.bool bn.hF):=(g.bk.f_ 81).trans rfl))
 have cf:=h_ (show bn.e.rs.l=x.e.rs.l by have:=az.out;exact D9 (λp:XP=>p.e.rs) this)
 have hn1:bn.e.rs.l.length<=1000000:=by rw[cf.out];exact hn
 cases aT:bn.hF with
 |true=>
  rw[aT]at m;have e:(iA x.p).hF=true:=(by rw[<-az.out];exact aT);have O:Hid (hK x.p=(bn.p,0,0)):=h_ (by rw[vW e,az.out]);clear e;clear aT;go_wp2
  go_ret2
  rw[O.out];exact⟨_,rfl,g,rfl,hg1⟩
 |false=>
  rw[aT]at m;have j:Hid ((iA x.p).hF=false):=h_ (by rw[<-az.out];exact aT);clear aT;obtain⟨v,hv⟩:=mn_ ((hM bn.p 1 0).2);have aB:=h_ hv;clear hv
  go_upto_region 5 with(go_at_call 118;((with_reducible refine(jD b _ gx bn 1 0 g hn1).mono ?_);unfold mF;rintro e w2⟨P,rfl,V,aN,ad⟩;have s:=h_ aN;clear aN;rw[aB.out]))
  have B:=V.g_ ((D_ [] w2).alloc (.cells #[.bool v.r,i_ v.n] 38));have i:=L_ w2 38 #[.bool v.r,i_ v.n];have aH:=(hg1.trans ad).g_ ((D_ [] w2).alloc (.cells #[.bool v.r,i_ v.n] 38));obtain⟨aJ,a2⟩:=nm_ (w2.alloc (.cells #[.bool v.r,i_ v.n] 38));rw[<-a2]at B i aH |-;clear a2;generalize w2.heap.size=ay at*;clear V hg1 ad g m
  cases hg:jn (hN P.h.l) v.n with
  |none=>
   have HG:Hid (jn P.p.h v.n=none):=h_ hg
   go_cut [5,6] (λp o a7=>∃(z:Nat) (aR:Option Addr) (c4:Nat),p=q_ z/\o=.bool false/\Bk a7 z 56 #[i_ 0,.slice aR 0 c4]/\Gr [] aJ a7)
   case first=>
    have ap:=(D_ [] aJ).drew;refine hC (λw'=>w'.cell? (c_ gx 36)=some (.slice P.h.A P.h.l.length P.h.c)/\w'.cell? (c_ ay 0)=some (.bool v.r)/\w'.cell? (c_ ay 1)=some (i_ v.n)) 13 k_ ?_
    refine nc ⟨((B.bk.g_ ap).f_ 36).trans rfl,(i.g_ ap).f_ 0,(i.g_ ap).f_ 1⟩ λC=>?_
    (repeat refine jR C ?_)
    refine i6 6 10 rfl rfl k_ (λK H=>?_) (λK H=>?_)
    .go_simp
     (go_at_call 14;((with_reducible refine(get_none P.h.A P.h.c P.h.l v.n _ (B.g_ ap).kb.os B.hl hg).mono ?_);rintro e T⟨rfl,af⟩))
     clear C
     refine hS H ⟨((B.bk.g_ (ap.trans af)).f_ 36).trans rfl,(i.g_ (ap.trans af)).f_ 0,(i.g_ (ap.trans af)).f_ 1⟩ λC=>?_
     clear H K
     repeat refine jR C ?_
     exact Gv
    .go_simp;have l:=(L_ aJ 56 #[i_ 0,n_]).drew;have aE:Gr [] aJ ((aJ.alloc (.cells #[i_ 0,n_] 56)).drew):=((D_ [] aJ).alloc _).drew;clear C
     refine hS H ⟨((B.bk.g_ aE).f_ 36).trans rfl,(i.g_ aE).f_ 0,(i.g_ aE).f_ 1⟩ λC=>?_
     clear H K
     refine hQ 6 λK H=>?_
     go_simp
     (go_at_call 14;((with_reducible refine(get_none P.h.A P.h.c P.h.l v.n _ (B.g_ aE).kb.os B.hl hg).mono ?_);rintro e T⟨rfl,af⟩))
     have am:=aE.trans af;clear C;have C:T.cell? (c_ gx 36)=some (.slice P.h.A P.h.l.length P.h.c)/\T.cell? (c_ ay 0)=some (.bool v.r)/\T.cell? (c_ ay 1)=some (i_ v.n):=⟨((B.bk.g_ am).f_ 36).trans rfl,(i.g_ am).f_ 0,(i.g_ am).f_ 1⟩;have av:=l.g_ af;have Z:=av.f_ 0;have ah:=av.f_ 1;have bB:=av.hm 0;have bH:=av.hm 1
     refine hS H C λC=>?_
     clear H K
     repeat refine jR C ?_
     refine hQ 11 λK H=>?_
     go_simp;exact GZ
   case rest=>
    obtain⟨z,aR,c4,rfl,rfl,av,aM⟩:=hcut;replace B:=B.g_ aM;replace i:=i.g_ aM;replace aH:=aH.g_ aM;clear aM
    cases d:P.hF with
    |true=>
     have q:=h_ (show P.p.hF=true from d);exact Ky
    |false=>
     have q:=h_ (show P.p.hF=false from d);exact Ky
  |some a=>
   have HG:Hid (jn P.p.h v.n=some a):=h_ hg
   go_cut [5,6] (λp o a7=>∃(z:Nat) (aR:Option Addr) (c4:Nat),p=q_ z/\o=.bool true/\Bk a7 z 56 #[i_ a.id,.slice aR a.fs.length c4]/\Gr [] aJ a7)
   case first=>
    have ap:=(D_ [] aJ).drew;refine hC (λw'=>w'.cell? (c_ gx 36)=some (.slice P.h.A P.h.l.length P.h.c)/\w'.cell? (c_ ay 0)=some (.bool v.r)/\w'.cell? (c_ ay 1)=some (i_ v.n)) 13 k_ ?_
    refine nc ⟨((B.bk.g_ ap).f_ 36).trans rfl,(i.g_ ap).f_ 0,(i.g_ ap).f_ 1⟩ λC=>?_
    (repeat refine jR C ?_)
    refine i6 6 10 rfl rfl k_ (λK H=>?_) (λK H=>?_)
    .go_simp
     (go_at_call 14;((with_reducible refine(get_some P.h.A P.h.c P.h.l v.n a _ (B.g_ ap).kb.os (B.g_ ap).kb.la B.hl hg).mono ?_);rintro e T⟨aR,c4,rfl,J,af⟩))
     clear C
     refine hS H ⟨((B.bk.g_ (ap.trans af)).f_ 36).trans rfl,(i.g_ (ap.trans af)).f_ 0,(i.g_ (ap.trans af)).f_ 1⟩ λC=>?_
     clear H K
     repeat refine jR C ?_
     refine hQ 10 λK H=>?_
     go_simp;have av:=L_ T 56 #[i_ 0,n_];have aE:Gr [] aJ (T.alloc (.cells #[i_ 0,n_] 56)):=(ap.trans af).alloc _;clear C;have C:(T.alloc (.cells #[i_ 0,n_] 56)).cell? (c_ gx 36)=some (.slice P.h.A P.h.l.length P.h.c)/\(T.alloc (.cells #[i_ 0,n_] 56)).cell? (c_ ay 0)=some (.bool v.r)/\(T.alloc (.cells #[i_ 0,n_] 56)).cell? (c_ ay 1)=some (i_ v.n):=⟨((B.bk.g_ aE).f_ 36).trans rfl,(i.g_ aE).f_ 0,(i.g_ aE).f_ 1⟩;have Z:=av.f_ 0;have bB:=av.hm 0;exact G0
    .go_simp;have l:=(L_ aJ 56 #[i_ 0,n_]).drew;have aE:Gr [] aJ ((aJ.alloc (.cells #[i_ 0,n_] 56)).drew):=((D_ [] aJ).alloc _).drew;clear C
     refine hS H ⟨((B.bk.g_ aE).f_ 36).trans rfl,(i.g_ aE).f_ 0,(i.g_ aE).f_ 1⟩ λC=>?_
     clear H K
     refine hQ 6 λK H=>?_
     go_simp
     (go_at_call 14;((with_reducible refine(get_some P.h.A P.h.c P.h.l v.n a _ (B.g_ aE).kb.os (B.g_ aE).kb.la B.hl hg).mono ?_);rintro e T⟨aR,c4,rfl,J,af⟩))
     have am:=aE.trans af;clear C;have C:T.cell? (c_ gx 36)=some (.slice P.h.A P.h.l.length P.h.c)/\T.cell? (c_ ay 0)=some (.bool v.r)/\T.cell? (c_ ay 1)=some (i_ v.n):=⟨((B.bk.g_ am).f_ 36).trans rfl,(i.g_ am).f_ 0,(i.g_ am).f_ 1⟩;have av:=l.g_ af;have Z:=av.f_ 0;have ah:=av.f_ 1;have bB:=av.hm 0;have bH:=av.hm 1
     refine hS H C λC=>?_
     clear H K
     repeat refine jR C ?_
     refine hQ 11 λK H=>?_
     go_simp;exact GR
   case rest=>
    obtain⟨z,aR,c4,rfl,rfl,av,aM⟩:=hcut;replace B:=B.g_ aM;replace i:=i.g_ aM;replace aH:=aH.g_ aM;clear aM
    cases d:P.hF with
    |true=>
     have q:=h_ (show P.p.hF=true from d)
     cases Y:v.r with
     |true=>
      exact KB
     |false=>
      exact KB
    |false=>
     have q:=h_ (show P.p.hF=false from d)
     cases Y:v.r with
     |true=>
      have c:=h_ Y;rw[Y]at i;clear Y
      by_cases k:(a.fs.length:Int)<3
      .have O:Hid (hK x.p=(({P with hF:=true}:X1).p,v.n,(a.fs.length:Int))):=h_ (by
        rw[ld j.out,<-az.out];have aL:=s.out.symm;have bY:=HG.out;rw[aL,aB.out];unfold iv;rw[bY];have a6:=q.out;simp only[a6,c.out]
        first|(simp[k];done)|(simp[k];rfl))
       have bP:((a.fs.length:Int)<3)=True:=by simp[k]
       clear k az s aB HG j q c;exact KE
      .have O:Hid (hK x.p=(({P with hF:=false}:X1).p,v.n,(a.fs.length:Int))):=h_ (by
        rw[ld j.out,<-az.out];have aL:=s.out.symm;have bY:=HG.out;rw[aL,aB.out];unfold iv;rw[bY];have a6:=q.out;simp only[a6,c.out]
        first|(simp[k];done)|(simp[k];rfl))
       have bP:((a.fs.length:Int)<3)=False:=by simp[k]
       clear k az s aB HG j q c;have hs:=B.set (x':={P with hF:=false}) 81 (.bool false) rfl rfl rfl rfl rfl rfl rfl rfl;have M:=(D_ [gx] wc).setCell (p:=(c_ gx 81)) (.inl s_) (.bool false);have m:wc.cell? (c_ gx 81)=some (.bool P.hF):=(B.bk.f_ 81).trans rfl;rw[d]at m;clear d;have U:=B.bk.hm 81;have Z:=i.f_ 0;have ah:=i.f_ 1;have aS:=av.f_ 1
       go_upto_region 7 with fail
       have h:=i.h7 (p:=(c_ gx 81)) (Bk.lF i B.bk d_) (.bool false);have W:=av.h7 (p:=(c_ gx 81)) (Bk.lF av B.bk d_) (.bool false);clear Z ah aS m U;obtain⟨Q,f⟩:=nm_ (wc.setCell (c_ gx 81) (.bool false));exact Hh
     |false=>
      exact KB
end Go.Proofs.YtenbhdilndfaeaaGreat
