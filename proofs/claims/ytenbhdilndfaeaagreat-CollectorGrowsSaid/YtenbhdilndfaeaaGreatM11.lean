import Derived.Test.YtenbhdilndfaeaaGreatM09
import Derived.Test.YtenbhdilndfaeaaGreatM10
import Derived.Maps.AppendAt
import Derived.OwnWalk
set_option maxRecDepth 100000
set_option maxHeartbeats 0
set_option linter.all false
namespace Go.Proofs.YtenbhdilndfaeaaGreat
open Go.RowKit Go.Proofs.Tryz
variable{G:Prop}{P:Program}{o:Oper}{a:Act}{Q:Exit->Act->World->Prop}{ai g:Nat}{cs:Array Value}{av:OA}(pc:Int)
theorem Hk(h:G:=by
 cases aw:v.r with
 |true=>
  exact Ht
 |false=>
  exact Ht):G:=h
theorem Hs(h:G:=by
 have j:=h_ aw;rw[aw]at i;clear aw
 have HM:Hid (hU x.p=(({P with hO:=true}:X1).p,v.n,(a.fs.length:Int))):=h_ (by
  rw[lx r.out,<-bG.out];have aG:=s.out.symm;have b4:=HG.out;rw[aG,ay.out];unfold iM;rw[b4];have bS:=q.out;simp only[bS,j.out]
  first|rfl|(simp;done)|(simp;rfl))
 clear bG s ay HG r q j;exact Hy):G:=h
theorem Ht(h:G:=by
 have j:=h_ aw;rw[aw]at i;clear aw
 have HM:Hid (hU x.p=(({P with hO:=true}:X1).p,v.n,0)):=h_ (by
  rw[lx r.out,<-bG.out];have aG:=s.out.symm;have b4:=HG.out;rw[aG,ay.out];unfold iM;rw[b4];have bS:=q.out;simp only[bS,j.out]
  first|rfl|(simp;done)|(simp;rfl))
 clear bG s ay HG r q j;have hs:=B.set (x':={P with hO:=true}) 81 (.bool true) rfl rfl rfl rfl rfl rfl rfl rfl;have M:=(F_ [gx] wc).setCell (p:=(c_ gx 81)) (.inl s_) (.bool true);have d:wc.cell? (c_ gx 81)=some (.bool P.hO):=(B.bk.f_ 81).trans rfl;rw[F]at d;clear F;have ah:=B.bk.hH 81;have U:=i.f_ 0;have ad:=i.f_ 1;have aM:=aq.f_ 1
 go_upto_region 7 with fail
 have h:=i.ih (p:=(c_ gx 81)) (Bk.lZ i B.bk d_) (.bool true);have g:=aq.ih (p:=(c_ gx 81)) (Bk.lZ aq B.bk d_) (.bool true);clear U ad aM d ah;obtain⟨Q,f⟩:=nm_ (wc.setCell (c_ gx 81) (.bool true));rw[<-f]at hs h g M |-;clear f;refine hQ (λw'=>w'.cell? (c_ aL 1)=some (i_ v.n)/\w'.cell? (c_ I 1)=some (.slice aO 0 c4)) 7 k_ ?_;exact I0):G:=h
theorem Hy(h:G:=by
 have hs:=B.set (x':={P with hO:=true}) 81 (.bool true) rfl rfl rfl rfl rfl rfl rfl rfl;have M:=(F_ [gx] wc).setCell (p:=(c_ gx 81)) (.inl s_) (.bool true);have d:wc.cell? (c_ gx 81)=some (.bool P.hO):=(B.bk.f_ 81).trans rfl;rw[F]at d;clear F;have ah:=B.bk.hH 81;have U:=i.f_ 0;have ad:=i.f_ 1;have aM:=aq.f_ 1
 go_upto_region 7 with fail
 have h:=i.ih (p:=(c_ gx 81)) (Bk.lZ i B.bk d_) (.bool true);have g:=aq.ih (p:=(c_ gx 81)) (Bk.lZ aq B.bk d_) (.bool true);clear U ad aM d ah;obtain⟨Q,f⟩:=nm_ (wc.setCell (c_ gx 81) (.bool true));exact Ig):G:=h
theorem HB(h:G:=by
 refine h4 10 λK H=>?_
 go_simp;have aq:=P_ T 56 #[i_ 0,n_];have aP:Gr [] am (T.alloc (.cells #[i_ 0,n_] 56)):=(V.trans Z).alloc _;clear C;have C:(T.alloc (.cells #[i_ 0,n_] 56)).cell? (c_ gx 36)=some (.slice P.h.A P.h.l.length P.h.c)/\(T.alloc (.cells #[i_ 0,n_] 56)).cell? (c_ aL 0)=some (.bool v.r)/\(T.alloc (.cells #[i_ 0,n_] 56)).cell? (c_ aL 1)=some (i_ v.n):=⟨((B.bk.hG aP).f_ 36).trans rfl,(i.hG aP).f_ 0,(i.hG aP).f_ 1⟩;have U:=aq.f_ 0;have ad:=aq.f_ 1;have br:=aq.hH 0;have bH:=aq.hH 1
 refine h5 H C λC=>?_
 clear H K
 refine h4 11 λK H=>?_
 go_simp;have m:=P_ T 56 #[i_ 0,n_];have bl:Gr [] am (T.alloc (.cells #[i_ 0,n_] 56)):=(V.trans Z).alloc _;clear C
 refine h5 H ⟨((B.bk.hG bl).f_ 36).trans rfl,(i.hG bl).f_ 0,(i.hG bl).f_ 1⟩ λC=>?_
 clear H K;refine iP 12 C ?_;refine hN k_ ?_ _;go_wp2;go_meet;exact⟨T.heap.size,none,0,rfl,rfl,m,bl⟩):G:=h
theorem HU(h:G:=by
 have m:=(aq.hW 0 (i_ a.id)).hW 1 (.slice aO a.fs.length c4);have M:=((F_ [am.heap.size] T).setCell (p:=(c_ am.heap.size 0)) (.inl s_) (i_ a.id)).setCell (p:=(c_ am.heap.size 1)) (.inl s_) (.slice aO a.fs.length c4);have bl:=c.hK M (by first|(simp;done)|(simp;exact Dh));clear C
 refine h5 H ⟨((B.bk.hG bl).f_ 36).trans rfl,(i.hG bl).f_ 0,(i.hG bl).f_ 1⟩ λC=>?_
 clear H K;refine iP 12 C ?_;refine hN k_ ?_ _;go_wp2;go_meet;exact⟨am.heap.size,aO,c4,rfl,rfl,m,bl⟩):G:=h
theorem HW(h:G:=by
 have m:=(aq.hW 0 (i_ 0)).hW 1 (n_);have M:=((F_ [am.heap.size] T).setCell (p:=(c_ am.heap.size 0)) (.inl s_) (i_ 0)).setCell (p:=(c_ am.heap.size 1)) (.inl s_) (n_);have bl:=c.hK M (by first|(simp;done)|(simp;exact Dh));clear C
 refine h5 H ⟨((B.bk.hG bl).f_ 36).trans rfl,(i.hG bl).f_ 0,(i.hG bl).f_ 1⟩ λC=>?_
 clear H K;refine iP 12 C ?_;refine hN k_ ?_ _;go_wp2;go_meet;exact⟨am.heap.size,none,0,rfl,rfl,m,bl⟩):G:=h
theorem HX(h:G:=by
 refine h5 H C λC=>?_
 clear H K
 refine h4 11 λK H=>?_
 go_simp;have m:=P_ T 56 #[i_ a.id,.slice aO a.fs.length c4];have bl:Gr [] am (T.alloc (.cells #[i_ a.id,.slice aO a.fs.length c4] 56)):=(V.trans Z).alloc _;clear C
 refine h5 H ⟨((B.bk.hG bl).f_ 36).trans rfl,(i.hG bl).f_ 0,(i.hG bl).f_ 1⟩ λC=>?_
 clear H K;refine iP 12 C ?_;refine hN k_ ?_ _;go_wp2;go_meet;exact⟨T.heap.size,aO,c4,rfl,rfl,m,bl⟩):G:=h
theorem Ig(h:G:=by
 rw[<-f]at hs h g M |-;clear f;refine hQ (λw'=>w'.cell? (c_ aL 1)=some (i_ v.n)/\w'.cell? (c_ I 1)=some (.slice aO a.fs.length c4)) 7 k_ ?_;exact I0):G:=h
theorem Ir(h:G:=by
 go_wp2_with (go_at_call 165;((with_reducible refine(kV b _ gx P (-1) B cj).mono ?_);unfold kP;rintro e X⟨aI,rfl,ag,F,G⟩;have Y:=h_ F;clear F))
 exact JK):G:=h
theorem IE(h:G:=by
 clear a hz hm;refine jO (W:=am) (F_ _ _) k_ k_ ?_
 repeat(go_big_quiet_step (((go_at_call 162;exact Calls.gq (HM.out _)))))
 exact Kc):G:=h
theorem IR(h:G:=by
 refine rn_ ?_;have hs:=l.set (x':={x with hO:=true}) 81 (.bool true) rfl rfl rfl rfl rfl rfl rfl rfl;exact Kn):G:=h
theorem I0(h:G:=by
 refine nt ⟨h.drew.f_ 1,g.drew.f_ 1⟩ λC=>?_
 (repeat refine jW C ?_)
 refine hN k_ ?_ _;go_wp2
 go_ret2
 rw[HM.out];exact⟨_,rfl,hs.hG ((F_ [] Q).drew),rfl,(az.iu M).hG ((F_ [] Q).drew)⟩):G:=h
theorem I6(h:G:=by
 refine jO (W:=am) (F_ _ _) k_ k_ ?_
 repeat(go_big_quiet_step ((fail)))
 exact Kc):G:=h
theorem JB(h:G:=by
 intro c fz he;have bL:w'.heap[gx]?=some (.cells x.g_ 186 (0,0)):=a;rw[bL]at he;injection he with he;injection he with _ he _;exact EK he d_):G:=h
theorem JK(h:G:=by
 refine EX (v:=.tuple #[i_ 0,.bool false]) (G1 (t:=6) (u:=7) rfl _ _ _) rfl ?_;rw[HM.out];exact⟨aI,rfl,ag,Y.out,az.trans G⟩):G:=h
theorem JT(h:G:=by
 have bL:w.heap[g]?=some (.cells cs t (0,0)):=hk;rw[bL]at hc;injection hc with hc;injection hc with _ hc _;exact ao hc):G:=h
theorem J0(h:G:=by
 intro he;obtain⟨_,cur,hc⟩:=aw gx he;rw[f]at hc;injection hc with hc;injection hc with _ hc _;exact EK hc d_):G:=h
theorem Ki(h:G:=by
 go_wp2;go_roundw
 case rel=>exact⟨k+1,o_,gn,by rw[aI.out,aK.out],m.trans a⟩
 case measure=>exact mz):G:=h
theorem Kn(h:G:=by
 exact⟨_,rfl,hs,HM.out,((XG.refl gx w).hG (hg1.alloc _)).iu ((F_ [gx] _).setCell (.inl s_) _)⟩):G:=h
theorem Kx(h:G:=by
 refine rn_ ?_;exact K1):G:=h
theorem KB(h:G:=by
 rw[hv]at j
 have:d=g:=by simpa[Value.ownBlock]using j
 subst this;exact⟨s,cur,ay⟩):G:=h
theorem KD(h:G:=by
 rw[hv]at j
 have:d=g:=by simpa[Value.ownBlock]using j
 subst this;exact⟨cur,ay⟩):G:=h
theorem KT(h:G:=by
 rw[hv]at j
 have:d=g:=by simpa[Value.ownBlock]using j
 subst this;exact jR ay):G:=h
theorem KV(h:G:=by
 exact λr hr=>⟨Sl.iu (Sl.xg (h.nr r hr).1 h.bk az) a d_ M,(h.nr r hr).2⟩):G:=h
theorem K1(h:G:=by
 rw[HM.out];exact⟨_,rfl,bY,rfl,az.iu ((F_ [gx] _).setCell (.inl s_) _)⟩):G:=h
theorem K8(h:G:=by
 go_enter func162,ntmps162
 go_wp2;go_ret;exact⟨iD (by rw[HM.out]),I⟩):G:=h
section
theorem t6{w:World}{ops:Array Oper}{K:Act->World->Prop}{E:Prop}(V:o.guard=none)(s x:Operand)(t:TypeId)(ho:o.op=.call {callee:=.builtin .append,args:=#[s,x],argTypes:=#[t,t]})(base:Nat)(e:TypeId)(i:TypeInfo)(z:Value)(size bytes:Nat)(ht:P.underlying t=some (.slice e))(hi:P.info? e=some i)(hz:i.zero=some z)(q:i.size=size)(p:i.bytes=bytes)(C:z.cells.size=size)(aL:0<size)(L:0<bytes)(v:Value)(n:Nat)(xs:List Value)(hs:a.eval s=v)(aF:w.ownsRow base e size v n xs)(d:Addr)(m c:Nat)(news:List Value)(hx:a.eval x=.slice (some d) m c)(hl:news.length=m*size)(f:∀j u,news[j]?=some u->w.cell? (d.add j)=some u)(h1:∀u∈news,u.oneCell'=true)(hm:0<m)(y:(n+m)*bytes<=140737488355328)(br:base<=w.heap.size)(h:∀(A':OA) (c':Nat) (w':World),w'.ownsRow base e size (.slice A' (n+m) c') (n+m) (xs++news)->w.grownBy w' v.ownBlock->((Value.slice A' (n+m) c').ownBlock=v.ownBlock∨(Value.slice A' (n+m) c').ownBlock=some w.heap.size)->K (a.put o.dst (.slice A' (n+m) c')) w'):
 if Region.wanted o (yielded ops a.tmps)=true then Oper.wp P o a w K Q else E:=by
 have aM:Region.wanted o (yielded ops a.tmps)=true:=by simp[Region.wanted,V]
 rw[T_ aM]
 have l:n+m<=maxLen:=by
  have:n+m<=(n+m)*bytes:=F2 _ L
  simp only[maxLen];omega
 obtain⟨v',w',N,h2,h3,_,aq⟩:=run_append_own_at (P:=P) w base t o.type e i z size bytes ht hi hz q p C aL v n xs aF d m c news hl f h1 l y br;have hf:∃A' c',v'=.slice A' (n+m) c':=J6;obtain⟨A',c',rfl⟩:=hf;unfold Oper.wp execOp;simp only[ho,resolve,invoke,builtin,Sem.run_bind,Sem.run_pure,Result.andThen_ok,F6,Fg,FN,hs,hx,N];exact h A' c' w' h2 h3 aq
structure XG(gx:Nat)(w w':World):Prop where
 iy:∀g t cs,w.heap[g]?=some (.cells cs t (0,0))->t≠116->g≠gx->w'.heap[g]?=some (.cells cs t (0,0))
 vK:∀g t cs fz,w.heap[g]?=some (.cells cs t fz)->t≠116->g≠gx->w'.heap[g]?=some (.cells cs t fz)
 size:w.heap.size<=w'.heap.size
theorem XG.refl(gx:Nat)(w:World):XG gx w w:=⟨λ_ _ _ h _ _=>h,λ_ _ _ _ h _ _=>h,H_ _⟩
theorem XG.trans{gx:Nat}{a b c:World}(h:XG gx a b)(k:XG gx b c):XG gx a c:=
 ⟨λg t cs h1 h2 h3=>k.iy g t cs (h.iy g t cs h1 h2 h3) h2 h3,λg t cs fz h1 h2 h3=>k.vK g t cs fz (h.vK g t cs fz h1 h2 h3) h2 h3,G_ h.size k.size⟩
theorem jR{w:World}{o:Obj}(h:w.heap[g]?=some o):g<w.heap.size:=by
 rcases EJ g w.heap.size with h1|h1
 .exact h1
 .rw[Y_ h1]at h
  cases h
theorem XG.Ah{gx:Nat}{w w':World}(h:Gr [gx] w w'):XG gx w w':=
 ⟨λg t cs h1 _ h3=>(h.block g (jR h1) (zu h3)).trans h1,λg t cs fz h1 _ h3=>(h.block g (jR h1) (zu h3)).trans h1,h.size⟩
theorem XG.hG{gx:Nat}{a w w':World}(h:XG gx a w)(k:Gr [] w w'):XG gx a w':=h.trans (XG.Ah (k.of_nil _))
theorem XG.iu{gx:Nat}{a w w':World}(h:XG gx a w)(k:Gr [gx] w w'):XG gx a w':=h.trans (XG.Ah k)
theorem Bk.xg{gx:Nat}{w w':World}{t:TypeId}(h:Bk w g t cs)(k:XG gx w w')(ao:g≠gx)(ht:t≠116:=by decide):Bk w' g t cs:=k.iy g t cs h ht ao
theorem Sl.xg{gx:Nat}{w w':World}{e:TypeId}{size:Nat}{A:OA}{n:Nat}{xs:List Value}{a:Array Value}(h:Sl w e size A n xs)(hx:Bk w gx 186 a)(k:XG gx w w')(hc:e≠116:=by decide)(ho:e≠186:=by decide):Sl w' e size A n xs:=
 ⟨h.1,λhn=>by
   obtain⟨b,off,cs,fz,hA,hb,az⟩:=h.2 hn
   have ao:b≠gx:=by
    intro he;subst he;have h2:w.heap[b]?=some (.cells a 186 (0,0)):=hx;rw[h2]at hb;injection hb with hb;injection hb with _ hb _;exact ho hb.symm
   exact⟨b,off,cs,fz,hA,k.vK b e cs fz hb hc ao,az⟩⟩
def Sv.val(s:Sv Cl):Value:=.slice s.A s.l.length s.c
structure kq(b w:World)(gx:Nat)(x:X1):Prop where
 bk:Bk w gx 186 x.g_
 gr:Gr [gx] b w
 bx:∃cs,Bk b gx 186 cs
 js:Is b x.js.A x.js.l
 h:mj b x.h.A x.h.c x.h.l
 rs:w.ownsRow b.heap.size 116 4 x.e.rs.val x.e.rs.l.length (x.e.rs.l.flatMap Cl.E)
 ws:w.ownsRow b.heap.size 116 4 x.e.ws.val x.e.ws.l.length (x.e.ws.l.flatMap Cl.E)
 ne:∀g,x.e.rs.val.ownBlock=some g->x.e.ws.val.ownBlock≠some g
 nw:Os w x.e.nw.A x.e.nw.l
 nr:oa w x.e.nw.l
 ds:Ds w x.e.ds.A x.e.ds.l
 h7:As w x.e.h7.A x.e.h7.l
 sY:x.e.nw.ok
 rS:x.e.ds.ok
 pE:x.e.h7.ok
 il:x.js.l.length<=1000000000
 hl:x.h.l.length<=1000000000
variable{b w w':World}{gx:Nat}{x:X1}
theorem kq.Dg(h:kq b w gx x):Is w x.js.A x.js.l:=by
 obtain⟨cs,hb⟩:=h.bx;exact Sl.iu h.js hb d_ h.gr
theorem kq.kh(h:kq b w gx x):mj w x.h.A x.h.c x.h.l:=by
 obtain⟨cs,hb⟩:=h.bx;exact h.h.iu hb d_ d_ h.gr
theorem kq.lt(h:kq b w gx x):gx<b.heap.size:=by
 obtain⟨cs,hb⟩:=h.bx;exact hb.lt
theorem kq.hG(h:kq b w gx x)(k:Gr [] w w'):kq b w' gx x:=
 ⟨h.bk.hG k,h.gr.trans (k.of_nil _),h.bx,h.js,h.h,iK h.rs k,iK h.ws k,h.ne,h.nw.hG k,h.nr.hG k,h.ds.hG k,h.h7.hG k,h.sY,h.rS,h.pE,h.il,h.hl⟩
theorem kq.rP{x':X1}(h:kq b w gx x)(k:Gr [gx] w w')(hb:Bk w' gx 186 x'.g_)(h1:x'.js=x.js)(h2:x'.h=x.h)(h3:x'.e.rs=x.e.rs)(au:x'.e.ws=x.e.ws)(aq:x'.e.nw=x.e.nw)(aU:x'.e.ds=x.e.ds)(bG:x'.e.h7=x.e.h7):kq b w' gx x':=by
 refine⟨hb,h.gr.trans k,h.bx,by rw[h1];exact h.js,by rw[h2];exact h.h,?_,?_,by rw[h3,au];exact h.ne,?_,?_,?_,?_,by rw[aq];exact h.sY,by rw[aU];exact h.rS,by rw[bG];exact h.pE,by rw[h1];exact h.il,by rw[h2];exact h.hl⟩
 .rw[h3];exact ko (x:=gx) h.rs (λc fz he=>by have bL:w.heap[gx]?=some (.cells x.g_ 186 (0,0)):=h.bk;rw[bL]at he;injection he with he;injection he with _ he _;exact EK he d_) k
 .rw[au];exact ko (x:=gx) h.ws (λc fz he=>by have bL:w.heap[gx]?=some (.cells x.g_ 186 (0,0)):=h.bk;rw[bL]at he;injection he with he;injection he with _ he _;exact EK he d_) k
 .rw[aq];exact Sl.iu h.nw h.bk d_ k
 .rw[aq];exact h.nr.iu h.bk d_ k
 .rw[aU];exact Sl.iu h.ds h.bk d_ k
 .rw[bG];exact Sl.iu h.h7 h.bk d_ k
theorem kq.set{x':X1}(h:kq b w gx x)(i:Nat)(u:Value)(hc:x'.g_=x.g_.setIfInBounds i u)(h1:x'.js=x.js)(h2:x'.h=x.h)(h3:x'.e.rs=x.e.rs)(au:x'.e.ws=x.e.ws)(aq:x'.e.nw=x.e.nw)(aU:x'.e.ds=x.e.ds)(bG:x'.e.h7=x.e.h7):kq b (w.setCell (c_ gx i) u) gx x':=
 h.rP ((F_ [gx] w).setCell (p:=(c_ gx i)) (.inl s_) u) (by rw[hc];exact h.bk.hW i u) h1 h2 h3 au aq aU bG
def kP(v:Value)(P:XP)(b:World)(gx:Nat)(w:World)(e:Ending)(w':World):Prop:=∃x':X1,e=.returned v/\kq b w' gx x'/\x'.p=P/\XG gx w w'
theorem rR{b w:World}{gx:Nat}{x:X1}(h:kq b w gx x)(v:Array Value):∃W g,w.alloc (.cells v 189)=W/\w.heap.size=g/\kq b W gx x/\Bk W g 189 v/\XG gx w W/\g≠gx:=⟨_,_,rfl,rfl,h.hG ((F_ [] w).alloc _),P_ w 189 v,(XG.refl gx w).hG ((F_ [] w).alloc _),by have:=h.bk.lt;omega⟩
end
theorem oM(A:OA)(c:Nat)(l:List In)(hI hF n:Int)(w:World)(h:Is w A l)(hn:l.length<=1000000000):
 Calls prog 162 #[.agg #[.slice A l.length c,i_ hI,i_ hF],i_ n] w λe w'=>e=.returned (.bool (i9 l n))/\Gr [] w w':=by
 have I:=(F_ [] w).alloc (.cells #[.slice A l.length c,i_ hI,i_ hF] 26);have hB:=P_ w 26 #[.slice A l.length c,i_ hI,i_ hF];have z0:=hB.f_ 0
 by_cases a8:0<=n
 .by_cases bo:n<(l.length:Int)
  .obtain⟨k,rfl⟩:∃k:Nat,n=k:=⟨n.toNat,o_⟩;have hk:k<l.length:=o_;have HM:=h_ (show i9 l (k:Int)=(l[k].op==21) by unfold i9;simp[hk]);obtain⟨bB,off,rfl,bi,bq,bK,bT,bF⟩:=(h.hG I).at_ hk;clear bq bK bT bF;generalize l[k].op=q at*;generalize l.length=n at*;exact K8
  .have HM:=h_ (show i9 l n=false by unfold i9;simp[bo]);have a2:(n<(l.length:Int))=False:=p_;clear bo;exact K8
 .have HM:=h_ (show i9 l n=false by unfold i9;simp[a8]);have a2:(0<=n)=False:=p_;clear a8;exact K8
theorem qv(b w:World)(gx:Nat)(x:X1)(L:kq b w gx x):
 Calls prog 116 #[q_ gx] w (kP (.tuple #[]) (iI x.p) b gx w):=by
 have Z:w.cell? (c_ gx 36)=some (.slice x.h.A x.h.l.length x.h.c):=(L.bk.f_ 36).trans rfl
 cases F:x.hO with
 |true=>
  have aK:x.g_[81]?=some (.bool true):=by rw[<-F];rfl
  have HM:Hid (({x with hO:=true}:X1).p=iI x.p):=h_ (by show _=iI x.p;unfold iI;have e:x.p.hO=true:=F;rw[e];rfl)
  cases hg:kn (hY x.h.l) 1 with
  |none=>
   go_enter func116,ntmps116
   go_wp2_with (go_at_call 14;((with_reducible refine(get_none x.h.A x.h.c x.h.l 1 _ L.kh.os L.hl hg).mono ?_);rintro e w1⟨rfl,hg1⟩;have l:=L.hG (hg1.alloc (.cells #[i_ 0,n_] 56));have hL:=P_ w1 56 #[i_ 0,n_];have ad:=hL.f_ 1;have d:(w1.alloc (.cells #[i_ 0,n_] 56)).cell? (c_ gx 81)=some (.bool true):=(l.bk.f_ 81).trans aK;have ah:=l.bk.hH 81))
   exact IR
  |some o=>
   go_enter func116,ntmps116
   go_wp2_with (go_at_call 14;((with_reducible refine(get_some x.h.A x.h.c x.h.l 1 o _ L.kh.os L.kh.kZ L.hl hg).mono ?_);rintro e w1⟨A1,c1,rfl,i,hg1⟩;have l:=L.hG (hg1.alloc (.cells #[i_ o.id,.slice A1 o.fs.length c1] 56));have hL:=P_ w1 56 #[i_ o.id,.slice A1 o.fs.length c1];have ad:=hL.f_ 1;have d:(w1.alloc (.cells #[i_ o.id,.slice A1 o.fs.length c1] 56)).cell? (c_ gx 81)=some (.bool true):=(l.bk.f_ 81).trans aK;have ah:=l.bk.hH 81))
   exact IR
 |false=>
  have aK:x.g_[81]?=some (.bool false):=by rw[<-F];rfl
  cases hg:kn (hY x.h.l) 1 with
  |none=>
   have HM:Hid (({x with hO:=true}:X1).p=iI x.p):=h_ (by show _=iI x.p;unfold iI;have e:x.p.hO=false:=F;have aG:kn x.p.h 1=none:=hg;rw[e,aG];rfl)
   go_enter func116,ntmps116
   go_wp2_with (go_at_call 14;((with_reducible refine(get_none x.h.A x.h.c x.h.l 1 _ L.kh.os L.hl hg).mono ?_);rintro e w1⟨rfl,hg1⟩;have l:=L.hG (hg1.alloc (.cells #[i_ 0,n_] 56));have hL:=P_ w1 56 #[i_ 0,n_];have ad:=hL.f_ 1;have d:(w1.alloc (.cells #[i_ 0,n_] 56)).cell? (c_ gx 81)=some (.bool false):=(l.bk.f_ 81).trans aK;have ah:=l.bk.hH 81))
   exact IR
  |some o=>
   by_cases hl:(o.fs.length:Int)<3
   .have HM:Hid (({x with hO:=true}:X1).p=iI x.p):=h_ (by show _=iI x.p;unfold iI;have e:x.p.hO=false:=F;have aG:kn x.p.h 1=some o:=hg;rw[e,aG];simp[hl];rfl)
    have q:((o.fs.length:Int)<3)=True:=by simp[hl]
    clear hl
    go_enter func116,ntmps116
    go_wp2_with (go_at_call 14;((with_reducible refine(get_some x.h.A x.h.c x.h.l 1 o _ L.kh.os L.kh.kZ L.hl hg).mono ?_);rintro e w1⟨A1,c1,rfl,i,hg1⟩;have l:=L.hG (hg1.alloc (.cells #[i_ o.id,.slice A1 o.fs.length c1] 56));have hL:=P_ w1 56 #[i_ o.id,.slice A1 o.fs.length c1];have ad:=hL.f_ 1;have d:(w1.alloc (.cells #[i_ o.id,.slice A1 o.fs.length c1] 56)).cell? (c_ gx 81)=some (.bool false):=(l.bk.f_ 81).trans aK;have ah:=l.bk.hH 81))
    exact IR
   .have HM:Hid (({x with hO:=false}:X1).p=iI x.p):=h_ (by show _=iI x.p;unfold iI;have e:x.p.hO=false:=F;have aG:kn x.p.h 1=some o:=hg;rw[e,aG];simp[hl];rfl)
    have q:((o.fs.length:Int)<3)=False:=by simp[hl]
    clear hl
    go_enter func116,ntmps116
    go_wp2_with (go_at_call 14;((with_reducible refine(get_some x.h.A x.h.c x.h.l 1 o _ L.kh.os L.kh.kZ L.hl hg).mono ?_);rintro e w1⟨A1,c1,rfl,i,hg1⟩;have l:=L.hG (hg1.alloc (.cells #[i_ o.id,.slice A1 o.fs.length c1] 56));have hL:=P_ w1 56 #[i_ o.id,.slice A1 o.fs.length c1];have ad:=hL.f_ 1;have d:(w1.alloc (.cells #[i_ o.id,.slice A1 o.fs.length c1] 56)).cell? (c_ gx 81)=some (.bool false):=(l.bk.f_ 81).trans aK;have ah:=l.bk.hH 81))
    refine rn_ ?_;have hs:=l.set (x':={x with hO:=false}) 81 (.bool false) rfl rfl rfl rfl rfl rfl rfl rfl;exact Kn
theorem kq.CT{b w w':World}{gx:Nat}{x:X1}(h:kq b w gx x)(cl:Cl)(aF:w'.ownsRow b.heap.size 116 4 (.slice av (x.e.ws.l.length+1) ai) (x.e.ws.l.length+1) (x.e.ws.l.flatMap Cl.E++Cl.E cl))(hg:w.grownBy w' x.e.ws.val.ownBlock)(hb:(Value.slice av (x.e.ws.l.length+1) ai).ownBlock=x.e.ws.val.ownBlock∨(Value.slice av (x.e.ws.l.length+1) ai).ownBlock=some w.heap.size):
 kq b (w'.setCell (c_ gx 73) (.slice av (x.e.ws.l.length+1) ai)) gx ({x with e:={x.e with ws:=⟨av,ai,x.e.ws.l++[cl]⟩}}:X1)/\XG gx w (w'.setCell (c_ gx 73) (.slice av (x.e.ws.l.length+1) ai)):=by
 have hl1:(x.e.ws.l++[cl]).length=x.e.ws.l.length+1:=s_
 have aw:∀g,x.e.ws.val.ownBlock=some g->b.heap.size<=g/\∃cur,w.heap[g]?=some (.cells cur 116 (0,0)):=by
  intro g j
  rcases h.ws.2 with⟨hv,_⟩|⟨d,lW,cur,hv,s,ay,_⟩
  .rw[hv]at j
   cases j
  .exact KB
 have i:∀g,x.e.rs.val.ownBlock=some g->g<w.heap.size:=by
  intro g j
  rcases h.rs.2 with⟨hv,_⟩|⟨d,lW,cur,hv,s,ay,_⟩
  .rw[hv]at j
   cases j
  .exact KT
 have f:w.heap[gx]?=some (.cells x.g_ 186 (0,0)):=h.bk;have l:x.e.ws.val.ownBlock≠some gx:=J0;have a:Bk w' gx 186 x.g_:=(hg.block gx (jR f) (Ne.symm l)).trans f
 have az:XG gx w w':=⟨λg t cs h1 h2 h3=>(hg.block g (jR h1) (λhe=>by
  obtain⟨_,cur,hc⟩:=aw g he.symm;rw[h1]at hc;injection hc with hc;injection hc with _ hc _
  exact h2 hc)).trans h1,λg t cs fz h1 h2 h3=>(hg.block g (jR h1) (λhe=>by
  obtain⟨_,cur,hc⟩:=aw g he.symm;rw[h1]at hc;injection hc with hc;injection hc with _ hc _
  exact h2 hc)).trans h1,hg.size⟩
 have M:=(F_ [gx] w').setCell (p:=(c_ gx 73)) (.inl s_) (.slice av (x.e.ws.l.length+1) ai);have m:∀c fz,w'.heap[gx]?≠some (.cells c 116 fz):=JB
 have ho:w'.ownsRow b.heap.size 116 4 x.e.rs.val x.e.rs.l.length (x.e.rs.l.flatMap Cl.E):=by
  refine h.rs.kept hg ?_
  rcases h.rs.2 with⟨hv,_⟩|⟨d,lW,cur,hv,_⟩
  .exact .inl (by rw[hv];rfl)
  .right;rw[hv];intro he
   have aM:x.e.rs.val.ownBlock=some d:=by rw[hv];rfl
   have h10:x.e.ws.val.ownBlock=some d:=he.symm.trans rfl;exact h.ne d aM h10
 refine⟨⟨?_,(h.gr.grown hg (λk hk=>.inr (aw k hk).1)).trans M,h.bx,h.js,h.h,?_,?_,?_,?_,?_,?_,?_,h.sY,h.rS,h.pE,h.il,h.hl⟩,az.iu M⟩
 .have e:({x with e:={x.e with ws:=⟨av,ai,x.e.ws.l++[cl]⟩}}:X1).g_=x.g_.setIfInBounds 73 (.slice av (x.e.ws.l.length+1) ai):=by rw[<-hl1];rfl
  rw[e];exact a.hW 73 _
 .exact ko (x:=gx) ho m M
 .show World.ownsRow _ _ _ _ (.slice av (x.e.ws.l++[cl]).length ai) (x.e.ws.l++[cl]).length ((x.e.ws.l++[cl]).flatMap Cl.E)
  rw[hl1,EZ]
  simpa using ko (x:=gx) aF m M
 .intro g h1 h2
  rcases hb with hb|hb
  .exact h.ne g h1 (by rw[<-hb,<-hl1];exact h2)
  .have h3:=h2;unfold Sv.val at h3;simp only at h3;rw[hl1,hb]at h3;injection h3 with h3
   have:=i g h1
   omega
 .exact Sl.iu (Sl.xg h.nw h.bk az) a d_ M
 .exact KV
 .exact Sl.iu (Sl.xg h.ds h.bk az) a d_ M
 .exact Sl.iu (Sl.xg h.h7 h.bk az) a d_ M
theorem kq.CU{b w w':World}{gx:Nat}{x:X1}(h:kq b w gx x)(cl:Cl)(aF:w'.ownsRow b.heap.size 116 4 (.slice av (x.e.rs.l.length+1) ai) (x.e.rs.l.length+1) (x.e.rs.l.flatMap Cl.E++Cl.E cl))(hg:w.grownBy w' x.e.rs.val.ownBlock)(hb:(Value.slice av (x.e.rs.l.length+1) ai).ownBlock=x.e.rs.val.ownBlock∨(Value.slice av (x.e.rs.l.length+1) ai).ownBlock=some w.heap.size):
 kq b (w'.setCell (c_ gx 72) (.slice av (x.e.rs.l.length+1) ai)) gx ({x with e:={x.e with rs:=⟨av,ai,x.e.rs.l++[cl]⟩}}:X1)/\XG gx w (w'.setCell (c_ gx 72) (.slice av (x.e.rs.l.length+1) ai)):=by
 have hl1:(x.e.rs.l++[cl]).length=x.e.rs.l.length+1:=s_
 have aw:∀g,x.e.rs.val.ownBlock=some g->b.heap.size<=g/\∃cur,w.heap[g]?=some (.cells cur 116 (0,0)):=by
  intro g j
  rcases h.rs.2 with⟨hv,_⟩|⟨d,lW,cur,hv,s,ay,_⟩
  .rw[hv]at j
   cases j
  .exact KB
 have i:∀g,x.e.ws.val.ownBlock=some g->g<w.heap.size:=by
  intro g j
  rcases h.ws.2 with⟨hv,_⟩|⟨d,lW,cur,hv,s,ay,_⟩
  .rw[hv]at j
   cases j
  .exact KT
 have f:w.heap[gx]?=some (.cells x.g_ 186 (0,0)):=h.bk;have l:x.e.rs.val.ownBlock≠some gx:=J0;have a:Bk w' gx 186 x.g_:=(hg.block gx (jR f) (Ne.symm l)).trans f
 have az:XG gx w w':=⟨λg t cs h1 h2 h3=>(hg.block g (jR h1) (λhe=>by
  obtain⟨_,cur,hc⟩:=aw g he.symm;rw[h1]at hc;injection hc with hc;injection hc with _ hc _
  exact h2 hc)).trans h1,λg t cs fz h1 h2 h3=>(hg.block g (jR h1) (λhe=>by
  obtain⟨_,cur,hc⟩:=aw g he.symm;rw[h1]at hc;injection hc with hc;injection hc with _ hc _
  exact h2 hc)).trans h1,hg.size⟩
 have M:=(F_ [gx] w').setCell (p:=(c_ gx 72)) (.inl s_) (.slice av (x.e.rs.l.length+1) ai);have m:∀c fz,w'.heap[gx]?≠some (.cells c 116 fz):=JB
 have ho:w'.ownsRow b.heap.size 116 4 x.e.ws.val x.e.ws.l.length (x.e.ws.l.flatMap Cl.E):=by
  refine h.ws.kept hg ?_
  rcases h.ws.2 with⟨hv,_⟩|⟨d,lW,cur,hv,_⟩
  .exact .inl (by rw[hv];rfl)
  .right;rw[hv];intro he
   have aM:x.e.ws.val.ownBlock=some d:=by rw[hv];rfl
   have h10:x.e.rs.val.ownBlock=some d:=he.symm.trans rfl;exact h.ne d h10 aM
 refine⟨⟨?_,(h.gr.grown hg (λk hk=>.inr (aw k hk).1)).trans M,h.bx,h.js,h.h,?_,?_,?_,?_,?_,?_,?_,h.sY,h.rS,h.pE,h.il,h.hl⟩,az.iu M⟩
 .have e:({x with e:={x.e with rs:=⟨av,ai,x.e.rs.l++[cl]⟩}}:X1).g_=x.g_.setIfInBounds 72 (.slice av (x.e.rs.l.length+1) ai):=by rw[<-hl1];rfl
  rw[e];exact a.hW 72 _
 .show World.ownsRow _ _ _ _ (.slice av (x.e.rs.l++[cl]).length ai) (x.e.rs.l++[cl]).length ((x.e.rs.l++[cl]).flatMap Cl.E)
  rw[hl1,EZ]
  simpa using ko (x:=gx) aF m M
 .exact ko (x:=gx) ho m M
 .intro g h1 h2
  rcases hb with hb|hb
  .exact h.ne g (by rw[<-hb,<-hl1];exact h1) h2
  .have h3:=h1;unfold Sv.val at h3;simp only at h3;rw[hl1,hb]at h3;injection h3 with h3
   have:=i g h2
   omega
 .exact Sl.iu (Sl.xg h.nw h.bk az) a d_ M
 .exact KV
 .exact Sl.iu (Sl.xg h.ds h.bk az) a d_ M
 .exact Sl.iu (Sl.xg h.h7 h.bk az) a d_ M
theorem kq.zW{b w:World}{gx:Nat}{x:X1}(h:kq b w gx x):∀g,x.e.ws.val.ownBlock=some g->∃cur,w.heap[g]?=some (.cells cur 116 (0,0)):=by
 intro g j
 rcases h.ws.2 with⟨hv,_⟩|⟨d,lW,cur,hv,s,ay,_⟩
 .rw[hv]at j
  cases j
 .exact KD
theorem kq.AD{b w w':World}{gx:Nat}{x:X1}{t:TypeId}(h:kq b w gx x)(hg:w.grownBy w' x.e.ws.val.ownBlock)(hk:Bk w g t cs)(ao:t≠116):Bk w' g t cs:=by
 refine(hg.block g hk.lt (λhe=>?_)).trans hk;obtain⟨cur,hc⟩:=h.zW g he.symm;exact JT
theorem kq.BE{b w w':World}{gx:Nat}{x:X1}(h:kq b w gx x)(hg:w.grownBy w' x.e.ws.val.ownBlock):Bk w' gx 186 x.g_:=h.AD hg h.bk d_
theorem kq.zX{b w:World}{gx:Nat}{x:X1}(h:kq b w gx x):∀g,x.e.rs.val.ownBlock=some g->∃cur,w.heap[g]?=some (.cells cur 116 (0,0)):=by
 intro g j
 rcases h.rs.2 with⟨hv,_⟩|⟨d,lW,cur,hv,s,ay,_⟩
 .rw[hv]at j
  cases j
 .exact KD
theorem kq.xi{b w w':World}{gx:Nat}{x:X1}{t:TypeId}(h:kq b w gx x)(hg:w.grownBy w' x.e.rs.val.ownBlock)(hk:Bk w g t cs)(ao:t≠116):Bk w' g t cs:=by
 refine(hg.block g hk.lt (λhe=>?_)).trans hk;obtain⟨cur,hc⟩:=h.zX g he.symm;exact JT
theorem kq.BF{b w w':World}{gx:Nat}{x:X1}(h:kq b w gx x)(hg:w.grownBy w' x.e.rs.val.ownBlock):Bk w' gx 186 x.g_:=h.xi hg h.bk d_
theorem j3(b w:World)(gx:Nat)(x:X1)(id f:Int)(v:Vl)(L:kq b w gx x)(hn:x.e.ws.l.length<=1000000):
 Calls prog 163 #[q_ gx,i_ id,i_ f,.agg (V_ v)] w (kP (.tuple #[]) (ib x.p id f v) b gx w):=by
 obtain⟨bF,bE,bt,a8,bo⟩:=info_parts infoCl;have aZ:=P_ w 38 (V_ v);have aC:=(F_ [] w).alloc (.cells (V_ v) 38);have l:=L.hG aC
 go_enter func163,ntmps163
 go_upto_region 1 with fail
 obtain⟨R,E⟩:=nm_ (w.alloc (.cells (V_ v) 38));rw[<-E]at aZ aC l |-;clear E;have V:Gr [] R R.drew:=(F_ [] R).drew;refine hQ (λw'=>w'.cell? (c_ gx 73)=some (.slice x.e.ws.A x.e.ws.l.length x.e.ws.c)/\w'.cell? (c_ w.heap.size 0)=some (.bool v.r)/\w'.cell? (c_ w.heap.size 1)=some (i_ v.n)) 15 k_ ?_
 refine nt ⟨((l.bk.hG V).f_ 73).trans rfl,(aZ.hG V).f_ 0,(aZ.hG V).f_ 1⟩ λC=>?_
 repeat refine jW C ?_
 refine h4 10 λK H=>?_
 go_simp;have aU:Gr [] R ((R.alloc (.cells #[i_ id,i_ f,.bool v.r,i_ v.n] 116)).drew):=((F_ [] R).alloc _).drew;clear C;have C:((R.alloc (.cells #[i_ id,i_ f,.bool v.r,i_ v.n] 116)).drew).cell? (c_ gx 73)=some (.slice x.e.ws.A x.e.ws.l.length x.e.ws.c)/\((R.alloc (.cells #[i_ id,i_ f,.bool v.r,i_ v.n] 116)).drew).cell? (c_ w.heap.size 0)=some (.bool v.r)/\((R.alloc (.cells #[i_ id,i_ f,.bool v.r,i_ v.n] 116)).drew).cell? (c_ w.heap.size 1)=some (i_ v.n):=⟨((l.bk.hG aU).f_ 73).trans rfl,(aZ.hG aU).f_ 0,(aZ.hG aU).f_ 1⟩;have D:Bk ((R.alloc (.cells #[i_ id,i_ f,.bool v.r,i_ v.n] 116)).drew) R.heap.size 116 #[i_ id,i_ f,.bool v.r,i_ v.n]:=(P_ R 116 #[i_ id,i_ f,.bool v.r,i_ v.n]).drew;have W:=l.hG aU;obtain⟨aH,bC⟩:=nm_ ((R.alloc (.cells #[i_ id,i_ f,.bool v.r,i_ v.n] 116)).drew);rw[<-bC]at aU C D W |-;clear bC;generalize R.heap.size=T at*;obtain⟨d,q,g⟩:=(kN (s:=4) D rfl).nG d_;injection q with q;subst q
 refine h5 H C λC=>?_
 clear H K
 refine h4 11 λK H=>?_
 refine t6 rfl (.tmp 13) (.tmp 18) 50 rfl (b.heap.size) 116 bF _ 4 32 underlying50 bE bt a8 bo rfl d_ d_ (.slice x.e.ws.A x.e.ws.l.length x.e.ws.c) x.e.ws.l.length _ r_ W.ws (c_ T 0) 1 1 (Cl.E ⟨id,f,v⟩) r_ rfl g (by intro u hu;exact pA [⟨id,f,v⟩] u (zu hu)) d_ o_ W.gr.size ?_;intro av ai ae b5 S n;obtain⟨O,P⟩:=W.CT ⟨id,f,v⟩ b5 S n;have bu:=W.BE S;have i:Bk ae w.heap.size 38 (V_ v):=W.AD S (aZ.hG aU) d_;have c:=bu.f_ 73;have a:=bu.hH 73;clear C
 refine h5 H ⟨(bu.f_ 73).trans rfl,i.f_ 0,i.f_ 1⟩ λC=>?_
 clear H K
 refine h4 12 λK H=>?_
 go_simp
 refine h5 H C λC=>?_
 clear H K
 refine h4 13 λK H=>?_
 go_simp
 refine h5 H C λC=>?_
 clear H K
 refine h4 14 λK H=>?_
 go_simp
 refine h5 H C λC=>?_
 clear H K
 refine h4 15 λK H=>?_
 go_simp;refine H.out _ _ (λh=>EK h d_) ?_;clear H K
 try simp only[a_]
 refine hN k_ ?_ _;go_wp2;refine en_ ?_;exact⟨_,rfl,O,rfl,((XG.refl gx w).hG (aC.trans aU)).trans P⟩
theorem XG.new{gx:Nat}{w ae T:World}(h:XG gx w ae)(k:Gr [g] ae T)(hg:w.heap.size<=g):XG gx w T:=
 ⟨λq t cs h1 h2 h3=>(k.block q (jR (h.iy q t cs h1 h2 h3)) (by have:=jR h1;simp;omega)).trans (h.iy q t cs h1 h2 h3),
  λq t cs fz h1 h2 h3=>(k.block q (jR (h.vK q t cs fz h1 h2 h3)) (by have:=jR h1;simp;omega)).trans (h.vK q t cs fz h1 h2 h3),G_ h.size k.size⟩
theorem Bk.pN{w:World}{t e:TypeId}(h:Bk w g t cs)(ao:e≠t):∀c fz,w.heap[g]?≠some (.cells c e fz):=JC
theorem kq.late{b w ae T:World}{gx:Nat}{x aj:X1}{t:TypeId}(h:kq b ae gx aj)(h0:kq b w gx x)(aJ:aj.e.nw=x.e.nw)(aG:aj.e.ds=x.e.ds)(bQ:aj.e.h7=x.e.h7)(k:Gr [g] ae T)(bA:w.heap.size<=g)(hk:Bk ae g t cs)(ht:t≠116)(a:t≠186)(az:XG gx w T):kq b T gx aj:=by
 have ao:gx≠g:=by
  intro he;subst he;have h1:ae.heap[gx]?=some (.cells aj.g_ 186 (0,0)):=h.bk;have h2:ae.heap[gx]?=some (.cells cs t (0,0)):=hk;rw[h1]at h2;injection h2 with h2;injection h2 with _ h2 _;exact a h2.symm
 have m:∀c fz,ae.heap[g]?≠some (.cells c 116 fz):=hk.pN (Ne.symm ht);refine⟨h.bk.gr k (zu ao),h.gr.hK k (λq am=>Or.inr (by rw[show q=g from by simpa using am];exact G_ h0.gr.size bA)),h.bx,h.js,h.h,ko (x:=g) h.rs m k,ko (x:=g) h.ws m k,h.ne,?_,?_,?_,?_,h.sY,h.rS,h.pE,h.il,h.hl⟩
 .rw[aJ];exact Sl.xg h0.nw h0.bk az
 .rw[aJ]
  exact λr hr=>⟨Sl.xg (h0.nr r hr).1 h0.bk az,(h0.nr r hr).2⟩
 .rw[aG];exact Sl.xg h0.ds h0.bk az
 .rw[bQ];exact Sl.xg h0.h7 h0.bk az
def mQ(P:XP)(v:Vl)(b:World)(gx:Nat)(w:World)(e:Ending)(w':World):Prop:=∃x':X1,e=.returned (.agg (V_ v))/\kq b w' gx x'/\x'.p=P/\XG gx w w'
theorem vx(b w:World)(gx:Nat)(x:X1)(id f:Int)(L:kq b w gx x)(hn:x.e.rs.l.length<=1000000)(hr:jx (hY x.h.l) id f=none):
 Calls prog 118 #[q_ gx,i_ id,i_ f] w (mQ (hX x.p id f).1 (hX x.p id f).2 b gx w):=by
 have r:=h_ hr;have HM:Hid (hX x.p id f=({x.p with hO:=true},default)):=h_ (by unfold hX;have e:jx x.p.h id f=none:=hr;rw[e]);clear hr;have aC:=(F_ [] w).alloc (.cells #[.bool false,i_ 0] 38);have hR:=P_ w 38 #[.bool false,i_ 0];have l:=L.hG aC
 go_enter func118,ntmps118
 go_upto_region 1 with fail
 obtain⟨R,E⟩:=nm_ (w.alloc (.cells #[.bool false,i_ 0] 38));rw[<-E]at hR aC l |-;clear E;have Z:R.cell? (c_ gx 36)=some (.slice x.h.A x.h.l.length x.h.c):=(l.bk.f_ 36).trans rfl;have M:gx≠w.heap.size:=ov L.bk.lt
 go_upto_region 3 with(go_at_call 148;((with_reducible refine(ky x.h.A x.h.c x.h.l id f _ l.kh.os l.kh.kZ L.hl).mono ?_);rintro e w2⟨rfl,J⟩;rw[r.out];simp only[Gx,GH];have W:=l.hG (J.alloc (.cells (V_ (default:Vl)) 38));have cf:=(hR.hG J).alloc (.cells (V_ (default:Vl)) 38);have hL:Bk (w2.alloc (.cells (V_ (default:Vl)) 38)) w2.heap.size 38 (V_ (default:Vl)):=P_ w2 38 (V_ (default:Vl));have Q:Gr [] R (w2.alloc (.cells (V_ (default:Vl)) 38)):=J.alloc _;have ao:(w2.alloc (.cells (V_ (default:Vl)) 38)).cell? (c_ gx 72)=some (.slice x.e.rs.A x.e.rs.l.length x.e.rs.c):=(W.bk.f_ 72).trans rfl))
 have d:(w2.alloc (.cells (V_ (default:Vl)) 38)).cell? (c_ gx 81)=some (.bool x.hO):=(W.bk.f_ 81).trans rfl;have ah:=W.bk.hH 81;have B:=W.set (x':={x with hO:=true}) 81 (.bool true) rfl rfl rfl rfl rfl rfl rfl rfl;have cz:=cf.ih (p:=(c_ gx 81)) (Ne.symm M) (.bool true);have U:=cz.f_ 0;have ad:=cz.f_ 1;have br:=cz.hH 0;have bH:=cz.hH 1;go_wp2;have j:=(cz.hW 0 (.bool false)).hW 1 (i_ 0);have bA:Gr [gx] w ((w2.alloc (.cells (V_ (default:Vl)) 38)).setCell (c_ gx 81) (.bool true)):=(((aC.trans Q).of_nil [gx])).setCell (p:=(c_ gx 81)) (.inl s_) _;have F:=((F_ [w.heap.size] ((w2.alloc (.cells (V_ (default:Vl)) 38)).setCell (c_ gx 81) (.bool true))).setCell (p:=(c_ w.heap.size 0)) (.inl s_) (.bool false)).setCell (p:=(c_ w.heap.size 1)) (.inl s_) (i_ 0);have az:=(XG.Ah bA).new F (H_ _);refine rr_ #[.bool false,i_ 0] j underlying38 ?_;rw[HM.out];exact⟨_,rfl,B.late L rfl rfl rfl F (H_ _) cz d_ d_ az,rfl,az⟩
theorem ya{x:XP}{id f:Int}{v:Vl}(h:jx x.h id f=some v)(hc:0<=cat x.e.rs id f):hX x id f=(x,v):=by
 unfold hX;rw[h];simp[hc]
theorem wv{x:XP}{id f:Int}{v:Vl}(h:jx x.h id f=some v)(hc:cat x.e.rs id f= -1):hX x id f=({x with e:={x.e with rs:=x.e.rs++[⟨id,f,v⟩]}},v):=by
 unfold hX;rw[h];simp[hc]
theorem vw(b w:World)(gx:Nat)(x:X1)(id f:Int)(L:kq b w gx x)(hn:x.e.rs.l.length<=1000000)(v:Vl)(hr:jx (hY x.h.l) id f=some v):
 Calls prog 118 #[q_ gx,i_ id,i_ f] w (mQ (hX x.p id f).1 (hX x.p id f).2 b gx w):=by
 have r:=h_ hr;have be:=h_ (show cat x.e.rs.l id f=iO (λc:Cl=>c.id==id&&c.f==f) (x.e.rs.l.drop 0) 0 from rfl);clear hr;obtain⟨bF,bE,bt,a8,bo⟩:=info_parts infoCl;have aC:=(F_ [] w).alloc (.cells #[.bool false,i_ 0] 38);have hR:=P_ w 38 #[.bool false,i_ 0];have l:=L.hG aC
 go_enter func118,ntmps118
 go_upto_region 1 with fail
 obtain⟨R,E⟩:=nm_ (w.alloc (.cells #[.bool false,i_ 0] 38));rw[<-E]at hR aC l |-;clear E;have Z:R.cell? (c_ gx 36)=some (.slice x.h.A x.h.l.length x.h.c):=(l.bk.f_ 36).trans rfl;have M:gx≠w.heap.size:=ov L.bk.lt
 go_wp2_with (go_at_call 148;((with_reducible refine(ky x.h.A x.h.c x.h.l id f _ l.kh.os l.kh.kZ L.hl).mono ?_);rintro e w2⟨rfl,J⟩;rw[r.out];simp only[Fw,Ga];have W:=l.hG (J.alloc (.cells (V_ v) 38));have cf:=(hR.hG J).alloc (.cells (V_ v) 38);have hL:Bk (w2.alloc (.cells (V_ v) 38)) w2.heap.size 38 (V_ v):=P_ w2 38 (V_ v);have Q:Gr [] R (w2.alloc (.cells (V_ v) 38)):=J.alloc _;have ao:(w2.alloc (.cells (V_ v) 38)).cell? (c_ gx 72)=some (.slice x.e.rs.A x.e.rs.l.length x.e.rs.c):=(W.bk.f_ 72).trans rfl))
 have bQ:=L;have A:=cf;clear cf hR l Z ao;obtain⟨aH,bC⟩:=nm_ (w2.alloc (.cells (V_ v) 38));rw[<-bC]at W A hL Q |-;clear bC;clear J;generalize w2.heap.size=B at*;have aq:=W
 go_loopw [33] (λi wr=>∃k:Nat,k<=x.e.rs.l.length/\i=i_ k/\cat x.e.rs.l id f=iO (λc:Cl=>c.id==id&&c.f==f) (x.e.rs.l.drop k) k/\Gr [] aH wr) (λi _=>x.e.rs.l.length-(intOf i).toNat)
 case atStart=>exact⟨0,O_ _,rfl,be.out,F_ _ _⟩
 case round=>
  obtain⟨k,hk,rfl,G,m⟩:=hrel;have aI:=h_ G;clear G;replace W:=aq.hG m;replace hL:=hL.hG m;replace A:=A.hG m
  by_cases ag:k<x.e.rs.l.length
  .have aJ:(k:Int)<(x.e.rs.l.length:Int):=o_;obtain⟨bB,off,aT,bi,bq,bK,bT⟩:=Cs.at_ (Sl.iT W.rs) ag;rw[aT];have aW:=h_ (show x.e.rs.l.drop k=x.e.rs.l[k]::x.e.rs.l.drop (k+1) from R_ ag);have bM:=h_ (λam:((λc:Cl=>c.id==id&&c.f==f) x.e.rs.l[k]=true)=>lO (λc:Cl=>c.id==id&&c.f==f) x.e.rs.l k k ag am);have af:=h_ (λam:((λc:Cl=>c.id==id&&c.f==f) x.e.rs.l[k]=false)=>kB (λc:Cl=>c.id==id&&c.f==f) x.e.rs.l k k ag am);generalize x.e.rs.l[k]=y at*;have t:=P_ wr 116 #[i_ y.id,i_ y.f,.bool y.v.r,i_ y.v.n];have a:=(F_ [] wr).alloc (.cells #[i_ y.id,i_ y.f,.bool y.v.r,i_ y.v.n] 116);have z0:=t.f_ 0;have aM:=t.f_ 1
   by_cases t0:y.id=id
   .have bj:(y.id==id)=true:=zu t0
    by_cases t1:y.f=f
    .have bn:(y.f==f)=true:=zu t1;have aK:=h_ (show 0<=cat x.p.e.rs id f by show 0<=cat x.e.rs.l id f;rw[aI.out,bM.out (by simp[bj,bn])];omega);have HM:=h_ (ya (x:=x.p) r.out aK.out);clear t0 t1;have ak:=hL.hG a;have U:=ak.f_ 0;have ad:=ak.f_ 1;have z:=A.hG a;have bW:=z.f_ 0;have r1:=z.f_ 1;have br:=z.hH 0;have bH:=z.hH 1;go_wp2;have j:=(z.hW 0 (.bool v.r)).hW 1 (i_ v.n);have bA:Gr [] w (wr.alloc (.cells #[i_ y.id,i_ y.f,.bool y.v.r,i_ y.v.n] 116)):=((aC.trans Q).trans m).trans a;have F:=((F_ [w.heap.size] (wr.alloc (.cells #[i_ y.id,i_ y.f,.bool y.v.r,i_ y.v.n] 116))).setCell (p:=(c_ w.heap.size 0)) (.inl s_) (.bool v.r)).setCell (p:=(c_ w.heap.size 1)) (.inl s_) (i_ v.n);have az:=((XG.refl gx w).hG bA).new F (H_ _);refine rr_ (V_ v) j underlying38 ?_;rw[HM.out];exact⟨_,rfl,(W.hG a).late bQ rfl rfl rfl F (H_ _) z d_ d_ az,rfl,az⟩
    .have bn:(y.f==f)=false:=zu t1;have aK:=h_ (af.out (by simp[bj,bn]));clear t0 t1;exact Ki
   .have bj:(y.id==id)=false:=zu t0;have aK:=h_ (af.out (by simp[bj]));clear t0;exact Ki
  .have aJ:¬(k:Int)<(x.e.rs.l.length:Int):=o_;have aK:=h_ (show cat x.p.e.rs id f= -1 by show cat x.e.rs.l id f= -1;rw[aI.out,E3 o_];rfl);have HM:=h_ (wv (x:=x.p) r.out aK.out);clear aI be aK
   go_wp2_with fail
   clear aJ;have V:Gr [] wr wr.drew:=(F_ [] wr).drew;refine hQ (λw'=>w'.cell? (c_ gx 72)=some (.slice x.e.rs.A x.e.rs.l.length x.e.rs.c)/\w'.cell? (c_ B 0)=some (.bool v.r)/\w'.cell? (c_ B 1)=some (i_ v.n)) 15 k_ ?_
   refine nt ⟨((W.bk.hG V).f_ 72).trans rfl,(hL.hG V).f_ 0,(hL.hG V).f_ 1⟩ λC=>?_
   repeat refine jW C ?_
   refine h4 10 λK H=>?_
   go_simp;have aU:Gr [] wr ((wr.alloc (.cells #[i_ id,i_ f,.bool v.r,i_ v.n] 116)).drew):=((F_ [] wr).alloc _).drew;clear C;have C:((wr.alloc (.cells #[i_ id,i_ f,.bool v.r,i_ v.n] 116)).drew).cell? (c_ gx 72)=some (.slice x.e.rs.A x.e.rs.l.length x.e.rs.c)/\((wr.alloc (.cells #[i_ id,i_ f,.bool v.r,i_ v.n] 116)).drew).cell? (c_ B 0)=some (.bool v.r)/\((wr.alloc (.cells #[i_ id,i_ f,.bool v.r,i_ v.n] 116)).drew).cell? (c_ B 1)=some (i_ v.n):=⟨((W.bk.hG aU).f_ 72).trans rfl,(hL.hG aU).f_ 0,(hL.hG aU).f_ 1⟩;have D:Bk ((wr.alloc (.cells #[i_ id,i_ f,.bool v.r,i_ v.n] 116)).drew) wr.heap.size 116 #[i_ id,i_ f,.bool v.r,i_ v.n]:=(P_ wr 116 #[i_ id,i_ f,.bool v.r,i_ v.n]).drew;have a7:=W.hG aU;have bI:=A.hG aU;have ah:=hL.hG aU;obtain⟨o,N⟩:=nm_ ((wr.alloc (.cells #[i_ id,i_ f,.bool v.r,i_ v.n] 116)).drew);rw[<-N]at aU C D a7 bI ah |-;clear N;generalize wr.heap.size=T at*;obtain⟨d,q,g⟩:=(kN (s:=4) D rfl).nG d_;injection q with q;subst q
   refine h5 H C λC=>?_
   clear H K
   refine h4 11 λK H=>?_
   refine t6 rfl (.tmp 54) (.tmp 59) 50 rfl (b.heap.size) 116 bF _ 4 32 underlying50 bE bt a8 bo rfl d_ d_ (.slice x.e.rs.A x.e.rs.l.length x.e.rs.c) x.e.rs.l.length _ r_ a7.rs (c_ T 0) 1 1 (Cl.E ⟨id,f,v⟩) r_ rfl g (by intro u hu;exact pA [⟨id,f,v⟩] u (zu hu)) d_ o_ a7.gr.size ?_;intro av ai ae b5 S n;obtain⟨O,P⟩:=a7.CU ⟨id,f,v⟩ b5 S n;have bu:=a7.BF S;have I:=a7.xi S ah d_;have cz:=a7.xi S bI d_;have aw:=bu.f_ 72;have ap:=bu.hH 72;clear C
   refine h5 H ⟨(bu.f_ 72).trans rfl,I.f_ 0,I.f_ 1⟩ λC=>?_
   clear H K
   refine h4 12 λK H=>?_
   go_simp
   refine h5 H C λC=>?_
   clear H K
   refine h4 13 λK H=>?_
   go_simp
   refine h5 H C λC=>?_
   clear H K
   refine h4 14 λK H=>?_
   go_simp
   refine h5 H C λC=>?_
   clear H K
   refine h4 15 λK H=>?_
   go_simp;refine H.out _ _ (λh=>EK h d_) ?_;clear H K
   try simp only[a_]
   refine hN k_ ?_ _;have au:=(F_ [gx] ae).setCell (p:=(c_ gx 72)) (.inl s_) (.slice av (x.e.rs.l.length+1) ai);have Y:=I.ih (p:=(c_ gx 72)) (Bk.lZ I bu d_) (.slice av (x.e.rs.l.length+1) ai);have X:=cz.ih (p:=(c_ gx 72)) (Ne.symm M) (.slice av (x.e.rs.l.length+1) ai);obtain⟨aR,aj⟩:=nm_ (ae.setCell (c_ gx 72) (.slice av (x.e.rs.l.length+1) ai));rw[<-aj]at O P Y X |-;clear aj C aw ap au;have U:=Y.f_ 0;have ad:=Y.f_ 1;have bW:=X.f_ 0;have r1:=X.f_ 1;have br:=X.hH 0;have bH:=X.hH 1;go_wp2;have ar:=(X.hW 0 (.bool v.r)).hW 1 (i_ v.n);have bA:Gr [] w o:=((aC.trans Q).trans m).trans aU;have F:=((F_ [w.heap.size] aR).setCell (p:=(c_ w.heap.size 0)) (.inl s_) (.bool v.r)).setCell (p:=(c_ w.heap.size 1)) (.inl s_) (i_ v.n);have az:=(((XG.refl gx w).hG bA).trans P).new F (H_ _);refine rr_ (V_ v) ar underlying38 ?_;rw[HM.out];exact⟨_,rfl,O.late bQ rfl rfl rfl F (H_ _) X d_ d_ az,rfl,az⟩
theorem jQ(b w:World)(gx:Nat)(x:X1)(id f:Int)(L:kq b w gx x)(hn:x.e.rs.l.length<=1000000):
 Calls prog 118 #[q_ gx,i_ id,i_ f] w (mQ (hX x.p id f).1 (hX x.p id f).2 b gx w):=by
 cases hr:jx (hY x.h.l) id f with
 |none=>exact vx b w gx x id f L hn hr
 |some v=>exact vw b w gx x id f L hn v hr
theorem ji{md:Region.Mode}{S:World->Prop}{N:Nat}{l:List Oper}(i j:Nat){J d:Oper}{r1 r2:List Oper}{fuel:Nat}{listed:Array Bool}{w:World}(h1:l.drop i=J::r1)(h2:l.drop j=d::r2)(hr:Region.ready md l.toArray listed=[i,j])(hi:∀e:Act->World->Prop,Shut (∀a w,(i<N->S w)->jv P md l.toArray Q S N fuel (listed.setIfInBounds i true) a w->e a w)->if Region.wanted J (yielded l.toArray a.tmps)=true then Oper.wp P J a w e Q else e (a.put J.dst undef) w)(hj:∀e:Act->World->Prop,Shut (∀a w,(j<N->S w)->jv P md l.toArray Q S N fuel (listed.setIfInBounds j true) a w->e a w)->if Region.wanted d (yielded l.toArray a.tmps)=true then Oper.wp P d a w e Q else e (a.put d.dst undef) w):
 jv P md l.toArray Q S N (fuel+1) listed a w:=by
 exact Iq
def uu(P:XP × Int × Int)(b:World)(gx:Nat)(w:World)(e:Ending)(w':World):Prop:=∃x':X1,e=.returned (.tuple #[i_ P.2.1,i_ P.2.2])/\kq b w' gx x'/\x'.p=P.1/\XG gx w w'
theorem wx{x:XP}(h:(iI x).hO=true):hU x=(iI x,0,0):=by
 unfold hU;simp[h]
theorem lx{x:XP}(h:(iI x).hO=false):hU x=({(hX (iI x) 1 0).1 with hO:=(hX (iI x) 1 0).1.hO||(!(hX (iI x) 1 0).2.r||(match kn (hX (iI x) 1 0).1.h (hX (iI x) 1 0).2.n with|none=>true|some o=>decide ((o.fs.length:Int)<3)))},(hX (iI x) 1 0).2.n,iM (hX (iI x) 1 0).1.h (hX (iI x) 1 0).2.n):=by
 unfold hU;simp[h]
 rfl
theorem mN(b w:World)(gx:Nat)(x:X1)(L:kq b w gx x)(hn:x.e.rs.l.length<=1000000):
 Calls prog 161 #[q_ gx] w (uu (hU x.p) b gx w):=by
 go_enter func161,ntmps161
 go_upto_region 2 with(go_at_call 116;((with_reducible refine(qv b _ gx x L).mono ?_);unfold kP;rintro e w1⟨bj,rfl,l,bE,hg1⟩;have bG:=h_ bE;clear bE;have d:w1.cell? (c_ gx 81)=some (.bool bj.hO):=(l.bk.f_ 81).trans rfl))
 have cg:=h_ (show bj.e.rs.l=x.e.rs.l by have:=bG.out;exact ED (λp:XP=>p.e.rs) this)
 have hn1:bj.e.rs.l.length<=1000000:=by rw[cg.out];exact hn
 cases aQ:bj.hO with
 |true=>
  rw[aQ]at d;have e:(iI x.p).hO=true:=(by rw[<-bG.out];exact aQ);have HM:Hid (hU x.p=(bj.p,0,0)):=h_ (by rw[wx e,bG.out]);clear e;clear aQ;go_wp2
  go_ret2
  rw[HM.out];exact⟨_,rfl,l,rfl,hg1⟩
 |false=>
  rw[aQ]at d;have r:Hid ((iI x.p).hO=false):=h_ (by rw[<-bG.out];exact aQ);clear aQ;obtain⟨v,hv⟩:=mn_ ((hX bj.p 1 0).2);have ay:=h_ hv;clear hv
  go_upto_region 5 with(go_at_call 118;((with_reducible refine(jQ b _ gx bj 1 0 l hn1).mono ?_);unfold mQ;rintro e w2⟨P,rfl,W,aS,J⟩;have s:=h_ aS;clear aS;rw[ay.out]))
  have B:=W.hG ((F_ [] w2).alloc (.cells #[.bool v.r,i_ v.n] 38));have i:=P_ w2 38 #[.bool v.r,i_ v.n];have az:=(hg1.trans J).hG ((F_ [] w2).alloc (.cells #[.bool v.r,i_ v.n] 38));obtain⟨am,bU⟩:=nm_ (w2.alloc (.cells #[.bool v.r,i_ v.n] 38));rw[<-bU]at B i az |-;clear bU;generalize w2.heap.size=aL at*;clear W hg1 J l d
  cases hg:kn (hY P.h.l) v.n with
  |none=>
   have HG:Hid (kn P.p.h v.n=none):=h_ hg
   go_cut [5,6] (λp o aX=>∃(I:Nat) (aO:OA) (c4:Nat),p=q_ I/\o=.bool false/\Bk aX I 56 #[i_ 0,.slice aO 0 c4]/\Gr [] am aX)
   case first=>
    have V:=(F_ [] am).drew;refine hQ (λw'=>w'.cell? (c_ gx 36)=some (.slice P.h.A P.h.l.length P.h.c)/\w'.cell? (c_ aL 0)=some (.bool v.r)/\w'.cell? (c_ aL 1)=some (i_ v.n)) 13 k_ ?_
    refine nt ⟨((B.bk.hG V).f_ 36).trans rfl,(i.hG V).f_ 0,(i.hG V).f_ 1⟩ λC=>?_
    (repeat refine jW C ?_)
    refine ji 6 10 rfl rfl k_ (λK H=>?_) (λK H=>?_)
    .go_simp
     (go_at_call 14;((with_reducible refine(get_none P.h.A P.h.c P.h.l v.n _ (B.hG V).kh.os B.hl hg).mono ?_);rintro e T⟨rfl,Z⟩))
     clear C
     refine h5 H ⟨((B.bk.hG (V.trans Z)).f_ 36).trans rfl,(i.hG (V.trans Z)).f_ 0,(i.hG (V.trans Z)).f_ 1⟩ λC=>?_
     clear H K
     repeat refine jW C ?_
     exact HB
    .go_simp;have z:=(P_ am 56 #[i_ 0,n_]).drew;have aP:Gr [] am ((am.alloc (.cells #[i_ 0,n_] 56)).drew):=((F_ [] am).alloc _).drew;clear C
     refine h5 H ⟨((B.bk.hG aP).f_ 36).trans rfl,(i.hG aP).f_ 0,(i.hG aP).f_ 1⟩ λC=>?_
     clear H K
     refine h4 6 λK H=>?_
     go_simp
     (go_at_call 14;((with_reducible refine(get_none P.h.A P.h.c P.h.l v.n _ (B.hG aP).kh.os B.hl hg).mono ?_);rintro e T⟨rfl,Z⟩))
     have c:=aP.trans Z;clear C;have C:T.cell? (c_ gx 36)=some (.slice P.h.A P.h.l.length P.h.c)/\T.cell? (c_ aL 0)=some (.bool v.r)/\T.cell? (c_ aL 1)=some (i_ v.n):=⟨((B.bk.hG c).f_ 36).trans rfl,(i.hG c).f_ 0,(i.hG c).f_ 1⟩;have aq:=z.hG Z;have U:=aq.f_ 0;have ad:=aq.f_ 1;have br:=aq.hH 0;have bH:=aq.hH 1
     refine h5 H C λC=>?_
     clear H K
     repeat refine jW C ?_
     refine h4 11 λK H=>?_
     go_simp;exact HW
   case rest=>
    obtain⟨I,aO,c4,rfl,rfl,aq,aE⟩:=hcut;replace B:=B.hG aE;replace i:=i.hG aE;replace az:=az.hG aE;clear aE
    cases F:P.hO with
    |true=>
     have q:=h_ (show P.p.hO=true from F);exact Hk
    |false=>
     have q:=h_ (show P.p.hO=false from F);exact Hk
  |some a=>
   have HG:Hid (kn P.p.h v.n=some a):=h_ hg
   go_cut [5,6] (λp o aX=>∃(I:Nat) (aO:OA) (c4:Nat),p=q_ I/\o=.bool true/\Bk aX I 56 #[i_ a.id,.slice aO a.fs.length c4]/\Gr [] am aX)
   case first=>
    have V:=(F_ [] am).drew;refine hQ (λw'=>w'.cell? (c_ gx 36)=some (.slice P.h.A P.h.l.length P.h.c)/\w'.cell? (c_ aL 0)=some (.bool v.r)/\w'.cell? (c_ aL 1)=some (i_ v.n)) 13 k_ ?_
    refine nt ⟨((B.bk.hG V).f_ 36).trans rfl,(i.hG V).f_ 0,(i.hG V).f_ 1⟩ λC=>?_
    (repeat refine jW C ?_)
    refine ji 6 10 rfl rfl k_ (λK H=>?_) (λK H=>?_)
    .go_simp
     (go_at_call 14;((with_reducible refine(get_some P.h.A P.h.c P.h.l v.n a _ (B.hG V).kh.os (B.hG V).kh.kZ B.hl hg).mono ?_);rintro e T⟨aO,c4,rfl,aC,Z⟩))
     clear C
     refine h5 H ⟨((B.bk.hG (V.trans Z)).f_ 36).trans rfl,(i.hG (V.trans Z)).f_ 0,(i.hG (V.trans Z)).f_ 1⟩ λC=>?_
     clear H K
     repeat refine jW C ?_
     refine h4 10 λK H=>?_
     go_simp;have aq:=P_ T 56 #[i_ 0,n_];have aP:Gr [] am (T.alloc (.cells #[i_ 0,n_] 56)):=(V.trans Z).alloc _;clear C;have C:(T.alloc (.cells #[i_ 0,n_] 56)).cell? (c_ gx 36)=some (.slice P.h.A P.h.l.length P.h.c)/\(T.alloc (.cells #[i_ 0,n_] 56)).cell? (c_ aL 0)=some (.bool v.r)/\(T.alloc (.cells #[i_ 0,n_] 56)).cell? (c_ aL 1)=some (i_ v.n):=⟨((B.bk.hG aP).f_ 36).trans rfl,(i.hG aP).f_ 0,(i.hG aP).f_ 1⟩;have U:=aq.f_ 0;have br:=aq.hH 0;exact HX
    .go_simp;have z:=(P_ am 56 #[i_ 0,n_]).drew;have aP:Gr [] am ((am.alloc (.cells #[i_ 0,n_] 56)).drew):=((F_ [] am).alloc _).drew;clear C
     refine h5 H ⟨((B.bk.hG aP).f_ 36).trans rfl,(i.hG aP).f_ 0,(i.hG aP).f_ 1⟩ λC=>?_
     clear H K
     refine h4 6 λK H=>?_
     go_simp
     (go_at_call 14;((with_reducible refine(get_some P.h.A P.h.c P.h.l v.n a _ (B.hG aP).kh.os (B.hG aP).kh.kZ B.hl hg).mono ?_);rintro e T⟨aO,c4,rfl,aC,Z⟩))
     have c:=aP.trans Z;clear C;have C:T.cell? (c_ gx 36)=some (.slice P.h.A P.h.l.length P.h.c)/\T.cell? (c_ aL 0)=some (.bool v.r)/\T.cell? (c_ aL 1)=some (i_ v.n):=⟨((B.bk.hG c).f_ 36).trans rfl,(i.hG c).f_ 0,(i.hG c).f_ 1⟩;have aq:=z.hG Z;have U:=aq.f_ 0;have ad:=aq.f_ 1;have br:=aq.hH 0;have bH:=aq.hH 1
     refine h5 H C λC=>?_
     clear H K
     repeat refine jW C ?_
     refine h4 11 λK H=>?_
     go_simp;exact HU
   case rest=>
    obtain⟨I,aO,c4,rfl,rfl,aq,aE⟩:=hcut;replace B:=B.hG aE;replace i:=i.hG aE;replace az:=az.hG aE;clear aE
    cases F:P.hO with
    |true=>
     have q:=h_ (show P.p.hO=true from F)
     cases aw:v.r with
     |true=>
      exact Hs
     |false=>
      exact Hs
    |false=>
     have q:=h_ (show P.p.hO=false from F)
     cases aw:v.r with
     |true=>
      have j:=h_ aw;rw[aw]at i;clear aw
      by_cases k:(a.fs.length:Int)<3
      .have HM:Hid (hU x.p=(({P with hO:=true}:X1).p,v.n,(a.fs.length:Int))):=h_ (by
        rw[lx r.out,<-bG.out];have aG:=s.out.symm;have b4:=HG.out;rw[aG,ay.out];unfold iM;rw[b4];have bS:=q.out;simp only[bS,j.out]
        first|(simp[k];done)|(simp[k];rfl))
       have bN:((a.fs.length:Int)<3)=True:=by simp[k]
       clear k bG s ay HG r q j;exact Hy
      .have HM:Hid (hU x.p=(({P with hO:=false}:X1).p,v.n,(a.fs.length:Int))):=h_ (by
        rw[lx r.out,<-bG.out];have aG:=s.out.symm;have b4:=HG.out;rw[aG,ay.out];unfold iM;rw[b4];have bS:=q.out;simp only[bS,j.out]
        first|(simp[k];done)|(simp[k];rfl))
       have bN:((a.fs.length:Int)<3)=False:=by simp[k]
       clear k bG s ay HG r q j;have hs:=B.set (x':={P with hO:=false}) 81 (.bool false) rfl rfl rfl rfl rfl rfl rfl rfl;have M:=(F_ [gx] wc).setCell (p:=(c_ gx 81)) (.inl s_) (.bool false);have d:wc.cell? (c_ gx 81)=some (.bool P.hO):=(B.bk.f_ 81).trans rfl;rw[F]at d;clear F;have ah:=B.bk.hH 81;have U:=i.f_ 0;have ad:=i.f_ 1;have aM:=aq.f_ 1
       go_upto_region 7 with fail
       have h:=i.ih (p:=(c_ gx 81)) (Bk.lZ i B.bk d_) (.bool false);have g:=aq.ih (p:=(c_ gx 81)) (Bk.lZ aq B.bk d_) (.bool false);clear U ad aM d ah;obtain⟨Q,f⟩:=nm_ (wc.setCell (c_ gx 81) (.bool false));exact Ig
     |false=>
      exact Hs
theorem mq(x:X1):∀j,j<33->x.g_[3+j]?=(iJ x.jY x.sr)[j]?
 |0,_=>rfl
 |1,_=>rfl
 |2,_=>rfl
 |3,_=>rfl
 |4,_=>rfl
 |5,_=>rfl
 |6,_=>rfl
 |7,_=>rfl
 |8,_=>rfl
 |9,_=>rfl
 |10,_=>rfl
 |11,_=>rfl
 |12,_=>rfl
 |13,_=>rfl
 |14,_=>rfl
 |15,_=>rfl
 |16,_=>rfl
 |17,_=>rfl
 |18,_=>rfl
 |19,_=>rfl
 |20,_=>rfl
 |21,_=>rfl
 |22,_=>rfl
 |23,_=>rfl
 |24,_=>rfl
 |25,_=>rfl
 |26,_=>rfl
 |27,_=>rfl
 |28,_=>rfl
 |29,_=>rfl
 |30,_=>rfl
 |31,_=>rfl
 |32,_=>rfl
 |n+33,h=>EK h o_
theorem nU(r:Nat->Vl):(iJ pc r).all (·.oneCell')=true:=by unfold iJ;simp[Value.oneCell']
theorem na(x:X1)(pc:Int)(r:Nat->Vl):uD x.g_ 39 (iJ pc r).toList=({x with e:={x.e with pc:=pc,r:=r}}:X1).g_:=rfl
theorem lL{w':World}(ty:TypeId)(x:Operand)(ho:o.op=.load ty x)(g off:Nat)(hx:a.eval x=.pointer (some (c_ g off)))(vs:Array Value)(hc:∀j,j<vs.size->w'.cell? (c_ g (off+j))=vs[j]?)(d:TypeDesc)(hu:P.underlying ty=some d)(hd:d.isRow=true)(hi:(P.info? ty).map (·.size)=some vs.size):(execOp a.eval o).run P w'=.ok (.value (.agg vs)) w':=by
 have hl:=run_loadAt_mid (P:=P) w' g off ty vs.toList d (λj v hv=>by
  have ag:j<vs.size:=by
   rcases EJ j vs.size with h|h
   .exact h
   .rw[EW (zu h)]at hv
    cases hv
  rw[hc j ag]
  simpa using hv) hu hd (zu hi)
 unfold execOp;simp only[ho,hx,hl,Sem.run_bind,Sem.run_pure,Result.andThen_ok]
def qn(l:List In)(h:Vl):Bool:=decide (h.r=true∨(h.n≠0/\i9 l h.n=false))
def rZ(a:XP × Int × Int)(v:Vl):XP:=
 if a.1.hO=true then a.1 else
 let b:=hX a.1 a.2.1 2
 if qn b.1.js b.2=true then kL b.1 else
 if b.2.n≠0 then
  let y:=ib (ib b.1 a.2.1 2 default) 1 2 v
  {y with e:={y.e with pc:=b.2.n,r:=jq}}
 else
  let p:=hX b.1 a.2.1 0
  if p.2.r=false then kL p.1 else
  if p.2.n=0 then{p.1 with e:={p.1.e with h6:=2,hZ:=true,v:=v,pc:=p.1.jY,r:=p.1.sr}}
  else
   let y:=ib (ib p.1 1 0 p.2) 1 2 v
   {y with e:={y.e with h6:=1,kx:=y.hF,pc:= -1,r:=jq}}
theorem x9(x:XP)(v:Vl):jm x v=rZ (hU x) v:=by
 unfold jm rZ qn;simp only[Fr]
theorem o9(b w:World)(gx:Nat)(x:X1)(v:Vl)(L:kq b w gx x)(hs:x.p.e.sm 900000):
 Calls prog 117 #[q_ gx,.agg #[.bool v.r,i_ v.n]] w (kP (.tuple #[]) (jm x.p v) b gx w):=by
 have N:=P_ w 38 #[.bool v.r,i_ v.n];have bQ:=L.hG ((F_ [] w).alloc (.cells #[.bool v.r,i_ v.n] 38));have R:=(XG.refl gx w).hG ((F_ [] w).alloc (.cells #[.bool v.r,i_ v.n] 38));have aW:w.heap.size≠gx:=ov L.bk.lt;have i:=lS hs
 go_enter func117,ntmps117
 go_upto_region 1 with fail
 obtain⟨bp,aK⟩:=nm_ (w.alloc (.cells #[.bool v.r,i_ v.n] 38));rw[<-aK]at N bQ R |-;clear aK
 go_upto_region 2 with(go_at_call 161;((with_reducible refine(mN b _ gx x bQ (G_ hs.rs d_)).mono ?_);unfold uu;rintro e w1⟨bj,rfl,l,bE,hg1⟩;have bG:=h_ bE;clear bE;have d:w1.cell? (c_ gx 81)=some (.bool bj.hO):=(l.bk.f_ 81).trans rfl))
 have aZ:=N.xg hg1 aW;have az:=R.trans hg1;clear N bQ R hg1;have ak:=h_ (x9 x.p v);obtain⟨f,aR⟩:=mn_ ((hU x.p).2.1);rw[aR];have aC:=h_ aR;clear aR;generalize (hU x.p).2.2=b8 at*;rw[<-bG.out]at i
 cases aQ:bj.hO with
 |true=>
  rw[aQ]at d;have HM:Hid (jm x.p v=bj.p):=h_ (by rw[ak.out,bG.out];unfold rZ;rw[T_ (by rw[<-bG.out];exact aQ)]);clear aQ i;go_wp2;refine rn_ ?_;rw[HM.out];exact⟨_,rfl,l,rfl,az⟩
 |false=>
  rw[aQ]at d
  have b4:Hid (jm x.p v=(let b:=hX bj.p f 2
   if qn b.1.js b.2=true then kL b.1 else
   if b.2.n≠0 then
    let y:=ib (ib b.1 f 2 default) 1 2 v
    {y with e:={y.e with pc:=b.2.n,r:=jq}}
   else
    let p:=hX b.1 f 0
    if p.2.r=false then kL p.1 else
    if p.2.n=0 then{p.1 with e:={p.1.e with h6:=2,hZ:=true,v:=v,pc:=p.1.jY,r:=p.1.sr}}
    else
     let y:=ib (ib p.1 1 0 p.2) 1 2 v
     {y with e:={y.e with h6:=1,kx:=y.hF,pc:= -1,r:=jq}})):=h_ (by
   rw[ak.out];unfold rZ
   rw[Q_ (by rw[<-bG.out];show ¬bj.hO=true;rw[aQ];decide),aC.out,<-bG.out])
  clear aQ ak bG aC;have hn1:bj.e.rs.l.length<=1000000:=G_ i.rs o_;obtain⟨h,ay⟩:=mn_ ((hX bj.p f 2).2);have bM:=h_ ay;clear ay
  go_upto_region 4 with(go_at_call 118;((with_reducible refine(jQ b _ gx bj f 2 l hn1).mono ?_);unfold mQ;rintro e ae⟨aj,rfl,a2,I,F⟩;have t:=h_ I;clear I;rw[bM.out]))
  have a8:=kc i f 2;have ai:=h_ t.out;clear t;rw[<-ai.out]at a8
  have bN:Hid (jm x.p v=(if qn aj.js.l h=true then kL aj.p else
   if h.n≠0 then
    let y:=ib (ib aj.p f 2 default) 1 2 v
    {y with e:={y.e with pc:=h.n,r:=jq}}
   else
    let p:=hX aj.p f 0
    if p.2.r=false then kL p.1 else
    if p.2.n=0 then{p.1 with e:={p.1.e with h6:=2,hZ:=true,v:=v,pc:=p.1.jY,r:=p.1.sr}}
    else
     let y:=ib (ib p.1 1 0 p.2) 1 2 v
     {y with e:={y.e with h6:=1,kx:=y.hF,pc:= -1,r:=jq}})):=h_ (by
   rw[b4.out];simp only[bM.out];rw[<-ai.out]
   rfl)
  clear b4 ai bM;have B:=a2.hG ((F_ [] ae).alloc (.cells #[.bool h.r,i_ h.n] 38));have z:=P_ ae 38 #[.bool h.r,i_ h.n];have V:ae.heap.size≠gx:=ov a2.bk.lt;replace aZ:=(aZ.xg F aW).alloc (.cells #[.bool h.r,i_ h.n] 38);replace az:=(az.trans F).hG ((F_ [] ae).alloc (.cells #[.bool h.r,i_ h.n] 38));obtain⟨am,bU⟩:=nm_ (ae.alloc (.cells #[.bool h.r,i_ h.n] 38));rw[<-bU]at B z aZ az |-;clear bU;clear a2 F l d;generalize ae.heap.size=be at*
  go_cut [36] (λy aX=>y=.bool (qn aj.js.l h)/\Gr [] am aX)
  case first=>
   have aw:∀y:GW am,y.1.cell? (c_ be 0)=some (.bool h.r):=z.zg 0;have c1:∀y:GW am,y.1.cell? (c_ be 1)=some (i_ h.n):=z.zg 1
   have aS:∀y:GW am,y.1.cell? (c_ gx 0)=some (.slice aj.js.A aj.js.l.length aj.js.c):=λy=>(B.bk.zg 0 y).trans rfl
   have aJ:∀y:GW am,y.1.cell? (c_ gx 1)=some (i_ aj.hI):=λy=>(B.bk.zg 1 y).trans rfl
   have aG:∀y:GW am,y.1.cell? (c_ gx 2)=some (i_ aj.hF):=λy=>(B.bk.zg 2 y).trans rfl
   cases a:h.r with
   |true=>
    have a6:=h_ (show qn aj.js.l h=true by unfold qn;simp[a]);rw[a]at aw;clear a;exact I6
   |false=>
    rw[a]at aw
    by_cases hz:h.n=0
    .have a6:=h_ (show qn aj.js.l h=false by unfold qn;simp[a,hz]);have q:(h.n !=0)=false:=zu hz;clear a hz;exact I6
    .have q:(h.n !=0)=true:=zu hz
     cases hm:i9 aj.js.l h.n with
     |true=>
      have a6:=h_ (show qn aj.js.l h=false by unfold qn;simp[a,hm])
      have HM:Hid (∀y:GW am,Calls prog 162 #[.agg #[.slice aj.js.A aj.js.l.length aj.js.c,i_ aj.hI,i_ aj.hF],i_ h.n] y.1 (λe w''=>e=.returned (.bool true)/\Gr [] y.1 w'')):=h_ λy=>by have q:=oM aj.js.A aj.js.c aj.js.l aj.hI aj.hF h.n y.1 (B.hG y.2).Dg B.il;rw[hm]at q;exact q
      exact IE
     |false=>
      have a6:=h_ (show qn aj.js.l h=true by unfold qn;simp[a,hz,hm])
      have HM:Hid (∀y:GW am,Calls prog 162 #[.agg #[.slice aj.js.A aj.js.l.length aj.js.c,i_ aj.hI,i_ aj.hF],i_ h.n] y.1 (λe w''=>e=.returned (.bool false)/\Gr [] y.1 w'')):=h_ λy=>by have q:=oM aj.js.A aj.js.c aj.js.l aj.hI aj.hF h.n y.1 (B.hG y.2).Dg B.il;rw[hm]at q;exact q
      exact IE
  case rest=>
   obtain⟨rfl,aE⟩:=hcut;replace B:=B.hG aE;replace z:=z.hG aE;replace aZ:=aZ.hG aE;replace az:=az.hG aE;clear aE
   cases bw:qn aj.js.l h with
   |true=>
    have HM:Hid (jm x.p v=({aj with hO:=true}:X1).p):=h_ (by rw[bN.out,T_ bw];rfl);clear bw bN;have d:wc.cell? (c_ gx 81)=some (.bool aj.hO):=(B.bk.f_ 81).trans rfl;have ah:=B.bk.hH 81;go_wp2;have bY:=B.set (x':={aj with hO:=true}) 81 (.bool true) rfl rfl rfl rfl rfl rfl rfl rfl;exact Kx
   |false=>
    rw[bw]at bN
    by_cases hz:h.n=0
    .have HM:Hid (jm x.p v=(let p:=hX aj.p f 0
      if p.2.r=false then kL p.1 else
      if p.2.n=0 then{p.1 with e:={p.1.e with h6:=2,hZ:=true,v:=v,pc:=p.1.jY,r:=p.1.sr}}
      else
       let y:=ib (ib p.1 1 0 p.2) 1 2 v
       {y with e:={y.e with h6:=1,kx:=y.hF,pc:= -1,r:=jq}})):=h_ (by rw[bN.out,Q_ d_,Q_ (by simp[hz])])
     have q:(h.n !=0)=false:=zu hz;clear bw bN hz;have ad:=z.f_ 1;have bX:aj.e.rs.l.length<=1000000:=G_ a8.rs o_;obtain⟨p,hp⟩:=mn_ ((hX aj.p f 0).2);have u:=h_ hp;clear hp
     go_upto_region 11 with(go_at_call 118;((with_reducible refine(jQ b _ gx aj f 0 B bX).mono ?_);unfold mQ;rintro e aD⟨aF,rfl,a2,I,F⟩;have t:=h_ I;clear I;rw[u.out]))
     have o:Hid (jm x.p v=(if p.r=false then kL aF.p else
      if p.n=0 then{aF.p with e:={aF.p.e with h6:=2,hZ:=true,v:=v,pc:=aF.p.jY,r:=aF.p.sr}}
      else
       let y:=ib (ib aF.p 1 0 p) 1 2 v
       {y with e:={y.e with h6:=1,kx:=y.hF,pc:= -1,r:=jq}})):=h_ (by
      rw[HM.out];simp only[u.out]
      rw[<-t.out])
     have O:=kc a8 f 0;rw[<-t.out]at O;clear HM t u ad;have cg:aD.heap.size≠gx:=ov a2.bk.lt;have m:=a2.hG ((F_ [] aD).alloc (.cells #[.bool p.r,i_ p.n] 38));have hP:=P_ aD 38 #[.bool p.r,i_ p.n];replace aZ:=(aZ.xg F aW).alloc (.cells #[.bool p.r,i_ p.n] 38);replace az:=(az.trans F).hG ((F_ [] aD).alloc (.cells #[.bool p.r,i_ p.n] 38));obtain⟨Q,bL⟩:=nm_ (aD.alloc (.cells #[.bool p.r,i_ p.n] 38));rw[<-bL]at m hP aZ az |-;clear bL;clear a2 F B z;generalize aD.heap.size=bS at*
     cases I:p.r with
     |false=>
      have HM:Hid (jm x.p v=({aF with hO:=true}:X1).p):=h_ (by rw[o.out,T_ I];rfl);rw[I]at hP;clear o I;have U:=hP.f_ 0
      go_upto_region 12 with fail
      have d:Q.cell? (c_ gx 81)=some (.bool aF.hO):=(m.bk.f_ 81).trans rfl;have ah:=m.bk.hH 81;go_wp2;have bY:=m.set (x':={aF with hO:=true}) 81 (.bool true) rfl rfl rfl rfl rfl rfl rfl rfl;exact Kx
     |true=>
      rw[I]at o hP
      by_cases hz:p.n=0
      .have HM:Hid (jm x.p v={aF.p with e:={aF.p.e with h6:=2,hZ:=true,v:=v,pc:=aF.p.jY,r:=aF.p.sr}}):=h_ (by rw[o.out,Q_ d_,T_ hz]);have bI:(p.n==0)=true:=zu hz;clear o hz I;have U:=hP.f_ 0;have ad:=hP.f_ 1
       go_upto_region 14 with fail
       clear U ad hP;have k:=m.bk.drew;have S:=aZ.drew;refine hQ (λw'=>(∀j,j<33->w'.cell? (c_ gx (3+j))=(iJ aF.jY aF.sr)[j]?)/\w'.cell? (c_ w.heap.size 0)=some (.bool v.r)/\w'.cell? (c_ w.heap.size 1)=some (i_ v.n)) 25 k_ ?_
       refine nt ⟨λj hj=>by rw[k.f_];exact mq aF j hj,S.f_ 0,S.f_ 1⟩ λC=>?_
       refine iP 0 C ?_;refine iP 1 C ?_;refine iP 2 C ?_;refine iP 3 C ?_;refine iP 4 C ?_;refine iP 5 C ?_;refine iP 6 C ?_;refine iP 7 C ?_;refine iP 8 (v:=.agg (iJ aF.jY aF.sr)) C ?_ (hy:=(Or.inl ⟨r_,λw' bR=>lL 49 _ rfl gx 3 r_ _ (λj hj=>bR.1 j hj) _ underlying49 rfl k_⟩));refine iP 9 C ?_;refine iP 10 C ?_;refine iP 11 C ?_;have b6:=k.f_ 38;have bT:=k.hH 38
       refine h4 12 λK H=>?_
       go_simp;have aT:Bk ((Q.setCell (c_ gx 38) (i_ 2)).drew) gx 186 ({aF with e:={aF.e with h6:=2}}:X1).g_:=(m.bk).hW 38 (i_ 2);have bF:Bk ((Q.setCell (c_ gx 38) (i_ 2)).drew) w.heap.size 38 #[.bool v.r,i_ v.n]:=(aZ).ih (p:=(c_ gx 38)) aW (i_ 2);have aP:Gr [gx] Q ((Q.setCell (c_ gx 38) (i_ 2)).drew):=Gr.drew <| ((F_ [gx] Q)).setCell (p:=(c_ gx 38)) (.inl s_) (i_ 2);obtain⟨s,bW⟩:=nm_ ((Q.setCell (c_ gx 38) (i_ 2)).drew);rw[<-bW]at aT bF aP |-;clear bW C
       refine h5 H ⟨λj hj=>by rw[aT.f_];exact mq ({aF with e:={aF.e with h6:=2}}:X1) j hj,bF.f_ 0,bF.f_ 1⟩ λC=>?_
       clear H K;clear b6 bT;refine iP 13 C ?_;refine iP 14 C ?_;refine iP 15 C ?_;have aH:=aT.f_ 78;have au:=aT.hH 78
       refine h4 16 λK H=>?_
       go_simp;have bt:Bk (s.setCell (c_ gx 78) (.bool true)) gx 186 ({aF with e:={aF.e with h6:=2,hZ:=true}}:X1).g_:=(aT).hW 78 (.bool true);have bK:Bk (s.setCell (c_ gx 78) (.bool true)) w.heap.size 38 #[.bool v.r,i_ v.n]:=(bF).ih (p:=(c_ gx 78)) aW (.bool true);have bl:Gr [gx] Q (s.setCell (c_ gx 78) (.bool true)):=(aP).setCell (p:=(c_ gx 78)) (.inl s_) (.bool true);obtain⟨bz,b5⟩:=nm_ (s.setCell (c_ gx 78) (.bool true));rw[<-b5]at bt bK bl |-;clear b5 C
       refine h5 H ⟨λj hj=>by rw[bt.f_];exact mq ({aF with e:={aF.e with h6:=2,hZ:=true}}:X1) j hj,bK.f_ 0,bK.f_ 1⟩ λC=>?_
       clear H K;clear aH au;refine iP 17 C ?_;refine iP 18 C ?_;refine iP 19 C ?_;have ce:bz.cell? (c_ gx 79)=some (.bool aF.e.v.r):=(bt.f_ 79).trans rfl;have cf:bz.cell? (c_ gx 80)=some (i_ aF.e.v.n):=(bt.f_ 80).trans rfl;have b9:=bt.hH 79;have ca:=bt.hH 80
       refine h4 20 λK H=>?_
       go_simp;have c9:Bk ((bz.setCell (c_ gx 79) (.bool v.r)).setCell (c_ gx 80) (i_ v.n)) gx 186 ({aF with e:={aF.e with h6:=2,hZ:=true,v:=v}}:X1).g_:=((bt).hW 79 (.bool v.r)).hW 80 (i_ v.n);have D:Bk ((bz.setCell (c_ gx 79) (.bool v.r)).setCell (c_ gx 80) (i_ v.n)) w.heap.size 38 #[.bool v.r,i_ v.n]:=((bK).ih (p:=(c_ gx 79)) aW (.bool v.r)).ih (p:=(c_ gx 80)) aW (i_ v.n);have c:Gr [gx] Q ((bz.setCell (c_ gx 79) (.bool v.r)).setCell (c_ gx 80) (i_ v.n)):=((bl).setCell (p:=(c_ gx 79)) (.inl s_) (.bool v.r)).setCell (p:=(c_ gx 80)) (.inl s_) (i_ v.n);obtain⟨aI,T⟩:=nm_ ((bz.setCell (c_ gx 79) (.bool v.r)).setCell (c_ gx 80) (i_ v.n));rw[<-T]at c9 D c |-;clear T C
       refine h5 H ⟨λj hj=>by rw[c9.f_];exact mq ({aF with e:={aF.e with h6:=2,hZ:=true,v:=v}}:X1) j hj,D.f_ 0,D.f_ 1⟩ λC=>?_
       clear H K;clear ce b9 cf ca;refine iP 21 C ?_;refine iP 22 C ?_;refine iP 23 C ?_
       refine h4 24 λK H=>?_
       rw[T_ r_];refine jF 49 _ _ rfl gx 39 r_ (iJ aF.jY aF.sr) r_ 186 _ c9 (by show 39+33<=82;decide) k_ (nU _ _) ?_;intro X bH G;rw[na]at bH;have bD:=D.gr G (zu aW);clear C
       refine h5 H ⟨λj hj=>by rw[bH.f_];exact mq ({({aF with e:={aF.e with h6:=2,hZ:=true,v:=v}}:X1)with e:={(({aF with e:={aF.e with h6:=2,hZ:=true,v:=v}}:X1)).e with pc:=aF.jY,r:=aF.sr}}:X1) j hj,bD.f_ 0,bD.f_ 1⟩ λC=>?_
       clear H K;refine hN k_ ?_ _;go_wp2;refine rn_ ?_;rw[HM.out];exact⟨_,rfl,m.rP (c.trans G) bH rfl rfl rfl rfl rfl rfl rfl,rfl,az.iu (c.trans G)⟩
      .have bo:¬p.n=0:=hz
       have HM:Hid (jm x.p v=(let y:=ib (ib aF.p 1 0 p) 1 2 v
        {y with e:={y.e with h6:=1,kx:=y.hF,pc:= -1,r:=jq}})):=h_ (by rw[o.out,Q_ d_,Q_ hz])
       have bI:(p.n==0)=false:=zu hz;clear o hz bo;have U:=hP.f_ 0;have ad:=hP.f_ 1;have aB:aF.e.ws.l.length<=1000000:=G_ O.ws o_;have av:=h_ (show p=⟨true,p.n⟩ by cases p;simp only at I;subst I;rfl);clear I
       go_upto_region 16 with(go_at_call 163;((with_reducible refine(j3 b _ gx aF 1 0 ⟨true,p.n⟩ m aB).mono ?_);unfold kP;rintro e Y⟨bP,rfl,bu,ao,bA⟩;have bn:=h_ ao;clear ao))
       have aq:=h_ bn.out;clear bn;have a7:=bu;have bi:=az.trans bA;have aN:=aZ.xg bA aW
       have dw:bP.e.ws.l.length<=1000000:=by
        have e:bP.e.ws.l=aF.e.ws.l++[⟨1,0,⟨true,p.n⟩⟩]:=ED (λp:XP=>p.e.ws) aq.out;rw[e,J_]
        have:=O.ws
        have aG:aF.p.e.ws.length=aF.e.ws.l.length:=rfl;simp only[Z_,EY];omega
       clear bu bA U ad;have U:=aN.f_ 0;have ad:=aN.f_ 1
       go_upto_region 17 with(go_at_call 163;((with_reducible refine(j3 b _ gx bP 1 2 v a7 dw).mono ?_);unfold kP;rintro e ax⟨aO,rfl,bu,ao,bA⟩;have bn:=h_ ao;clear ao))
       have bO:=h_ bn.out;clear bn;have aY:=bu;have ap:=bi.trans bA;clear bu bA U ad
       have af:Hid (jm x.p v=({aO with e:={aO.e with h6:=1,kx:=aO.hF,pc:= -1,r:=jq}}:X1).p):=h_ (by
        rw[HM.out,av.out]
        have E:ib (ib aF.p 1 0 ⟨true,p.n⟩) 1 2 v=aO.p:=by rw[bO.out,aq.out]
        exact ED (λy:XP=>({y with e:={y.e with h6:=1,kx:=y.hF,pc:= -1,r:=jq}}:XP)) E)
       have P:ax.cell? (c_ gx 2)=some (i_ aO.hF):=(aY.bk.f_ 2).trans rfl;have bV:ax.cell? (c_ gx 38)=some (i_ aO.e.h6):=(aY.bk.f_ 38).trans rfl;have aL:ax.cell? (c_ gx 77)=some (i_ aO.e.kx):=(aY.bk.f_ 77).trans rfl;have bT:=aY.bk.hH 38;have ar:=aY.bk.hH 77;have Z:Bk ((ax.setCell (c_ gx 38) (i_ 1)).setCell (c_ gx 77) (i_ aO.hF)) gx 186 ({aO with e:={aO.e with h6:=1,kx:=aO.hF}}:X1).g_:=(aY.bk.hW 38 (i_ 1)).hW 77 (i_ aO.hF);have ag:=((F_ [gx] ax).setCell (p:=(c_ gx 38)) (.inl s_) (i_ 1)).setCell (p:=(c_ gx 77)) (.inl s_) (i_ aO.hF)
       go_wp2_with (refine jc rfl 49 _ _ rfl gx 39 r_ (iJ (-1) jq) r_ 186 _ Z (by show 39+33<=82;decide) k_ (nU _ _) ?_;intro X bH G)
       rw[na]at bH;refine en_ ?_;rw[af.out];exact⟨_,rfl,aY.rP (ag.trans G) bH rfl rfl rfl rfl rfl rfl rfl,rfl,ap.iu (ag.trans G)⟩
    .have HM:Hid (jm x.p v=(let y:=ib (ib aj.p f 2 default) 1 2 v
      {y with e:={y.e with pc:=h.n,r:=jq}})):=h_ (by rw[bN.out,Q_ d_,T_ hz])
     have q:(h.n !=0)=true:=zu hz;clear bw bN hz;have g:aj.e.ws.l.length<=1000000:=G_ a8.ws o_;have ad:=z.f_ 1
     go_upto_region 8 with(go_at_call 163;((with_reducible refine(j3 b _ gx aj f 2 ⟨false,0⟩ B g).mono ?_);unfold kP;rintro e Y⟨bP,rfl,bu,ao,bA⟩;have bn:=h_ ao;clear ao))
     have aq:=h_ bn.out;clear bn;have a7:=bu;have bi:=az.trans bA;have aN:=aZ.xg bA aW;have n:=z.xg bA V
     have dw:bP.e.ws.l.length<=1000000:=by
      have e:bP.e.ws.l=aj.e.ws.l++[⟨f,2,⟨false,0⟩⟩]:=ED (λp:XP=>p.e.ws) aq.out;rw[e,J_]
      have:=a8.ws
      have aG:aj.p.e.ws.length=aj.e.ws.l.length:=rfl;simp only[Z_,EY];omega
     clear bu bA ad;have U:=aN.f_ 0;have ad:=aN.f_ 1
     go_upto_region 9 with(go_at_call 163;((with_reducible refine(j3 b _ gx bP 1 2 v a7 dw).mono ?_);unfold kP;rintro e ax⟨aO,rfl,bu,ao,bA⟩;have bn:=h_ ao;clear ao))
     have bO:=h_ bn.out;clear bn;have aY:=bu;have ap:=bi.trans bA;have aU:=n.xg bA V;clear bu bA U ad;have ad:=aU.f_ 1
     have af:Hid (jm x.p v=({aO with e:={aO.e with pc:=h.n,r:=jq}}:X1).p):=h_ (by
      rw[HM.out]
      have E:ib (ib aj.p f 2 default) 1 2 v=aO.p:=by rw[bO.out,aq.out];rfl
      exact ED (λy:XP=>({y with e:={y.e with pc:=h.n,r:=jq}}:XP)) E)
     go_wp2_with (refine jc rfl 49 _ _ rfl gx 39 r_ (iJ (h.n) jq) r_ 186 _ aY.bk (by show 39+33<=82;decide) k_ (nU _ _) ?_;intro X bH G)
     rw[na]at bH;refine rn_ ?_;rw[af.out];exact⟨_,rfl,aY.rP G bH rfl rfl rfl rfl rfl rfl rfl,rfl,ap.iu G⟩
theorem kV(b w:World)(gx:Nat)(x:X1)(n:Int)(L:kq b w gx x)(hs:x.p.e.sm 900000):
 Calls prog 165 #[q_ gx,i_ n] w (kP (.tuple #[]) (jk x.p n) b gx w):=by
 go_enter func165,ntmps165
 go_wp2_with (go_at_call 117;((with_reducible refine(o9 b _ gx x ⟨false,n⟩ L hs).mono ?_);unfold kP;rintro e X⟨aI,rfl,ag,F,G⟩;have Y:=h_ F;clear F))
 refine en_ ?_;exact⟨aI,rfl,ag,Y.out,G⟩
def wm(P:XP × Int × Int × Bool)(b:World)(gx:Nat)(w:World)(e:Ending)(w':World):Prop:=∃x':X1,e=.returned (.tuple #[i_ P.2.1,i_ P.2.2.1,.bool P.2.2.2])/\kq b w' gx x'/\x'.p=P.1/\XG gx w w'
def AZ(P:XP × Int × Bool)(b:World)(gx:Nat)(w:World)(e:Ending)(w':World):Prop:=∃x':X1,e=.returned (.tuple #[i_ P.2.1,.bool P.2.2])/\kq b w' gx x'/\x'.p=P.1/\XG gx w w'
def xC(a:XP × Int × Int)(n:Int):XP × Int × Int × Bool:=
 if a.1.hO=true then(a.1,0,0,false) else
 if a.2.2<=3+n then(jk a.1 (-1),0,0,false) else(a.1,a.2.1,3+n,true)
theorem A8(x:XP)(n:Int):hJ x n=xC (hU x) n:=rfl
theorem yd(x:XP):0<=(hU x).2.2:=by
 unfold hU;simp only;split
 .exact E9 _
 .show 0<=iM _ _
  unfold iM;split<;>omega
theorem l5(b w:World)(gx:Nat)(x:X1)(n:Int)(L:kq b w gx x)(hs:x.p.e.sm 800000)(h0:0<=n)(h1:n<=1000000):
 Calls prog 167 #[q_ gx,i_ n] w (wm (hJ x.p n) b gx w):=by
 have i:=lS hs;have aL:=yd x.p
 go_enter func167,ntmps167
 go_upto_region 2 with(go_at_call 161;((with_reducible refine(mN b _ gx x L (G_ hs.rs d_)).mono ?_);unfold uu;rintro e w1⟨bj,rfl,l,bE,hg1⟩;have bG:=h_ bE;clear bE;have d:w1.cell? (c_ gx 81)=some (.bool bj.hO):=(l.bk.f_ 81).trans rfl))
 have ak:=h_ (A8 x.p n);obtain⟨f,aR⟩:=mn_ ((hU x.p).2.1);rw[aR];obtain⟨b8,H⟩:=mn_ ((hU x.p).2.2);rw[H]at aL |-;have a:=h_ H;have aC:=h_ aR;clear aR H;rw[<-bG.out]at i
 cases aQ:bj.hO with
 |true=>
  rw[aQ]at d;have HM:Hid (hJ x.p n=(bj.p,0,0,false)):=h_ (by rw[ak.out,bG.out];unfold xC;rw[T_ (by rw[<-bG.out];exact aQ)]);clear aQ i;go_wp2;refine EX (v:=.tuple #[i_ 0,i_ 0,.bool false]) (results_tmp3 (t:=4) (u:=5) (v:=6) rfl _ _ _) rfl ?_;rw[HM.out];exact⟨_,rfl,l,rfl,hg1⟩
 |false=>
  rw[aQ]at d
  by_cases s:b8<=3+n
  .have HM:Hid (hJ x.p n=(jk bj.p (-1),0,0,false)):=h_ (by
    rw[ak.out,bG.out];unfold xC
    rw[Q_ (by rw[<-bG.out];show ¬bj.hO=true;rw[aQ];decide),T_ (by rw[a.out];exact s)])
   have q:(b8<=3+n)=True:=by simp[s]
   have ct:bj.p.e.sm 900000:=i.mono o_;clear aQ i s
   go_wp2_with (go_at_call 165;((with_reducible refine(kV b _ gx bj (-1) l ct).mono ?_);unfold kP;rintro e X⟨aI,rfl,ag,F,G⟩;have Y:=h_ F;clear F))
   refine EX (v:=.tuple #[i_ 0,i_ 0,.bool false]) (results_tmp3 (t:=4) (u:=5) (v:=6) rfl _ _ _) rfl ?_;rw[HM.out];exact⟨aI,rfl,ag,Y.out,hg1.trans G⟩
  .have HM:Hid (hJ x.p n=(bj.p,f,3+n,true)):=h_ (by
    rw[ak.out,bG.out];unfold xC
    rw[Q_ (by rw[<-bG.out];show ¬bj.hO=true;rw[aQ];decide),Q_ (by rw[a.out];exact s),aC.out])
   have q:(b8<=3+n)=False:=by simp[s]
   clear aQ i s;go_wp2;refine EX (v:=.tuple #[i_ f,i_ (3+n),.bool true]) (results_tmp3 (t:=4) (u:=5) (v:=6) rfl _ _ _) rfl ?_;rw[HM.out];exact⟨bj,rfl,l,rfl,hg1⟩
theorem qz(b w:World)(gx:Nat)(P:X1)(v:Vl)(fl:Int)(L:kq b w gx P)(hs:P.p.e.sm 800000):
 Calls prog 168 #[q_ gx,.agg #[.bool v.r,i_ v.n],i_ fl] w (AZ (iz P.p v fl) b gx w):=by
 have B:=L.hG ((F_ [] w).alloc (.cells #[.bool v.r,i_ v.n] 38));have i:=P_ w 38 #[.bool v.r,i_ v.n];have az:=(XG.refl gx w).hG ((F_ [] w).alloc (.cells #[.bool v.r,i_ v.n] 38));have cj:P.p.e.sm 900000:=hs.mono d_;have aW:w.heap.size≠gx:=ov L.bk.lt
 go_enter func168,ntmps168
 go_upto_region 1 with fail
 obtain⟨am,bU⟩:=nm_ (w.alloc (.cells #[.bool v.r,i_ v.n] 38));rw[<-bU]at B i az |-;clear bU;generalize w.heap.size=aL at*
 cases aw:v.r with
 |false=>
  have HM:Hid (iz P.p v fl=(jk P.p (-2),0,false)):=h_ (by unfold iz;rw[T_ aw]);rw[aw]at i;clear aw;have U:=i.f_ 0
  go_wp2_with (go_at_call 165;((with_reducible refine(kV b _ gx P (-2) B cj).mono ?_);unfold kP;rintro e X⟨aI,rfl,ag,F,G⟩;have Y:=h_ F;clear F))
  exact JK
 |true=>
  have j:=h_ aw
  by_cases hz:v.n=0
  .have HM:Hid (iz P.p v fl=(jk P.p (-1),0,false)):=h_ (by unfold iz;rw[Q_ (by rw[aw];decide),T_ hz]);have q:(v.n==0)=true:=zu hz;rw[aw]at i;clear aw hz j;have U:=i.f_ 0;have ad:=i.f_ 1;exact Ir
  .have q:(v.n==0)=false:=zu hz
   have N:Hid (iz P.p v fl=(match kn P.p.h v.n with
    |none=>(kL P.p,0,false)
    |some o=>if(o.fs.length:Int)<=fl then(jk P.p (-1),0,false) else(P.p,v.n,true))):=h_ (by unfold iz;rw[Q_ (by rw[aw];decide),Q_ hz];rfl)
   have U:am.cell? (c_ aL 0)=some (.bool true):=(i.f_ 0).trans (by rw[aw];rfl);have ad:=i.f_ 1;clear hz aw
   go_upto_region 7 with fail
   clear U ad
   cases hg:kn (hY P.h.l) v.n with
   |none=>
    have HM:Hid (iz P.p v fl=(({P with hO:=true}:X1).p,0,false)):=h_ (by rw[N.out];have e:kn P.p.h v.n=none:=hg;rw[e];rfl);clear N
    go_cut [8,9] (λp o aX=>∃(I:Nat) (aO:OA) (c4:Nat),p=q_ I/\o=.bool false/\Bk aX I 56 #[i_ 0,.slice aO 0 c4]/\Gr [] am aX)
    case first=>
     have V:Gr [] am am.drew:=(F_ [] am).drew;refine hQ (λw'=>w'.cell? (c_ gx 36)=some (.slice P.h.A P.h.l.length P.h.c)/\w'.cell? (c_ aL 0)=some (.bool v.r)/\w'.cell? (c_ aL 1)=some (i_ v.n)) 13 k_ ?_
     refine nt ⟨((B.bk.hG V).f_ 36).trans rfl,(i.hG V).f_ 0,(i.hG V).f_ 1⟩ λC=>?_
     (iterate 6 refine jW C ?_)
     refine ji 6 10 rfl rfl k_ (λK H=>?_) (λK H=>?_)
     .go_simp
      (go_at_call 14;((with_reducible refine(get_none P.h.A P.h.c P.h.l v.n _ (B.hG V).kh.os B.hl hg).mono ?_);rintro e T⟨rfl,Z⟩))
      clear C
      refine h5 H ⟨((B.bk.hG (V.trans Z)).f_ 36).trans rfl,(i.hG (V.trans Z)).f_ 0,(i.hG (V.trans Z)).f_ 1⟩ λC=>?_
      clear H K
      iterate 3 refine jW C ?_
      exact HB
     .go_simp;have z:Bk ((am.alloc (.cells #[i_ 0,n_] 56)).drew) am.heap.size 56 #[i_ 0,n_]:=(P_ am 56 #[i_ 0,n_]).drew;have aP:Gr [] am ((am.alloc (.cells #[i_ 0,n_] 56)).drew):=((F_ [] am).alloc _).drew;clear C
      refine h5 H ⟨((B.bk.hG aP).f_ 36).trans rfl,(i.hG aP).f_ 0,(i.hG aP).f_ 1⟩ λC=>?_
      clear H K
      refine h4 6 λK H=>?_
      go_simp
      (go_at_call 14;((with_reducible refine(get_none P.h.A P.h.c P.h.l v.n _ (B.hG aP).kh.os B.hl hg).mono ?_);rintro e T⟨rfl,Z⟩))
      have c:=aP.trans Z;clear C;have C:T.cell? (c_ gx 36)=some (.slice P.h.A P.h.l.length P.h.c)/\T.cell? (c_ aL 0)=some (.bool v.r)/\T.cell? (c_ aL 1)=some (i_ v.n):=⟨((B.bk.hG c).f_ 36).trans rfl,(i.hG c).f_ 0,(i.hG c).f_ 1⟩;have aq:=z.hG Z;have U:=aq.f_ 0;have ad:=aq.f_ 1;have br:=aq.hH 0;have bH:=aq.hH 1
      refine h5 H C λC=>?_
      clear H K
      iterate 3 refine jW C ?_
      refine h4 11 λK H=>?_
      go_simp;have Dh:am.heap.size<=am.heap.size:=H_ _;exact HW
    case rest=>
     obtain⟨I,aO,c4,rfl,rfl,aq,aE⟩:=hcut;replace B:=B.hG aE;replace i:=i.hG aE;replace az:=az.hG aE;clear aE;have d:wc.cell? (c_ gx 81)=some (.bool P.hO):=(B.bk.f_ 81).trans rfl;have ah:=B.bk.hH 81;go_wp2;have bY:=B.set (x':={P with hO:=true}) 81 (.bool true) rfl rfl rfl rfl rfl rfl rfl rfl;refine EX (v:=.tuple #[i_ 0,.bool false]) (G1 (t:=6) (u:=7) rfl _ _ _) rfl ?_;exact K1
   |some a=>
    have x:Hid (iz P.p v fl=if(a.fs.length:Int)<=fl then(jk P.p (-1),0,false) else(P.p,v.n,true)):=h_ (by rw[N.out];have e:kn P.p.h v.n=some a:=hg;rw[e]);clear N
    go_cut [8,9] (λp o aX=>∃(I:Nat) (aO:OA) (c4:Nat),p=q_ I/\o=.bool true/\Bk aX I 56 #[i_ a.id,.slice aO a.fs.length c4]/\Gr [] am aX)
    case first=>
     have V:Gr [] am am.drew:=(F_ [] am).drew;refine hQ (λw'=>w'.cell? (c_ gx 36)=some (.slice P.h.A P.h.l.length P.h.c)/\w'.cell? (c_ aL 0)=some (.bool v.r)/\w'.cell? (c_ aL 1)=some (i_ v.n)) 13 k_ ?_
     refine nt ⟨((B.bk.hG V).f_ 36).trans rfl,(i.hG V).f_ 0,(i.hG V).f_ 1⟩ λC=>?_
     (iterate 6 refine jW C ?_)
     refine ji 6 10 rfl rfl k_ (λK H=>?_) (λK H=>?_)
     .go_simp
      (go_at_call 14;((with_reducible refine(get_some P.h.A P.h.c P.h.l v.n a _ (B.hG V).kh.os (B.hG V).kh.kZ B.hl hg).mono ?_);rintro e T⟨aO,c4,rfl,aC,Z⟩))
      clear C
      refine h5 H ⟨((B.bk.hG (V.trans Z)).f_ 36).trans rfl,(i.hG (V.trans Z)).f_ 0,(i.hG (V.trans Z)).f_ 1⟩ λC=>?_
      clear H K
      iterate 3 refine jW C ?_
      refine h4 10 λK H=>?_
      go_simp;have aq:=P_ T 56 #[i_ 0,n_];have aP:Gr [] am (T.alloc (.cells #[i_ 0,n_] 56)):=(V.trans Z).alloc _;clear C;have C:(T.alloc (.cells #[i_ 0,n_] 56)).cell? (c_ gx 36)=some (.slice P.h.A P.h.l.length P.h.c)/\(T.alloc (.cells #[i_ 0,n_] 56)).cell? (c_ aL 0)=some (.bool v.r)/\(T.alloc (.cells #[i_ 0,n_] 56)).cell? (c_ aL 1)=some (i_ v.n):=⟨((B.bk.hG aP).f_ 36).trans rfl,(i.hG aP).f_ 0,(i.hG aP).f_ 1⟩;have U:=aq.f_ 0;have ad:=aq.f_ 1;have br:=aq.hH 0;have bH:=aq.hH 1;exact HX
     .go_simp;have z:Bk ((am.alloc (.cells #[i_ 0,n_] 56)).drew) am.heap.size 56 #[i_ 0,n_]:=(P_ am 56 #[i_ 0,n_]).drew;have aP:Gr [] am ((am.alloc (.cells #[i_ 0,n_] 56)).drew):=((F_ [] am).alloc _).drew;clear C
      refine h5 H ⟨((B.bk.hG aP).f_ 36).trans rfl,(i.hG aP).f_ 0,(i.hG aP).f_ 1⟩ λC=>?_
      clear H K
      refine h4 6 λK H=>?_
      go_simp
      (go_at_call 14;((with_reducible refine(get_some P.h.A P.h.c P.h.l v.n a _ (B.hG aP).kh.os (B.hG aP).kh.kZ B.hl hg).mono ?_);rintro e T⟨aO,c4,rfl,aC,Z⟩))
      have c:=aP.trans Z;clear C;have C:T.cell? (c_ gx 36)=some (.slice P.h.A P.h.l.length P.h.c)/\T.cell? (c_ aL 0)=some (.bool v.r)/\T.cell? (c_ aL 1)=some (i_ v.n):=⟨((B.bk.hG c).f_ 36).trans rfl,(i.hG c).f_ 0,(i.hG c).f_ 1⟩;have aq:=z.hG Z;have U:=aq.f_ 0;have ad:=aq.f_ 1;have br:=aq.hH 0;have bH:=aq.hH 1
      refine h5 H C λC=>?_
      clear H K
      iterate 3 refine jW C ?_
      refine h4 11 λK H=>?_
      go_simp;have Dh:am.heap.size<=am.heap.size:=H_ _;exact HU
    case rest=>
     obtain⟨I,aO,c4,rfl,rfl,aq,aE⟩:=hcut;replace B:=B.hG aE;replace i:=i.hG aE;replace az:=az.hG aE;clear aE;have aM:=aq.f_ 1
     by_cases s:(a.fs.length:Int)<=fl
     .have HM:Hid (iz P.p v fl=(jk P.p (-1),0,false)):=h_ (by rw[x.out,T_ s])
      have bN:((a.fs.length:Int)<=fl)=True:=by simp[s]
      clear s x;exact Ir
     .have HM:Hid (iz P.p v fl=(P.p,v.n,true)):=h_ (by rw[x.out,Q_ s])
      have bN:((a.fs.length:Int)<=fl)=False:=by simp[s]
      clear s x;have ad:=i.f_ 1;go_wp2;refine EX (v:=.tuple #[i_ v.n,.bool true]) (G1 (t:=6) (u:=7) rfl _ _ _) rfl ?_;rw[HM.out];exact⟨P,rfl,B,rfl,az⟩
end Go.Proofs.YtenbhdilndfaeaaGreat
