import Derived.Test.YtenbhdilndfaeaaGreatR10
import Derived.Test.YtenbhdilndfaeaaGreatR11
import Derived.Maps.AppendAt
import Derived.OwnWalk
set_option maxRecDepth 100000
set_option maxHeartbeats 0
set_option linter.all false
namespace Go.Proofs.YtenbhdilndfaeaaGreat
open Go.RowKit Go.Proofs.Tryz
variable{G:Prop}{P:Program}{o:Oper}{a:Act}{Q:Exit->Act->World->Prop}{xs:List Value}{am g:Nat}{cs:Array Value}{aD:OA}
def Ij(h:G:=by
 have c:=O MM;rw[MM]at i
 have ap:Hid (hF x.p=(({P with hH:=true}:X1).p,v.n,(a.fs.length:Int))):=O (by
  rw[lE h.out,<-bJ.out];have aw:=au.out.symm;have bu:=HG.out;rw[aw,aO.out];unfold iG;rw[bu];have a7:=n.out;simp only[a7,c.out]
  first|rfl|(simp;done)|(simp;rfl))
 exact Iu):G:=h
def Ik(h:G:=by
 have c:=O MM;rw[MM]at i
 have ap:Hid (hF x.p=(({P with hH:=true}:X1).p,v.n,0)):=O (by
  rw[lE h.out,<-bJ.out];have aw:=au.out.symm;have bu:=HG.out;rw[aw,aO.out];unfold iG;rw[bu];have a7:=n.out;simp only[a7,c.out]
  first|rfl|(simp;done)|(simp;rfl))
 have hs:=B.set (x':={P with hH:=true}) 81 (.bool true) rfl rfl rfl rfl rfl rfl rfl rfl;have M:=(H [gx] wc).setCell (p:=(Z gx 81)) (.inl s_) (.bool true);have d:wc.cell? (Z gx 81)=some (.bool P.hH):=(B.bk.f_ 81).trans rfl;rw[F]at d;have U:=B.bk.hm 81;have MN:=i.f_ 0;have ai:=i.f_ 1;have aR:=ar.f_ 1
 go_upto_region 7 with fail
 have f:=i.ib (p:=(Z gx 81)) (Bk.me i B.bk I) (.bool true);have V:=ar.ib (p:=(Z gx 81)) (Bk.me ar B.bk I) (.bool true);obtain⟨Q,j⟩:=nm_ (wc.setCell (Z gx 81) (.bool true));rw[<-j]at hs f V M |-;exact Ja):G:=h
def Iu(h:G:=by
 have hs:=B.set (x':={P with hH:=true}) 81 (.bool true) rfl rfl rfl rfl rfl rfl rfl rfl;have M:=(H [gx] wc).setCell (p:=(Z gx 81)) (.inl s_) (.bool true);have d:wc.cell? (Z gx 81)=some (.bool P.hH):=(B.bk.f_ 81).trans rfl;rw[F]at d;have U:=B.bk.hm 81;have MN:=i.f_ 0;have ai:=i.f_ 1;have aR:=ar.f_ 1
 go_upto_region 7 with fail
 have f:=i.ib (p:=(Z gx 81)) (Bk.me i B.bk I) (.bool true);have V:=ar.ib (p:=(Z gx 81)) (Bk.me ar B.bk I) (.bool true);obtain⟨Q,j⟩:=nm_ (wc.setCell (Z gx 81) (.bool true));rw[<-j]at hs f V M |-;exact I6):G:=h
def IJ(h:G:=by
 have MO:=(ar.hN 0 (Y a.id)).hN 1 (.slice aP a.fs.length c4);have M:=((H [aK.heap.size] T).setCell (p:=(Z aK.heap.size 0)) (.inl s_) (Y a.id)).setCell (p:=(Z aK.heap.size 1)) (.inl s_) (.slice aP a.fs.length c4);have a2:=MP.hA M (by first|(simp;done)|(simp;exact D_))
 refine hX MT ⟨((B.bk.g_ a2).f_ 36).trans rfl,(i.g_ a2).f_ 0,(i.g_ a2).f_ 1⟩ λC=>?_
 refine iH 12 C ?_;refine hC k_ ?_ _;go_wp2;go_meet;exact⟨aK.heap.size,aP,c4,rfl,rfl,MO,a2⟩):G:=h
def IM(h:G:=by
 have MO:=(ar.hN 0 (Y 0)).hN 1 (n_);have M:=((H [aK.heap.size] T).setCell (p:=(Z aK.heap.size 0)) (.inl s_) (Y 0)).setCell (p:=(Z aK.heap.size 1)) (.inl s_) (n_);have a2:=MP.hA M (by first|(simp;done)|(simp;exact D_))
 refine hX MT ⟨((B.bk.g_ a2).f_ 36).trans rfl,(i.g_ a2).f_ 0,(i.g_ a2).f_ 1⟩ λC=>?_
 refine iH 12 C ?_;refine hC k_ ?_ _;go_wp2;go_meet;exact⟨aK.heap.size,none,0,rfl,rfl,MO,a2⟩):G:=h
def I6(h:G:=by
 refine hI (λw'=>w'.cell? (Z aS 1)=some (Y v.n)/\w'.cell? (Z z 1)=some (.slice aP a.fs.length c4)) 7 k_ ?_;exact JH):G:=h
def Ja(h:G:=by
 refine hI (λw'=>w'.cell? (Z aS 1)=some (Y v.n)/\w'.cell? (Z z 1)=some (.slice aP 0 c4)) 7 k_ ?_;exact JH):G:=h
def Jn(h:G:=by
 clear a hz MM;refine jI (W:=aK) (H _ _) k_ k_ ?_
 repeat(go_big_quiet_step (((go_at_call 162;exact Calls.gq (ap.out _)))))
 exact K0):G:=h
def Jz(h:G:=by
 refine rn_ ?_;have hs:=g.set (x':={x with hH:=true}) 81 (.bool true) rfl rfl rfl rfl rfl rfl rfl rfl;exact Lb):G:=h
def JH(h:G:=by
 refine nZ ⟨f.drew.f_ 1,V.drew.f_ 1⟩ λC=>?_
 (repeat refine jW C ?_)
 refine hC k_ ?_ _;go_wp2
 go_ret2
 rw[ap.out];exact⟨_,rfl,hs.g_ ((H [] Q).drew),rfl,(aF.ir M).g_ ((H [] Q).drew)⟩):G:=h
def JN(h:G:=by
 refine jI (W:=aK) (H _ _) k_ k_ ?_
 repeat(go_big_quiet_step ((fail)))
 exact K0):G:=h
def Kr(h:G:=by
 intro c fz he;have aT:w'.heap[gx]?=some (.cells x.g8 186 (0,0)):=a;rw[aT]at he;injection he with he;injection he with _ he _;exact U_ he I):G:=h
def Kz(h:G:=by
 refine FY (v:=.tuple #[Y 0,.bool false]) (HV (t:=6) (u:=7) rfl _ _ _) rfl ?_;rw[ap.out];exact⟨au,rfl,aj,ak.out,aF.trans G⟩):G:=h
def KK(h:G:=by
 have aT:w.heap[g]?=some (.cells cs t (0,0)):=hk;rw[aT]at hc;injection hc with hc;injection hc with _ hc _;exact au hc):G:=h
def KP(h:G:=by
 intro he;obtain⟨_,cur,hc⟩:=ax gx he;rw[i]at hc;injection hc with hc;injection hc with _ hc _;exact U_ hc I):G:=h
def K6(h:G:=by
 go_wp2;go_roundw
 case rel=>exact⟨k+1,X,gn,by rw[E.out,aY.out],l.trans z⟩
 case measure=>exact mz):G:=h
def Lb(h:G:=by
 exact⟨_,rfl,hs,ap.out,((XG.refl gx w).g_ (hg1.alloc _)).ir ((H [gx] _).setCell (.inl s_) _)⟩):G:=h
def Lj(h:G:=by
 refine iH 12 C ?_;refine hC k_ ?_ _;go_wp2;go_meet;exact⟨T.heap.size,none,0,rfl,rfl,MO,a2⟩):G:=h
def Ll(h:G:=by
 refine iH 12 C ?_;refine hC k_ ?_ _;go_wp2;go_meet;exact⟨T.heap.size,aP,c4,rfl,rfl,MO,a2⟩):G:=h
def Lm(h:G:=by
 refine rn_ ?_;exact LX):G:=h
def Lr(h:G:=by
 rw[hv]at f
 have:d=g:=by simpa[Value.ownBlock]using f
 subst this;exact⟨s,cur,hh⟩):G:=h
def Lu(h:G:=by
 rw[hv]at f
 have:d=g:=by simpa[Value.ownBlock]using f
 subst this;exact⟨cur,hh⟩):G:=h
def LL(h:G:=by
 rw[hv]at f
 have:d=g:=by simpa[Value.ownBlock]using f
 subst this;exact jM hh):G:=h
def LQ(h:G:=by
 exact λr hr=>⟨Sl.ir (Sl.xg (h.nr r hr).1 h.bk aF) a I M,(h.nr r hr).2⟩):G:=h
def LX(h:G:=by
 rw[ap.out];exact⟨_,rfl,bm,rfl,aF.ir ((H [gx] _).setCell (.inl s_) _)⟩):G:=h
def L8(h:G:=by
 go_enter func162,ntmps162
 go_wp2;go_ret;exact⟨iw (by rw[ap.out]),MR⟩):G:=h
section
def uN{w:World}{ops:Array Oper}{K:Act->World->Prop}{E:Prop}(I:o.guard=none)(s x:Operand)(t:TypeId)(T:o.op=.call {callee:=.builtin .append,args:=#[s,x],argTypes:=#[t,t]})(base:Nat)(e:TypeId)(i:TypeInfo){p:Value}(l bytes:Nat)(z:P.underlying t=some (.slice e))(R:P.info? e=some i)(W:i.zero=some p)(C:i.size=l)(y:i.bytes=bytes)(r:p.cells.size=l)(B:0<l)(L:0<bytes)(v:Value)(n:Nat)(U:a.eval s=v)(H:w.ownsRow base e l v n xs)(d:Addr)(j c:Nat)(m:List Value)(V:a.eval x=.slice (some d) j c)(S:m.length=j*l)(k:∀q u,m[q]?=some u->w.cell? (d.add q)=some u)(M:∀u∈m,u.oneCell'=true)(Z:0<j)(f:(n+j)*bytes<=140737488355328)(F:base<=w.heap.size)(h:∀(A':OA) (c':Nat) (w':World),w'.ownsRow base e l (.slice A' (n+j) c') (n+j) (xs++m)->w.grownBy w' v.ownBlock->((Value.slice A' (n+j) c').ownBlock=v.ownBlock∨(Value.slice A' (n+j) c').ownBlock=some w.heap.size)->K (a.put o.dst (.slice A' (n+j) c')) w'):
 if Region.wanted o (yielded ops a.tmps)=true then Oper.wp P o a w K Q else E:=by
 have D:Region.wanted o (yielded ops a.tmps)=true:=by simp[Region.wanted,I]
 rw[O_ D]
 have X:n+j<=maxLen:=by
  have:n+j<=(n+j)*bytes:=Hf _ L
  simp only[maxLen];omega
 obtain⟨Y,w',A,h2,N,_,J⟩:=run_append_own_at (P:=P) w base t o.type e i p l bytes z R W C y r B v n xs H d j c m S k M X f F;have O:∃A' c',Y=.slice A' (n+j) c':=KW;obtain⟨A',c',rfl⟩:=O;unfold Oper.wp execOp;simp only[T,resolve,invoke,builtin,Sem.run_bind,Sem.run_pure,Result.andThen_ok,Hj,Gn,G1,U,V,A];exact h A' c' w' h2 N J
structure XG(gx:Nat)(w w':World):Prop where
 iy:∀g t cs,w.heap[g]?=some (.cells cs t (0,0))->t≠116->g≠gx->w'.heap[g]?=some (.cells cs t (0,0))
 wH:∀g t cs fz,w.heap[g]?=some (.cells cs t fz)->t≠116->g≠gx->w'.heap[g]?=some (.cells cs t fz)
 size:w.heap.size<=w'.heap.size
def XG.refl(gx:Nat)(w:World):XG gx w w:=⟨λ_ _ _ c _ _=>c,λ_ _ _ _ c _ _=>c,H_ _⟩
def XG.trans{gx:Nat}{a b c:World}(h:XG gx a b)(k:XG gx b c):XG gx a c:=
 ⟨λg f cs i d e=>k.iy g f cs (h.iy g f cs i d e) d e,λg f cs j i d e=>k.wH g f cs j (h.wH g f cs j i d e) d e,G_ h.size k.size⟩
def jM{w:World}{o:Obj}(h:w.heap[g]?=some o):g<w.heap.size:=by
 rcases FO g w.heap.size with c|c
 .exact c
 .rw[FF c]at h
  cases h
def XG.wz{gx:Nat}{w w':World}(h:J [gx] w w'):XG gx w w':=
 ⟨λg e cs c _ d=>(h.block g (jM c) (zu d)).trans c,λg e cs f c _ d=>(h.block g (jM c) (zu d)).trans c,h.size⟩
def XG.g_{gx:Nat}{a w w':World}(h:XG gx a w)(k:J [] w w'):XG gx a w':=h.trans (XG.wz (k.of_nil _))
def XG.ir{gx:Nat}{a w w':World}(h:XG gx a w)(k:J [gx] w w'):XG gx a w':=h.trans (XG.wz k)
def Bk.xg{gx:Nat}{w w':World}{t:TypeId}(h:Bk w g t cs)(k:XG gx w w')(au:g≠gx)(MO:t≠116:=by decide):Bk w' g t cs:=k.iy g t cs h MO au
def Sl.xg{gx:Nat}{w w':World}{e:TypeId}{size:Nat}{A:OA}{n:Nat}{a:Array Value}(h:Sl w e size A n xs)(hx:Bk w gx 186 a)(k:XG gx w w')(hc:e≠116:=by decide)(ho:e≠186:=by decide):Sl w' e size A n xs:=
 ⟨h.1,λhn=>by
   obtain⟨b,off,cs,fz,U,hb,aq⟩:=h.2 hn
   have au:b≠gx:=by
    intro he;subst he;have h2:w.heap[b]?=some (.cells a 186 (0,0)):=hx;rw[h2]at hb;injection hb with hb;injection hb with _ hb _;exact ho hb.symm
   exact⟨b,off,cs,fz,U,k.wH b e cs fz hb hc au,aq⟩⟩
def Sv.val(s:Sv Cl):Value:=.slice s.A s.l.length s.c
structure ks(b w:World)(gx:Nat)(x:X1):Prop where
 bk:Bk w gx 186 x.g8
 gr:J [gx] b w
 bx:∃cs,Bk b gx 186 cs
 i3:Is b x.i3.A x.i3.l
 h:mB b x.h.A x.h.c x.h.l
 rs:w.ownsRow b.heap.size 116 4 x.e.rs.val x.e.rs.l.length (x.e.rs.l.flatMap Cl.E)
 ws:w.ownsRow b.heap.size 116 4 x.e.ws.val x.e.ws.l.length (x.e.ws.l.flatMap Cl.E)
 ne:∀g,x.e.rs.val.ownBlock=some g->x.e.ws.val.ownBlock≠some g
 nw:Os w x.e.nw.A x.e.nw.l
 nr:nV w x.e.nw.l
 ds:Ds w x.e.ds.A x.e.ds.l
 hW:As w x.e.hW.A x.e.hW.l
 tN:x.e.nw.ok
 sJ:x.e.ds.ok
 qc:x.e.hW.ok
 il:x.i3.l.length<=1000000000
 hl:x.h.l.length<=1000000000
variable{b w w':World}{gx:Nat}{x:X1}
def ks.D8(h:ks b w gx x):Is w x.i3.A x.i3.l:=by
 obtain⟨cs,c⟩:=h.bx;exact Sl.ir h.i3 c I h.gr
def ks.jQ(h:ks b w gx x):mB w x.h.A x.h.c x.h.l:=by
 obtain⟨cs,c⟩:=h.bx;exact h.h.ir c I I h.gr
def ks.lt(h:ks b w gx x):gx<b.heap.size:=by
 obtain⟨cs,c⟩:=h.bx;exact c.lt
def ks.g_(h:ks b w gx x)(k:J [] w w'):ks b w' gx x:=
 ⟨h.bk.g_ k,h.gr.trans (k.of_nil _),h.bx,h.i3,h.h,iF h.rs k,iF h.ws k,h.ne,h.nw.g_ k,h.nr.g_ k,h.ds.g_ k,h.hW.g_ k,h.tN,h.sJ,h.qc,h.il,h.hl⟩
def ks.sG{x':X1}(h:ks b w gx x)(k:J [gx] w w')(r:Bk w' gx 186 x'.g8)(l:x'.i3=x.i3)(m:x'.h=x.h)(n:x'.e.rs=x.e.rs)(i:x'.e.ws=x.e.ws)(e:x'.e.nw=x.e.nw)(f:x'.e.ds=x.e.ds)(j:x'.e.hW=x.e.hW):ks b w' gx x':=by
 refine⟨r,h.gr.trans k,h.bx,by rw[l];exact h.i3,by rw[m];exact h.h,?_,?_,by rw[n,i];exact h.ne,?_,?_,?_,?_,by rw[e];exact h.tN,by rw[f];exact h.sJ,by rw[j];exact h.qc,by rw[l];exact h.il,by rw[m];exact h.hl⟩
 .rw[n];exact kR (x:=gx) h.rs (λp q c=>by have d:w.heap[gx]?=some (.cells x.g8 186 (0,0)):=h.bk;rw[d]at c;injection c with c;injection c with _ c _;exact U_ c I) k
 .rw[i];exact kR (x:=gx) h.ws (λp q c=>by have d:w.heap[gx]?=some (.cells x.g8 186 (0,0)):=h.bk;rw[d]at c;injection c with c;injection c with _ c _;exact U_ c I) k
 .rw[e];exact Sl.ir h.nw h.bk I k
 .rw[e];exact h.nr.ir h.bk I k
 .rw[f];exact Sl.ir h.ds h.bk I k
 .rw[j];exact Sl.ir h.hW h.bk I k
def ks.set{x':X1}(h:ks b w gx x)(i:Nat)(u:Value)(m:x'.g8=x.g8.setIfInBounds i u)(j:x'.i3=x.i3)(k:x'.h=x.h)(l:x'.e.rs=x.e.rs)(d:x'.e.ws=x.e.ws)(e:x'.e.nw=x.e.nw)(c:x'.e.ds=x.e.ds)(f:x'.e.hW=x.e.hW):ks b (w.setCell (Z gx i) u) gx x':=
 h.sG ((H [gx] w).setCell (p:=(Z gx i)) (.inl s_) u) (by rw[m];exact h.bk.hN i u) j k l d e c f
def kW(v:Value)(P:XP)(b:World)(gx:Nat)(w:World)(e:Ending)(w':World):Prop:=∃x':X1,e=.returned v/\ks b w' gx x'/\x'.p=P/\XG gx w w'
def sH{b w:World}{gx:Nat}{x:X1}(h:ks b w gx x)(v:Array Value):∃W g,w.alloc (.cells v 189)=W/\w.heap.size=g/\ks b W gx x/\Bk W g 189 v/\XG gx w W/\g≠gx:=⟨_,_,rfl,rfl,h.g_ ((H [] w).alloc _),Q_ w 189 v,(XG.refl gx w).g_ ((H [] w).alloc _),by have:=h.bk.lt;omega⟩
end
def pb(A:OA)(c:Nat)(l:List In)(hq g9 n:Int)(w:World)(h:Is w A l)(v:l.length<=1000000000):
 Calls prog 162 #[.agg #[.slice A l.length c,Y hq,Y g9],Y n] w λe w'=>e=.returned (.bool (iA l n))/\J [] w w':=by
 have MR:=(H [] w).alloc (.cells #[.slice A l.length c,Y hq,Y g9] 26);have s:=Q_ w 26 #[.slice A l.length c,Y hq,Y g9];have B:=s.f_ 0
 by_cases i:0<=n
 .by_cases f:n<(l.length:Int)
  .obtain⟨d,rfl⟩:∃d:Nat,n=d:=⟨n.toNat,X⟩;have j:d<l.length:=X;have ap:=O (show iA l (d:Int)=(l[d].op==21) by unfold iA;simp[j]);obtain⟨u,y,rfl,t,r,p,q,m⟩:=(h.g_ MR).at_ j;clear r p q m;generalize l[d].op=z at*;generalize l.length=n at*;exact L8
  .have ap:=O (show iA l n=false by unfold iA;simp[f]);have k:(n<(l.length:Int))=False:=p_;clear f;exact L8
 .have ap:=O (show iA l n=false by unfold iA;simp[i]);have k:(0<=n)=False:=p_;clear i;exact L8
def q6(b:World){w:World}(gx:Nat)(x:X1)(L:ks b w gx x):
 Calls prog 116 #[q_ gx] w (kW (.tuple #[]) (iB x.p) b gx w):=by
 have P:w.cell? (Z gx 36)=some (.slice x.h.A x.h.l.length x.h.c):=(L.bk.f_ 36).trans rfl
 cases j:x.hH with
 |true=>
  have k:x.g8[81]?=some (.bool true):=by rw[<-j];rfl
  have ap:Hid (({x with hH:=true}:X1).p=iB x.p):=O (by show _=iB x.p;unfold iB;have d:x.p.hH=true:=j;rw[d];rfl)
  cases i:iU (hU x.h.l) 1 with
  |none=>
   go_enter func116,ntmps116
   go_wp2_with (go_at_call 14;((with_reducible refine(get_none x.h.A x.h.c x.h.l 1 _ L.jQ.os L.hl i).mono ?_);rintro d c⟨rfl,hg1⟩;have g:=L.g_ (hg1.alloc (.cells #[Y 0,n_] 56));have h:=Q_ c 56 #[Y 0,n_];have q:=h.f_ 1;have r:(c.alloc (.cells #[Y 0,n_] 56)).cell? (Z gx 81)=some (.bool true):=(g.bk.f_ 81).trans k;have n:=g.bk.hm 81))
   exact Jz
  |some o=>
   go_enter func116,ntmps116
   go_wp2_with (go_at_call 14;((with_reducible refine(get_some x.h.A x.h.c x.h.l 1 o _ L.jQ.os L.jQ.lD L.hl i).mono ?_);rintro d c⟨e,f,rfl,s,hg1⟩;have g:=L.g_ (hg1.alloc (.cells #[Y o.id,.slice e o.fs.length f] 56));have h:=Q_ c 56 #[Y o.id,.slice e o.fs.length f];have q:=h.f_ 1;have r:(c.alloc (.cells #[Y o.id,.slice e o.fs.length f] 56)).cell? (Z gx 81)=some (.bool true):=(g.bk.f_ 81).trans k;have n:=g.bk.hm 81))
   exact Jz
 |false=>
  have k:x.g8[81]?=some (.bool false):=by rw[<-j];rfl
  cases i:iU (hU x.h.l) 1 with
  |none=>
   have ap:Hid (({x with hH:=true}:X1).p=iB x.p):=O (by show _=iB x.p;unfold iB;have d:x.p.hH=false:=j;have m:iU x.p.h 1=none:=i;rw[d,m];rfl)
   go_enter func116,ntmps116
   go_wp2_with (go_at_call 14;((with_reducible refine(get_none x.h.A x.h.c x.h.l 1 _ L.jQ.os L.hl i).mono ?_);rintro d c⟨rfl,hg1⟩;have g:=L.g_ (hg1.alloc (.cells #[Y 0,n_] 56));have h:=Q_ c 56 #[Y 0,n_];have q:=h.f_ 1;have r:(c.alloc (.cells #[Y 0,n_] 56)).cell? (Z gx 81)=some (.bool false):=(g.bk.f_ 81).trans k;have n:=g.bk.hm 81))
   exact Jz
  |some o=>
   by_cases l:(o.fs.length:Int)<3
   .have ap:Hid (({x with hH:=true}:X1).p=iB x.p):=O (by show _=iB x.p;unfold iB;have d:x.p.hH=false:=j;have m:iU x.p.h 1=some o:=i;rw[d,m];simp[l];rfl)
    have t:((o.fs.length:Int)<3)=True:=by simp[l]
    clear l
    go_enter func116,ntmps116
    go_wp2_with (go_at_call 14;((with_reducible refine(get_some x.h.A x.h.c x.h.l 1 o _ L.jQ.os L.jQ.lD L.hl i).mono ?_);rintro d c⟨e,f,rfl,s,hg1⟩;have g:=L.g_ (hg1.alloc (.cells #[Y o.id,.slice e o.fs.length f] 56));have h:=Q_ c 56 #[Y o.id,.slice e o.fs.length f];have q:=h.f_ 1;have r:(c.alloc (.cells #[Y o.id,.slice e o.fs.length f] 56)).cell? (Z gx 81)=some (.bool false):=(g.bk.f_ 81).trans k;have n:=g.bk.hm 81))
    exact Jz
   .have ap:Hid (({x with hH:=false}:X1).p=iB x.p):=O (by show _=iB x.p;unfold iB;have d:x.p.hH=false:=j;have m:iU x.p.h 1=some o:=i;rw[d,m];simp[l];rfl)
    have t:((o.fs.length:Int)<3)=False:=by simp[l]
    clear l
    go_enter func116,ntmps116
    go_wp2_with (go_at_call 14;((with_reducible refine(get_some x.h.A x.h.c x.h.l 1 o _ L.jQ.os L.jQ.lD L.hl i).mono ?_);rintro d c⟨e,f,rfl,s,hg1⟩;have g:=L.g_ (hg1.alloc (.cells #[Y o.id,.slice e o.fs.length f] 56));have h:=Q_ c 56 #[Y o.id,.slice e o.fs.length f];have q:=h.f_ 1;have r:(c.alloc (.cells #[Y o.id,.slice e o.fs.length f] 56)).cell? (Z gx 81)=some (.bool false):=(g.bk.f_ 81).trans k;have n:=g.bk.hm 81))
    refine rn_ ?_;have hs:=g.set (x':={x with hH:=false}) 81 (.bool false) rfl rfl rfl rfl rfl rfl rfl rfl;exact Lb
def ks.DI{b w w':World}{gx:Nat}{x:X1}(h:ks b w gx x)(k:Cl)(z:w'.ownsRow b.heap.size 116 4 (.slice aD (x.e.ws.l.length+1) am) (x.e.ws.l.length+1) (x.e.ws.l.flatMap Cl.E++Cl.E k))(n:w.grownBy w' x.e.ws.val.ownBlock)(q:(Value.slice aD (x.e.ws.l.length+1) am).ownBlock=x.e.ws.val.ownBlock∨(Value.slice aD (x.e.ws.l.length+1) am).ownBlock=some w.heap.size):
 ks b (w'.setCell (Z gx 73) (.slice aD (x.e.ws.l.length+1) am)) gx ({x with e:={x.e with ws:=⟨aD,am,x.e.ws.l++[k]⟩}}:X1)/\XG gx w (w'.setCell (Z gx 73) (.slice aD (x.e.ws.l.length+1) am)):=by
 have t:(x.e.ws.l++[k]).length=x.e.ws.l.length+1:=s_
 have ax:∀g,x.e.ws.val.ownBlock=some g->b.heap.size<=g/\∃cur,w.heap[g]?=some (.cells cur 116 (0,0)):=by
  intro g f
  rcases h.ws.2 with⟨hv,_⟩|⟨d,v,cur,hv,s,hh,_⟩
  .rw[hv]at f
   cases f
  .exact Lr
 have D:∀g,x.e.rs.val.ownBlock=some g->g<w.heap.size:=by
  intro g f
  rcases h.rs.2 with⟨hv,_⟩|⟨d,v,cur,hv,s,hh,_⟩
  .rw[hv]at f
   cases f
  .exact LL
 have i:w.heap[gx]?=some (.cells x.g8 186 (0,0)):=h.bk;have J:x.e.ws.val.ownBlock≠some gx:=KP;have a:Bk w' gx 186 x.g8:=(n.block gx (jM i) (Ne.symm J)).trans i
 have aF:XG gx w w':=⟨λg F cs j m l=>(n.block g (jM j) (λhe=>by
  obtain⟨_,cur,hc⟩:=ax g he.symm;rw[j]at hc;injection hc with hc;injection hc with _ hc _
  exact m hc)).trans j,λg F cs fz j m l=>(n.block g (jM j) (λhe=>by
  obtain⟨_,cur,hc⟩:=ax g he.symm;rw[j]at hc;injection hc with hc;injection hc with _ hc _
  exact m hc)).trans j,n.size⟩
 have M:=(H [gx] w').setCell (p:=(Z gx 73)) (.inl s_) (.slice aD (x.e.ws.l.length+1) am);have u:∀c fz,w'.heap[gx]?≠some (.cells c 116 fz):=Kr
 have C:w'.ownsRow b.heap.size 116 4 x.e.rs.val x.e.rs.l.length (x.e.rs.l.flatMap Cl.E):=by
  refine h.rs.kept n ?_
  rcases h.rs.2 with⟨hv,_⟩|⟨d,v,cur,hv,_⟩
  .exact .inl (by rw[hv];rfl)
  .right;rw[hv];intro he
   have y:x.e.rs.val.ownBlock=some d:=by rw[hv];rfl
   have A:x.e.ws.val.ownBlock=some d:=he.symm.trans rfl;exact h.ne d y A
 refine⟨⟨?_,(h.gr.grown n (λE B=>.inr (ax E B).1)).trans M,h.bx,h.i3,h.h,?_,?_,?_,?_,?_,?_,?_,h.tN,h.sJ,h.qc,h.il,h.hl⟩,aF.ir M⟩
 .have e:({x with e:={x.e with ws:=⟨aD,am,x.e.ws.l++[k]⟩}}:X1).g8=x.g8.setIfInBounds 73 (.slice aD (x.e.ws.l.length+1) am):=by rw[<-t];rfl
  rw[e];exact a.hN 73 _
 .exact kR (x:=gx) C u M
 .show World.ownsRow _ _ _ _ (.slice aD (x.e.ws.l++[k]).length am) (x.e.ws.l++[k]).length ((x.e.ws.l++[k]).flatMap Cl.E)
  rw[t,F2]
  simpa using kR (x:=gx) z u M
 .intro g j m
  rcases q with q|q
  .exact h.ne g j (by rw[<-q,<-t];exact m)
  .have l:=m;unfold Sv.val at l;simp only at l;rw[t,q]at l;injection l with l
   have:=D g j
   omega
 .exact Sl.ir (Sl.xg h.nw h.bk aF) a I M
 .exact LQ
 .exact Sl.ir (Sl.xg h.ds h.bk aF) a I M
 .exact Sl.ir (Sl.xg h.hW h.bk aF) a I M
def ks.DJ{b w w':World}{gx:Nat}{x:X1}(h:ks b w gx x)(k:Cl)(z:w'.ownsRow b.heap.size 116 4 (.slice aD (x.e.rs.l.length+1) am) (x.e.rs.l.length+1) (x.e.rs.l.flatMap Cl.E++Cl.E k))(n:w.grownBy w' x.e.rs.val.ownBlock)(q:(Value.slice aD (x.e.rs.l.length+1) am).ownBlock=x.e.rs.val.ownBlock∨(Value.slice aD (x.e.rs.l.length+1) am).ownBlock=some w.heap.size):
 ks b (w'.setCell (Z gx 72) (.slice aD (x.e.rs.l.length+1) am)) gx ({x with e:={x.e with rs:=⟨aD,am,x.e.rs.l++[k]⟩}}:X1)/\XG gx w (w'.setCell (Z gx 72) (.slice aD (x.e.rs.l.length+1) am)):=by
 have t:(x.e.rs.l++[k]).length=x.e.rs.l.length+1:=s_
 have ax:∀g,x.e.rs.val.ownBlock=some g->b.heap.size<=g/\∃cur,w.heap[g]?=some (.cells cur 116 (0,0)):=by
  intro g f
  rcases h.rs.2 with⟨hv,_⟩|⟨d,v,cur,hv,s,hh,_⟩
  .rw[hv]at f
   cases f
  .exact Lr
 have D:∀g,x.e.ws.val.ownBlock=some g->g<w.heap.size:=by
  intro g f
  rcases h.ws.2 with⟨hv,_⟩|⟨d,v,cur,hv,s,hh,_⟩
  .rw[hv]at f
   cases f
  .exact LL
 have i:w.heap[gx]?=some (.cells x.g8 186 (0,0)):=h.bk;have J:x.e.rs.val.ownBlock≠some gx:=KP;have a:Bk w' gx 186 x.g8:=(n.block gx (jM i) (Ne.symm J)).trans i
 have aF:XG gx w w':=⟨λg F cs j m l=>(n.block g (jM j) (λhe=>by
  obtain⟨_,cur,hc⟩:=ax g he.symm;rw[j]at hc;injection hc with hc;injection hc with _ hc _
  exact m hc)).trans j,λg F cs fz j m l=>(n.block g (jM j) (λhe=>by
  obtain⟨_,cur,hc⟩:=ax g he.symm;rw[j]at hc;injection hc with hc;injection hc with _ hc _
  exact m hc)).trans j,n.size⟩
 have M:=(H [gx] w').setCell (p:=(Z gx 72)) (.inl s_) (.slice aD (x.e.rs.l.length+1) am);have u:∀c fz,w'.heap[gx]?≠some (.cells c 116 fz):=Kr
 have C:w'.ownsRow b.heap.size 116 4 x.e.ws.val x.e.ws.l.length (x.e.ws.l.flatMap Cl.E):=by
  refine h.ws.kept n ?_
  rcases h.ws.2 with⟨hv,_⟩|⟨d,v,cur,hv,_⟩
  .exact .inl (by rw[hv];rfl)
  .right;rw[hv];intro he
   have y:x.e.ws.val.ownBlock=some d:=by rw[hv];rfl
   have A:x.e.rs.val.ownBlock=some d:=he.symm.trans rfl;exact h.ne d A y
 refine⟨⟨?_,(h.gr.grown n (λE B=>.inr (ax E B).1)).trans M,h.bx,h.i3,h.h,?_,?_,?_,?_,?_,?_,?_,h.tN,h.sJ,h.qc,h.il,h.hl⟩,aF.ir M⟩
 .have e:({x with e:={x.e with rs:=⟨aD,am,x.e.rs.l++[k]⟩}}:X1).g8=x.g8.setIfInBounds 72 (.slice aD (x.e.rs.l.length+1) am):=by rw[<-t];rfl
  rw[e];exact a.hN 72 _
 .show World.ownsRow _ _ _ _ (.slice aD (x.e.rs.l++[k]).length am) (x.e.rs.l++[k]).length ((x.e.rs.l++[k]).flatMap Cl.E)
  rw[t,F2]
  simpa using kR (x:=gx) z u M
 .exact kR (x:=gx) C u M
 .intro g j m
  rcases q with q|q
  .exact h.ne g (by rw[<-q,<-t];exact j) m
  .have l:=j;unfold Sv.val at l;simp only at l;rw[t,q]at l;injection l with l
   have:=D g m
   omega
 .exact Sl.ir (Sl.xg h.nw h.bk aF) a I M
 .exact LQ
 .exact Sl.ir (Sl.xg h.ds h.bk aF) a I M
 .exact Sl.ir (Sl.xg h.hW h.bk aF) a I M
def ks.AX{b w:World}{gx:Nat}{x:X1}(h:ks b w gx x):∀g,x.e.ws.val.ownBlock=some g->∃cur,w.heap[g]?=some (.cells cur 116 (0,0)):=by
 intro g f
 rcases h.ws.2 with⟨hv,_⟩|⟨d,c,cur,hv,e,hh,_⟩
 .rw[hv]at f
  cases f
 .exact Lu
def ks.BH{b w w':World}{gx:Nat}{x:X1}{t:TypeId}(h:ks b w gx x)(d:w.grownBy w' x.e.ws.val.ownBlock)(hk:Bk w g t cs)(au:t≠116):Bk w' g t cs:=by
 refine(d.block g hk.lt (λc=>?_)).trans hk;obtain⟨e,hc⟩:=h.AX g c.symm;exact KK
def ks.Cz{b w w':World}{gx:Nat}{x:X1}(h:ks b w gx x)(c:w.grownBy w' x.e.ws.val.ownBlock):Bk w' gx 186 x.g8:=h.BH c h.bk I
def ks.AY{b w:World}{gx:Nat}{x:X1}(h:ks b w gx x):∀g,x.e.rs.val.ownBlock=some g->∃cur,w.heap[g]?=some (.cells cur 116 (0,0)):=by
 intro g f
 rcases h.rs.2 with⟨hv,_⟩|⟨d,c,cur,hv,e,hh,_⟩
 .rw[hv]at f
  cases f
 .exact Lu
def ks.x8{b w w':World}{gx:Nat}{x:X1}{t:TypeId}(h:ks b w gx x)(d:w.grownBy w' x.e.rs.val.ownBlock)(hk:Bk w g t cs)(au:t≠116):Bk w' g t cs:=by
 refine(d.block g hk.lt (λc=>?_)).trans hk;obtain⟨e,hc⟩:=h.AY g c.symm;exact KK
def ks.CC{b w w':World}{gx:Nat}{x:X1}(h:ks b w gx x)(c:w.grownBy w' x.e.rs.val.ownBlock):Bk w' gx 186 x.g8:=h.x8 c h.bk I
def jZ(b:World){w:World}(gx:Nat)(x:X1)(id f:Int)(v:Vl)(L:ks b w gx x)(hn:x.e.ws.l.length<=1000000):
 Calls prog 163 #[q_ gx,Y id,Y f,.agg (V_ v)] w (kW (.tuple #[]) (h4 x.p id f v) b gx w):=by
 obtain⟨F,M,N,C,K⟩:=info_parts infoCl;have k:=Q_ w 38 (V_ v);have m:=(H [] w).alloc (.cells (V_ v) 38);have g:=L.g_ m
 go_enter func163,ntmps163
 go_upto_region 1 with fail
 obtain⟨e,t⟩:=nm_ (w.alloc (.cells (V_ v) 38));rw[<-t]at k m g |-;clear t;have n:J [] e e.drew:=(H [] e).drew;refine hI (λw'=>w'.cell? (Z gx 73)=some (.slice x.e.ws.A x.e.ws.l.length x.e.ws.c)/\w'.cell? (Z w.heap.size 0)=some (.bool v.r)/\w'.cell? (Z w.heap.size 1)=some (Y v.n)) 15 k_ ?_
 refine nZ ⟨((g.bk.g_ n).f_ 73).trans rfl,(k.g_ n).f_ 0,(k.g_ n).f_ 1⟩ λd=>?_
 repeat refine jW d ?_
 refine hV 10 λi c=>?_
 go_simp;have o:J [] e ((e.alloc (.cells #[Y id,Y f,.bool v.r,Y v.n] 116)).drew):=((H [] e).alloc _).drew;clear d;have d:((e.alloc (.cells #[Y id,Y f,.bool v.r,Y v.n] 116)).drew).cell? (Z gx 73)=some (.slice x.e.ws.A x.e.ws.l.length x.e.ws.c)/\((e.alloc (.cells #[Y id,Y f,.bool v.r,Y v.n] 116)).drew).cell? (Z w.heap.size 0)=some (.bool v.r)/\((e.alloc (.cells #[Y id,Y f,.bool v.r,Y v.n] 116)).drew).cell? (Z w.heap.size 1)=some (Y v.n):=⟨((g.bk.g_ o).f_ 73).trans rfl,(k.g_ o).f_ 0,(k.g_ o).f_ 1⟩;have r:Bk ((e.alloc (.cells #[Y id,Y f,.bool v.r,Y v.n] 116)).drew) e.heap.size 116 #[Y id,Y f,.bool v.r,Y v.n]:=(Q_ e 116 #[Y id,Y f,.bool v.r,Y v.n]).drew;have j:=g.g_ o;obtain⟨U,u⟩:=nm_ ((e.alloc (.cells #[Y id,Y f,.bool v.r,Y v.n] 116)).drew);rw[<-u]at o d r j |-;clear u;generalize e.heap.size=D at*;obtain⟨W,a,A⟩:=(kV (s:=4) r rfl).nR I;injection a with a;subst a
 refine hX c d λd=>?_
 clear c i
 refine hV 11 λi c=>?_
 refine uN rfl (.tmp 13) (.tmp 18) 50 rfl (b.heap.size) 116 F 4 32 underlying50 M N C K rfl I I (.slice x.e.ws.A x.e.ws.l.length x.e.ws.c) x.e.ws.l.length r_ j.ws (Z D 0) 1 1 (Cl.E ⟨id,f,v⟩) r_ rfl A (by intro T R;exact p9 [⟨id,f,v⟩] T (zu R)) I X j.gr.size ?_;intro aD am E O l S;obtain⟨B,z⟩:=j.DI ⟨id,f,v⟩ O l S;have p:=j.Cz l;have y:Bk E w.heap.size 38 (V_ v):=j.BH l (k.g_ o) I;have ad:=p.f_ 73;have V:=p.hm 73;clear d
 refine hX c ⟨(p.f_ 73).trans rfl,y.f_ 0,y.f_ 1⟩ λd=>?_
 clear c i
 refine hV 12 λi c=>?_
 go_simp
 refine hX c d λd=>?_
 clear c i
 refine hV 13 λi c=>?_
 go_simp
 refine hX c d λd=>?_
 clear c i
 refine hV 14 λi c=>?_
 go_simp
 refine hX c d λd=>?_
 clear c i
 refine hV 15 λi c=>?_
 go_simp;refine c.out _ _ (λh=>U_ h I) ?_;clear c i
 try simp only[a_]
 refine hC k_ ?_ _;go_wp2;refine en_ ?_;exact⟨_,rfl,B,rfl,((XG.refl gx w).g_ (m.trans o)).trans z⟩
def XG.new{gx:Nat}{w j T:World}(h:XG gx w j)(k:J [g] j T)(m:w.heap.size<=g):XG gx w T:=
 ⟨λd i cs c e f=>(k.block d (jM (h.iy d i cs c e f)) (by have:=jM c;simp;omega)).trans (h.iy d i cs c e f),
  λd i cs l c e f=>(k.block d (jM (h.wH d i cs l c e f)) (by have:=jM c;simp;omega)).trans (h.wH d i cs l c e f),G_ h.size k.size⟩
def Bk.ql{w:World}{t e:TypeId}(h:Bk w g t cs)(au:e≠t):∀c fz,w.heap[g]?≠some (.cells c e fz):=Kt
def ks.late{b w c T:World}{gx:Nat}{x d:X1}{t:TypeId}(h:ks b c gx d)(h0:ks b w gx x)(j:d.e.nw=x.e.nw)(u:d.e.ds=x.e.ds)(v:d.e.hW=x.e.hW)(k:J [g] c T)(y:w.heap.size<=g)(l:Bk c g t cs)(p:t≠116)(a:t≠186)(f:XG gx w T):ks b T gx d:=by
 have s:gx≠g:=by
  intro C;subst C;have B:c.heap[gx]?=some (.cells d.g8 186 (0,0)):=h.bk;have e:c.heap[gx]?=some (.cells cs t (0,0)):=l;rw[B]at e;injection e with e;injection e with _ e _;exact a e.symm
 have i:∀z A,c.heap[g]?≠some (.cells z 116 A):=l.ql (Ne.symm p);refine⟨h.bk.gr k (zu s),h.gr.hA k (λq r=>Or.inr (by rw[show q=g from by simpa using r];exact G_ h0.gr.size y)),h.bx,h.i3,h.h,kR (x:=g) h.rs i k,kR (x:=g) h.ws i k,h.ne,?_,?_,?_,?_,h.tN,h.sJ,h.qc,h.il,h.hl⟩
 .rw[j];exact Sl.xg h0.nw h0.bk f
 .rw[j]
  exact λn m=>⟨Sl.xg (h0.nr n m).1 h0.bk f,(h0.nr n m).2⟩
 .rw[u];exact Sl.xg h0.ds h0.bk f
 .rw[v];exact Sl.xg h0.hW h0.bk f
def m8(P:XP)(v:Vl)(b:World)(gx:Nat)(w:World)(e:Ending)(w':World):Prop:=∃x':X1,e=.returned (.agg (V_ v))/\ks b w' gx x'/\x'.p=P/\XG gx w w'
def wt(b w:World)(gx:Nat)(x:X1)(id f:Int)(L:ks b w gx x)(R:x.e.rs.l.length<=1000000)(j:h6 (hU x.h.l) id f=none):
 Calls prog 118 #[q_ gx,Y id,Y f] w (m8 (hJ x.p id f).1 (hJ x.p id f).2 b gx w):=by
 have A:=O j;have v:Hid (hJ x.p id f=({x.p with hH:=true},default)):=O (by unfold hJ;have r:h6 x.p.h id f=none:=j;rw[r]);clear j;have i:=(H [] w).alloc (.cells #[.bool false,Y 0] 38);have s:=Q_ w 38 #[.bool false,Y 0];have g:=L.g_ i
 go_enter func118,ntmps118
 go_upto_region 1 with fail
 obtain⟨l,m⟩:=nm_ (w.alloc (.cells #[.bool false,Y 0] 38));rw[<-m]at s i g |-;clear m;have P:l.cell? (Z gx 36)=some (.slice x.h.A x.h.l.length x.h.c):=(g.bk.f_ 36).trans rfl;have u:gx≠w.heap.size:=ov L.bk.lt
 go_upto_region 3 with(go_at_call 148;((with_reducible refine(kA x.h.A x.h.c x.h.l id f _ g.jQ.os g.jQ.lD L.hl).mono ?_);rintro r c⟨rfl,h⟩;rw[A.out];simp only[HE,HK];have e:=g.g_ (h.alloc (.cells (V_ (default:Vl)) 38));have y:=(s.g_ h).alloc (.cells (V_ (default:Vl)) 38);have N:Bk (c.alloc (.cells (V_ (default:Vl)) 38)) c.heap.size 38 (V_ (default:Vl)):=Q_ c 38 (V_ (default:Vl));have Q:J [] l (c.alloc (.cells (V_ (default:Vl)) 38)):=h.alloc _;have E:(c.alloc (.cells (V_ (default:Vl)) 38)).cell? (Z gx 72)=some (.slice x.e.rs.A x.e.rs.l.length x.e.rs.c):=(e.bk.f_ 72).trans rfl))
 have F:(c.alloc (.cells (V_ (default:Vl)) 38)).cell? (Z gx 81)=some (.bool x.hH):=(e.bk.f_ 81).trans rfl;have C:=e.bk.hm 81;have t:=e.set (x':={x with hH:=true}) 81 (.bool true) rfl rfl rfl rfl rfl rfl rfl rfl;have d:=y.ib (p:=(Z gx 81)) (Ne.symm u) (.bool true);have B:=d.f_ 0;have D:=d.f_ 1;have K:=d.hm 0;have M:=d.hm 1;go_wp2;have q:=(d.hN 0 (.bool false)).hN 1 (Y 0);have z:J [gx] w ((c.alloc (.cells (V_ (default:Vl)) 38)).setCell (Z gx 81) (.bool true)):=(((i.trans Q).of_nil [gx])).setCell (p:=(Z gx 81)) (.inl s_) _;have k:=((H [w.heap.size] ((c.alloc (.cells (V_ (default:Vl)) 38)).setCell (Z gx 81) (.bool true))).setCell (p:=(Z w.heap.size 0)) (.inl s_) (.bool false)).setCell (p:=(Z w.heap.size 1)) (.inl s_) (Y 0);have n:=(XG.wz z).new k (H_ _);refine rr_ #[.bool false,Y 0] q underlying38 ?_;rw[v.out];exact⟨_,rfl,t.late L rfl rfl rfl k (H_ _) d I I n,rfl,n⟩
def yZ{x:XP}{id f:Int}{v:Vl}(h:h6 x.h id f=some v)(c:0<=cat x.e.rs id f):hJ x id f=(x,v):=by
 unfold hJ;rw[h];simp[c]
def xl{x:XP}{id f:Int}{v:Vl}(h:h6 x.h id f=some v)(c:cat x.e.rs id f= -1):hJ x id f=({x with e:={x.e with rs:=x.e.rs++[⟨id,f,v⟩]}},v):=by
 unfold hJ;rw[h];simp[c]
def wq(b w:World)(gx:Nat)(x:X1)(id f:Int)(L:ks b w gx x)(hn:x.e.rs.l.length<=1000000)(v:Vl)(hr:h6 (hU x.h.l) id f=some v):
 Calls prog 118 #[q_ gx,Y id,Y f] w (m8 (hJ x.p id f).1 (hJ x.p id f).2 b gx w):=by
 have al:=O hr;have bh:=O (show cat x.e.rs.l id f=iR (λd:Cl=>d.id==id&&d.f==f) (x.e.rs.l.drop 0) 0 from rfl);clear hr;obtain⟨bC,bv,bw,aZ,bg⟩:=info_parts infoCl;have K:=(H [] w).alloc (.cells #[.bool false,Y 0] 38);have V:=Q_ w 38 #[.bool false,Y 0];have g:=L.g_ K
 go_enter func118,ntmps118
 go_upto_region 1 with fail
 obtain⟨an,az⟩:=nm_ (w.alloc (.cells #[.bool false,Y 0] 38));rw[<-az]at V K g |-;clear az;have P:an.cell? (Z gx 36)=some (.slice x.h.A x.h.l.length x.h.c):=(g.bk.f_ 36).trans rfl;have ad:gx≠w.heap.size:=ov L.bk.lt
 go_wp2_with (go_at_call 148;((with_reducible refine(kA x.h.A x.h.c x.h.l id f _ g.jQ.os g.jQ.lD L.hl).mono ?_);rintro aA t⟨rfl,D⟩;rw[al.out];simp only[GE,Hl];have j:=g.g_ (D.alloc (.cells (V_ v) 38));have b9:=(V.g_ D).alloc (.cells (V_ v) 38);have m:Bk (t.alloc (.cells (V_ v) 38)) t.heap.size 38 (V_ v):=Q_ t 38 (V_ v);have Q:J [] an (t.alloc (.cells (V_ v) 38)):=D.alloc _;have au:(t.alloc (.cells (V_ v) 38)).cell? (Z gx 72)=some (.slice x.e.rs.A x.e.rs.l.length x.e.rs.c):=(j.bk.f_ 72).trans rfl))
 have bV:=L;have u:=b9;clear b9 V g P au;obtain⟨bf,bD⟩:=nm_ (t.alloc (.cells (V_ v) 38));rw[<-bD]at j u m Q |-;clear bD;clear D;generalize t.heap.size=C at*;have aw:=j
 go_loopw [33] (λW wr=>∃k:Nat,k<=x.e.rs.l.length/\W=Y k/\cat x.e.rs.l id f=iR (λd:Cl=>d.id==id&&d.f==f) (x.e.rs.l.drop k) k/\J [] bf wr) (λW _=>x.e.rs.l.length-(intOf W).toNat)
 case atStart=>exact⟨0,P_ _,rfl,bh.out,H _ _⟩
 case round=>
  obtain⟨k,hk,rfl,G,l⟩:=hrel;have E:=O G;clear G;replace j:=aw.g_ l;replace m:=m.g_ l;replace u:=u.g_ l
  by_cases M:k<x.e.rs.l.length
  .have aP:(k:Int)<(x.e.rs.l.length:Int):=X;obtain⟨bn,off,aG,bm,bu,bH,bM⟩:=Cs.at_ (Sl.iQ j.rs) M;rw[aG];have aW:=O (show x.e.rs.l.drop k=x.e.rs.l[k]::x.e.rs.l.drop (k+1) from Y_ M);have bO:=O (λB:((λd:Cl=>d.id==id&&d.f==f) x.e.rs.l[k]=true)=>mL (λd:Cl=>d.id==id&&d.f==f) x.e.rs.l k k M B);have N:=O (λB:((λd:Cl=>d.id==id&&d.f==f) x.e.rs.l[k]=false)=>k6 (λd:Cl=>d.id==id&&d.f==f) x.e.rs.l k k M B);generalize x.e.rs.l[k]=c at*;have T:=Q_ wr 116 #[Y c.id,Y c.f,.bool c.v.r,Y c.v.n];have z:=(H [] wr).alloc (.cells #[Y c.id,Y c.f,.bool c.v.r,Y c.v.n] 116);have z0:=T.f_ 0;have aR:=T.f_ 1
   by_cases i:c.id=id
   .have n:(c.id==id)=true:=zu i
    by_cases r:c.f=f
    .have F:(c.f==f)=true:=zu r;have aY:=O (show 0<=cat x.p.e.rs id f by show 0<=cat x.e.rs.l id f;rw[E.out,bO.out (by simp[n,F])];omega);have S:=O (yZ (x:=x.p) al.out aY.out);clear i r;have R:=m.g_ z;have MN:=R.f_ 0;have ai:=R.f_ 1;have e:=u.g_ z;have r0:=e.f_ 0;have r1:=e.f_ 1;have f0:=e.hm 0;have f1:=e.hm 1;go_wp2;have q:=(e.hN 0 (.bool v.r)).hN 1 (Y v.n);have U:J [] w (wr.alloc (.cells #[Y c.id,Y c.f,.bool c.v.r,Y c.v.n] 116)):=((K.trans Q).trans l).trans z;have y:=((H [w.heap.size] (wr.alloc (.cells #[Y c.id,Y c.f,.bool c.v.r,Y c.v.n] 116))).setCell (p:=(Z w.heap.size 0)) (.inl s_) (.bool v.r)).setCell (p:=(Z w.heap.size 1)) (.inl s_) (Y v.n);have A:=((XG.refl gx w).g_ U).new y (H_ _);refine rr_ (V_ v) q underlying38 ?_;rw[S.out];exact⟨_,rfl,(j.g_ z).late bV rfl rfl rfl y (H_ _) e I I A,rfl,A⟩
    .have F:(c.f==f)=false:=zu r;have aY:=O (N.out (by simp[n,F]));clear i r;exact K6
   .have n:(c.id==id)=false:=zu i;have aY:=O (N.out (by simp[n]));clear i;exact K6
  .have aP:¬(k:Int)<(x.e.rs.l.length:Int):=X;have aY:=O (show cat x.p.e.rs id f= -1 by show cat x.e.rs.l id f= -1;rw[E.out,F3 X];rfl);have S:=O (xl (x:=x.p) al.out aY.out);clear E bh aY
   go_wp2_with fail
   clear aP;have T:J [] wr wr.drew:=(H [] wr).drew;refine hI (λw'=>w'.cell? (Z gx 72)=some (.slice x.e.rs.A x.e.rs.l.length x.e.rs.c)/\w'.cell? (Z C 0)=some (.bool v.r)/\w'.cell? (Z C 1)=some (Y v.n)) 15 k_ ?_
   refine nZ ⟨((j.bk.g_ T).f_ 72).trans rfl,(m.g_ T).f_ 0,(m.g_ T).f_ 1⟩ λe=>?_
   repeat refine jW e ?_
   refine hV 10 λi c=>?_
   go_simp;have o:J [] wr ((wr.alloc (.cells #[Y id,Y f,.bool v.r,Y v.n] 116)).drew):=((H [] wr).alloc _).drew;clear e;have e:((wr.alloc (.cells #[Y id,Y f,.bool v.r,Y v.n] 116)).drew).cell? (Z gx 72)=some (.slice x.e.rs.A x.e.rs.l.length x.e.rs.c)/\((wr.alloc (.cells #[Y id,Y f,.bool v.r,Y v.n] 116)).drew).cell? (Z C 0)=some (.bool v.r)/\((wr.alloc (.cells #[Y id,Y f,.bool v.r,Y v.n] 116)).drew).cell? (Z C 1)=some (Y v.n):=⟨((j.bk.g_ o).f_ 72).trans rfl,(m.g_ o).f_ 0,(m.g_ o).f_ 1⟩;have aB:Bk ((wr.alloc (.cells #[Y id,Y f,.bool v.r,Y v.n] 116)).drew) wr.heap.size 116 #[Y id,Y f,.bool v.r,Y v.n]:=(Q_ wr 116 #[Y id,Y f,.bool v.r,Y v.n]).drew;have r:=j.g_ o;have aL:=u.g_ o;have ak:=m.g_ o;obtain⟨a7,ar⟩:=nm_ ((wr.alloc (.cells #[Y id,Y f,.bool v.r,Y v.n] 116)).drew);rw[<-ar]at o e aB r aL ak |-;clear ar;generalize wr.heap.size=ae at*;obtain⟨aC,a,aH⟩:=(kV (s:=4) aB rfl).nR I;injection a with a;subst a
   refine hX c e λe=>?_
   clear c i
   refine hV 11 λi c=>?_
   refine uN rfl (.tmp 54) (.tmp 59) 50 rfl (b.heap.size) 116 bC 4 32 underlying50 bv bw aZ bg rfl I I (.slice x.e.rs.A x.e.rs.l.length x.e.rs.c) x.e.rs.l.length r_ r.rs (Z ae 0) 1 1 (Cl.E ⟨id,f,v⟩) r_ rfl aH (by intro aI hu;exact p9 [⟨id,f,v⟩] aI (zu hu)) I X r.gr.size ?_;intro aD am ah bz F aJ;obtain⟨aK,MO⟩:=r.DJ ⟨id,f,v⟩ bz F aJ;have N:=r.CC F;have B:=r.x8 F ak I;have cj:=r.x8 F aL I;have ay:=N.f_ 72;have av:=N.hm 72;clear e
   refine hX c ⟨(N.f_ 72).trans rfl,B.f_ 0,B.f_ 1⟩ λe=>?_
   clear c i
   refine hV 12 λi c=>?_
   go_simp
   refine hX c e λe=>?_
   clear c i
   refine hV 13 λi c=>?_
   go_simp
   refine hX c e λe=>?_
   clear c i
   refine hV 14 λi c=>?_
   go_simp
   refine hX c e λe=>?_
   clear c i
   refine hV 15 λi c=>?_
   go_simp;refine c.out _ _ (λh=>U_ h I) ?_;clear c i
   try simp only[a_]
   refine hC k_ ?_ _;have ax:=(H [gx] ah).setCell (p:=(Z gx 72)) (.inl s_) (.slice aD (x.e.rs.l.length+1) am);have R:=B.ib (p:=(Z gx 72)) (Bk.me B N I) (.slice aD (x.e.rs.l.length+1) am);have n:=cj.ib (p:=(Z gx 72)) (Ne.symm ad) (.slice aD (x.e.rs.l.length+1) am);obtain⟨MM,aM⟩:=nm_ (ah.setCell (Z gx 72) (.slice aD (x.e.rs.l.length+1) am));rw[<-aM]at aK MO R n |-;clear aM e ay av ax;have MN:=R.f_ 0;have ai:=R.f_ 1;have r0:=n.f_ 0;have r1:=n.f_ 1;have f0:=n.hm 0;have f1:=n.hm 1;go_wp2;have aN:=(n.hN 0 (.bool v.r)).hN 1 (Y v.n);have U:J [] w a7:=((K.trans Q).trans l).trans o;have y:=((H [w.heap.size] MM).setCell (p:=(Z w.heap.size 0)) (.inl s_) (.bool v.r)).setCell (p:=(Z w.heap.size 1)) (.inl s_) (Y v.n);have A:=(((XG.refl gx w).g_ U).trans MO).new y (H_ _);refine rr_ (V_ v) aN underlying38 ?_;rw[S.out];exact⟨_,rfl,aK.late bV rfl rfl rfl y (H_ _) n I I A,rfl,A⟩
def jL(b:World){w:World}(gx:Nat)(x:X1)(id f:Int)(L:ks b w gx x)(c:x.e.rs.l.length<=1000000):
 Calls prog 118 #[q_ gx,Y id,Y f] w (m8 (hJ x.p id f).1 (hJ x.p id f).2 b gx w):=by
 cases d:h6 (hU x.h.l) id f with
 |none=>exact wt b w gx x id f L c d
 |some e=>exact wq b w gx x id f L c e d
def jh{k:Region.Mode}{e:World->Prop}{d:Nat}{l:List Oper}(i f:Nat){m n:Oper}{C D:List Oper}{t:Nat}{j:Array Bool}{w:World}(y:l.drop i=m::C)(z:l.drop f=n::D)(u:Region.ready k l.toArray j=[i,f])(A:∀c:Act->World->Prop,Shut (∀a w,(i<d->e w)->j6 P k l.toArray Q e d t (j.setIfInBounds i true) a w->c a w)->if Region.wanted m (yielded l.toArray a.tmps)=true then Oper.wp P m a w c Q else c (a.put m.dst undef) w)(B:∀c:Act->World->Prop,Shut (∀a w,(f<d->e w)->j6 P k l.toArray Q e d t (j.setIfInBounds f true) a w->c a w)->if Region.wanted n (yielded l.toArray a.tmps)=true then Oper.wp P n a w c Q else c (a.put n.dst undef) w):
 j6 P k l.toArray Q e d (t+1) j a w:=by
 refine⟨λv=>(by rw[v]at u;cases u),λq h=>?_⟩;rw[u]at h
 rcases N_.1 h with rfl|h
 .exact wpOp_step (jT y) (λc r=>A c (λa w p s=>r a w ⟨p,s⟩))
 .have:q=f:=zu h
  subst this;exact wpOp_step (jT z) (λc r=>B c (λa w p s=>r a w ⟨p,s⟩))
def vf(P:XP × Int × Int)(b:World)(gx:Nat)(w:World)(e:Ending)(w':World):Prop:=∃x':X1,e=.returned (.tuple #[Y P.2.1,Y P.2.2])/\ks b w' gx x'/\x'.p=P.1/\XG gx w w'
def xo{x:XP}(h:(iB x).hH=true):hF x=(iB x,0,0):=by
 unfold hF;simp[h]
def lE{x:XP}(h:(iB x).hH=false):hF x=({(hJ (iB x) 1 0).1 with hH:=(hJ (iB x) 1 0).1.hH||(!(hJ (iB x) 1 0).2.r||(match iU (hJ (iB x) 1 0).1.h (hJ (iB x) 1 0).2.n with|none=>true|some o=>decide ((o.fs.length:Int)<3)))},(hJ (iB x) 1 0).2.n,iG (hJ (iB x) 1 0).1.h (hJ (iB x) 1 0).2.n):=by
 unfold hF;simp[h]
 rfl
def m6(b:World){w:World}(gx:Nat)(x:X1)(L:ks b w gx x)(hn:x.e.rs.l.length<=1000000):
 Calls prog 161 #[q_ gx] w (vf (hF x.p) b gx w):=by
 go_enter func161,ntmps161
 go_upto_region 2 with(go_at_call 116;((with_reducible refine(q6 b gx x L).mono ?_);unfold kW;rintro s w1⟨r,rfl,g,bC,K⟩;have bJ:=O bC;have d:w1.cell? (Z gx 81)=some (.bool r.hH):=(g.bk.f_ 81).trans rfl))
 have ce:=O (show r.e.rs.l=x.e.rs.l by have:=bJ.out;exact FN (λp:XP=>p.e.rs) this)
 have hn1:r.e.rs.l.length<=1000000:=by rw[ce.out];exact hn
 cases D:r.hH with
 |true=>
  rw[D]at d;have s:(iB x.p).hH=true:=(by rw[<-bJ.out];exact D);have ap:Hid (hF x.p=(r.p,0,0)):=O (by rw[xo s,bJ.out]);go_wp2
  go_ret2
  rw[ap.out];exact⟨_,rfl,g,rfl,K⟩
 |false=>
  rw[D]at d;have h:Hid ((iB x.p).hH=false):=O (by rw[<-bJ.out];exact D);obtain⟨v,hv⟩:=mn_ ((hJ r.p 1 0).2);have aO:=O hv
  go_upto_region 5 with(go_at_call 118;((with_reducible refine(jL b gx r 1 0 g hn1).mono ?_);unfold m8;rintro s A⟨P,rfl,S,ad,R⟩;have au:=O ad;rw[aO.out]))
  have B:=S.g_ ((H [] A).alloc (.cells #[.bool v.r,Y v.n] 38));have i:=Q_ A 38 #[.bool v.r,Y v.n];have aF:=(K.trans R).g_ ((H [] A).alloc (.cells #[.bool v.r,Y v.n] 38));obtain⟨aK,W⟩:=nm_ (A.alloc (.cells #[.bool v.r,Y v.n] 38));rw[<-W]at B i aF |-;clear W;generalize A.heap.size=aS at*;clear S K R g d
  cases u:iU (hU P.h.l) v.n with
  |none=>
   have HG:Hid (iU P.p.h v.n=none):=O u
   go_cut [5,6] (λp o y=>∃(z:Nat) (aP:OA) (c4:Nat),p=q_ z/\o=.bool false/\Bk y z 56 #[Y 0,.slice aP 0 c4]/\J [] aK y)
   case first=>
    have k:=(H [] aK).drew;refine hI (λw'=>w'.cell? (Z gx 36)=some (.slice P.h.A P.h.l.length P.h.c)/\w'.cell? (Z aS 0)=some (.bool v.r)/\w'.cell? (Z aS 1)=some (Y v.n)) 13 k_ ?_
    refine nZ ⟨((B.bk.g_ k).f_ 36).trans rfl,(i.g_ k).f_ 0,(i.g_ k).f_ 1⟩ λC=>?_
    (repeat refine jW C ?_)
    refine jh 6 10 rfl rfl k_ (λl MT=>?_) (λl MT=>?_)
    .go_simp
     (go_at_call 14;((with_reducible refine(get_none P.h.A P.h.c P.h.l v.n _ (B.g_ k).jQ.os B.hl u).mono ?_);rintro s T⟨rfl,m⟩))
     refine hX MT ⟨((B.bk.g_ (k.trans m)).f_ 36).trans rfl,(i.g_ (k.trans m)).f_ 0,(i.g_ (k.trans m)).f_ 1⟩ λC=>?_
     repeat refine jW C ?_
     refine hV 10 λl MT=>?_
     go_simp;have ar:=Q_ T 56 #[Y 0,n_];have e:J [] aK (T.alloc (.cells #[Y 0,n_] 56)):=(k.trans m).alloc _;clear C;have C:(T.alloc (.cells #[Y 0,n_] 56)).cell? (Z gx 36)=some (.slice P.h.A P.h.l.length P.h.c)/\(T.alloc (.cells #[Y 0,n_] 56)).cell? (Z aS 0)=some (.bool v.r)/\(T.alloc (.cells #[Y 0,n_] 56)).cell? (Z aS 1)=some (Y v.n):=⟨((B.bk.g_ e).f_ 36).trans rfl,(i.g_ e).f_ 0,(i.g_ e).f_ 1⟩;have MN:=ar.f_ 0;have ai:=ar.f_ 1;have E:=ar.hm 0;have X:=ar.hm 1
     refine hX MT C λC=>?_
     clear MT l
     refine hV 11 λl MT=>?_
     go_simp;have MO:=Q_ T 56 #[Y 0,n_];have a2:J [] aK (T.alloc (.cells #[Y 0,n_] 56)):=(k.trans m).alloc _;clear C
     refine hX MT ⟨((B.bk.g_ a2).f_ 36).trans rfl,(i.g_ a2).f_ 0,(i.g_ a2).f_ 1⟩ λC=>?_
     clear MT l;exact Lj
    .go_simp;have N:=(Q_ aK 56 #[Y 0,n_]).drew;have e:J [] aK ((aK.alloc (.cells #[Y 0,n_] 56)).drew):=((H [] aK).alloc _).drew;clear C
     refine hX MT ⟨((B.bk.g_ e).f_ 36).trans rfl,(i.g_ e).f_ 0,(i.g_ e).f_ 1⟩ λC=>?_
     clear MT l
     refine hV 6 λl MT=>?_
     go_simp
     (go_at_call 14;((with_reducible refine(get_none P.h.A P.h.c P.h.l v.n _ (B.g_ e).jQ.os B.hl u).mono ?_);rintro s T⟨rfl,m⟩))
     have MP:=e.trans m;have C:T.cell? (Z gx 36)=some (.slice P.h.A P.h.l.length P.h.c)/\T.cell? (Z aS 0)=some (.bool v.r)/\T.cell? (Z aS 1)=some (Y v.n):=⟨((B.bk.g_ MP).f_ 36).trans rfl,(i.g_ MP).f_ 0,(i.g_ MP).f_ 1⟩;have ar:=N.g_ m;have MN:=ar.f_ 0;have ai:=ar.f_ 1;have E:=ar.hm 0;have X:=ar.hm 1
     refine hX MT C λC=>?_
     repeat refine jW C ?_
     refine hV 11 λl MT=>?_
     go_simp;exact IM
   case rest=>
    obtain⟨z,aP,c4,rfl,rfl,ar,q⟩:=hcut;replace B:=B.g_ q;replace i:=i.g_ q;replace aF:=aF.g_ q
    cases F:P.hH with
    |true=>
     have n:=O (show P.p.hH=true from F)
     cases MM:v.r with
     |true=>
      exact Ik
     |false=>
      exact Ik
    |false=>
     have n:=O (show P.p.hH=false from F)
     cases MM:v.r with
     |true=>
      exact Ik
     |false=>
      have c:=O MM;rw[MM]at i
      have ap:Hid (hF x.p=(({P with hH:=true}:X1).p,v.n,0)):=O (by
       rw[lE h.out,<-bJ.out];have aw:=au.out.symm;have bu:=HG.out;rw[aw,aO.out];unfold iG;rw[bu];have a7:=n.out;simp only[a7,c.out]
       first|rfl|(simp;done)|(simp;rfl))
      have hs:=B.set (x':={P with hH:=true}) 81 (.bool true) rfl rfl rfl rfl rfl rfl rfl rfl;have M:=(H [gx] wc).setCell (p:=(Z gx 81)) (.inl s_) (.bool true);have d:wc.cell? (Z gx 81)=some (.bool P.hH):=(B.bk.f_ 81).trans rfl;rw[F]at d;have U:=B.bk.hm 81;have MN:=i.f_ 0;have ai:=i.f_ 1;have aR:=ar.f_ 1
      go_upto_region 7 with fail
      have f:=i.ib (p:=(Z gx 81)) (Bk.me i B.bk I) (.bool true);have V:=ar.ib (p:=(Z gx 81)) (Bk.me ar B.bk I) (.bool true);clear MN ai aR d U;obtain⟨Q,j⟩:=nm_ (wc.setCell (Z gx 81) (.bool true));rw[<-j]at hs f V M |-;clear j;exact Ja
  |some a=>
   have HG:Hid (iU P.p.h v.n=some a):=O u
   go_cut [5,6] (λp o y=>∃(z:Nat) (aP:OA) (c4:Nat),p=q_ z/\o=.bool true/\Bk y z 56 #[Y a.id,.slice aP a.fs.length c4]/\J [] aK y)
   case first=>
    have k:=(H [] aK).drew;refine hI (λw'=>w'.cell? (Z gx 36)=some (.slice P.h.A P.h.l.length P.h.c)/\w'.cell? (Z aS 0)=some (.bool v.r)/\w'.cell? (Z aS 1)=some (Y v.n)) 13 k_ ?_
    refine nZ ⟨((B.bk.g_ k).f_ 36).trans rfl,(i.g_ k).f_ 0,(i.g_ k).f_ 1⟩ λC=>?_
    (repeat refine jW C ?_)
    refine jh 6 10 rfl rfl k_ (λl MT=>?_) (λl MT=>?_)
    .go_simp
     (go_at_call 14;((with_reducible refine(get_some P.h.A P.h.c P.h.l v.n a _ (B.g_ k).jQ.os (B.g_ k).jQ.lD B.hl u).mono ?_);rintro s T⟨aP,c4,rfl,t,m⟩))
     refine hX MT ⟨((B.bk.g_ (k.trans m)).f_ 36).trans rfl,(i.g_ (k.trans m)).f_ 0,(i.g_ (k.trans m)).f_ 1⟩ λC=>?_
     repeat refine jW C ?_
     refine hV 10 λl MT=>?_
     go_simp;have ar:=Q_ T 56 #[Y 0,n_];have e:J [] aK (T.alloc (.cells #[Y 0,n_] 56)):=(k.trans m).alloc _;clear C;have C:(T.alloc (.cells #[Y 0,n_] 56)).cell? (Z gx 36)=some (.slice P.h.A P.h.l.length P.h.c)/\(T.alloc (.cells #[Y 0,n_] 56)).cell? (Z aS 0)=some (.bool v.r)/\(T.alloc (.cells #[Y 0,n_] 56)).cell? (Z aS 1)=some (Y v.n):=⟨((B.bk.g_ e).f_ 36).trans rfl,(i.g_ e).f_ 0,(i.g_ e).f_ 1⟩;have MN:=ar.f_ 0;have E:=ar.hm 0
     refine hX MT C λC=>?_
     clear MT l
     refine hV 11 λl MT=>?_
     go_simp;have MO:=Q_ T 56 #[Y a.id,.slice aP a.fs.length c4];have a2:J [] aK (T.alloc (.cells #[Y a.id,.slice aP a.fs.length c4] 56)):=(k.trans m).alloc _;clear C
     refine hX MT ⟨((B.bk.g_ a2).f_ 36).trans rfl,(i.g_ a2).f_ 0,(i.g_ a2).f_ 1⟩ λC=>?_
     clear MT l;exact Ll
    .go_simp;have N:=(Q_ aK 56 #[Y 0,n_]).drew;have e:J [] aK ((aK.alloc (.cells #[Y 0,n_] 56)).drew):=((H [] aK).alloc _).drew;clear C
     refine hX MT ⟨((B.bk.g_ e).f_ 36).trans rfl,(i.g_ e).f_ 0,(i.g_ e).f_ 1⟩ λC=>?_
     clear MT l
     refine hV 6 λl MT=>?_
     go_simp
     (go_at_call 14;((with_reducible refine(get_some P.h.A P.h.c P.h.l v.n a _ (B.g_ e).jQ.os (B.g_ e).jQ.lD B.hl u).mono ?_);rintro s T⟨aP,c4,rfl,t,m⟩))
     have MP:=e.trans m;have C:T.cell? (Z gx 36)=some (.slice P.h.A P.h.l.length P.h.c)/\T.cell? (Z aS 0)=some (.bool v.r)/\T.cell? (Z aS 1)=some (Y v.n):=⟨((B.bk.g_ MP).f_ 36).trans rfl,(i.g_ MP).f_ 0,(i.g_ MP).f_ 1⟩;have ar:=N.g_ m;have MN:=ar.f_ 0;have ai:=ar.f_ 1;have E:=ar.hm 0;have X:=ar.hm 1
     refine hX MT C λC=>?_
     repeat refine jW C ?_
     refine hV 11 λl MT=>?_
     go_simp;exact IJ
   case rest=>
    obtain⟨z,aP,c4,rfl,rfl,ar,q⟩:=hcut;replace B:=B.g_ q;replace i:=i.g_ q;replace aF:=aF.g_ q
    cases F:P.hH with
    |true=>
     have n:=O (show P.p.hH=true from F)
     cases MM:v.r with
     |true=>
      exact Ij
     |false=>
      exact Ij
    |false=>
     have n:=O (show P.p.hH=false from F)
     cases MM:v.r with
     |true=>
      have c:=O MM;rw[MM]at i
      by_cases t:(a.fs.length:Int)<3
      .have ap:Hid (hF x.p=(({P with hH:=true}:X1).p,v.n,(a.fs.length:Int))):=O (by
        rw[lE h.out,<-bJ.out];have aw:=au.out.symm;have bu:=HG.out;rw[aw,aO.out];unfold iG;rw[bu];have a7:=n.out;simp only[a7,c.out]
        first|(simp[t];done)|(simp[t];rfl))
       have q3:((a.fs.length:Int)<3)=True:=by simp[t]
       exact Iu
      .have ap:Hid (hF x.p=(({P with hH:=false}:X1).p,v.n,(a.fs.length:Int))):=O (by
        rw[lE h.out,<-bJ.out];have aw:=au.out.symm;have bu:=HG.out;rw[aw,aO.out];unfold iG;rw[bu];have a7:=n.out;simp only[a7,c.out]
        first|(simp[t];done)|(simp[t];rfl))
       have q3:((a.fs.length:Int)<3)=False:=by simp[t]
       clear t bJ au aO HG h n c;have hs:=B.set (x':={P with hH:=false}) 81 (.bool false) rfl rfl rfl rfl rfl rfl rfl rfl;have M:=(H [gx] wc).setCell (p:=(Z gx 81)) (.inl s_) (.bool false);have d:wc.cell? (Z gx 81)=some (.bool P.hH):=(B.bk.f_ 81).trans rfl;rw[F]at d;clear F;have U:=B.bk.hm 81;have MN:=i.f_ 0;have ai:=i.f_ 1;have aR:=ar.f_ 1
       go_upto_region 7 with fail
       have f:=i.ib (p:=(Z gx 81)) (Bk.me i B.bk I) (.bool false);have V:=ar.ib (p:=(Z gx 81)) (Bk.me ar B.bk I) (.bool false);clear MN ai aR d U;obtain⟨Q,j⟩:=nm_ (wc.setCell (Z gx 81) (.bool false));rw[<-j]at hs f V M |-;clear j;exact I6
     |false=>
      exact Ij
def mE(x:X1):∀c,c<33->x.g8[3+c]?=(iE x.js x.sr)[c]?
 |0,_=>rfl
 |1,_=>rfl
 |2,_=>rfl
 |3,_=>rfl
 |4,_=>rfl
 |5,_=>rfl
 |6,_=>rfl
 |7,_=>rfl
 |8,_=>rfl
 |9,_=>rfl
 |10,_=>rfl
 |11,_=>rfl
 |12,_=>rfl
 |13,_=>rfl
 |14,_=>rfl
 |15,_=>rfl
 |16,_=>rfl
 |17,_=>rfl
 |18,_=>rfl
 |19,_=>rfl
 |20,_=>rfl
 |21,_=>rfl
 |22,_=>rfl
 |23,_=>rfl
 |24,_=>rfl
 |25,_=>rfl
 |26,_=>rfl
 |27,_=>rfl
 |28,_=>rfl
 |29,_=>rfl
 |30,_=>rfl
 |31,_=>rfl
 |32,_=>rfl
 |n+33,h=>U_ h X
def oi{pc:Int}{r:Nat->Vl}:(iE pc r).all (·.oneCell')=true:=by unfold iE;simp[Value.oneCell']
def ny(x:X1)(pc:Int)(r:Nat->Vl):vn x.g8 39 (iE pc r).toList=({x with e:={x.e with pc:=pc,r:=r}}:X1).g8:=rfl
def lV{w':World}(e:TypeId){x:Operand}(p:o.op=.load e x)(g i:Nat)(s:a.eval x=.pointer (some (Z g i))){vs:Array Value}(k:∀c,c<vs.size->w'.cell? (Z g (i+c))=vs[c]?){d:TypeDesc}(r:P.underlying e=some d)(l:d.isRow=true)(m:(P.info? e).map (·.size)=some vs.size):(execOp a.eval o).run P w'=.ok (.value (.agg vs)) w':=by
 have n:=run_loadAt_mid (P:=P) w' g i e vs.toList d (λc t h=>by
  have j:c<vs.size:=by
   rcases FO c vs.size with f|f
   .exact f
   .rw[F8 (zu f)]at h
    cases h
  rw[k c j]
  simpa using h) r l (zu m)
 unfold execOp;simp only[p,s,n,Sem.run_bind,Sem.run_pure,Result.andThen_ok]
def qT(l:List In)(h:Vl):Bool:=decide (h.r=true∨(h.n≠0/\iA l h.n=false))
def sQ(a:XP × Int × Int)(v:Vl):XP:=
 if a.1.hH=true then a.1 else
 let b:=hJ a.1 a.2.1 2
 if qT b.1.i3 b.2=true then kU b.1 else
 if b.2.n≠0 then
  let y:=h4 (h4 b.1 a.2.1 2 default) 1 2 v
  {y with e:={y.e with pc:=b.2.n,r:=i5}}
 else
  let p:=hJ b.1 a.2.1 0
  if p.2.r=false then kU p.1 else
  if p.2.n=0 then{p.1 with e:={p.1.e with hS:=2,hO:=true,v:=v,pc:=p.1.js,r:=p.1.sr}}
  else
   let y:=h4 (h4 p.1 1 0 p.2) 1 2 v
   {y with e:={y.e with hS:=1,kw:=y.g9,pc:= -1,r:=i5}}
def yW(x:XP)(v:Vl):iX x v=sQ (hF x) v:=by
 unfold iX sQ qT;simp only[Gx]
def pE(b:World){w:World}(gx:Nat)(x:X1)(v:Vl)(L:ks b w gx x)(hs:x.p.e.sm 900000):
 Calls prog 117 #[q_ gx,.agg #[.bool v.r,Y v.n]] w (kW (.tuple #[]) (iX x.p v) b gx w):=by
 have MO:=Q_ w 38 #[.bool v.r,Y v.n];have bV:=L.g_ ((H [] w).alloc (.cells #[.bool v.r,Y v.n] 38));have ak:=(XG.refl gx w).g_ ((H [] w).alloc (.cells #[.bool v.r,Y v.n] 38));have F:w.heap.size≠gx:=ov L.bk.lt;have al:=l4 hs
 go_enter func117,ntmps117
 go_upto_region 1 with fail
 obtain⟨bj,bh⟩:=nm_ (w.alloc (.cells #[.bool v.r,Y v.n] 38));rw[<-bh]at MO bV ak |-;clear bh
 go_upto_region 2 with(go_at_call 161;((with_reducible refine(m6 b gx x bV (G_ hs.rs I)).mono ?_);unfold vf;rintro e w1⟨U,rfl,g,bC,hg1⟩;have bJ:=O bC;clear bC;have an:w1.cell? (Z gx 81)=some (.bool U.hH):=(g.bk.f_ 81).trans rfl))
 have y:=MO.xg hg1 F;have aF:=ak.trans hg1;clear MO bV ak hg1;have aI:=O (yW x.p v);obtain⟨m,bz⟩:=mn_ ((hF x.p).2.1);rw[bz];have aT:=O bz;clear bz;generalize (hF x.p).2.2=b5 at*;rw[<-bJ.out]at al
 cases aQ:U.hH with
 |true=>
  rw[aQ]at an;have ap:Hid (iX x.p v=U.p):=O (by rw[aI.out,bJ.out];unfold sQ;rw[O_ (by rw[<-bJ.out];exact aQ)]);clear aQ al;go_wp2;refine rn_ ?_;rw[ap.out];exact⟨_,rfl,g,rfl,aF⟩
 |false=>
  rw[aQ]at an
  have bS:Hid (iX x.p v=(let b:=hJ U.p m 2
   if qT b.1.i3 b.2=true then kU b.1 else
   if b.2.n≠0 then
    let d:=h4 (h4 b.1 m 2 default) 1 2 v
    {d with e:={d.e with pc:=b.2.n,r:=i5}}
   else
    let p:=hJ b.1 m 0
    if p.2.r=false then kU p.1 else
    if p.2.n=0 then{p.1 with e:={p.1.e with hS:=2,hO:=true,v:=v,pc:=p.1.js,r:=p.1.sr}}
    else
     let d:=h4 (h4 p.1 1 0 p.2) 1 2 v
     {d with e:={d.e with hS:=1,kw:=d.g9,pc:= -1,r:=i5}})):=O (by
   rw[aI.out];unfold sQ
   rw[I_ (by rw[<-bJ.out];show ¬U.hH=true;rw[aQ];decide),aT.out,<-bJ.out])
  clear aQ aI bJ aT;have hn1:U.e.rs.l.length<=1000000:=G_ al.rs X;obtain⟨h,hh⟩:=mn_ ((hJ U.p m 2).2);have bO:=O hh;clear hh
  go_upto_region 4 with(go_at_call 118;((with_reducible refine(jL b gx U m 2 g hn1).mono ?_);unfold m8;rintro e ah⟨f,rfl,aA,o,V⟩;have bd:=O o;clear o;rw[bO.out]))
  have MS:=kb al m 2;have am:=O bd.out;clear bd;rw[<-am.out]at MS
  have bL:Hid (iX x.p v=(if qT f.i3.l h=true then kU f.p else
   if h.n≠0 then
    let d:=h4 (h4 f.p m 2 default) 1 2 v
    {d with e:={d.e with pc:=h.n,r:=i5}}
   else
    let p:=hJ f.p m 0
    if p.2.r=false then kU p.1 else
    if p.2.n=0 then{p.1 with e:={p.1.e with hS:=2,hO:=true,v:=v,pc:=p.1.js,r:=p.1.sr}}
    else
     let d:=h4 (h4 p.1 1 0 p.2) 1 2 v
     {d with e:={d.e with hS:=1,kw:=d.g9,pc:= -1,r:=i5}})):=O (by
   rw[bS.out];simp only[bO.out];rw[<-am.out]
   rfl)
  clear bS am bO;have l:=aA.g_ ((H [] ah).alloc (.cells #[.bool h.r,Y h.n] 38));have R:=Q_ ah 38 #[.bool h.r,Y h.n];have az:ah.heap.size≠gx:=ov aA.bk.lt;replace y:=(y.xg V F).alloc (.cells #[.bool h.r,Y h.n] 38);replace aF:=(aF.trans V).g_ ((H [] ah).alloc (.cells #[.bool h.r,Y h.n] 38));obtain⟨aK,aJ⟩:=nm_ (ah.alloc (.cells #[.bool h.r,Y h.n] 38));rw[<-aJ]at l R y aF |-;clear aJ;clear aA V g an;generalize ah.heap.size=aU at*
  go_cut [36] (λd a6=>d=.bool (qT f.i3.l h)/\J [] aK a6)
  case first=>
   have j:∀d:GW aK,d.1.cell? (Z aU 0)=some (.bool h.r):=R.Ae 0;have s:∀d:GW aK,d.1.cell? (Z aU 1)=some (Y h.n):=R.Ae 1
   have t:∀d:GW aK,d.1.cell? (Z gx 0)=some (.slice f.i3.A f.i3.l.length f.i3.c):=λd=>(l.bk.Ae 0 d).trans rfl
   have k:∀d:GW aK,d.1.cell? (Z gx 1)=some (Y f.hq):=λd=>(l.bk.Ae 1 d).trans rfl
   have aw:∀d:GW aK,d.1.cell? (Z gx 2)=some (Y f.g9):=λd=>(l.bk.Ae 2 d).trans rfl
   cases a:h.r with
   |true=>
    have aV:=O (show qT f.i3.l h=true by unfold qT;simp[a]);rw[a]at j;clear a;exact JN
   |false=>
    rw[a]at j
    by_cases hz:h.n=0
    .have aV:=O (show qT f.i3.l h=false by unfold qT;simp[a,hz]);have q:(h.n !=0)=false:=zu hz;clear a hz;exact JN
    .have q:(h.n !=0)=true:=zu hz
     cases MM:iA f.i3.l h.n with
     |true=>
      have aV:=O (show qT f.i3.l h=false by unfold qT;simp[a,MM])
      have ap:Hid (∀d:GW aK,Calls prog 162 #[.agg #[.slice f.i3.A f.i3.l.length f.i3.c,Y f.hq,Y f.g9],Y h.n] d.1 (λe i=>e=.returned (.bool true)/\J [] d.1 i)):=O λd=>by have q:=pb f.i3.A f.i3.c f.i3.l f.hq f.g9 h.n d.1 (l.g_ d.2).D8 l.il;rw[MM]at q;exact q
      exact Jn
     |false=>
      have aV:=O (show qT f.i3.l h=true by unfold qT;simp[a,hz,MM])
      have ap:Hid (∀d:GW aK,Calls prog 162 #[.agg #[.slice f.i3.A f.i3.l.length f.i3.c,Y f.hq,Y f.g9],Y h.n] d.1 (λe i=>e=.returned (.bool false)/\J [] d.1 i)):=O λd=>by have q:=pb f.i3.A f.i3.c f.i3.l f.hq f.g9 h.n d.1 (l.g_ d.2).D8 l.il;rw[MM]at q;exact q
      exact Jn
  case rest=>
   obtain⟨rfl,aM⟩:=hcut;replace l:=l.g_ aM;replace R:=R.g_ aM;replace y:=y.g_ aM;replace aF:=aF.g_ aM;clear aM
   cases bn:qT f.i3.l h with
   |true=>
    have ap:Hid (iX x.p v=({f with hH:=true}:X1).p):=O (by rw[bL.out,O_ bn];rfl);clear bn bL;have an:wc.cell? (Z gx 81)=some (.bool f.hH):=(l.bk.f_ 81).trans rfl;have be:=l.bk.hm 81;go_wp2;have bm:=l.set (x':={f with hH:=true}) 81 (.bool true) rfl rfl rfl rfl rfl rfl rfl rfl;exact Lm
   |false=>
    rw[bn]at bL
    by_cases hz:h.n=0
    .have ap:Hid (iX x.p v=(let p:=hJ f.p m 0
      if p.2.r=false then kU p.1 else
      if p.2.n=0 then{p.1 with e:={p.1.e with hS:=2,hO:=true,v:=v,pc:=p.1.js,r:=p.1.sr}}
      else
       let d:=h4 (h4 p.1 1 0 p.2) 1 2 v
       {d with e:={d.e with hS:=1,kw:=d.g9,pc:= -1,r:=i5}})):=O (by rw[bL.out,I_ I,I_ (by simp[hz])])
     have q:(h.n !=0)=false:=zu hz;clear bn bL hz;have u:=R.f_ 1;have bR:f.e.rs.l.length<=1000000:=G_ MS.rs X;obtain⟨p,hp⟩:=mn_ ((hJ f.p m 0).2);have bf:=O hp;clear hp
     go_upto_region 11 with(go_at_call 118;((with_reducible refine(jL b gx f m 0 l bR).mono ?_);unfold m8;rintro e aH⟨i,rfl,aA,o,V⟩;have bd:=O o;clear o;rw[bf.out]))
     have bk:Hid (iX x.p v=(if p.r=false then kU i.p else
      if p.n=0 then{i.p with e:={i.p.e with hS:=2,hO:=true,v:=v,pc:=i.p.js,r:=i.p.sr}}
      else
       let d:=h4 (h4 i.p 1 0 p) 1 2 v
       {d with e:={d.e with hS:=1,kw:=d.g9,pc:= -1,r:=i5}})):=O (by
      rw[ap.out];simp only[bf.out]
      rw[<-bd.out])
     have aj:=kb MS m 0;rw[<-bd.out]at aj;clear ap bd bf u;have b8:aH.heap.size≠gx:=ov aA.bk.lt;have T:=aA.g_ ((H [] aH).alloc (.cells #[.bool p.r,Y p.n] 38));have N:=Q_ aH 38 #[.bool p.r,Y p.n];replace y:=(y.xg V F).alloc (.cells #[.bool p.r,Y p.n] 38);replace aF:=(aF.trans V).g_ ((H [] aH).alloc (.cells #[.bool p.r,Y p.n] 38));obtain⟨Q,bQ⟩:=nm_ (aH.alloc (.cells #[.bool p.r,Y p.n] 38));rw[<-bQ]at T N y aF |-;clear bQ;clear aA V l R;generalize aH.heap.size=bN at*
     cases o:p.r with
     |false=>
      have ap:Hid (iX x.p v=({i with hH:=true}:X1).p):=O (by rw[bk.out,O_ o];rfl);rw[o]at N;clear bk o;have S:=N.f_ 0
      go_upto_region 12 with fail
      have an:Q.cell? (Z gx 81)=some (.bool i.hH):=(T.bk.f_ 81).trans rfl;have be:=T.bk.hm 81;go_wp2;have bm:=T.set (x':={i with hH:=true}) 81 (.bool true) rfl rfl rfl rfl rfl rfl rfl rfl;exact Lm
     |true=>
      rw[o]at bk N
      by_cases hz:p.n=0
      .have ap:Hid (iX x.p v={i.p with e:={i.p.e with hS:=2,hO:=true,v:=v,pc:=i.p.js,r:=i.p.sr}}):=O (by rw[bk.out,I_ I,O_ hz]);have q2:(p.n==0)=true:=zu hz;clear bk hz o;have S:=N.f_ 0;have u:=N.f_ 1
       go_upto_region 14 with fail
       clear S u N;have br:=T.bk.drew;have aq:=y.drew;refine hI (λw'=>(∀t,t<33->w'.cell? (Z gx (3+t))=(iE i.js i.sr)[t]?)/\w'.cell? (Z w.heap.size 0)=some (.bool v.r)/\w'.cell? (Z w.heap.size 1)=some (Y v.n)) 25 k_ ?_
       refine nZ ⟨λt E=>by rw[br.f_];exact mE i t E,aq.f_ 0,aq.f_ 1⟩ λj=>?_
       refine iH 0 j ?_;refine iH 1 j ?_;refine iH 2 j ?_;refine iH 3 j ?_;refine iH 4 j ?_;refine iH 5 j ?_;refine iH 6 j ?_;refine iH 7 j ?_;refine iH 8 (v:=.agg (iE i.js i.sr)) j ?_ (hy:=(Or.inl ⟨r_,λw' bq=>lV 49 rfl gx 3 r_ (λt E=>bq.1 t E) underlying49 rfl k_⟩));refine iH 9 j ?_;refine iH 10 j ?_;refine iH 11 j ?_;have bZ:=br.f_ 38;have bW:=br.hm 38
       refine hV 12 λbu B=>?_
       go_simp;have aG:Bk ((Q.setCell (Z gx 38) (Y 2)).drew) gx 186 ({i with e:={i.e with hS:=2}}:X1).g8:=(T.bk).hN 38 (Y 2);have bM:Bk ((Q.setCell (Z gx 38) (Y 2)).drew) w.heap.size 38 #[.bool v.r,Y v.n]:=(y).ib (p:=(Z gx 38)) F (Y 2);have aL:J [gx] Q ((Q.setCell (Z gx 38) (Y 2)).drew):=J.drew <| ((H [gx] Q)).setCell (p:=(Z gx 38)) (.inl s_) (Y 2);obtain⟨bx,bX⟩:=nm_ ((Q.setCell (Z gx 38) (Y 2)).drew);rw[<-bX]at aG bM aL |-;clear bX j
       refine hX B ⟨λt E=>by rw[aG.f_];exact mE ({i with e:={i.e with hS:=2}}:X1) t E,bM.f_ 0,bM.f_ 1⟩ λj=>?_
       clear B bu;clear bZ bW;refine iH 13 j ?_;refine iH 14 j ?_;refine iH 15 j ?_;have aW:=aG.f_ 78;have aR:=aG.hm 78
       refine hV 16 λbu B=>?_
       go_simp;have bt:Bk (bx.setCell (Z gx 78) (.bool true)) gx 186 ({i with e:={i.e with hS:=2,hO:=true}}:X1).g8:=(aG).hN 78 (.bool true);have bP:Bk (bx.setCell (Z gx 78) (.bool true)) w.heap.size 38 #[.bool v.r,Y v.n]:=(bM).ib (p:=(Z gx 78)) F (.bool true);have a2:J [gx] Q (bx.setCell (Z gx 78) (.bool true)):=(aL).setCell (p:=(Z gx 78)) (.inl s_) (.bool true);obtain⟨bw,bY⟩:=nm_ (bx.setCell (Z gx 78) (.bool true));rw[<-bY]at bt bP a2 |-;clear bY j
       refine hX B ⟨λt E=>by rw[bt.f_];exact mE ({i with e:={i.e with hS:=2,hO:=true}}:X1) t E,bP.f_ 0,bP.f_ 1⟩ λj=>?_
       clear B bu;clear aW aR;refine iH 17 j ?_;refine iH 18 j ?_;refine iH 19 j ?_;have b6:bw.cell? (Z gx 79)=some (.bool i.e.v.r):=(bt.f_ 79).trans rfl;have b7:bw.cell? (Z gx 80)=some (Y i.e.v.n):=(bt.f_ 80).trans rfl;have b3:=bt.hm 79;have b4:=bt.hm 80
       refine hV 20 λbu B=>?_
       go_simp;have cV:Bk ((bw.setCell (Z gx 79) (.bool v.r)).setCell (Z gx 80) (Y v.n)) gx 186 ({i with e:={i.e with hS:=2,hO:=true,v:=v}}:X1).g8:=((bt).hN 79 (.bool v.r)).hN 80 (Y v.n);have bA:Bk ((bw.setCell (Z gx 79) (.bool v.r)).setCell (Z gx 80) (Y v.n)) w.heap.size 38 #[.bool v.r,Y v.n]:=((bP).ib (p:=(Z gx 79)) F (.bool v.r)).ib (p:=(Z gx 80)) F (Y v.n);have MP:J [gx] Q ((bw.setCell (Z gx 79) (.bool v.r)).setCell (Z gx 80) (Y v.n)):=((a2).setCell (p:=(Z gx 79)) (.inl s_) (.bool v.r)).setCell (p:=(Z gx 80)) (.inl s_) (Y v.n);obtain⟨aX,ar⟩:=nm_ ((bw.setCell (Z gx 79) (.bool v.r)).setCell (Z gx 80) (Y v.n));rw[<-ar]at cV bA MP |-;clear ar j
       refine hX B ⟨λt E=>by rw[cV.f_];exact mE ({i with e:={i.e with hS:=2,hO:=true,v:=v}}:X1) t E,bA.f_ 0,bA.f_ 1⟩ λj=>?_
       clear B bu;clear b6 b3 b7 b4;refine iH 21 j ?_;refine iH 22 j ?_;refine iH 23 j ?_
       refine hV 24 λbu B=>?_
       rw[O_ r_];refine jz 49 _ _ rfl gx 39 r_ (iE i.js i.sr) r_ 186 _ cV (by show 39+33<=82;decide) k_ (oi) ?_;intro ae M G;rw[ny]at M;have bp:=bA.gr G (zu F);clear j
       refine hX B ⟨λt E=>by rw[M.f_];exact mE ({({i with e:={i.e with hS:=2,hO:=true,v:=v}}:X1)with e:={(({i with e:={i.e with hS:=2,hO:=true,v:=v}}:X1)).e with pc:=i.js,r:=i.sr}}:X1) t E,bp.f_ 0,bp.f_ 1⟩ λj=>?_
       clear B bu;refine hC k_ ?_ _;go_wp2;refine rn_ ?_;rw[ap.out];exact⟨_,rfl,T.sG (MP.trans G) M rfl rfl rfl rfl rfl rfl rfl,rfl,aF.ir (MP.trans G)⟩
      .have E:¬p.n=0:=hz
       have ap:Hid (iX x.p v=(let d:=h4 (h4 i.p 1 0 p) 1 2 v
        {d with e:={d.e with hS:=1,kw:=d.g9,pc:= -1,r:=i5}})):=O (by rw[bk.out,I_ I,I_ hz])
       have q2:(p.n==0)=false:=zu hz;clear bk hz E;have S:=N.f_ 0;have u:=N.f_ 1;have j:i.e.ws.l.length<=1000000:=G_ aj.ws X;have B:=O (show p=⟨true,p.n⟩ by cases p;simp only at o;subst o;rfl);clear o
       go_upto_region 16 with(go_at_call 163;((with_reducible refine(jZ b gx i 1 0 ⟨true,p.n⟩ T j).mono ?_);unfold kW;rintro e ad⟨bK,rfl,C,D,s⟩;have z:=O D;clear D))
       have bD:=O z.out;clear z;have a8:=C;have bl:=aF.trans s;have bF:=y.xg s F
       have db:bK.e.ws.l.length<=1000000:=by
        have e:bK.e.ws.l=i.e.ws.l++[⟨1,0,⟨true,p.n⟩⟩]:=FN (λp:XP=>p.e.ws) bD.out;rw[e,K_]
        have:=aj.ws
        have aw:i.p.e.ws.length=i.e.ws.l.length:=rfl;simp only[FJ,Gh];omega
       clear C s S u;have S:=bF.f_ 0;have u:=bF.f_ 1
       go_upto_region 17 with(go_at_call 163;((with_reducible refine(jZ b gx bK 1 2 v a8 db).mono ?_);unfold kW;rintro e ay⟨k,rfl,C,D,s⟩;have z:=O D;clear D))
       have bB:=O z.out;clear z;have K:=C;have aY:=bl.trans s;clear C s S u
       have ag:Hid (iX x.p v=({k with e:={k.e with hS:=1,kw:=k.g9,pc:= -1,r:=i5}}:X1).p):=O (by
        rw[ap.out,B.out]
        have bE:h4 (h4 i.p 1 0 ⟨true,p.n⟩) 1 2 v=k.p:=by rw[bB.out,bD.out]
        exact FN (λd:XP=>({d with e:={d.e with hS:=1,kw:=d.g9,pc:= -1,r:=i5}}:XP)) bE)
       have P:ay.cell? (Z gx 2)=some (Y k.g9):=(K.bk.f_ 2).trans rfl;have bU:ay.cell? (Z gx 38)=some (Y k.e.hS):=(K.bk.f_ 38).trans rfl;have aZ:ay.cell? (Z gx 77)=some (Y k.e.kw):=(K.bk.f_ 77).trans rfl;have bW:=K.bk.hm 38;have aO:=K.bk.hm 77;have t:Bk ((ay.setCell (Z gx 38) (Y 1)).setCell (Z gx 77) (Y k.g9)) gx 186 ({k with e:={k.e with hS:=1,kw:=k.g9}}:X1).g8:=(K.bk.hN 38 (Y 1)).hN 77 (Y k.g9);have aD:=((H [gx] ay).setCell (p:=(Z gx 38)) (.inl s_) (Y 1)).setCell (p:=(Z gx 77)) (.inl s_) (Y k.g9)
       go_wp2_with (refine jc rfl 49 _ _ rfl gx 39 r_ (iE (-1) i5) r_ 186 _ t (by show 39+33<=82;decide) k_ (oi) ?_;intro ae M G)
       rw[ny]at M;refine en_ ?_;rw[ag.out];exact⟨_,rfl,K.sG (aD.trans G) M rfl rfl rfl rfl rfl rfl rfl,rfl,aY.ir (aD.trans G)⟩
    .have ap:Hid (iX x.p v=(let d:=h4 (h4 f.p m 2 default) 1 2 v
      {d with e:={d.e with pc:=h.n,r:=i5}})):=O (by rw[bL.out,I_ I,O_ hz])
     have q:(h.n !=0)=true:=zu hz;clear bn bL hz;have i:f.e.ws.l.length<=1000000:=G_ MS.ws X;have u:=R.f_ 1
     go_upto_region 8 with(go_at_call 163;((with_reducible refine(jZ b gx f m 2 ⟨false,0⟩ l i).mono ?_);unfold kW;rintro e ad⟨bK,rfl,C,D,s⟩;have z:=O D;clear D))
     have bD:=O z.out;clear z;have a8:=C;have bl:=aF.trans s;have bF:=y.xg s F;have t:=R.xg s az
     have db:bK.e.ws.l.length<=1000000:=by
      have e:bK.e.ws.l=f.e.ws.l++[⟨m,2,⟨false,0⟩⟩]:=FN (λp:XP=>p.e.ws) bD.out;rw[e,K_]
      have:=MS.ws
      have aw:f.p.e.ws.length=f.e.ws.l.length:=rfl;simp only[FJ,Gh];omega
     clear C s u;have S:=bF.f_ 0;have u:=bF.f_ 1
     go_upto_region 9 with(go_at_call 163;((with_reducible refine(jZ b gx bK 1 2 v a8 db).mono ?_);unfold kW;rintro e ay⟨k,rfl,C,D,s⟩;have z:=O D;clear D))
     have bB:=O z.out;clear z;have K:=C;have aY:=bl.trans s;have j:=t.xg s az;clear C s S u;have u:=j.f_ 1
     have ag:Hid (iX x.p v=({k with e:={k.e with pc:=h.n,r:=i5}}:X1).p):=O (by
      rw[ap.out]
      have bE:h4 (h4 f.p m 2 default) 1 2 v=k.p:=by rw[bB.out,bD.out];rfl
      exact FN (λd:XP=>({d with e:={d.e with pc:=h.n,r:=i5}}:XP)) bE)
     go_wp2_with (refine jc rfl 49 _ _ rfl gx 39 r_ (iE (h.n) i5) r_ 186 _ K.bk (by show 39+33<=82;decide) k_ (oi) ?_;intro ae M G)
     rw[ny]at M;refine rn_ ?_;rw[ag.out];exact⟨_,rfl,K.sG G M rfl rfl rfl rfl rfl rfl rfl,rfl,aY.ir G⟩
def k8(b:World){w:World}(gx:Nat)(x:X1)(n:Int)(L:ks b w gx x)(h:x.p.e.sm 900000):
 Calls prog 165 #[q_ gx,Y n] w (kW (.tuple #[]) (ji x.p n) b gx w):=by
 go_enter func165,ntmps165
 go_wp2_with (go_at_call 117;((with_reducible refine(pE b gx x ⟨false,n⟩ L h).mono ?_);unfold kW;rintro j i⟨f,rfl,d,c,G⟩;have e:=O c))
 refine en_ ?_;exact⟨f,rfl,d,e.out,G⟩
def xd(P:XP × Int × Int × Bool)(b:World)(gx:Nat)(w:World)(e:Ending)(w':World):Prop:=∃x':X1,e=.returned (.tuple #[Y P.2.1,Y P.2.2.1,.bool P.2.2.2])/\ks b w' gx x'/\x'.p=P.1/\XG gx w w'
def BV(P:XP × Int × Bool)(b:World)(gx:Nat)(w:World)(e:Ending)(w':World):Prop:=∃x':X1,e=.returned (.tuple #[Y P.2.1,.bool P.2.2])/\ks b w' gx x'/\x'.p=P.1/\XG gx w w'
def yp(a:XP × Int × Int)(n:Int):XP × Int × Int × Bool:=
 if a.1.hH=true then(a.1,0,0,false) else
 if a.2.2<=3+n then(ji a.1 (-1),0,0,false) else(a.1,a.2.1,3+n,true)
def B5(x:XP)(n:Int):ht x n=yp (hF x) n:=rfl
def y2(x:XP):0<=(hF x).2.2:=by
 unfold hF;simp only;split
 .exact FR _
 .show 0<=iG _ _
  unfold iG;split<;>omega
def mg(b:World){w:World}(gx:Nat)(x:X1)(n:Int)(L:ks b w gx x)(s:x.p.e.sm 800000)(h0:0<=n)(N:n<=1000000):
 Calls prog 167 #[q_ gx,Y n] w (xd (ht x.p n) b gx w):=by
 have l:=l4 s;have y:=y2 x.p
 go_enter func167,ntmps167
 go_upto_region 2 with(go_at_call 161;((with_reducible refine(m6 b gx x L (G_ s.rs I)).mono ?_);unfold vf;rintro H K⟨c,rfl,g,E,k⟩;have d:=O E;have q:K.cell? (Z gx 81)=some (.bool c.hH):=(g.bk.f_ 81).trans rfl))
 have i:=O (B5 x.p n);obtain⟨r,p⟩:=mn_ ((hF x.p).2.1);rw[p];obtain⟨j,m⟩:=mn_ ((hF x.p).2.2);rw[m]at y |-;have a:=O m;have z:=O p;rw[<-d.out]at l
 cases e:c.hH with
 |true=>
  rw[e]at q;have f:Hid (ht x.p n=(c.p,0,0,false)):=O (by rw[i.out,d.out];unfold yp;rw[O_ (by rw[<-d.out];exact e)]);go_wp2;refine FY (v:=.tuple #[Y 0,Y 0,.bool false]) (results_tmp3 (t:=4) (u:=5) (v:=6) rfl _ _ _) rfl ?_;rw[f.out];exact⟨_,rfl,g,rfl,k⟩
 |false=>
  rw[e]at q
  by_cases h:j<=3+n
  .have f:Hid (ht x.p n=(ji c.p (-1),0,0,false)):=O (by
    rw[i.out,d.out];unfold yp
    rw[I_ (by rw[<-d.out];show ¬c.hH=true;rw[e];decide),O_ (by rw[a.out];exact h)])
   have J:(j<=3+n)=True:=by simp[h]
   have F:c.p.e.sm 900000:=l.mono X
   go_wp2_with (go_at_call 165;((with_reducible refine(k8 b gx c (-1) g F).mono ?_);unfold kW;rintro H M⟨D,rfl,B,A,G⟩;have C:=O A))
   refine FY (v:=.tuple #[Y 0,Y 0,.bool false]) (results_tmp3 (t:=4) (u:=5) (v:=6) rfl _ _ _) rfl ?_;rw[f.out];exact⟨D,rfl,B,C.out,k.trans G⟩
  .have f:Hid (ht x.p n=(c.p,r,3+n,true)):=O (by
    rw[i.out,d.out];unfold yp
    rw[I_ (by rw[<-d.out];show ¬c.hH=true;rw[e];decide),I_ (by rw[a.out];exact h),z.out])
   have J:(j<=3+n)=False:=by simp[h]
   go_wp2;refine FY (v:=.tuple #[Y r,Y (3+n),.bool true]) (results_tmp3 (t:=4) (u:=5) (v:=6) rfl _ _ _) rfl ?_;rw[f.out];exact⟨c,rfl,g,rfl,k⟩
def rf(b:World){w:World}(gx:Nat)(P:X1)(v:Vl)(f:Int)(L:ks b w gx P)(hs:P.p.e.sm 800000):
 Calls prog 168 #[q_ gx,.agg #[.bool v.r,Y v.n],Y f] w (BV (ih P.p v f) b gx w):=by
 have B:=L.g_ ((H [] w).alloc (.cells #[.bool v.r,Y v.n] 38));have i:=Q_ w 38 #[.bool v.r,Y v.n];have aF:=(XG.refl gx w).g_ ((H [] w).alloc (.cells #[.bool v.r,Y v.n] 38));have N:P.p.e.sm 900000:=hs.mono I;have MR:w.heap.size≠gx:=ov L.bk.lt
 go_enter func168,ntmps168
 go_upto_region 1 with fail
 obtain⟨aK,V⟩:=nm_ (w.alloc (.cells #[.bool v.r,Y v.n] 38));rw[<-V]at B i aF |-;clear V;generalize w.heap.size=j at*
 cases m:v.r with
 |false=>
  have ap:Hid (ih P.p v f=(ji P.p (-2),0,false)):=O (by unfold ih;rw[O_ m]);rw[m]at i;clear m;have r:=i.f_ 0
  go_wp2_with (go_at_call 165;((with_reducible refine(k8 b gx P (-2) B N).mono ?_);unfold kW;rintro l W⟨au,rfl,aj,s,G⟩;have ak:=O s;clear s))
  exact Kz
 |true=>
  have X:=O m
  by_cases E:v.n=0
  .have ap:Hid (ih P.p v f=(ji P.p (-1),0,false)):=O (by unfold ih;rw[I_ (by rw[m];decide),O_ E]);have q:(v.n==0)=true:=zu E;rw[m]at i;clear m E X;have r:=i.f_ 0;have y:=i.f_ 1
   go_wp2_with (go_at_call 165;((with_reducible refine(k8 b gx P (-1) B N).mono ?_);unfold kW;rintro l W⟨au,rfl,aj,s,G⟩;have ak:=O s;clear s))
   exact Kz
  .have q:(v.n==0)=false:=zu E
   have F:Hid (ih P.p v f=(match iU P.p.h v.n with
    |none=>(kU P.p,0,false)
    |some o=>if(o.fs.length:Int)<=f then(ji P.p (-1),0,false) else(P.p,v.n,true))):=O (by unfold ih;rw[I_ (by rw[m];decide),I_ E];rfl)
   have r:aK.cell? (Z j 0)=some (.bool true):=(i.f_ 0).trans (by rw[m];rfl);have y:=i.f_ 1
   go_upto_region 7 with fail
   clear r y
   cases A:iU (hU P.h.l) v.n with
   |none=>
    have ap:Hid (ih P.p v f=(({P with hH:=true}:X1).p,0,false)):=O (by rw[F.out];have l:iU P.p.h v.n=none:=A;rw[l];rfl);clear F
    go_cut [8,9] (λp o D=>∃(z:Nat) (aP:OA) (c4:Nat),p=q_ z/\o=.bool false/\Bk D z 56 #[Y 0,.slice aP 0 c4]/\J [] aK D)
    case first=>
     have d:J [] aK aK.drew:=(H [] aK).drew;refine hI (λw'=>w'.cell? (Z gx 36)=some (.slice P.h.A P.h.l.length P.h.c)/\w'.cell? (Z j 0)=some (.bool v.r)/\w'.cell? (Z j 1)=some (Y v.n)) 13 k_ ?_
     refine nZ ⟨((B.bk.g_ d).f_ 36).trans rfl,(i.g_ d).f_ 0,(i.g_ d).f_ 1⟩ λC=>?_
     (iterate 6 refine jW C ?_)
     refine jh 6 10 rfl rfl k_ (λk MT=>?_) (λk MT=>?_)
     .go_simp
      (go_at_call 14;((with_reducible refine(get_none P.h.A P.h.c P.h.l v.n _ (B.g_ d).jQ.os B.hl A).mono ?_);rintro l T⟨rfl,e⟩))
      refine hX MT ⟨((B.bk.g_ (d.trans e)).f_ 36).trans rfl,(i.g_ (d.trans e)).f_ 0,(i.g_ (d.trans e)).f_ 1⟩ λC=>?_
      iterate 3 refine jW C ?_
      refine hV 10 λk MT=>?_
      go_simp;have ar:=Q_ T 56 #[Y 0,n_];have c:J [] aK (T.alloc (.cells #[Y 0,n_] 56)):=(d.trans e).alloc _;have C:(T.alloc (.cells #[Y 0,n_] 56)).cell? (Z gx 36)=some (.slice P.h.A P.h.l.length P.h.c)/\(T.alloc (.cells #[Y 0,n_] 56)).cell? (Z j 0)=some (.bool v.r)/\(T.alloc (.cells #[Y 0,n_] 56)).cell? (Z j 1)=some (Y v.n):=⟨((B.bk.g_ c).f_ 36).trans rfl,(i.g_ c).f_ 0,(i.g_ c).f_ 1⟩;have r:=ar.f_ 0;have y:=ar.f_ 1;have R:=ar.hm 0;have S:=ar.hm 1
      refine hX MT C λC=>?_
      refine hV 11 λk MT=>?_
      go_simp;have MO:=Q_ T 56 #[Y 0,n_];have a2:J [] aK (T.alloc (.cells #[Y 0,n_] 56)):=(d.trans e).alloc _
      refine hX MT ⟨((B.bk.g_ a2).f_ 36).trans rfl,(i.g_ a2).f_ 0,(i.g_ a2).f_ 1⟩ λC=>?_
      exact Lj
     .go_simp;have U:Bk ((aK.alloc (.cells #[Y 0,n_] 56)).drew) aK.heap.size 56 #[Y 0,n_]:=(Q_ aK 56 #[Y 0,n_]).drew;have c:J [] aK ((aK.alloc (.cells #[Y 0,n_] 56)).drew):=((H [] aK).alloc _).drew
      refine hX MT ⟨((B.bk.g_ c).f_ 36).trans rfl,(i.g_ c).f_ 0,(i.g_ c).f_ 1⟩ λC=>?_
      refine hV 6 λk MT=>?_
      go_simp
      (go_at_call 14;((with_reducible refine(get_none P.h.A P.h.c P.h.l v.n _ (B.g_ c).jQ.os B.hl A).mono ?_);rintro l T⟨rfl,e⟩))
      have MP:=c.trans e;have C:T.cell? (Z gx 36)=some (.slice P.h.A P.h.l.length P.h.c)/\T.cell? (Z j 0)=some (.bool v.r)/\T.cell? (Z j 1)=some (Y v.n):=⟨((B.bk.g_ MP).f_ 36).trans rfl,(i.g_ MP).f_ 0,(i.g_ MP).f_ 1⟩;have ar:=U.g_ e;have r:=ar.f_ 0;have y:=ar.f_ 1;have R:=ar.hm 0;have S:=ar.hm 1
      refine hX MT C λC=>?_
      iterate 3 refine jW C ?_
      refine hV 11 λk MT=>?_
      go_simp;have D_:aK.heap.size<=aK.heap.size:=H_ _;exact IM
    case rest=>
     obtain⟨z,aP,c4,rfl,rfl,ar,n⟩:=hcut;replace B:=B.g_ n;replace i:=i.g_ n;replace aF:=aF.g_ n;clear n;have ag:wc.cell? (Z gx 81)=some (.bool P.hH):=(B.bk.f_ 81).trans rfl;have K:=B.bk.hm 81;go_wp2;have bm:=B.set (x':={P with hH:=true}) 81 (.bool true) rfl rfl rfl rfl rfl rfl rfl rfl;refine FY (v:=.tuple #[Y 0,.bool false]) (HV (t:=6) (u:=7) rfl _ _ _) rfl ?_;exact LX
   |some a=>
    have g:Hid (ih P.p v f=if(a.fs.length:Int)<=f then(ji P.p (-1),0,false) else(P.p,v.n,true)):=O (by rw[F.out];have l:iU P.p.h v.n=some a:=A;rw[l]);clear F
    go_cut [8,9] (λp o D=>∃(z:Nat) (aP:OA) (c4:Nat),p=q_ z/\o=.bool true/\Bk D z 56 #[Y a.id,.slice aP a.fs.length c4]/\J [] aK D)
    case first=>
     have d:J [] aK aK.drew:=(H [] aK).drew;refine hI (λw'=>w'.cell? (Z gx 36)=some (.slice P.h.A P.h.l.length P.h.c)/\w'.cell? (Z j 0)=some (.bool v.r)/\w'.cell? (Z j 1)=some (Y v.n)) 13 k_ ?_
     refine nZ ⟨((B.bk.g_ d).f_ 36).trans rfl,(i.g_ d).f_ 0,(i.g_ d).f_ 1⟩ λC=>?_
     (iterate 6 refine jW C ?_)
     refine jh 6 10 rfl rfl k_ (λk MT=>?_) (λk MT=>?_)
     .go_simp
      (go_at_call 14;((with_reducible refine(get_some P.h.A P.h.c P.h.l v.n a _ (B.g_ d).jQ.os (B.g_ d).jQ.lD B.hl A).mono ?_);rintro l T⟨aP,c4,rfl,K,e⟩))
      refine hX MT ⟨((B.bk.g_ (d.trans e)).f_ 36).trans rfl,(i.g_ (d.trans e)).f_ 0,(i.g_ (d.trans e)).f_ 1⟩ λC=>?_
      iterate 3 refine jW C ?_
      refine hV 10 λk MT=>?_
      go_simp;have ar:=Q_ T 56 #[Y 0,n_];have c:J [] aK (T.alloc (.cells #[Y 0,n_] 56)):=(d.trans e).alloc _;have C:(T.alloc (.cells #[Y 0,n_] 56)).cell? (Z gx 36)=some (.slice P.h.A P.h.l.length P.h.c)/\(T.alloc (.cells #[Y 0,n_] 56)).cell? (Z j 0)=some (.bool v.r)/\(T.alloc (.cells #[Y 0,n_] 56)).cell? (Z j 1)=some (Y v.n):=⟨((B.bk.g_ c).f_ 36).trans rfl,(i.g_ c).f_ 0,(i.g_ c).f_ 1⟩;have r:=ar.f_ 0;have y:=ar.f_ 1;have R:=ar.hm 0;have S:=ar.hm 1
      refine hX MT C λC=>?_
      refine hV 11 λk MT=>?_
      go_simp;have MO:=Q_ T 56 #[Y a.id,.slice aP a.fs.length c4];have a2:J [] aK (T.alloc (.cells #[Y a.id,.slice aP a.fs.length c4] 56)):=(d.trans e).alloc _
      refine hX MT ⟨((B.bk.g_ a2).f_ 36).trans rfl,(i.g_ a2).f_ 0,(i.g_ a2).f_ 1⟩ λC=>?_
      exact Ll
     .go_simp;have U:Bk ((aK.alloc (.cells #[Y 0,n_] 56)).drew) aK.heap.size 56 #[Y 0,n_]:=(Q_ aK 56 #[Y 0,n_]).drew;have c:J [] aK ((aK.alloc (.cells #[Y 0,n_] 56)).drew):=((H [] aK).alloc _).drew
      refine hX MT ⟨((B.bk.g_ c).f_ 36).trans rfl,(i.g_ c).f_ 0,(i.g_ c).f_ 1⟩ λC=>?_
      refine hV 6 λk MT=>?_
      go_simp
      (go_at_call 14;((with_reducible refine(get_some P.h.A P.h.c P.h.l v.n a _ (B.g_ c).jQ.os (B.g_ c).jQ.lD B.hl A).mono ?_);rintro l T⟨aP,c4,rfl,K,e⟩))
      have MP:=c.trans e;have C:T.cell? (Z gx 36)=some (.slice P.h.A P.h.l.length P.h.c)/\T.cell? (Z j 0)=some (.bool v.r)/\T.cell? (Z j 1)=some (Y v.n):=⟨((B.bk.g_ MP).f_ 36).trans rfl,(i.g_ MP).f_ 0,(i.g_ MP).f_ 1⟩;have ar:=U.g_ e;have r:=ar.f_ 0;have y:=ar.f_ 1;have R:=ar.hm 0;have S:=ar.hm 1
      refine hX MT C λC=>?_
      iterate 3 refine jW C ?_
      refine hV 11 λk MT=>?_
      go_simp;have D_:aK.heap.size<=aK.heap.size:=H_ _;exact IJ
    case rest=>
     obtain⟨z,aP,c4,rfl,rfl,ar,n⟩:=hcut;replace B:=B.g_ n;replace i:=i.g_ n;replace aF:=aF.g_ n;have aR:=ar.f_ 1
     by_cases K:(a.fs.length:Int)<=f
     .have ap:Hid (ih P.p v f=(ji P.p (-1),0,false)):=O (by rw[g.out,O_ K])
      have q3:((a.fs.length:Int)<=f)=True:=by simp[K]
      go_wp2_with (go_at_call 165;((with_reducible refine(k8 b gx P (-1) B N).mono ?_);unfold kW;rintro l W⟨au,rfl,aj,s,G⟩;have ak:=O s))
      exact Kz
     .have ap:Hid (ih P.p v f=(P.p,v.n,true)):=O (by rw[g.out,I_ K])
      have q3:((a.fs.length:Int)<=f)=False:=by simp[K]
      have y:=i.f_ 1;go_wp2;refine FY (v:=.tuple #[Y v.n,.bool true]) (HV (t:=6) (u:=7) rfl _ _ _) rfl ?_;rw[ap.out];exact⟨P,rfl,B,rfl,aF⟩
