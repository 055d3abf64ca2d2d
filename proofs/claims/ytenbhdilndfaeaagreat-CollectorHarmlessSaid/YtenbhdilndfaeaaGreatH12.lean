import Derived.Test.YtenbhdilndfaeaaGreatH10
import Derived.Test.YtenbhdilndfaeaaGreatH11
import Derived.Maps.AppendAt
import Derived.OwnWalk
set_option maxRecDepth 100000
set_option maxHeartbeats 0
set_option linter.all false
namespace Go.Proofs.YtenbhdilndfaeaaGreat
open Go.RowKit Go.Proofs.Tryz
variable{G:Prop}{P:Program}{o:Oper}{a:Act}{Q:Exit->Act->World->Prop}{xs:QX}{ai g:Nat}{cs:Array Value}{aw:OA}
def Jr(h:G:=by
 have c:=O az;rw[az]at i;have HM:Hid (hO x.p=(({P with hM:=true}:X1).p,v.n,(a.fs.length:Int))):=O (by
  rw[lK h.out,<-bJ.out];have av:=aq.out.symm;have bV:=HG.out;rw[av,aL.out];unfold iS;rw[bV];have bN:=n.out;simp only[bN,c.out];first|rfl|(simp;done)|(simp;rfl))
 exact Jz):G:=h
def Js(h:G:=by
 have c:=O az;rw[az]at i;have HM:Hid (hO x.p=(({P with hM:=true}:X1).p,v.n,0)):=O (by
  rw[lK h.out,<-bJ.out];have av:=aq.out.symm;have bV:=HG.out;rw[av,aL.out];unfold iS;rw[bV];have bN:=n.out;simp only[bN,c.out];first|rfl|(simp;done)|(simp;rfl))
 have hs:=z.set (x':={P with hM:=true}) 81 (.bool true) rfl rfl rfl rfl rfl rfl rfl rfl;have M:=(G_ [gx] wc).setCell (p:=(Z gx 81)) (.inl s_)<|.bool true;have d:wc.cell? (Z gx 81)=some (.bool P.hM):=(z.bk.f_ 81).trans rfl;rw[ai]at d;have ah:=z.bk.hG 81;have U:=i.f_ 0;have af:=i.f_ 1;have aM:=ar.f_ 1;go_upto_region 7 with fail;have f:=i.ir (p:=(Z gx 81)) (Bk.mm i z.bk I)<|.bool true;have N1:=ar.ir (p:=(Z gx 81)) (Bk.mm ar z.bk I)<|.bool true;obtain⟨au,s⟩:=nm_<|wc.setCell (Z gx 81)<|.bool true;rw[<-s]at hs f N1 M |-;exact Kh):G:=h
def Jz(h:G:=by
 have hs:=z.set (x':={P with hM:=true}) 81 (.bool true) rfl rfl rfl rfl rfl rfl rfl rfl;have M:=(G_ [gx] wc).setCell (p:=(Z gx 81)) (.inl s_)<|.bool true;have d:wc.cell? (Z gx 81)=some (.bool P.hM):=(z.bk.f_ 81).trans rfl;rw[ai]at d;have ah:=z.bk.hG 81;have U:=i.f_ 0;have af:=i.f_ 1;have aM:=ar.f_ 1;go_upto_region 7 with fail;have f:=i.ir (p:=(Z gx 81)) (Bk.mm i z.bk I)<|.bool true;have N1:=ar.ir (p:=(Z gx 81)) (Bk.mm ar z.bk I)<|.bool true;obtain⟨au,s⟩:=nm_<|wc.setCell (Z gx 81)<|.bool true;rw[<-s]at hs f N1 M |-;exact Kb):G:=h
def JO(h:G:=by
 have V:=(ar.hW 0<|Y a.id).hW 1<|.slice aP a.fs.length c4;have M:=((G_ [aj.heap.size] T).setCell (p:=(Z aj.heap.size 0)) (.inl s_)<|Y a.id).setCell (p:=(Z aj.heap.size 1)) (.inl s_)<|.slice aP a.fs.length c4;have aV:=l.hJ M (by first|(simp;done)|(simp;exact Fd));refine hZ H ⟨((z.bk.hF aV).f_ 36).trans rfl,(i.hF aV).f_ 0,(i.hF aV).f_ 1⟩ λC=>?_;refine iC 12 C ?_;refine hN k_ ?_ _;go_wp2;go_meet;exact⟨aj.heap.size,aP,c4,rfl,rfl,V,aV⟩):G:=h
def JT(h:G:=by
 have V:=(ar.hW 0<|Y 0).hW 1<|n_;have M:=((G_ [aj.heap.size] T).setCell (p:=(Z aj.heap.size 0)) (.inl s_)<|Y 0).setCell (p:=(Z aj.heap.size 1)) (.inl s_)<|n_;have aV:=l.hJ M (by first|(simp;done)|(simp;exact Fd));refine hZ H ⟨((z.bk.hF aV).f_ 36).trans rfl,(i.hF aV).f_ 0,(i.hF aV).f_ 1⟩ λC=>?_;refine iC 12 C ?_;refine hN k_ ?_ _;go_wp2;go_meet;exact⟨aj.heap.size,none,0,rfl,rfl,V,aV⟩):G:=h
def Kb(h:G:=by
 refine hS (λw'=>w'.cell? (Z D 1)=some (Y v.n)/\w'.cell? (Z N2 1)=some (.slice aP a.fs.length c4)) 7 k_ ?_;exact KR):G:=h
def Kh(h:G:=by
 refine hS (λw'=>w'.cell? (Z D 1)=some (Y v.n)/\w'.cell? (Z N2 1)=some (.slice aP 0 c4)) 7 k_ ?_;exact KR):G:=h
def Kw(h:G:=by
 clear a hz hm;refine jW (W:=aj) (G_ _ _) k_ k_ ?_;repeat(go_big_quiet_step (((go_at_call 162;exact Calls.gq<|HM.out _))))
 exact Mb):G:=h
def KJ(h:G:=by
 refine rn_ ?_;have hs:=g.set (x':={x with hM:=true}) 81 (.bool true) rfl rfl rfl rfl rfl rfl rfl rfl;exact Mn):G:=h
def KR(h:G:=by
 refine m6 ⟨f.drew.f_ 1,N1.drew.f_ 1⟩ λC=>?_;(repeat refine j8 C ?_);refine hN k_ ?_ _;go_wp2
 go_ret2
 rw[HM.out];exact⟨_,rfl,hs.hF<|(G_ [] au).drew,rfl,(aF.iy M).hF<|(G_ [] au).drew⟩):G:=h
def KZ(h:G:=by
 refine jW (W:=aj) (G_ _ _) k_ k_ ?_;repeat(go_big_quiet_step ((fail)))
 exact Mb):G:=h
def Ly(h:G:=by
 intro c fz he;have bW:w'.heap[gx]?=some (.cells x.g_ 186 (0,0)):=i;rw[bW]at he;injection he with he;injection he with _ he _;exact GR he I):G:=h
def LI(h:G:=by
 refine Ha (v:=.tuple #[Y 0,.bool false]) (I5 (t:=6) (u:=7) rfl _ _ _) rfl ?_;rw[HM.out];exact⟨aI,rfl,F,bj.out,aF.trans G⟩):G:=h
def LR(h:G:=by
 have bW:w.heap[g]?=some (.cells cs t (0,0)):=hk;rw[bW]at hc;injection hc with hc;injection hc with _ hc _;exact aq hc):G:=h
def L0(h:G:=by
 intro he;obtain⟨_,cur,hc⟩:=az gx he;rw[j]at hc;injection hc with hc;injection hc with _ hc _;exact GR hc I):G:=h
def Mh(h:G:=by
 go_wp2;go_roundw;exact⟨k+1,X,gn,by rw[HI.out,aN.out],a.trans z⟩;exact mz):G:=h
def Mn(h:G:=by
 exact⟨_,rfl,hs,HM.out,((XG.refl gx w).hF<|hg1.alloc _).iy<|(G_ [gx] _).setCell (.inl s_) _⟩):G:=h
def Mt(h:G:=by
 refine iC 12 C ?_;refine hN k_ ?_ _;go_wp2;go_meet;exact⟨T.heap.size,none,0,rfl,rfl,V,aV⟩):G:=h
def Mu(h:G:=by
 refine iC 12 C ?_;refine hN k_ ?_ _;go_wp2;go_meet;exact⟨T.heap.size,aP,c4,rfl,rfl,V,aV⟩):G:=h
def MB(h:G:=by
 refine rn_ ?_;exact M8):G:=h
def ME(h:G:=by
 rw[hv]at f;have:d=g:=by simpa[Value.ownBlock]using f
 subst this;exact⟨s,cur,hh⟩):G:=h
def MG(h:G:=by
 rw[hv]at f;have:d=g:=by simpa[Value.ownBlock]using f
 subst this;exact⟨cur,hh⟩):G:=h
def MZ(h:G:=by
 rw[hv]at f;have:d=g:=by simpa[Value.ownBlock]using f
 subst this;exact jZ hh):G:=h
def M2(h:G:=by
 exact λr hr=>⟨Sl.iy (Sl.xg (h.nr r hr).1 h.bk aF) i I M,(h.nr r hr).2⟩):G:=h
def M8(h:G:=by
 rw[HM.out];exact⟨_,rfl,bY,rfl,aF.iy<|(G_ [gx] _).setCell (.inl s_) _⟩):G:=h
def Nf(h:G:=by
 go_enter func162,ntmps162;go_wp2;go_ret;exact⟨iJ (by rw[HM.out]),N2⟩):G:=h
section
def va{w:World}{ops:Array Oper}{K:Act->World->Prop}{E:Prop}(I:o.guard=none)(s x:Operand)(t:TypeId)(S:o.op=.call {callee:=.builtin .append,args:=#[s,x],argTypes:=#[t,t]})(base:Nat)(e:TypeId)(i:TypeInfo){z:Value}(j bytes:Nat)(U:P.underlying t=some (.slice e))(O:P.info? e=some i)(W:i.zero=some z)(q:i.size=j)(p:i.bytes=bytes)(C:z.cells.size=j)(F:0<j)(r:0<bytes)(v:Value)(n:Nat)(T:a.eval s=v)(H:w.ownsRow base e j v n xs)(d:Addr)(m c:Nat)(k:QX)(V:a.eval x=.slice (some d) m c)(R:k.length=m*j)(f:∀l u,k[l]?=some u->w.cell? (d.add l)=some u)(L:∀u∈k,u.oneCell'=true)(Z:0<m)(y:(n+m)*bytes<=140737488355328)(B:base<=w.heap.size)(h:∀(A':OA) (c':Nat) (w':World),w'.ownsRow base e j (.slice A' (n+m) c') (n+m) (xs++k)->w.grownBy w' v.ownBlock->((Value.slice A' (n+m) c').ownBlock=v.ownBlock\/(Value.slice A' (n+m) c').ownBlock=some w.heap.size)->K (a.put o.dst<|.slice A' (n+m) c') w'):
 if Region.wanted o (yielded ops a.tmps)=true then Oper.wp P o a w K Q else E:=by
 have D:Region.wanted o (yielded ops a.tmps)=true:=by simp[Region.wanted,I]
 rw[L_ D];have X:n+m<=maxLen:=by
  have:n+m<=(n+m)*bytes:=Ij _ r;simp only[maxLen];omega
 obtain⟨Y,w',A,h2,M,_,J⟩:=run_append_own_at (P:=P) w base t o.type e i z j bytes U O W q p C F v n xs H d m c k R f L X y B;have N:∃A' c',Y=.slice A' (n+m) c':=L7;obtain⟨A',c',rfl⟩:=N;unfold Oper.wp execOp;simp only[S,resolve,invoke,builtin,Sem.run_bind,Sem.run_pure,Result.andThen_ok,Io,Hs,H3,T,V,A];exact h A' c' w' h2 M J
structure XG(gx:Nat)(w w':World):Prop where
 iF:∀g t cs,w.heap[g]?=some (.cells cs t (0,0))->t≠116->g≠gx->w'.heap[g]?=some (.cells cs t (0,0))
 xb:∀g t cs fz,w.heap[g]?=some (.cells cs t fz)->t≠116->g≠gx->w'.heap[g]?=some (.cells cs t fz)
 size:w.heap.size<=w'.heap.size
def XG.refl(gx:Nat)(w:World):XG gx w w:=⟨λ_ _ _ c _ _=>c,λ_ _ _ _ c _ _=>c,I_ _⟩
def XG.trans{gx:Nat}{a b c:World}(h:XG gx a b)(k:XG gx b c):XG gx a c:=
 ⟨λg f cs i d e=>k.iF g f cs (h.iF g f cs i d e) d e,λg f cs j i d e=>k.xb g f cs j (h.xb g f cs j i d e) d e,H_ h.size k.size⟩
def jZ{w:World}{o:Obj}(h:w.heap[g]?=some o):g<w.heap.size:=by
 rcases GU g w.heap.size with c|c
 exact c;rw[GH c]at h;cases h
def XG.BV{gx:Nat}{w w':World}(h:J [gx] w w'):XG gx w w':=
 ⟨λg e cs c _ d=>(h.block g (jZ c)<|zu d).trans c,λg e cs f c _ d=>(h.block g (jZ c)<|zu d).trans c,h.size⟩
def XG.hF{gx:Nat}{a w w':World}(h:XG gx a w)(k:J [] w w'):XG gx a w':=h.trans<|XG.BV<|k.of_nil _
def XG.iy{gx:Nat}{a w w':World}(h:XG gx a w)(k:J [gx] w w'):XG gx a w':=h.trans<|XG.BV k
def Bk.xg{gx:Nat}{w w':World}{t:TypeId}(h:Bk w g t cs)(k:XG gx w w')(aq:g≠gx)(ht:t≠116:=by decide):Bk w' g t cs:=k.iF g t cs h ht aq
def Sl.xg{gx:Nat}{w w':World}{e:TypeId}{size:Nat}{A:OA}{n:Nat}{a:Array Value}(h:Sl w e size A n xs)(hx:Bk w gx 186 a)(k:XG gx w w')(hc:e≠116:=by decide)(ho:e≠186:=by decide):Sl w' e size A n xs:=
 ⟨h.1,λhn=>by
   obtain⟨b,off,cs,fz,hA,hb,N⟩:=h.2 hn;have aq:b≠gx:=by
    intro he;subst he;have h2:w.heap[b]?=some (.cells a 186 (0,0)):=hx;rw[h2]at hb;injection hb with hb;injection hb with _ hb _;exact ho hb.symm
   exact⟨b,off,cs,fz,hA,k.xb b e cs fz hb hc aq,N⟩⟩
def Sv.val(s:Sv Cl):Value:=.slice s.A s.l.length s.c
structure kF(b w:World)(gx:Nat)(x:X1):Prop where
 bk:Bk w gx 186 x.g_
 gr:J [gx] b w
 bx:∃cs,Bk b gx 186 cs
 ju:Is b x.ju.A x.ju.l
 h:mh b x.h.A x.h.c x.h.l
 rs:w.ownsRow b.heap.size 116 4 x.e.rs.val x.e.rs.l.length<|x.e.rs.l.flatMap Cl.E
 ws:w.ownsRow b.heap.size 116 4 x.e.ws.val x.e.ws.l.length<|x.e.ws.l.flatMap Cl.E
 ne:∀g,x.e.rs.val.ownBlock=some g->x.e.ws.val.ownBlock≠some g
 nw:Os w x.e.nw.A x.e.nw.l
 nr:nv w x.e.nw.l
 ds:Ds w x.e.ds.A x.e.ds.l
 ia:As w x.e.ia.A x.e.ia.l
 tX:x.e.nw.ok
 sQ:x.e.ds.ok
 qf:x.e.ia.ok
 il:x.ju.l.length<=1000000000
 hl:x.h.l.length<=1000000000
variable{b w w':World}{gx:Nat}{x:X1}
def kF.Fc(h:kF b w gx x):Is w x.ju.A x.ju.l:=by
 obtain⟨cs,c⟩:=h.bx;exact Sl.iy h.ju c I h.gr
def kF.ky(h:kF b w gx x):mh w x.h.A x.h.c x.h.l:=by
 obtain⟨cs,c⟩:=h.bx;exact h.h.iy c I I h.gr
def kF.lt(h:kF b w gx x):gx<b.heap.size:=by
 obtain⟨cs,c⟩:=h.bx;exact c.lt
def kF.hF(h:kF b w gx x)(k:J [] w w'):kF b w' gx x:=
 ⟨h.bk.hF k,h.gr.trans<|k.of_nil _,h.bx,h.ju,h.h,iO h.rs k,iO h.ws k,h.ne,h.nw.hF k,h.nr.hF k,h.ds.hF k,h.ia.hF k,h.tX,h.sQ,h.qf,h.il,h.hl⟩
def kF.sp{x':X1}(h:kF b w gx x)(k:J [gx] w w')(r:Bk w' gx 186 x'.g_)(l:x'.ju=x.ju)(m:x'.h=x.h)(n:x'.e.rs=x.e.rs)(i:x'.e.ws=x.e.ws)(d:x'.e.nw=x.e.nw)(f:x'.e.ds=x.e.ds)(j:x'.e.ia=x.e.ia):kF b w' gx x':=by
 refine⟨r,h.gr.trans k,h.bx,by rw[l];exact h.ju,by rw[m];exact h.h,?_,?_,by rw[n,i];exact h.ne,?_,?_,?_,?_,by rw[d];exact h.tX,by rw[f];exact h.sQ,by rw[j];exact h.qf,by rw[l];exact h.il,by rw[m];exact h.hl⟩;rw[n];exact kE (x:=gx) h.rs (λp q c=>by have e:w.heap[gx]?=some (.cells x.g_ 186 (0,0)):=h.bk;rw[e]at c;injection c with c;injection c with _ c _;exact GR c I) k;rw[i];exact kE (x:=gx) h.ws (λp q c=>by have e:w.heap[gx]?=some (.cells x.g_ 186 (0,0)):=h.bk;rw[e]at c;injection c with c;injection c with _ c _;exact GR c I) k;rw[d];exact Sl.iy h.nw h.bk I k;rw[d];exact h.nr.iy h.bk I k;rw[f];exact Sl.iy h.ds h.bk I k;rw[j];exact Sl.iy h.ia h.bk I k
def kF.set{x':X1}(h:kF b w gx x)(i:Nat)(u:Value)(hc:x'.g_=x.g_.setIfInBounds i u)(j:x'.ju=x.ju)(k:x'.h=x.h)(l:x'.e.rs=x.e.rs)(d:x'.e.ws=x.e.ws)(e:x'.e.nw=x.e.nw)(c:x'.e.ds=x.e.ds)(f:x'.e.ia=x.e.ia):kF b (w.setCell (Z gx i) u) gx x':=
 h.sp ((G_ [gx] w).setCell (p:=(Z gx i)) (.inl s_) u) (by rw[hc];exact h.bk.hW i u) j k l d e c f
def k5(v:Value)(P:XP)(b:World)(gx:Nat)(w:World)(e:Ending)(w':World):Prop:=∃x':X1,e=.returned v/\kF b w' gx x'/\x'.p=P/\XG gx w w'
def sP{b w:World}{gx:Nat}{x:X1}(h:kF b w gx x)(v:Array Value):∃W g,w.alloc (.cells v 189)=W/\w.heap.size=g/\kF b W gx x/\Bk W g 189 v/\XG gx w W/\g≠gx:=⟨_,_,rfl,rfl,h.hF<|(G_ [] w).alloc _,T_ w 189 v,(XG.refl gx w).hF<|(G_ [] w).alloc _,by have:=h.bk.lt;omega⟩
end
def pe(A:OA)(c:Nat)(l:QR)(hH hC n:Int)(w:World)(h:Is w A l)(v:l.length<=1000000000):
 Calls prog 162 #[.agg #[.slice A l.length c,Y hH,Y hC],Y n] w λe w'=>e=.returned (.bool<|i0 l n)/\J [] w w':=by
 have N2:=(G_ [] w).alloc<|.cells #[.slice A l.length c,Y hH,Y hC] 26;have r:=T_ w 26 #[.slice A l.length c,Y hH,Y hC];have B:=r.f_ 0;by_cases i:0<=n;by_cases f:n<(l.length:Int)
 .obtain⟨d,rfl⟩:∃d:Nat,n=d:=⟨n.toNat,X⟩;have j:d<l.length:=X;have HM:=O (show i0 l (d:Int)=(l[d].op==21) by unfold i0;simp[j]);obtain⟨t,y,rfl,u,k,q,p,m⟩:=(h.hF N2).at_ j;clear k q p m;generalize l[d].op=z at*;generalize l.length=n at*;exact Nf
 have HM:=O (show i0 l n=false by unfold i0;simp[f]);have s:(n<(l.length:Int))=False:=p_;clear f;exact Nf;have HM:=O (show i0 l n=false by unfold i0;simp[i]);have s:(0<=n)=False:=p_;clear i;exact Nf
def q9(b:World){w:World}(gx:Nat)(x:X1)(L:kF b w gx x):
 Calls prog 116 #[q_ gx] w (k5 (.tuple #[]) (iv x.p) b gx w):=by
 have t:w.cell? (Z gx 36)=some (.slice x.h.A x.h.l.length x.h.c):=(L.bk.f_ 36).trans rfl;cases ai:x.hM with
 |true=>
  have j:x.g_[81]?=some (.bool true):=by rw[<-ai];rfl
  have HM:Hid (({x with hM:=true}:X1).p=iv x.p):=O (by show _=iv x.p;unfold iv;have d:x.p.hM=true:=ai;rw[d];rfl);cases i:jy (hY x.h.l) 1 with
  |none=>
   go_enter func116,ntmps116;go_wp2_with (go_at_call 14;((with_reducible refine(get_none x.h.A x.h.c x.h.l 1 _ L.ky.os L.hl i).mono ?_);rintro d c⟨rfl,hg1⟩;have g:=L.hF<|hg1.alloc<|.cells #[Y 0,n_] 56;have h:=T_ c 56 #[Y 0,n_];have m:=h.f_ 1;have q:(c.alloc<|.cells #[Y 0,n_] 56).cell? (Z gx 81)=some (.bool true):=(g.bk.f_ 81).trans j;have n:=g.bk.hG 81));exact KJ
  |some o=>
   go_enter func116,ntmps116;go_wp2_with (go_at_call 14;((with_reducible refine(get_some x.h.A x.h.c x.h.l 1 o _ L.ky.os L.ky.ll L.hl i).mono ?_);rintro d c⟨e,f,rfl,r,hg1⟩;have g:=L.hF<|hg1.alloc<|.cells #[Y o.id,.slice e o.fs.length f] 56;have h:=T_ c 56 #[Y o.id,.slice e o.fs.length f];have m:=h.f_ 1;have q:(c.alloc<|.cells #[Y o.id,.slice e o.fs.length f] 56).cell? (Z gx 81)=some (.bool true):=(g.bk.f_ 81).trans j;have n:=g.bk.hG 81));exact KJ
 |false=>
  have j:x.g_[81]?=some (.bool false):=by rw[<-ai];rfl
  cases i:jy (hY x.h.l) 1 with
  |none=>
   have HM:Hid (({x with hM:=true}:X1).p=iv x.p):=O (by show _=iv x.p;unfold iv;have d:x.p.hM=false:=ai;have l:jy x.p.h 1=none:=i;rw[d,l];rfl);go_enter func116,ntmps116;go_wp2_with (go_at_call 14;((with_reducible refine(get_none x.h.A x.h.c x.h.l 1 _ L.ky.os L.hl i).mono ?_);rintro d c⟨rfl,hg1⟩;have g:=L.hF<|hg1.alloc<|.cells #[Y 0,n_] 56;have h:=T_ c 56 #[Y 0,n_];have m:=h.f_ 1;have q:(c.alloc<|.cells #[Y 0,n_] 56).cell? (Z gx 81)=some (.bool false):=(g.bk.f_ 81).trans j;have n:=g.bk.hG 81));exact KJ
  |some o=>
   by_cases k:(o.fs.length:Int)<3
   .have HM:Hid (({x with hM:=true}:X1).p=iv x.p):=O (by show _=iv x.p;unfold iv;have d:x.p.hM=false:=ai;have l:jy x.p.h 1=some o:=i;rw[d,l];simp[k];rfl);have s:((o.fs.length:Int)<3)=True:=by simp[k]
    clear k;go_enter func116,ntmps116;go_wp2_with (go_at_call 14;((with_reducible refine(get_some x.h.A x.h.c x.h.l 1 o _ L.ky.os L.ky.ll L.hl i).mono ?_);rintro d c⟨e,f,rfl,r,hg1⟩;have g:=L.hF<|hg1.alloc<|.cells #[Y o.id,.slice e o.fs.length f] 56;have h:=T_ c 56 #[Y o.id,.slice e o.fs.length f];have m:=h.f_ 1;have q:(c.alloc<|.cells #[Y o.id,.slice e o.fs.length f] 56).cell? (Z gx 81)=some (.bool false):=(g.bk.f_ 81).trans j;have n:=g.bk.hG 81));exact KJ
   have HM:Hid (({x with hM:=false}:X1).p=iv x.p):=O (by show _=iv x.p;unfold iv;have d:x.p.hM=false:=ai;have l:jy x.p.h 1=some o:=i;rw[d,l];simp[k];rfl);have s:((o.fs.length:Int)<3)=False:=by simp[k]
   clear k;go_enter func116,ntmps116;go_wp2_with (go_at_call 14;((with_reducible refine(get_some x.h.A x.h.c x.h.l 1 o _ L.ky.os L.ky.ll L.hl i).mono ?_);rintro d c⟨e,f,rfl,r,hg1⟩;have g:=L.hF<|hg1.alloc<|.cells #[Y o.id,.slice e o.fs.length f] 56;have h:=T_ c 56 #[Y o.id,.slice e o.fs.length f];have m:=h.f_ 1;have q:(c.alloc<|.cells #[Y o.id,.slice e o.fs.length f] 56).cell? (Z gx 81)=some (.bool false):=(g.bk.f_ 81).trans j;have n:=g.bk.hG 81));refine rn_ ?_;have hs:=g.set (x':={x with hM:=false}) 81 (.bool false) rfl rfl rfl rfl rfl rfl rfl rfl;exact Mn
def kF.EJ{b w w':World}{gx:Nat}{x:X1}(h:kF b w gx x)(l:Cl)(A:w'.ownsRow b.heap.size 116 4 (.slice aw (x.e.ws.l.length+1) ai) (x.e.ws.l.length+1)<|x.e.ws.l.flatMap Cl.E++Cl.E l)(q:w.grownBy w' x.e.ws.val.ownBlock)(t:(Value.slice aw (x.e.ws.l.length+1) ai).ownBlock=x.e.ws.val.ownBlock\/(Value.slice aw (x.e.ws.l.length+1) ai).ownBlock=some w.heap.size):
 kF b (w'.setCell (Z gx 73)<|.slice aw (x.e.ws.l.length+1) ai) gx ({x with e:={x.e with ws:=⟨aw,ai,x.e.ws.l++[l]⟩}}:X1)/\XG gx w (w'.setCell (Z gx 73)<|.slice aw (x.e.ws.l.length+1) ai):=by
 have u:(x.e.ws.l++[l]).length=x.e.ws.l.length+1:=s_;have az:∀g,x.e.ws.val.ownBlock=some g->b.heap.size<=g/\∃cur,w.heap[g]?=some (.cells cur 116 (0,0)):=by
  intro g f;rcases h.ws.2 with⟨hv,_⟩|⟨d,v,cur,hv,s,hh,_⟩
  rw[hv]at f;cases f
  exact ME
 have F:∀g,x.e.rs.val.ownBlock=some g->g<w.heap.size:=by
  intro g f;rcases h.rs.2 with⟨hv,_⟩|⟨d,v,cur,hv,s,hh,_⟩
  rw[hv]at f;cases f
  exact MZ
 have j:w.heap[gx]?=some (.cells x.g_ 186 (0,0)):=h.bk;have z:x.e.ws.val.ownBlock≠some gx:=L0;have i:Bk w' gx 186 x.g_:=(q.block gx (jZ j)<|Ne.symm z).trans j;have aF:XG gx w w':=⟨λg H cs k n m=>(q.block g (jZ k) (λhe=>by
  obtain⟨_,cur,hc⟩:=az g he.symm;rw[k]at hc;injection hc with hc;injection hc with _ hc _;exact n hc)).trans k,λg H cs fz k n m=>(q.block g (jZ k) (λhe=>by
  obtain⟨_,cur,hc⟩:=az g he.symm;rw[k]at hc;injection hc with hc;injection hc with _ hc _;exact n hc)).trans k,q.size⟩
 have M:=(G_ [gx] w').setCell (p:=(Z gx 73)) (.inl s_)<|.slice aw (x.e.ws.l.length+1) ai;have y:∀c fz,w'.heap[gx]?≠some (.cells c 116 fz):=Ly;have D:w'.ownsRow b.heap.size 116 4 x.e.rs.val x.e.rs.l.length (x.e.rs.l.flatMap Cl.E):=by
  refine h.rs.kept q ?_;rcases h.rs.2 with⟨hv,_⟩|⟨d,v,cur,hv,_⟩
  exact .inl (by rw[hv];rfl);right;rw[hv];intro he;have a:x.e.rs.val.ownBlock=some d:=by rw[hv];rfl
  have B:x.e.ws.val.ownBlock=some d:=he.symm.trans rfl;exact h.ne d a B
 refine⟨⟨?_,(h.gr.grown q λE C=>.inr (az E C).1).trans M,h.bx,h.ju,h.h,?_,?_,?_,?_,?_,?_,?_,h.tX,h.sQ,h.qf,h.il,h.hl⟩,aF.iy M⟩;have e:({x with e:={x.e with ws:=⟨aw,ai,x.e.ws.l++[l]⟩}}:X1).g_=x.g_.setIfInBounds 73 (.slice aw (x.e.ws.l.length+1) ai):=by rw[<-u];rfl
 rw[e];exact i.hW 73 _;exact kE (x:=gx) D y M;show World.ownsRow _ _ _ _ (.slice aw (x.e.ws.l++[l]).length ai) (x.e.ws.l++[l]).length ((x.e.ws.l++[l]).flatMap Cl.E);rw[u,He];simpa using kE (x:=gx) A y M;intro g k n;rcases t with t|t
 exact h.ne g k (by rw[<-t,<-u];exact n);have m:=n;unfold Sv.val at m;simp only at m;rw[u,t]at m;injection m with m;have:=F g k;omega;exact Sl.iy (Sl.xg h.nw h.bk aF) i I M;exact M2;exact Sl.iy (Sl.xg h.ds h.bk aF) i I M;exact Sl.iy (Sl.xg h.ia h.bk aF) i I M
def kF.EK{b w w':World}{gx:Nat}{x:X1}(h:kF b w gx x)(l:Cl)(A:w'.ownsRow b.heap.size 116 4 (.slice aw (x.e.rs.l.length+1) ai) (x.e.rs.l.length+1)<|x.e.rs.l.flatMap Cl.E++Cl.E l)(q:w.grownBy w' x.e.rs.val.ownBlock)(t:(Value.slice aw (x.e.rs.l.length+1) ai).ownBlock=x.e.rs.val.ownBlock\/(Value.slice aw (x.e.rs.l.length+1) ai).ownBlock=some w.heap.size):
 kF b (w'.setCell (Z gx 72)<|.slice aw (x.e.rs.l.length+1) ai) gx ({x with e:={x.e with rs:=⟨aw,ai,x.e.rs.l++[l]⟩}}:X1)/\XG gx w (w'.setCell (Z gx 72)<|.slice aw (x.e.rs.l.length+1) ai):=by
 have u:(x.e.rs.l++[l]).length=x.e.rs.l.length+1:=s_;have az:∀g,x.e.rs.val.ownBlock=some g->b.heap.size<=g/\∃cur,w.heap[g]?=some (.cells cur 116 (0,0)):=by
  intro g f;rcases h.rs.2 with⟨hv,_⟩|⟨d,v,cur,hv,s,hh,_⟩
  rw[hv]at f;cases f
  exact ME
 have F:∀g,x.e.ws.val.ownBlock=some g->g<w.heap.size:=by
  intro g f;rcases h.ws.2 with⟨hv,_⟩|⟨d,v,cur,hv,s,hh,_⟩
  rw[hv]at f;cases f
  exact MZ
 have j:w.heap[gx]?=some (.cells x.g_ 186 (0,0)):=h.bk;have z:x.e.rs.val.ownBlock≠some gx:=L0;have i:Bk w' gx 186 x.g_:=(q.block gx (jZ j)<|Ne.symm z).trans j;have aF:XG gx w w':=⟨λg H cs k n m=>(q.block g (jZ k) (λhe=>by
  obtain⟨_,cur,hc⟩:=az g he.symm;rw[k]at hc;injection hc with hc;injection hc with _ hc _;exact n hc)).trans k,λg H cs fz k n m=>(q.block g (jZ k) (λhe=>by
  obtain⟨_,cur,hc⟩:=az g he.symm;rw[k]at hc;injection hc with hc;injection hc with _ hc _;exact n hc)).trans k,q.size⟩
 have M:=(G_ [gx] w').setCell (p:=(Z gx 72)) (.inl s_)<|.slice aw (x.e.rs.l.length+1) ai;have y:∀c fz,w'.heap[gx]?≠some (.cells c 116 fz):=Ly;have D:w'.ownsRow b.heap.size 116 4 x.e.ws.val x.e.ws.l.length (x.e.ws.l.flatMap Cl.E):=by
  refine h.ws.kept q ?_;rcases h.ws.2 with⟨hv,_⟩|⟨d,v,cur,hv,_⟩
  exact .inl (by rw[hv];rfl);right;rw[hv];intro he;have a:x.e.ws.val.ownBlock=some d:=by rw[hv];rfl
  have B:x.e.rs.val.ownBlock=some d:=he.symm.trans rfl;exact h.ne d B a
 refine⟨⟨?_,(h.gr.grown q λE C=>.inr (az E C).1).trans M,h.bx,h.ju,h.h,?_,?_,?_,?_,?_,?_,?_,h.tX,h.sQ,h.qf,h.il,h.hl⟩,aF.iy M⟩;have e:({x with e:={x.e with rs:=⟨aw,ai,x.e.rs.l++[l]⟩}}:X1).g_=x.g_.setIfInBounds 72 (.slice aw (x.e.rs.l.length+1) ai):=by rw[<-u];rfl
 rw[e];exact i.hW 72 _;show World.ownsRow _ _ _ _ (.slice aw (x.e.rs.l++[l]).length ai) (x.e.rs.l++[l]).length ((x.e.rs.l++[l]).flatMap Cl.E);rw[u,He];simpa using kE (x:=gx) A y M;exact kE (x:=gx) D y M;intro g k n;rcases t with t|t
 exact h.ne g (by rw[<-t,<-u];exact k) n;have m:=k;unfold Sv.val at m;simp only at m;rw[u,t]at m;injection m with m;have:=F g n;omega;exact Sl.iy (Sl.xg h.nw h.bk aF) i I M;exact M2;exact Sl.iy (Sl.xg h.ds h.bk aF) i I M;exact Sl.iy (Sl.xg h.ia h.bk aF) i I M
def kF.BE{b w:World}{gx:Nat}{x:X1}(h:kF b w gx x):∀g,x.e.ws.val.ownBlock=some g->∃cur,w.heap[g]?=some (.cells cur 116 (0,0)):=by
 intro g f;rcases h.ws.2 with⟨hv,_⟩|⟨d,c,cur,hv,e,hh,_⟩
 rw[hv]at f;cases f
 exact MG
def kF.Ce{b w w':World}{gx:Nat}{x:X1}{t:TypeId}(h:kF b w gx x)(d:w.grownBy w' x.e.ws.val.ownBlock)(hk:Bk w g t cs)(aq:t≠116):Bk w' g t cs:=by
 refine(d.block g hk.lt λc=>?_).trans hk;obtain⟨e,hc⟩:=h.BE g c.symm;exact LR
def kF.Dm{b w w':World}{gx:Nat}{x:X1}(h:kF b w gx x)(c:w.grownBy w' x.e.ws.val.ownBlock):Bk w' gx 186 x.g_:=h.Ce c h.bk I
def kF.BF{b w:World}{gx:Nat}{x:X1}(h:kF b w gx x):∀g,x.e.rs.val.ownBlock=some g->∃cur,w.heap[g]?=some (.cells cur 116 (0,0)):=by
 intro g f;rcases h.rs.2 with⟨hv,_⟩|⟨d,c,cur,hv,e,hh,_⟩
 rw[hv]at f;cases f
 exact MG
def kF.yC{b w w':World}{gx:Nat}{x:X1}{t:TypeId}(h:kF b w gx x)(d:w.grownBy w' x.e.rs.val.ownBlock)(hk:Bk w g t cs)(aq:t≠116):Bk w' g t cs:=by
 refine(d.block g hk.lt λc=>?_).trans hk;obtain⟨e,hc⟩:=h.BF g c.symm;exact LR
def kF.Dn{b w w':World}{gx:Nat}{x:X1}(h:kF b w gx x)(c:w.grownBy w' x.e.rs.val.ownBlock):Bk w' gx 186 x.g_:=h.yC c h.bk I
def ke(b:World){w:World}(gx:Nat)(x:X1)(id f:Int)(v:Vl)(L:kF b w gx x)(W:x.e.ws.l.length<=1000000):
 Calls prog 163 #[q_ gx,Y id,Y f,.agg<|V_ v] w (k5 (.tuple #[]) (h6 x.p id f v) b gx w):=by
 obtain⟨M,K,F,N,O⟩:=info_parts infoCl;have l:=T_ w 38<|V_ v;have n:=(G_ [] w).alloc<|.cells (V_ v) 38;have g:=L.hF n;go_enter func163,ntmps163;go_upto_region 1 with fail;obtain⟨e,u⟩:=nm_<|w.alloc<|.cells (V_ v) 38;rw[<-u]at l n g |-;clear u;have p:J [] e e.drew:=(G_ [] e).drew;refine hS (λw'=>w'.cell? (Z gx 73)=some (.slice x.e.ws.A x.e.ws.l.length x.e.ws.c)/\w'.cell? (Z w.heap.size 0)=some (.bool v.r)/\w'.cell? (Z w.heap.size 1)=some (Y v.n)) 15 k_ ?_
 refine m6 ⟨((g.bk.hF p).f_ 73).trans rfl,(l.hF p).f_ 0,(l.hF p).f_ 1⟩ λd=>?_;repeat refine j8 d ?_
 refine h4 10 λi c=>?_;go_simp;have j:J [] e ((e.alloc<|.cells #[Y id,Y f,.bool v.r,Y v.n] 116).drew):=((G_ [] e).alloc _).drew;clear d;have d:((e.alloc<|.cells #[Y id,Y f,.bool v.r,Y v.n] 116).drew).cell? (Z gx 73)=some (.slice x.e.ws.A x.e.ws.l.length x.e.ws.c)/\((e.alloc<|.cells #[Y id,Y f,.bool v.r,Y v.n] 116).drew).cell? (Z w.heap.size 0)=some (.bool v.r)/\((e.alloc<|.cells #[Y id,Y f,.bool v.r,Y v.n] 116).drew).cell? (Z w.heap.size 1)=some (Y v.n):=⟨((g.bk.hF j).f_ 73).trans rfl,(l.hF j).f_ 0,(l.hF j).f_ 1⟩;have y:Bk ((e.alloc<|.cells #[Y id,Y f,.bool v.r,Y v.n] 116).drew) e.heap.size 116 #[Y id,Y f,.bool v.r,Y v.n]:=(T_ e 116 #[Y id,Y f,.bool v.r,Y v.n]).drew;have k:=g.hF j;obtain⟨T,z⟩:=nm_<|(e.alloc<|.cells #[Y id,Y f,.bool v.r,Y v.n] 116).drew;rw[<-z]at j d y k |-;clear z;generalize e.heap.size=Q at*;obtain⟨V,t,B⟩:=(k2 (s:=4) y rfl).nX I;injection t with t;subst t
 refine hZ c d λd=>?_;clear c i;refine h4 11 λi c=>?_;refine va rfl (.tmp 13) (.tmp 18) 50 rfl (b.heap.size) 116 M 4 32 underlying50 K F N O rfl I I (.slice x.e.ws.A x.e.ws.l.length x.e.ws.c) x.e.ws.l.length r_ k.ws (Z Q 0) 1 1 (Cl.E ⟨id,f,v⟩) r_ rfl B (by intro S R;exact qa [⟨id,f,v⟩] S<|zu R) I X k.gr.size ?_;intro aw ai D E m H;obtain⟨C,P⟩:=k.EJ ⟨id,f,v⟩ E m H;have r:=k.Dm m;have A:Bk D w.heap.size 38 (V_ v):=k.Ce m (l.hF j) I;have U:=r.f_ 73;have a:=r.hG 73;clear d;refine hZ c ⟨(r.f_ 73).trans rfl,A.f_ 0,A.f_ 1⟩ λd=>?_;clear c i;refine h4 12 λi c=>?_;go_simp;refine hZ c d λd=>?_;clear c i;refine h4 13 λi c=>?_;go_simp;refine hZ c d λd=>?_;clear c i;refine h4 14 λi c=>?_;go_simp;refine hZ c d λd=>?_;clear c i;refine h4 15 λi c=>?_;go_simp;refine c.out _ _ (λh=>GR h I) ?_;clear c i;try simp only[a_]
 refine hN k_ ?_ _;go_wp2;refine en_ ?_;exact⟨_,rfl,C,rfl,((XG.refl gx w).hF<|n.trans j).trans P⟩
def XG.new{gx:Nat}{w j T:World}(h:XG gx w j)(k:J [g] j T)(m:w.heap.size<=g):XG gx w T:=
 ⟨λd i cs c e f=>(k.block d (jZ<|h.iF d i cs c e f) (by have:=jZ c;simp;omega)).trans<|h.iF d i cs c e f,
  λd i cs l c e f=>(k.block d (jZ<|h.xb d i cs l c e f) (by have:=jZ c;simp;omega)).trans<|h.xb d i cs l c e f,H_ h.size k.size⟩
def Bk.qr{w:World}{t e:TypeId}(h:Bk w g t cs)(aq:e≠t):∀c fz,w.heap[g]?≠some (.cells c e fz):=Lz
def kF.late{b w c T:World}{gx:Nat}{x d:X1}{t:TypeId}(h:kF b c gx d)(h0:kF b w gx x)(i:d.e.nw=x.e.nw)(s:d.e.ds=x.e.ds)(v:d.e.ia=x.e.ia)(k:J [g] c T)(u:w.heap.size<=g)(j:Bk c g t cs)(C:t≠116)(a:t≠186)(f:XG gx w T):kF b T gx d:=by
 have r:gx≠g:=by
  intro B;subst B;have A:c.heap[gx]?=some (.cells d.g_ 186 (0,0)):=h.bk;have e:c.heap[gx]?=some (.cells cs t (0,0)):=j;rw[A]at e;injection e with e;injection e with _ e _;exact a e.symm
 have n:∀y z,c.heap[g]?≠some (.cells y 116 z):=j.qr<|Ne.symm C;refine⟨h.bk.gr k<|zu r,h.gr.hJ k (λq p=>Or.inr<|by rw[show q=g from by simpa using p];exact H_ h0.gr.size u),h.bx,h.ju,h.h,kE (x:=g) h.rs n k,kE (x:=g) h.ws n k,h.ne,?_,?_,?_,?_,h.tX,h.sQ,h.qf,h.il,h.hl⟩;rw[i];exact Sl.xg h0.nw h0.bk f;rw[i];exact λm l=>⟨Sl.xg (h0.nr m l).1 h0.bk f,(h0.nr m l).2⟩;rw[s];exact Sl.xg h0.ds h0.bk f;rw[v];exact Sl.xg h0.ia h0.bk f
def ni(P:XP)(v:Vl)(b:World)(gx:Nat)(w:World)(e:Ending)(w':World):Prop:=∃x':X1,e=.returned (.agg<|V_ v)/\kF b w' gx x'/\x'.p=P/\XG gx w w'
def wU(b w:World)(gx:Nat)(x:X1)(id f:Int)(L:kF b w gx x)(R:x.e.rs.l.length<=1000000)(j:iw (hY x.h.l) id f=none):
 Calls prog 118 #[q_ gx,Y id,Y f] w (ni (hQ x.p id f).1 (hQ x.p id f).2 b gx w):=by
 have z:=O j;have HM:Hid (hQ x.p id f=({x.p with hM:=true},default)):=O (by unfold hQ;have r:iw x.p.h id f=none:=j;rw[r]);clear j;have i:=(G_ [] w).alloc<|.cells #[.bool false,Y 0] 38;have s:=T_ w 38 #[.bool false,Y 0];have g:=L.hF i;go_enter func118,ntmps118;go_upto_region 1 with fail;obtain⟨l,m⟩:=nm_<|w.alloc<|.cells #[.bool false,Y 0] 38;rw[<-m]at s i g |-;clear m;have B:l.cell? (Z gx 36)=some (.slice x.h.A x.h.l.length x.h.c):=(g.bk.f_ 36).trans rfl;have t:gx≠w.heap.size:=ov L.bk.lt
 go_upto_region 3 with(go_at_call 148;((with_reducible refine(kL x.h.A x.h.c x.h.l id f _ g.ky.os g.ky.ll L.hl).mono ?_);rintro r c⟨rfl,h⟩;rw[z.out];simp only[IN,IW];have e:=g.hF<|h.alloc<|.cells (V_ (default:Vl)) 38;have y:=(s.hF h).alloc<|.cells (V_ (default:Vl)) 38;have N:Bk (c.alloc<|.cells (V_ (default:Vl)) 38) c.heap.size 38 (V_ (default:Vl)):=T_ c 38<|V_ (default:Vl);have u:J [] l (c.alloc<|.cells (V_ (default:Vl)) 38):=h.alloc _;have F:(c.alloc<|.cells (V_ (default:Vl)) 38).cell? (Z gx 72)=some (.slice x.e.rs.A x.e.rs.l.length x.e.rs.c):=(e.bk.f_ 72).trans rfl));have M:(c.alloc<|.cells (V_ (default:Vl)) 38).cell? (Z gx 81)=some (.bool x.hM):=(e.bk.f_ 81).trans rfl;have E:=e.bk.hG 81;have A:=e.set (x':={x with hM:=true}) 81 (.bool true) rfl rfl rfl rfl rfl rfl rfl rfl;have d:=y.ir (p:=(Z gx 81)) (Ne.symm t)<|.bool true;have C:=d.f_ 0;have D:=d.f_ 1;have H:=d.hG 0;have K:=d.hG 1;go_wp2;have q:=(d.hW 0<|.bool false).hW 1<|Y 0;have v:J [gx] w ((c.alloc<|.cells (V_ (default:Vl)) 38).setCell (Z gx 81)<|.bool true):=(((i.trans u).of_nil [gx])).setCell (p:=(Z gx 81)) (.inl s_) _;have k:=((G_ [w.heap.size]<|(c.alloc<|.cells (V_ (default:Vl)) 38).setCell (Z gx 81)<|.bool true).setCell (p:=(Z w.heap.size 0)) (.inl s_)<|.bool false).setCell (p:=(Z w.heap.size 1)) (.inl s_)<|Y 0;have n:=(XG.BV v).new k<|I_ _;refine rr_ #[.bool false,Y 0] q underlying38 ?_;rw[HM.out];exact⟨_,rfl,A.late L rfl rfl rfl k (I_ _) d I I n,rfl,n⟩
def zw{x:XP}{id f:Int}{v:Vl}(h:iw x.h id f=some v)(hc:0<=cat x.e.rs id f):hQ x id f=(x,v):=by
 unfold hQ;rw[h];simp[hc]
def xP{x:XP}{id f:Int}{v:Vl}(h:iw x.h id f=some v)(hc:cat x.e.rs id f= -1):hQ x id f=({x with e:={x.e with rs:=x.e.rs++[⟨id,f,v⟩]}},v):=by
 unfold hQ;rw[h];simp[hc]
def wT(b w:World)(gx:Nat)(x:X1)(id f:Int)(L:kF b w gx x)(hn:x.e.rs.l.length<=1000000)(v:Vl)(hr:iw (hY x.h.l) id f=some v):
 Calls prog 118 #[q_ gx,Y id,Y f] w (ni (hQ x.p id f).1 (hQ x.p id f).2 b gx w):=by
 have W:=O hr;have bl:=O (show cat x.e.rs.l id f=iK (λd:Cl=>d.id==id&&d.f==f) (x.e.rs.l.drop 0) 0 from rfl);clear hr;obtain⟨bM,bK,bC,be,bu⟩:=info_parts infoCl;have F:=(G_ [] w).alloc<|.cells #[.bool false,Y 0] 38;have T:=T_ w 38 #[.bool false,Y 0];have g:=L.hF F;go_enter func118,ntmps118;go_upto_region 1 with fail;obtain⟨al,an⟩:=nm_<|w.alloc<|.cells #[.bool false,Y 0] 38;rw[<-an]at T F g |-;clear an;have av:al.cell? (Z gx 36)=some (.slice x.h.A x.h.l.length x.h.c):=(g.bk.f_ 36).trans rfl;have ax:gx≠w.heap.size:=ov L.bk.lt
 go_wp2_with (go_at_call 148;((with_reducible refine(kL x.h.A x.h.c x.h.l id f _ g.ky.os g.ky.ll L.hl).mono ?_);rintro ay t⟨rfl,D⟩;rw[W.out];simp only[HO,Ir];have j:=g.hF<|D.alloc<|.cells (V_ v) 38;have ck:=(T.hF D).alloc<|.cells (V_ v) 38;have l:Bk (t.alloc<|.cells (V_ v) 38) t.heap.size 38 (V_ v):=T_ t 38<|V_ v;have R:J [] al (t.alloc<|.cells (V_ v) 38):=D.alloc _;have am:(t.alloc<|.cells (V_ v) 38).cell? (Z gx 72)=some (.slice x.e.rs.A x.e.rs.l.length x.e.rs.c):=(j.bk.f_ 72).trans rfl));have bO:=L;have A:=ck;clear ck T g av am;obtain⟨aK,bN⟩:=nm_<|t.alloc<|.cells (V_ v) 38;rw[<-bN]at j A l R |-;clear bN;clear D;generalize t.heap.size=B at*;have aq:=j
 go_loopw [33] (λU wr=>∃k:Nat,k<=x.e.rs.l.length/\U=Y k/\cat x.e.rs.l id f=iK (λd:Cl=>d.id==id&&d.f==f) (x.e.rs.l.drop k) k/\J [] aK wr) (λU _=>x.e.rs.l.length-(intOf U).toNat)
 case atStart=>exact⟨0,R_ _,rfl,bl.out,G_ _ _⟩
 obtain⟨k,hk,rfl,G,a⟩:=hrel;have HI:=O G;clear G;replace j:=aq.hF a;replace l:=l.hF a;replace A:=A.hF a;by_cases H:k<x.e.rs.l.length
 .have aC:(k:Int)<(x.e.rs.l.length:Int):=X;obtain⟨bG,off,N,bt,bA,bW,bL⟩:=Cs.at_ (Sl.iZ j.rs) H;rw[N];have aZ:=O (show x.e.rs.l.drop k=x.e.rs.l[k]::x.e.rs.l.drop (k+1) from W_ H);have V:=O (λC:((λd:Cl=>d.id==id&&d.f==f) x.e.rs.l[k]=true)=>l4 (λd:Cl=>d.id==id&&d.f==f) x.e.rs.l k k H C);have E:=O (λC:((λd:Cl=>d.id==id&&d.f==f) x.e.rs.l[k]=false)=>kO (λd:Cl=>d.id==id&&d.f==f) x.e.rs.l k k H C);generalize x.e.rs.l[k]=c at*;have M:=T_ wr 116 #[Y c.id,Y c.f,.bool c.v.r,Y c.v.n];have z:=(G_ [] wr).alloc<|.cells #[Y c.id,Y c.f,.bool c.v.r,Y c.v.n] 116;have z0:=M.f_ 0;have aM:=M.f_ 1;by_cases i:c.id=id
  .have m:(c.id==id)=true:=zu i;by_cases n:c.f=f
   .have r:(c.f==f)=true:=zu n;have aN:=O (show 0<=cat x.p.e.rs id f by show 0<=cat x.e.rs.l id f;rw[HI.out,V.out<|by simp[m,r]];omega);have HM:=O<|zw (x:=x.p) W.out aN.out;clear i n;have K:=l.hF z;have az:=K.f_ 0;have af:=K.f_ 1;have e:=A.hF z;have bQ:=e.f_ 0;have r1:=e.f_ 1;have bE:=e.hG 0;have bz:=e.hG 1;go_wp2;have q:=(e.hW 0<|.bool v.r).hW 1<|Y v.n;have S:J [] w (wr.alloc<|.cells #[Y c.id,Y c.f,.bool c.v.r,Y c.v.n] 116):=((F.trans R).trans a).trans z;have u:=((G_ [w.heap.size]<|wr.alloc<|.cells #[Y c.id,Y c.f,.bool c.v.r,Y c.v.n] 116).setCell (p:=(Z w.heap.size 0)) (.inl s_)<|.bool v.r).setCell (p:=(Z w.heap.size 1)) (.inl s_)<|Y v.n;have y:=((XG.refl gx w).hF S).new u<|I_ _;refine rr_ (V_ v) q underlying38 ?_;rw[HM.out];exact⟨_,rfl,(j.hF z).late bO rfl rfl rfl u (I_ _) e I I y,rfl,y⟩
   have r:(c.f==f)=false:=zu n;have aN:=O (E.out<|by simp[m,r]);clear i n;exact Mh
  have m:(c.id==id)=false:=zu i;have aN:=O (E.out<|by simp[m]);clear i;exact Mh
 have aC:¬(k:Int)<(x.e.rs.l.length:Int):=X;have aN:=O (show cat x.p.e.rs id f= -1 by show cat x.e.rs.l id f= -1;rw[HI.out,Hd X];rfl);have HM:=O<|xP (x:=x.p) W.out aN.out;clear HI bl aN;go_wp2_with fail;clear aC;have N:J [] wr wr.drew:=(G_ [] wr).drew;refine hS (λw'=>w'.cell? (Z gx 72)=some (.slice x.e.rs.A x.e.rs.l.length x.e.rs.c)/\w'.cell? (Z B 0)=some (.bool v.r)/\w'.cell? (Z B 1)=some (Y v.n)) 15 k_ ?_;refine m6 ⟨((j.bk.hF N).f_ 72).trans rfl,(l.hF N).f_ 0,(l.hF N).f_ 1⟩ λe=>?_;repeat refine j8 e ?_
 refine h4 10 λi c=>?_;go_simp;have m:J [] wr ((wr.alloc<|.cells #[Y id,Y f,.bool v.r,Y v.n] 116).drew):=((G_ [] wr).alloc _).drew;clear e;have e:((wr.alloc<|.cells #[Y id,Y f,.bool v.r,Y v.n] 116).drew).cell? (Z gx 72)=some (.slice x.e.rs.A x.e.rs.l.length x.e.rs.c)/\((wr.alloc<|.cells #[Y id,Y f,.bool v.r,Y v.n] 116).drew).cell? (Z B 0)=some (.bool v.r)/\((wr.alloc<|.cells #[Y id,Y f,.bool v.r,Y v.n] 116).drew).cell? (Z B 1)=some (Y v.n):=⟨((j.bk.hF m).f_ 72).trans rfl,(l.hF m).f_ 0,(l.hF m).f_ 1⟩;have ak:Bk ((wr.alloc<|.cells #[Y id,Y f,.bool v.r,Y v.n] 116).drew) wr.heap.size 116 #[Y id,Y f,.bool v.r,Y v.n]:=(T_ wr 116 #[Y id,Y f,.bool v.r,Y v.n]).drew;have r:=j.hF m;have aE:=A.hF m;have NZ:=l.hF m;obtain⟨o,N0⟩:=nm_<|(wr.alloc<|.cells #[Y id,Y f,.bool v.r,Y v.n] 116).drew;rw[<-N0]at m e ak r aE NZ |-;clear N0;generalize wr.heap.size=Q at*;obtain⟨aA,V,aB⟩:=(k2 (s:=4) ak rfl).nX I;injection V with V;subst V
 refine hZ c e λe=>?_;clear c i;refine h4 11 λi c=>?_;refine va rfl (.tmp 54) (.tmp 59) 50 rfl (b.heap.size) 116 bM 4 32 underlying50 bK bC be bu rfl I I (.slice x.e.rs.A x.e.rs.l.length x.e.rs.c) x.e.rs.l.length r_ r.rs (Z Q 0) 1 1 (Cl.E ⟨id,f,v⟩) r_ rfl aB (by intro aD hu;exact qa [⟨id,f,v⟩] aD<|zu hu) I X r.gr.size ?_;intro aw ai ae b9 E bF;obtain⟨N1,P⟩:=r.EK ⟨id,f,v⟩ b9 E bF;have K:=r.Dn E;have C:=r.yC E NZ I;have cz:=r.yC E aE I;have au:=K.f_ 72;have ah:=K.hG 72;clear e;refine hZ c ⟨(K.f_ 72).trans rfl,C.f_ 0,C.f_ 1⟩ λe=>?_;clear c i;refine h4 12 λi c=>?_;go_simp;refine hZ c e λe=>?_;clear c i;refine h4 13 λi c=>?_;go_simp;refine hZ c e λe=>?_;clear c i;refine h4 14 λi c=>?_;go_simp;refine hZ c e λe=>?_;clear c i;refine h4 15 λi c=>?_;go_simp;refine c.out _ _ (λh=>GR h I) ?_;clear c i;try simp only[a_]
 refine hN k_ ?_ _;have ar:=(G_ [gx] ae).setCell (p:=(Z gx 72)) (.inl s_)<|.slice aw (x.e.rs.l.length+1) ai;have M:=C.ir (p:=(Z gx 72)) (Bk.mm C K I)<|.slice aw (x.e.rs.l.length+1) ai;have n:=cz.ir (p:=(Z gx 72)) (Ne.symm ax)<|.slice aw (x.e.rs.l.length+1) ai;obtain⟨aQ,aH⟩:=nm_<|ae.setCell (Z gx 72)<|.slice aw (x.e.rs.l.length+1) ai;rw[<-aH]at N1 P M n |-;clear aH e au ah ar;have az:=M.f_ 0;have af:=M.f_ 1;have bQ:=n.f_ 0;have r1:=n.f_ 1;have bE:=n.hG 0;have bz:=n.hG 1;go_wp2;have aI:=(n.hW 0<|.bool v.r).hW 1<|Y v.n;have S:J [] w o:=((F.trans R).trans a).trans m;have u:=((G_ [w.heap.size] aQ).setCell (p:=(Z w.heap.size 0)) (.inl s_)<|.bool v.r).setCell (p:=(Z w.heap.size 1)) (.inl s_)<|Y v.n;have y:=(((XG.refl gx w).hF S).trans P).new u<|I_ _;refine rr_ (V_ v) aI underlying38 ?_;rw[HM.out];exact⟨_,rfl,N1.late bO rfl rfl rfl u (I_ _) n I I y,rfl,y⟩
def jY(b:World){w:World}(gx:Nat)(x:X1)(id f:Int)(L:kF b w gx x)(c:x.e.rs.l.length<=1000000):
 Calls prog 118 #[q_ gx,Y id,Y f] w (ni (hQ x.p id f).1 (hQ x.p id f).2 b gx w):=by
 cases d:iw (hY x.h.l) id f with
 |none=>exact wU b w gx x id f L c d
 |some e=>exact wT b w gx x id f L c e d
def js{k:Region.Mode}{d:World->Prop}{c:Nat}{l:QZ}(i j:Nat){f m:Oper}{p r:QZ}{n:Nat}{h:Array Bool}{w:World}(h1:l.drop i=f::p)(h2:l.drop j=m::r)(hr:Region.ready k l.toArray h=[i,j])(hi:∀e:Act->World->Prop,Shut (∀a w,(i<c->d w)->j5 P k l.toArray Q d c n (h.setIfInBounds i true) a w->e a w)->if Region.wanted f (yielded l.toArray a.tmps)=true then Oper.wp P f a w e Q else e (a.put f.dst undef) w)(hj:∀e:Act->World->Prop,Shut (∀a w,(j<c->d w)->j5 P k l.toArray Q d c n (h.setIfInBounds j true) a w->e a w)->if Region.wanted m (yielded l.toArray a.tmps)=true then Oper.wp P m a w e Q else e (a.put m.dst undef) w):
 j5 P k l.toArray Q d c (n+1) h a w:=by
 exact Kj
def vE(P:XP × Int × Int)(b:World)(gx:Nat)(w:World)(e:Ending)(w':World):Prop:=∃x':X1,e=.returned (.tuple #[Y P.2.1,Y P.2.2])/\kF b w' gx x'/\x'.p=P.1/\XG gx w w'
def xR{x:XP}(h:(iv x).hM=true):hO x=(iv x,0,0):=by
 unfold hO;simp[h]
def lK{x:XP}(h:(iv x).hM=false):hO x=({(hQ (iv x) 1 0).1 with hM:=(hQ (iv x) 1 0).1.hM||(!(hQ (iv x) 1 0).2.r||(match jy (hQ (iv x) 1 0).1.h (hQ (iv x) 1 0).2.n with|none=>true|some o=>decide ((o.fs.length:Int)<3)))},(hQ (iv x) 1 0).2.n,iS (hQ (iv x) 1 0).1.h (hQ (iv x) 1 0).2.n):=by
 unfold hO;simp[h];rfl
def nf(b:World){w:World}(gx:Nat)(x:X1)(L:kF b w gx x)(hn:x.e.rs.l.length<=1000000):
 Calls prog 161 #[q_ gx] w (vE (hO x.p) b gx w):=by
 go_enter func161,ntmps161;go_upto_region 2 with(go_at_call 116;((with_reducible refine(q9 b gx x L).mono ?_);unfold k5;rintro t w1⟨r,rfl,g,br,K⟩;have bJ:=O br;have d:w1.cell? (Z gx 81)=some (.bool r.hM):=(g.bk.f_ 81).trans rfl));have co:=O (show r.e.rs.l=x.e.rs.l by have:=bJ.out;exact GG (λp:XP=>p.e.rs) this);have hn1:r.e.rs.l.length<=1000000:=by rw[co.out];exact hn
 cases E:r.hM with
 |true=>
  rw[E]at d;have t:(iv x.p).hM=true:=(by rw[<-bJ.out];exact E);have HM:Hid (hO x.p=(r.p,0,0)):=O (by rw[xR t,bJ.out]);go_wp2
  go_ret2
  rw[HM.out];exact⟨_,rfl,g,rfl,K⟩
 |false=>
  rw[E]at d;have h:Hid ((iv x.p).hM=false):=O (by rw[<-bJ.out];exact E);obtain⟨v,hv⟩:=mn_<|(hQ r.p 1 0).2;have aL:=O hv;go_upto_region 5 with(go_at_call 118;((with_reducible refine(jY b gx r 1 0 g hn1).mono ?_);unfold ni;rintro t B⟨P,rfl,R,bl,S⟩;have aq:=O bl;rw[aL.out]));have z:=R.hF<|(G_ [] B).alloc<|.cells #[.bool v.r,Y v.n] 38;have i:=T_ B 38 #[.bool v.r,Y v.n];have aF:=(K.trans S).hF<|(G_ [] B).alloc<|.cells #[.bool v.r,Y v.n] 38;obtain⟨aj,W⟩:=nm_<|B.alloc<|.cells #[.bool v.r,Y v.n] 38;rw[<-W]at z i aF |-;clear W;generalize B.heap.size=D at*;clear R K S g d
  cases y:jy (hY P.h.l) v.n with
  |none=>
   have HG:Hid (jy P.p.h v.n=none):=O y;go_cut [5,6] (λp o A=>∃(N2:Nat) (aP:OA) (c4:Nat),p=q_ N2/\o=.bool false/\Bk A N2 56 #[Y 0,.slice aP 0 c4]/\J [] aj A)
   case first=>
    have j:=(G_ [] aj).drew;refine hS (λw'=>w'.cell? (Z gx 36)=some (.slice P.h.A P.h.l.length P.h.c)/\w'.cell? (Z D 0)=some (.bool v.r)/\w'.cell? (Z D 1)=some (Y v.n)) 13 k_ ?_;refine m6 ⟨((z.bk.hF j).f_ 36).trans rfl,(i.hF j).f_ 0,(i.hF j).f_ 1⟩ λC=>?_;(repeat refine j8 C ?_);refine js 6 10 rfl rfl k_ (λk H=>?_) λk H=>?_
    .go_simp;(go_at_call 14;((with_reducible refine(get_none P.h.A P.h.c P.h.l v.n _ (z.hF j).ky.os z.hl y).mono ?_);rintro t T⟨rfl,m⟩));refine hZ H ⟨((z.bk.hF<|j.trans m).f_ 36).trans rfl,(i.hF<|j.trans m).f_ 0,(i.hF<|j.trans m).f_ 1⟩ λC=>?_;repeat refine j8 C ?_
     refine h4 10 λk H=>?_;go_simp;have ar:=T_ T 56 #[Y 0,n_];have e:J [] aj (T.alloc<|.cells #[Y 0,n_] 56):=(j.trans m).alloc _;clear C;have C:(T.alloc<|.cells #[Y 0,n_] 56).cell? (Z gx 36)=some (.slice P.h.A P.h.l.length P.h.c)/\(T.alloc<|.cells #[Y 0,n_] 56).cell? (Z D 0)=some (.bool v.r)/\(T.alloc<|.cells #[Y 0,n_] 56).cell? (Z D 1)=some (Y v.n):=⟨((z.bk.hF e).f_ 36).trans rfl,(i.hF e).f_ 0,(i.hF e).f_ 1⟩;have U:=ar.f_ 0;have af:=ar.f_ 1;have F:=ar.hG 0;have X:=ar.hG 1;refine hZ H C λC=>?_;clear H k;refine h4 11 λk H=>?_;go_simp;have V:=T_ T 56 #[Y 0,n_];have aV:J [] aj (T.alloc<|.cells #[Y 0,n_] 56):=(j.trans m).alloc _;clear C;refine hZ H ⟨((z.bk.hF aV).f_ 36).trans rfl,(i.hF aV).f_ 0,(i.hF aV).f_ 1⟩ λC=>?_;clear H k;exact Mt
    go_simp;have N:=(T_ aj 56 #[Y 0,n_]).drew;have e:J [] aj ((aj.alloc<|.cells #[Y 0,n_] 56).drew):=((G_ [] aj).alloc _).drew;clear C;refine hZ H ⟨((z.bk.hF e).f_ 36).trans rfl,(i.hF e).f_ 0,(i.hF e).f_ 1⟩ λC=>?_;clear H k;refine h4 6 λk H=>?_;go_simp;(go_at_call 14;((with_reducible refine(get_none P.h.A P.h.c P.h.l v.n _ (z.hF e).ky.os z.hl y).mono ?_);rintro t T⟨rfl,m⟩));have l:=e.trans m;have C:T.cell? (Z gx 36)=some (.slice P.h.A P.h.l.length P.h.c)/\T.cell? (Z D 0)=some (.bool v.r)/\T.cell? (Z D 1)=some (Y v.n):=⟨((z.bk.hF l).f_ 36).trans rfl,(i.hF l).f_ 0,(i.hF l).f_ 1⟩;have ar:=N.hF m;have U:=ar.f_ 0;have af:=ar.f_ 1;have F:=ar.hG 0;have X:=ar.hG 1;refine hZ H C λC=>?_;repeat refine j8 C ?_
    refine h4 11 λk H=>?_;go_simp;exact JT
   obtain⟨N2,aP,c4,rfl,rfl,ar,q⟩:=hcut;replace z:=z.hF q;replace i:=i.hF q;replace aF:=aF.hF q;cases ai:P.hM with
   |true=>
    have n:=O (show P.p.hM=true from ai);cases az:v.r with
    |true=>
     exact Js
    |false=>
     exact Js
   |false=>
    have n:=O (show P.p.hM=false from ai);cases az:v.r with
    |true=>
     exact Js
    |false=>
     have c:=O az;rw[az]at i;have HM:Hid (hO x.p=(({P with hM:=true}:X1).p,v.n,0)):=O (by
      rw[lK h.out,<-bJ.out];have av:=aq.out.symm;have bV:=HG.out;rw[av,aL.out];unfold iS;rw[bV];have bN:=n.out;simp only[bN,c.out];first|rfl|(simp;done)|(simp;rfl))
     have hs:=z.set (x':={P with hM:=true}) 81 (.bool true) rfl rfl rfl rfl rfl rfl rfl rfl;have M:=(G_ [gx] wc).setCell (p:=(Z gx 81)) (.inl s_)<|.bool true;have d:wc.cell? (Z gx 81)=some (.bool P.hM):=(z.bk.f_ 81).trans rfl;rw[ai]at d;have ah:=z.bk.hG 81;have U:=i.f_ 0;have af:=i.f_ 1;have aM:=ar.f_ 1;go_upto_region 7 with fail;have f:=i.ir (p:=(Z gx 81)) (Bk.mm i z.bk I)<|.bool true;have N1:=ar.ir (p:=(Z gx 81)) (Bk.mm ar z.bk I)<|.bool true;clear U af aM d ah;obtain⟨au,s⟩:=nm_<|wc.setCell (Z gx 81)<|.bool true;rw[<-s]at hs f N1 M |-;clear s;exact Kh
  |some a=>
   have HG:Hid (jy P.p.h v.n=some a):=O y;go_cut [5,6] (λp o A=>∃(N2:Nat) (aP:OA) (c4:Nat),p=q_ N2/\o=.bool true/\Bk A N2 56 #[Y a.id,.slice aP a.fs.length c4]/\J [] aj A)
   case first=>
    have j:=(G_ [] aj).drew;refine hS (λw'=>w'.cell? (Z gx 36)=some (.slice P.h.A P.h.l.length P.h.c)/\w'.cell? (Z D 0)=some (.bool v.r)/\w'.cell? (Z D 1)=some (Y v.n)) 13 k_ ?_;refine m6 ⟨((z.bk.hF j).f_ 36).trans rfl,(i.hF j).f_ 0,(i.hF j).f_ 1⟩ λC=>?_;(repeat refine j8 C ?_);refine js 6 10 rfl rfl k_ (λk H=>?_) λk H=>?_
    .go_simp;(go_at_call 14;((with_reducible refine(get_some P.h.A P.h.c P.h.l v.n a _ (z.hF j).ky.os (z.hF j).ky.ll z.hl y).mono ?_);rintro t T⟨aP,c4,rfl,u,m⟩));refine hZ H ⟨((z.bk.hF<|j.trans m).f_ 36).trans rfl,(i.hF<|j.trans m).f_ 0,(i.hF<|j.trans m).f_ 1⟩ λC=>?_;repeat refine j8 C ?_
     refine h4 10 λk H=>?_;go_simp;have ar:=T_ T 56 #[Y 0,n_];have e:J [] aj (T.alloc<|.cells #[Y 0,n_] 56):=(j.trans m).alloc _;clear C;have C:(T.alloc<|.cells #[Y 0,n_] 56).cell? (Z gx 36)=some (.slice P.h.A P.h.l.length P.h.c)/\(T.alloc<|.cells #[Y 0,n_] 56).cell? (Z D 0)=some (.bool v.r)/\(T.alloc<|.cells #[Y 0,n_] 56).cell? (Z D 1)=some (Y v.n):=⟨((z.bk.hF e).f_ 36).trans rfl,(i.hF e).f_ 0,(i.hF e).f_ 1⟩;have U:=ar.f_ 0;have F:=ar.hG 0;refine hZ H C λC=>?_;clear H k;refine h4 11 λk H=>?_;go_simp;have V:=T_ T 56 #[Y a.id,.slice aP a.fs.length c4];have aV:J [] aj (T.alloc<|.cells #[Y a.id,.slice aP a.fs.length c4] 56):=(j.trans m).alloc _;clear C;refine hZ H ⟨((z.bk.hF aV).f_ 36).trans rfl,(i.hF aV).f_ 0,(i.hF aV).f_ 1⟩ λC=>?_;clear H k;exact Mu
    go_simp;have N:=(T_ aj 56 #[Y 0,n_]).drew;have e:J [] aj ((aj.alloc<|.cells #[Y 0,n_] 56).drew):=((G_ [] aj).alloc _).drew;clear C;refine hZ H ⟨((z.bk.hF e).f_ 36).trans rfl,(i.hF e).f_ 0,(i.hF e).f_ 1⟩ λC=>?_;clear H k;refine h4 6 λk H=>?_;go_simp;(go_at_call 14;((with_reducible refine(get_some P.h.A P.h.c P.h.l v.n a _ (z.hF e).ky.os (z.hF e).ky.ll z.hl y).mono ?_);rintro t T⟨aP,c4,rfl,u,m⟩));have l:=e.trans m;have C:T.cell? (Z gx 36)=some (.slice P.h.A P.h.l.length P.h.c)/\T.cell? (Z D 0)=some (.bool v.r)/\T.cell? (Z D 1)=some (Y v.n):=⟨((z.bk.hF l).f_ 36).trans rfl,(i.hF l).f_ 0,(i.hF l).f_ 1⟩;have ar:=N.hF m;have U:=ar.f_ 0;have af:=ar.f_ 1;have F:=ar.hG 0;have X:=ar.hG 1;refine hZ H C λC=>?_;repeat refine j8 C ?_
    refine h4 11 λk H=>?_;go_simp;exact JO
   obtain⟨N2,aP,c4,rfl,rfl,ar,q⟩:=hcut;replace z:=z.hF q;replace i:=i.hF q;replace aF:=aF.hF q;cases ai:P.hM with
   |true=>
    have n:=O (show P.p.hM=true from ai);cases az:v.r with
    |true=>
     exact Jr
    |false=>
     exact Jr
   |false=>
    have n:=O (show P.p.hM=false from ai);cases az:v.r with
    |true=>
     have c:=O az;rw[az]at i;by_cases u:(a.fs.length:Int)<3;have HM:Hid (hO x.p=(({P with hM:=true}:X1).p,v.n,(a.fs.length:Int))):=O (by
      rw[lK h.out,<-bJ.out];have av:=aq.out.symm;have bV:=HG.out;rw[av,aL.out];unfold iS;rw[bV];have bN:=n.out;simp only[bN,c.out];first|(simp[u];done)|(simp[u];rfl))
     have bH:((a.fs.length:Int)<3)=True:=by simp[u]
     exact Jz;have HM:Hid (hO x.p=(({P with hM:=false}:X1).p,v.n,(a.fs.length:Int))):=O (by
      rw[lK h.out,<-bJ.out];have av:=aq.out.symm;have bV:=HG.out;rw[av,aL.out];unfold iS;rw[bV];have bN:=n.out;simp only[bN,c.out];first|(simp[u];done)|(simp[u];rfl))
     have bH:((a.fs.length:Int)<3)=False:=by simp[u]
     clear u bJ aq aL HG h n c;have hs:=z.set (x':={P with hM:=false}) 81 (.bool false) rfl rfl rfl rfl rfl rfl rfl rfl;have M:=(G_ [gx] wc).setCell (p:=(Z gx 81)) (.inl s_)<|.bool false;have d:wc.cell? (Z gx 81)=some (.bool P.hM):=(z.bk.f_ 81).trans rfl;rw[ai]at d;clear ai;have ah:=z.bk.hG 81;have U:=i.f_ 0;have af:=i.f_ 1;have aM:=ar.f_ 1;go_upto_region 7 with fail;have f:=i.ir (p:=(Z gx 81)) (Bk.mm i z.bk I)<|.bool false;have N1:=ar.ir (p:=(Z gx 81)) (Bk.mm ar z.bk I)<|.bool false;clear U af aM d ah;obtain⟨au,s⟩:=nm_<|wc.setCell (Z gx 81)<|.bool false;rw[<-s]at hs f N1 M |-;clear s;exact Kb
    |false=>
     exact Jr
def mK(x:X1):∀c,c<33->x.g_[3+c]?=(iE x.j4 x.sr)[c]?
 |0,_=>rfl
 |1,_=>rfl
 |2,_=>rfl
 |3,_=>rfl
 |4,_=>rfl
 |5,_=>rfl
 |6,_=>rfl
 |7,_=>rfl
 |8,_=>rfl
 |9,_=>rfl
 |10,_=>rfl
 |11,_=>rfl
 |12,_=>rfl
 |13,_=>rfl
 |14,_=>rfl
 |15,_=>rfl
 |16,_=>rfl
 |17,_=>rfl
 |18,_=>rfl
 |19,_=>rfl
 |20,_=>rfl
 |21,_=>rfl
 |22,_=>rfl
 |23,_=>rfl
 |24,_=>rfl
 |25,_=>rfl
 |26,_=>rfl
 |27,_=>rfl
 |28,_=>rfl
 |29,_=>rfl
 |30,_=>rfl
 |31,_=>rfl
 |32,_=>rfl
 |n+33,h=>GR h X
def oo{pc:Int}{r:Nat->Vl}:(iE pc r).all (·.oneCell')=true:=by unfold iE;simp[Value.oneCell']
def nG(x:X1)(pc:Int)(r:Nat->Vl):vN x.g_ 39 (iE pc r).toList=({x with e:={x.e with pc:=pc,r:=r}}:X1).g_:=rfl
def jA{w':World}(e:TypeId){x:Operand}(n:o.op=.load e x)(g i:Nat)(r:a.eval x=.pointer (some<|Z g i)){vs:Array Value}(hc:∀c,c<vs.size->w'.cell? (Z g<|i+c)=vs[c]?){d:TypeDesc}(p:P.underlying e=some d)(k:d.isRow=true)(l:(P.info? e).map (·.size)=some vs.size):(execOp a.eval o).run P w'=.ok (.value<|.agg vs) w':=by
 have m:=run_loadAt_mid (P:=P) w' g i e vs.toList d (λc s h=>by
  have j:c<vs.size:=by
   rcases GU c vs.size with f|f
   exact f;rw[G7<|zu f]at h;cases h
  rw[hc c j];simpa using h) p k (zu l)
 unfold execOp;simp only[n,r,m,Sem.run_bind,Sem.run_pure,Result.andThen_ok]
def q3(l:QR)(h:Vl):Bool:=decide (h.r=true\/(h.n≠0/\i0 l h.n=false))
def sW(a:XP × Int × Int)(v:Vl):XP:=
 if a.1.hM=true then a.1 else
 let b:=hQ a.1 a.2.1 2
 if q3 b.1.ju b.2=true then kl b.1 else
 if b.2.n≠0 then
  let y:=h6 (h6 b.1 a.2.1 2 default) 1 2 v
  {y with e:={y.e with pc:=b.2.n,r:=ja}}
 else
  let p:=hQ b.1 a.2.1 0
  if p.2.r=false then kl p.1 else
  if p.2.n=0 then{p.1 with e:={p.1.e with h7:=2,hX:=true,v:=v,pc:=p.1.j4,r:=p.1.sr}}
  else
   let y:=h6 (h6 p.1 1 0 p.2) 1 2 v
   {y with e:={y.e with h7:=1,kw:=y.hC,pc:= -1,r:=ja}}
def zt(x:XP)(v:Vl):iX x v=sW (hO x) v:=by
 unfold iX sW q3;simp only[HH]
def pI(b:World){w:World}(gx:Nat)(x:X1)(v:Vl)(L:kF b w gx x)(hs:x.p.e.sm 900000):
 Calls prog 117 #[q_ gx,.agg #[.bool v.r,Y v.n]] w (k5 (.tuple #[]) (iX x.p v) b gx w):=by
 have al:=T_ w 38 #[.bool v.r,Y v.n];have bO:=L.hF<|(G_ [] w).alloc<|.cells #[.bool v.r,Y v.n] 38;have ao:=(XG.refl gx w).hF<|(G_ [] w).alloc<|.cells #[.bool v.r,Y v.n] 38;have K:w.heap.size≠gx:=ov L.bk.lt;have an:=l9 hs;go_enter func117,ntmps117;go_upto_region 1 with fail;obtain⟨bw,Q⟩:=nm_<|w.alloc<|.cells #[.bool v.r,Y v.n] 38;rw[<-Q]at al bO ao |-;clear Q
 go_upto_region 2 with(go_at_call 161;((with_reducible refine(nf b gx x bO<|H_ hs.rs I).mono ?_);unfold vE;rintro e w1⟨V,rfl,g,br,hg1⟩;have bJ:=O br;clear br;have aA:w1.cell? (Z gx 81)=some (.bool V.hM):=(g.bk.f_ 81).trans rfl));have y:=al.xg hg1 K;have aF:=ao.trans hg1;clear al bO ao hg1;have ax:=O<|zt x.p v;obtain⟨l,aQ⟩:=mn_<|(hO x.p).2.1;rw[aQ];have aY:=O aQ;clear aQ;generalize (hO x.p).2.2=b0 at*;rw[<-bJ.out]at an;cases aR:V.hM with
 |true=>
  rw[aR]at aA;have HM:Hid (iX x.p v=V.p):=O (by rw[ax.out,bJ.out];unfold sW;rw[L_<|by rw[<-bJ.out];exact aR]);clear aR an;go_wp2;refine rn_ ?_;rw[HM.out];exact⟨_,rfl,g,rfl,aF⟩
 |false=>
  rw[aR]at aA;have bQ:Hid (iX x.p v=(let b:=hQ V.p l 2
   if q3 b.1.ju b.2=true then kl b.1 else
   if b.2.n≠0 then
    let d:=h6 (h6 b.1 l 2 default) 1 2 v
    {d with e:={d.e with pc:=b.2.n,r:=ja}}
   else
    let p:=hQ b.1 l 0
    if p.2.r=false then kl p.1 else
    if p.2.n=0 then{p.1 with e:={p.1.e with h7:=2,hX:=true,v:=v,pc:=p.1.j4,r:=p.1.sr}}
    else
     let d:=h6 (h6 p.1 1 0 p.2) 1 2 v
     {d with e:={d.e with h7:=1,kw:=d.hC,pc:= -1,r:=ja}})):=O (by
   rw[ax.out];unfold sW;rw[K_ (by rw[<-bJ.out];show ¬V.hM=true;rw[aR];decide),aY.out,<-bJ.out])
  clear aR ax bJ aY;have hn1:V.e.rs.l.length<=1000000:=H_ an.rs X;obtain⟨h,hh⟩:=mn_<|(hQ V.p l 2).2;have bR:=O hh;clear hh;go_upto_region 4 with(go_at_call 118;((with_reducible refine(jY b gx V l 2 g hn1).mono ?_);unfold ni;rintro e ae⟨f,rfl,o,u,bd⟩;have bf:=O u;clear u;rw[bR.out]));have aW:=ko an l 2;have aw:=O bf.out;clear bf;rw[<-aw.out]at aW;have bL:Hid (iX x.p v=(if q3 f.ju.l h=true then kl f.p else
   if h.n≠0 then
    let d:=h6 (h6 f.p l 2 default) 1 2 v
    {d with e:={d.e with pc:=h.n,r:=ja}}
   else
    let p:=hQ f.p l 0
    if p.2.r=false then kl p.1 else
    if p.2.n=0 then{p.1 with e:={p.1.e with h7:=2,hX:=true,v:=v,pc:=p.1.j4,r:=p.1.sr}}
    else
     let d:=h6 (h6 p.1 1 0 p.2) 1 2 v
     {d with e:={d.e with h7:=1,kw:=d.hC,pc:= -1,r:=ja}})):=O (by
   rw[bQ.out];simp only[bR.out];rw[<-aw.out];rfl)
  clear bQ aw bR;have m:=o.hF<|(G_ [] ae).alloc<|.cells #[.bool h.r,Y h.n] 38;have M:=T_ ae 38 #[.bool h.r,Y h.n];have aD:ae.heap.size≠gx:=ov o.bk.lt;replace y:=(y.xg bd K).alloc<|.cells #[.bool h.r,Y h.n] 38;replace aF:=(aF.trans bd).hF<|(G_ [] ae).alloc<|.cells #[.bool h.r,Y h.n] 38;obtain⟨aj,aN⟩:=nm_<|ae.alloc<|.cells #[.bool h.r,Y h.n] 38;rw[<-aN]at m M y aF |-;clear aN;clear o bd g aA;generalize ae.heap.size=ap at*
  go_cut [36] (λd aX=>d=.bool (q3 f.ju.l h)/\J [] aj aX)
  case first=>
   have j:∀d:GW aj,d.1.cell? (Z ap 0)=some (.bool h.r):=M.AV 0;have t:∀d:GW aj,d.1.cell? (Z ap 1)=some (Y h.n):=M.AV 1;have s:∀d:GW aj,d.1.cell? (Z gx 0)=some (.slice f.ju.A f.ju.l.length f.ju.c):=λd=>(m.bk.AV 0 d).trans rfl;have k:∀d:GW aj,d.1.cell? (Z gx 1)=some (Y f.hH):=λd=>(m.bk.AV 1 d).trans rfl;have av:∀d:GW aj,d.1.cell? (Z gx 2)=some (Y f.hC):=λd=>(m.bk.AV 2 d).trans rfl;cases a:h.r with
   |true=>
    have a8:=O (show q3 f.ju.l h=true by unfold q3;simp[a]);rw[a]at j;clear a;exact KZ
   |false=>
    rw[a]at j;by_cases hz:h.n=0;have a8:=O (show q3 f.ju.l h=false by unfold q3;simp[a,hz]);have q:(h.n !=0)=false:=zu hz;clear a hz;exact KZ;have q:(h.n !=0)=true:=zu hz;cases hm:i0 f.ju.l h.n with
    |true=>
     have a8:=O (show q3 f.ju.l h=false by unfold q3;simp[a,hm]);have HM:Hid (∀d:GW aj,Calls prog 162 #[.agg #[.slice f.ju.A f.ju.l.length f.ju.c,Y f.hH,Y f.hC],Y h.n] d.1 λe i=>e=.returned (.bool true)/\J [] d.1 i):=O λd=>by have q:=pe f.ju.A f.ju.c f.ju.l f.hH f.hC h.n d.1 (m.hF d.2).Fc m.il;rw[hm]at q;exact q
     exact Kw
    |false=>
     have a8:=O (show q3 f.ju.l h=true by unfold q3;simp[a,hz,hm]);have HM:Hid (∀d:GW aj,Calls prog 162 #[.agg #[.slice f.ju.A f.ju.l.length f.ju.c,Y f.hH,Y f.hC],Y h.n] d.1 λe i=>e=.returned (.bool false)/\J [] d.1 i):=O λd=>by have q:=pe f.ju.A f.ju.c f.ju.l f.hH f.hC h.n d.1 (m.hF d.2).Fc m.il;rw[hm]at q;exact q
     exact Kw
  obtain⟨rfl,aJ⟩:=hcut;replace m:=m.hF aJ;replace M:=M.hF aJ;replace y:=y.hF aJ;replace aF:=aF.hF aJ;clear aJ;cases aO:q3 f.ju.l h with
  |true=>
   have HM:Hid (iX x.p v=({f with hM:=true}:X1).p):=O (by rw[bL.out,L_ aO];rfl);clear aO bL;have aA:wc.cell? (Z gx 81)=some (.bool f.hM):=(m.bk.f_ 81).trans rfl;have ah:=m.bk.hG 81;go_wp2;have bY:=m.set (x':={f with hM:=true}) 81 (.bool true) rfl rfl rfl rfl rfl rfl rfl rfl;exact MB
  |false=>
   rw[aO]at bL;by_cases hz:h.n=0
   .have HM:Hid (iX x.p v=(let p:=hQ f.p l 0
     if p.2.r=false then kl p.1 else
     if p.2.n=0 then{p.1 with e:={p.1.e with h7:=2,hX:=true,v:=v,pc:=p.1.j4,r:=p.1.sr}}
     else
      let d:=h6 (h6 p.1 1 0 p.2) 1 2 v
      {d with e:={d.e with h7:=1,kw:=d.hC,pc:= -1,r:=ja}})):=O (by rw[bL.out,K_ I,K_<|by simp[hz]])
    have q:(h.n !=0)=false:=zu hz;clear aO bL hz;have z:=M.f_ 1;have bV:f.e.rs.l.length<=1000000:=H_ aW.rs X;obtain⟨p,hp⟩:=mn_<|(hQ f.p l 0).2;have bh:=O hp;clear hp;go_upto_region 11 with(go_at_call 118;((with_reducible refine(jY b gx f l 0 m bV).mono ?_);unfold ni;rintro e aH⟨i,rfl,o,u,bd⟩;have bf:=O u;clear u;rw[bh.out]));have bk:Hid (iX x.p v=(if p.r=false then kl i.p else
     if p.n=0 then{i.p with e:={i.p.e with h7:=2,hX:=true,v:=v,pc:=i.p.j4,r:=i.p.sr}}
     else
      let d:=h6 (h6 i.p 1 0 p) 1 2 v
      {d with e:={d.e with h7:=1,kw:=d.hC,pc:= -1,r:=ja}})):=O (by
     rw[HM.out];simp only[bh.out];rw[<-bf.out])
    have ag:=ko aW l 0;rw[<-bf.out]at ag;clear HM bf bh z;have b9:aH.heap.size≠gx:=ov o.bk.lt;have U:=o.hF<|(G_ [] aH).alloc<|.cells #[.bool p.r,Y p.n] 38;have S:=T_ aH 38 #[.bool p.r,Y p.n];replace y:=(y.xg bd K).alloc<|.cells #[.bool p.r,Y p.n] 38;replace aF:=(aF.trans bd).hF<|(G_ [] aH).alloc<|.cells #[.bool p.r,Y p.n] 38;obtain⟨N,bT⟩:=nm_<|aH.alloc<|.cells #[.bool p.r,Y p.n] 38;rw[<-bT]at U S y aF |-;clear bT;clear o bd m M;generalize aH.heap.size=bK at*
    cases u:p.r with
    |false=>
     have HM:Hid (iX x.p v=({i with hM:=true}:X1).p):=O (by rw[bk.out,L_ u];rfl);rw[u]at S;clear bk u;have T:=S.f_ 0;go_upto_region 12 with fail;have aA:N.cell? (Z gx 81)=some (.bool i.hM):=(U.bk.f_ 81).trans rfl;have ah:=U.bk.hG 81;go_wp2;have bY:=U.set (x':={i with hM:=true}) 81 (.bool true) rfl rfl rfl rfl rfl rfl rfl rfl;exact MB
    |true=>
     rw[u]at bk S;by_cases hz:p.n=0
     .have HM:Hid (iX x.p v={i.p with e:={i.p.e with h7:=2,hX:=true,v:=v,pc:=i.p.j4,r:=i.p.sr}}):=O (by rw[bk.out,K_ I,L_ hz]);have bj:(p.n==0)=true:=zu hz;clear bk hz u;have T:=S.f_ 0;have z:=S.f_ 1;go_upto_region 14 with fail;clear T z S;have bm:=U.bk.drew;have aq:=y.drew;refine hS (λw'=>(∀t,t<33->w'.cell? (Z gx<|3+t)=(iE i.j4 i.sr)[t]?)/\w'.cell? (Z w.heap.size 0)=some (.bool v.r)/\w'.cell? (Z w.heap.size 1)=some (Y v.n)) 25 k_ ?_;refine m6 ⟨λt F=>by rw[bm.f_];exact mK i t F,aq.f_ 0,aq.f_ 1⟩ λj=>?_;refine iC 0 j ?_;refine iC 1 j ?_;refine iC 2 j ?_;refine iC 3 j ?_;refine iC 4 j ?_;refine iC 5 j ?_;refine iC 6 j ?_;refine iC 7 j ?_;refine iC 8 (v:=.agg<|iE i.j4 i.sr) j ?_ (hy:=(Or.inl ⟨r_,λw' aZ=>jA 49 rfl gx 3 r_ (λt F=>aZ.1 t F) underlying49 rfl k_⟩));refine iC 9 j ?_;refine iC 10 j ?_;refine iC 11 j ?_;have bZ:=bm.f_ 38;have bU:=bm.hG 38;refine h4 12 λbv B=>?_;go_simp;have aU:Bk ((N.setCell (Z gx 38)<|Y 2).drew) gx 186 ({i with e:={i.e with h7:=2}}:X1).g_:=(U.bk).hW 38<|Y 2;have bH:Bk ((N.setCell (Z gx 38)<|Y 2).drew) w.heap.size 38 #[.bool v.r,Y v.n]:=(y).ir (p:=(Z gx 38)) K<|Y 2;have aE:J [gx] N ((N.setCell (Z gx 38)<|Y 2).drew):=J.drew <| ((G_ [gx] N)).setCell (p:=(Z gx 38)) (.inl s_) (Y 2);obtain⟨bx,bW⟩:=nm_<|(N.setCell (Z gx 38)<|Y 2).drew;rw[<-bW]at aU bH aE |-;clear bW j
      refine hZ B ⟨λt F=>by rw[aU.f_];exact mK ({i with e:={i.e with h7:=2}}:X1) t F,bH.f_ 0,bH.f_ 1⟩ λj=>?_;clear B bv;clear bZ bU;refine iC 13 j ?_;refine iC 14 j ?_;refine iC 15 j ?_;have a7:=aU.f_ 78;have aL:=aU.hG 78;refine h4 16 λbv B=>?_;go_simp;have bt:Bk (bx.setCell (Z gx 78)<|.bool true) gx 186 ({i with e:={i.e with h7:=2,hX:=true}}:X1).g_:=(aU).hW 78<|.bool true;have bI:Bk (bx.setCell (Z gx 78)<|.bool true) w.heap.size 38 #[.bool v.r,Y v.n]:=(bH).ir (p:=(Z gx 78)) K<|.bool true;have aV:J [gx] N (bx.setCell (Z gx 78)<|.bool true):=(aE).setCell (p:=(Z gx 78)) (.inl s_)<|.bool true;obtain⟨ay,bX⟩:=nm_<|bx.setCell (Z gx 78)<|.bool true;rw[<-bX]at bt bI aV |-;clear bX j
      refine hZ B ⟨λt F=>by rw[bt.f_];exact mK ({i with e:={i.e with h7:=2,hX:=true}}:X1) t F,bI.f_ 0,bI.f_ 1⟩ λj=>?_;clear B bv;clear a7 aL;refine iC 17 j ?_;refine iC 18 j ?_;refine iC 19 j ?_;have b7:ay.cell? (Z gx 79)=some (.bool i.e.v.r):=(bt.f_ 79).trans rfl;have b8:ay.cell? (Z gx 80)=some (Y i.e.v.n):=(bt.f_ 80).trans rfl;have b4:=bt.hG 79;have b6:=bt.hG 80;refine h4 20 λbv B=>?_;go_simp;have cW:Bk ((ay.setCell (Z gx 79)<|.bool v.r).setCell (Z gx 80)<|Y v.n) gx 186 ({i with e:={i.e with h7:=2,hX:=true,v:=v}}:X1).g_:=((bt).hW 79<|.bool v.r).hW 80<|Y v.n;have bA:Bk ((ay.setCell (Z gx 79)<|.bool v.r).setCell (Z gx 80)<|Y v.n) w.heap.size 38 #[.bool v.r,Y v.n]:=((bI).ir (p:=(Z gx 79)) K<|.bool v.r).ir (p:=(Z gx 80)) K<|Y v.n;have bB:J [gx] N ((ay.setCell (Z gx 79)<|.bool v.r).setCell (Z gx 80)<|Y v.n):=((aV).setCell (p:=(Z gx 79)) (.inl s_)<|.bool v.r).setCell (p:=(Z gx 80)) (.inl s_)<|Y v.n;obtain⟨bn,ar⟩:=nm_<|(ay.setCell (Z gx 79)<|.bool v.r).setCell (Z gx 80)<|Y v.n;rw[<-ar]at cW bA bB |-;clear ar j
      refine hZ B ⟨λt F=>by rw[cW.f_];exact mK ({i with e:={i.e with h7:=2,hX:=true,v:=v}}:X1) t F,bA.f_ 0,bA.f_ 1⟩ λj=>?_;clear B bv;clear b7 b4 b8 b6;refine iC 21 j ?_;refine iC 22 j ?_;refine iC 23 j ?_;refine h4 24 λbv B=>?_;rw[L_ r_];refine jL 49 _ _ rfl gx 39 r_ (iE i.j4 i.sr) r_ 186 _ cW (by show 39+33<=82;decide) k_ (oo) ?_;intro N0 R G;rw[nG]at R;have bF:=bA.gr G<|zu K;clear j;refine hZ B ⟨λt F=>by rw[R.f_];exact mK ({({i with e:={i.e with h7:=2,hX:=true,v:=v}}:X1)with e:={(({i with e:={i.e with h7:=2,hX:=true,v:=v}}:X1)).e with pc:=i.j4,r:=i.sr}}:X1) t F,bF.f_ 0,bF.f_ 1⟩ λj=>?_;clear B bv;refine hN k_ ?_ _;go_wp2;refine rn_ ?_;rw[HM.out];exact⟨_,rfl,U.sp (bB.trans G) R rfl rfl rfl rfl rfl rfl rfl,rfl,aF.iy<|bB.trans G⟩
     have bu:¬p.n=0:=hz;have HM:Hid (iX x.p v=(let d:=h6 (h6 i.p 1 0 p) 1 2 v
      {d with e:={d.e with h7:=1,kw:=d.hC,pc:= -1,r:=ja}})):=O (by rw[bk.out,K_ I,K_ hz])
     have bj:(p.n==0)=false:=zu hz;clear bk hz bu;have T:=S.f_ 0;have z:=S.f_ 1;have F:i.e.ws.l.length<=1000000:=H_ ag.ws X;have B:=O (show p=⟨true,p.n⟩ by cases p;simp only at u;subst u;rfl);clear u;go_upto_region 16 with(go_at_call 163;((with_reducible refine(ke b gx i 1 0 ⟨true,p.n⟩ U F).mono ?_);unfold k5;rintro e NY⟨bS,rfl,C,E,s⟩;have D:=O E;clear E));have bD:=O D.out;clear D;have bi:=C;have be:=aF.trans s;have bC:=y.xg s K;have dj:bS.e.ws.l.length<=1000000:=by
      have e:bS.e.ws.l=i.e.ws.l++[⟨1,0,⟨true,p.n⟩⟩]:=GG (λp:XP=>p.e.ws) bD.out;rw[e,M_];have:=ag.ws;have av:i.p.e.ws.length=i.e.ws.l.length:=rfl;simp only[GI,Hb];omega
     clear C s T z;have T:=bC.f_ 0;have z:=bC.f_ 1;go_upto_region 17 with(go_at_call 163;((with_reducible refine(ke b gx bS 1 2 v bi dj).mono ?_);unfold k5;rintro e aB⟨k,rfl,C,E,s⟩;have D:=O E;clear E));have bl:=O D.out;clear D;have H:=C;have ai:=be.trans s;clear C s T z;have ad:Hid (iX x.p v=({k with e:={k.e with h7:=1,kw:=k.hC,pc:= -1,r:=ja}}:X1).p):=O (by
      rw[HM.out,B.out];have bE:h6 (h6 i.p 1 0 ⟨true,p.n⟩) 1 2 v=k.p:=by rw[bl.out,bD.out]
      exact GG (λd:XP=>({d with e:={d.e with h7:=1,kw:=d.hC,pc:= -1,r:=ja}}:XP)) bE)
     have P:aB.cell? (Z gx 2)=some (Y k.hC):=(H.bk.f_ 2).trans rfl;have bM:aB.cell? (Z gx 38)=some (Y k.e.h7):=(H.bk.f_ 38).trans rfl;have bp:aB.cell? (Z gx 77)=some (Y k.e.kw):=(H.bk.f_ 77).trans rfl;have bU:=H.bk.hG 38;have aK:=H.bk.hG 77;have t:Bk ((aB.setCell (Z gx 38)<|Y 1).setCell (Z gx 77)<|Y k.hC) gx 186 ({k with e:={k.e with h7:=1,kw:=k.hC}}:X1).g_:=(H.bk.hW 38<|Y 1).hW 77<|Y k.hC;have j:=((G_ [gx] aB).setCell (p:=(Z gx 38)) (.inl s_)<|Y 1).setCell (p:=(Z gx 77)) (.inl s_)<|Y k.hC;go_wp2_with (refine jn rfl 49 _ _ rfl gx 39 r_ (iE (-1) ja) r_ 186 _ t (by show 39+33<=82;decide) k_ (oo) ?_;intro N0 R G);rw[nG]at R;refine en_ ?_;rw[ad.out];exact⟨_,rfl,H.sp (j.trans G) R rfl rfl rfl rfl rfl rfl rfl,rfl,ai.iy<|j.trans G⟩
   have HM:Hid (iX x.p v=(let d:=h6 (h6 f.p l 2 default) 1 2 v
    {d with e:={d.e with pc:=h.n,r:=ja}})):=O (by rw[bL.out,K_ I,L_ hz])
   have q:(h.n !=0)=true:=zu hz;clear aO bL hz;have i:f.e.ws.l.length<=1000000:=H_ aW.ws X;have z:=M.f_ 1;go_upto_region 8 with(go_at_call 163;((with_reducible refine(ke b gx f l 2 ⟨false,0⟩ m i).mono ?_);unfold k5;rintro e NY⟨bS,rfl,C,E,s⟩;have D:=O E;clear E));have bD:=O D.out;clear D;have bi:=C;have be:=aF.trans s;have bC:=y.xg s K;have j:=M.xg s aD;have dj:bS.e.ws.l.length<=1000000:=by
    have e:bS.e.ws.l=f.e.ws.l++[⟨l,2,⟨false,0⟩⟩]:=GG (λp:XP=>p.e.ws) bD.out;rw[e,M_];have:=aW.ws;have av:f.p.e.ws.length=f.e.ws.l.length:=rfl;simp only[GI,Hb];omega
   clear C s z;have T:=bC.f_ 0;have z:=bC.f_ 1;go_upto_region 9 with(go_at_call 163;((with_reducible refine(ke b gx bS 1 2 v bi dj).mono ?_);unfold k5;rintro e aB⟨k,rfl,C,E,s⟩;have D:=O E;clear E));have bl:=O D.out;clear D;have H:=C;have ai:=be.trans s;have t:=j.xg s aD;clear C s T z;have z:=t.f_ 1;have ad:Hid (iX x.p v=({k with e:={k.e with pc:=h.n,r:=ja}}:X1).p):=O (by
    rw[HM.out];have bE:h6 (h6 f.p l 2 default) 1 2 v=k.p:=by rw[bl.out,bD.out];rfl
    exact GG (λd:XP=>({d with e:={d.e with pc:=h.n,r:=ja}}:XP)) bE)
   go_wp2_with (refine jn rfl 49 _ _ rfl gx 39 r_ (iE (h.n) ja) r_ 186 _ H.bk (by show 39+33<=82;decide) k_ (oo) ?_;intro N0 R G);rw[nG]at R;refine rn_ ?_;rw[ad.out];exact⟨_,rfl,H.sp G R rfl rfl rfl rfl rfl rfl rfl,rfl,ai.iy G⟩
def ld(b:World){w:World}(gx:Nat)(x:X1)(n:Int)(L:kF b w gx x)(h:x.p.e.sm 900000):
 Calls prog 165 #[q_ gx,Y n] w (k5 (.tuple #[]) (i9 x.p n) b gx w):=by
 go_enter func165,ntmps165;go_wp2_with (go_at_call 117;((with_reducible refine(pI b gx x ⟨false,n⟩ L h).mono ?_);unfold k5;rintro j i⟨e,rfl,c,d,G⟩;have f:=O d));refine en_ ?_;exact⟨e,rfl,c,f.out,G⟩
def xL(P:XP × Int × Int × Bool)(b:World)(gx:Nat)(w:World)(e:Ending)(w':World):Prop:=∃x':X1,e=.returned (.tuple #[Y P.2.1,Y P.2.2.1,.bool P.2.2.2])/\kF b w' gx x'/\x'.p=P.1/\XG gx w w'
def CC(P:XP × Int × Bool)(b:World)(gx:Nat)(w:World)(e:Ending)(w':World):Prop:=∃x':X1,e=.returned (.tuple #[Y P.2.1,.bool P.2.2])/\kF b w' gx x'/\x'.p=P.1/\XG gx w w'
def yU(a:XP × Int × Int)(n:Int):XP × Int × Int × Bool:=
 if a.1.hM=true then(a.1,0,0,false) else
 if a.2.2<=3+n then(i9 a.1<|-1,0,0,false) else(a.1,a.2.1,3+n,true)
def CN(x:XP)(n:Int):hI x n=yU (hO x) n:=rfl
def zz(x:XP):0<=(hO x).2.2:=by
 unfold hO;simp only;split;exact Hl _;show 0<=iS _ _;unfold iS;split<;>omega
def mv(b:World){w:World}(gx:Nat)(x:X1)(n:Int)(L:kF b w gx x)(s:x.p.e.sm 800000)(h0:0<=n)(N:n<=1000000):
 Calls prog 167 #[q_ gx,Y n] w (xL (hI x.p n) b gx w):=by
 have k:=l9 s;have C:=zz x.p;go_enter func167,ntmps167;go_upto_region 2 with(go_at_call 161;((with_reducible refine(nf b gx x L<|H_ s.rs I).mono ?_);unfold vE;rintro H K⟨c,rfl,g,E,j⟩;have d:=O E;have q:K.cell? (Z gx 81)=some (.bool c.hM):=(g.bk.f_ 81).trans rfl));have h:=O<|CN x.p n;obtain⟨r,m⟩:=mn_<|(hO x.p).2.1;rw[m];obtain⟨i,l⟩:=mn_<|(hO x.p).2.2;rw[l]at C |-;have p:=O l;have B:=O m;rw[<-d.out]at k
 cases e:c.hM with
 |true=>
  rw[e]at q;have HM:Hid (hI x.p n=(c.p,0,0,false)):=O (by rw[h.out,d.out];unfold yU;rw[L_<|by rw[<-d.out];exact e]);go_wp2;refine Ha (v:=.tuple #[Y 0,Y 0,.bool false]) (results_tmp3 (t:=4) (u:=5) (v:=6) rfl _ _ _) rfl ?_;rw[HM.out];exact⟨_,rfl,g,rfl,j⟩
 |false=>
  rw[e]at q;by_cases f:i<=3+n
  .have HM:Hid (hI x.p n=(i9 c.p<|-1,0,0,false)):=O (by
    rw[h.out,d.out];unfold yU;rw[K_ (by rw[<-d.out];show ¬c.hM=true;rw[e];decide),L_<|by rw[p.out];exact f])
   have J:(i<=3+n)=True:=by simp[f]
   have F:c.p.e.sm 900000:=k.mono X;go_wp2_with (go_at_call 165;((with_reducible refine(ld b gx c (-1) g F).mono ?_);unfold k5;rintro H M⟨A,rfl,y,z,G⟩;have D:=O z));refine Ha (v:=.tuple #[Y 0,Y 0,.bool false]) (results_tmp3 (t:=4) (u:=5) (v:=6) rfl _ _ _) rfl ?_;rw[HM.out];exact⟨A,rfl,y,D.out,j.trans G⟩
  have HM:Hid (hI x.p n=(c.p,r,3+n,true)):=O (by
   rw[h.out,d.out];unfold yU;rw[K_ (by rw[<-d.out];show ¬c.hM=true;rw[e];decide),K_ (by rw[p.out];exact f),B.out])
  have J:(i<=3+n)=False:=by simp[f]
  go_wp2;refine Ha (v:=.tuple #[Y r,Y<|3+n,.bool true]) (results_tmp3 (t:=4) (u:=5) (v:=6) rfl _ _ _) rfl ?_;rw[HM.out];exact⟨c,rfl,g,rfl,j⟩
def rh(b:World){w:World}(gx:Nat)(P:X1)(v:Vl)(f:Int)(L:kF b w gx P)(hs:P.p.e.sm 800000):
 Calls prog 168 #[q_ gx,.agg #[.bool v.r,Y v.n],Y f] w (CC (ik P.p v f) b gx w):=by
 have z:=L.hF<|(G_ [] w).alloc<|.cells #[.bool v.r,Y v.n] 38;have i:=T_ w 38 #[.bool v.r,Y v.n];have aF:=(XG.refl gx w).hF<|(G_ [] w).alloc<|.cells #[.bool v.r,Y v.n] 38;have W:P.p.e.sm 900000:=hs.mono I;have aS:w.heap.size≠gx:=ov L.bk.lt;go_enter func168,ntmps168;go_upto_region 1 with fail;obtain⟨aj,aN⟩:=nm_<|w.alloc<|.cells #[.bool v.r,Y v.n] 38;rw[<-aN]at z i aF |-;clear aN;generalize w.heap.size=j at*
 cases n:v.r with
 |false=>
  have HM:Hid (ik P.p v f=(i9 P.p<|-2,0,false)):=O (by unfold ik;rw[L_ n]);rw[n]at i;clear n;have A:=i.f_ 0;go_wp2_with (go_at_call 165;((with_reducible refine(ld b gx P (-2) z W).mono ?_);unfold k5;rintro m N0⟨aI,rfl,F,y,G⟩;have bj:=O y;clear y));exact LI
 |true=>
  have ad:=O n;by_cases K:v.n=0
  .have HM:Hid (ik P.p v f=(i9 P.p<|-1,0,false)):=O (by unfold ik;rw[K_ (by rw[n];decide),L_ K]);have q:(v.n==0)=true:=zu K;rw[n]at i;clear n K ad;have A:=i.f_ 0;have B:=i.f_ 1;go_wp2_with (go_at_call 165;((with_reducible refine(ld b gx P (-1) z W).mono ?_);unfold k5;rintro m N0⟨aI,rfl,F,y,G⟩;have bj:=O y;clear y));exact LI
  have q:(v.n==0)=false:=zu K;have N:Hid (ik P.p v f=(match jy P.p.h v.n with
   |none=>(kl P.p,0,false)
   |some o=>if(o.fs.length:Int)<=f then(i9 P.p<|-1,0,false) else(P.p,v.n,true))):=O (by unfold ik;rw[K_ (by rw[n];decide),K_ K];rfl)
  have A:aj.cell? (Z j 0)=some (.bool true):=(i.f_ 0).trans (by rw[n];rfl);have B:=i.f_ 1;go_upto_region 7 with fail;clear A B;cases D:jy (hY P.h.l) v.n with
  |none=>
   have HM:Hid (ik P.p v f=(({P with hM:=true}:X1).p,0,false)):=O (by rw[N.out];have m:jy P.p.h v.n=none:=D;rw[m];rfl);clear N;go_cut [8,9] (λp o E=>∃(s:Nat) (aP:OA) (c4:Nat),p=q_ s/\o=.bool false/\Bk E s 56 #[Y 0,.slice aP 0 c4]/\J [] aj E)
   case first=>
    have d:J [] aj aj.drew:=(G_ [] aj).drew;refine hS (λw'=>w'.cell? (Z gx 36)=some (.slice P.h.A P.h.l.length P.h.c)/\w'.cell? (Z j 0)=some (.bool v.r)/\w'.cell? (Z j 1)=some (Y v.n)) 13 k_ ?_;refine m6 ⟨((z.bk.hF d).f_ 36).trans rfl,(i.hF d).f_ 0,(i.hF d).f_ 1⟩ λC=>?_;(iterate 6 refine j8 C ?_);refine js 6 10 rfl rfl k_ (λk H=>?_) λk H=>?_
    .go_simp;(go_at_call 14;((with_reducible refine(get_none P.h.A P.h.c P.h.l v.n _ (z.hF d).ky.os z.hl D).mono ?_);rintro m T⟨rfl,e⟩));refine hZ H ⟨((z.bk.hF<|d.trans e).f_ 36).trans rfl,(i.hF<|d.trans e).f_ 0,(i.hF<|d.trans e).f_ 1⟩ λC=>?_;iterate 3 refine j8 C ?_
     refine h4 10 λk H=>?_;go_simp;have ar:=T_ T 56 #[Y 0,n_];have c:J [] aj (T.alloc<|.cells #[Y 0,n_] 56):=(d.trans e).alloc _;have C:(T.alloc<|.cells #[Y 0,n_] 56).cell? (Z gx 36)=some (.slice P.h.A P.h.l.length P.h.c)/\(T.alloc<|.cells #[Y 0,n_] 56).cell? (Z j 0)=some (.bool v.r)/\(T.alloc<|.cells #[Y 0,n_] 56).cell? (Z j 1)=some (Y v.n):=⟨((z.bk.hF c).f_ 36).trans rfl,(i.hF c).f_ 0,(i.hF c).f_ 1⟩;have A:=ar.f_ 0;have B:=ar.f_ 1;have S:=ar.hG 0;have U:=ar.hG 1;refine hZ H C λC=>?_;refine h4 11 λk H=>?_;go_simp;have V:=T_ T 56 #[Y 0,n_];have aV:J [] aj (T.alloc<|.cells #[Y 0,n_] 56):=(d.trans e).alloc _;refine hZ H ⟨((z.bk.hF aV).f_ 36).trans rfl,(i.hF aV).f_ 0,(i.hF aV).f_ 1⟩ λC=>?_;exact Mt
    go_simp;have X:Bk ((aj.alloc<|.cells #[Y 0,n_] 56).drew) aj.heap.size 56 #[Y 0,n_]:=(T_ aj 56 #[Y 0,n_]).drew;have c:J [] aj ((aj.alloc<|.cells #[Y 0,n_] 56).drew):=((G_ [] aj).alloc _).drew;refine hZ H ⟨((z.bk.hF c).f_ 36).trans rfl,(i.hF c).f_ 0,(i.hF c).f_ 1⟩ λC=>?_;refine h4 6 λk H=>?_;go_simp;(go_at_call 14;((with_reducible refine(get_none P.h.A P.h.c P.h.l v.n _ (z.hF c).ky.os z.hl D).mono ?_);rintro m T⟨rfl,e⟩));have l:=c.trans e;have C:T.cell? (Z gx 36)=some (.slice P.h.A P.h.l.length P.h.c)/\T.cell? (Z j 0)=some (.bool v.r)/\T.cell? (Z j 1)=some (Y v.n):=⟨((z.bk.hF l).f_ 36).trans rfl,(i.hF l).f_ 0,(i.hF l).f_ 1⟩;have ar:=X.hF e;have A:=ar.f_ 0;have B:=ar.f_ 1;have S:=ar.hG 0;have U:=ar.hG 1;refine hZ H C λC=>?_;iterate 3 refine j8 C ?_
    refine h4 11 λk H=>?_;go_simp;have Fd:aj.heap.size<=aj.heap.size:=I_ _;exact JT
   obtain⟨s,aP,c4,rfl,rfl,ar,r⟩:=hcut;replace z:=z.hF r;replace i:=i.hF r;replace aF:=aF.hF r;clear r;have ae:wc.cell? (Z gx 81)=some (.bool P.hM):=(z.bk.f_ 81).trans rfl;have R:=z.bk.hG 81;go_wp2;have bY:=z.set (x':={P with hM:=true}) 81 (.bool true) rfl rfl rfl rfl rfl rfl rfl rfl;refine Ha (v:=.tuple #[Y 0,.bool false]) (I5 (t:=6) (u:=7) rfl _ _ _) rfl ?_;exact M8
  |some a=>
   have x:Hid (ik P.p v f=if(a.fs.length:Int)<=f then(i9 P.p<|-1,0,false) else(P.p,v.n,true)):=O (by rw[N.out];have m:jy P.p.h v.n=some a:=D;rw[m]);clear N;go_cut [8,9] (λp o E=>∃(s:Nat) (aP:OA) (c4:Nat),p=q_ s/\o=.bool true/\Bk E s 56 #[Y a.id,.slice aP a.fs.length c4]/\J [] aj E)
   case first=>
    have d:J [] aj aj.drew:=(G_ [] aj).drew;refine hS (λw'=>w'.cell? (Z gx 36)=some (.slice P.h.A P.h.l.length P.h.c)/\w'.cell? (Z j 0)=some (.bool v.r)/\w'.cell? (Z j 1)=some (Y v.n)) 13 k_ ?_;refine m6 ⟨((z.bk.hF d).f_ 36).trans rfl,(i.hF d).f_ 0,(i.hF d).f_ 1⟩ λC=>?_;(iterate 6 refine j8 C ?_);refine js 6 10 rfl rfl k_ (λk H=>?_) λk H=>?_
    .go_simp;(go_at_call 14;((with_reducible refine(get_some P.h.A P.h.c P.h.l v.n a _ (z.hF d).ky.os (z.hF d).ky.ll z.hl D).mono ?_);rintro m T⟨aP,c4,rfl,R,e⟩));refine hZ H ⟨((z.bk.hF<|d.trans e).f_ 36).trans rfl,(i.hF<|d.trans e).f_ 0,(i.hF<|d.trans e).f_ 1⟩ λC=>?_;iterate 3 refine j8 C ?_
     refine h4 10 λk H=>?_;go_simp;have ar:=T_ T 56 #[Y 0,n_];have c:J [] aj (T.alloc<|.cells #[Y 0,n_] 56):=(d.trans e).alloc _;have C:(T.alloc<|.cells #[Y 0,n_] 56).cell? (Z gx 36)=some (.slice P.h.A P.h.l.length P.h.c)/\(T.alloc<|.cells #[Y 0,n_] 56).cell? (Z j 0)=some (.bool v.r)/\(T.alloc<|.cells #[Y 0,n_] 56).cell? (Z j 1)=some (Y v.n):=⟨((z.bk.hF c).f_ 36).trans rfl,(i.hF c).f_ 0,(i.hF c).f_ 1⟩;have A:=ar.f_ 0;have B:=ar.f_ 1;have S:=ar.hG 0;have U:=ar.hG 1;refine hZ H C λC=>?_;refine h4 11 λk H=>?_;go_simp;have V:=T_ T 56 #[Y a.id,.slice aP a.fs.length c4];have aV:J [] aj (T.alloc<|.cells #[Y a.id,.slice aP a.fs.length c4] 56):=(d.trans e).alloc _;refine hZ H ⟨((z.bk.hF aV).f_ 36).trans rfl,(i.hF aV).f_ 0,(i.hF aV).f_ 1⟩ λC=>?_;exact Mu
    go_simp;have X:Bk ((aj.alloc<|.cells #[Y 0,n_] 56).drew) aj.heap.size 56 #[Y 0,n_]:=(T_ aj 56 #[Y 0,n_]).drew;have c:J [] aj ((aj.alloc<|.cells #[Y 0,n_] 56).drew):=((G_ [] aj).alloc _).drew;refine hZ H ⟨((z.bk.hF c).f_ 36).trans rfl,(i.hF c).f_ 0,(i.hF c).f_ 1⟩ λC=>?_;refine h4 6 λk H=>?_;go_simp;(go_at_call 14;((with_reducible refine(get_some P.h.A P.h.c P.h.l v.n a _ (z.hF c).ky.os (z.hF c).ky.ll z.hl D).mono ?_);rintro m T⟨aP,c4,rfl,R,e⟩));have l:=c.trans e;have C:T.cell? (Z gx 36)=some (.slice P.h.A P.h.l.length P.h.c)/\T.cell? (Z j 0)=some (.bool v.r)/\T.cell? (Z j 1)=some (Y v.n):=⟨((z.bk.hF l).f_ 36).trans rfl,(i.hF l).f_ 0,(i.hF l).f_ 1⟩;have ar:=X.hF e;have A:=ar.f_ 0;have B:=ar.f_ 1;have S:=ar.hG 0;have U:=ar.hG 1;refine hZ H C λC=>?_;iterate 3 refine j8 C ?_
    refine h4 11 λk H=>?_;go_simp;have Fd:aj.heap.size<=aj.heap.size:=I_ _;exact JO
   obtain⟨s,aP,c4,rfl,rfl,ar,r⟩:=hcut;replace z:=z.hF r;replace i:=i.hF r;replace aF:=aF.hF r;have aM:=ar.f_ 1;by_cases R:(a.fs.length:Int)<=f
   .have HM:Hid (ik P.p v f=(i9 P.p<|-1,0,false)):=O (by rw[x.out,L_ R]);have bH:((a.fs.length:Int)<=f)=True:=by simp[R]
    go_wp2_with (go_at_call 165;((with_reducible refine(ld b gx P (-1) z W).mono ?_);unfold k5;rintro m N0⟨aI,rfl,F,y,G⟩;have bj:=O y));exact LI
   have HM:Hid (ik P.p v f=(P.p,v.n,true)):=O (by rw[x.out,K_ R]);have bH:((a.fs.length:Int)<=f)=False:=by simp[R]
   have B:=i.f_ 1;go_wp2;refine Ha (v:=.tuple #[Y v.n,.bool true]) (I5 (t:=6) (u:=7) rfl _ _ _) rfl ?_;rw[HM.out];exact⟨P,rfl,z,rfl,aF⟩
