import Derived.Test.YtenbhdilndfaeaaGreatM10
import Derived.Test.YtenbhdilndfaeaaGreatM11
import Derived.Maps.AppendAt
import Derived.OwnWalk
set_option maxRecDepth 100000
set_option maxHeartbeats 0
set_option linter.all false
namespace Go.Proofs.YtenbhdilndfaeaaGreat
open Go.RowKit Go.Proofs.Tryz
variable{G:Prop}{P:Program}{o:Oper}{a:Act}{Q:Exit->Act->World->Prop}{xs:QW}{aj g:Nat}{cs:Array Value}{aw:OA}
def IV(h:G:=by
 have h:=O aB;rw[aB]at i;have HM:Hid (hT x.p=(({aD with hO:=true}:X1).p,v.n,(a.fs.length:Int))):=O (by
  rw[lG l.out,<-be.out];have aG:=aQ.out.symm;have b4:=HG.out;rw[aG,av.out];unfold iF;rw[b4];have bR:=q.out;simp only[bR,h.out];first|rfl|(simp;done)|(simp;rfl))
 exact I5):G:=h
def IX(h:G:=by
 have h:=O aB;rw[aB]at i;have HM:Hid (hT x.p=(({aD with hO:=true}:X1).p,v.n,0)):=O (by
  rw[lG l.out,<-be.out];have aG:=aQ.out.symm;have b4:=HG.out;rw[aG,av.out];unfold iF;rw[b4];have bR:=q.out;simp only[bR,h.out];first|rfl|(simp;done)|(simp;rfl))
 have hs:=B.set (x':={aD with hO:=true}) 81 (.bool true) rfl rfl rfl rfl rfl rfl rfl rfl;have L:=(F_ [gx] wc).setCell (p:=(Z gx 81)) (.inl H) (.bool true);have d:wc.cell? (Z gx 81)=some (.bool aD.hO):=(B.bk.f_ 81).trans rfl;rw[aj]at d;have ai:=B.bk.hG 81;have U:=i.f_ 0;have ah:=i.f_ 1;have aR:=V.f_ 1;go_upto_region 7 with fail;have f:=i.ih (p:=(Z gx 81)) (Bk.l8 i B.bk I) (.bool true);have M:=V.ih (p:=(Z gx 81)) (Bk.l8 V B.bk I) (.bool true);obtain⟨Q,j⟩:=nm_ (wc.setCell (Z gx 81) (.bool true));rw[<-j]at hs f M L |-;exact JL):G:=h
def I5(h:G:=by
 have hs:=B.set (x':={aD with hO:=true}) 81 (.bool true) rfl rfl rfl rfl rfl rfl rfl rfl;have L:=(F_ [gx] wc).setCell (p:=(Z gx 81)) (.inl H) (.bool true);have d:wc.cell? (Z gx 81)=some (.bool aD.hO):=(B.bk.f_ 81).trans rfl;rw[aj]at d;have ai:=B.bk.hG 81;have U:=i.f_ 0;have ah:=i.f_ 1;have aR:=V.f_ 1;go_upto_region 7 with fail;have f:=i.ih (p:=(Z gx 81)) (Bk.l8 i B.bk I) (.bool true);have M:=V.ih (p:=(Z gx 81)) (Bk.l8 V B.bk I) (.bool true);obtain⟨Q,j⟩:=nm_ (wc.setCell (Z gx 81) (.bool true));rw[<-j]at hs f M L |-;exact JF):G:=h
def Jl(h:G:=by
 have Nt:=(V.hU 0 (Y a.id)).hU 1 (.slice aO a.fs.length c4);have L:=((F_ [ar.heap.size] ae).setCell (p:=(Z ar.heap.size 0)) (.inl H) (Y a.id)).setCell (p:=(Z ar.heap.size 1)) (.inl H) (.slice aO a.fs.length c4);have bq:=c.hI L (by first|(simp;done)|(simp;exact C_));refine h4 Nu ⟨((B.bk.hF bq).f_ 36).trans rfl,(i.hF bq).f_ 0,(i.hF bq).f_ 1⟩ λC=>?_;refine ir 12 C ?_;refine hM k_ ?_ _;go_wp2;go_meet;exact⟨ar.heap.size,aO,c4,rfl,rfl,Nt,bq⟩):G:=h
def Jo(h:G:=by
 have Nt:=(V.hU 0 (Y 0)).hU 1 (n_);have L:=((F_ [ar.heap.size] ae).setCell (p:=(Z ar.heap.size 0)) (.inl H) (Y 0)).setCell (p:=(Z ar.heap.size 1)) (.inl H) (n_);have bq:=c.hI L (by first|(simp;done)|(simp;exact C_));refine h4 Nu ⟨((B.bk.hF bq).f_ 36).trans rfl,(i.hF bq).f_ 0,(i.hF bq).f_ 1⟩ λC=>?_;refine ir 12 C ?_;refine hM k_ ?_ _;go_wp2;go_meet;exact⟨ar.heap.size,none,0,rfl,rfl,Nt,bq⟩):G:=h
def JF(h:G:=by
 refine hN (λw'=>w'.cell? (Z aw 1)=some (Y v.n)/\w'.cell? (Z z 1)=some (.slice aO a.fs.length c4)) 7 k_ ?_;exact Km):G:=h
def JL(h:G:=by
 refine hN (λw'=>w'.cell? (Z aw 1)=some (Y v.n)/\w'.cell? (Z z 1)=some (.slice aO 0 c4)) 7 k_ ?_;exact Km):G:=h
def J0(h:G:=by
 clear a hz hm;refine jS (W:=ar) (F_ _ _) k_ k_ ?_;repeat(go_big_quiet_step (((go_at_call 162;exact Calls.gq (HM.out _)))))
 exact LD):G:=h
def Ke(h:G:=by
 refine rn_ ?_;have hs:=g.set (x':={x with hO:=true}) 81 (.bool true) rfl rfl rfl rfl rfl rfl rfl rfl;exact LU):G:=h
def Km(h:G:=by
 refine mC ⟨f.drew.f_ 1,M.drew.f_ 1⟩ λC=>?_;(repeat refine j2 C ?_);refine hM k_ ?_ _;go_wp2
 go_ret2
 rw[HM.out];exact⟨_,rfl,hs.hF ((F_ [] Q).drew),rfl,(aE.iq L).hF ((F_ [] Q).drew)⟩):G:=h
def Kt(h:G:=by
 refine jS (W:=ar) (F_ _ _) k_ k_ ?_;repeat(go_big_quiet_step ((fail)))
 exact LD):G:=h
def K0(h:G:=by
 intro d fz he;have bS:w'.heap[gx]?=some (.cells x.g_ 186 (0,0)):=a;rw[bS]at he;injection he with he;injection he with _ he _;exact Gc he I):G:=h
def Lc(h:G:=by
 refine Gu (v:=.tuple #[Y 0,.bool false]) (It (t:=6) (u:=7) rfl _ _ _) rfl ?_;rw[HM.out];exact⟨D,rfl,F,Nq.out,aE.trans T⟩):G:=h
def Lm(h:G:=by
 have bS:w.heap[g]?=some (.cells cs t (0,0)):=hk;rw[bS]at hc;injection hc with hc;injection hc with _ hc _;exact ax hc):G:=h
def Lv(h:G:=by
 intro he;obtain⟨_,cur,hc⟩:=aB gx he;rw[c]at hc;injection hc with hc;injection hc with _ hc _;exact Gc hc I):G:=h
def LJ(h:G:=by
 go_wp2;go_roundw;exact⟨k+1,X,gn,by rw[aN.out,aK.out],a.trans aB⟩;exact mz):G:=h
def LU(h:G:=by
 exact⟨_,rfl,hs,HM.out,((XG.refl gx w).hF (hg1.alloc _)).iq ((F_ [gx] _).setCell (.inl H) _)⟩):G:=h
def LX(h:G:=by
 refine ir 12 C ?_;refine hM k_ ?_ _;go_wp2;go_meet;exact⟨ae.heap.size,none,0,rfl,rfl,Nt,bq⟩):G:=h
def L0(h:G:=by
 refine ir 12 C ?_;refine hM k_ ?_ _;go_wp2;go_meet;exact⟨ae.heap.size,aO,c4,rfl,rfl,Nt,bq⟩):G:=h
def L6(h:G:=by
 refine rn_ ?_;exact MD):G:=h
def L9(h:G:=by
 rw[hv]at f;have:j=g:=by simpa[Value.ownBlock]using f
 subst this;exact⟨s,cur,av⟩):G:=h
def Mc(h:G:=by
 rw[hv]at f;have:j=g:=by simpa[Value.ownBlock]using f
 subst this;exact⟨cur,av⟩):G:=h
def Mt(h:G:=by
 rw[hv]at f;have:j=g:=by simpa[Value.ownBlock]using f
 subst this;exact jW av):G:=h
def My(h:G:=by
 exact λr hr=>⟨Sl.iq (Sl.xg (h.nr r hr).1 h.bk aE) a I L,(h.nr r hr).2⟩):G:=h
def MD(h:G:=by
 rw[HM.out];exact⟨_,rfl,bW,rfl,aE.iq ((F_ [gx] _).setCell (.inl H) _)⟩):G:=h
def MJ(h:G:=by
 go_enter func162,ntmps162;go_wp2;go_ret;exact⟨iG (by rw[HM.out]),Nv⟩):G:=h
section
def uq{w:World}{ops:Array Oper}{K:Act->World->Prop}{E:Prop}(B:o.guard=none)(s x:Operand)(t:TypeId)(S:o.op=.call {callee:=.builtin .append,args:=#[s,x],argTypes:=#[t,t]})(base:Nat)(e:TypeId)(i:TypeInfo){r:Value}(j bytes:Nat)(U:P.underlying t=some (.slice e))(O:P.info? e=some i)(W:i.zero=some r)(q:i.size=j)(p:i.bytes=bytes)(y:r.cells.size=j)(F:0<j)(H:0<bytes)(v:Value)(n:Nat)(T:a.eval s=v)(I:w.ownsRow base e j v n xs)(d:Addr)(m c:Nat)(l:QW)(V:a.eval x=.slice (some d) m c)(R:l.length=m*j)(k:∀z u,l[z]?=some u->w.cell? (d.add z)=some u)(L:∀u∈l,u.oneCell'=true)(Z:0<m)(f:(n+m)*bytes<=140737488355328)(D:base<=w.heap.size)(h:∀(A':OA) (c':Nat) (w':World),w'.ownsRow base e j (.slice A' (n+m) c') (n+m) (xs++l)->w.grownBy w' v.ownBlock->((Value.slice A' (n+m) c').ownBlock=v.ownBlock∨(Value.slice A' (n+m) c').ownBlock=some w.heap.size)->K (a.put o.dst (.slice A' (n+m) c')) w'):
 if Region.wanted o (yielded ops a.tmps)=true then Oper.wp P o a w K Q else E:=by
 have C:Region.wanted o (yielded ops a.tmps)=true:=by simp[Region.wanted,B]
 rw[U_ C];have X:n+m<=maxLen:=by
  have:n+m<=(n+m)*bytes:=HR _ H;simp only[maxLen];omega
 obtain⟨Y,w',A,h2,M,_,J⟩:=run_append_own_at (P:=P) w base t o.type e i r j bytes U O W q p y F v n xs I d m c l R k L X f D;have N:∃A' c',Y=.slice A' (n+m) c':=LB;obtain⟨A',c',rfl⟩:=N;unfold Oper.wp execOp;simp only[S,resolve,invoke,builtin,Sem.run_bind,Sem.run_pure,Result.andThen_ok,Hw,Gx,Hf,T,V,A];exact h A' c' w' h2 M J
structure XG(gx:Nat)(w w':World):Prop where
 iy:∀g t cs,w.heap[g]?=some (.cells cs t (0,0))->t≠116->g≠gx->w'.heap[g]?=some (.cells cs t (0,0))
 wy:∀g t cs fz,w.heap[g]?=some (.cells cs t fz)->t≠116->g≠gx->w'.heap[g]?=some (.cells cs t fz)
 size:w.heap.size<=w'.heap.size
def XG.refl(gx:Nat)(w:World):XG gx w w:=⟨λ_ _ _ c _ _=>c,λ_ _ _ _ c _ _=>c,H_ _⟩
def XG.trans{gx:Nat}{a b c:World}(h:XG gx a b)(k:XG gx b c):XG gx a c:=
 ⟨λg f cs i d e=>k.iy g f cs (h.iy g f cs i d e) d e,λg f cs j i d e=>k.wy g f cs j (h.wy g f cs j i d e) d e,G_ h.size k.size⟩
def jW{w:World}{o:Obj}(h:w.heap[g]?=some o):g<w.heap.size:=by
 rcases Ga g w.heap.size with c|c
 exact c;rw[F8 c]at h;cases h
def XG.A_{gx:Nat}{w w':World}(h:J [gx] w w'):XG gx w w':=
 ⟨λg e cs c _ d=>(h.block g (jW c) (zu d)).trans c,λg e cs f c _ d=>(h.block g (jW c) (zu d)).trans c,h.size⟩
def XG.hF{gx:Nat}{a w w':World}(h:XG gx a w)(k:J [] w w'):XG gx a w':=h.trans (XG.A_ (k.of_nil _))
def XG.iq{gx:Nat}{a w w':World}(h:XG gx a w)(k:J [gx] w w'):XG gx a w':=h.trans (XG.A_ k)
def Bk.xg{gx:Nat}{w w':World}{t:TypeId}(h:Bk w g t cs)(k:XG gx w w')(ax:g≠gx)(ht:t≠116:=by decide):Bk w' g t cs:=k.iy g t cs h ht ax
def Sl.xg{gx:Nat}{w w':World}{e:TypeId}{size:Nat}{A:OA}{n:Nat}{a:Array Value}(h:Sl w e size A n xs)(hx:Bk w gx 186 a)(k:XG gx w w')(hc:e≠116:=by decide)(ho:e≠186:=by decide):Sl w' e size A n xs:=
 ⟨h.1,λhn=>by
   obtain⟨b,off,cs,fz,hA,hb,aE⟩:=h.2 hn;have ax:b≠gx:=by
    intro he;subst he;have h2:w.heap[b]?=some (.cells a 186 (0,0)):=hx;rw[h2]at hb;injection hb with hb;injection hb with _ hb _;exact ho hb.symm
   exact⟨b,off,cs,fz,hA,k.wy b e cs fz hb hc ax,aE⟩⟩
def Sv.val(s:Sv Cl):Value:=.slice s.A s.l.length s.c
structure kA(b w:World)(gx:Nat)(x:X1):Prop where
 bk:Bk w gx 186 x.g_
 gr:J [gx] b w
 bx:∃cs,Bk b gx 186 cs
 jo:Is b x.jo.A x.jo.l
 h:mE b x.h.A x.h.c x.h.l
 rs:w.ownsRow b.heap.size 116 4 x.e.rs.val x.e.rs.l.length (x.e.rs.l.flatMap Cl.E)
 ws:w.ownsRow b.heap.size 116 4 x.e.ws.val x.e.ws.l.length (x.e.ws.l.flatMap Cl.E)
 ne:∀g,x.e.rs.val.ownBlock=some g->x.e.ws.val.ownBlock≠some g
 nw:Os w x.e.nw.A x.e.nw.l
 nr:l5 w x.e.nw.l
 ds:Ds w x.e.ds.A x.e.ds.l
 h8:As w x.e.h8.A x.e.h8.l
 tj:x.e.nw.ok
 r9:x.e.ds.ok
 pP:x.e.h8.ok
 il:x.jo.l.length<=1000000000
 hl:x.h.l.length<=1000000000
variable{b w w':World}{gx:Nat}{x:X1}
def kA.Em(h:kA b w gx x):Is w x.jo.A x.jo.l:=by
 obtain⟨cs,c⟩:=h.bx;exact Sl.iq h.jo c I h.gr
def kA.ku(h:kA b w gx x):mE w x.h.A x.h.c x.h.l:=by
 obtain⟨cs,c⟩:=h.bx;exact h.h.iq c I I h.gr
def kA.lt(h:kA b w gx x):gx<b.heap.size:=by
 obtain⟨cs,c⟩:=h.bx;exact c.lt
def kA.hF(h:kA b w gx x)(k:J [] w w'):kA b w' gx x:=
 ⟨h.bk.hF k,h.gr.trans (k.of_nil _),h.bx,h.jo,h.h,iD h.rs k,iD h.ws k,h.ne,h.nw.hF k,h.nr.hF k,h.ds.hF k,h.h8.hF k,h.tj,h.r9,h.pP,h.il,h.hl⟩
def kA.r6{x':X1}(h:kA b w gx x)(k:J [gx] w w')(r:Bk w' gx 186 x'.g_)(l:x'.jo=x.jo)(m:x'.h=x.h)(n:x'.e.rs=x.e.rs)(f:x'.e.ws=x.e.ws)(d:x'.e.nw=x.e.nw)(j:x'.e.ds=x.e.ds)(i:x'.e.h8=x.e.h8):kA b w' gx x':=by
 refine⟨r,h.gr.trans k,h.bx,by rw[l];exact h.jo,by rw[m];exact h.h,?_,?_,by rw[n,f];exact h.ne,?_,?_,?_,?_,by rw[d];exact h.tj,by rw[j];exact h.r9,by rw[i];exact h.pP,by rw[l];exact h.il,by rw[m];exact h.hl⟩;rw[n];exact kz (x:=gx) h.rs (λp q c=>by have e:w.heap[gx]?=some (.cells x.g_ 186 (0,0)):=h.bk;rw[e]at c;injection c with c;injection c with _ c _;exact Gc c I) k;rw[f];exact kz (x:=gx) h.ws (λp q c=>by have e:w.heap[gx]?=some (.cells x.g_ 186 (0,0)):=h.bk;rw[e]at c;injection c with c;injection c with _ c _;exact Gc c I) k;rw[d];exact Sl.iq h.nw h.bk I k;rw[d];exact h.nr.iq h.bk I k;rw[j];exact Sl.iq h.ds h.bk I k;rw[i];exact Sl.iq h.h8 h.bk I k
def kA.set{x':X1}(h:kA b w gx x)(i:Nat)(u:Value)(hc:x'.g_=x.g_.setIfInBounds i u)(j:x'.jo=x.jo)(k:x'.h=x.h)(l:x'.e.rs=x.e.rs)(c:x'.e.ws=x.e.ws)(d:x'.e.nw=x.e.nw)(f:x'.e.ds=x.e.ds)(e:x'.e.h8=x.e.h8):kA b (w.setCell (Z gx i) u) gx x':=
 h.r6 ((F_ [gx] w).setCell (p:=(Z gx i)) (.inl H) u) (by rw[hc];exact h.bk.hU i u) j k l c d f e
def kY(v:Value)(P:XP)(b:World)(gx:Nat)(w:World)(e:Ending)(w':World):Prop:=∃x':X1,e=.returned v/\kA b w' gx x'/\x'.p=P/\XG gx w w'
def r8{b w:World}{gx:Nat}{x:X1}(h:kA b w gx x)(v:Array Value):∃W g,w.alloc (.cells v 189)=W/\w.heap.size=g/\kA b W gx x/\Bk W g 189 v/\XG gx w W/\g≠gx:=⟨_,_,rfl,rfl,h.hF ((F_ [] w).alloc _),P_ w 189 v,(XG.refl gx w).hF ((F_ [] w).alloc _),by have:=h.bk.lt;omega⟩
end
def oZ(A:OA)(c:Nat)(l:QS)(hH hC n:Int)(w:World)(h:Is w A l)(v:l.length<=1000000000):
 Calls prog 162 #[.agg #[.slice A l.length c,Y hH,Y hC],Y n] w λe w'=>e=.returned (.bool (jc l n))/\J [] w w':=by
 have Nv:=(F_ [] w).alloc (.cells #[.slice A l.length c,Y hH,Y hC] 26);have s:=P_ w 26 #[.slice A l.length c,Y hH,Y hC];have B:=s.f_ 0;by_cases f:0<=n;by_cases i:n<(l.length:Int)
 .obtain⟨d,rfl⟩:∃d:Nat,n=d:=⟨n.toNat,X⟩;have j:d<l.length:=X;have HM:=O (show jc l (d:Int)=(l[d].op==21) by unfold jc;simp[j]);obtain⟨t,y,rfl,u,r,p,q,k⟩:=(h.hF Nv).at_ j;clear r p q k;generalize l[d].op=z at*;generalize l.length=n at*;exact MJ
 have HM:=O (show jc l n=false by unfold jc;simp[i]);have m:(n<(l.length:Int))=False:=p_;clear i;exact MJ;have HM:=O (show jc l n=false by unfold jc;simp[f]);have m:(0<=n)=False:=p_;clear f;exact MJ
def qG(b:World){w:World}(gx:Nat)(x:X1)(G:kA b w gx x):
 Calls prog 116 #[q_ gx] w (kY (.tuple #[]) (iJ x.p) b gx w):=by
 have P:w.cell? (Z gx 36)=some (.slice x.h.A x.h.l.length x.h.c):=(G.bk.f_ 36).trans rfl;cases aj:x.hO with
 |true=>
  have i:x.g_[81]?=some (.bool true):=by rw[<-aj];rfl
  have HM:Hid (({x with hO:=true}:X1).p=iJ x.p):=O (by show _=iJ x.p;unfold iJ;have d:x.p.hO=true:=aj;rw[d];rfl);cases h:ke (hX x.h.l) 1 with
  |none=>
   go_enter func116,ntmps116;go_wp2_with (go_at_call 14;((with_reducible refine(get_none x.h.A x.h.c x.h.l 1 _ G.ku.os G.hl h).mono ?_);rintro d c⟨rfl,hg1⟩;have g:=G.hF (hg1.alloc (.cells #[Y 0,n_] 56));have f:=P_ c 56 #[Y 0,n_];have l:=f.f_ 1;have n:(c.alloc (.cells #[Y 0,n_] 56)).cell? (Z gx 81)=some (.bool true):=(g.bk.f_ 81).trans i;have m:=g.bk.hG 81));exact Ke
  |some o=>
   go_enter func116,ntmps116;go_wp2_with (go_at_call 14;((with_reducible refine(get_some x.h.A x.h.c x.h.l 1 o _ G.ku.os G.ku.k8 G.hl h).mono ?_);rintro d c⟨e,c1,rfl,q,hg1⟩;have g:=G.hF (hg1.alloc (.cells #[Y o.id,.slice e o.fs.length c1] 56));have f:=P_ c 56 #[Y o.id,.slice e o.fs.length c1];have l:=f.f_ 1;have n:(c.alloc (.cells #[Y o.id,.slice e o.fs.length c1] 56)).cell? (Z gx 81)=some (.bool true):=(g.bk.f_ 81).trans i;have m:=g.bk.hG 81));exact Ke
 |false=>
  have i:x.g_[81]?=some (.bool false):=by rw[<-aj];rfl
  cases h:ke (hX x.h.l) 1 with
  |none=>
   have HM:Hid (({x with hO:=true}:X1).p=iJ x.p):=O (by show _=iJ x.p;unfold iJ;have d:x.p.hO=false:=aj;have k:ke x.p.h 1=none:=h;rw[d,k];rfl);go_enter func116,ntmps116;go_wp2_with (go_at_call 14;((with_reducible refine(get_none x.h.A x.h.c x.h.l 1 _ G.ku.os G.hl h).mono ?_);rintro d c⟨rfl,hg1⟩;have g:=G.hF (hg1.alloc (.cells #[Y 0,n_] 56));have f:=P_ c 56 #[Y 0,n_];have l:=f.f_ 1;have n:(c.alloc (.cells #[Y 0,n_] 56)).cell? (Z gx 81)=some (.bool false):=(g.bk.f_ 81).trans i;have m:=g.bk.hG 81));exact Ke
  |some o=>
   by_cases j:(o.fs.length:Int)<3
   .have HM:Hid (({x with hO:=true}:X1).p=iJ x.p):=O (by show _=iJ x.p;unfold iJ;have d:x.p.hO=false:=aj;have k:ke x.p.h 1=some o:=h;rw[d,k];simp[j];rfl);have r:((o.fs.length:Int)<3)=True:=by simp[j]
    clear j;go_enter func116,ntmps116;go_wp2_with (go_at_call 14;((with_reducible refine(get_some x.h.A x.h.c x.h.l 1 o _ G.ku.os G.ku.k8 G.hl h).mono ?_);rintro d c⟨e,c1,rfl,q,hg1⟩;have g:=G.hF (hg1.alloc (.cells #[Y o.id,.slice e o.fs.length c1] 56));have f:=P_ c 56 #[Y o.id,.slice e o.fs.length c1];have l:=f.f_ 1;have n:(c.alloc (.cells #[Y o.id,.slice e o.fs.length c1] 56)).cell? (Z gx 81)=some (.bool false):=(g.bk.f_ 81).trans i;have m:=g.bk.hG 81));exact Ke
   have HM:Hid (({x with hO:=false}:X1).p=iJ x.p):=O (by show _=iJ x.p;unfold iJ;have d:x.p.hO=false:=aj;have k:ke x.p.h 1=some o:=h;rw[d,k];simp[j];rfl);have r:((o.fs.length:Int)<3)=False:=by simp[j]
   clear j;go_enter func116,ntmps116;go_wp2_with (go_at_call 14;((with_reducible refine(get_some x.h.A x.h.c x.h.l 1 o _ G.ku.os G.ku.k8 G.hl h).mono ?_);rintro d c⟨e,c1,rfl,q,hg1⟩;have g:=G.hF (hg1.alloc (.cells #[Y o.id,.slice e o.fs.length c1] 56));have f:=P_ c 56 #[Y o.id,.slice e o.fs.length c1];have l:=f.f_ 1;have n:(c.alloc (.cells #[Y o.id,.slice e o.fs.length c1] 56)).cell? (Z gx 81)=some (.bool false):=(g.bk.f_ 81).trans i;have m:=g.bk.hG 81));refine rn_ ?_;have hs:=g.set (x':={x with hO:=false}) 81 (.bool false) rfl rfl rfl rfl rfl rfl rfl rfl;exact LU
def kA.DV{b w w':World}{gx:Nat}{x:X1}(h:kA b w gx x)(cl:Cl)(y:w'.ownsRow b.heap.size 116 4 (.slice aw (x.e.ws.l.length+1) aj) (x.e.ws.l.length+1) (x.e.ws.l.flatMap Cl.E++Cl.E cl))(m:w.grownBy w' x.e.ws.val.ownBlock)(n:(Value.slice aw (x.e.ws.l.length+1) aj).ownBlock=x.e.ws.val.ownBlock∨(Value.slice aw (x.e.ws.l.length+1) aj).ownBlock=some w.heap.size):
 kA b (w'.setCell (Z gx 73) (.slice aw (x.e.ws.l.length+1) aj)) gx ({x with e:={x.e with ws:=⟨aw,aj,x.e.ws.l++[cl]⟩}}:X1)/\XG gx w (w'.setCell (Z gx 73) (.slice aw (x.e.ws.l.length+1) aj)):=by
 have q:(x.e.ws.l++[cl]).length=x.e.ws.l.length+1:=H;have aB:∀g,x.e.ws.val.ownBlock=some g->b.heap.size<=g/\∃cur,w.heap[g]?=some (.cells cur 116 (0,0)):=by
  intro g f;rcases h.ws.2 with⟨hv,_⟩|⟨j,t,cur,hv,s,av,_⟩
  rw[hv]at f;cases f
  exact L9
 have C:∀g,x.e.rs.val.ownBlock=some g->g<w.heap.size:=by
  intro g f;rcases h.rs.2 with⟨hv,_⟩|⟨j,t,cur,hv,s,av,_⟩
  rw[hv]at f;cases f
  exact Mt
 have c:w.heap[gx]?=some (.cells x.g_ 186 (0,0)):=h.bk;have E:x.e.ws.val.ownBlock≠some gx:=Lv;have a:Bk w' gx 186 x.g_:=(m.block gx (jW c) (Ne.symm E)).trans c;have aE:XG gx w w':=⟨λg F cs i l k=>(m.block g (jW i) (λhe=>by
  obtain⟨_,cur,hc⟩:=aB g he.symm;rw[i]at hc;injection hc with hc;injection hc with _ hc _;exact l hc)).trans i,λg F cs fz i l k=>(m.block g (jW i) (λhe=>by
  obtain⟨_,cur,hc⟩:=aB g he.symm;rw[i]at hc;injection hc with hc;injection hc with _ hc _;exact l hc)).trans i,m.size⟩
 have L:=(F_ [gx] w').setCell (p:=(Z gx 73)) (.inl H) (.slice aw (x.e.ws.l.length+1) aj);have u:∀d fz,w'.heap[gx]?≠some (.cells d 116 fz):=K0;have B:w'.ownsRow b.heap.size 116 4 x.e.rs.val x.e.rs.l.length (x.e.rs.l.flatMap Cl.E):=by
  refine h.rs.kept m ?_;rcases h.rs.2 with⟨hv,_⟩|⟨j,t,cur,hv,_⟩
  exact .inl (by rw[hv];rfl);right;rw[hv];intro he;have v:x.e.rs.val.ownBlock=some j:=by rw[hv];rfl
  have z:x.e.ws.val.ownBlock=some j:=he.symm.trans rfl;exact h.ne j v z
 refine⟨⟨?_,(h.gr.grown m (λD A=>.inr (aB D A).1)).trans L,h.bx,h.jo,h.h,?_,?_,?_,?_,?_,?_,?_,h.tj,h.r9,h.pP,h.il,h.hl⟩,aE.iq L⟩;have e:({x with e:={x.e with ws:=⟨aw,aj,x.e.ws.l++[cl]⟩}}:X1).g_=x.g_.setIfInBounds 73 (.slice aw (x.e.ws.l.length+1) aj):=by rw[<-q];rfl
 rw[e];exact a.hU 73 _;exact kz (x:=gx) B u L;show World.ownsRow _ _ _ _ (.slice aw (x.e.ws.l++[cl]).length aj) (x.e.ws.l++[cl]).length ((x.e.ws.l++[cl]).flatMap Cl.E);rw[q,Gs];simpa using kz (x:=gx) y u L;intro g i l;rcases n with n|n
 exact h.ne g i (by rw[<-n,<-q];exact l);have k:=l;unfold Sv.val at k;simp only at k;rw[q,n]at k;injection k with k;have:=C g i;omega;exact Sl.iq (Sl.xg h.nw h.bk aE) a I L;exact My;exact Sl.iq (Sl.xg h.ds h.bk aE) a I L;exact Sl.iq (Sl.xg h.h8 h.bk aE) a I L
def kA.DW{b w w':World}{gx:Nat}{x:X1}(h:kA b w gx x)(cl:Cl)(y:w'.ownsRow b.heap.size 116 4 (.slice aw (x.e.rs.l.length+1) aj) (x.e.rs.l.length+1) (x.e.rs.l.flatMap Cl.E++Cl.E cl))(m:w.grownBy w' x.e.rs.val.ownBlock)(n:(Value.slice aw (x.e.rs.l.length+1) aj).ownBlock=x.e.rs.val.ownBlock∨(Value.slice aw (x.e.rs.l.length+1) aj).ownBlock=some w.heap.size):
 kA b (w'.setCell (Z gx 72) (.slice aw (x.e.rs.l.length+1) aj)) gx ({x with e:={x.e with rs:=⟨aw,aj,x.e.rs.l++[cl]⟩}}:X1)/\XG gx w (w'.setCell (Z gx 72) (.slice aw (x.e.rs.l.length+1) aj)):=by
 have q:(x.e.rs.l++[cl]).length=x.e.rs.l.length+1:=H;have aB:∀g,x.e.rs.val.ownBlock=some g->b.heap.size<=g/\∃cur,w.heap[g]?=some (.cells cur 116 (0,0)):=by
  intro g f;rcases h.rs.2 with⟨hv,_⟩|⟨j,t,cur,hv,s,av,_⟩
  rw[hv]at f;cases f
  exact L9
 have C:∀g,x.e.ws.val.ownBlock=some g->g<w.heap.size:=by
  intro g f;rcases h.ws.2 with⟨hv,_⟩|⟨j,t,cur,hv,s,av,_⟩
  rw[hv]at f;cases f
  exact Mt
 have c:w.heap[gx]?=some (.cells x.g_ 186 (0,0)):=h.bk;have E:x.e.rs.val.ownBlock≠some gx:=Lv;have a:Bk w' gx 186 x.g_:=(m.block gx (jW c) (Ne.symm E)).trans c;have aE:XG gx w w':=⟨λg F cs i l k=>(m.block g (jW i) (λhe=>by
  obtain⟨_,cur,hc⟩:=aB g he.symm;rw[i]at hc;injection hc with hc;injection hc with _ hc _;exact l hc)).trans i,λg F cs fz i l k=>(m.block g (jW i) (λhe=>by
  obtain⟨_,cur,hc⟩:=aB g he.symm;rw[i]at hc;injection hc with hc;injection hc with _ hc _;exact l hc)).trans i,m.size⟩
 have L:=(F_ [gx] w').setCell (p:=(Z gx 72)) (.inl H) (.slice aw (x.e.rs.l.length+1) aj);have u:∀d fz,w'.heap[gx]?≠some (.cells d 116 fz):=K0;have B:w'.ownsRow b.heap.size 116 4 x.e.ws.val x.e.ws.l.length (x.e.ws.l.flatMap Cl.E):=by
  refine h.ws.kept m ?_;rcases h.ws.2 with⟨hv,_⟩|⟨j,t,cur,hv,_⟩
  exact .inl (by rw[hv];rfl);right;rw[hv];intro he;have v:x.e.ws.val.ownBlock=some j:=by rw[hv];rfl
  have z:x.e.rs.val.ownBlock=some j:=he.symm.trans rfl;exact h.ne j z v
 refine⟨⟨?_,(h.gr.grown m (λD A=>.inr (aB D A).1)).trans L,h.bx,h.jo,h.h,?_,?_,?_,?_,?_,?_,?_,h.tj,h.r9,h.pP,h.il,h.hl⟩,aE.iq L⟩;have e:({x with e:={x.e with rs:=⟨aw,aj,x.e.rs.l++[cl]⟩}}:X1).g_=x.g_.setIfInBounds 72 (.slice aw (x.e.rs.l.length+1) aj):=by rw[<-q];rfl
 rw[e];exact a.hU 72 _;show World.ownsRow _ _ _ _ (.slice aw (x.e.rs.l++[cl]).length aj) (x.e.rs.l++[cl]).length ((x.e.rs.l++[cl]).flatMap Cl.E);rw[q,Gs];simpa using kz (x:=gx) y u L;exact kz (x:=gx) B u L;intro g i l;rcases n with n|n
 exact h.ne g (by rw[<-n,<-q];exact i) l;have k:=i;unfold Sv.val at k;simp only at k;rw[q,n]at k;injection k with k;have:=C g l;omega;exact Sl.iq (Sl.xg h.nw h.bk aE) a I L;exact My;exact Sl.iq (Sl.xg h.ds h.bk aE) a I L;exact Sl.iq (Sl.xg h.h8 h.bk aE) a I L
def kA.AQ{b w:World}{gx:Nat}{x:X1}(h:kA b w gx x):∀g,x.e.ws.val.ownBlock=some g->∃cur,w.heap[g]?=some (.cells cur 116 (0,0)):=by
 intro g f;rcases h.ws.2 with⟨hv,_⟩|⟨j,c,cur,hv,d,av,_⟩
 rw[hv]at f;cases f
 exact Mc
def kA.Bw{b w w':World}{gx:Nat}{x:X1}{t:TypeId}(h:kA b w gx x)(d:w.grownBy w' x.e.ws.val.ownBlock)(hk:Bk w g t cs)(ax:t≠116):Bk w' g t cs:=by
 refine(d.block g hk.lt (λc=>?_)).trans hk;obtain⟨e,hc⟩:=h.AQ g c.symm;exact Lm
def kA.CD{b w w':World}{gx:Nat}{x:X1}(h:kA b w gx x)(c:w.grownBy w' x.e.ws.val.ownBlock):Bk w' gx 186 x.g_:=h.Bw c h.bk I
def kA.AR{b w:World}{gx:Nat}{x:X1}(h:kA b w gx x):∀g,x.e.rs.val.ownBlock=some g->∃cur,w.heap[g]?=some (.cells cur 116 (0,0)):=by
 intro g f;rcases h.rs.2 with⟨hv,_⟩|⟨j,c,cur,hv,d,av,_⟩
 rw[hv]at f;cases f
 exact Mc
def kA.xS{b w w':World}{gx:Nat}{x:X1}{t:TypeId}(h:kA b w gx x)(d:w.grownBy w' x.e.rs.val.ownBlock)(hk:Bk w g t cs)(ax:t≠116):Bk w' g t cs:=by
 refine(d.block g hk.lt (λc=>?_)).trans hk;obtain⟨e,hc⟩:=h.AR g c.symm;exact Lm
def kA.CE{b w w':World}{gx:Nat}{x:X1}(h:kA b w gx x)(c:w.grownBy w' x.e.rs.val.ownBlock):Bk w' gx 186 x.g_:=h.xS c h.bk I
def kb(b:World){w:World}(gx:Nat)(x:X1)(id f:Int)(v:Vl)(G:kA b w gx x)(hn:x.e.ws.l.length<=1000000):
 Calls prog 163 #[q_ gx,Y id,Y f,.agg (V_ v)] w (kY (.tuple #[]) (ib x.p id f v) b gx w):=by
 obtain⟨R,N,O,K,H⟩:=info_parts infoCl;have l:=P_ w 38 (V_ v);have m:=(F_ [] w).alloc (.cells (V_ v) 38);have g:=G.hF m;go_enter func163,ntmps163;go_upto_region 1 with fail;obtain⟨e,y⟩:=nm_ (w.alloc (.cells (V_ v) 38));rw[<-y]at l m g |-;clear y;have n:J [] e e.drew:=(F_ [] e).drew;refine hN (λw'=>w'.cell? (Z gx 73)=some (.slice x.e.ws.A x.e.ws.l.length x.e.ws.c)/\w'.cell? (Z w.heap.size 0)=some (.bool v.r)/\w'.cell? (Z w.heap.size 1)=some (Y v.n)) 15 k_ ?_
 refine mC ⟨((g.bk.hF n).f_ 73).trans rfl,(l.hF n).f_ 0,(l.hF n).f_ 1⟩ λd=>?_;repeat refine j2 d ?_
 refine hY 10 λi c=>?_;go_simp;have j:J [] e ((e.alloc (.cells #[Y id,Y f,.bool v.r,Y v.n] 116)).drew):=((F_ [] e).alloc _).drew;clear d;have d:((e.alloc (.cells #[Y id,Y f,.bool v.r,Y v.n] 116)).drew).cell? (Z gx 73)=some (.slice x.e.ws.A x.e.ws.l.length x.e.ws.c)/\((e.alloc (.cells #[Y id,Y f,.bool v.r,Y v.n] 116)).drew).cell? (Z w.heap.size 0)=some (.bool v.r)/\((e.alloc (.cells #[Y id,Y f,.bool v.r,Y v.n] 116)).drew).cell? (Z w.heap.size 1)=some (Y v.n):=⟨((g.bk.hF j).f_ 73).trans rfl,(l.hF j).f_ 0,(l.hF j).f_ 1⟩;have u:Bk ((e.alloc (.cells #[Y id,Y f,.bool v.r,Y v.n] 116)).drew) e.heap.size 116 #[Y id,Y f,.bool v.r,Y v.n]:=(P_ e 116 #[Y id,Y f,.bool v.r,Y v.n]).drew;have k:=g.hF j;obtain⟨U,z⟩:=nm_ ((e.alloc (.cells #[Y id,Y f,.bool v.r,Y v.n] 116)).drew);rw[<-z]at j d u k |-;clear z;generalize e.heap.size=F at*;obtain⟨W,t,E⟩:=(kW (s:=4) u rfl).m7 I;injection t with t;subst t
 refine h4 c d λd=>?_;clear c i;refine hY 11 λi c=>?_;refine uq rfl (.tmp 13) (.tmp 18) 50 rfl (b.heap.size) 116 R 4 32 underlying50 N O K H rfl I I (.slice x.e.ws.A x.e.ws.l.length x.e.ws.c) x.e.ws.l.length r_ k.ws (Z F 0) 1 1 (Cl.E ⟨id,f,v⟩) r_ rfl E (by intro T S;exact o4 [⟨id,f,v⟩] T (zu S)) I X k.gr.size ?_;intro aw aj L M p D;obtain⟨B,C⟩:=k.DV ⟨id,f,v⟩ M p D;have r:=k.CD p;have A:Bk L w.heap.size 38 (V_ v):=k.Bw p (l.hF j) I;have V:=r.f_ 73;have a:=r.hG 73;clear d;refine h4 c ⟨(r.f_ 73).trans rfl,A.f_ 0,A.f_ 1⟩ λd=>?_;clear c i;refine hY 12 λi c=>?_;go_simp;refine h4 c d λd=>?_;clear c i;refine hY 13 λi c=>?_;go_simp;refine h4 c d λd=>?_;clear c i;refine hY 14 λi c=>?_;go_simp;refine h4 c d λd=>?_;clear c i;refine hY 15 λi c=>?_;go_simp;refine c.out _ _ (λh=>Gc h I) ?_;clear c i;try simp only[a_]
 refine hM k_ ?_ _;go_wp2;refine en_ ?_;exact⟨_,rfl,B,rfl,((XG.refl gx w).hF (m.trans j)).trans C⟩
def XG.new{gx:Nat}{w l j:World}(h:XG gx w l)(k:J [g] l j)(n:w.heap.size<=g):XG gx w j:=
 ⟨λd i cs c e f=>(k.block d (jW (h.iy d i cs c e f)) (by have:=jW c;simp;omega)).trans (h.iy d i cs c e f),
  λd i cs m c e f=>(k.block d (jW (h.wy d i cs m c e f)) (by have:=jW c;simp;omega)).trans (h.wy d i cs m c e f),G_ h.size k.size⟩
def Bk.pX{w:World}{t e:TypeId}(h:Bk w g t cs)(ax:e≠t):∀d fz,w.heap[g]?≠some (.cells d e fz):=K4
def kA.late{b w c i:World}{gx:Nat}{x d:X1}{t:TypeId}(h:kA b c gx d)(h0:kA b w gx x)(j:d.e.nw=x.e.nw)(r:d.e.ds=x.e.ds)(v:d.e.h8=x.e.h8)(k:J [g] c i)(y:w.heap.size<=g)(l:Bk c g t cs)(D:t≠116)(a:t≠186)(f:XG gx w i):kA b i gx d:=by
 have u:gx≠g:=by
  intro C;subst C;have B:c.heap[gx]?=some (.cells d.g_ 186 (0,0)):=h.bk;have e:c.heap[gx]?=some (.cells cs t (0,0)):=l;rw[B]at e;injection e with e;injection e with _ e _;exact a e.symm
 have n:∀z A,c.heap[g]?≠some (.cells z 116 A):=l.pX (Ne.symm D);refine⟨h.bk.gr k (zu u),h.gr.hI k (λq s=>Or.inr (by rw[show q=g from by simpa using s];exact G_ h0.gr.size y)),h.bx,h.jo,h.h,kz (x:=g) h.rs n k,kz (x:=g) h.ws n k,h.ne,?_,?_,?_,?_,h.tj,h.r9,h.pP,h.il,h.hl⟩;rw[j];exact Sl.xg h0.nw h0.bk f;rw[j];exact λp m=>⟨Sl.xg (h0.nr p m).1 h0.bk f,(h0.nr p m).2⟩;rw[r];exact Sl.xg h0.ds h0.bk f;rw[v];exact Sl.xg h0.h8 h0.bk f
def na(P:XP)(v:Vl)(b:World)(gx:Nat)(w:World)(e:Ending)(w':World):Prop:=∃x':X1,e=.returned (.agg (V_ v))/\kA b w' gx x'/\x'.p=P/\XG gx w w'
def wk(b w:World)(gx:Nat)(x:X1)(id f:Int)(G:kA b w gx x)(R:x.e.rs.l.length<=1000000)(j:jw (hX x.h.l) id f=none):
 Calls prog 118 #[q_ gx,Y id,Y f] w (na (hW x.p id f).1 (hW x.p id f).2 b gx w):=by
 have B:=O j;have HM:Hid (hW x.p id f=({x.p with hO:=true},default)):=O (by unfold hW;have r:jw x.p.h id f=none:=j;rw[r]);clear j;have h:=(F_ [] w).alloc (.cells #[.bool false,Y 0] 38);have s:=P_ w 38 #[.bool false,Y 0];have g:=G.hF h;go_enter func118,ntmps118;go_upto_region 1 with fail;obtain⟨l,n⟩:=nm_ (w.alloc (.cells #[.bool false,Y 0] 38));rw[<-n]at s h g |-;clear n;have P:l.cell? (Z gx 36)=some (.slice x.h.A x.h.l.length x.h.c):=(g.bk.f_ 36).trans rfl;have u:gx≠w.heap.size:=ov G.bk.lt
 go_upto_region 3 with(go_at_call 148;((with_reducible refine(kI x.h.A x.h.c x.h.l id f _ g.ku.os g.ku.k8 G.hl).mono ?_);rintro r c⟨rfl,i⟩;rw[B.out];simp only[Ie,H3];have e:=g.hF (i.alloc (.cells (V_ (default:Vl)) 38));have z:=(s.hF i).alloc (.cells (V_ (default:Vl)) 38);have N:Bk (c.alloc (.cells (V_ (default:Vl)) 38)) c.heap.size 38 (V_ (default:Vl)):=P_ c 38 (V_ (default:Vl));have v:J [] l (c.alloc (.cells (V_ (default:Vl)) 38)):=i.alloc _;have D:(c.alloc (.cells (V_ (default:Vl)) 38)).cell? (Z gx 72)=some (.slice x.e.rs.A x.e.rs.l.length x.e.rs.c):=(e.bk.f_ 72).trans rfl));have M:(c.alloc (.cells (V_ (default:Vl)) 38)).cell? (Z gx 81)=some (.bool x.hO):=(e.bk.f_ 81).trans rfl;have F:=e.bk.hG 81;have t:=e.set (x':={x with hO:=true}) 81 (.bool true) rfl rfl rfl rfl rfl rfl rfl rfl;have d:=z.ih (p:=(Z gx 81)) (Ne.symm u) (.bool true);have C:=d.f_ 0;have E:=d.f_ 1;have K:=d.hG 0;have L:=d.hG 1;go_wp2;have A:=(d.hU 0 (.bool false)).hU 1 (Y 0);have y:J [gx] w ((c.alloc (.cells (V_ (default:Vl)) 38)).setCell (Z gx 81) (.bool true)):=(((h.trans v).of_nil [gx])).setCell (p:=(Z gx 81)) (.inl H) _;have k:=((F_ [w.heap.size] ((c.alloc (.cells (V_ (default:Vl)) 38)).setCell (Z gx 81) (.bool true))).setCell (p:=(Z w.heap.size 0)) (.inl H) (.bool false)).setCell (p:=(Z w.heap.size 1)) (.inl H) (Y 0);have m:=(XG.A_ y).new k (H_ _);refine rr_ #[.bool false,Y 0] A underlying38 ?_;rw[HM.out];exact⟨_,rfl,t.late G rfl rfl rfl k (H_ _) d I I m,rfl,m⟩
def yK{x:XP}{id f:Int}{v:Vl}(h:jw x.h id f=some v)(hc:0<=cat x.e.rs id f):hW x id f=(x,v):=by
 unfold hW;rw[h];simp[hc]
def w9{x:XP}{id f:Int}{v:Vl}(h:jw x.h id f=some v)(hc:cat x.e.rs id f= -1):hW x id f=({x with e:={x.e with rs:=x.e.rs++[⟨id,f,v⟩]}},v):=by
 unfold hW;rw[h];simp[hc]
def wj(b w:World)(gx:Nat)(x:X1)(id f:Int)(G:kA b w gx x)(hn:x.e.rs.l.length<=1000000)(v:Vl)(hr:jw (hX x.h.l) id f=some v):
 Calls prog 118 #[q_ gx,Y id,Y f] w (na (hW x.p id f).1 (hW x.p id f).2 b gx w):=by
 have U:=O hr;have bg:=O (show cat x.e.rs.l id f=iM (λd:Cl=>d.id==id&&d.f==f) (x.e.rs.l.drop 0) 0 from rfl);clear hr;obtain⟨bu,bB,bt,a7,a6⟩:=info_parts infoCl;have A:=(F_ [] w).alloc (.cells #[.bool false,Y 0] 38);have R:=P_ w 38 #[.bool false,Y 0];have g:=G.hF A;go_enter func118,ntmps118;go_upto_region 1 with fail;obtain⟨al,ae⟩:=nm_ (w.alloc (.cells #[.bool false,Y 0] 38));rw[<-ae]at R A g |-;clear ae;have P:al.cell? (Z gx 36)=some (.slice x.h.A x.h.l.length x.h.c):=(g.bk.f_ 36).trans rfl;have an:gx≠w.heap.size:=ov G.bk.lt
 go_wp2_with (go_at_call 148;((with_reducible refine(kI x.h.A x.h.c x.h.l id f _ g.ku.os g.ku.k8 G.hl).mono ?_);rintro au t⟨rfl,B⟩;rw[U.out];simp only[Hc,Hz];have j:=g.hF (B.alloc (.cells (V_ v) 38));have cg:=(R.hF B).alloc (.cells (V_ v) 38);have l:Bk (t.alloc (.cells (V_ v) 38)) t.heap.size 38 (V_ v):=P_ t 38 (V_ v);have M:J [] al (t.alloc (.cells (V_ v) 38)):=B.alloc _;have ad:(t.alloc (.cells (V_ v) 38)).cell? (Z gx 72)=some (.slice x.e.rs.A x.e.rs.l.length x.e.rs.c):=(j.bk.f_ 72).trans rfl));have aW:=G;have z:=cg;clear cg R g P ad;obtain⟨a2,bI⟩:=nm_ (t.alloc (.cells (V_ v) 38));rw[<-bI]at j z l M |-;clear bI;clear B;generalize t.heap.size=q at*;have ak:=j
 go_loopw [33] (λS wr=>∃k:Nat,k<=x.e.rs.l.length/\S=Y k/\cat x.e.rs.l id f=iM (λd:Cl=>d.id==id&&d.f==f) (x.e.rs.l.drop k) k/\J [] a2 wr) (λS _=>x.e.rs.l.length-(intOf S).toNat)
 case atStart=>exact⟨0,L_ _,rfl,bg.out,F_ _ _⟩
 obtain⟨k,hk,rfl,av,a⟩:=hrel;have aN:=O av;clear av;replace j:=ak.hF a;replace l:=l.hF a;replace z:=z.hF a;by_cases D:k<x.e.rs.l.length
 .have aG:(k:Int)<(x.e.rs.l.length:Int):=X;obtain⟨W,off,F,bj,bn,bN,bR⟩:=Cs.at_ (Sl.iP j.rs) D;rw[F];have V:=O (show x.e.rs.l.drop k=x.e.rs.l[k]::x.e.rs.l.drop (k+1) from R_ D);have K:=O (λr:((λd:Cl=>d.id==id&&d.f==f) x.e.rs.l[k]=true)=>lA (λd:Cl=>d.id==id&&d.f==f) x.e.rs.l k k D r);have Q:=O (λr:((λd:Cl=>d.id==id&&d.f==f) x.e.rs.l[k]=false)=>kt (λd:Cl=>d.id==id&&d.f==f) x.e.rs.l k k D r);generalize x.e.rs.l[k]=c at*;have o:=P_ wr 116 #[Y c.id,Y c.f,.bool c.v.r,Y c.v.n];have aB:=(F_ [] wr).alloc (.cells #[Y c.id,Y c.f,.bool c.v.r,Y c.v.n] 116);have z0:=o.f_ 0;have T:=o.f_ 1;by_cases i:c.id=id
  .have m:(c.id==id)=true:=zu i;by_cases n:c.f=f
   .have C:(c.f==f)=true:=zu n;have aK:=O (show 0<=cat x.p.e.rs id f by show 0<=cat x.e.rs.l id f;rw[aN.out,K.out (by simp[m,C])];omega);have HM:=O (yK (x:=x.p) U.out aK.out);clear i n;have E:=l.hF aB;have ay:=E.f_ 0;have ah:=E.f_ 1;have e:=z.hF aB;have b0:=e.f_ 0;have r1:=e.f_ 1;have bA:=e.hG 0;have bL:=e.hG 1;go_wp2;have L:=(e.hU 0 (.bool v.r)).hU 1 (Y v.n);have N:J [] w (wr.alloc (.cells #[Y c.id,Y c.f,.bool c.v.r,Y c.v.n] 116)):=((A.trans M).trans a).trans aB;have u:=((F_ [w.heap.size] (wr.alloc (.cells #[Y c.id,Y c.f,.bool c.v.r,Y c.v.n] 116))).setCell (p:=(Z w.heap.size 0)) (.inl H) (.bool v.r)).setCell (p:=(Z w.heap.size 1)) (.inl H) (Y v.n);have y:=((XG.refl gx w).hF N).new u (H_ _);refine rr_ (V_ v) L underlying38 ?_;rw[HM.out];exact⟨_,rfl,(j.hF aB).late aW rfl rfl rfl u (H_ _) e I I y,rfl,y⟩
   have C:(c.f==f)=false:=zu n;have aK:=O (Q.out (by simp[m,C]));clear i n;exact LJ
  have m:(c.id==id)=false:=zu i;have aK:=O (Q.out (by simp[m]));clear i;exact LJ
 have aG:¬(k:Int)<(x.e.rs.l.length:Int):=X;have aK:=O (show cat x.p.e.rs id f= -1 by show cat x.e.rs.l id f= -1;rw[aN.out,GD X];rfl);have HM:=O (w9 (x:=x.p) U.out aK.out);clear aN bg aK;go_wp2_with fail;clear aG;have L:J [] wr wr.drew:=(F_ [] wr).drew;refine hN (λw'=>w'.cell? (Z gx 72)=some (.slice x.e.rs.A x.e.rs.l.length x.e.rs.c)/\w'.cell? (Z q 0)=some (.bool v.r)/\w'.cell? (Z q 1)=some (Y v.n)) 15 k_ ?_;refine mC ⟨((j.bk.hF L).f_ 72).trans rfl,(l.hF L).f_ 0,(l.hF L).f_ 1⟩ λe=>?_;repeat refine j2 e ?_
 refine hY 10 λi c=>?_;go_simp;have m:J [] wr ((wr.alloc (.cells #[Y id,Y f,.bool v.r,Y v.n] 116)).drew):=((F_ [] wr).alloc _).drew;clear e;have e:((wr.alloc (.cells #[Y id,Y f,.bool v.r,Y v.n] 116)).drew).cell? (Z gx 72)=some (.slice x.e.rs.A x.e.rs.l.length x.e.rs.c)/\((wr.alloc (.cells #[Y id,Y f,.bool v.r,Y v.n] 116)).drew).cell? (Z q 0)=some (.bool v.r)/\((wr.alloc (.cells #[Y id,Y f,.bool v.r,Y v.n] 116)).drew).cell? (Z q 1)=some (Y v.n):=⟨((j.bk.hF m).f_ 72).trans rfl,(l.hF m).f_ 0,(l.hF m).f_ 1⟩;have az:Bk ((wr.alloc (.cells #[Y id,Y f,.bool v.r,Y v.n] 116)).drew) wr.heap.size 116 #[Y id,Y f,.bool v.r,Y v.n]:=(P_ wr 116 #[Y id,Y f,.bool v.r,Y v.n]).drew;have n:=j.hF m;have aM:=z.hF m;have Nr:=l.hF m;obtain⟨be,ax⟩:=nm_ ((wr.alloc (.cells #[Y id,Y f,.bool v.r,Y v.n] 116)).drew);rw[<-ax]at m e az n aM Nr |-;clear ax;generalize wr.heap.size=Nv at*;obtain⟨aA,T,aC⟩:=(kW (s:=4) az rfl).m7 I;injection T with T;subst T
 refine h4 c e λe=>?_;clear c i;refine hY 11 λi c=>?_;refine uq rfl (.tmp 54) (.tmp 59) 50 rfl (b.heap.size) 116 bu 4 32 underlying50 bB bt a7 a6 rfl I I (.slice x.e.rs.A x.e.rs.l.length x.e.rs.c) x.e.rs.l.length r_ n.rs (Z Nv 0) 1 1 (Cl.E ⟨id,f,v⟩) r_ rfl aC (by intro aF hu;exact o4 [⟨id,f,v⟩] aF (zu hu)) I X n.gr.size ?_;intro aw aj af b7 C aH;obtain⟨V,W⟩:=n.DW ⟨id,f,v⟩ b7 C aH;have E:=n.CE C;have F:=n.xS C Nr I;have cG:=n.xS C aM I;have ao:=E.f_ 72;have ai:=E.hG 72;clear e;refine h4 c ⟨(E.f_ 72).trans rfl,F.f_ 0,F.f_ 1⟩ λe=>?_;clear c i;refine hY 12 λi c=>?_;go_simp;refine h4 c e λe=>?_;clear c i;refine hY 13 λi c=>?_;go_simp;refine h4 c e λe=>?_;clear c i;refine hY 14 λi c=>?_;go_simp;refine h4 c e λe=>?_;clear c i;refine hY 15 λi c=>?_;go_simp;refine c.out _ _ (λh=>Gc h I) ?_;clear c i;try simp only[a_]
 refine hM k_ ?_ _;have am:=(F_ [gx] af).setCell (p:=(Z gx 72)) (.inl H) (.slice aw (x.e.rs.l.length+1) aj);have K:=F.ih (p:=(Z gx 72)) (Bk.l8 F E I) (.slice aw (x.e.rs.l.length+1) aj);have r:=cG.ih (p:=(Z gx 72)) (Ne.symm an) (.slice aw (x.e.rs.l.length+1) aj);obtain⟨aU,aI⟩:=nm_ (af.setCell (Z gx 72) (.slice aw (x.e.rs.l.length+1) aj));rw[<-aI]at V W K r |-;clear aI e ao ai am;have ay:=K.f_ 0;have ah:=K.f_ 1;have b0:=r.f_ 0;have r1:=r.f_ 1;have bA:=r.hG 0;have bL:=r.hG 1;go_wp2;have aJ:=(r.hU 0 (.bool v.r)).hU 1 (Y v.n);have N:J [] w be:=((A.trans M).trans a).trans m;have u:=((F_ [w.heap.size] aU).setCell (p:=(Z w.heap.size 0)) (.inl H) (.bool v.r)).setCell (p:=(Z w.heap.size 1)) (.inl H) (Y v.n);have y:=(((XG.refl gx w).hF N).trans W).new u (H_ _);refine rr_ (V_ v) aJ underlying38 ?_;rw[HM.out];exact⟨_,rfl,V.late aW rfl rfl rfl u (H_ _) r I I y,rfl,y⟩
def jV(b:World){w:World}(gx:Nat)(x:X1)(id f:Int)(G:kA b w gx x)(c:x.e.rs.l.length<=1000000):
 Calls prog 118 #[q_ gx,Y id,Y f] w (na (hW x.p id f).1 (hW x.p id f).2 b gx w):=by
 cases d:jw (hX x.h.l) id f with
 |none=>exact wk b w gx x id f G c d
 |some e=>exact wj b w gx x id f G c e d
def jj{h:Region.Mode}{S:World->Prop}{c:Nat}{l:QZ}(i j:Nat){d g:Oper}{m n:QZ}{k:Nat}{f:Array Bool}{w:World}(h1:l.drop i=d::m)(h2:l.drop j=g::n)(hr:Region.ready h l.toArray f=[i,j])(hi:∀e:Act->World->Prop,Shut (∀a w,(i<c->S w)->j1 P h l.toArray Q S c k (f.setIfInBounds i true) a w->e a w)->if Region.wanted d (yielded l.toArray a.tmps)=true then Oper.wp P d a w e Q else e (a.put d.dst undef) w)(hj:∀e:Act->World->Prop,Shut (∀a w,(j<c->S w)->j1 P h l.toArray Q S c k (f.setIfInBounds j true) a w->e a w)->if Region.wanted g (yielded l.toArray a.tmps)=true then Oper.wp P g a w e Q else e (a.put g.dst undef) w):
 j1 P h l.toArray Q S c (k+1) f a w:=by
 exact JN
def uS(P:XP × Int × Int)(b:World)(gx:Nat)(w:World)(e:Ending)(w':World):Prop:=∃x':X1,e=.returned (.tuple #[Y P.2.1,Y P.2.2])/\kA b w' gx x'/\x'.p=P.1/\XG gx w w'
def xa{x:XP}(h:(iJ x).hO=true):hT x=(iJ x,0,0):=by
 unfold hT;simp[h]
def lG{x:XP}(h:(iJ x).hO=false):hT x=({(hW (iJ x) 1 0).1 with hO:=(hW (iJ x) 1 0).1.hO||(!(hW (iJ x) 1 0).2.r||(match ke (hW (iJ x) 1 0).1.h (hW (iJ x) 1 0).2.n with|none=>true|some o=>decide ((o.fs.length:Int)<3)))},(hW (iJ x) 1 0).2.n,iF (hW (iJ x) 1 0).1.h (hW (iJ x) 1 0).2.n):=by
 unfold hT;simp[h];rfl
def m6(b:World){w:World}(gx:Nat)(x:X1)(G:kA b w gx x)(hn:x.e.rs.l.length<=1000000):
 Calls prog 161 #[q_ gx] w (uS (hT x.p) b gx w):=by
 go_enter func161,ntmps161;go_upto_region 2 with(go_at_call 116;((with_reducible refine(qG b gx x G).mono ?_);unfold kY;rintro t w1⟨s,rfl,g,aY,K⟩;have be:=O aY;have d:w1.cell? (Z gx 81)=some (.bool s.hO):=(g.bk.f_ 81).trans rfl));have cp:=O (show s.e.rs.l=x.e.rs.l by have:=be.out;exact Z_ (λp:XP=>p.e.rs) this);have hn1:s.e.rs.l.length<=1000000:=by rw[cp.out];exact hn
 cases E:s.hO with
 |true=>
  rw[E]at d;have t:(iJ x.p).hO=true:=(by rw[<-be.out];exact E);have HM:Hid (hT x.p=(s.p,0,0)):=O (by rw[xa t,be.out]);go_wp2
  go_ret2
  rw[HM.out];exact⟨_,rfl,g,rfl,K⟩
 |false=>
  rw[E]at d;have l:Hid ((iJ x.p).hO=false):=O (by rw[<-be.out];exact E);obtain⟨v,hv⟩:=mn_ ((hW s.p 1 0).2);have av:=O hv;go_upto_region 5 with(go_at_call 118;((with_reducible refine(jV b gx s 1 0 g hn1).mono ?_);unfold na;rintro t D⟨aD,rfl,S,X,R⟩;have aQ:=O X;rw[av.out]));have B:=S.hF ((F_ [] D).alloc (.cells #[.bool v.r,Y v.n] 38));have i:=P_ D 38 #[.bool v.r,Y v.n];have aE:=(K.trans R).hF ((F_ [] D).alloc (.cells #[.bool v.r,Y v.n] 38));obtain⟨ar,W⟩:=nm_ (D.alloc (.cells #[.bool v.r,Y v.n] 38));rw[<-W]at B i aE |-;clear W;generalize D.heap.size=aw at*;clear S K R g d
  cases y:ke (hX aD.h.l) v.n with
  |none=>
   have HG:Hid (ke aD.p.h v.n=none):=O y;go_cut [5,6] (λp o A=>∃(z:Nat) (aO:OA) (c4:Nat),p=q_ z/\o=.bool false/\Bk A z 56 #[Y 0,.slice aO 0 c4]/\J [] ar A)
   case first=>
    have e:=(F_ [] ar).drew;refine hN (λw'=>w'.cell? (Z gx 36)=some (.slice aD.h.A aD.h.l.length aD.h.c)/\w'.cell? (Z aw 0)=some (.bool v.r)/\w'.cell? (Z aw 1)=some (Y v.n)) 13 k_ ?_;refine mC ⟨((B.bk.hF e).f_ 36).trans rfl,(i.hF e).f_ 0,(i.hF e).f_ 1⟩ λC=>?_;(repeat refine j2 C ?_);refine jj 6 10 rfl rfl k_ (λm Nu=>?_) (λm Nu=>?_)
    .go_simp;(go_at_call 14;((with_reducible refine(get_none aD.h.A aD.h.c aD.h.l v.n _ (B.hF e).ku.os B.hl y).mono ?_);rintro t ae⟨rfl,n⟩));refine h4 Nu ⟨((B.bk.hF (e.trans n)).f_ 36).trans rfl,(i.hF (e.trans n)).f_ 0,(i.hF (e.trans n)).f_ 1⟩ λC=>?_;repeat refine j2 C ?_
     refine hY 10 λm Nu=>?_;go_simp;have V:=P_ ae 56 #[Y 0,n_];have k:J [] ar (ae.alloc (.cells #[Y 0,n_] 56)):=(e.trans n).alloc _;clear C;have C:(ae.alloc (.cells #[Y 0,n_] 56)).cell? (Z gx 36)=some (.slice aD.h.A aD.h.l.length aD.h.c)/\(ae.alloc (.cells #[Y 0,n_] 56)).cell? (Z aw 0)=some (.bool v.r)/\(ae.alloc (.cells #[Y 0,n_] 56)).cell? (Z aw 1)=some (Y v.n):=⟨((B.bk.hF k).f_ 36).trans rfl,(i.hF k).f_ 0,(i.hF k).f_ 1⟩;have U:=V.f_ 0;have ah:=V.f_ 1;have F:=V.hG 0;have T:=V.hG 1;refine h4 Nu C λC=>?_;clear Nu m;refine hY 11 λm Nu=>?_;go_simp;have Nt:=P_ ae 56 #[Y 0,n_];have bq:J [] ar (ae.alloc (.cells #[Y 0,n_] 56)):=(e.trans n).alloc _;clear C;refine h4 Nu ⟨((B.bk.hF bq).f_ 36).trans rfl,(i.hF bq).f_ 0,(i.hF bq).f_ 1⟩ λC=>?_;clear Nu m;exact LX
    go_simp;have N:=(P_ ar 56 #[Y 0,n_]).drew;have k:J [] ar ((ar.alloc (.cells #[Y 0,n_] 56)).drew):=((F_ [] ar).alloc _).drew;clear C;refine h4 Nu ⟨((B.bk.hF k).f_ 36).trans rfl,(i.hF k).f_ 0,(i.hF k).f_ 1⟩ λC=>?_;clear Nu m;refine hY 6 λm Nu=>?_;go_simp;(go_at_call 14;((with_reducible refine(get_none aD.h.A aD.h.c aD.h.l v.n _ (B.hF k).ku.os B.hl y).mono ?_);rintro t ae⟨rfl,n⟩));have c:=k.trans n;have C:ae.cell? (Z gx 36)=some (.slice aD.h.A aD.h.l.length aD.h.c)/\ae.cell? (Z aw 0)=some (.bool v.r)/\ae.cell? (Z aw 1)=some (Y v.n):=⟨((B.bk.hF c).f_ 36).trans rfl,(i.hF c).f_ 0,(i.hF c).f_ 1⟩;have V:=N.hF n;have U:=V.f_ 0;have ah:=V.f_ 1;have F:=V.hG 0;have T:=V.hG 1;refine h4 Nu C λC=>?_;repeat refine j2 C ?_
    refine hY 11 λm Nu=>?_;go_simp;exact Jo
   obtain⟨z,aO,c4,rfl,rfl,V,r⟩:=hcut;replace B:=B.hF r;replace i:=i.hF r;replace aE:=aE.hF r;cases aj:aD.hO with
   |true=>
    have q:=O (show aD.p.hO=true from aj);cases aB:v.r with
    |true=>
     exact IX
    |false=>
     exact IX
   |false=>
    have q:=O (show aD.p.hO=false from aj);cases aB:v.r with
    |true=>
     exact IX
    |false=>
     have h:=O aB;rw[aB]at i;have HM:Hid (hT x.p=(({aD with hO:=true}:X1).p,v.n,0)):=O (by
      rw[lG l.out,<-be.out];have aG:=aQ.out.symm;have b4:=HG.out;rw[aG,av.out];unfold iF;rw[b4];have bR:=q.out;simp only[bR,h.out];first|rfl|(simp;done)|(simp;rfl))
     have hs:=B.set (x':={aD with hO:=true}) 81 (.bool true) rfl rfl rfl rfl rfl rfl rfl rfl;have L:=(F_ [gx] wc).setCell (p:=(Z gx 81)) (.inl H) (.bool true);have d:wc.cell? (Z gx 81)=some (.bool aD.hO):=(B.bk.f_ 81).trans rfl;rw[aj]at d;have ai:=B.bk.hG 81;have U:=i.f_ 0;have ah:=i.f_ 1;have aR:=V.f_ 1;go_upto_region 7 with fail;have f:=i.ih (p:=(Z gx 81)) (Bk.l8 i B.bk I) (.bool true);have M:=V.ih (p:=(Z gx 81)) (Bk.l8 V B.bk I) (.bool true);clear U ah aR d ai;obtain⟨Q,j⟩:=nm_ (wc.setCell (Z gx 81) (.bool true));rw[<-j]at hs f M L |-;clear j;exact JL
  |some a=>
   have HG:Hid (ke aD.p.h v.n=some a):=O y;go_cut [5,6] (λp o A=>∃(z:Nat) (aO:OA) (c4:Nat),p=q_ z/\o=.bool true/\Bk A z 56 #[Y a.id,.slice aO a.fs.length c4]/\J [] ar A)
   case first=>
    have e:=(F_ [] ar).drew;refine hN (λw'=>w'.cell? (Z gx 36)=some (.slice aD.h.A aD.h.l.length aD.h.c)/\w'.cell? (Z aw 0)=some (.bool v.r)/\w'.cell? (Z aw 1)=some (Y v.n)) 13 k_ ?_;refine mC ⟨((B.bk.hF e).f_ 36).trans rfl,(i.hF e).f_ 0,(i.hF e).f_ 1⟩ λC=>?_;(repeat refine j2 C ?_);refine jj 6 10 rfl rfl k_ (λm Nu=>?_) (λm Nu=>?_)
    .go_simp;(go_at_call 14;((with_reducible refine(get_some aD.h.A aD.h.c aD.h.l v.n a _ (B.hF e).ku.os (B.hF e).ku.k8 B.hl y).mono ?_);rintro t ae⟨aO,c4,rfl,u,n⟩));refine h4 Nu ⟨((B.bk.hF (e.trans n)).f_ 36).trans rfl,(i.hF (e.trans n)).f_ 0,(i.hF (e.trans n)).f_ 1⟩ λC=>?_;repeat refine j2 C ?_
     refine hY 10 λm Nu=>?_;go_simp;have V:=P_ ae 56 #[Y 0,n_];have k:J [] ar (ae.alloc (.cells #[Y 0,n_] 56)):=(e.trans n).alloc _;clear C;have C:(ae.alloc (.cells #[Y 0,n_] 56)).cell? (Z gx 36)=some (.slice aD.h.A aD.h.l.length aD.h.c)/\(ae.alloc (.cells #[Y 0,n_] 56)).cell? (Z aw 0)=some (.bool v.r)/\(ae.alloc (.cells #[Y 0,n_] 56)).cell? (Z aw 1)=some (Y v.n):=⟨((B.bk.hF k).f_ 36).trans rfl,(i.hF k).f_ 0,(i.hF k).f_ 1⟩;have U:=V.f_ 0;have F:=V.hG 0;refine h4 Nu C λC=>?_;clear Nu m;refine hY 11 λm Nu=>?_;go_simp;have Nt:=P_ ae 56 #[Y a.id,.slice aO a.fs.length c4];have bq:J [] ar (ae.alloc (.cells #[Y a.id,.slice aO a.fs.length c4] 56)):=(e.trans n).alloc _;clear C;refine h4 Nu ⟨((B.bk.hF bq).f_ 36).trans rfl,(i.hF bq).f_ 0,(i.hF bq).f_ 1⟩ λC=>?_;clear Nu m;exact L0
    go_simp;have N:=(P_ ar 56 #[Y 0,n_]).drew;have k:J [] ar ((ar.alloc (.cells #[Y 0,n_] 56)).drew):=((F_ [] ar).alloc _).drew;clear C;refine h4 Nu ⟨((B.bk.hF k).f_ 36).trans rfl,(i.hF k).f_ 0,(i.hF k).f_ 1⟩ λC=>?_;clear Nu m;refine hY 6 λm Nu=>?_;go_simp;(go_at_call 14;((with_reducible refine(get_some aD.h.A aD.h.c aD.h.l v.n a _ (B.hF k).ku.os (B.hF k).ku.k8 B.hl y).mono ?_);rintro t ae⟨aO,c4,rfl,u,n⟩));have c:=k.trans n;have C:ae.cell? (Z gx 36)=some (.slice aD.h.A aD.h.l.length aD.h.c)/\ae.cell? (Z aw 0)=some (.bool v.r)/\ae.cell? (Z aw 1)=some (Y v.n):=⟨((B.bk.hF c).f_ 36).trans rfl,(i.hF c).f_ 0,(i.hF c).f_ 1⟩;have V:=N.hF n;have U:=V.f_ 0;have ah:=V.f_ 1;have F:=V.hG 0;have T:=V.hG 1;refine h4 Nu C λC=>?_;repeat refine j2 C ?_
    refine hY 11 λm Nu=>?_;go_simp;exact Jl
   obtain⟨z,aO,c4,rfl,rfl,V,r⟩:=hcut;replace B:=B.hF r;replace i:=i.hF r;replace aE:=aE.hF r;cases aj:aD.hO with
   |true=>
    have q:=O (show aD.p.hO=true from aj);cases aB:v.r with
    |true=>
     exact IV
    |false=>
     exact IV
   |false=>
    have q:=O (show aD.p.hO=false from aj);cases aB:v.r with
    |true=>
     have h:=O aB;rw[aB]at i;by_cases u:(a.fs.length:Int)<3;have HM:Hid (hT x.p=(({aD with hO:=true}:X1).p,v.n,(a.fs.length:Int))):=O (by
      rw[lG l.out,<-be.out];have aG:=aQ.out.symm;have b4:=HG.out;rw[aG,av.out];unfold iF;rw[b4];have bR:=q.out;simp only[bR,h.out];first|(simp[u];done)|(simp[u];rfl))
     have bP:((a.fs.length:Int)<3)=True:=by simp[u]
     exact I5;have HM:Hid (hT x.p=(({aD with hO:=false}:X1).p,v.n,(a.fs.length:Int))):=O (by
      rw[lG l.out,<-be.out];have aG:=aQ.out.symm;have b4:=HG.out;rw[aG,av.out];unfold iF;rw[b4];have bR:=q.out;simp only[bR,h.out];first|(simp[u];done)|(simp[u];rfl))
     have bP:((a.fs.length:Int)<3)=False:=by simp[u]
     clear u be aQ av HG l q h;have hs:=B.set (x':={aD with hO:=false}) 81 (.bool false) rfl rfl rfl rfl rfl rfl rfl rfl;have L:=(F_ [gx] wc).setCell (p:=(Z gx 81)) (.inl H) (.bool false);have d:wc.cell? (Z gx 81)=some (.bool aD.hO):=(B.bk.f_ 81).trans rfl;rw[aj]at d;clear aj;have ai:=B.bk.hG 81;have U:=i.f_ 0;have ah:=i.f_ 1;have aR:=V.f_ 1;go_upto_region 7 with fail;have f:=i.ih (p:=(Z gx 81)) (Bk.l8 i B.bk I) (.bool false);have M:=V.ih (p:=(Z gx 81)) (Bk.l8 V B.bk I) (.bool false);clear U ah aR d ai;obtain⟨Q,j⟩:=nm_ (wc.setCell (Z gx 81) (.bool false));rw[<-j]at hs f M L |-;clear j;exact JF
    |false=>
     exact IV
def mG(x:X1):∀c,c<33->x.g_[3+c]?=(iK x.j6 x.sr)[c]?
 |0,_=>rfl
 |1,_=>rfl
 |2,_=>rfl
 |3,_=>rfl
 |4,_=>rfl
 |5,_=>rfl
 |6,_=>rfl
 |7,_=>rfl
 |8,_=>rfl
 |9,_=>rfl
 |10,_=>rfl
 |11,_=>rfl
 |12,_=>rfl
 |13,_=>rfl
 |14,_=>rfl
 |15,_=>rfl
 |16,_=>rfl
 |17,_=>rfl
 |18,_=>rfl
 |19,_=>rfl
 |20,_=>rfl
 |21,_=>rfl
 |22,_=>rfl
 |23,_=>rfl
 |24,_=>rfl
 |25,_=>rfl
 |26,_=>rfl
 |27,_=>rfl
 |28,_=>rfl
 |29,_=>rfl
 |30,_=>rfl
 |31,_=>rfl
 |32,_=>rfl
 |n+33,h=>Gc h X
def od{pc:Int}{r:Nat->Vl}:(iK pc r).all (·.oneCell')=true:=by unfold iK;simp[Value.oneCell']
def nz(x:X1)(pc:Int)(r:Nat->Vl):ve x.g_ 39 (iK pc r).toList=({x with e:={x.e with pc:=pc,r:=r}}:X1).g_:=rfl
def lX{w':World}(e:TypeId){x:Operand}(n:o.op=.load e x)(g i:Nat)(r:a.eval x=.pointer (some (Z g i))){vs:Array Value}(hc:∀c,c<vs.size->w'.cell? (Z g (i+c))=vs[c]?){d:TypeDesc}(p:P.underlying e=some d)(k:d.isRow=true)(l:(P.info? e).map (·.size)=some vs.size):(execOp a.eval o).run P w'=.ok (.value (.agg vs)) w':=by
 have m:=run_loadAt_mid (P:=P) w' g i e vs.toList d (λc s h=>by
  have j:c<vs.size:=by
   rcases Ga c vs.size with f|f
   exact f;rw[Gk (zu f)]at h;cases h
  rw[hc c j];simpa using h) p k (zu l)
 unfold execOp;simp only[n,r,m,Sem.run_bind,Sem.run_pure,Result.andThen_ok]
def qy(l:QS)(h:Vl):Bool:=decide (h.r=true∨(h.n≠0/\jc l h.n=false))
def si(a:XP × Int × Int)(v:Vl):XP:=
 if a.1.hO=true then a.1 else
 let b:=hW a.1 a.2.1 2
 if qy b.1.jo b.2=true then kU b.1 else
 if b.2.n≠0 then
  let y:=ib (ib b.1 a.2.1 2 default) 1 2 v
  {y with e:={y.e with pc:=b.2.n,r:=jp}}
 else
  let p:=hW b.1 a.2.1 0
  if p.2.r=false then kU p.1 else
  if p.2.n=0 then{p.1 with e:={p.1.e with h7:=2,hZ:=true,v:=v,pc:=p.1.j6,r:=p.1.sr}}
  else
   let y:=ib (ib p.1 1 0 p.2) 1 2 v
   {y with e:={y.e with h7:=1,kF:=y.hC,pc:= -1,r:=jp}}
def yI(x:XP)(v:Vl):jl x v=si (hT x) v:=by
 unfold jl si qy;simp only[He]
def pp(b:World){w:World}(gx:Nat)(x:X1)(v:Vl)(G:kA b w gx x)(hs:x.p.e.sm 900000):
 Calls prog 117 #[q_ gx,.agg #[.bool v.r,Y v.n]] w (kY (.tuple #[]) (jl x.p v) b gx w):=by
 have Nt:=P_ w 38 #[.bool v.r,Y v.n];have aW:=G.hF ((F_ [] w).alloc (.cells #[.bool v.r,Y v.n] 38));have al:=(XG.refl gx w).hF ((F_ [] w).alloc (.cells #[.bool v.r,Y v.n] 38));have E:w.heap.size≠gx:=ov G.bk.lt;have o:=l6 hs;go_enter func117,ntmps117;go_upto_region 1 with fail;obtain⟨bo,bg⟩:=nm_ (w.alloc (.cells #[.bool v.r,Y v.n] 38));rw[<-bg]at Nt aW al |-;clear bg
 go_upto_region 2 with(go_at_call 161;((with_reducible refine(m6 b gx x aW (G_ hs.rs I)).mono ?_);unfold uS;rintro e w1⟨T,rfl,g,aY,hg1⟩;have be:=O aY;clear aY;have an:w1.cell? (Z gx 81)=some (.bool T.hO):=(g.bk.f_ 81).trans rfl));have t:=Nt.xg hg1 E;have aE:=al.trans hg1;clear Nt aW al hg1;have ao:=O (yI x.p v);obtain⟨l,am⟩:=mn_ ((hT x.p).2.1);rw[am];have br:=O am;clear am;generalize (hT x.p).2.2=bY at*;rw[<-be.out]at o;cases aT:T.hO with
 |true=>
  rw[aT]at an;have HM:Hid (jl x.p v=T.p):=O (by rw[ao.out,be.out];unfold si;rw[U_ (by rw[<-be.out];exact aT)]);clear aT o;go_wp2;refine rn_ ?_;rw[HM.out];exact⟨_,rfl,g,rfl,aE⟩
 |false=>
  rw[aT]at an;have bP:Hid (jl x.p v=(let b:=hW T.p l 2
   if qy b.1.jo b.2=true then kU b.1 else
   if b.2.n≠0 then
    let c:=ib (ib b.1 l 2 default) 1 2 v
    {c with e:={c.e with pc:=b.2.n,r:=jp}}
   else
    let p:=hW b.1 l 0
    if p.2.r=false then kU p.1 else
    if p.2.n=0 then{p.1 with e:={p.1.e with h7:=2,hZ:=true,v:=v,pc:=p.1.j6,r:=p.1.sr}}
    else
     let c:=ib (ib p.1 1 0 p.2) 1 2 v
     {c with e:={c.e with h7:=1,kF:=c.hC,pc:= -1,r:=jp}})):=O (by
   rw[ao.out];unfold si;rw[T_ (by rw[<-be.out];show ¬T.hO=true;rw[aT];decide),br.out,<-be.out])
  clear aT ao be br;have hn1:T.e.rs.l.length<=1000000:=G_ o.rs X;obtain⟨h,av⟩:=mn_ ((hW T.p l 2).2);have bS:=O av;clear av;go_upto_region 4 with(go_at_call 118;((with_reducible refine(jV b gx T l 2 g hn1).mono ?_);unfold na;rintro e af⟨d,rfl,aA,s,U⟩;have bd:=O s;clear s;rw[bS.out]));have aS:=km o l 2;have au:=O bd.out;clear bd;rw[<-au.out]at aS;have bD:Hid (jl x.p v=(if qy d.jo.l h=true then kU d.p else
   if h.n≠0 then
    let c:=ib (ib d.p l 2 default) 1 2 v
    {c with e:={c.e with pc:=h.n,r:=jp}}
   else
    let p:=hW d.p l 0
    if p.2.r=false then kU p.1 else
    if p.2.n=0 then{p.1 with e:={p.1.e with h7:=2,hZ:=true,v:=v,pc:=p.1.j6,r:=p.1.sr}}
    else
     let c:=ib (ib p.1 1 0 p.2) 1 2 v
     {c with e:={c.e with h7:=1,kF:=c.hC,pc:= -1,r:=jp}})):=O (by
   rw[bP.out];simp only[bS.out];rw[<-au.out];rfl)
  clear bP au bS;have k:=aA.hF ((F_ [] af).alloc (.cells #[.bool h.r,Y h.n] 38));have N:=P_ af 38 #[.bool h.r,Y h.n];have ag:af.heap.size≠gx:=ov aA.bk.lt;replace t:=(t.xg U E).alloc (.cells #[.bool h.r,Y h.n] 38);replace aE:=(aE.trans U).hF ((F_ [] af).alloc (.cells #[.bool h.r,Y h.n] 38));obtain⟨ar,bi⟩:=nm_ (af.alloc (.cells #[.bool h.r,Y h.n] 38));rw[<-bi]at k N t aE |-;clear bi;clear aA U g an;generalize af.heap.size=aZ at*
  go_cut [36] (λc a8=>c=.bool (qy d.jo.l h)/\J [] ar a8)
  case first=>
   have i:∀c:GW ar,c.1.cell? (Z aZ 0)=some (.bool h.r):=N.zY 0;have c1:∀c:GW ar,c.1.cell? (Z aZ 1)=some (Y h.n):=N.zY 1;have m:∀c:GW ar,c.1.cell? (Z gx 0)=some (.slice d.jo.A d.jo.l.length d.jo.c):=λc=>(k.bk.zY 0 c).trans rfl;have j:∀c:GW ar,c.1.cell? (Z gx 1)=some (Y d.hH):=λc=>(k.bk.zY 1 c).trans rfl;have aG:∀c:GW ar,c.1.cell? (Z gx 2)=some (Y d.hC):=λc=>(k.bk.zY 2 c).trans rfl;cases a:h.r with
   |true=>
    have HB:=O (show qy d.jo.l h=true by unfold qy;simp[a]);rw[a]at i;clear a;exact Kt
   |false=>
    rw[a]at i;by_cases hz:h.n=0;have HB:=O (show qy d.jo.l h=false by unfold qy;simp[a,hz]);have q:(h.n !=0)=false:=zu hz;clear a hz;exact Kt;have q:(h.n !=0)=true:=zu hz;cases hm:jc d.jo.l h.n with
    |true=>
     have HB:=O (show qy d.jo.l h=false by unfold qy;simp[a,hm]);have HM:Hid (∀c:GW ar,Calls prog 162 #[.agg #[.slice d.jo.A d.jo.l.length d.jo.c,Y d.hH,Y d.hC],Y h.n] c.1 (λe f=>e=.returned (.bool true)/\J [] c.1 f)):=O λc=>by have q:=oZ d.jo.A d.jo.c d.jo.l d.hH d.hC h.n c.1 (k.hF c.2).Em k.il;rw[hm]at q;exact q
     exact J0
    |false=>
     have HB:=O (show qy d.jo.l h=true by unfold qy;simp[a,hz,hm]);have HM:Hid (∀c:GW ar,Calls prog 162 #[.agg #[.slice d.jo.A d.jo.l.length d.jo.c,Y d.hH,Y d.hC],Y h.n] c.1 (λe f=>e=.returned (.bool false)/\J [] c.1 f)):=O λc=>by have q:=oZ d.jo.A d.jo.c d.jo.l d.hH d.hC h.n c.1 (k.hF c.2).Em k.il;rw[hm]at q;exact q
     exact J0
  obtain⟨rfl,aH⟩:=hcut;replace k:=k.hF aH;replace N:=N.hF aH;replace t:=t.hF aH;replace aE:=aE.hF aH;clear aH;cases aX:qy d.jo.l h with
  |true=>
   have HM:Hid (jl x.p v=({d with hO:=true}:X1).p):=O (by rw[bD.out,U_ aX];rfl);clear aX bD;have an:wc.cell? (Z gx 81)=some (.bool d.hO):=(k.bk.f_ 81).trans rfl;have ai:=k.bk.hG 81;go_wp2;have bW:=k.set (x':={d with hO:=true}) 81 (.bool true) rfl rfl rfl rfl rfl rfl rfl rfl;exact L6
  |false=>
   rw[aX]at bD;by_cases hz:h.n=0
   .have HM:Hid (jl x.p v=(let p:=hW d.p l 0
     if p.2.r=false then kU p.1 else
     if p.2.n=0 then{p.1 with e:={p.1.e with h7:=2,hZ:=true,v:=v,pc:=p.1.j6,r:=p.1.sr}}
     else
      let c:=ib (ib p.1 1 0 p.2) 1 2 v
      {c with e:={c.e with h7:=1,kF:=c.hC,pc:= -1,r:=jp}})):=O (by rw[bD.out,T_ I,T_ (by simp[hz])])
    have q:(h.n !=0)=false:=zu hz;clear aX bD hz;have u:=N.f_ 1;have b4:d.e.rs.l.length<=1000000:=G_ aS.rs X;obtain⟨p,hp⟩:=mn_ ((hW d.p l 0).2);have bf:=O hp;clear hp;go_upto_region 11 with(go_at_call 118;((with_reducible refine(jV b gx d l 0 k b4).mono ?_);unfold na;rintro e aF⟨f,rfl,aA,s,U⟩;have bd:=O s;clear s;rw[bf.out]));have bh:Hid (jl x.p v=(if p.r=false then kU f.p else
     if p.n=0 then{f.p with e:={f.p.e with h7:=2,hZ:=true,v:=v,pc:=f.p.j6,r:=f.p.sr}}
     else
      let c:=ib (ib f.p 1 0 p) 1 2 v
      {c with e:={c.e with h7:=1,kF:=c.hC,pc:= -1,r:=jp}})):=O (by
     rw[HM.out];simp only[bf.out];rw[<-bd.out])
    have P:=km aS l 0;rw[<-bd.out]at P;clear HM bd bf u;have b7:aF.heap.size≠gx:=ov aA.bk.lt;have S:=aA.hF ((F_ [] aF).alloc (.cells #[.bool p.r,Y p.n] 38));have M:=P_ aF 38 #[.bool p.r,Y p.n];replace t:=(t.xg U E).alloc (.cells #[.bool p.r,Y p.n] 38);replace aE:=(aE.trans U).hF ((F_ [] aF).alloc (.cells #[.bool p.r,Y p.n] 38));obtain⟨Q,bO⟩:=nm_ (aF.alloc (.cells #[.bool p.r,Y p.n] 38));rw[<-bO]at S M t aE |-;clear bO;clear aA U k N;generalize aF.heap.size=bB at*
    cases s:p.r with
    |false=>
     have HM:Hid (jl x.p v=({f with hO:=true}:X1).p):=O (by rw[bh.out,U_ s];rfl);rw[s]at M;clear bh s;have R:=M.f_ 0;go_upto_region 12 with fail;have an:Q.cell? (Z gx 81)=some (.bool f.hO):=(S.bk.f_ 81).trans rfl;have ai:=S.bk.hG 81;go_wp2;have bW:=S.set (x':={f with hO:=true}) 81 (.bool true) rfl rfl rfl rfl rfl rfl rfl rfl;exact L6
    |true=>
     rw[s]at bh M;by_cases hz:p.n=0
     .have HM:Hid (jl x.p v={f.p with e:={f.p.e with h7:=2,hZ:=true,v:=v,pc:=f.p.j6,r:=f.p.sr}}):=O (by rw[bh.out,T_ I,U_ hz]);have bG:(p.n==0)=true:=zu hz;clear bh hz s;have R:=M.f_ 0;have u:=M.f_ 1;go_upto_region 14 with fail;clear R u M;have bk:=S.bk.drew;have ad:=t.drew;refine hN (λw'=>(∀n,n<33->w'.cell? (Z gx (3+n))=(iK f.j6 f.sr)[n]?)/\w'.cell? (Z w.heap.size 0)=some (.bool v.r)/\w'.cell? (Z w.heap.size 1)=some (Y v.n)) 25 k_ ?_;refine mC ⟨λn D=>by rw[bk.f_];exact mG f n D,ad.f_ 0,ad.f_ 1⟩ λi=>?_;refine ir 0 i ?_;refine ir 1 i ?_;refine ir 2 i ?_;refine ir 3 i ?_;refine ir 4 i ?_;refine ir 5 i ?_;refine ir 6 i ?_;refine ir 7 i ?_;refine ir 8 (v:=.agg (iK f.j6 f.sr)) i ?_ (hy:=(Or.inl ⟨r_,λw' bF=>lX 49 rfl gx 3 r_ (λn D=>bF.1 n D) underlying49 rfl k_⟩));refine ir 9 i ?_;refine ir 10 i ?_;refine ir 11 i ?_;have bX:=bk.f_ 38;have bQ:=bk.hG 38;refine hY 12 λV y=>?_;go_simp;have aV:Bk ((Q.setCell (Z gx 38) (Y 2)).drew) gx 186 ({f with e:={f.e with h7:=2}}:X1).g_:=(S.bk).hU 38 (Y 2);have bz:Bk ((Q.setCell (Z gx 38) (Y 2)).drew) w.heap.size 38 #[.bool v.r,Y v.n]:=(t).ih (p:=(Z gx 38)) E (Y 2);have aM:J [gx] Q ((Q.setCell (Z gx 38) (Y 2)).drew):=J.drew <| ((F_ [gx] Q)).setCell (p:=(Z gx 38)) (.inl H) (Y 2);obtain⟨bm,bR⟩:=nm_ ((Q.setCell (Z gx 38) (Y 2)).drew);rw[<-bR]at aV bz aM |-;clear bR i
      refine h4 y ⟨λn D=>by rw[aV.f_];exact mG ({f with e:={f.e with h7:=2}}:X1) n D,bz.f_ 0,bz.f_ 1⟩ λi=>?_;clear y V;clear bX bQ;refine ir 13 i ?_;refine ir 14 i ?_;refine ir 15 i ?_;have a2:=aV.f_ 78;have aK:=aV.hG 78;refine hY 16 λV y=>?_;go_simp;have bj:Bk (bm.setCell (Z gx 78) (.bool true)) gx 186 ({f with e:={f.e with h7:=2,hZ:=true}}:X1).g_:=(aV).hU 78 (.bool true);have bC:Bk (bm.setCell (Z gx 78) (.bool true)) w.heap.size 38 #[.bool v.r,Y v.n]:=(bz).ih (p:=(Z gx 78)) E (.bool true);have bq:J [gx] Q (bm.setCell (Z gx 78) (.bool true)):=(aM).setCell (p:=(Z gx 78)) (.inl H) (.bool true);obtain⟨bn,bT⟩:=nm_ (bm.setCell (Z gx 78) (.bool true));rw[<-bT]at bj bC bq |-;clear bT i
      refine h4 y ⟨λn D=>by rw[bj.f_];exact mG ({f with e:={f.e with h7:=2,hZ:=true}}:X1) n D,bC.f_ 0,bC.f_ 1⟩ λi=>?_;clear y V;clear a2 aK;refine ir 17 i ?_;refine ir 18 i ?_;refine ir 19 i ?_;have b5:bn.cell? (Z gx 79)=some (.bool f.e.v.r):=(bj.f_ 79).trans rfl;have b6:bn.cell? (Z gx 80)=some (Y f.e.v.n):=(bj.f_ 80).trans rfl;have bZ:=bj.hG 79;have b0:=bj.hG 80;refine hY 20 λV y=>?_;go_simp;have c6:Bk ((bn.setCell (Z gx 79) (.bool v.r)).setCell (Z gx 80) (Y v.n)) gx 186 ({f with e:={f.e with h7:=2,hZ:=true,v:=v}}:X1).g_:=((bj).hU 79 (.bool v.r)).hU 80 (Y v.n);have bv:Bk ((bn.setCell (Z gx 79) (.bool v.r)).setCell (Z gx 80) (Y v.n)) w.heap.size 38 #[.bool v.r,Y v.n]:=((bC).ih (p:=(Z gx 79)) E (.bool v.r)).ih (p:=(Z gx 80)) E (Y v.n);have bx:J [gx] Q ((bn.setCell (Z gx 79) (.bool v.r)).setCell (Z gx 80) (Y v.n)):=((bq).setCell (p:=(Z gx 79)) (.inl H) (.bool v.r)).setCell (p:=(Z gx 80)) (.inl H) (Y v.n);obtain⟨bl,ae⟩:=nm_ ((bn.setCell (Z gx 79) (.bool v.r)).setCell (Z gx 80) (Y v.n));rw[<-ae]at c6 bv bx |-;clear ae i
      refine h4 y ⟨λn D=>by rw[c6.f_];exact mG ({f with e:={f.e with h7:=2,hZ:=true,v:=v}}:X1) n D,bv.f_ 0,bv.f_ 1⟩ λi=>?_;clear y V;clear b5 bZ b6 b0;refine ir 21 i ?_;refine ir 22 i ?_;refine ir 23 i ?_;refine hY 24 λV y=>?_;rw[U_ r_];refine jE 49 _ _ rfl gx 39 r_ (iK f.j6 f.sr) r_ 186 _ c6 (by show 39+33<=82;decide) k_ (od) ?_;intro Nr L K;rw[nz]at L;have bI:=bv.gr K (zu E);clear i;refine h4 y ⟨λn D=>by rw[L.f_];exact mG ({({f with e:={f.e with h7:=2,hZ:=true,v:=v}}:X1)with e:={(({f with e:={f.e with h7:=2,hZ:=true,v:=v}}:X1)).e with pc:=f.j6,r:=f.sr}}:X1) n D,bI.f_ 0,bI.f_ 1⟩ λi=>?_;clear y V;refine hM k_ ?_ _;go_wp2;refine rn_ ?_;rw[HM.out];exact⟨_,rfl,S.r6 (bx.trans K) L rfl rfl rfl rfl rfl rfl rfl,rfl,aE.iq (bx.trans K)⟩
     have n:¬p.n=0:=hz;have HM:Hid (jl x.p v=(let c:=ib (ib f.p 1 0 p) 1 2 v
      {c with e:={c.e with h7:=1,kF:=c.hC,pc:= -1,r:=jp}})):=O (by rw[bh.out,T_ I,T_ hz])
     have bG:(p.n==0)=false:=zu hz;clear bh hz n;have R:=M.f_ 0;have u:=M.f_ 1;have y:f.e.ws.l.length<=1000000:=G_ P.ws X;have i:=O (show p=⟨true,p.n⟩ by cases p;simp only at s;subst s;rfl);clear s;go_upto_region 16 with(go_at_call 163;((with_reducible refine(kb b gx f 1 0 ⟨true,p.n⟩ S y).mono ?_);unfold kY;rintro e Nq⟨bV,rfl,z,B,m⟩;have C:=O B;clear B));have bJ:=O C.out;clear C;have aO:=z;have a7:=aE.trans m;have aP:=t.xg m E;have dk:bV.e.ws.l.length<=1000000:=by
      have e:bV.e.ws.l=f.e.ws.l++[⟨1,0,⟨true,p.n⟩⟩]:=Z_ (λp:XP=>p.e.ws) bJ.out;rw[e,I_];have:=P.ws;have aG:f.p.e.ws.length=f.e.ws.l.length:=rfl;simp only[Y_,Gz];omega
     clear z m R u;have R:=aP.f_ 0;have u:=aP.f_ 1;go_upto_region 17 with(go_at_call 163;((with_reducible refine(kb b gx bV 1 2 v aO dk).mono ?_);unfold kY;rintro e az⟨j,rfl,z,B,m⟩;have C:=O B;clear B));have bu:=O C.out;clear C;have F:=z;have aj:=a7.trans m;clear z m R u;have ap:Hid (jl x.p v=({j with e:={j.e with h7:=1,kF:=j.hC,pc:= -1,r:=jp}}:X1).p):=O (by
      rw[HM.out,i.out];have bK:ib (ib f.p 1 0 ⟨true,p.n⟩) 1 2 v=j.p:=by rw[bu.out,bJ.out]
      exact Z_ (λc:XP=>({c with e:={c.e with h7:=1,kF:=c.hC,pc:= -1,r:=jp}}:XP)) bK)
     have aD:az.cell? (Z gx 2)=some (Y j.hC):=(F.bk.f_ 2).trans rfl;have bH:az.cell? (Z gx 38)=some (Y j.e.h7):=(F.bk.f_ 38).trans rfl;have bA:az.cell? (Z gx 77)=some (Y j.e.kF):=(F.bk.f_ 77).trans rfl;have bQ:=F.bk.hG 38;have V:=F.bk.hG 77;have D:Bk ((az.setCell (Z gx 38) (Y 1)).setCell (Z gx 77) (Y j.hC)) gx 186 ({j with e:={j.e with h7:=1,kF:=j.hC}}:X1).g_:=(F.bk.hU 38 (Y 1)).hU 77 (Y j.hC);have aw:=((F_ [gx] az).setCell (p:=(Z gx 38)) (.inl H) (Y 1)).setCell (p:=(Z gx 77)) (.inl H) (Y j.hC);go_wp2_with (refine jf rfl 49 _ _ rfl gx 39 r_ (iK (-1) jp) r_ 186 _ D (by show 39+33<=82;decide) k_ (od) ?_;intro Nr L K);rw[nz]at L;refine en_ ?_;rw[ap.out];exact⟨_,rfl,F.r6 (aw.trans K) L rfl rfl rfl rfl rfl rfl rfl,rfl,aj.iq (aw.trans K)⟩
   have HM:Hid (jl x.p v=(let c:=ib (ib d.p l 2 default) 1 2 v
    {c with e:={c.e with pc:=h.n,r:=jp}})):=O (by rw[bD.out,T_ I,U_ hz])
   have q:(h.n !=0)=true:=zu hz;clear aX bD hz;have f:d.e.ws.l.length<=1000000:=G_ aS.ws X;have u:=N.f_ 1;go_upto_region 8 with(go_at_call 163;((with_reducible refine(kb b gx d l 2 ⟨false,0⟩ k f).mono ?_);unfold kY;rintro e Nq⟨bV,rfl,z,B,m⟩;have C:=O B;clear B));have bJ:=O C.out;clear C;have aO:=z;have a7:=aE.trans m;have aP:=t.xg m E;have n:=N.xg m ag;have dk:bV.e.ws.l.length<=1000000:=by
    have e:bV.e.ws.l=d.e.ws.l++[⟨l,2,⟨false,0⟩⟩]:=Z_ (λp:XP=>p.e.ws) bJ.out;rw[e,I_];have:=aS.ws;have aG:d.p.e.ws.length=d.e.ws.l.length:=rfl;simp only[Y_,Gz];omega
   clear z m u;have R:=aP.f_ 0;have u:=aP.f_ 1;go_upto_region 9 with(go_at_call 163;((with_reducible refine(kb b gx bV 1 2 v aO dk).mono ?_);unfold kY;rintro e az⟨j,rfl,z,B,m⟩;have C:=O B;clear B));have bu:=O C.out;clear C;have F:=z;have aj:=a7.trans m;have i:=n.xg m ag;clear z m R u;have u:=i.f_ 1;have ap:Hid (jl x.p v=({j with e:={j.e with pc:=h.n,r:=jp}}:X1).p):=O (by
    rw[HM.out];have bK:ib (ib d.p l 2 default) 1 2 v=j.p:=by rw[bu.out,bJ.out];rfl
    exact Z_ (λc:XP=>({c with e:={c.e with pc:=h.n,r:=jp}}:XP)) bK)
   go_wp2_with (refine jf rfl 49 _ _ rfl gx 39 r_ (iK (h.n) jp) r_ 186 _ F.bk (by show 39+33<=82;decide) k_ (od) ?_;intro Nr L K);rw[nz]at L;refine rn_ ?_;rw[ap.out];exact⟨_,rfl,F.r6 K L rfl rfl rfl rfl rfl rfl rfl,rfl,aj.iq K⟩
def k5(b:World){w:World}(gx:Nat)(x:X1)(n:Int)(G:kA b w gx x)(h:x.p.e.sm 900000):
 Calls prog 165 #[q_ gx,Y n] w (kY (.tuple #[]) (jk x.p n) b gx w):=by
 go_enter func165,ntmps165;go_wp2_with (go_at_call 117;((with_reducible refine(pp b gx x ⟨false,n⟩ G h).mono ?_);unfold kY;rintro j i⟨c,rfl,d,Q,f⟩;have e:=O Q));refine en_ ?_;exact⟨c,rfl,d,e.out,f⟩
def w3(P:XP × Int × Int × Bool)(b:World)(gx:Nat)(w:World)(e:Ending)(w':World):Prop:=∃x':X1,e=.returned (.tuple #[Y P.2.1,Y P.2.2.1,.bool P.2.2.2])/\kA b w' gx x'/\x'.p=P.1/\XG gx w w'
def BU(P:XP × Int × Bool)(b:World)(gx:Nat)(w:World)(e:Ending)(w':World):Prop:=∃x':X1,e=.returned (.tuple #[Y P.2.1,.bool P.2.2])/\kA b w' gx x'/\x'.p=P.1/\XG gx w w'
def x_(a:XP × Int × Int)(n:Int):XP × Int × Int × Bool:=
 if a.1.hO=true then(a.1,0,0,false) else
 if a.2.2<=3+n then(jk a.1 (-1),0,0,false) else(a.1,a.2.1,3+n,true)
def B3(x:XP)(n:Int):hJ x n=x_ (hT x) n:=rfl
def yN(x:XP):0<=(hT x).2.2:=by
 unfold hT;simp only;split;exact GH _;show 0<=iF _ _;unfold iF;split<;>omega
def mj(b:World){w:World}(gx:Nat)(x:X1)(n:Int)(G:kA b w gx x)(q:x.p.e.sm 800000)(h0:0<=n)(K:n<=1000000):
 Calls prog 167 #[q_ gx,Y n] w (w3 (hJ x.p n) b gx w):=by
 have o:=l6 q;have A:=yN x.p;go_enter func167,ntmps167;go_upto_region 2 with(go_at_call 161;((with_reducible refine(m6 b gx x G (G_ q.rs I)).mono ?_);unfold uS;rintro E H⟨c,rfl,g,B,j⟩;have d:=O B;have m:H.cell? (Z gx 81)=some (.bool c.hO):=(g.bk.f_ 81).trans rfl));have h:=O (B3 x.p n);obtain⟨p,l⟩:=mn_ ((hT x.p).2.1);rw[l];obtain⟨i,k⟩:=mn_ ((hT x.p).2.2);rw[k]at A |-;have a:=O k;have C:=O l;rw[<-d.out]at o
 cases e:c.hO with
 |true=>
  rw[e]at m;have HM:Hid (hJ x.p n=(c.p,0,0,false)):=O (by rw[h.out,d.out];unfold x_;rw[U_ (by rw[<-d.out];exact e)]);go_wp2;refine Gu (v:=.tuple #[Y 0,Y 0,.bool false]) (results_tmp3 (t:=4) (u:=5) (v:=6) rfl _ _ _) rfl ?_;rw[HM.out];exact⟨_,rfl,g,rfl,j⟩
 |false=>
  rw[e]at m;by_cases f:i<=3+n
  .have HM:Hid (hJ x.p n=(jk c.p (-1),0,0,false)):=O (by
    rw[h.out,d.out];unfold x_;rw[T_ (by rw[<-d.out];show ¬c.hO=true;rw[e];decide),U_ (by rw[a.out];exact f)])
   have F:(i<=3+n)=True:=by simp[f]
   have D:c.p.e.sm 900000:=o.mono X;go_wp2_with (go_at_call 165;((with_reducible refine(k5 b gx c (-1) g D).mono ?_);unfold kY;rintro E J⟨r,rfl,s,Q,z⟩;have y:=O Q));refine Gu (v:=.tuple #[Y 0,Y 0,.bool false]) (results_tmp3 (t:=4) (u:=5) (v:=6) rfl _ _ _) rfl ?_;rw[HM.out];exact⟨r,rfl,s,y.out,j.trans z⟩
  have HM:Hid (hJ x.p n=(c.p,p,3+n,true)):=O (by
   rw[h.out,d.out];unfold x_;rw[T_ (by rw[<-d.out];show ¬c.hO=true;rw[e];decide),T_ (by rw[a.out];exact f),C.out])
  have F:(i<=3+n)=False:=by simp[f]
  go_wp2;refine Gu (v:=.tuple #[Y p,Y (3+n),.bool true]) (results_tmp3 (t:=4) (u:=5) (v:=6) rfl _ _ _) rfl ?_;rw[HM.out];exact⟨c,rfl,g,rfl,j⟩
def qK(b:World){w:World}(gx:Nat)(d:X1)(v:Vl)(k:Int)(G:kA b w gx d)(hs:d.p.e.sm 800000):
 Calls prog 168 #[q_ gx,.agg #[.bool v.r,Y v.n],Y k] w (BU (iz d.p v k) b gx w):=by
 have B:=G.hF ((F_ [] w).alloc (.cells #[.bool v.r,Y v.n] 38));have i:=P_ w 38 #[.bool v.r,Y v.n];have aE:=(XG.refl gx w).hF ((F_ [] w).alloc (.cells #[.bool v.r,Y v.n] 38));have S:d.p.e.sm 900000:=hs.mono I;have Nv:w.heap.size≠gx:=ov G.bk.lt;go_enter func168,ntmps168;go_upto_region 1 with fail;obtain⟨ar,X⟩:=nm_ (w.alloc (.cells #[.bool v.r,Y v.n] 38));rw[<-X]at B i aE |-;clear X;generalize w.heap.size=aw at*
 cases n:v.r with
 |false=>
  have HM:Hid (iz d.p v k=(jk d.p (-2),0,false)):=O (by unfold iz;rw[U_ n]);rw[n]at i;clear n;have s:=i.f_ 0;go_wp2_with (go_at_call 165;((with_reducible refine(k5 b gx d (-2) B S).mono ?_);unfold kY;rintro m W⟨D,rfl,F,Q,T⟩;have Nq:=O Q;clear Q));exact Lc
 |true=>
  have h:=O n;by_cases K:v.n=0
  .have HM:Hid (iz d.p v k=(jk d.p (-1),0,false)):=O (by unfold iz;rw[T_ (by rw[n];decide),U_ K]);have q:(v.n==0)=true:=zu K;rw[n]at i;clear n K h;have s:=i.f_ 0;have y:=i.f_ 1;go_wp2_with (go_at_call 165;((with_reducible refine(k5 b gx d (-1) B S).mono ?_);unfold kY;rintro m W⟨D,rfl,F,Q,T⟩;have Nq:=O Q;clear Q));exact Lc
  have q:(v.n==0)=false:=zu K;have g:Hid (iz d.p v k=(match ke d.p.h v.n with
   |none=>(kU d.p,0,false)
   |some o=>if(o.fs.length:Int)<=k then(jk d.p (-1),0,false) else(d.p,v.n,true))):=O (by unfold iz;rw[T_ (by rw[n];decide),T_ K];rfl)
  have s:ar.cell? (Z aw 0)=some (.bool true):=(i.f_ 0).trans (by rw[n];rfl);have y:=i.f_ 1;go_upto_region 7 with fail;clear s y;cases A:ke (hX d.h.l) v.n with
  |none=>
   have HM:Hid (iz d.p v k=(({d with hO:=true}:X1).p,0,false)):=O (by rw[g.out];have m:ke d.p.h v.n=none:=A;rw[m];rfl);clear g;go_cut [8,9] (λp o E=>∃(z:Nat) (aO:OA) (c4:Nat),p=q_ z/\o=.bool false/\Bk E z 56 #[Y 0,.slice aO 0 c4]/\J [] ar E)
   case first=>
    have e:J [] ar ar.drew:=(F_ [] ar).drew;refine hN (λw'=>w'.cell? (Z gx 36)=some (.slice d.h.A d.h.l.length d.h.c)/\w'.cell? (Z aw 0)=some (.bool v.r)/\w'.cell? (Z aw 1)=some (Y v.n)) 13 k_ ?_;refine mC ⟨((B.bk.hF e).f_ 36).trans rfl,(i.hF e).f_ 0,(i.hF e).f_ 1⟩ λC=>?_;(iterate 6 refine j2 C ?_);refine jj 6 10 rfl rfl k_ (λl Nu=>?_) (λl Nu=>?_)
    .go_simp;(go_at_call 14;((with_reducible refine(get_none d.h.A d.h.c d.h.l v.n _ (B.hF e).ku.os B.hl A).mono ?_);rintro m ae⟨rfl,j⟩));refine h4 Nu ⟨((B.bk.hF (e.trans j)).f_ 36).trans rfl,(i.hF (e.trans j)).f_ 0,(i.hF (e.trans j)).f_ 1⟩ λC=>?_;iterate 3 refine j2 C ?_
     refine hY 10 λl Nu=>?_;go_simp;have V:=P_ ae 56 #[Y 0,n_];have f:J [] ar (ae.alloc (.cells #[Y 0,n_] 56)):=(e.trans j).alloc _;have C:(ae.alloc (.cells #[Y 0,n_] 56)).cell? (Z gx 36)=some (.slice d.h.A d.h.l.length d.h.c)/\(ae.alloc (.cells #[Y 0,n_] 56)).cell? (Z aw 0)=some (.bool v.r)/\(ae.alloc (.cells #[Y 0,n_] 56)).cell? (Z aw 1)=some (Y v.n):=⟨((B.bk.hF f).f_ 36).trans rfl,(i.hF f).f_ 0,(i.hF f).f_ 1⟩;have s:=V.f_ 0;have y:=V.f_ 1;have N:=V.hG 0;have R:=V.hG 1;refine h4 Nu C λC=>?_;refine hY 11 λl Nu=>?_;go_simp;have Nt:=P_ ae 56 #[Y 0,n_];have bq:J [] ar (ae.alloc (.cells #[Y 0,n_] 56)):=(e.trans j).alloc _;refine h4 Nu ⟨((B.bk.hF bq).f_ 36).trans rfl,(i.hF bq).f_ 0,(i.hF bq).f_ 1⟩ λC=>?_;exact LX
    go_simp;have U:Bk ((ar.alloc (.cells #[Y 0,n_] 56)).drew) ar.heap.size 56 #[Y 0,n_]:=(P_ ar 56 #[Y 0,n_]).drew;have f:J [] ar ((ar.alloc (.cells #[Y 0,n_] 56)).drew):=((F_ [] ar).alloc _).drew;refine h4 Nu ⟨((B.bk.hF f).f_ 36).trans rfl,(i.hF f).f_ 0,(i.hF f).f_ 1⟩ λC=>?_;refine hY 6 λl Nu=>?_;go_simp;(go_at_call 14;((with_reducible refine(get_none d.h.A d.h.c d.h.l v.n _ (B.hF f).ku.os B.hl A).mono ?_);rintro m ae⟨rfl,j⟩));have c:=f.trans j;have C:ae.cell? (Z gx 36)=some (.slice d.h.A d.h.l.length d.h.c)/\ae.cell? (Z aw 0)=some (.bool v.r)/\ae.cell? (Z aw 1)=some (Y v.n):=⟨((B.bk.hF c).f_ 36).trans rfl,(i.hF c).f_ 0,(i.hF c).f_ 1⟩;have V:=U.hF j;have s:=V.f_ 0;have y:=V.f_ 1;have N:=V.hG 0;have R:=V.hG 1;refine h4 Nu C λC=>?_;iterate 3 refine j2 C ?_
    refine hY 11 λl Nu=>?_;go_simp;have C_:ar.heap.size<=ar.heap.size:=H_ _;exact Jo
   obtain⟨z,aO,c4,rfl,rfl,V,r⟩:=hcut;replace B:=B.hF r;replace i:=i.hF r;replace aE:=aE.hF r;clear r;have af:wc.cell? (Z gx 81)=some (.bool d.hO):=(B.bk.f_ 81).trans rfl;have M:=B.bk.hG 81;go_wp2;have bW:=B.set (x':={d with hO:=true}) 81 (.bool true) rfl rfl rfl rfl rfl rfl rfl rfl;refine Gu (v:=.tuple #[Y 0,.bool false]) (It (t:=6) (u:=7) rfl _ _ _) rfl ?_;exact MD
  |some a=>
   have x:Hid (iz d.p v k=if(a.fs.length:Int)<=k then(jk d.p (-1),0,false) else(d.p,v.n,true)):=O (by rw[g.out];have m:ke d.p.h v.n=some a:=A;rw[m]);clear g;go_cut [8,9] (λp o E=>∃(z:Nat) (aO:OA) (c4:Nat),p=q_ z/\o=.bool true/\Bk E z 56 #[Y a.id,.slice aO a.fs.length c4]/\J [] ar E)
   case first=>
    have e:J [] ar ar.drew:=(F_ [] ar).drew;refine hN (λw'=>w'.cell? (Z gx 36)=some (.slice d.h.A d.h.l.length d.h.c)/\w'.cell? (Z aw 0)=some (.bool v.r)/\w'.cell? (Z aw 1)=some (Y v.n)) 13 k_ ?_;refine mC ⟨((B.bk.hF e).f_ 36).trans rfl,(i.hF e).f_ 0,(i.hF e).f_ 1⟩ λC=>?_;(iterate 6 refine j2 C ?_);refine jj 6 10 rfl rfl k_ (λl Nu=>?_) (λl Nu=>?_)
    .go_simp;(go_at_call 14;((with_reducible refine(get_some d.h.A d.h.c d.h.l v.n a _ (B.hF e).ku.os (B.hF e).ku.k8 B.hl A).mono ?_);rintro m ae⟨aO,c4,rfl,M,j⟩));refine h4 Nu ⟨((B.bk.hF (e.trans j)).f_ 36).trans rfl,(i.hF (e.trans j)).f_ 0,(i.hF (e.trans j)).f_ 1⟩ λC=>?_;iterate 3 refine j2 C ?_
     refine hY 10 λl Nu=>?_;go_simp;have V:=P_ ae 56 #[Y 0,n_];have f:J [] ar (ae.alloc (.cells #[Y 0,n_] 56)):=(e.trans j).alloc _;have C:(ae.alloc (.cells #[Y 0,n_] 56)).cell? (Z gx 36)=some (.slice d.h.A d.h.l.length d.h.c)/\(ae.alloc (.cells #[Y 0,n_] 56)).cell? (Z aw 0)=some (.bool v.r)/\(ae.alloc (.cells #[Y 0,n_] 56)).cell? (Z aw 1)=some (Y v.n):=⟨((B.bk.hF f).f_ 36).trans rfl,(i.hF f).f_ 0,(i.hF f).f_ 1⟩;have s:=V.f_ 0;have y:=V.f_ 1;have N:=V.hG 0;have R:=V.hG 1;refine h4 Nu C λC=>?_;refine hY 11 λl Nu=>?_;go_simp;have Nt:=P_ ae 56 #[Y a.id,.slice aO a.fs.length c4];have bq:J [] ar (ae.alloc (.cells #[Y a.id,.slice aO a.fs.length c4] 56)):=(e.trans j).alloc _;refine h4 Nu ⟨((B.bk.hF bq).f_ 36).trans rfl,(i.hF bq).f_ 0,(i.hF bq).f_ 1⟩ λC=>?_;exact L0
    go_simp;have U:Bk ((ar.alloc (.cells #[Y 0,n_] 56)).drew) ar.heap.size 56 #[Y 0,n_]:=(P_ ar 56 #[Y 0,n_]).drew;have f:J [] ar ((ar.alloc (.cells #[Y 0,n_] 56)).drew):=((F_ [] ar).alloc _).drew;refine h4 Nu ⟨((B.bk.hF f).f_ 36).trans rfl,(i.hF f).f_ 0,(i.hF f).f_ 1⟩ λC=>?_;refine hY 6 λl Nu=>?_;go_simp;(go_at_call 14;((with_reducible refine(get_some d.h.A d.h.c d.h.l v.n a _ (B.hF f).ku.os (B.hF f).ku.k8 B.hl A).mono ?_);rintro m ae⟨aO,c4,rfl,M,j⟩));have c:=f.trans j;have C:ae.cell? (Z gx 36)=some (.slice d.h.A d.h.l.length d.h.c)/\ae.cell? (Z aw 0)=some (.bool v.r)/\ae.cell? (Z aw 1)=some (Y v.n):=⟨((B.bk.hF c).f_ 36).trans rfl,(i.hF c).f_ 0,(i.hF c).f_ 1⟩;have V:=U.hF j;have s:=V.f_ 0;have y:=V.f_ 1;have N:=V.hG 0;have R:=V.hG 1;refine h4 Nu C λC=>?_;iterate 3 refine j2 C ?_
    refine hY 11 λl Nu=>?_;go_simp;have C_:ar.heap.size<=ar.heap.size:=H_ _;exact Jl
   obtain⟨z,aO,c4,rfl,rfl,V,r⟩:=hcut;replace B:=B.hF r;replace i:=i.hF r;replace aE:=aE.hF r;have aR:=V.f_ 1;by_cases M:(a.fs.length:Int)<=k
   .have HM:Hid (iz d.p v k=(jk d.p (-1),0,false)):=O (by rw[x.out,U_ M]);have bP:((a.fs.length:Int)<=k)=True:=by simp[M]
    go_wp2_with (go_at_call 165;((with_reducible refine(k5 b gx d (-1) B S).mono ?_);unfold kY;rintro m W⟨D,rfl,F,Q,T⟩;have Nq:=O Q));exact Lc
   have HM:Hid (iz d.p v k=(d.p,v.n,true)):=O (by rw[x.out,T_ M]);have bP:((a.fs.length:Int)<=k)=False:=by simp[M]
   have y:=i.f_ 1;go_wp2;refine Gu (v:=.tuple #[Y v.n,.bool true]) (It (t:=6) (u:=7) rfl _ _ _) rfl ?_;rw[HM.out];exact⟨d,rfl,B,rfl,aE⟩
