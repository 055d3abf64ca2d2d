import Derived.Test.YtenbhdilndfaeaaGreatM04
set_option maxRecDepth 100000
set_option maxHeartbeats 0
set_option linter.all false
namespace Go.Proofs.YtenbhdilndfaeaaGreat
open Go.RowKit Go.Proofs.Tryz
variable{G:Prop}{g k:Nat}{ty:TypeId}{cs cur:Array Value}{α:Type}
theorem Hk(h:G:=by
 have a7:k=n:=by omega
 have aU:=s.f_ 0;have bH:=az.hm 0;have bn:=az.f_ 0;go_wp2;have hE:=az.hJ 0 (.slice A' rs.length c');refine rr_ #[.slice A' rs.length c'] hE underlying35 ⟨A',c',rs,rfl,?_,?_,?_⟩
 .exact z.ig az d_ d_ ((D_ _ _).setCell (.inl s_) _)
 .rw[q.out,a7,<-C.out,Fc]
 .exact F.setCell (.inr s_) _):G:=h
theorem HB(h:G:=by
 have bM:(l[k].id==id)=true:=by simpa using t0
 have bp:(l[k].f==f)=false:=by simpa using t1
 clear t0 t1;exact IB):G:=h
theorem HV(h:G:=by
 have bM:(l[k].id==id)=false:=by simpa using t0
 exact Iv):G:=h
theorem H4(h:G:=by
 have bM:(l[k].id==id)=true:=by simpa using t0
 have bp:(l[k].f==f)=true:=by simpa using t1
 clear t0 t1;exact JX):G:=h
theorem Iv(h:G:=by
 clear t0;exact IB):G:=h
theorem IB(h:G:=by
 go_wp2;go_roundw
 case rel=>exact⟨k+1,by omega,by go_num,by rw[aR.out,ko _ _ _ _ o_ aT.out],F.alloc _⟩
 case measure=>simp[intOf];omega):G:=h
theorem IM(h:G:=by
 go_roundw
 case rel=>exact⟨k+1,A',c',rs,by omega,by go_num,s,az,z,by rw[bG.out,bl.out],F⟩
 case measure=>simp[intOf];omega):G:=h
theorem JX(h:G:=by
 go_wp2;go_ret;exact⟨j0 (by rw[aR.out,lG _ _ _ _ o_ aT.out]),F.alloc _⟩):G:=h
structure Cl where
 id:Int
 f:Int
 v:Vl
 deriving DecidableEq,Inhabited
def Cl.E(c:Cl):List Value:=[i_ c.id,i_ c.f,.bool c.v.r,i_ c.v.n]
structure Dl where
 id:Int
 f:Int
 op:Int
 v:Vl
 deriving DecidableEq,Inhabited
def Dl.E(c:Dl):List Value:=[i_ c.id,i_ c.f,i_ c.op,.bool c.v.r,i_ c.v.n]
structure Ac where
 ask:Bool
 v:Int
 lr:Int
 deriving DecidableEq,Inhabited
def Ac.E(c:Ac):List Value:=[.bool c.ask,i_ c.v,i_ c.lr]
structure Fo where
 fr:Int
 dst:Int
 n:Int
 deriving DecidableEq,Inhabited
def Fo.E(c:Fo):List Value:=[i_ c.fr,i_ c.dst,i_ c.n]
theorem s7(c:Cl):(Cl.E c).length=4:=rfl
theorem p8(c:Dl):(Dl.E c).length=5:=rfl
theorem Cg(c:Ac):(Ac.E c).length=3:=rfl
theorem oJ(c:Fo):(Fo.E c).length=3:=rfl
theorem wq(c:Rw):(Rw.E c).length=2:=rfl
theorem pq(l:List Cl):∀u∈l.flatMap Cl.E,u.oneCell'=true:=qp _ (λa u hu=>by simp[Cl.E]at hu;rcases hu with rfl|rfl|rfl|rfl<;>rfl) l
theorem s2(l:List Dl):∀u∈l.flatMap Dl.E,u.oneCell'=true:=qp _ (λa u hu=>by simp[Dl.E]at hu;rcases hu with rfl|rfl|rfl|rfl|rfl<;>rfl) l
theorem te(l:List Ac):∀u∈l.flatMap Ac.E,u.oneCell'=true:=qp _ (λa u hu=>by simp[Ac.E]at hu;rcases hu with rfl|rfl|rfl<;>rfl) l
theorem uw(l:List Fo):∀u∈l.flatMap Fo.E,u.oneCell'=true:=qp _ (λa u hu=>by simp[Fo.E]at hu;rcases hu with rfl|rfl|rfl<;>rfl) l
theorem infoCl:(prog.info? 116).map (λi=>(i.zero,i.size,i.bytes))=some (some (.agg #[i_ 0,i_ 0,.bool false,i_ 0]),4,32):=by kernel_rfl
theorem infoDl:(prog.info? 124).map (λi=>(i.zero,i.size,i.bytes))=some (some (.agg #[i_ 0,i_ 0,i_ 0,.bool false,i_ 0]),5,40):=by kernel_rfl
theorem infoAc:(prog.info? 162).map (λi=>(i.zero,i.size,i.bytes))=some (some (.agg #[.bool false,i_ 0,i_ 0]),3,24):=by kernel_rfl
theorem infoFo:(prog.info? 168).map (λi=>(i.zero,i.size,i.bytes))=some (some (.agg #[i_ 0,i_ 0,i_ 0]),3,24):=by kernel_rfl
def Cs(w:World)(A:Option Addr)(l:List Cl):Prop:=Sl w 116 4 A l.length (l.flatMap Cl.E)
def Ds(w:World)(A:Option Addr)(l:List Dl):Prop:=Sl w 124 5 A l.length (l.flatMap Dl.E)
def As(w:World)(A:Option Addr)(l:List Ac):Prop:=Sl w 162 3 A l.length (l.flatMap Ac.E)
def Fs(w:World)(A:Option Addr)(l:List Fo):Prop:=Sl w 168 3 A l.length (l.flatMap Fo.E)
section
variable{w w':World}{A:Option Addr}
theorem Cs.g_{l:List Cl}(h:Cs w A l)(hg:Gr [] w w'):Cs w' A l:=Sl.g_ h hg
theorem Ds.g_{l:List Dl}(h:Ds w A l)(hg:Gr [] w w'):Ds w' A l:=Sl.g_ h hg
theorem As.g_{l:List Ac}(h:As w A l)(hg:Gr [] w w'):As w' A l:=Sl.g_ h hg
theorem Fs.g_{l:List Fo}(h:Fs w A l)(hg:Gr [] w w'):Fs w' A l:=Sl.g_ h hg
theorem Cs.at_{l:List Cl}(h:Cs w A l)(hk:k<l.length):∃b off,A=some (c_ b off)/\w.cell? (c_ b (off+k*4))=some (i_ l[k].id)/\w.cell? (c_ b (off+k*4+1))=some (i_ l[k].f)/\w.cell? (c_ b (off+k*4+2))=some (.bool l[k].v.r)/\w.cell? (c_ b (off+k*4+3))=some (i_ l[k].v.n):=by
 obtain⟨b,off,U,hc⟩:=Sl.row s7 h hk;exact⟨b,off,U,hc 0 _ rfl,hc 1 _ rfl,hc 2 _ rfl,hc 3 _ rfl⟩
theorem Ds.at_{l:List Dl}(h:Ds w A l)(hk:k<l.length):∃b off,A=some (c_ b off)/\w.cell? (c_ b (off+k*5))=some (i_ l[k].id)/\w.cell? (c_ b (off+k*5+1))=some (i_ l[k].f)/\w.cell? (c_ b (off+k*5+2))=some (i_ l[k].op)/\w.cell? (c_ b (off+k*5+3))=some (.bool l[k].v.r)/\w.cell? (c_ b (off+k*5+4))=some (i_ l[k].v.n):=by
 obtain⟨b,off,U,hc⟩:=Sl.row p8 h hk;exact⟨b,off,U,hc 0 _ rfl,hc 1 _ rfl,hc 2 _ rfl,hc 3 _ rfl,hc 4 _ rfl⟩
theorem As.at_{l:List Ac}(h:As w A l)(hk:k<l.length):∃b off,A=some (c_ b off)/\w.cell? (c_ b (off+k*3))=some (.bool l[k].ask)/\w.cell? (c_ b (off+k*3+1))=some (i_ l[k].v)/\w.cell? (c_ b (off+k*3+2))=some (i_ l[k].lr):=by
 obtain⟨b,off,U,hc⟩:=Sl.row Cg h hk;exact⟨b,off,U,hc 0 _ rfl,hc 1 _ rfl,hc 2 _ rfl⟩
theorem Fs.at_{l:List Fo}(h:Fs w A l)(hk:k<l.length):∃b off,A=some (c_ b off)/\w.cell? (c_ b (off+k*3))=some (i_ l[k].fr)/\w.cell? (c_ b (off+k*3+1))=some (i_ l[k].dst)/\w.cell? (c_ b (off+k*3+2))=some (i_ l[k].n):=by
 obtain⟨b,off,U,hc⟩:=Sl.row oJ h hk;exact⟨b,off,U,hc 0 _ rfl,hc 1 _ rfl,hc 2 _ rfl⟩
end
structure Sv(α:Type) where
 A:Option Addr
 c:Nat
 l:List α
def Sv.ok{α:Type}(s:Sv α):Prop:=s.l.length<=s.c
structure Tk where
 hG:Int
 run:Int
 ia:Bool
 pc:Int
 r:Nat->Vl
 gs:Sv Cl
 rs:Sv Cl
 ws:Sv Cl
 nw:Sv Rw
 ds:Sv Dl
 hU:Sv Ac
 hV:Int
 next:Int
 hO:Bool
 v:Vl
 hw:Int
def Tk.g8(t:Tk):Array Value:=#[i_ t.hG,i_ t.run,.bool t.ia,i_ t.pc,.bool (t.r 0).r,i_ (t.r 0).n,.bool (t.r 1).r,i_ (t.r 1).n,.bool (t.r 2).r,i_ (t.r 2).n,.bool (t.r 3).r,i_ (t.r 3).n,.bool (t.r 4).r,i_ (t.r 4).n,.bool (t.r 5).r,i_ (t.r 5).n,.bool (t.r 6).r,i_ (t.r 6).n,.bool (t.r 7).r,i_ (t.r 7).n,.bool (t.r 8).r,i_ (t.r 8).n,.bool (t.r 9).r,i_ (t.r 9).n,.bool (t.r 10).r,i_ (t.r 10).n,.bool (t.r 11).r,i_ (t.r 11).n,.bool (t.r 12).r,i_ (t.r 12).n,.bool (t.r 13).r,i_ (t.r 13).n,.bool (t.r 14).r,i_ (t.r 14).n,.bool (t.r 15).r,i_ (t.r 15).n,.slice t.gs.A t.gs.l.length t.gs.c,.slice t.rs.A t.rs.l.length t.rs.c,.slice t.ws.A t.ws.l.length t.ws.c,.slice t.nw.A t.nw.l.length t.nw.c,.slice t.ds.A t.ds.l.length t.ds.c,.slice t.hU.A t.hU.l.length t.hU.c,i_ t.hV,i_ t.next,.bool t.hO,.bool t.v.r,i_ t.v.n,i_ t.hw]
structure kY(w:World)(t:Tk):Prop where
 gs:Cs w t.gs.A t.gs.l
 rs:Cs w t.rs.A t.rs.l
 ws:Cs w t.ws.A t.ws.l
 nw:Os w t.nw.A t.nw.l
 nr:mW w t.nw.l
 ds:Ds w t.ds.A t.ds.l
 hU:As w t.hU.A t.hU.l
 xq:t.gs.ok
 la:t.rs.ok
 uQ:t.ws.ok
 sO:t.nw.ok
 rL:t.ds.ok
 px:t.hU.ok
theorem kY.g_{w w':World}{t:Tk}(h:kY w t)(hg:Gr [] w w'):kY w' t:=
 ⟨h.gs.g_ hg,h.rs.g_ hg,h.ws.g_ hg,h.nw.g_ hg,h.nr.g_ hg,h.ds.g_ hg,h.hU.g_ hg,h.xq,h.la,h.uQ,h.sO,h.rL,h.px⟩
theorem kY.ig{w w':World}{t:Tk}(h:kY w t)(hk:Bk w g ty cs)(av:116≠ty/\56≠ty/\38≠ty/\124≠ty/\162≠ty)(hg:Gr [g] w w'):kY w' t:=
 ⟨Sl.ig h.gs hk av.1 hg,Sl.ig h.rs hk av.1 hg,Sl.ig h.ws hk av.1 hg,Sl.ig h.nw hk av.2.1 hg,h.nr.ig hk av.2.2.1 hg,Sl.ig h.ds hk av.2.2.2.1 hg,Sl.ig h.hU hk av.2.2.2.2 hg,h.xq,h.la,h.uQ,h.sO,h.rL,h.px⟩
structure jg where
 hG:Int
 run:Int
 ia:Bool
 pc:Int
 r:Nat->Vl
 gs:List Cl
 rs:List Cl
 ws:List Cl
 nw:List Ob
 ds:List Dl
 hU:List Ac
 hV:Int
 next:Int
 hO:Bool
 v:Vl
 hw:Int
def Tk.p(t:Tk):jg:=⟨t.hG,t.run,t.ia,t.pc,t.r,t.gs.l,t.rs.l,t.ws.l,hN t.nw.l,t.ds.l,t.hU.l,t.hV,t.next,t.hO,t.v,t.hw⟩
structure jg.sm(n:Nat)(t:jg):Prop where
 gs:t.gs.length<=n
 rs:t.rs.length<=n
 ws:t.ws.length<=n
 nw:t.nw.length<=n
 ds:t.ds.length<=n
 hU:t.hU.length<=n
def BL:Nat->Vl:=λ_=>default
def Sv.nil{α:Type}:Sv α:=⟨none,0,[]⟩
def Tk.zero:Tk:=⟨0,0,false,0,BL,.nil,.nil,.nil,.nil,.nil,.nil,0,0,false,default,0⟩
theorem Tk.size(t:Tk):t.g8.size=48:=rfl
theorem Tk.one(t:Tk):t.g8.all (·.oneCell')=true:=by unfold Tk.g8;simp[Value.oneCell']
theorem kY.nil(w:World)(t:Tk)(h1:t.gs=.nil)(h2:t.rs=.nil)(h3:t.ws=.nil)(aw:t.nw=.nil)(ax:t.ds=.nil)(aY:t.hU=.nil):kY w t:=by
 obtain⟨a1,f,a3,a4,a5,a,o,b,a9,c,d,e,g,i,j,l⟩:=t;simp only at h1 h2 h3 aw ax aY;subst h1;subst h2;subst h3;subst aw;subst ax;subst aY;exact⟨EM _ _ _ _,EM _ _ _ _,EM _ _ _ _,EM _ _ _ _,λr hr=>by simp[Sv.nil]at hr,EM _ _ _ _,EM _ _ _ _,G_ _,G_ _,G_ _,G_ _,G_ _,G_ _⟩
structure Ef where
 hT:Int
 pc:Int
 r:Nat->Vl
 rs:Sv Cl
 ws:Sv Cl
 nw:Sv Rw
 ds:Sv Dl
 hU:Sv Ac
 kl:Int
 hO:Bool
 v:Vl
def Ef.g8(x:Ef):Array Value:=#[i_ x.hT,i_ x.pc,.bool (x.r 0).r,i_ (x.r 0).n,.bool (x.r 1).r,i_ (x.r 1).n,.bool (x.r 2).r,i_ (x.r 2).n,.bool (x.r 3).r,i_ (x.r 3).n,.bool (x.r 4).r,i_ (x.r 4).n,.bool (x.r 5).r,i_ (x.r 5).n,.bool (x.r 6).r,i_ (x.r 6).n,.bool (x.r 7).r,i_ (x.r 7).n,.bool (x.r 8).r,i_ (x.r 8).n,.bool (x.r 9).r,i_ (x.r 9).n,.bool (x.r 10).r,i_ (x.r 10).n,.bool (x.r 11).r,i_ (x.r 11).n,.bool (x.r 12).r,i_ (x.r 12).n,.bool (x.r 13).r,i_ (x.r 13).n,.bool (x.r 14).r,i_ (x.r 14).n,.bool (x.r 15).r,i_ (x.r 15).n,.slice x.rs.A x.rs.l.length x.rs.c,.slice x.ws.A x.ws.l.length x.ws.c,.slice x.nw.A x.nw.l.length x.nw.c,.slice x.ds.A x.ds.l.length x.ds.c,.slice x.hU.A x.hU.l.length x.hU.c,i_ x.kl,.bool x.hO,.bool x.v.r,i_ x.v.n]
structure sd(w:World)(x:Ef):Prop where
 rs:Cs w x.rs.A x.rs.l
 ws:Cs w x.ws.A x.ws.l
 nw:Os w x.nw.A x.nw.l
 nr:mW w x.nw.l
 ds:Ds w x.ds.A x.ds.l
 hU:As w x.hU.A x.hU.l
 la:x.rs.ok
 uQ:x.ws.ok
 sO:x.nw.ok
 rL:x.ds.ok
 px:x.hU.ok
theorem sd.g_{w w':World}{t:Ef}(h:sd w t)(hg:Gr [] w w'):sd w' t:=
 ⟨h.rs.g_ hg,h.ws.g_ hg,h.nw.g_ hg,h.nr.g_ hg,h.ds.g_ hg,h.hU.g_ hg,h.la,h.uQ,h.sO,h.rL,h.px⟩
theorem Ef.size(t:Ef):t.g8.size=43:=rfl
theorem Ef.one(t:Ef):t.g8.all (·.oneCell')=true:=by unfold Ef.g8;simp[Value.oneCell']
theorem sd.ig{w w':World}{t:Ef}(h:sd w t)(hk:Bk w g ty cs)(av:116≠ty/\56≠ty/\38≠ty/\124≠ty/\162≠ty)(hg:Gr [g] w w'):sd w' t:=
 ⟨Sl.ig h.rs hk av.1 hg,Sl.ig h.ws hk av.1 hg,Sl.ig h.nw hk av.2.1 hg,h.nr.ig hk av.2.2.1 hg,Sl.ig h.ds hk av.2.2.2.1 hg,Sl.ig h.hU hk av.2.2.2.2 hg,h.la,h.uQ,h.sO,h.rL,h.px⟩
structure pQ where
 hT:Int
 pc:Int
 r:Nat->Vl
 rs:List Cl
 ws:List Cl
 nw:List Ob
 ds:List Dl
 hU:List Ac
 kl:Int
 hO:Bool
 v:Vl
def Ef.p(t:Ef):pQ:=⟨t.hT,t.pc,t.r,t.rs.l,t.ws.l,hN t.nw.l,t.ds.l,t.hU.l,t.kl,t.hO,t.v⟩
def iz(pc:Int)(r:Nat->Vl):Array Value:=#[i_ pc,.bool (r 0).r,i_ (r 0).n,.bool (r 1).r,i_ (r 1).n,.bool (r 2).r,i_ (r 2).n,.bool (r 3).r,i_ (r 3).n,.bool (r 4).r,i_ (r 4).n,.bool (r 5).r,i_ (r 5).n,.bool (r 6).r,i_ (r 6).n,.bool (r 7).r,i_ (r 7).n,.bool (r 8).r,i_ (r 8).n,.bool (r 9).r,i_ (r 9).n,.bool (r 10).r,i_ (r 10).n,.bool (r 11).r,i_ (r 11).n,.bool (r 12).r,i_ (r 12).n,.bool (r 13).r,i_ (r 13).n,.bool (r 14).r,i_ (r 14).n,.bool (r 15).r,i_ (r 15).n]
structure X1 where
 jd:Sv In
 hq:Int
 g9:Int
 jN:Int
 sr:Nat->Vl
 h:Sv Rw
 nx:Int
 e:Ef
 hF:Bool
def X1.g8(x:X1):Array Value:=#[.slice x.jd.A x.jd.l.length x.jd.c,i_ x.hq,i_ x.g9,i_ x.jN,.bool (x.sr 0).r,i_ (x.sr 0).n,.bool (x.sr 1).r,i_ (x.sr 1).n,.bool (x.sr 2).r,i_ (x.sr 2).n,.bool (x.sr 3).r,i_ (x.sr 3).n,.bool (x.sr 4).r,i_ (x.sr 4).n,.bool (x.sr 5).r,i_ (x.sr 5).n,.bool (x.sr 6).r,i_ (x.sr 6).n,.bool (x.sr 7).r,i_ (x.sr 7).n,.bool (x.sr 8).r,i_ (x.sr 8).n,.bool (x.sr 9).r,i_ (x.sr 9).n,.bool (x.sr 10).r,i_ (x.sr 10).n,.bool (x.sr 11).r,i_ (x.sr 11).n,.bool (x.sr 12).r,i_ (x.sr 12).n,.bool (x.sr 13).r,i_ (x.sr 13).n,.bool (x.sr 14).r,i_ (x.sr 14).n,.bool (x.sr 15).r,i_ (x.sr 15).n,.slice x.h.A x.h.l.length x.h.c,i_ x.nx,i_ x.e.hT,i_ x.e.pc,.bool (x.e.r 0).r,i_ (x.e.r 0).n,.bool (x.e.r 1).r,i_ (x.e.r 1).n,.bool (x.e.r 2).r,i_ (x.e.r 2).n,.bool (x.e.r 3).r,i_ (x.e.r 3).n,.bool (x.e.r 4).r,i_ (x.e.r 4).n,.bool (x.e.r 5).r,i_ (x.e.r 5).n,.bool (x.e.r 6).r,i_ (x.e.r 6).n,.bool (x.e.r 7).r,i_ (x.e.r 7).n,.bool (x.e.r 8).r,i_ (x.e.r 8).n,.bool (x.e.r 9).r,i_ (x.e.r 9).n,.bool (x.e.r 10).r,i_ (x.e.r 10).n,.bool (x.e.r 11).r,i_ (x.e.r 11).n,.bool (x.e.r 12).r,i_ (x.e.r 12).n,.bool (x.e.r 13).r,i_ (x.e.r 13).n,.bool (x.e.r 14).r,i_ (x.e.r 14).n,.bool (x.e.r 15).r,i_ (x.e.r 15).n,.slice x.e.rs.A x.e.rs.l.length x.e.rs.c,.slice x.e.ws.A x.e.ws.l.length x.e.ws.c,.slice x.e.nw.A x.e.nw.l.length x.e.nw.c,.slice x.e.ds.A x.e.ds.l.length x.e.ds.c,.slice x.e.hU.A x.e.hU.l.length x.e.hU.c,i_ x.e.kl,.bool x.e.hO,.bool x.e.v.r,i_ x.e.v.n,.bool x.hF]
structure Sh where
 a:Bool
 b:Bool
 c:Bool
 n:Int
 deriving DecidableEq,Inhabited
def Sh.E(s:Sh):List Value:=[.bool s.a,.bool s.b,.bool s.c,i_ s.n]
def iZ:List Sh:=[⟨false,false,false,0⟩,⟨true,false,false,1⟩,⟨true,false,false,0⟩,⟨true,true,false,0⟩,⟨true,true,true,2⟩,⟨true,true,false,3⟩,⟨true,true,false,3⟩,⟨true,false,false,4⟩,⟨true,false,false,5⟩,⟨true,false,false,5⟩,⟨true,false,false,5⟩,⟨false,false,false,6⟩,⟨true,false,false,6⟩,⟨false,false,false,7⟩,⟨true,false,false,0⟩,⟨true,false,false,0⟩,⟨true,false,false,0⟩,⟨false,false,false,8⟩,⟨true,false,false,0⟩,⟨true,false,false,0⟩,⟨false,false,false,5⟩,⟨false,false,false,9⟩]
def qn:List Value:=iZ.flatMap Sh.E
theorem AN:∀k,k<22->0<=(iZ.getD k default).n/\(iZ.getD k default).n<=9:=by decide
theorem wl(w:World):Calls prog 146 #[] w λe w'=>∃g:Nat,e=.returned (.slice (j_ g) 22 22)/\Sl w' 274 4 (j_ g) 22 qn/\Gr [] w w':=by
 go_enter func146,ntmps146
 go_wp2;go_ret;exact⟨w.heap.size,rfl,Sl.new w 274 4 _ 22 _ rfl rfl,(D_ _ _).alloc _⟩
def jH(l:List In)(i:Nat)(x:In)(s:Sh):Bool:=
 if x.op<0∨21<x.op then false
 else if(!lV x.a s.a||(x.op !=13&&x.op !=10&& !lV x.b s.b)||(x.op !=13&& !lV x.c s.c)) then false
 else if(x.op==13&&(decide (x.b<0)||decide (4<x.b)||decide (x.c<x.b)||decide (64<x.c)||ij l ((i:Int)+1) !=21))||(x.op==10&& !ri x.b) then false
 else if s.n=0 then x.n==0
 else if s.n=2 then ph x.n&&decide (0<=x.n)&&decide (x.n<100)
 else if s.n=3 then decide (0<=x.n)&&decide (x.n<16)
 else if s.n=4 then decide (0<=x.n)&&decide (x.n<=16)
 else if s.n=5 then decide (0<=x.n)&&decide (x.n<64)&&(x.op !=20||ij l ((i:Int)-1)==21)
 else if s.n=6 then decide (0<=ij l x.n)&&ij l x.n !=20&&(decide ((i:Int)<x.n)||ij l x.n==21)
 else if s.n=7 then ij l x.n==21
 else if s.n=8 then x.n==0||ij l x.n==21
 else true
def kU(l:List In)(i:Nat):Bool:=jH l i (l.getD i default) (iZ.getD (l.getD i default).op.toNat default)
def lX{α:Type}(p:α->Bool):List α->Nat
 |[]=>0
 |x::l=>if p x then lX p l+1 else 0
theorem pi(p:α->Bool)(l:List α):lX p l<=l.length:=by
 induction l with
 |nil=>simp[lX]
 |cons x l ad=>simp only[lX,D3];split<;>omega
theorem oh{p:α->Bool}{l:List α}(hk:k<l.length)(hp:p l[k]=true):lX p (l.drop k)=lX p (l.drop (k+1))+1:=by
 rw[X_ hk];simp[lX,hp]
theorem nk{p:α->Bool}{l:List α}(hk:k<l.length)(hp:p l[k]=false):lX p (l.drop k)=0:=by
 rw[X_ hk];simp[lX,hp]
theorem ra{p:α->Bool}{l:List α}(hk:l.length<=k):lX p (l.drop k)=0:=by
 rw[El hk]
 rfl
def cat(l:List Cl)(id f:Int):Int:=iO (λc:Cl=>c.id==id&&c.f==f) l 0
def om(id f:Int)(c:Cl):Bool:=decide (c.id<id)||(c.id==id&&decide (c.f<f))
def s6(l:List Cl)(id f:Int):Nat:=lX (om id f) l
def kk(l:List Cl)(c:Cl):List Cl:=
 if 0<=cat l c.id c.f then l.set (cat l c.id c.f).toNat c else l.take (s6 l c.id c.f)++([c]++l.drop (s6 l c.id c.f))
def oT(l:List Dl)(id f:Int):Int:=iO (λc:Dl=>c.id==id&&c.f==f) l 0
def nO(id f:Int)(c:Dl):Bool:=decide (c.id<id)||(c.id==id&&decide (c.f<f))
def rc(l:List Dl)(id f:Int):Nat:=lX (nO id f) l
def rb(h:List Ob)(c:Cl):List Ob:=match ji h c.id c.f with
 |none=>h
 |some _=>kT h c.id c.f c.v
def i4(h:List Ob)(l:List Cl):List Ob:=l.foldl rb h
def p6(h:List Ob)(d:Dl):List Ob:=match ji h d.id d.f with
 |none=>h
 |some v=>if(iy d.op v d.v).2=0 then kT h d.id d.f (iy d.op v d.v).1 else h
def kd(h:List Ob)(l:List Dl):List Ob:=l.foldl p6 h
def ks(rs:List Cl)(h:List Ob)(g:Cl):List Ob:=if cat rs g.id g.f<0 then i4 h [g] else h
def before(t:jg)(view:List Ob):List Ob:=i4 (t.gs.foldl (ks t.rs) view) t.rs
def jk(t:jg)(view:List Ob):List Ob:=kd (i4 (t.nw.foldl lY (before t view)) t.ws) t.ds
def mL(h:List Ob)(t:jg):List Ob:=kd (i4 (t.nw.foldl lY h) t.ws) t.ds
def ve(o:Ob)(f:Int)(v:Vl):Ob:=⟨o.id,if 0<=f/\f<(o.fs.length:Int) then o.fs.set f.toNat v else o.fs⟩
def ki(t:jg)(c:Cl):jg:=
 if js t.nw c.id<0 then{t with ws:=kk t.ws c} else{t with nw:=t.nw.modify (js t.nw c.id).toNat (λo=>ve o c.f c.v)}
def jV(t:jg)(view:List Ob)(id f:Int):Option jg:=
 if oT t.ds id f<0 then some t else
 match ji (before t view) id f with
 |none=>none
 |some b=>if b.r=true then none else
  some (ki {t with rs:=kk t.rs ⟨id,f,b⟩,ds:=t.ds.eraseIdx (oT t.ds id f).toNat} ⟨id,f,(ji (jk t view) id f).getD default⟩)
def take(t:jg)(d:Dl):Option jg:=
 if t.ia=true∨0<=js t.nw d.id∨0<=cat t.ws d.id d.f∨0<=cat t.rs d.id d.f then none
 else if oT t.ds d.id d.f<0 then some {t with ds:=t.ds.take (rc t.ds d.id d.f)++([d]++t.ds.drop (rc t.ds d.id d.f))}
 else if(t.ds.getD (oT t.ds d.id d.f).toNat default).op≠d.op then none
 else some {t with ds:=t.ds.modify (oT t.ds d.id d.f).toNat (λx=>{x with v:=(iy d.op x.v d.v).1})}
def jv(l:List Cl)(d:Dl):List Cl:=l.filter λc=>c.id !=d.id||c.f !=d.f
def jK:jg->List Cl->List Cl->List Dl->jg × List Cl × List Cl
 |t,rs,ws,[]=>(t,rs,ws)
 |t,rs,ws,d::l=>match take t d with
  |none=>jK t rs ws l
  |some t'=>jK t' (jv rs d) (jv ws d) l
def q5(view:List Ob)(t:jg)(c:Cl):Option jg:=
 if 0<=js t.nw c.id∨0<=cat t.ws c.id c.f∨0<=cat t.rs c.id c.f then some t
 else if 0<=oT t.ds c.id c.f then jV t view c.id c.f
 else some {t with rs:=kk t.rs c}
def kg(view:List Ob):jg->List Cl->Option jg
 |t,[]=>some t
 |t,c::l=>match q5 view t c with
  |none=>none
  |some t'=>kg view t' l
def tw(view:List Ob)(t:jg)(c:Cl):Option jg:=(jV t view c.id c.f).map (ki · c)
def kP(view:List Ob):jg->List Cl->Option jg
 |t,[]=>some t
 |t,c::l=>match tw view t c with
  |none=>none
  |some t'=>kP view t' l
def record(t:jg)(view:List Ob)(e:pQ):Option jg:=
 let a:=jK t e.rs e.ws e.ds
 match kg view a.1 a.2.1 with
 |none=>none
 |some t1=>match kP view {t1 with nw:=t1.nw++e.nw} a.2.2 with
  |none=>none
  |some ak=>some {ak with hU:=ak.hU++e.hU}
def jb:Nat->Vl:=λ_=>default
def pV(r:Nat->Vl)(a:Int)(v:Vl):Nat->Vl:=λj=>if j=a.toNat then v else r j
structure XP where
 jd:List In
 hq:Int
 g9:Int
 jN:Int
 sr:Nat->Vl
 h:List Ob
 nx:Int
 e:pQ
 hF:Bool
def X1.p(x:X1):XP:=⟨x.jd.l,x.hq,x.g9,x.jN,x.sr,hN x.h.l,x.nx,x.e.p,x.hF⟩
def iX(l:List In)(n:Int):Bool:=decide (0<=n)&&(decide (n<(l.length:Int))&&(l.getD n.toNat default).op==21)
def hM(x:XP)(id f:Int):XP × Vl:=match ji x.h id f with
 |none=>({x with hF:=true},default)
 |some v=>if 0<=cat x.e.rs id f then(x,v) else({x with e:={x.e with rs:=x.e.rs++[⟨id,f,v⟩]}},v)
def hY(x:XP)(id f:Int)(v:Vl):XP:={x with e:={x.e with ws:=x.e.ws++[⟨id,f,v⟩]}}
def iA(x:XP):XP:={x with hF:=x.hF||(match jn x.h 1 with|none=>true|some o=>decide ((o.fs.length:Int)<3))}
def iv(h:List Ob)(id:Int):Int:=match jn h id with
 |none=>0
 |some o=>o.fs.length
def hK(x:XP):XP × Int × Int:=
 let x:=iA x
 if x.hF=true then(x,0,0) else
 let y:=hM x 1 0
 ({y.1 with hF:=y.1.hF||(!y.2.r||(match jn y.1.h y.2.n with|none=>true|some o=>decide ((o.fs.length:Int)<3)))},y.2.n,iv y.1.h y.2.n)
def kA(x:XP):XP:={x with hF:=true}
def jc(x:XP)(v:Vl):XP:=
 let a:=hK x
 if a.1.hF=true then a.1 else
 let b:=hM a.1 a.2.1 2
 if b.2.r=true∨(b.2.n≠0/\iX b.1.jd b.2.n=false) then kA b.1 else
 if b.2.n≠0 then
  let y:=hY (hY b.1 a.2.1 2 default) 1 2 v
  {y with e:={y.e with pc:=b.2.n,r:=jb}}
 else
  let p:=hM b.1 a.2.1 0
  if p.2.r=false then kA p.1 else
  if p.2.n=0 then{p.1 with e:={p.1.e with hT:=2,hO:=true,v:=v,pc:=p.1.jN,r:=p.1.sr}}
  else
   let y:=hY (hY p.1 1 0 p.2) 1 2 v
   {y with e:={y.e with hT:=1,kl:=y.g9,pc:= -1,r:=jb}}
def i9(x:XP)(n:Int):XP:=jc x ⟨false,n⟩
def ik(x:XP)(v:Vl)(f:Int):XP × Int × Bool:=
 if v.r=false then(i9 x (-2),0,false) else
 if v.n=0 then(i9 x (-1),0,false) else
 match jn x.h v.n with
 |none=>(kA x,0,false)
 |some o=>if(o.fs.length:Int)<=f then(i9 x (-1),0,false) else(x,v.n,true)
def ht(x:XP)(n:Int):XP × Int × Int × Bool:=
 let a:=hK x
 if a.1.hF=true then(a.1,0,0,false) else
 if a.2.2<=3+n then(i9 a.1 (-1),0,0,false) else(a.1,a.2.1,3+n,true)
def kL(x:XP)(a:Int)(v:Vl):XP:={x with e:={x.e with r:=pV x.e.r a v}}
def ti(x:XP)(pc:Int):XP:={x with e:={x.e with pc:=pc}}
def jS(x:XP)(i:In):Option XP:=
 let r:=x.e.r
 if i.op=0 then some x
 else if i.op=1 then some (kL x i.a ⟨false,i.n⟩)
 else if i.op=2 then some (kL x i.a ⟨true,0⟩)
 else if i.op=3 then some (kL x i.a (r i.b.toNat))
 else if i.op=4 then
  let y:=iy i.n (r i.b.toNat) (r i.c.toNat)
  some (if y.2≠0 then i9 x y.2 else kL x i.a y.1)
 else if i.op=11 then some (ti x i.n)
 else if i.op=12 then some (if(r i.a.toNat).n≠0 then x else ti x i.n)
 else if i.op=21 then some {x with e:={x.e with r:=jb,hT:=1,kl:=i.n}}
 else if i.op=16 then some (jc x (r i.a.toNat))
 else if i.op=19 then some (if(r i.a.toNat).r=true then i9 x (-2) else{x with e:={x.e with hU:=[⟨false,(r i.a.toNat).n,0⟩]}})
 else none
def kN(x:XP)(i:In):Option XP:=
 if i.op≠8/\i.op≠9/\i.op≠10/\i.op≠20 then none else
 let a:=x.sr i.a.toNat
 let y:=ht x i.n
 if y.2.2.2=false then some y.1 else
 let f:=y.2.1
 let k:=y.2.2.1
 if i.op=9 then some (hY y.1 f k a) else
 let z:=hM y.1 f k
 if i.op=8 then some (kL z.1 i.a z.2)
 else if i.op=10 then
  let q:=iy i.b z.2 a
  if q.2≠0 then some (i9 z.1 q.2) else
  let u:=hY z.1 f k q.1
  some {u with e:={u.e with ds:=[⟨f,k,i.b,a⟩]}}
 else if z.2.r=true then some (i9 z.1 (-2))
 else some {z.1 with e:={z.1.e with hT:=3,v:=z.2,pc:=z.1.jN,r:=z.1.sr}}
def j5(x:XP)(i:In):XP:=
 let a:=x.sr i.a.toNat
 if i.op=5 then
  let y:=ik x (x.sr i.b.toNat) i.n
  if y.2.2=true then(let z:=hM y.1 y.2.1 i.n;kL z.1 i.a z.2) else y.1
 else if i.op=6 then
  let y:=ik x (x.sr i.b.toNat) i.n
  if y.2.2=true then hY y.1 y.2.1 i.n a else y.1
 else if i.op=7 then
  kL {x with e:={x.e with nw:=[⟨x.nx,List.replicate i.n.toNat default⟩]}} i.a ⟨true,x.nx⟩
 else if i.op=13 then
  let y:=hK x
  let z:={y.1 with e:={y.1.e with nw:=[⟨y.1.nx,[⟨true,y.2.1⟩,⟨false,y.1.jN+1⟩,default]++((List.range i.b.toNat).map y.1.sr++List.replicate (i.c-i.b).toNat default)⟩]}}
  ti (hY z 1 0 ⟨true,z.nx⟩) i.n
 else if i.op=14 then
  let y:=hK x
  if y.1.hF=true then y.1 else
  let p:=hM y.1 y.2.1 0
  if p.2.r=true/\p.2.n=0 then{p.1 with e:={p.1.e with hT:=2,v:=a,pc:=p.1.jN,r:=p.1.sr}} else
  let r:=hM p.1 y.2.1 1
  if p.2.r=false∨r.2.r=true∨iX r.1.jd r.2.n=false then kA r.1 else
  ti (hY (hY r.1 1 0 p.2) 1 1 a) r.2.n
 else if i.op=15∨i.op=18 then
  let y:=iA x
  if y.hF=true then y else
  let z:=hM y 1 (if i.op=15 then 1 else 2)
  kL z.1 i.a z.2
 else if i.op=17 then
  let y:=hK x
  hY y.1 y.2.1 2 ⟨false,i.n⟩
 else x
def oK(l:List In):Bool:=(List.range l.length).all (kU l)
def jr(l:List In):Int:=((l.filter λi=>i.op==21).length:Int)
def ka:List In->Int->Bool
 |[],_=>true
 |i::l,m=>if i.op=21 then(i.n==m)&&ka l (m+1) else ka l m
def hZ(c:List In)(hq g9:Int):Bool:=
 decide (1<=c.length)&&decide (c.length<=2048)&&decide (0<=hq)&&decide (hq<=64)&&(ij c 0==21)&&
 (ij c ((c.length:Int)-1)==14||ij c ((c.length:Int)-1)==16||ij c ((c.length:Int)-1)==11)&&
 oK c&&ka c 0&&(g9==jr c)
def mt:pQ:=⟨0,0,jb,[],[],[],[],[],0,false,default⟩
def i7:pQ:={mt with hT:=4}
def qb(x:XP)(pc:Int):XP:=
 if pc= -1 then
  let y:=iA x
  if y.hF=true then y else
  let z:=hM y 1 2
  jc z.1 z.2
 else
  let i:=x.jd.getD pc.toNat default
  match jS x i with
  |some y=>y
  |none=>match kN x i with
   |some y=>y
   |none=>j5 x i
def lE(c:List In)(hq g9 pc:Int)(r:Nat->Vl)(h:List Ob)(nx:Int):pQ:=
 if hZ c hq g9=false∨pc< -1∨(c.length:Int)<=pc then i7 else
 let y:=qb ⟨c,hq,g9,pc,r,h,nx,{mt with pc:=pc+1,r:=r},false⟩ pc
 if y.hF=true then i7 else y.e
theorem ly(A:Option Addr)(c:Nat)(l:List Cl)(id f:Int)(w:World)(h:Cs w A l)(hn:l.length<=1000000000):
 Calls prog 129 #[.slice A l.length c,i_ id,i_ f] w λe w'=>e=.returned (i_ (cat l id f))/\Gr [] w w':=by
 have bg:=h_ (show cat l id f=iO (λc:Cl=>c.id==id&&c.f==f) l 0 from rfl);generalize hL:l.length=n at*
 go_enter func129,ntmps129
 go_wp2
 go_loopw [11] (λi w'=>∃k:Nat,k<=n/\i=i_ k/\cat l id f=iO (λc:Cl=>c.id==id&&c.f==f) (l.drop k) k/\Gr [] w w') (λi _=>n-(intOf i).toNat)
 case atStart=>exact⟨0,N_ _,rfl,bg.out,D_ _ _⟩
 case round=>
  obtain⟨k,hk,rfl,G,F⟩:=hrel;have aR:=h_ G;clear G
  by_cases aj:k<n
  .have aH:k<l.length:=by omega
   obtain⟨b,off,rfl,bj,be,bJ,bU⟩:=(h.g_ F).at_ aH
   by_cases t0:l[k].id=id
   .by_cases t1:l[k].f=f
    .have aT:=h_ (show(λc:Cl=>c.id==id&&c.f==f) l[k]=true by simp[t0,t1]);exact H4
    .have aT:=h_ (show(λc:Cl=>c.id==id&&c.f==f) l[k]=false by simp[t0,t1]);exact HB
   .have aT:=h_ (show(λc:Cl=>c.id==id&&c.f==f) l[k]=false by simp[t0]);exact HV
  .exact Kg
theorem lL(t:Tk)(id f:Int)(w:World)(h:kY w t)(hn:t.ds.l.length<=1000000000):
 Calls prog 130 #[.agg t.g8,i_ id,i_ f] w λe w'=>e=.returned (i_ (oT t.ds.l id f))/\Gr [] w w':=by
 have hB:=L_ w 53 t.g8;have aU:(w.alloc (.cells t.g8 53)).cell? (c_ w.heap.size 40)=some (.slice t.ds.A t.ds.l.length t.ds.c):=(hB.f_ 40).trans rfl;obtain⟨A,c,l,U,hc,hl⟩:∃(A:Option Addr) (c:Nat) (l:List Dl),t.ds.A=A/\t.ds.c=c/\t.ds.l=l:=⟨_,_,_,rfl,rfl,rfl⟩;have aq:=h.ds;rw[U,hl]at aq;rw[U,hc,hl]at aU;rw[hl]at hn;have cR:=h_ hl;clear U hc hl h;rw[cR.out];have bg:=h_ (show oT l id f=iO (λc:Dl=>c.id==id&&c.f==f) l 0 from rfl);generalize hL:l.length=n at*
 go_enter func130,ntmps130
 go_wp2
 go_loopw [12] (λi w'=>∃k:Nat,k<=n/\i=i_ k/\oT l id f=iO (λc:Dl=>c.id==id&&c.f==f) (l.drop k) k/\Gr [] w w') (λi _=>n-(intOf i).toNat)
 case atStart=>exact⟨0,N_ _,rfl,bg.out,(D_ _ _).alloc _⟩
 case round=>
  obtain⟨k,hk,rfl,G,F⟩:=hrel;have aR:=h_ G;clear G
  by_cases aj:k<n
  .have aH:k<l.length:=by omega
   obtain⟨b,off,rfl,bj,be,bJ,bU,bu⟩:=(aq.g_ F).at_ aH
   by_cases t0:l[k].id=id
   .by_cases t1:l[k].f=f
    .have aT:=h_ (show(λc:Dl=>c.id==id&&c.f==f) l[k]=true by simp[t0,t1]);exact H4
    .have aT:=h_ (show(λc:Dl=>c.id==id&&c.f==f) l[k]=false by simp[t0,t1]);exact HB
   .have aT:=h_ (show(λc:Dl=>c.id==id&&c.f==f) l[k]=false by simp[t0]);exact HV
  .exact Kg
theorem oF(t:Tk)(id:Int)(w:World)(h:kY w t)(hn:t.nw.l.length<=1000000000):
 Calls prog 128 #[.agg t.g8,i_ id] w λe w'=>e=.returned (i_ (js (hN t.nw.l) id))/\Gr [] w w':=by
 have hB:=L_ w 53 t.g8;have aU:(w.alloc (.cells t.g8 53)).cell? (c_ w.heap.size 39)=some (.slice t.nw.A t.nw.l.length t.nw.c):=(hB.f_ 39).trans rfl;obtain⟨A,c,l,U,hc,hl⟩:∃(A:Option Addr) (c:Nat) (l:List Rw),t.nw.A=A/\t.nw.c=c/\t.nw.l=l:=⟨_,_,_,rfl,rfl,rfl⟩;have aq:=h.nw;rw[U,hl]at aq;rw[U,hc,hl]at aU;rw[hl]at hn;have cR:=h_ hl;clear U hc hl h;rw[cR.out];have bg:=h_ (show js (hN l) id=iO (λr:Rw=>r.o.id==id) l 0 by unfold js hN;exact ns _ _ _ _ _ λ_ _=>rfl);generalize hL:l.length=n at*
 go_enter func128,ntmps128
 go_wp2
 go_loopw [10] (λi w'=>∃k:Nat,k<=n/\i=i_ k/\js (hN l) id=iO (λr:Rw=>r.o.id==id) (l.drop k) k/\Gr [] w w') (λi _=>n-(intOf i).toNat)
 case atStart=>exact⟨0,N_ _,rfl,bg.out,(D_ _ _).alloc _⟩
 case round=>
  obtain⟨k,hk,rfl,G,F⟩:=hrel;have aR:=h_ G;clear G
  by_cases aj:k<n
  .have aH:k<l.length:=by omega
   obtain⟨b,off,rfl,bj,be⟩:=(aq.g_ F).at_ aH
   by_cases t0:l[k].o.id=id
   .have aT:=h_ (show(λr:Rw=>r.o.id==id) l[k]=true by simp[t0])
    have bM:(l[k].o.id==id)=true:=by simpa using t0
    clear t0;exact JX
   .have aT:=h_ (show(λr:Rw=>r.o.id==id) l[k]=false by simp[t0])
    have bM:(l[k].o.id==id)=false:=by simpa using t0
    exact Iv
  .exact Kg
structure l5(w:World)(A:Option Addr)(c:Nat)(l:List Rw):Prop where
 os:Os w A l
 la:mW w l
 kX:l.length<=c
theorem l5.g_{w w':World}{A:Option Addr}{c:Nat}{l:List Rw}(h:l5 w A c l)(hg:Gr [] w w'):l5 w' A c l:=⟨h.os.g_ hg,h.la.g_ hg,h.kX⟩
theorem l5.alloc{w:World}{A:Option Addr}{c:Nat}{l:List Rw}(h:l5 w A c l)(o:Obj):l5 (w.alloc o) A c l:=h.g_ ((D_ [] w).alloc o)
theorem l5.ig{w w':World}{A:Option Addr}{c:Nat}{l:List Rw}{t:TypeId}(h:l5 w A c l)(hk:Bk w g t cs)(h1:56≠t)(h2:38≠t)(hg:Gr [g] w w'):l5 w' A c l:=
 ⟨Sl.ig h.os hk h1 hg,h.la.ig hk h2 hg,h.kX⟩
def l0(P:List Ob)(w:World)(e:Ending)(w':World):Prop:=∃(A:Option Addr) (c:Nat) (rs:List Rw),e=.returned (.agg #[.slice A rs.length c])/\l5 w' A c rs/\hN rs=P/\Gr [] w w'
theorem hW(l:List Rw):(hN l).length=l.length:=by simp[hN]
theorem sW(h:List Ob)(id f:Int)(v:Vl):(kT h id f v).length=h.length:=by simp[kT]
theorem xn(h:List Ob)(c:Cl):(rb h c).length=h.length:=by
 unfold rb;split
 .rfl
 .exact sW _ _ _ _
theorem jG(h:List Ob)(l:List Cl):(i4 h l).length=h.length:=by
 unfold i4
 induction l generalizing h with
 |nil=>rfl
 |cons c l ad=>rw[Fl,ad,xn]
theorem qc(h:List Ob)(l:List Cl)(hk:k<l.length):i4 h (l.take (k+1))=rb (i4 h (l.take k)) l[k]:=by
 unfold i4;rw[O_ hk,Fm]
 rfl
theorem nG(A:Option Addr)(c:Nat)(l:List Rw)(B:Option Addr)(d:Nat)(cs:List Cl)(w:World)(h:l5 w A c l)(hn:l.length<=1000000000)(hc:Cs w B cs)(bZ:cs.length<=1000000000):
 Calls prog 125 #[.agg #[.slice A l.length c],.slice B cs.length d] w (l0 (i4 (hN l) cs) w):=by
 obtain⟨K,P,J⟩:=pG w 35 #[.slice A l.length c] 35 #[n_];have m:=h.g_ J;have j:=h_ (show l.length=(hN l).length from(hW l).symm);generalize o:cs.length=n at*;have C:=h_ o;clear o
 go_enter func125,ntmps125
 go_wp2
 go_loopw [11] (λi wr=>∃(k:Nat) (A':Option Addr) (c':Nat) (rs:List Rw),k<=n/\i=i_ k/\Bk wr w.heap.size 35 #[.slice A' rs.length c']/\Bk wr (w.heap.size+1) 35 #[n_]/\l5 wr A' c' rs/\hN rs=i4 (hN l) (cs.take k)/\Gr [] w wr) (λi _=>n-(intOf i).toNat)
 case atStart=>exact⟨0,A,c,l,N_ _,rfl,K,P,m,rfl,J⟩
 case round=>
  obtain⟨k,A',c',rs,hk,rfl,s,az,z,bF,F⟩:=hrel;have q:=h_ bF;clear bF K P m J
  by_cases aj:k<n
  .have aH:k<cs.length:=by rw[C.out];exact aj
   obtain⟨b,off,aX,bj,be,bJ,bU⟩:=(hc.g_ F).at_ aH;subst aX;have bG:=h_ (show i4 (hN l) (cs.take (k+1))=rb (hN rs) cs[k] by rw[q.out];exact qc _ _ aH)
   have ar:rs.length<=1000000000:=by
    have:=hW rs
    rw[q.out,jG]at this;have h2:=j.out;omega
   generalize cs[k]=x at*;obtain⟨g,aC,W⟩:=x;simp only at bj be bJ bU;have bP:=(D_ [] wr).alloc (.cells #[i_ g,i_ aC,.bool W.r,i_ W.n] 116);have aU:=(s.alloc (.cells #[i_ g,i_ aC,.bool W.r,i_ W.n] 116)).f_ 0
   cases y:ji (hN rs) g aC with
   |none=>
    have bl:=h_ (show rb (hN rs) ⟨g,aC,W⟩=hN rs by unfold rb;simp only[y])
    go_wp2_with (go_at_call 149;((with_reducible refine(qd A' c' rs g aC W _ (z.g_ bP).os (z.g_ bP).la ar y).mono ?_);rintro e ai⟨rfl,S⟩;have D:=((s.g_ bP).g_ S).alloc (.cells #[n_] 35)))
    go_roundw
    case rel=>exact⟨k+1,A',c',rs,by omega,by go_num,D,((az.g_ bP).g_ S).alloc _,((z.g_ bP).g_ S).alloc _,by rw[bG.out,bl.out],((F.trans bP).trans S).alloc _⟩
    case measure=>simp[intOf];omega
   |some u=>
    have bl:=h_ (show rb (hN rs) ⟨g,aC,W⟩=kT (hN rs) g aC W by unfold rb;simp only[y])
    go_wp2_with (go_at_call 149;((with_reducible refine(nW A' c' rs g aC W u _ (z.g_ bP).os (z.g_ bP).la ar y).mono ?_);rintro e ai⟨a8,aN,p,rfl,E,t,cr,a,S⟩;have f:=h_ a;clear a;have D:=((s.g_ bP).g_ S).alloc (.cells #[.slice a8 p.length aN] 35);have z0:=D.f_ 0;have bB:=D.hm 0;have hD:=L_ ai 35 #[.slice a8 p.length aN];have Z:=hD.f_ 0))
    go_roundw
    case rel=>exact⟨k+1,a8,aN,p,by omega,by go_num,D.hJ 0 _,(((az.g_ bP).g_ S).alloc _).h7 s_ _,((l5.mk t cr E).alloc _).ig D d_ d_ ((D_ _ _).setCell (.inl s_) _),by rw[bG.out,bl.out,f.out],(((F.trans bP).trans S).alloc _).setCell (.inr s_) _⟩
    case measure=>simp[intOf];omega
  .exact Hk
theorem zS(h:List Ob)(c:Dl):(p6 h c).length=h.length:=by
 unfold p6;split
 .rfl
 .split
  .exact sW _ _ _ _
  .rfl
theorem nK(h:List Ob)(l:List Dl):(kd h l).length=h.length:=by
 unfold kd
 induction l generalizing h with
 |nil=>rfl
 |cons c l ad=>rw[Fl,ad,zS]
theorem uo(h:List Ob)(l:List Dl)(hk:k<l.length):kd h (l.take (k+1))=p6 (kd h (l.take k)) l[k]:=by
 unfold kd;rw[O_ hk,Fm]
 rfl
theorem ru(A:Option Addr)(c:Nat)(l:List Rw)(B:Option Addr)(d:Nat)(ds:List Dl)(w:World)(h:l5 w A c l)(hn:l.length<=1000000000)(hc:Ds w B ds)(bZ:ds.length<=1000000000):
 Calls prog 124 #[.agg #[.slice A l.length c],.slice B ds.length d] w (l0 (kd (hN l) ds) w):=by
 obtain⟨K,P,J⟩:=pG w 35 #[.slice A l.length c] 35 #[n_];have m:=h.g_ J;have j:=h_ (show l.length=(hN l).length from(hW l).symm);generalize o:ds.length=n at*;have C:=h_ o;clear o
 go_enter func124,ntmps124
 go_wp2
 go_loopw [13] (λi wr=>∃(k:Nat) (A':Option Addr) (c':Nat) (rs:List Rw),k<=n/\i=i_ k/\Bk wr w.heap.size 35 #[.slice A' rs.length c']/\Bk wr (w.heap.size+1) 35 #[n_]/\l5 wr A' c' rs/\hN rs=kd (hN l) (ds.take k)/\Gr [] w wr) (λi _=>n-(intOf i).toNat)
 case atStart=>exact⟨0,A,c,l,N_ _,rfl,K,P,m,rfl,J⟩
 case round=>
  obtain⟨k,A',c',rs,hk,rfl,s,az,z,bF,F⟩:=hrel;have q:=h_ bF;clear bF K P m J
  by_cases aj:k<n
  .have aH:k<ds.length:=by rw[C.out];exact aj
   obtain⟨b,off,aX,bj,be,bJ,bU,bu⟩:=(hc.g_ F).at_ aH;subst aX;have bG:=h_ (show kd (hN l) (ds.take (k+1))=p6 (hN rs) ds[k] by rw[q.out];exact uo _ _ aH)
   have ar:rs.length<=1000000000:=by
    have:=hW rs
    rw[q.out,nK]at this;have h2:=j.out;omega
   generalize ds[k]=x at*;obtain⟨g,aC,ad,W⟩:=x;simp only at bj be bJ bU bu;have L:Bk (wr.alloc (.cells #[i_ g,i_ aC,i_ ad,.bool W.r,i_ W.n] 124)) wr.heap.size 124 #[i_ g,i_ aC,i_ ad,.bool W.r,i_ W.n]:=L_ wr _ _;have s:=s.alloc (.cells #[i_ g,i_ aC,i_ ad,.bool W.r,i_ W.n] 124);have az:=az.alloc (.cells #[i_ g,i_ aC,i_ ad,.bool W.r,i_ W.n] 124);have z:=z.alloc (.cells #[i_ g,i_ aC,i_ ad,.bool W.r,i_ W.n] 124);have F:=F.alloc (.cells #[i_ g,i_ aC,i_ ad,.bool W.r,i_ W.n] 124);have aU:=s.f_ 0;have Z:=L.f_ 0;have ah:=L.f_ 1
   cases y:ji (hN rs) g aC with
   |none=>
    have bl:=h_ (show p6 (hN rs) ⟨g,aC,ad,W⟩=hN rs by unfold p6;simp only[y]);obtain⟨r,hr⟩:=mn_ (iy ad default W);have D:=h_ hr;clear hr
    go_wp2_with (first|(go_at_call 148;((with_reducible refine(km A' c' rs g aC _ z.os z.la ar).mono ?_);rintro e ai⟨rfl,S⟩;rw[y];simp only[FQ,FV];have s:=(s.g_ S).alloc (.cells (V_ (default:Vl)) 38);have az:=(az.g_ S).alloc (.cells (V_ (default:Vl)) 38);have L:=(L.g_ S).alloc (.cells (V_ (default:Vl)) 38);have z:=(z.g_ S).alloc (.cells (V_ (default:Vl)) 38);have F:=(F.trans S).alloc (.cells (V_ (default:Vl)) 38);have aq:=L_ ai 38 (V_ (default:Vl));have au:=L.f_ 2;have aQ:=L.f_ 3;have aV:=L.f_ 4;have z0:=aq.f_ 0;have aS:=aq.f_ 1))|(go_at_call 164;((with_reducible refine(mm ad _ W _).mono ?_);rintro e T⟨he,af⟩;unfold qa at he;subst he;rw[D.out];have s:=(s.g_ af).alloc (.cells (V_ r.1) 38);have az:=(az.g_ af).alloc (.cells (V_ r.1) 38);have z:=(z.g_ af).alloc (.cells (V_ r.1) 38);have F:=(F.trans af).alloc (.cells (V_ r.1) 38))))
    exact IM
   |some u=>
    obtain⟨r,hr⟩:=mn_ (iy ad u W);have D:=h_ hr
    by_cases hz:r.2=0
    .have bl:=h_ (show p6 (hN rs) ⟨g,aC,ad,W⟩=kT (hN rs) g aC r.1 by unfold p6;simp only[y,hr,hz,if_true])
     have v:(r.2==0)=true:=by simpa using hz
     clear hr hz
     go_wp2_with (first|(go_at_call 148;((with_reducible refine(km A' c' rs g aC _ z.os z.la ar).mono ?_);rintro e ai⟨rfl,S⟩;rw[y];simp only[EW,Fw];have s:=(s.g_ S).alloc (.cells (V_ u) 38);have az:=(az.g_ S).alloc (.cells (V_ u) 38);have L:=(L.g_ S).alloc (.cells (V_ u) 38);have z:=(z.g_ S).alloc (.cells (V_ u) 38);have F:=(F.trans S).alloc (.cells (V_ u) 38);have aq:=L_ ai 38 (V_ u);have au:=L.f_ 2;have aQ:=L.f_ 3;have aV:=L.f_ 4;have z0:=aq.f_ 0;have aS:=aq.f_ 1))|(go_at_call 164;((with_reducible refine(mm ad _ W _).mono ?_);rintro e T⟨he,af⟩;unfold qa at he;subst he;rw[D.out];have s:=(s.g_ af).alloc (.cells (V_ r.1) 38);have az:=(az.g_ af).alloc (.cells (V_ r.1) 38);have L:=(L.g_ af).alloc (.cells (V_ r.1) 38);have z:=(z.g_ af).alloc (.cells (V_ r.1) 38);have F:=(F.trans af).alloc (.cells (V_ r.1) 38);have O:=L_ T 38 (V_ r.1);have aU:=s.f_ 0;have Z:=L.f_ 0;have ah:=L.f_ 1;have cC:=O.f_ 0;have cD:=O.f_ 1))|(go_at_call 149;((with_reducible refine(nW A' c' rs g aC r.1 u _ z.os z.la ar y).mono ?_);rintro e ae⟨a8,aN,p,rfl,E,t,cr,a,am⟩;have f:=h_ a;clear a;have s:=s.g_ am;have az:=az.g_ am;have F:=F.trans am;have aU:=s.f_ 0;have bB:=s.hm 0)))
     go_roundw
     case rel=>exact⟨k+1,a8,aN,p,by omega,by go_num,s.hJ 0 _,az.h7 s_ _,(l5.mk t cr E).ig s d_ d_ ((D_ _ _).setCell (.inl s_) _),by rw[bG.out,bl.out,f.out],F.setCell (.inr s_) _⟩
     case measure=>simp[intOf];omega
    .have bl:=h_ (show p6 (hN rs) ⟨g,aC,ad,W⟩=hN rs by unfold p6;simp only[y,hr,hz,if_false])
     have v:(r.2==0)=false:=by simpa using hz
     clear hr hz
     go_wp2_with (first|(go_at_call 148;((with_reducible refine(km A' c' rs g aC _ z.os z.la ar).mono ?_);rintro e ai⟨rfl,S⟩;rw[y];simp only[EW,Fw];have s:=(s.g_ S).alloc (.cells (V_ u) 38);have az:=(az.g_ S).alloc (.cells (V_ u) 38);have L:=(L.g_ S).alloc (.cells (V_ u) 38);have z:=(z.g_ S).alloc (.cells (V_ u) 38);have F:=(F.trans S).alloc (.cells (V_ u) 38);have aq:=L_ ai 38 (V_ u);have au:=L.f_ 2;have aQ:=L.f_ 3;have aV:=L.f_ 4;have z0:=aq.f_ 0;have aS:=aq.f_ 1))|(go_at_call 164;((with_reducible refine(mm ad _ W _).mono ?_);rintro e T⟨he,af⟩;unfold qa at he;subst he;rw[D.out];have s:=(s.g_ af).alloc (.cells (V_ r.1) 38);have az:=(az.g_ af).alloc (.cells (V_ r.1) 38);have z:=(z.g_ af).alloc (.cells (V_ r.1) 38);have F:=(F.trans af).alloc (.cells (V_ r.1) 38))))
     exact IM
  .exact Hk
theorem rV(E:α->List Value)(hE:∀a,(E a).length=3){w:World}{e:TypeId}{l:List α}(hk:k<l.length)(r:α)(aU bn P:Value)(hr:E r=[aU,bn,P])(hb:Bk w g e cur)(h:∀(i:Nat) (u:Value),(l.flatMap E)[i]?=some u->cur[i]?=some u)(n:Nat)(hn:l.length=n):
 Sl (((w.setCell (c_ g (k*3)) aU).setCell (c_ g (k*3+1)) bn).setCell (c_ g (k*3+2)) P) e 3 (j_ g) n ((l.set k r).flatMap E):=by
 subst hn;have bB:=(((hb.hJ (k*3) aU).hJ (k*3+1) bn).hJ (k*3+2) P);have iv:=j3 E 3 hE l
 have d:k*3+2<cur.size:=by
  have hl:k*3+2<(l.flatMap E).length:=by omega
  have:=h _ _ (K_ hl)
  rcases D5 (k*3+2) cur.size with h|h
  .exact h
  .exact Ku
 refine⟨by rw[j3 E 3 hE];simp,λ_=>⟨g,0,_,_,rfl,bB,λj u hu=>?_⟩⟩;rw[U_];refine qq E 3 hE o_ l k hk r cur _ h (λj u hu=>?_) (λi hi=>?_) j u hu
 .rw[hr]at hu
  match j,hu with
  |0,hu=>simp only[EI,Option.some.injEq]at hu;subst hu;rw[I_,P_ o_];rw[I_,P_ o_];rw[I_,Q_ o_,Q_ (by first|omega|(simp;omega))]
  |1,hu=>simp only[E9,EI,Option.some.injEq]at hu;subst hu;rw[I_,P_ o_];rw[I_,Q_ o_,Q_ (by first|omega|(simp;omega))]
  |2,hu=>simp only[E9,EI,Option.some.injEq]at hu;subst hu;rw[I_,Q_ o_,Q_ (by first|omega|(simp;omega))]
  |j+3,hu=>simp at hu
 .rw[I_,P_ o_];rw[I_,P_ o_];rw[I_,P_ o_]
theorem AM(E:α->List Value)(hE:∀a,(E a).length=4){w:World}{e:TypeId}{l:List α}(hk:k<l.length)(r:α)(aU bn P ao:Value)(hr:E r=[aU,bn,P,ao])(hb:Bk w g e cur)(h:∀(i:Nat) (u:Value),(l.flatMap E)[i]?=some u->cur[i]?=some u)(n:Nat)(hn:l.length=n):
 Sl ((((w.setCell (c_ g (k*4)) aU).setCell (c_ g (k*4+1)) bn).setCell (c_ g (k*4+2)) P).setCell (c_ g (k*4+3)) ao) e 4 (j_ g) n ((l.set k r).flatMap E):=by
 subst hn;have bB:=((((hb.hJ (k*4) aU).hJ (k*4+1) bn).hJ (k*4+2) P).hJ (k*4+3) ao);have iv:=j3 E 4 hE l
 have d:k*4+3<cur.size:=by
  have hl:k*4+3<(l.flatMap E).length:=by omega
  have:=h _ _ (K_ hl)
  rcases D5 (k*4+3) cur.size with h|h
  .exact h
  .exact Ku
 refine⟨by rw[j3 E 4 hE];simp,λ_=>⟨g,0,_,_,rfl,bB,λj u hu=>?_⟩⟩;rw[U_];refine qq E 4 hE o_ l k hk r cur _ h (λj u hu=>?_) (λi hi=>?_) j u hu
 .rw[hr]at hu
  match j,hu with
  |0,hu=>simp only[EI,Option.some.injEq]at hu;subst hu;rw[I_,P_ o_];rw[I_,P_ o_];rw[I_,P_ o_];rw[I_,Q_ o_,Q_ (by first|omega|(simp;omega))]
  |1,hu=>simp only[E9,EI,Option.some.injEq]at hu;subst hu;rw[I_,P_ o_];rw[I_,P_ o_];rw[I_,Q_ o_,Q_ (by first|omega|(simp;omega))]
  |2,hu=>simp only[E9,EI,Option.some.injEq]at hu;subst hu;rw[I_,P_ o_];rw[I_,Q_ o_,Q_ (by first|omega|(simp;omega))]
  |3,hu=>simp only[E9,EI,Option.some.injEq]at hu;subst hu;rw[I_,Q_ o_,Q_ (by first|omega|(simp;omega))]
  |j+4,hu=>simp at hu
 .rw[I_,P_ o_];rw[I_,P_ o_];rw[I_,P_ o_];rw[I_,P_ o_]
theorem Sl.AS{E:α->List Value}{s:Nat}(hE:∀a,(E a).length=s){w:World}{l:List α}(h:Sl w ty s (j_ g) l.length (l.flatMap E))(hk:k<l.length):
 ∀j u,(E l[k])[j]?=some u->w.cell? (c_ g (k*s+j))=some u:=by
 obtain⟨b,off,U,hc⟩:=Sl.row hE h hk;injection U with U;injection U with h1 h2;subst h1;subst h2;intro j u hu
 have:=hc j u hu
 rwa [U_]at this
def rP(P:List Cl)(w:World)(e:Ending)(w':World):Prop:=∃(A:Option Addr) (d:Nat),e=.returned (.slice A P.length d)/\Cs w' A P/\P.length<=d/\Gr [] w w'
theorem rf(l:List Cl)(id f:Int): -1<=cat l id f/\cat l id f<l.length:=by
 have:=m6 (λc:Cl=>c.id==id&&c.f==f) l 0
 unfold cat
 simpa using this
theorem Ag(A:Option Addr)(d:Nat)(l:List Cl)(id f:Int)(n:Nat)(w:World)(h:Cs w A l)(hL:Hid (l.length=n))(hn:n<=1000000000):
 Calls prog 129 #[.slice A n d,i_ id,i_ f] w λe w'=>e=.returned (i_ (cat l id f))/\Gr [] w w':=by
 have hl:=hL.out;subst hl;exact ly A d l id f w h hn
theorem x9(A:Option Addr)(d:Nat)(l:List Cl)(c:Cl)(x:Nat)(w:World)(h:Cs w A l)(hn:l.length<=1000000000)(L:cat l c.id c.f=x):
 Calls prog 98 #[.slice A l.length d,.agg #[i_ c.id,i_ c.f,.bool c.v.r,i_ c.v.n]] w (rP (kk l c) w):=by
 obtain⟨bz,bw,br,bi,bf⟩:=info_parts infoCl;have J:=(D_ [] w).alloc (.cells #[i_ c.id,i_ c.f,.bool c.v.r,i_ c.v.n] 116);have hB:=L_ w 116 #[i_ c.id,i_ c.f,.bool c.v.r,i_ c.v.n];have a:=Sl.alloc h (.cells #[i_ c.id,i_ c.f,.bool c.v.r,i_ c.v.n] 116)
 have aE:x<l.length:=by have:=rf l c.id c.f;omega
 have aT:=h_ (show kk l c=l.set x c by unfold kk;rw[L,Q_ o_,ED]);have cz:=aE;have M:=h_ L;clear L;have bg:=h_ (show(l.set x c).length=l.length by simp);obtain⟨n,aG⟩:=mn_ l.length;rw[aG]at aE hn a |-;have j:=h_ aG;clear aG
 have bQ:(x:Int)<(n:Int):=by omega
 go_enter func98,ntmps98
 go_wp2_with (at_builtin;refine iD _ rfl (.const (n_)) (.tmp 7) 50 rfl (w.heap.size+1) 116 bz _ 4 32 underlying50 bw br bi bf rfl d_ d_ none 0 0 [] rfl (iJ _ _ _ _) A n d _ rfl a (pq _) o_ s_ ?_;intro ay an w2 aY av;simp only[U_,Ea]at aY;have hB:=av.s9 hB o_;have bV:=av.gr [] w o_ J;have aS:=hB.f_ 0;have b1:=hB.f_ 1)
 obtain⟨g,cur,m,bq,H,r⟩:=ky aY o_;subst m
 have aq:Cs w2 (j_ g) l:=by unfold Cs;rw[j.out];exact Sl.iG aY
 go_wp2_with (go_at_call 129;((with_reducible refine(Ag (j_ g) an l c.id c.f n w2 aq j hn).mono ?_);rintro e ai⟨rfl,S⟩;rw[M.out];have hB:=hB.g_ S;have H:=H.g_ S;have aS:=hB.f_ 0;have b1:=hB.f_ 1;have b2:=hB.f_ 2;have dE:=hB.f_ 3;have bu:=Sl.AS s7 (aq.g_ S) cz;have k0:ai.cell? (c_ g (x*4))=some _:=bu 0 _ rfl;have bO:ai.cell? (c_ g (x*4+1))=some _:=bu 1 _ rfl;have bl:ai.cell? (c_ g (x*4+2))=some _:=bu 2 _ rfl;have k3:ai.cell? (c_ g (x*4+3))=some _:=bu 3 _ rfl;clear bu;have bB:=H.hm (x*4);have bH:=H.hm (x*4+1);have bZ:=H.hm (x*4+2);have dq:=H.hm (x*4+3)))
 go_ret;unfold rP;rw[aT.out];refine⟨some (c_ g 0),an,pA (by rw[bg.out,j.out]),?_,by rw[bg.out,j.out];exact iQ aY,?_⟩
 .exact AM Cl.E s7 cz c _ _ _ _ rfl H r _ bg.out.symm
 .exact((((bV.trans S).setCell (.inr p_) _).setCell (.inr p_) _).setCell (.inr p_) _).setCell (.inr p_) _
theorem Bg(l:List Cl)(id f:Int):s6 l id f<=l.length:=pi _ _
theorem zz(A:Option Addr)(d:Nat)(l:List Cl)(c:Cl)(w:World)(h:Cs w A l)(hn:l.length<=1000000000)(L:cat l c.id c.f<0):
 Calls prog 98 #[.slice A l.length d,.agg #[i_ c.id,i_ c.f,.bool c.v.r,i_ c.v.n]] w (rP (kk l c) w):=by
 obtain⟨bz,bw,br,bi,bf⟩:=info_parts infoCl;have J:=(D_ [] w).alloc (.cells #[i_ c.id,i_ c.f,.bool c.v.r,i_ c.v.n] 116);have hB:=L_ w 116 #[i_ c.id,i_ c.f,.bool c.v.r,i_ c.v.n];have a:=Sl.alloc h (.cells #[i_ c.id,i_ c.f,.bool c.v.r,i_ c.v.n] 116);have aT:=h_ (show kk l c=l.take (s6 l c.id c.f)++([c]++l.drop (s6 l c.id c.f)) by unfold kk;rw[P_ o_]);have M:=h_ (show cat l c.id c.f= -1 by have:=rf l c.id c.f;omega);clear L;have bQ:=h_ (show s6 l c.id c.f=0+lX (om c.id c.f) (l.drop 0) by simp[s6]);have bK:=h_ (show ∀k,k=s6 l c.id c.f->(l.take k++([c]++l.drop k)).length=k+(1+(l.length-k)) from λk hk=>by have:=Bg l c.id c.f;simp;omega);obtain⟨n,aG⟩:=mn_ l.length;rw[aG]at hn a |-;have j:=h_ aG;clear aG
 go_enter func98,ntmps98
 go_wp2_with (at_builtin;refine iD _ rfl (.const (n_)) (.tmp 7) 50 rfl (w.heap.size+1) 116 bz _ 4 32 underlying50 bw br bi bf rfl d_ d_ none 0 0 [] rfl (iJ _ _ _ _) A n d _ rfl a (pq _) o_ s_ ?_;intro ay an w2 aY av;simp only[U_,Ea]at aY;have hB:=av.s9 hB o_;have bV:=av.gr [] w o_ J;have aS:=hB.f_ 0;have b1:=hB.f_ 1;have b2:=hB.f_ 2;have dE:=hB.f_ 3)
 have aq:Cs w2 ay l:=by unfold Cs;rw[j.out];exact Sl.iG aY
 have b6:=iQ aY
 go_upto_block 0 with(go_at_call 129;((with_reducible refine(Ag ay an l c.id c.f n w2 aq j hn).mono ?_);rintro e ai⟨rfl,S⟩;rw[M.out];have hB:=hB.g_ S;have aS:=hB.f_ 0;have b1:=hB.f_ 1;have b2:=hB.f_ 2;have dE:=hB.f_ 3))
 have aq:=aq.g_ S;have N:=bV.trans S;clear aY av a J S bV
 go_cut [6] (λy a7=>∃k:Nat,y=i_ k/\k<=n/\k=s6 l c.id c.f/\Gr [] ai a7)
 case first=>
  go_wp2_with fail
  go_loopw [6] (λy w'=>∃k:Nat,y=i_ k/\k<=n/\s6 l c.id c.f=k+lX (om c.id c.f) (l.drop k)/\Gr [] ai w') (λy _=>n-(intOf y).toNat)
  case atStart=>exact⟨0,rfl,N_ _,bQ.out,D_ _ _⟩
  case round=>
   obtain⟨k,rfl,hk,cO,F⟩:=hrel;have O:=h_ cO;clear cO;have i:=hB.g_ F;have B:=i.f_ 0;have aB:=i.f_ 1;have bm:=i.f_ 2;have bB:=i.f_ 3;clear i aS b1 b2 dE
   by_cases aj:k<n
   .have aH:k<l.length:=by rw[j.out];exact aj
    have aL:(k:Int)<(n:Int):=by omega
    obtain⟨b,off,b9,Z,ah,ce,cf⟩:=(aq.g_ F).at_ aH;subst b9
    by_cases t0:l[k].id<c.id
    .have ap:=h_ (oh (p:=om c.id c.f) aH (by simp[om,t0]))
     have bM:decide (l[k].id<c.id)=true:=by simpa using t0
     exact Ic
    .have bM:decide (l[k].id<c.id)=false:=by simpa using t0
     by_cases t1:l[k].id=c.id
     .have bp:(l[k].id==c.id)=true:=by simpa using t1
      by_cases ak:l[k].f<c.f
      .have ap:=h_ (oh (p:=om c.id c.f) aH (by simp[om,t1,ak]))
       have bI:decide (l[k].f<c.f)=true:=by simpa using ak
       exact H3
      .have ap:=h_ (nk (p:=om c.id c.f) aH (by simp[om,t1,ak]))
       have bI:decide (l[k].f<c.f)=false:=by simpa using ak
       exact IU
     .have ap:=h_ (nk (p:=om c.id c.f) aH (by simp[om,t0,t1]))
      have bp:(l[k].id==c.id)=false:=by simpa using t1
      exact IX
   .have ap:=h_ (ra (p:=om c.id c.f) (l:=l) (k:=k) (by rw[j.out];omega))
    have aL:¬(k:Int)<(n:Int):=by omega
    exact Jd
 case rest=>
  obtain⟨k,rfl,hk,aw,F⟩:=hcut;have aU:=h_ aw;clear aw aS b1 b2 dE;have i:=hB.g_ F;have B:=i.f_ 0;have aB:=i.f_ 1;have bm:=i.f_ 2;have bB:=i.f_ 3
  have e0:(0:Int)<=(k:Int):=by omega
  have aP:(k:Int)<=(n:Int):=by omega
  have aL:(k:Int)<=(an:Int):=by omega
  have aM:=aq.g_ F;have aN:=(Sl.w9 s7 aM (show k<=l.length by rw[j.out];exact hk)).g_ ((D_ [] wc).alloc (.cells #[i_ c.id,i_ c.f,.bool c.v.r,i_ c.v.n] 116)).drew;have ao:=(Sl.xu s7 aM (show k<=l.length by rw[j.out];exact hk) an (by rw[j.out];exact b6)).g_ ((D_ [] wc).alloc (.cells #[i_ c.id,i_ c.f,.bool c.v.r,i_ c.v.n] 116)).drew;have be:=h_ (show ∀u∈(#[i_ c.id,i_ c.f,.bool c.v.r,i_ c.v.n]:Array Value).toList++(l.drop k).flatMap Cl.E,u.oneCell'=true from λu hu=>pq (c::l.drop k) u hu);rw[j.out]at ao;have bv:=kC (s:=4) (L_ wc.drew 116 #[i_ c.id,i_ c.f,.bool c.v.r,i_ c.v.n]) rfl;have bX:=N.trans F;have g:=i.drew;clear hB i aq F N aM
  go_wp2_with fail
  go_region_held3 (λw'=>w'.cell? (c_ w.heap.size 0)=some (i_ c.id)/\w'.cell? (c_ w.heap.size 1)=some (i_ c.f)/\w'.cell? (c_ w.heap.size 2)=some (.bool c.v.r)/\w'.cell? (c_ w.heap.size 3)=some (i_ c.v.n)) (first|exact dH|exact dI|go_keep)
   (first
     |(refine l8 _ r_ (.tmp 63) (.tmp 66) 50 r_ 116 bz _ 4 32 underlying50 bw br bi bf rfl d_ d_ _ 1 _ r_ bv _ (n-k) _ _ r_ ao (pq _) o_ ?_;intro a6 c5 ae G bu am;have b7:=(g.alloc (.cells #[i_ c.id,i_ c.f,.bool c.v.r,i_ c.v.n] 116)).g_ am;have dH:ae.cell? (c_ w.heap.size 0)=some (i_ c.id)/\ae.cell? (c_ w.heap.size 1)=some (i_ c.f)/\ae.cell? (c_ w.heap.size 2)=some (.bool c.v.r)/\ae.cell? (c_ w.heap.size 3)=some (i_ c.v.n):=⟨b7.f_ 0,b7.f_ 1,b7.f_ 2,b7.f_ 3⟩)
     |(refine l8 _ r_ (.tmp 61) (.tmp 67) 50 r_ 116 bz _ 4 32 underlying50 bw br bi bf rfl d_ d_ _ k _ r_ (aN.g_ am) _ (1+(n-k)) _ _ r_ bu be.out o_ ?_;intro aJ aK aF bC bZ aC;have cn:=b7.g_ aC;have dI:aF.cell? (c_ w.heap.size 0)=some (i_ c.id)/\aF.cell? (c_ w.heap.size 1)=some (i_ c.f)/\aF.cell? (c_ w.heap.size 2)=some (.bool c.v.r)/\aF.cell? (c_ w.heap.size 3)=some (i_ c.v.n):=⟨cn.f_ 0,cn.f_ 1,cn.f_ 2,cn.f_ 3⟩))
  go_wp2
  all_goals
   go_ret;unfold rP;have iv:=bK.out k aU.out;rw[j.out]at iv;rw[aT.out,<-aU.out];refine⟨aJ,aK,pA iv.symm,?_,by rw[iv];exact bC,(((bX.alloc _).drew).trans am).trans aC⟩;unfold Cs;rw[iv,Ej,Ej,FO];exact bZ
theorem q7(A:Option Addr)(d:Nat)(l:List Cl)(c:Cl)(w:World)(h:Cs w A l)(hn:l.length<=1000000000):
 Calls prog 98 #[.slice A l.length d,.agg #[i_ c.id,i_ c.f,.bool c.v.r,i_ c.v.n]] w (rP (kk l c) w):=by
 by_cases L:cat l c.id c.f<0
 .exact zz A d l c w h hn L
 .exact x9 A d l c (cat l c.id c.f).toNat w h hn (EX o_).symm
theorem xJ(A:Option Addr)(c:Nat)(l:List Rw)(B:Option Addr)(d:Nat)(cs:List Cl)(n:Nat)(w:World)(h:l5 w A c l)(hn:l.length<=1000000000)(hc:Cs w B cs)(hL:Hid (cs.length=n))(bZ:n<=1000000000):
 Calls prog 125 #[.agg #[.slice A l.length c],.slice B n d] w (l0 (i4 (hN l) cs) w):=by
 have e:=hL.out;subst e;exact nG A c l B d cs w h hn hc bZ
theorem B8(w:World)(x:Cl):Cs (w.alloc (.cells #[i_ x.id,i_ x.f,.bool x.v.r,i_ x.v.n] 116)) (j_ w.heap.size) [x]:=kC (s:=4) (L_ w 116 #[i_ x.id,i_ x.f,.bool x.v.r,i_ x.v.n]) rfl
theorem xx(rs:List Cl)(gs:List Cl)(h:List Ob):(gs.foldl (ks rs) h).length=h.length:=by
 induction gs generalizing h with
 |nil=>rfl
 |cons g l ad=>
  rw[Fl,ad];unfold ks;split
  .exact jG _ _
  .rfl
theorem mi(t:jg)(h:List Ob):(before t h).length=h.length:=by unfold before;rw[jG,xx]
theorem oM(t:Tk)(A:Option Addr)(c:Nat)(l:List Rw)(w:World)(X:kY w t)(h:l5 w A c l)(hn:l.length<=1000000000)(db:t.gs.l.length<=1000000000)(ar:t.rs.l.length<=1000000000):
 Calls prog 122 #[.agg t.g8,.agg #[.slice A l.length c]] w (l0 (before t.p (hN l)) w):=by
 obtain⟨V,aq,hR,z,J⟩:=BC w 53 t.g8 35 #[.slice A l.length c] 35 #[n_] 35 #[.slice A l.length c];have N:=h.g_ J;have af:((((w.alloc (.cells t.g8 53)).alloc (.cells #[.slice A l.length c] 35)).alloc (.cells #[n_] 35)).alloc (.cells #[.slice A l.length c] 35)).cell? (c_ w.heap.size 36)=some (.slice t.gs.A t.gs.l.length t.gs.c):=(V.f_ 36).trans rfl;have aT:=h_ (show before t.p (hN l)=i4 (t.gs.l.foldl (ks t.rs.l) (hN l)) t.rs.l from rfl);have j:=h_ (hW l)
 go_enter func122,ntmps122
 go_wp2_with fail
 clear aq
 go_loopw [12] (λi wr=>∃(k:Nat) (A':Option Addr) (c':Nat) (rs:List Rw),k<=t.gs.l.length/\i=i_ k/\Bk wr w.heap.size 53 t.g8/\Bk wr (w.heap.size+1+1) 35 #[n_]/\Bk wr (w.heap.size+1+1+1) 35 #[.slice A' rs.length c']/\l5 wr A' c' rs/\hN rs=(t.gs.l.take k).foldl (ks t.rs.l) (hN l)/\Gr [] w wr) (λi _=>t.gs.l.length-(intOf i).toNat)
 case atStart=>exact⟨0,A,c,l,N_ _,rfl,V,hR,z,N,rfl,J⟩
 case round=>
  clear V hR z N J af;obtain⟨k,A',c',rs,hk,rfl,V,hR,z,N,bF,F⟩:=hrel;have q:=h_ bF
  have m:rs.length<=1000000000:=by
   have:=hW rs
   rw[bF,xx,j.out]at this;omega
  clear bF
  by_cases aj:k<t.gs.l.length
  .have aH:=aj;obtain⟨b,off,aX,bj,be,bJ,bU⟩:=(X.gs.g_ F).at_ aH;rw[aX];have bG:=h_ (show(t.gs.l.take (k+1)).foldl (ks t.rs.l) (hN l)=ks t.rs.l (hN rs) t.gs.l[k] by rw[q.out,O_ aH,Fm];rfl);generalize t.gs.l[k]=x at*
   have aL:(k:Int)<(t.gs.l.length:Int):=by omega
   have aE:(wr.alloc (.cells #[i_ x.id,i_ x.f,.bool x.v.r,i_ x.v.n] 116)).cell? (c_ w.heap.size 37)=some (.slice t.rs.A t.rs.l.length t.rs.c):=((V.alloc _).f_ 37).trans rfl;have L:=L_ wr 116 #[i_ x.id,i_ x.f,.bool x.v.r,i_ x.v.n];replace V:=V.alloc (.cells #[i_ x.id,i_ x.f,.bool x.v.r,i_ x.v.n] 116);replace hR:=hR.alloc (.cells #[i_ x.id,i_ x.f,.bool x.v.r,i_ x.v.n] 116);replace z:=z.alloc (.cells #[i_ x.id,i_ x.f,.bool x.v.r,i_ x.v.n] 116);replace N:=N.alloc (.cells #[i_ x.id,i_ x.f,.bool x.v.r,i_ x.v.n] 116);replace F:=F.alloc (.cells #[i_ x.id,i_ x.f,.bool x.v.r,i_ x.v.n] 116);have Z:=L.f_ 0;have ah:=L.f_ 1
   by_cases f:cat t.rs.l x.id x.f<0
   .have aY:=h_ (show ks t.rs.l (hN rs) x=i4 (hN rs) [x] by unfold ks;rw[Q_ f])
    go_wp2_with (first|(go_at_call 129;((with_reducible refine(ly t.rs.A t.rs.c t.rs.l x.id x.f _ (X.g_ F).rs ar).mono ?_);rintro e ai⟨rfl,S⟩;replace V:=V.g_ S;replace hR:=hR.g_ S;replace z:=z.g_ S;replace L:=L.g_ S;replace N:=N.g_ S;replace F:=F.trans S;replace aU:=z.f_ 0;replace Z:=L.f_ 0;replace ah:=L.f_ 1;replace au:=L.f_ 2;replace aQ:=L.f_ 3))|(go_at_call 125;((with_reducible refine(xJ A' c' rs _ 1 [x] 1 _ (N.alloc _) m (B8 _ x) (h_ rfl) o_).mono ?_);unfold l0;rintro e ae⟨a6,c5,a,rfl,y,d,am⟩;have s:=h_ d;clear d;replace F:=(F.alloc (.cells #[i_ x.id,i_ x.f,.bool x.v.r,i_ x.v.n] 116)).trans am;replace V:=(V.alloc (.cells #[i_ x.id,i_ x.f,.bool x.v.r,i_ x.v.n] 116)).g_ am;replace hR:=(hR.alloc (.cells #[i_ x.id,i_ x.f,.bool x.v.r,i_ x.v.n] 116)).g_ am;replace z:=(z.alloc (.cells #[i_ x.id,i_ x.f,.bool x.v.r,i_ x.v.n] 116)).g_ am;replace aU:=z.f_ 0;have bB:=z.hm 0)))
    go_roundw
    case rel=>exact⟨k+1,a6,c5,a,by omega,by go_num,V.h7 sd_ _,hR.h7 sd_ _,z.hJ 0 _,y.ig z d_ d_ ((D_ _ _).setCell (.inl s_) _),by rw[bG.out,aY.out,s.out],F.setCell (.inr p_) _⟩
    case measure=>simp[intOf];omega
   .have aY:=h_ (show ks t.rs.l (hN rs) x=hN rs by unfold ks;rw[P_ f])
    go_wp2_with (go_at_call 129;((with_reducible refine(ly t.rs.A t.rs.c t.rs.l x.id x.f _ (X.g_ F).rs ar).mono ?_);rintro e ai⟨rfl,S⟩;replace V:=V.g_ S;replace hR:=hR.g_ S;replace z:=z.g_ S;replace N:=N.g_ S;replace F:=F.trans S))
    go_roundw
    case rel=>exact⟨k+1,A',c',rs,by omega,by go_num,V,hR,z,N,by rw[bG.out,aY.out],F⟩
    case measure=>simp[intOf];omega
  .have bQ:=h_ (show k=t.gs.l.length by omega)
   have aL:¬(k:Int)<(t.gs.l.length:Int):=by omega
   have aU:=z.f_ 0;have aE:wr.cell? (c_ w.heap.size 37)=some (.slice t.rs.A t.rs.l.length t.rs.c):=(V.f_ 37).trans rfl
   go_wp2_with (go_at_call 125;((with_reducible refine(nG A' c' rs t.rs.A t.rs.c t.rs.l _ N m (X.g_ F).rs ar).mono ?_);unfold l0;rintro e ae⟨a6,c5,a,rfl,y,d,am⟩;have s:=h_ d;clear d;have bD:=hR.g_ am;have bH:=bD.hm 0;have aS:=bD.f_ 0))
   have hE:=bD.hJ 0 (.slice a6 a.length c5);refine rr_ #[.slice a6 a.length c5] hE underlying35 ⟨a6,c5,a,rfl,?_,?_,?_⟩
   .exact y.ig bD d_ d_ ((D_ _ _).setCell (.inl s_) _)
   .rw[s.out,q.out,aT.out,bQ.out,Fc]
   .exact(F.trans am).setCell (.inr p_) _
end Go.Proofs.YtenbhdilndfaeaaGreat
