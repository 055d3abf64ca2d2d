import Derived.Test.YtenbhdilndfaeaaGreatM03
set_option maxRecDepth 100000
set_option maxHeartbeats 0
set_option linter.all false
namespace Go.Proofs.YtenbhdilndfaeaaGreat
open Go.RowKit Go.Proofs.Tryz
variable{G:Prop}{g k:Nat}{ty:TypeId}{cs cur:Array Value}{α:Type}
theorem Ih(h:G:=by
 have bS:k=n:=o_;have aQ:=s.f_ 0;have bH:=E.hH 0;have bj:=E.f_ 0;go_wp2;have hE:=E.hW 0 (.slice A' rs.length c');refine rr_ #[.slice A' rs.length c'] hE underlying35 ⟨A',c',rs,rfl,?_,?_,?_⟩
 .exact z.iu E d_ d_ ((F_ _ _).setCell (.inl s_) _)
 .rw[q.out,bS,<-j.out,FD]
 .exact F.setCell (.inr s_) _):G:=h
theorem IY(h:G:=by
 have bj:(l[k].id==id)=true:=zu t0;have bn:(l[k].f==f)=false:=zu t1;clear t0 t1;exact JU):G:=h
theorem Ji(h:G:=by
 have bj:(l[k].id==id)=false:=zu t0;exact JL):G:=h
theorem Jl(h:G:=by
 have bj:(l[k].id==id)=true:=zu t0;have bn:(l[k].f==f)=true:=zu t1;clear t0 t1;exact KY):G:=h
theorem JL(h:G:=by
 clear t0;exact JU):G:=h
theorem JN(h:G:=by
 have HA:=h_ (show jt l n=0 by unfold jt;rw[Q_ o_]);exact Ld):G:=h
theorem JU(h:G:=by
 go_wp2;go_roundw
 case rel=>exact⟨k+1,o_,gn,by rw[aI.out,kB _ _ _ _ o_ aR.out],F.alloc _⟩
 case measure=>exact mz):G:=h
theorem Kh(h:G:=by
 go_roundw
 case rel=>exact⟨k+1,A',c',rs,o_,gn,s,E,z,by rw[bL.out,bP.out],F⟩
 case measure=>exact mz):G:=h
theorem KY(h:G:=by
 go_wp2;go_ret;exact⟨j9 (by rw[aI.out,lO _ _ _ _ o_ aR.out]),F.alloc _⟩):G:=h
theorem Ld(h:G:=by
 go_enter func94,ntmps94
 go_wp2;go_ret;exact⟨j9 (by rw[HA.out]),I⟩):G:=h
structure Cl where
 id:Int
 f:Int
 v:Vl
 deriving DecidableEq,Inhabited
def Cl.E(c:Cl):List Value:=[i_ c.id,i_ c.f,.bool c.v.r,i_ c.v.n]
structure Dl where
 id:Int
 f:Int
 op:Int
 v:Vl
 deriving DecidableEq,Inhabited
def Dl.E(c:Dl):List Value:=[i_ c.id,i_ c.f,i_ c.op,.bool c.v.r,i_ c.v.n]
structure Ac where
 ask:Bool
 v:Int
 k2:Int
 deriving DecidableEq,Inhabited
def Ac.E(c:Ac):List Value:=[.bool c.ask,i_ c.v,i_ c.k2]
structure Fo where
 fr:Int
 dst:Int
 n:Int
 deriving DecidableEq,Inhabited
def Fo.E(c:Fo):List Value:=[i_ c.fr,i_ c.dst,i_ c.n]
theorem rg(c:Cl):(Cl.E c).length=4:=rfl
theorem py(c:Dl):(Dl.E c).length=5:=rfl
theorem oO(c:Fo):(Fo.E c).length=3:=rfl
theorem wT(c:Rw):(Rw.E c).length=2:=rfl
theorem pA(l:List Cl):∀u∈l.flatMap Cl.E,u.oneCell'=true:=qt _ (λa u hu=>by simp[Cl.E]at hu;rcases hu with rfl|rfl|rfl|rfl<;>rfl) l
theorem tj(l:List Dl):∀u∈l.flatMap Dl.E,u.oneCell'=true:=qt _ (λa u hu=>by simp[Dl.E]at hu;rcases hu with rfl|rfl|rfl|rfl|rfl<;>rfl) l
theorem tz(l:List Ac):∀u∈l.flatMap Ac.E,u.oneCell'=true:=qt _ (λa u hu=>by simp[Ac.E]at hu;rcases hu with rfl|rfl|rfl<;>rfl) l
theorem uM(l:List Fo):∀u∈l.flatMap Fo.E,u.oneCell'=true:=qt _ (λa u hu=>by simp[Fo.E]at hu;rcases hu with rfl|rfl|rfl<;>rfl) l
theorem infoCl:(prog.info? 116).map (λi=>(i.zero,i.size,i.bytes))=some (some (.agg #[i_ 0,i_ 0,.bool false,i_ 0]),4,32):=by kernel_rfl
theorem infoDl:(prog.info? 124).map (λi=>(i.zero,i.size,i.bytes))=some (some (.agg #[i_ 0,i_ 0,i_ 0,.bool false,i_ 0]),5,40):=by kernel_rfl
theorem infoAc:(prog.info? 162).map (λi=>(i.zero,i.size,i.bytes))=some (some (.agg #[.bool false,i_ 0,i_ 0]),3,24):=by kernel_rfl
theorem infoFo:(prog.info? 168).map (λi=>(i.zero,i.size,i.bytes))=some (some (.agg #[i_ 0,i_ 0,i_ 0]),3,24):=by kernel_rfl
def Cs(w:World)(A:OA)(l:List Cl):Prop:=Sl w 116 4 A l.length (l.flatMap Cl.E)
def Ds(w:World)(A:OA)(l:List Dl):Prop:=Sl w 124 5 A l.length (l.flatMap Dl.E)
def As(w:World)(A:OA)(l:List Ac):Prop:=Sl w 162 3 A l.length (l.flatMap Ac.E)
def Fs(w:World)(A:OA)(l:List Fo):Prop:=Sl w 168 3 A l.length (l.flatMap Fo.E)
section
variable{w w':World}{A:OA}
theorem Cs.hG{l:List Cl}(h:Cs w A l)(hg:Gr [] w w'):Cs w' A l:=Sl.hG h hg
theorem Ds.hG{l:List Dl}(h:Ds w A l)(hg:Gr [] w w'):Ds w' A l:=Sl.hG h hg
theorem As.hG{l:List Ac}(h:As w A l)(hg:Gr [] w w'):As w' A l:=Sl.hG h hg
theorem Fs.hG{l:List Fo}(h:Fs w A l)(hg:Gr [] w w'):Fs w' A l:=Sl.hG h hg
theorem Cs.at_{l:List Cl}(h:Cs w A l)(hk:k<l.length):∃b off,A=some (c_ b off)/\w.cell? (c_ b (off+k*4))=some (i_ l[k].id)/\w.cell? (c_ b (off+k*4+1))=some (i_ l[k].f)/\w.cell? (c_ b (off+k*4+2))=some (.bool l[k].v.r)/\w.cell? (c_ b (off+k*4+3))=some (i_ l[k].v.n):=Kb
theorem Ds.at_{l:List Dl}(h:Ds w A l)(hk:k<l.length):∃b off,A=some (c_ b off)/\w.cell? (c_ b (off+k*5))=some (i_ l[k].id)/\w.cell? (c_ b (off+k*5+1))=some (i_ l[k].f)/\w.cell? (c_ b (off+k*5+2))=some (i_ l[k].op)/\w.cell? (c_ b (off+k*5+3))=some (.bool l[k].v.r)/\w.cell? (c_ b (off+k*5+4))=some (i_ l[k].v.n):=JX
theorem Fs.at_{l:List Fo}(h:Fs w A l)(hk:k<l.length):∃b off,A=some (c_ b off)/\w.cell? (c_ b (off+k*3))=some (i_ l[k].fr)/\w.cell? (c_ b (off+k*3+1))=some (i_ l[k].dst)/\w.cell? (c_ b (off+k*3+2))=some (i_ l[k].n):=by
 obtain⟨b,off,hA,hc⟩:=Sl.row oO h hk;exact⟨b,off,hA,hc 0 _ rfl,hc 1 _ rfl,hc 2 _ rfl⟩
end
structure Sv(α:Type) where
 A:Option Addr
 c:Nat
 l:List α
def Sv.ok{α:Type}(s:Sv α):Prop:=s.l.length<=s.c
structure Tk where
 hS:Int
 run:Int
 ik:Bool
 pc:Int
 r:Nat->Vl
 gs:Sv Cl
 rs:Sv Cl
 ws:Sv Cl
 nw:Sv Rw
 ds:Sv Dl
 h7:Sv Ac
 h8:Int
 next:Int
 hZ:Bool
 v:Vl
 hM:Int
def Tk.g_(t:Tk):Array Value:=#[i_ t.hS,i_ t.run,.bool t.ik,i_ t.pc,.bool (t.r 0).r,i_ (t.r 0).n,.bool (t.r 1).r,i_ (t.r 1).n,.bool (t.r 2).r,i_ (t.r 2).n,.bool (t.r 3).r,i_ (t.r 3).n,.bool (t.r 4).r,i_ (t.r 4).n,.bool (t.r 5).r,i_ (t.r 5).n,.bool (t.r 6).r,i_ (t.r 6).n,.bool (t.r 7).r,i_ (t.r 7).n,.bool (t.r 8).r,i_ (t.r 8).n,.bool (t.r 9).r,i_ (t.r 9).n,.bool (t.r 10).r,i_ (t.r 10).n,.bool (t.r 11).r,i_ (t.r 11).n,.bool (t.r 12).r,i_ (t.r 12).n,.bool (t.r 13).r,i_ (t.r 13).n,.bool (t.r 14).r,i_ (t.r 14).n,.bool (t.r 15).r,i_ (t.r 15).n,.slice t.gs.A t.gs.l.length t.gs.c,.slice t.rs.A t.rs.l.length t.rs.c,.slice t.ws.A t.ws.l.length t.ws.c,.slice t.nw.A t.nw.l.length t.nw.c,.slice t.ds.A t.ds.l.length t.ds.c,.slice t.h7.A t.h7.l.length t.h7.c,i_ t.h8,i_ t.next,.bool t.hZ,.bool t.v.r,i_ t.v.n,i_ t.hM]
structure lb(w:World)(t:Tk):Prop where
 gs:Cs w t.gs.A t.gs.l
 rs:Cs w t.rs.A t.rs.l
 ws:Cs w t.ws.A t.ws.l
 nw:Os w t.nw.A t.nw.l
 nr:oa w t.nw.l
 ds:Ds w t.ds.A t.ds.l
 h7:As w t.h7.A t.h7.l
 x0:t.gs.ok
 kZ:t.rs.ok
 u_:t.ws.ok
 sY:t.nw.ok
 rS:t.ds.ok
 pE:t.h7.ok
theorem lb.hG{w w':World}{t:Tk}(h:lb w t)(hg:Gr [] w w'):lb w' t:=
 ⟨h.gs.hG hg,h.rs.hG hg,h.ws.hG hg,h.nw.hG hg,h.nr.hG hg,h.ds.hG hg,h.h7.hG hg,h.x0,h.kZ,h.u_,h.sY,h.rS,h.pE⟩
theorem lb.iu{w w':World}{t:Tk}(h:lb w t)(hk:Bk w g ty cs)(ao:116≠ty/\56≠ty/\38≠ty/\124≠ty/\162≠ty)(hg:Gr [g] w w'):lb w' t:=
 ⟨Sl.iu h.gs hk ao.1 hg,Sl.iu h.rs hk ao.1 hg,Sl.iu h.ws hk ao.1 hg,Sl.iu h.nw hk ao.2.1 hg,h.nr.iu hk ao.2.2.1 hg,Sl.iu h.ds hk ao.2.2.2.1 hg,Sl.iu h.h7 hk ao.2.2.2.2 hg,h.x0,h.kZ,h.u_,h.sY,h.rS,h.pE⟩
structure i3 where
 hS:Int
 run:Int
 ik:Bool
 pc:Int
 r:Nat->Vl
 gs:List Cl
 rs:List Cl
 ws:List Cl
 nw:List Ob
 ds:List Dl
 h7:List Ac
 h8:Int
 next:Int
 hZ:Bool
 v:Vl
 hM:Int
def Tk.p(t:Tk):i3:=⟨t.hS,t.run,t.ik,t.pc,t.r,t.gs.l,t.rs.l,t.ws.l,hY t.nw.l,t.ds.l,t.h7.l,t.h8,t.next,t.hZ,t.v,t.hM⟩
structure i3.sm(n:Nat)(t:i3):Prop where
 gs:t.gs.length<=n
 rs:t.rs.length<=n
 ws:t.ws.length<=n
 nw:t.nw.length<=n
 ds:t.ds.length<=n
 h7:t.h7.length<=n
def Ch:Nat->Vl:=λ_=>default
def Sv.nil{α:Type}:Sv α:=⟨none,0,[]⟩
def Tk.zero:Tk:=⟨0,0,false,0,Ch,.nil,.nil,.nil,.nil,.nil,.nil,0,0,false,default,0⟩
theorem Tk.size(t:Tk):t.g_.size=48:=rfl
theorem Tk.one(t:Tk):t.g_.all (·.oneCell')=true:=by unfold Tk.g_;simp[Value.oneCell']
theorem lb.nil(w:World)(t:Tk)(h1:t.gs=.nil)(h2:t.rs=.nil)(h3:t.ws=.nil)(au:t.nw=.nil)(aq:t.ds=.nil)(aU:t.h7=.nil):lb w t:=by
 obtain⟨a1,G,a3,a4,a5,a,f,b,a9,c,d,e,g,i,j,l⟩:=t;simp only at h1 h2 h3 au aq aU;subst h1;subst h2;subst h3;subst au;subst aq;subst aU;exact⟨Fm _ _ _ _,Fm _ _ _ _,Fm _ _ _ _,Fm _ _ _ _,λr hr=>by simp[Sv.nil]at hr,Fm _ _ _ _,Fm _ _ _ _,H_ _,H_ _,H_ _,H_ _,H_ _,H_ _⟩
structure Ef where
 h6:Int
 pc:Int
 r:Nat->Vl
 rs:Sv Cl
 ws:Sv Cl
 nw:Sv Rw
 ds:Sv Dl
 h7:Sv Ac
 kx:Int
 hZ:Bool
 v:Vl
def Ef.g_(x:Ef):Array Value:=#[i_ x.h6,i_ x.pc,.bool (x.r 0).r,i_ (x.r 0).n,.bool (x.r 1).r,i_ (x.r 1).n,.bool (x.r 2).r,i_ (x.r 2).n,.bool (x.r 3).r,i_ (x.r 3).n,.bool (x.r 4).r,i_ (x.r 4).n,.bool (x.r 5).r,i_ (x.r 5).n,.bool (x.r 6).r,i_ (x.r 6).n,.bool (x.r 7).r,i_ (x.r 7).n,.bool (x.r 8).r,i_ (x.r 8).n,.bool (x.r 9).r,i_ (x.r 9).n,.bool (x.r 10).r,i_ (x.r 10).n,.bool (x.r 11).r,i_ (x.r 11).n,.bool (x.r 12).r,i_ (x.r 12).n,.bool (x.r 13).r,i_ (x.r 13).n,.bool (x.r 14).r,i_ (x.r 14).n,.bool (x.r 15).r,i_ (x.r 15).n,.slice x.rs.A x.rs.l.length x.rs.c,.slice x.ws.A x.ws.l.length x.ws.c,.slice x.nw.A x.nw.l.length x.nw.c,.slice x.ds.A x.ds.l.length x.ds.c,.slice x.h7.A x.h7.l.length x.h7.c,i_ x.kx,.bool x.hZ,.bool x.v.r,i_ x.v.n]
structure sp(w:World)(x:Ef):Prop where
 rs:Cs w x.rs.A x.rs.l
 ws:Cs w x.ws.A x.ws.l
 nw:Os w x.nw.A x.nw.l
 nr:oa w x.nw.l
 ds:Ds w x.ds.A x.ds.l
 h7:As w x.h7.A x.h7.l
 kZ:x.rs.ok
 u_:x.ws.ok
 sY:x.nw.ok
 rS:x.ds.ok
 pE:x.h7.ok
theorem sp.hG{w w':World}{t:Ef}(h:sp w t)(hg:Gr [] w w'):sp w' t:=
 ⟨h.rs.hG hg,h.ws.hG hg,h.nw.hG hg,h.nr.hG hg,h.ds.hG hg,h.h7.hG hg,h.kZ,h.u_,h.sY,h.rS,h.pE⟩
theorem Ef.one(t:Ef):t.g_.all (·.oneCell')=true:=by unfold Ef.g_;simp[Value.oneCell']
theorem sp.iu{w w':World}{t:Ef}(h:sp w t)(hk:Bk w g ty cs)(ao:116≠ty/\56≠ty/\38≠ty/\124≠ty/\162≠ty)(hg:Gr [g] w w'):sp w' t:=
 ⟨Sl.iu h.rs hk ao.1 hg,Sl.iu h.ws hk ao.1 hg,Sl.iu h.nw hk ao.2.1 hg,h.nr.iu hk ao.2.2.1 hg,Sl.iu h.ds hk ao.2.2.2.1 hg,Sl.iu h.h7 hk ao.2.2.2.2 hg,h.kZ,h.u_,h.sY,h.rS,h.pE⟩
structure pX where
 h6:Int
 pc:Int
 r:Nat->Vl
 rs:List Cl
 ws:List Cl
 nw:List Ob
 ds:List Dl
 h7:List Ac
 kx:Int
 hZ:Bool
 v:Vl
def Ef.p(t:Ef):pX:=⟨t.h6,t.pc,t.r,t.rs.l,t.ws.l,hY t.nw.l,t.ds.l,t.h7.l,t.kx,t.hZ,t.v⟩
def iJ(pc:Int)(r:Nat->Vl):Array Value:=#[i_ pc,.bool (r 0).r,i_ (r 0).n,.bool (r 1).r,i_ (r 1).n,.bool (r 2).r,i_ (r 2).n,.bool (r 3).r,i_ (r 3).n,.bool (r 4).r,i_ (r 4).n,.bool (r 5).r,i_ (r 5).n,.bool (r 6).r,i_ (r 6).n,.bool (r 7).r,i_ (r 7).n,.bool (r 8).r,i_ (r 8).n,.bool (r 9).r,i_ (r 9).n,.bool (r 10).r,i_ (r 10).n,.bool (r 11).r,i_ (r 11).n,.bool (r 12).r,i_ (r 12).n,.bool (r 13).r,i_ (r 13).n,.bool (r 14).r,i_ (r 14).n,.bool (r 15).r,i_ (r 15).n]
structure X1 where
 js:Sv In
 hI:Int
 hF:Int
 jY:Int
 sr:Nat->Vl
 h:Sv Rw
 nx:Int
 e:Ef
 hO:Bool
def X1.g_(x:X1):Array Value:=#[.slice x.js.A x.js.l.length x.js.c,i_ x.hI,i_ x.hF,i_ x.jY,.bool (x.sr 0).r,i_ (x.sr 0).n,.bool (x.sr 1).r,i_ (x.sr 1).n,.bool (x.sr 2).r,i_ (x.sr 2).n,.bool (x.sr 3).r,i_ (x.sr 3).n,.bool (x.sr 4).r,i_ (x.sr 4).n,.bool (x.sr 5).r,i_ (x.sr 5).n,.bool (x.sr 6).r,i_ (x.sr 6).n,.bool (x.sr 7).r,i_ (x.sr 7).n,.bool (x.sr 8).r,i_ (x.sr 8).n,.bool (x.sr 9).r,i_ (x.sr 9).n,.bool (x.sr 10).r,i_ (x.sr 10).n,.bool (x.sr 11).r,i_ (x.sr 11).n,.bool (x.sr 12).r,i_ (x.sr 12).n,.bool (x.sr 13).r,i_ (x.sr 13).n,.bool (x.sr 14).r,i_ (x.sr 14).n,.bool (x.sr 15).r,i_ (x.sr 15).n,.slice x.h.A x.h.l.length x.h.c,i_ x.nx,i_ x.e.h6,i_ x.e.pc,.bool (x.e.r 0).r,i_ (x.e.r 0).n,.bool (x.e.r 1).r,i_ (x.e.r 1).n,.bool (x.e.r 2).r,i_ (x.e.r 2).n,.bool (x.e.r 3).r,i_ (x.e.r 3).n,.bool (x.e.r 4).r,i_ (x.e.r 4).n,.bool (x.e.r 5).r,i_ (x.e.r 5).n,.bool (x.e.r 6).r,i_ (x.e.r 6).n,.bool (x.e.r 7).r,i_ (x.e.r 7).n,.bool (x.e.r 8).r,i_ (x.e.r 8).n,.bool (x.e.r 9).r,i_ (x.e.r 9).n,.bool (x.e.r 10).r,i_ (x.e.r 10).n,.bool (x.e.r 11).r,i_ (x.e.r 11).n,.bool (x.e.r 12).r,i_ (x.e.r 12).n,.bool (x.e.r 13).r,i_ (x.e.r 13).n,.bool (x.e.r 14).r,i_ (x.e.r 14).n,.bool (x.e.r 15).r,i_ (x.e.r 15).n,.slice x.e.rs.A x.e.rs.l.length x.e.rs.c,.slice x.e.ws.A x.e.ws.l.length x.e.ws.c,.slice x.e.nw.A x.e.nw.l.length x.e.nw.c,.slice x.e.ds.A x.e.ds.l.length x.e.ds.c,.slice x.e.h7.A x.e.h7.l.length x.e.h7.c,i_ x.e.kx,.bool x.e.hZ,.bool x.e.v.r,i_ x.e.v.n,.bool x.hO]
structure Sh where
 a:Bool
 b:Bool
 c:Bool
 n:Int
 deriving DecidableEq,Inhabited
def Sh.E(s:Sh):List Value:=[.bool s.a,.bool s.b,.bool s.c,i_ s.n]
def i5:List Sh:=[⟨false,false,false,0⟩,⟨true,false,false,1⟩,⟨true,false,false,0⟩,⟨true,true,false,0⟩,⟨true,true,true,2⟩,⟨true,true,false,3⟩,⟨true,true,false,3⟩,⟨true,false,false,4⟩,⟨true,false,false,5⟩,⟨true,false,false,5⟩,⟨true,false,false,5⟩,⟨false,false,false,6⟩,⟨true,false,false,6⟩,⟨false,false,false,7⟩,⟨true,false,false,0⟩,⟨true,false,false,0⟩,⟨true,false,false,0⟩,⟨false,false,false,8⟩,⟨true,false,false,0⟩,⟨true,false,false,0⟩,⟨false,false,false,5⟩,⟨false,false,false,9⟩]
def qr:List Value:=i5.flatMap Sh.E
theorem Bl:∀k,k<22->0<=(i5.getD k default).n/\(i5.getD k default).n<=9:=by decide
theorem wP(w:World):Calls prog 146 #[] w λe w'=>∃g:Nat,e=.returned (.slice (j_ g) 22 22)/\Sl w' 274 4 (j_ g) 22 qr/\Gr [] w w':=by
 go_enter func146,ntmps146
 go_wp2;go_ret;exact⟨w.heap.size,rfl,Sl.new w 274 4 _ 22 _ rfl rfl,(F_ _ _).alloc _⟩
def jS(l:List In)(i:Nat)(x:In)(s:Sh):Bool:=
 if x.op<0∨21<x.op then false
 else if(!l8 x.a s.a||(x.op !=13&&x.op !=10&& !l8 x.b s.b)||(x.op !=13&& !l8 x.c s.c)) then false
 else if(x.op==13&&(decide (x.b<0)||decide (4<x.b)||decide (x.c<x.b)||decide (64<x.c)||iA l ((i:Int)+1) !=21))||(x.op==10&& !rl x.b) then false
 else if s.n=0 then x.n==0
 else if s.n=2 then pn x.n&&decide (0<=x.n)&&decide (x.n<100)
 else if s.n=3 then decide (0<=x.n)&&decide (x.n<16)
 else if s.n=4 then decide (0<=x.n)&&decide (x.n<=16)
 else if s.n=5 then decide (0<=x.n)&&decide (x.n<64)&&(x.op !=20||iA l ((i:Int)-1)==21)
 else if s.n=6 then decide (0<=iA l x.n)&&iA l x.n !=20&&(decide ((i:Int)<x.n)||iA l x.n==21)
 else if s.n=7 then iA l x.n==21
 else if s.n=8 then x.n==0||iA l x.n==21
 else true
def kU(l:List In)(i:Nat):Bool:=jS l i (l.getD i default) (i5.getD (l.getD i default).op.toNat default)
def l_{α:Type}(p:α->Bool):List α->Nat
 |[]=>0
 |x::l=>if p x then l_ p l+1 else 0
theorem po(p:α->Bool)(l:List α):l_ p l<=l.length:=by
 induction l with
 |nil=>simp[l_]
 |cons x l Z=>simp only[l_,Z_];split<;>omega
theorem oo{p:α->Bool}{l:List α}(hk:k<l.length)(hp:p l[k]=true):l_ p (l.drop k)=l_ p (l.drop (k+1))+1:=by
 rw[R_ hk];simp[l_,hp]
theorem nC{p:α->Bool}{l:List α}(hk:k<l.length)(hp:p l[k]=false):l_ p (l.drop k)=0:=by
 rw[R_ hk];simp[l_,hp]
theorem q8{p:α->Bool}{l:List α}(hk:l.length<=k):l_ p (l.drop k)=0:=by
 rw[E3 hk]
 rfl
def cat(l:List Cl)(id f:Int):Int:=iO (λc:Cl=>c.id==id&&c.f==f) l 0
def ou(id f:Int)(c:Cl):Bool:=decide (c.id<id)||(c.id==id&&decide (c.f<f))
def tq(l:List Cl)(id f:Int):Nat:=l_ (ou id f) l
def kw(l:List Cl)(c:Cl):List Cl:=
 if 0<=cat l c.id c.f then l.set (cat l c.id c.f).toNat c else l.take (tq l c.id c.f)++([c]++l.drop (tq l c.id c.f))
def o2(l:List Dl)(id f:Int):Int:=iO (λc:Dl=>c.id==id&&c.f==f) l 0
def nT(id f:Int)(c:Dl):Bool:=decide (c.id<id)||(c.id==id&&decide (c.f<f))
def ra(l:List Dl)(id f:Int):Nat:=l_ (nT id f) l
def qF(h:List Ob)(c:Cl):List Ob:=match jx h c.id c.f with
 |none=>h
 |some _=>kO h c.id c.f c.v
def i7(h:List Ob)(l:List Cl):List Ob:=l.foldl qF h
def o0(h:List Ob)(d:Dl):List Ob:=match jx h d.id d.f with
 |none=>h
 |some v=>if(iF d.op v d.v).2=0 then kO h d.id d.f (iF d.op v d.v).1 else h
def kf(h:List Ob)(l:List Dl):List Ob:=l.foldl o0 h
def kD(rs:List Cl)(h:List Ob)(g:Cl):List Ob:=if cat rs g.id g.f<0 then i7 h [g] else h
def before(t:i3)(view:List Ob):List Ob:=i7 (t.gs.foldl (kD t.rs) view) t.rs
def jr(t:i3)(view:List Ob):List Ob:=kf (i7 (t.nw.foldl lp (before t view)) t.ws) t.ds
def lG(h:List Ob)(t:i3):List Ob:=kf (i7 (t.nw.foldl lp h) t.ws) t.ds
def ug(o:Ob)(f:Int)(v:Vl):Ob:=⟨o.id,if 0<=f/\f<(o.fs.length:Int) then o.fs.set f.toNat v else o.fs⟩
def jX(t:i3)(c:Cl):i3:=
 if jz t.nw c.id<0 then{t with ws:=kw t.ws c} else{t with nw:=t.nw.modify (jz t.nw c.id).toNat (λo=>ug o c.f c.v)}
def jw(t:i3)(view:List Ob)(id f:Int):Option i3:=
 if o2 t.ds id f<0 then some t else
 match jx (before t view) id f with
 |none=>none
 |some b=>if b.r=true then none else
  some (jX {t with rs:=kw t.rs ⟨id,f,b⟩,ds:=t.ds.eraseIdx (o2 t.ds id f).toNat} ⟨id,f,(jx (jr t view) id f).getD default⟩)
def take(t:i3)(d:Dl):Option i3:=
 if t.ik=true∨0<=jz t.nw d.id∨0<=cat t.ws d.id d.f∨0<=cat t.rs d.id d.f then none
 else if o2 t.ds d.id d.f<0 then some {t with ds:=t.ds.take (ra t.ds d.id d.f)++([d]++t.ds.drop (ra t.ds d.id d.f))}
 else if(t.ds.getD (o2 t.ds d.id d.f).toNat default).op≠d.op then none
 else some {t with ds:=t.ds.modify (o2 t.ds d.id d.f).toNat (λx=>{x with v:=(iF d.op x.v d.v).1})}
def jI(l:List Cl)(d:Dl):List Cl:=l.filter λc=>c.id !=d.id||c.f !=d.f
def jM:i3->List Cl->List Cl->List Dl->i3 × List Cl × List Cl
 |t,rs,ws,[]=>(t,rs,ws)
 |t,rs,ws,d::l=>match take t d with
  |none=>jM t rs ws l
  |some t'=>jM t' (jI rs d) (jI ws d) l
def p8(view:List Ob)(t:i3)(c:Cl):Option i3:=
 if 0<=jz t.nw c.id∨0<=cat t.ws c.id c.f∨0<=cat t.rs c.id c.f then some t
 else if 0<=o2 t.ds c.id c.f then jw t view c.id c.f
 else some {t with rs:=kw t.rs c}
def j1(view:List Ob):i3->List Cl->Option i3
 |t,[]=>some t
 |t,c::l=>match p8 view t c with
  |none=>none
  |some t'=>j1 view t' l
def rQ(view:List Ob)(t:i3)(c:Cl):Option i3:=(jw t view c.id c.f).map (jX · c)
def km(view:List Ob):i3->List Cl->Option i3
 |t,[]=>some t
 |t,c::l=>match rQ view t c with
  |none=>none
  |some t'=>km view t' l
def record(t:i3)(view:List Ob)(e:pX):Option i3:=
 let a:=jM t e.rs e.ws e.ds
 match j1 view a.1 a.2.1 with
 |none=>none
 |some t1=>match km view {t1 with nw:=t1.nw++e.nw} a.2.2 with
  |none=>none
  |some af=>some {af with h7:=af.h7++e.h7}
def jq:Nat->Vl:=λ_=>default
def q2(r:Nat->Vl)(a:Int)(v:Vl):Nat->Vl:=λj=>if j=a.toNat then v else r j
structure XP where
 js:List In
 hI:Int
 hF:Int
 jY:Int
 sr:Nat->Vl
 h:List Ob
 nx:Int
 e:pX
 hO:Bool
def X1.p(x:X1):XP:=⟨x.js.l,x.hI,x.hF,x.jY,x.sr,hY x.h.l,x.nx,x.e.p,x.hO⟩
def i9(l:List In)(n:Int):Bool:=decide (0<=n)&&(decide (n<(l.length:Int))&&(l.getD n.toNat default).op==21)
def hX(x:XP)(id f:Int):XP × Vl:=match jx x.h id f with
 |none=>({x with hO:=true},default)
 |some v=>if 0<=cat x.e.rs id f then(x,v) else({x with e:={x.e with rs:=x.e.rs++[⟨id,f,v⟩]}},v)
def ib(x:XP)(id f:Int)(v:Vl):XP:={x with e:={x.e with ws:=x.e.ws++[⟨id,f,v⟩]}}
def iI(x:XP):XP:={x with hO:=x.hO||(match kn x.h 1 with|none=>true|some o=>decide ((o.fs.length:Int)<3))}
def iM(h:List Ob)(id:Int):Int:=match kn h id with
 |none=>0
 |some o=>o.fs.length
def hU(x:XP):XP × Int × Int:=
 let x:=iI x
 if x.hO=true then(x,0,0) else
 let y:=hX x 1 0
 ({y.1 with hO:=y.1.hO||(!y.2.r||(match kn y.1.h y.2.n with|none=>true|some o=>decide ((o.fs.length:Int)<3)))},y.2.n,iM y.1.h y.2.n)
def kL(x:XP):XP:={x with hO:=true}
def jm(x:XP)(v:Vl):XP:=
 let a:=hU x
 if a.1.hO=true then a.1 else
 let b:=hX a.1 a.2.1 2
 if b.2.r=true∨(b.2.n≠0/\i9 b.1.js b.2.n=false) then kL b.1 else
 if b.2.n≠0 then
  let y:=ib (ib b.1 a.2.1 2 default) 1 2 v
  {y with e:={y.e with pc:=b.2.n,r:=jq}}
 else
  let p:=hX b.1 a.2.1 0
  if p.2.r=false then kL p.1 else
  if p.2.n=0 then{p.1 with e:={p.1.e with h6:=2,hZ:=true,v:=v,pc:=p.1.jY,r:=p.1.sr}}
  else
   let y:=ib (ib p.1 1 0 p.2) 1 2 v
   {y with e:={y.e with h6:=1,kx:=y.hF,pc:= -1,r:=jq}}
def jk(x:XP)(n:Int):XP:=jm x ⟨false,n⟩
def iz(x:XP)(v:Vl)(f:Int):XP × Int × Bool:=
 if v.r=false then(jk x (-2),0,false) else
 if v.n=0 then(jk x (-1),0,false) else
 match kn x.h v.n with
 |none=>(kL x,0,false)
 |some o=>if(o.fs.length:Int)<=f then(jk x (-1),0,false) else(x,v.n,true)
def hJ(x:XP)(n:Int):XP × Int × Int × Bool:=
 let a:=hU x
 if a.1.hO=true then(a.1,0,0,false) else
 if a.2.2<=3+n then(jk a.1 (-1),0,0,false) else(a.1,a.2.1,3+n,true)
def kW(x:XP)(a:Int)(v:Vl):XP:={x with e:={x.e with r:=q2 x.e.r a v}}
def tD(x:XP)(pc:Int):XP:={x with e:={x.e with pc:=pc}}
def jU(x:XP)(i:In):Option XP:=
 let r:=x.e.r
 if i.op=0 then some x
 else if i.op=1 then some (kW x i.a ⟨false,i.n⟩)
 else if i.op=2 then some (kW x i.a ⟨true,0⟩)
 else if i.op=3 then some (kW x i.a (r i.b.toNat))
 else if i.op=4 then
  let y:=iF i.n (r i.b.toNat) (r i.c.toNat)
  some (if y.2≠0 then jk x y.2 else kW x i.a y.1)
 else if i.op=11 then some (tD x i.n)
 else if i.op=12 then some (if(r i.a.toNat).n≠0 then x else tD x i.n)
 else if i.op=21 then some {x with e:={x.e with r:=jq,h6:=1,kx:=i.n}}
 else if i.op=16 then some (jm x (r i.a.toNat))
 else if i.op=19 then some (if(r i.a.toNat).r=true then jk x (-2) else{x with e:={x.e with h7:=[⟨false,(r i.a.toNat).n,0⟩]}})
 else none
def kK(x:XP)(i:In):Option XP:=
 if i.op≠8/\i.op≠9/\i.op≠10/\i.op≠20 then none else
 let a:=x.sr i.a.toNat
 let y:=hJ x i.n
 if y.2.2.2=false then some y.1 else
 let f:=y.2.1
 let k:=y.2.2.1
 if i.op=9 then some (ib y.1 f k a) else
 let z:=hX y.1 f k
 if i.op=8 then some (kW z.1 i.a z.2)
 else if i.op=10 then
  let q:=iF i.b z.2 a
  if q.2≠0 then some (jk z.1 q.2) else
  let u:=ib z.1 f k q.1
  some {u with e:={u.e with ds:=[⟨f,k,i.b,a⟩]}}
 else if z.2.r=true then some (jk z.1 (-2))
 else some {z.1 with e:={z.1.e with h6:=3,v:=z.2,pc:=z.1.jY,r:=z.1.sr}}
def j2(x:XP)(i:In):XP:=
 let a:=x.sr i.a.toNat
 if i.op=5 then
  let y:=iz x (x.sr i.b.toNat) i.n
  if y.2.2=true then(let z:=hX y.1 y.2.1 i.n;kW z.1 i.a z.2) else y.1
 else if i.op=6 then
  let y:=iz x (x.sr i.b.toNat) i.n
  if y.2.2=true then ib y.1 y.2.1 i.n a else y.1
 else if i.op=7 then
  kW {x with e:={x.e with nw:=[⟨x.nx,List.replicate i.n.toNat default⟩]}} i.a ⟨true,x.nx⟩
 else if i.op=13 then
  let y:=hU x
  let z:={y.1 with e:={y.1.e with nw:=[⟨y.1.nx,[⟨true,y.2.1⟩,⟨false,y.1.jY+1⟩,default]++((List.range i.b.toNat).map y.1.sr++List.replicate (i.c-i.b).toNat default)⟩]}}
  tD (ib z 1 0 ⟨true,z.nx⟩) i.n
 else if i.op=14 then
  let y:=hU x
  if y.1.hO=true then y.1 else
  let p:=hX y.1 y.2.1 0
  if p.2.r=true/\p.2.n=0 then{p.1 with e:={p.1.e with h6:=2,v:=a,pc:=p.1.jY,r:=p.1.sr}} else
  let r:=hX p.1 y.2.1 1
  if p.2.r=false∨r.2.r=true∨i9 r.1.js r.2.n=false then kL r.1 else
  tD (ib (ib r.1 1 0 p.2) 1 1 a) r.2.n
 else if i.op=15∨i.op=18 then
  let y:=iI x
  if y.hO=true then y else
  let z:=hX y 1 (if i.op=15 then 1 else 2)
  kW z.1 i.a z.2
 else if i.op=17 then
  let y:=hU x
  ib y.1 y.2.1 2 ⟨false,i.n⟩
 else x
def nS(l:List In):Bool:=(List.range l.length).all (kU l)
def jG(l:List In):Int:=((l.filter λi=>i.op==21).length:Int)
def kg:List In->Int->Bool
 |[],_=>true
 |i::l,m=>if i.op=21 then(i.n==m)&&kg l (m+1) else kg l m
def ic(c:List In)(hI hF:Int):Bool:=
 decide (1<=c.length)&&decide (c.length<=2048)&&decide (0<=hI)&&decide (hI<=64)&&(iA c 0==21)&&
 (iA c ((c.length:Int)-1)==14||iA c ((c.length:Int)-1)==16||iA c ((c.length:Int)-1)==11)&&
 nS c&&kg c 0&&(hF==jG c)
def l0:pX:=⟨0,0,jq,[],[],[],[],[],0,false,default⟩
def jg:pX:={l0 with h6:=4}
def p2(x:XP)(pc:Int):XP:=
 if pc= -1 then
  let y:=iI x
  if y.hO=true then y else
  let z:=hX y 1 2
  jm z.1 z.2
 else
  let i:=x.js.getD pc.toNat default
  match jU x i with
  |some y=>y
  |none=>match kK x i with
   |some y=>y
   |none=>j2 x i
def lm(c:List In)(hI hF pc:Int)(r:Nat->Vl)(h:List Ob)(nx:Int):pX:=
 if ic c hI hF=false∨pc< -1∨(c.length:Int)<=pc then jg else
 let y:=p2 ⟨c,hI,hF,pc,r,h,nx,{l0 with pc:=pc+1,r:=r},false⟩ pc
 if y.hO=true then jg else y.e
theorem lJ(A:OA)(c:Nat)(l:List Cl)(id f:Int)(w:World)(h:Cs w A l)(hn:l.length<=1000000000):
 Calls prog 129 #[.slice A l.length c,i_ id,i_ f] w λe w'=>e=.returned (i_ (cat l id f))/\Gr [] w w':=by
 have be:=h_ (show cat l id f=iO (λc:Cl=>c.id==id&&c.f==f) l 0 from rfl);generalize hL:l.length=n at*
 go_enter func129,ntmps129
 go_wp2
 go_loopw [11] (λi w'=>∃k:Nat,k<=n/\i=i_ k/\cat l id f=iO (λc:Cl=>c.id==id&&c.f==f) (l.drop k) k/\Gr [] w w') (λi _=>n-(intOf i).toNat)
 case atStart=>exact⟨0,O_ _,rfl,be.out,F_ _ _⟩
 case round=>
  obtain⟨k,hk,rfl,G,F⟩:=hrel;have aI:=h_ G;clear G
  by_cases ag:k<n
  .have az:k<l.length:=o_;obtain⟨b,off,rfl,bi,bq,bK,bT⟩:=(h.hG F).at_ az
   by_cases t0:l[k].id=id
   .by_cases t1:l[k].f=f
    .have aR:=h_ (show(λc:Cl=>c.id==id&&c.f==f) l[k]=true by simp[t0,t1]);exact Jl
    .have aR:=h_ (show(λc:Cl=>c.id==id&&c.f==f) l[k]=false by simp[t0,t1]);exact IY
   .have aR:=h_ (show(λc:Cl=>c.id==id&&c.f==f) l[k]=false by simp[t0]);exact Ji
  .exact Lp
theorem lU(t:Tk)(id f:Int)(w:World)(h:lb w t)(hn:t.ds.l.length<=1000000000):
 Calls prog 130 #[.agg t.g_,i_ id,i_ f] w λe w'=>e=.returned (i_ (o2 t.ds.l id f))/\Gr [] w w':=by
 have hB:=P_ w 53 t.g_;have aQ:(w.alloc (.cells t.g_ 53)).cell? (c_ w.heap.size 40)=some (.slice t.ds.A t.ds.l.length t.ds.c):=(hB.f_ 40).trans rfl;obtain⟨A,c,l,hA,hc,hl⟩:∃(A:OA) (c:Nat) (l:List Dl),t.ds.A=A/\t.ds.c=c/\t.ds.l=l:=⟨_,_,_,rfl,rfl,rfl⟩;have aw:=h.ds;rw[hA,hl]at aw;rw[hA,hc,hl]at aQ;rw[hl]at hn;have cZ:=h_ hl;clear hA hc hl h;rw[cZ.out];have be:=h_ (show o2 l id f=iO (λc:Dl=>c.id==id&&c.f==f) l 0 from rfl);generalize hL:l.length=n at*
 go_enter func130,ntmps130
 go_wp2
 go_loopw [12] (λi w'=>∃k:Nat,k<=n/\i=i_ k/\o2 l id f=iO (λc:Dl=>c.id==id&&c.f==f) (l.drop k) k/\Gr [] w w') (λi _=>n-(intOf i).toNat)
 case atStart=>exact⟨0,O_ _,rfl,be.out,(F_ _ _).alloc _⟩
 case round=>
  obtain⟨k,hk,rfl,G,F⟩:=hrel;have aI:=h_ G;clear G
  by_cases ag:k<n
  .have az:k<l.length:=o_;obtain⟨b,off,rfl,bi,bq,bK,bT,bF⟩:=(aw.hG F).at_ az
   by_cases t0:l[k].id=id
   .by_cases t1:l[k].f=f
    .have aR:=h_ (show(λc:Dl=>c.id==id&&c.f==f) l[k]=true by simp[t0,t1]);exact Jl
    .have aR:=h_ (show(λc:Dl=>c.id==id&&c.f==f) l[k]=false by simp[t0,t1]);exact IY
   .have aR:=h_ (show(λc:Dl=>c.id==id&&c.f==f) l[k]=false by simp[t0]);exact Ji
  .exact Lp
theorem oL(t:Tk)(id:Int)(w:World)(h:lb w t)(hn:t.nw.l.length<=1000000000):
 Calls prog 128 #[.agg t.g_,i_ id] w λe w'=>e=.returned (i_ (jz (hY t.nw.l) id))/\Gr [] w w':=by
 have hB:=P_ w 53 t.g_;have aQ:(w.alloc (.cells t.g_ 53)).cell? (c_ w.heap.size 39)=some (.slice t.nw.A t.nw.l.length t.nw.c):=(hB.f_ 39).trans rfl;obtain⟨A,c,l,hA,hc,hl⟩:∃(A:OA) (c:Nat) (l:List Rw),t.nw.A=A/\t.nw.c=c/\t.nw.l=l:=⟨_,_,_,rfl,rfl,rfl⟩;have aw:=h.nw;rw[hA,hl]at aw;rw[hA,hc,hl]at aQ;rw[hl]at hn;have cZ:=h_ hl;clear hA hc hl h;rw[cZ.out];have be:=h_ (show jz (hY l) id=iO (λr:Rw=>r.o.id==id) l 0 by unfold jz hY;exact qd _ _ _ _ _ λ_ _=>rfl);generalize hL:l.length=n at*
 go_enter func128,ntmps128
 go_wp2
 go_loopw [10] (λi w'=>∃k:Nat,k<=n/\i=i_ k/\jz (hY l) id=iO (λr:Rw=>r.o.id==id) (l.drop k) k/\Gr [] w w') (λi _=>n-(intOf i).toNat)
 case atStart=>exact⟨0,O_ _,rfl,be.out,(F_ _ _).alloc _⟩
 case round=>
  obtain⟨k,hk,rfl,G,F⟩:=hrel;have aI:=h_ G;clear G
  by_cases ag:k<n
  .have az:k<l.length:=o_;obtain⟨b,off,rfl,bi,bq⟩:=(aw.hG F).at_ az
   by_cases t0:l[k].o.id=id
   .have aR:=h_ (show(λr:Rw=>r.o.id==id) l[k]=true by simp[t0]);have bj:(l[k].o.id==id)=true:=zu t0;clear t0;exact KY
   .have aR:=h_ (show(λr:Rw=>r.o.id==id) l[k]=false by simp[t0]);have bj:(l[k].o.id==id)=false:=zu t0;exact JL
  .exact Lp
structure mj(w:World)(A:OA)(c:Nat)(l:List Rw):Prop where
 os:Os w A l
 kZ:oa w l
 lW:l.length<=c
theorem mj.hG{w w':World}{A:OA}{c:Nat}{l:List Rw}(h:mj w A c l)(hg:Gr [] w w'):mj w' A c l:=⟨h.os.hG hg,h.kZ.hG hg,h.lW⟩
theorem mj.alloc{w:World}{A:OA}{c:Nat}{l:List Rw}(h:mj w A c l)(o:Obj):mj (w.alloc o) A c l:=h.hG ((F_ [] w).alloc o)
theorem mj.iu{w w':World}{A:OA}{c:Nat}{l:List Rw}{t:TypeId}(h:mj w A c l)(hk:Bk w g t cs)(h1:56≠t)(h2:38≠t)(hg:Gr [g] w w'):mj w' A c l:=
 ⟨Sl.iu h.os hk h1 hg,h.kZ.iu hk h2 hg,h.lW⟩
def mf(P:List Ob)(w:World)(e:Ending)(w':World):Prop:=∃(A:OA) (c:Nat) (rs:List Rw),e=.returned (.agg #[.slice A rs.length c])/\mj w' A c rs/\hY rs=P/\Gr [] w w'
theorem h9(l:List Rw):(hY l).length=l.length:=by simp[hY]
theorem s7(h:List Ob)(id f:Int)(v:Vl):(kO h id f v).length=h.length:=by simp[kO]
theorem xV(h:List Ob)(c:Cl):(qF h c).length=h.length:=by
 unfold qF;split
 .rfl
 .exact s7 _ _ _ _
theorem jT(h:List Ob)(l:List Cl):(i7 h l).length=h.length:=by
 unfold i7
 induction l generalizing h with
 |nil=>rfl
 |cons c l Z=>rw[FY,Z,xV]
theorem qj(h:List Ob)(l:List Cl)(hk:k<l.length):i7 h (l.take (k+1))=qF (i7 h (l.take k)) l[k]:=by
 unfold i7;rw[W_ hk,FZ]
 rfl
theorem nL(A:OA)(c:Nat)(l:List Rw)(B:OA)(d:Nat)(cs:List Cl)(w:World)(h:mj w A c l)(hn:l.length<=1000000000)(hc:Cs w B cs)(b8:cs.length<=1000000000):
 Calls prog 125 #[.agg #[.slice A l.length c],.slice B cs.length d] w (mf (i7 (hY l) cs) w):=by
 obtain⟨V,P,I⟩:=qh w 35 #[.slice A l.length c] 35 #[n_];have o:=h.hG I;have m:=h_ (show l.length=(hY l).length from(h9 l).symm);generalize p:cs.length=n at*;have j:=h_ p;clear p
 go_enter func125,ntmps125
 go_wp2
 go_loopw [11] (λi wr=>∃(k:Nat) (A':OA) (c':Nat) (rs:List Rw),k<=n/\i=i_ k/\Bk wr w.heap.size 35 #[.slice A' rs.length c']/\Bk wr (w.heap.size+1) 35 #[n_]/\mj wr A' c' rs/\hY rs=i7 (hY l) (cs.take k)/\Gr [] w wr) (λi _=>n-(intOf i).toNat)
 case atStart=>exact⟨0,A,c,l,O_ _,rfl,V,P,o,rfl,I⟩
 case round=>
  obtain⟨k,A',c',rs,hk,rfl,s,E,z,bw,F⟩:=hrel;have q:=h_ bw;clear bw V P o I
  by_cases ag:k<n
  .have az:k<cs.length:=by rw[j.out];exact ag
   obtain⟨b,off,aT,bi,bq,bK,bT⟩:=(hc.hG F).at_ az;subst aT;have bL:=h_ (show i7 (hY l) (cs.take (k+1))=qF (hY rs) cs[k] by rw[q.out];exact qj _ _ az)
   have aV:rs.length<=1000000000:=by
    have:=h9 rs
    rw[q.out,jT]at this;have h2:=m.out;omega
   generalize cs[k]=x at*;obtain⟨aj,aB,g⟩:=x;simp only at bi bq bK bT;have a:=(F_ [] wr).alloc (.cells #[i_ aj,i_ aB,.bool g.r,i_ g.n] 116);have aQ:=(s.alloc (.cells #[i_ aj,i_ aB,.bool g.r,i_ g.n] 116)).f_ 0
   cases y:jx (hY rs) aj aB with
   |none=>
    have bP:=h_ (show qF (hY rs) ⟨aj,aB,g⟩=hY rs by unfold qF;simp only[y])
    go_wp2_with (go_at_call 149;((with_reducible refine(qk A' c' rs aj aB g _ (z.hG a).os (z.hG a).kZ aV y).mono ?_);rintro e ae⟨rfl,S⟩;have M:=((s.hG a).hG S).alloc (.cells #[n_] 35)))
    go_roundw
    case rel=>exact⟨k+1,A',c',rs,o_,gn,M,((E.hG a).hG S).alloc _,((z.hG a).hG S).alloc _,by rw[bL.out,bP.out],((F.trans a).trans S).alloc _⟩
    case measure=>exact mz
   |some u=>
    have bP:=h_ (show qF (hY rs) ⟨aj,aB,g⟩=kO (hY rs) aj aB g by unfold qF;simp only[y])
    go_wp2_with (go_at_call 149;((with_reducible refine(ob A' c' rs aj aB g u _ (z.hG a).os (z.hG a).kZ aV y).mono ?_);rintro e ae⟨aG,aC,t,rfl,C,v,cz,f,S⟩;have Q:=h_ f;clear f;have M:=((s.hG a).hG S).alloc (.cells #[.slice aG t.length aC] 35);have z0:=M.f_ 0;have br:=M.hH 0;have hD:=P_ ae 35 #[.slice aG t.length aC];have U:=hD.f_ 0))
    go_roundw
    case rel=>exact⟨k+1,aG,aC,t,o_,gn,M.hW 0 _,(((E.hG a).hG S).alloc _).ih s_ _,((mj.mk v cz C).alloc _).iu M d_ d_ ((F_ _ _).setCell (.inl s_) _),by rw[bL.out,bP.out,Q.out],(((F.trans a).trans S).alloc _).setCell (.inr s_) _⟩
    case measure=>exact mz
  .exact Ih
theorem Ar(h:List Ob)(c:Dl):(o0 h c).length=h.length:=by
 unfold o0;split
 .rfl
 .split
  .exact s7 _ _ _ _
  .rfl
theorem nO(h:List Ob)(l:List Dl):(kf h l).length=h.length:=by
 unfold kf
 induction l generalizing h with
 |nil=>rfl
 |cons c l Z=>rw[FY,Z,Ar]
theorem uG(h:List Ob)(l:List Dl)(hk:k<l.length):kf h (l.take (k+1))=o0 (kf h (l.take k)) l[k]:=by
 unfold kf;rw[W_ hk,FZ]
 rfl
theorem rB(A:OA)(c:Nat)(l:List Rw)(B:OA)(d:Nat)(ds:List Dl)(w:World)(h:mj w A c l)(hn:l.length<=1000000000)(hc:Ds w B ds)(b8:ds.length<=1000000000):
 Calls prog 124 #[.agg #[.slice A l.length c],.slice B ds.length d] w (mf (kf (hY l) ds) w):=by
 obtain⟨V,P,I⟩:=qh w 35 #[.slice A l.length c] 35 #[n_];have o:=h.hG I;have m:=h_ (show l.length=(hY l).length from(h9 l).symm);generalize p:ds.length=n at*;have j:=h_ p;clear p
 go_enter func124,ntmps124
 go_wp2
 go_loopw [13] (λi wr=>∃(k:Nat) (A':OA) (c':Nat) (rs:List Rw),k<=n/\i=i_ k/\Bk wr w.heap.size 35 #[.slice A' rs.length c']/\Bk wr (w.heap.size+1) 35 #[n_]/\mj wr A' c' rs/\hY rs=kf (hY l) (ds.take k)/\Gr [] w wr) (λi _=>n-(intOf i).toNat)
 case atStart=>exact⟨0,A,c,l,O_ _,rfl,V,P,o,rfl,I⟩
 case round=>
  obtain⟨k,A',c',rs,hk,rfl,s,E,z,bw,F⟩:=hrel;have q:=h_ bw;clear bw V P o I
  by_cases ag:k<n
  .have az:k<ds.length:=by rw[j.out];exact ag
   obtain⟨b,off,aT,bi,bq,bK,bT,bF⟩:=(hc.hG F).at_ az;subst aT;have bL:=h_ (show kf (hY l) (ds.take (k+1))=o0 (hY rs) ds[k] by rw[q.out];exact uG _ _ az)
   have aV:rs.length<=1000000000:=by
    have:=h9 rs
    rw[q.out,nO]at this;have h2:=m.out;omega
   generalize ds[k]=x at*;obtain⟨aj,aB,N,g⟩:=x;simp only at bi bq bK bT bF;have L:Bk (wr.alloc (.cells #[i_ aj,i_ aB,i_ N,.bool g.r,i_ g.n] 124)) wr.heap.size 124 #[i_ aj,i_ aB,i_ N,.bool g.r,i_ g.n]:=P_ wr _ _;have s:=s.alloc (.cells #[i_ aj,i_ aB,i_ N,.bool g.r,i_ g.n] 124);have E:=E.alloc (.cells #[i_ aj,i_ aB,i_ N,.bool g.r,i_ g.n] 124);have z:=z.alloc (.cells #[i_ aj,i_ aB,i_ N,.bool g.r,i_ g.n] 124);have F:=F.alloc (.cells #[i_ aj,i_ aB,i_ N,.bool g.r,i_ g.n] 124);have aQ:=s.f_ 0;have U:=L.f_ 0;have ad:=L.f_ 1
   cases y:jx (hY rs) aj aB with
   |none=>
    have bP:=h_ (show o0 (hY rs) ⟨aj,aB,N,g⟩=hY rs by unfold o0;simp only[y]);obtain⟨r,hr⟩:=mn_ (iF N default g);have bg:=h_ hr;clear hr
    go_wp2_with (first|(go_at_call 148;((with_reducible refine(ky A' c' rs aj aB _ z.os z.kZ aV).mono ?_);rintro e ae⟨rfl,S⟩;rw[y];simp only[Gx,GH];have s:=(s.hG S).alloc (.cells (V_ (default:Vl)) 38);have E:=(E.hG S).alloc (.cells (V_ (default:Vl)) 38);have L:=(L.hG S).alloc (.cells (V_ (default:Vl)) 38);have z:=(z.hG S).alloc (.cells (V_ (default:Vl)) 38);have F:=(F.trans S).alloc (.cells (V_ (default:Vl)) 38);have aZ:=P_ ae 38 (V_ (default:Vl));have ar:=L.f_ 2;have aL:=L.f_ 3;have ao:=L.f_ 4;have z0:=aZ.f_ 0;have aM:=aZ.f_ 1))|(go_at_call 164;((with_reducible refine(mD N _ g _).mono ?_);rintro e T⟨he,Z⟩;unfold qi at he;subst he;rw[bg.out];have s:=(s.hG Z).alloc (.cells (V_ r.1) 38);have E:=(E.hG Z).alloc (.cells (V_ r.1) 38);have z:=(z.hG Z).alloc (.cells (V_ r.1) 38);have F:=(F.trans Z).alloc (.cells (V_ r.1) 38))))
    exact Kh
   |some u=>
    obtain⟨r,hr⟩:=mn_ (iF N u g);have bg:=h_ hr
    by_cases hz:r.2=0
    .have bP:=h_ (show o0 (hY rs) ⟨aj,aB,N,g⟩=kO (hY rs) aj aB r.1 by unfold o0;simp only[y,hr,hz,if_true]);have K:(r.2==0)=true:=zu hz;clear hr hz
     go_wp2_with (first|(go_at_call 148;((with_reducible refine(ky A' c' rs aj aB _ z.os z.kZ aV).mono ?_);rintro e ae⟨rfl,S⟩;rw[y];simp only[Fw,Ga];have s:=(s.hG S).alloc (.cells (V_ u) 38);have E:=(E.hG S).alloc (.cells (V_ u) 38);have L:=(L.hG S).alloc (.cells (V_ u) 38);have z:=(z.hG S).alloc (.cells (V_ u) 38);have F:=(F.trans S).alloc (.cells (V_ u) 38);have aZ:=P_ ae 38 (V_ u);have ar:=L.f_ 2;have aL:=L.f_ 3;have ao:=L.f_ 4;have z0:=aZ.f_ 0;have aM:=aZ.f_ 1))|(go_at_call 164;((with_reducible refine(mD N _ g _).mono ?_);rintro e T⟨he,Z⟩;unfold qi at he;subst he;rw[bg.out];have s:=(s.hG Z).alloc (.cells (V_ r.1) 38);have E:=(E.hG Z).alloc (.cells (V_ r.1) 38);have L:=(L.hG Z).alloc (.cells (V_ r.1) 38);have z:=(z.hG Z).alloc (.cells (V_ r.1) 38);have F:=(F.trans Z).alloc (.cells (V_ r.1) 38);have J:=P_ T 38 (V_ r.1);have aQ:=s.f_ 0;have U:=L.f_ 0;have ad:=L.f_ 1;have cJ:=J.f_ 0;have cK:=J.f_ 1))|(go_at_call 149;((with_reducible refine(ob A' c' rs aj aB r.1 u _ z.os z.kZ aV y).mono ?_);rintro e Y⟨aG,aC,t,rfl,C,v,cz,f,ah⟩;have Q:=h_ f;clear f;have s:=s.hG ah;have E:=E.hG ah;have F:=F.trans ah;have aQ:=s.f_ 0;have br:=s.hH 0)))
     go_roundw
     case rel=>exact⟨k+1,aG,aC,t,o_,gn,s.hW 0 _,E.ih s_ _,(mj.mk v cz C).iu s d_ d_ ((F_ _ _).setCell (.inl s_) _),by rw[bL.out,bP.out,Q.out],F.setCell (.inr s_) _⟩
     case measure=>exact mz
    .have bP:=h_ (show o0 (hY rs) ⟨aj,aB,N,g⟩=hY rs by unfold o0;simp only[y,hr,hz,if_false]);have K:(r.2==0)=false:=zu hz;clear hr hz
     go_wp2_with (first|(go_at_call 148;((with_reducible refine(ky A' c' rs aj aB _ z.os z.kZ aV).mono ?_);rintro e ae⟨rfl,S⟩;rw[y];simp only[Fw,Ga];have s:=(s.hG S).alloc (.cells (V_ u) 38);have E:=(E.hG S).alloc (.cells (V_ u) 38);have L:=(L.hG S).alloc (.cells (V_ u) 38);have z:=(z.hG S).alloc (.cells (V_ u) 38);have F:=(F.trans S).alloc (.cells (V_ u) 38);have aZ:=P_ ae 38 (V_ u);have ar:=L.f_ 2;have aL:=L.f_ 3;have ao:=L.f_ 4;have z0:=aZ.f_ 0;have aM:=aZ.f_ 1))|(go_at_call 164;((with_reducible refine(mD N _ g _).mono ?_);rintro e T⟨he,Z⟩;unfold qi at he;subst he;rw[bg.out];have s:=(s.hG Z).alloc (.cells (V_ r.1) 38);have E:=(E.hG Z).alloc (.cells (V_ r.1) 38);have z:=(z.hG Z).alloc (.cells (V_ r.1) 38);have F:=(F.trans Z).alloc (.cells (V_ r.1) 38))))
     exact Kh
  .exact Ih
theorem r7(E:α->List Value)(hE:∀a,(E a).length=3){w:World}{e:TypeId}{l:List α}(hk:k<l.length)(r:α)(aQ bj P:Value)(hr:E r=[aQ,bj,P])(hb:Bk w g e cur)(h:∀(i:Nat) (u:Value),(l.flatMap E)[i]?=some u->cur[i]?=some u)(n:Nat)(hn:l.length=n):
 Sl (((w.setCell (c_ g (k*3)) aQ).setCell (c_ g (k*3+1)) bj).setCell (c_ g (k*3+2)) P) e 3 (j_ g) n ((l.set k r).flatMap E):=by
 subst hn;have bU:=(((hb.hW (k*3) aQ).hW (k*3+1) bj).hW (k*3+2) P);have iM:=kj E 3 hE l
 have az:k*3+2<cur.size:=by
  have hl:k*3+2<(l.flatMap E).length:=o_
  have:=h _ _ (M_ hl)
  rcases EJ (k*3+2) cur.size with h|h
  .exact h
  .exact LK
 refine⟨by rw[kj E 3 hE];simp,λ_=>⟨g,0,_,_,rfl,bU,λj u hu=>?_⟩⟩;rw[U_];refine qu E 3 hE o_ l k hk r cur _ h (λj u hu=>?_) (λi hi=>?_) j u hu
 .rw[hr]at hu
  match j,hu with
  |0,hu=>simp only[Fp,Option.some.injEq]at hu;subst hu;rw[K_,Q_ o_];rw[K_,Q_ o_];rw[K_,T_ o_,T_ (by first|omega|(simp;omega))]
  |1,hu=>simp only[FK,Fp,Option.some.injEq]at hu;subst hu;rw[K_,Q_ o_];rw[K_,T_ o_,T_ (by first|omega|(simp;omega))]
  |2,hu=>simp only[FK,Fp,Option.some.injEq]at hu;subst hu;rw[K_,T_ o_,T_ (by first|omega|(simp;omega))]
  |j+3,hu=>simp at hu
 .rw[K_,Q_ o_];rw[K_,Q_ o_];rw[K_,Q_ o_]
theorem Bj(E:α->List Value)(hE:∀a,(E a).length=4){w:World}{e:TypeId}{l:List α}(hk:k<l.length)(r:α)(aQ bj P aj:Value)(hr:E r=[aQ,bj,P,aj])(hb:Bk w g e cur)(h:∀(i:Nat) (u:Value),(l.flatMap E)[i]?=some u->cur[i]?=some u)(n:Nat)(hn:l.length=n):
 Sl ((((w.setCell (c_ g (k*4)) aQ).setCell (c_ g (k*4+1)) bj).setCell (c_ g (k*4+2)) P).setCell (c_ g (k*4+3)) aj) e 4 (j_ g) n ((l.set k r).flatMap E):=by
 subst hn;have bU:=((((hb.hW (k*4) aQ).hW (k*4+1) bj).hW (k*4+2) P).hW (k*4+3) aj);have iM:=kj E 4 hE l
 have az:k*4+3<cur.size:=by
  have hl:k*4+3<(l.flatMap E).length:=o_
  have:=h _ _ (M_ hl)
  rcases EJ (k*4+3) cur.size with h|h
  .exact h
  .exact LK
 refine⟨by rw[kj E 4 hE];simp,λ_=>⟨g,0,_,_,rfl,bU,λj u hu=>?_⟩⟩;rw[U_];refine qu E 4 hE o_ l k hk r cur _ h (λj u hu=>?_) (λi hi=>?_) j u hu
 .rw[hr]at hu
  match j,hu with
  |0,hu=>simp only[Fp,Option.some.injEq]at hu;subst hu;rw[K_,Q_ o_];rw[K_,Q_ o_];rw[K_,Q_ o_];rw[K_,T_ o_,T_ (by first|omega|(simp;omega))]
  |1,hu=>simp only[FK,Fp,Option.some.injEq]at hu;subst hu;rw[K_,Q_ o_];rw[K_,Q_ o_];rw[K_,T_ o_,T_ (by first|omega|(simp;omega))]
  |2,hu=>simp only[FK,Fp,Option.some.injEq]at hu;subst hu;rw[K_,Q_ o_];rw[K_,T_ o_,T_ (by first|omega|(simp;omega))]
  |3,hu=>simp only[FK,Fp,Option.some.injEq]at hu;subst hu;rw[K_,T_ o_,T_ (by first|omega|(simp;omega))]
  |j+4,hu=>simp at hu
 .rw[K_,Q_ o_];rw[K_,Q_ o_];rw[K_,Q_ o_];rw[K_,Q_ o_]
theorem Sl.Bq{E:α->List Value}{s:Nat}(hE:∀a,(E a).length=s){w:World}{l:List α}(h:Sl w ty s (j_ g) l.length (l.flatMap E))(hk:k<l.length):
 ∀j u,(E l[k])[j]?=some u->w.cell? (c_ g (k*s+j))=some u:=by
 obtain⟨b,off,hA,hc⟩:=Sl.row hE h hk;injection hA with hA;injection hA with h1 h2;subst h1;subst h2;intro j u hu
 have:=hc j u hu
 rwa [U_]at this
def rX(P:List Cl)(w:World)(e:Ending)(w':World):Prop:=∃(A:OA) (d:Nat),e=.returned (.slice A P.length d)/\Cs w' A P/\P.length<=d/\Gr [] w w'
theorem rh(l:List Cl)(id f:Int): -1<=cat l id f/\cat l id f<l.length:=by
 have:=nf (λc:Cl=>c.id==id&&c.f==f) l 0
 unfold cat;exact LO
theorem AU(A:OA)(d:Nat)(l:List Cl)(id f:Int)(n:Nat)(w:World)(h:Cs w A l)(hL:Hid (l.length=n))(hn:n<=1000000000):
 Calls prog 129 #[.slice A n d,i_ id,i_ f] w λe w'=>e=.returned (i_ (cat l id f))/\Gr [] w w':=by
 have hl:=hL.out;subst hl;exact lJ A d l id f w h hn
theorem yI(A:OA)(d:Nat)(l:List Cl)(c:Cl)(x:Nat)(w:World)(h:Cs w A l)(hn:l.length<=1000000000)(L:cat l c.id c.f=x):
 Calls prog 98 #[.slice A l.length d,.agg #[i_ c.id,i_ c.f,.bool c.v.r,i_ c.v.n]] w (rX (kw l c) w):=by
 obtain⟨bF,bE,bt,a8,bo⟩:=info_parts infoCl;have I:=(F_ [] w).alloc (.cells #[i_ c.id,i_ c.f,.bool c.v.r,i_ c.v.n] 116);have hB:=P_ w 116 #[i_ c.id,i_ c.f,.bool c.v.r,i_ c.v.n];have a:=Sl.alloc h (.cells #[i_ c.id,i_ c.f,.bool c.v.r,i_ c.v.n] 116);have aZ:x<l.length:=ov (rh l c.id c.f);have aR:=h_ (show kw l c=l.set x c by unfold kw;rw[L,T_ o_,Fi]);have cU:=aZ;have bl:=h_ L;clear L;have be:=h_ (show(l.set x c).length=l.length by simp);obtain⟨n,aD⟩:=mn_ l.length;rw[aD]at aZ hn a |-;have m:=h_ aD;clear aD;have bS:(x:Int)<(n:Int):=o_
 go_enter func98,ntmps98
 go_wp2_with (at_builtin;refine iL _ rfl (.const (n_)) (.tmp 7) 50 rfl (w.heap.size+1) 116 bF _ 4 32 underlying50 bE bt a8 bo rfl d_ d_ none 0 0 [] rfl (iV _ _ _ _) A n d _ rfl a (pA _) o_ s_ ?_;intro av ai w2 aq ao;simp only[U_,EO]at aq;have hB:=ao.tv hB o_;have bR:=ao.gr [] w o_ I;have cy:=hB.f_ 0;have b1:=hB.f_ 1)
 obtain⟨g,cur,B,bA,H,t⟩:=kA aq o_;subst B
 have aw:Cs w2 (j_ g) l:=by unfold Cs;rw[m.out];exact Sl.iT aq
 go_wp2_with (go_at_call 129;((with_reducible refine(AU (j_ g) ai l c.id c.f n w2 aw m hn).mono ?_);rintro e ae⟨rfl,S⟩;rw[bl.out];have hB:=hB.hG S;have H:=H.hG S;have cy:=hB.f_ 0;have b1:=hB.f_ 1;have b2:=hB.f_ 2;have b3:=hB.f_ 3;have bD:=Sl.Bq rg (aw.hG S) cU;have k0:ae.cell? (c_ g (x*4))=some _:=bD 0 _ rfl;have bV:ae.cell? (c_ g (x*4+1))=some _:=bD 1 _ rfl;have bz:ae.cell? (c_ g (x*4+2))=some _:=bD 2 _ rfl;have k3:ae.cell? (c_ g (x*4+3))=some _:=bD 3 _ rfl;clear bD;have br:=H.hH (x*4);have bH:=H.hH (x*4+1);have b8:=H.hH (x*4+2);have dr:=H.hH (x*4+3)))
 go_ret;unfold rX;rw[aR.out];refine⟨some (c_ g 0),ai,og (by rw[be.out,m.out]),?_,by rw[be.out,m.out];exact jf aq,?_⟩
 .exact Bj Cl.E rg cU c _ _ _ _ rfl H t _ be.out.symm
 .exact((((bR.trans S).setCell (.inr p_) _).setCell (.inr p_) _).setCell (.inr p_) _).setCell (.inr p_) _
theorem BR(l:List Cl)(id f:Int):tq l id f<=l.length:=po _ _
theorem z_(A:OA)(d:Nat)(l:List Cl)(c:Cl)(w:World)(h:Cs w A l)(hn:l.length<=1000000000)(L:cat l c.id c.f<0):
 Calls prog 98 #[.slice A l.length d,.agg #[i_ c.id,i_ c.f,.bool c.v.r,i_ c.v.n]] w (rX (kw l c) w):=by
 obtain⟨bF,bE,bt,a8,bo⟩:=info_parts infoCl;have I:=(F_ [] w).alloc (.cells #[i_ c.id,i_ c.f,.bool c.v.r,i_ c.v.n] 116);have hB:=P_ w 116 #[i_ c.id,i_ c.f,.bool c.v.r,i_ c.v.n];have a:=Sl.alloc h (.cells #[i_ c.id,i_ c.f,.bool c.v.r,i_ c.v.n] 116);have aR:=h_ (show kw l c=l.take (tq l c.id c.f)++([c]++l.drop (tq l c.id c.f)) by unfold kw;rw[Q_ o_]);have bl:=h_ (show cat l c.id c.f= -1 by have:=rh l c.id c.f;omega);clear L;have bY:=h_ (show tq l c.id c.f=0+l_ (ou c.id c.f) (l.drop 0) by simp[tq]);have bA:=h_ (show ∀k,k=tq l c.id c.f->(l.take k++([c]++l.drop k)).length=k+(1+(l.length-k)) from λk hk=>by have:=BR l c.id c.f;simp;omega);obtain⟨n,aD⟩:=mn_ l.length;rw[aD]at hn a |-;have m:=h_ aD;clear aD
 go_enter func98,ntmps98
 go_wp2_with (at_builtin;refine iL _ rfl (.const (n_)) (.tmp 7) 50 rfl (w.heap.size+1) 116 bF _ 4 32 underlying50 bE bt a8 bo rfl d_ d_ none 0 0 [] rfl (iV _ _ _ _) A n d _ rfl a (pA _) o_ s_ ?_;intro av ai w2 aq ao;simp only[U_,EO]at aq;have hB:=ao.tv hB o_;have bR:=ao.gr [] w o_ I;have cy:=hB.f_ 0;have b1:=hB.f_ 1;have b2:=hB.f_ 2;have b3:=hB.f_ 3)
 have aw:Cs w2 av l:=by unfold Cs;rw[m.out];exact Sl.iT aq
 have cj:=jf aq
 go_upto_block 0 with(go_at_call 129;((with_reducible refine(AU av ai l c.id c.f n w2 aw m hn).mono ?_);rintro e ae⟨rfl,S⟩;rw[bl.out];have hB:=hB.hG S;have cy:=hB.f_ 0;have b1:=hB.f_ 1;have b2:=hB.f_ 2;have b3:=hB.f_ 3))
 have aw:=aw.hG S;have t:=bR.trans S;clear aq ao a I S bR
 go_cut [6] (λy aX=>∃k:Nat,y=i_ k/\k<=n/\k=tq l c.id c.f/\Gr [] ae aX)
 case first=>
  go_wp2_with fail
  go_loopw [6] (λy w'=>∃k:Nat,y=i_ k/\k<=n/\tq l c.id c.f=k+l_ (ou c.id c.f) (l.drop k)/\Gr [] ae w') (λy _=>n-(intOf y).toNat)
  case atStart=>exact⟨0,rfl,O_ _,bY.out,F_ _ _⟩
  case round=>
   obtain⟨k,rfl,hk,cQ,F⟩:=hrel;have H:=h_ cQ;clear cQ;have i:=hB.hG F;have bD:=i.f_ 0;have bH:=i.f_ 1;have bp:=i.f_ 2;have bQ:=i.f_ 3;clear i cy b1 b2 b3
   by_cases ag:k<n
   .have az:k<l.length:=by rw[m.out];exact ag
    have aG:(k:Int)<(n:Int):=o_;obtain⟨b,off,cU,ad,aT,ck,cn⟩:=(aw.hG F).at_ az;subst cU
    by_cases t0:l[k].id<c.id
    .have bG:=h_ (oo (p:=ou c.id c.f) az (by simp[ou,t0]));have bj:decide (l[k].id<c.id)=true:=zu t0;exact Jt
    .have bj:decide (l[k].id<c.id)=false:=zu t0
     by_cases t1:l[k].id=c.id
     .have bn:(l[k].id==c.id)=true:=zu t1
      by_cases af:l[k].f<c.f
      .have bG:=h_ (oo (p:=ou c.id c.f) az (by simp[ou,t1,af]));have bI:decide (l[k].f<c.f)=true:=zu af;exact Jk
      .have bG:=h_ (nC (p:=ou c.id c.f) az (by simp[ou,t1,af]));have bI:decide (l[k].f<c.f)=false:=zu af;exact JS
     .have bG:=h_ (nC (p:=ou c.id c.f) az (by simp[ou,t0,t1]));have bn:(l[k].id==c.id)=false:=zu t1;exact JV
   .have bG:=h_ (q8 (p:=ou c.id c.f) (l:=l) (k:=k) (by rw[m.out];omega));have aG:¬(k:Int)<(n:Int):=o_;exact Ka
 case rest=>
  obtain⟨k,rfl,hk,aE,F⟩:=hcut;have aP:=h_ aE;clear aE cy b1 b2 b3;have i:=hB.hG F;have bD:=i.f_ 0;have bH:=i.f_ 1;have bp:=i.f_ 2;have bQ:=i.f_ 3;have aS:(0:Int)<=(k:Int):=o_;have aJ:(k:Int)<=(n:Int):=o_;have aG:(k:Int)<=(ai:Int):=o_;have aC:=aw.hG F;have aW:=(Sl.vh rg aC (show k<=l.length by rw[m.out];exact hk)).hG ((F_ [] wc).alloc (.cells #[i_ c.id,i_ c.f,.bool c.v.r,i_ c.v.n] 116)).drew;have aU:=(Sl.x3 rg aC (show k<=l.length by rw[m.out];exact hk) ai (by rw[m.out];exact cj)).hG ((F_ [] wc).alloc (.cells #[i_ c.id,i_ c.f,.bool c.v.r,i_ c.v.n] 116)).drew;have Z:=h_ (show ∀u∈(#[i_ c.id,i_ c.f,.bool c.v.r,i_ c.v.n]:Array Value).toList++(l.drop k).flatMap Cl.E,u.oneCell'=true from λu hu=>pA (c::l.drop k) u hu);rw[m.out]at aU;have bT:=kN (s:=4) (P_ wc.drew 116 #[i_ c.id,i_ c.f,.bool c.v.r,i_ c.v.n]) rfl;have b8:=t.trans F;have g:=i.drew;clear hB i aw F t aC
  go_wp2_with fail
  go_region_held3 (λw'=>w'.cell? (c_ w.heap.size 0)=some (i_ c.id)/\w'.cell? (c_ w.heap.size 1)=some (i_ c.f)/\w'.cell? (c_ w.heap.size 2)=some (.bool c.v.r)/\w'.cell? (c_ w.heap.size 3)=some (i_ c.v.n)) (first|exact dL|exact dM|go_keep)
   (first
     |(refine mr _ r_ (.tmp 63) (.tmp 66) 50 r_ 116 bF _ 4 32 underlying50 bE bt a8 bo rfl d_ d_ _ 1 _ r_ bT _ (n-k) _ _ r_ aU (pA _) o_ ?_;intro aY c5 Y G bN ah;have b4:=(g.alloc (.cells #[i_ c.id,i_ c.f,.bool c.v.r,i_ c.v.n] 116)).hG ah;have dL:Y.cell? (c_ w.heap.size 0)=some (i_ c.id)/\Y.cell? (c_ w.heap.size 1)=some (i_ c.f)/\Y.cell? (c_ w.heap.size 2)=some (.bool c.v.r)/\Y.cell? (c_ w.heap.size 3)=some (i_ c.v.n):=⟨b4.f_ 0,b4.f_ 1,b4.f_ 2,b4.f_ 3⟩)
     |(refine mr _ r_ (.tmp 61) (.tmp 67) 50 r_ 116 bF _ 4 32 underlying50 bE bt a8 bo rfl d_ d_ _ k _ r_ (aW.hG ah) _ (1+(n-k)) _ _ r_ bN Z.out o_ ?_;intro aI aF ax bU bS aB;have ct:=b4.hG aB;have dM:ax.cell? (c_ w.heap.size 0)=some (i_ c.id)/\ax.cell? (c_ w.heap.size 1)=some (i_ c.f)/\ax.cell? (c_ w.heap.size 2)=some (.bool c.v.r)/\ax.cell? (c_ w.heap.size 3)=some (i_ c.v.n):=⟨ct.f_ 0,ct.f_ 1,ct.f_ 2,ct.f_ 3⟩))
  go_wp2
  all_goals
   go_ret;unfold rX;have iM:=bA.out k aP.out;rw[m.out]at iM;rw[aR.out,<-aP.out];refine⟨aI,aF,og iM.symm,?_,by rw[iM];exact bU,(((b8.alloc _).drew).trans ah).trans aB⟩;unfold Cs;rw[iM,EZ,EZ,Gs];exact bS
theorem q5(A:OA)(d:Nat)(l:List Cl)(c:Cl)(w:World)(h:Cs w A l)(hn:l.length<=1000000000):
 Calls prog 98 #[.slice A l.length d,.agg #[i_ c.id,i_ c.f,.bool c.v.r,i_ c.v.n]] w (rX (kw l c) w):=by
 by_cases L:cat l c.id c.f<0
 .exact z_ A d l c w h hn L
 .exact yI A d l c (cat l c.id c.f).toNat w h hn (Fz o_).symm
theorem yf(A:OA)(c:Nat)(l:List Rw)(B:OA)(d:Nat)(cs:List Cl)(n:Nat)(w:World)(h:mj w A c l)(hn:l.length<=1000000000)(hc:Cs w B cs)(hL:Hid (cs.length=n))(b8:n<=1000000000):
 Calls prog 125 #[.agg #[.slice A l.length c],.slice B n d] w (mf (i7 (hY l) cs) w):=by
 have e:=hL.out;subst e;exact nL A c l B d cs w h hn hc b8
theorem CL(w:World)(x:Cl):Cs (w.alloc (.cells #[i_ x.id,i_ x.f,.bool x.v.r,i_ x.v.n] 116)) (j_ w.heap.size) [x]:=kN (s:=4) (P_ w 116 #[i_ x.id,i_ x.f,.bool x.v.r,i_ x.v.n]) rfl
theorem x5(rs:List Cl)(gs:List Cl)(h:List Ob):(gs.foldl (kD rs) h).length=h.length:=by
 induction gs generalizing h with
 |nil=>rfl
 |cons g l Z=>
  rw[FY,Z];unfold kD;split
  .exact jT _ _
  .rfl
theorem mB(t:i3)(h:List Ob):(before t h).length=h.length:=by unfold before;rw[jT,x5]
theorem oQ(t:Tk)(A:OA)(c:Nat)(l:List Rw)(w:World)(ht:lb w t)(h:mj w A c l)(hn:l.length<=1000000000)(dg:t.gs.l.length<=1000000000)(aV:t.rs.l.length<=1000000000):
 Calls prog 122 #[.agg t.g_,.agg #[.slice A l.length c]] w (mf (before t.p (hY l)) w):=by
 obtain⟨O,aZ,hR,z,I⟩:=B8 w 53 t.g_ 35 #[.slice A l.length c] 35 #[n_] 35 #[.slice A l.length c];have N:=h.hG I;have Z:((((w.alloc (.cells t.g_ 53)).alloc (.cells #[.slice A l.length c] 35)).alloc (.cells #[n_] 35)).alloc (.cells #[.slice A l.length c] 35)).cell? (c_ w.heap.size 36)=some (.slice t.gs.A t.gs.l.length t.gs.c):=(O.f_ 36).trans rfl;have aR:=h_ (show before t.p (hY l)=i7 (t.gs.l.foldl (kD t.rs.l) (hY l)) t.rs.l from rfl);have m:=h_ (h9 l)
 go_enter func122,ntmps122
 go_wp2_with fail
 clear aZ
 go_loopw [12] (λi wr=>∃(k:Nat) (A':OA) (c':Nat) (rs:List Rw),k<=t.gs.l.length/\i=i_ k/\Bk wr w.heap.size 53 t.g_/\Bk wr (w.heap.size+1+1) 35 #[n_]/\Bk wr (w.heap.size+1+1+1) 35 #[.slice A' rs.length c']/\mj wr A' c' rs/\hY rs=(t.gs.l.take k).foldl (kD t.rs.l) (hY l)/\Gr [] w wr) (λi _=>t.gs.l.length-(intOf i).toNat)
 case atStart=>exact⟨0,A,c,l,O_ _,rfl,O,hR,z,N,rfl,I⟩
 case round=>
  clear O hR z N I Z;obtain⟨k,A',c',rs,hk,rfl,O,hR,z,N,bw,F⟩:=hrel;have q:=h_ bw
  have v:rs.length<=1000000000:=by
   have:=h9 rs
   rw[bw,x5,m.out]at this;omega
  clear bw
  by_cases ag:k<t.gs.l.length
  .have az:=ag;obtain⟨b,off,aT,bi,bq,bK,bT⟩:=(ht.gs.hG F).at_ az;rw[aT];have bL:=h_ (show(t.gs.l.take (k+1)).foldl (kD t.rs.l) (hY l)=kD t.rs.l (hY rs) t.gs.l[k] by rw[q.out,W_ az,FZ];rfl);generalize t.gs.l[k]=x at*;have aJ:(k:Int)<(t.gs.l.length:Int):=o_;have aP:(wr.alloc (.cells #[i_ x.id,i_ x.f,.bool x.v.r,i_ x.v.n] 116)).cell? (c_ w.heap.size 37)=some (.slice t.rs.A t.rs.l.length t.rs.c):=((O.alloc _).f_ 37).trans rfl;have L:=P_ wr 116 #[i_ x.id,i_ x.f,.bool x.v.r,i_ x.v.n];replace O:=O.alloc (.cells #[i_ x.id,i_ x.f,.bool x.v.r,i_ x.v.n] 116);replace hR:=hR.alloc (.cells #[i_ x.id,i_ x.f,.bool x.v.r,i_ x.v.n] 116);replace z:=z.alloc (.cells #[i_ x.id,i_ x.f,.bool x.v.r,i_ x.v.n] 116);replace N:=N.alloc (.cells #[i_ x.id,i_ x.f,.bool x.v.r,i_ x.v.n] 116);replace F:=F.alloc (.cells #[i_ x.id,i_ x.f,.bool x.v.r,i_ x.v.n] 116);have U:=L.f_ 0;have ad:=L.f_ 1
   by_cases f:cat t.rs.l x.id x.f<0
   .have a6:=h_ (show kD t.rs.l (hY rs) x=i7 (hY rs) [x] by unfold kD;rw[T_ f])
    go_wp2_with (first|(go_at_call 129;((with_reducible refine(lJ t.rs.A t.rs.c t.rs.l x.id x.f _ (ht.hG F).rs aV).mono ?_);rintro e ae⟨rfl,S⟩;replace O:=O.hG S;replace hR:=hR.hG S;replace z:=z.hG S;replace L:=L.hG S;replace N:=N.hG S;replace F:=F.trans S;replace aQ:=z.f_ 0;replace U:=L.f_ 0;replace ad:=L.f_ 1;replace ar:=L.f_ 2;replace aL:=L.f_ 3))|(go_at_call 125;((with_reducible refine(yf A' c' rs _ 1 [x] 1 _ (N.alloc _) v (CL _ x) (h_ rfl) o_).mono ?_);unfold mf;rintro e Y⟨aY,c5,a,rfl,s,d,ah⟩;have j:=h_ d;clear d;replace F:=(F.alloc (.cells #[i_ x.id,i_ x.f,.bool x.v.r,i_ x.v.n] 116)).trans ah;replace O:=(O.alloc (.cells #[i_ x.id,i_ x.f,.bool x.v.r,i_ x.v.n] 116)).hG ah;replace hR:=(hR.alloc (.cells #[i_ x.id,i_ x.f,.bool x.v.r,i_ x.v.n] 116)).hG ah;replace z:=(z.alloc (.cells #[i_ x.id,i_ x.f,.bool x.v.r,i_ x.v.n] 116)).hG ah;replace aQ:=z.f_ 0;have br:=z.hH 0)))
    go_roundw
    case rel=>exact⟨k+1,aY,c5,a,o_,gn,O.ih sd_ _,hR.ih sd_ _,z.hW 0 _,s.iu z d_ d_ ((F_ _ _).setCell (.inl s_) _),by rw[bL.out,a6.out,j.out],F.setCell (.inr p_) _⟩
    case measure=>exact mz
   .have a6:=h_ (show kD t.rs.l (hY rs) x=hY rs by unfold kD;rw[Q_ f])
    go_wp2_with (go_at_call 129;((with_reducible refine(lJ t.rs.A t.rs.c t.rs.l x.id x.f _ (ht.hG F).rs aV).mono ?_);rintro e ae⟨rfl,S⟩;replace O:=O.hG S;replace hR:=hR.hG S;replace z:=z.hG S;replace N:=N.hG S;replace F:=F.trans S))
    go_roundw
    case rel=>exact⟨k+1,A',c',rs,o_,gn,O,hR,z,N,by rw[bL.out,a6.out],F⟩
    case measure=>exact mz
  .have bQ:=h_ (show k=t.gs.l.length by omega);have aJ:¬(k:Int)<(t.gs.l.length:Int):=o_;have aQ:=z.f_ 0;have aP:wr.cell? (c_ w.heap.size 37)=some (.slice t.rs.A t.rs.l.length t.rs.c):=(O.f_ 37).trans rfl
   go_wp2_with (go_at_call 125;((with_reducible refine(nL A' c' rs t.rs.A t.rs.c t.rs.l _ N v (ht.hG F).rs aV).mono ?_);unfold mf;rintro e Y⟨aY,c5,a,rfl,s,d,ah⟩;have j:=h_ d;clear d;have bI:=hR.hG ah;have bH:=bI.hH 0;have aM:=bI.f_ 0))
   have hE:=bI.hW 0 (.slice aY a.length c5);refine rr_ #[.slice aY a.length c5] hE underlying35 ⟨aY,c5,a,rfl,?_,?_,?_⟩
   .exact s.iu bI d_ d_ ((F_ _ _).setCell (.inl s_) _)
   .rw[j.out,q.out,aR.out,bQ.out,FD]
   .exact(F.trans ah).setCell (.inr p_) _
def iY{α:Type}(p:α->Bool)(l:List α):Bool:=l.any p
theorem oR{p:α->Bool}{l:List α}(hk:k<l.length)(hp:p l[k]=true):iY p (l.drop k)=true:=by
 unfold iY;rw[R_ hk];simp only[GY,hp,G6]
theorem oy{p:α->Bool}{l:List α}(hk:k<l.length)(hp:p l[k]=false):iY p (l.drop k)=iY p (l.drop (k+1)):=by
 unfold iY;rw[R_ hk];simp only[GY,hp,Gp]
theorem qN{p:α->Bool}{l:List α}(hk:l.length<=k):iY p (l.drop k)=false:=by
 unfold iY;rw[E3 hk]
 rfl
def Ns(w:World)(ty:TypeId)(A:OA)(l:List Int):Prop:=Sl w ty 1 A l.length (l.map (Value.int .i64))
theorem Ns.hG{w w':World}{A:OA}{l:List Int}(h:Ns w ty A l)(hg:Gr [] w w'):Ns w' ty A l:=Sl.hG h hg
theorem Ns.at_{w:World}{A:OA}{l:List Int}(h:Ns w ty A l)(hk:k<l.length):∃b off,A=some (c_ b off)/\w.cell? (c_ b (off+k))=some (i_ l[k]):=by
 obtain⟨b,off,u,hA,hu,hc⟩:=Sl.at_ h hk
 have e:(l.map (Value.int .i64))[k]?=some (i_ l[k]):=by simp[M_ hk]
 rw[e]at hu;injection hu with hu;subst hu;exact⟨b,off,hA,hc⟩
theorem oS(A:OA)(c:Nat)(l:List Int)(s:Int)(w:World)(h:Ns w 3 A l)(hn:l.length<=1000000000):
 Calls prog 82 #[.agg #[.slice A l.length c],i_ s] w λe w'=>e=.returned (.bool (iY (λx=>x==s) l))/\Gr [] w w':=by
 have be:=h_ (show iY (λx=>x==s) l=iY (λx=>x==s) (l.drop 0) from rfl);have hB:=P_ w 32 #[.slice A l.length c];have aQ:=hB.f_ 0;generalize hL:l.length=n at*
 go_enter func82,ntmps82
 go_wp2
 go_loopw [10] (λi w'=>∃k:Nat,k<=n/\i=i_ k/\iY (λx=>x==s) l=iY (λx=>x==s) (l.drop k)/\Gr [] w w') (λi _=>n-(intOf i).toNat)
 case atStart=>exact⟨0,O_ _,rfl,be.out,(F_ _ _).alloc _⟩
 case round=>
  obtain⟨k,hk,rfl,G,F⟩:=hrel;have aI:=h_ G;clear G
  by_cases ag:k<n
  .have az:k<l.length:=o_;obtain⟨b,off,rfl,bi⟩:=(h.hG F).at_ az
   by_cases t0:l[k]=s
   .have aR:=h_ (oR (p:=λx=>x==s) az (zu t0));have bj:(l[k]==s)=true:=zu t0;clear t0;go_wp2;go_ret;exact⟨iD (by rw[aI.out,aR.out]),F⟩
   .have aR:=h_ (oy (p:=λx=>x==s) az (zu t0));have bj:(l[k]==s)=false:=zu t0;clear t0;go_wp2;go_roundw
    case rel=>exact⟨k+1,o_,gn,by rw[aI.out,aR.out],F⟩
    case measure=>exact mz
  .have aR:=h_ (qN (p:=λx=>x==s) (l:=l) (k:=k) o_);go_wp2;go_ret;exact⟨iD (by rw[aI.out,aR.out]),F⟩
def jt(l:List Int)(n:Int):Int:=if 0<=n/\n<(l.length:Int) then l.getD n.toNat 0 else 0
theorem xx(A:OA)(c:Nat)(l:List Int)(n:Int)(w:World)(h:Ns w 2 A l)(hn:l.length<=1000000000):
 Calls prog 94 #[.agg #[.slice A l.length c],i_ n] w λe w'=>e=.returned (i_ (jt l n))/\Gr [] w w':=by
 have hB:=P_ w 29 #[.slice A l.length c];have I:=(F_ [] w).alloc (.cells #[.slice A l.length c] 29);have aQ:=hB.f_ 0
 by_cases h0:0<=n
 .by_cases h1:n<(l.length:Int)
  .have hk:n.toNat<l.length:=o_;obtain⟨k,aj⟩:∃k:Nat,n=k:=⟨n.toNat,(Fz h0).symm⟩;have HA:=h_ (show jt l n=l[n.toNat] by unfold jt;rw[T_ ⟨h0,h1⟩];simp[List.getD,M_ hk]);obtain⟨b,off,rfl,bi⟩:=(h.hG I).at_ hk;have bC:¬(l.length:Int)<=n:=o_;clear aj;exact Ld
  .exact JN
 .exact JN
def lq(l:List Fo)(x:Int):Nat:=l_ (λf:Fo=>decide (f.fr<x)) l
def o1(l:List Fo)(x:Int):Bool:=decide (lq l x<l.length)&&((l.getD (lq l x) default).fr==x)
theorem BP{l:List Fo}{x:Int}(hk:k<l.length)(h:lq l x=k):o1 l x=(l[k].fr==x):=by
 unfold o1;rw[h];simp[hk,List.getD]
theorem BN(l:List Fo)(x:Int):lq l x<=l.length:=po _ _
theorem qM(A:OA)(c:Nat)(l:List Fo)(x:Int)(w:World)(h:Fs w A l)(hn:l.length<=1000000000):
 Calls prog 99 #[.agg #[.slice A l.length c],i_ x] w λe w'=>e=.returned (.tuple #[i_ (lq l x),.bool (o1 l x)])/\Gr [] w w':=by
 have be:=h_ (show lq l x=0+l_ (λf:Fo=>decide (f.fr<x)) (l.drop 0) by simp[lq]);have hB:=P_ w 96 #[.slice A l.length c];have aQ:=hB.f_ 0
 go_enter func99,ntmps99
 go_wp2
 go_loopw [11] (λi w'=>∃k:Nat,k<=l.length/\i=i_ k/\lq l x=k+l_ (λf:Fo=>decide (f.fr<x)) (l.drop k)/\Bk w' w.heap.size 96 #[.slice A l.length c]/\Gr [] w w') (λi _=>l.length-(intOf i).toNat)
 case atStart=>exact⟨0,O_ _,rfl,be.out,hB,(F_ _ _).alloc _⟩
 case round=>
  clear hB aQ;obtain⟨k,hk,rfl,G,hB,F⟩:=hrel;have aI:=h_ G;clear G
  by_cases ag:k<l.length
  .have az:=ag;have aJ:(k:Int)<(l.length:Int):=o_;obtain⟨b,off,rfl,bi,bq,bK⟩:=(h.hG F).at_ az;have L:=P_ wr 168 #[i_ l[k].fr,i_ l[k].dst,i_ l[k].n];have U:=L.f_ 0
   by_cases t0:l[k].fr<x
   .have aR:=h_ (oo (p:=(λf:Fo=>decide (f.fr<x))) az (zu t0));have bj:¬x<=l[k].fr:=o_;clear t0;go_wp2;go_roundw
    case rel=>exact⟨k+1,o_,gn,by rw[aI.out,aR.out];omega,hB.alloc _,F.alloc _⟩
    case measure=>exact mz
   .have aR:=h_ (nC (p:=(λf:Fo=>decide (f.fr<x))) az (zu t0));have af:=h_ (show lq l x=k by rw[aI.out,aR.out];omega);have bM:=h_ (BP az af.out);have bj:x<=l[k].fr:=o_;clear t0
    go_wp2_with fail
    go_quiet (fail)
    go_wp2
    go_ret2
    exact⟨by rw[af.out,bM.out];rfl,(F.alloc _).drewN _⟩
  .have aR:=h_ (q8 (p:=(λf:Fo=>decide (f.fr<x))) (l:=l) (k:=k) o_);have aJ:¬(k:Int)<(l.length:Int):=o_;have af:=h_ (show lq l x=l.length by rw[aI.out,aR.out];omega);have bM:=h_ (show o1 l x=false by unfold o1;rw[af.out];simp);have aQ:=hB.f_ 0;go_wp2
   go_ret2
   exact⟨by rw[af.out,bM.out];rfl,F⟩
theorem yV(A:OA)(c:Nat)(l:List Fo)(x:Int)(w:World)(h:Fs w A l)(hn:l.length<=1000000000):
 Calls prog 101 #[.agg #[.slice A l.length c],i_ x] w λe w'=>e=.returned (.tuple #[i_ (if o1 l x=true then(l.getD (lq l x) default).dst else 0),.bool (o1 l x)])/\Gr [] w w':=by
 have hB:=P_ w 96 #[.slice A l.length c];have I:=(F_ [] w).alloc (.cells #[.slice A l.length c] 96);have aQ:=hB.f_ 0
 cases hf:o1 l x with
 |false=>
  have af:=h_ hf;clear hf
  go_enter func101,ntmps101
  go_wp2_with (go_at_call 99;((with_reducible refine(qM A c l x _ (h.hG I) hn).mono ?_);rintro e ae⟨rfl,S⟩;rw[af.out]))
  go_ret2
  exact⟨rfl,I.trans S⟩
 |true=>
  have ag:=by
   unfold o1 at hf;simp at hf;exact hf.1
  have aJ:(lq l x:Int)<(l.length:Int):=o_;have af:=h_ hf;clear hf
  go_enter func101,ntmps101
  go_wp2_with fail
  go_at_call 99
  refine(qM A c l x _ (h.hG I) hn).mono ?_;rintro e ae⟨rfl,S⟩;rw[af.out];have bj:=(hB.hG S).f_ 0;obtain⟨b,off,rfl,bi,bq,bK⟩:=(h.hG (I.trans S)).at_ ag;go_wp2
  go_ret2
  exact⟨by first|rfl|(rw[HD.out];rfl),I.trans S⟩
def CY(P:List Ac)(w:World)(e:Ending)(w':World):Prop:=∃(A:OA) (d:Nat),e=.returned (.slice A P.length d)/\As w' A P/\P.length<=d/\Gr [] w w'
theorem wl(A:OA)(c:Nat)(l:List Ac)(B:OA)(d:Nat)(m:List Ac)(w:World)(h:As w A l)(hm:As w B m)(hn:l.length<=1000000000)(bC:m.length<=1000000000):
 Calls prog 93 #[.slice A l.length c,.slice B m.length d] w (CY (l++m) w):=by
 obtain⟨bF,bE,bt,a8,bo⟩:=info_parts infoAc;have C:Sl w 162 3 A l.length (l.flatMap Ac.E):=h
 have HM:Hid (∀w',Gr [] w w'->Sl w' 162 3 B m.length (m.flatMap Ac.E)):=h_ λw' hg=>Sl.hG hm hg
 have hbs:w.heap.size<=w.heap.size:=H_ _
 go_enter func93,ntmps93
 go_wp2_with (first
  |(at_builtin;refine iL _ rfl (.const (n_)) (.tmp 5) 36 rfl w.heap.size 162 bF _ 3 24 underlying36 bE bt a8 bo rfl d_ d_ none 0 0 [] rfl (iV _ _ _ _) A l.length c _ rfl C (tz _) o_ hbs ?_;intro av ai w2 aq ao;simp only[U_,EO]at aq;have J:=ao.gr [] w (H_ _) (F_ [] w);have a:=J.size;have cv:=HM.out w2 J)
  |(at_builtin;refine iL _ rfl (.tmp 6) (.tmp 7) 36 rfl w.heap.size 162 bF _ 3 24 underlying36 bE bt a8 bo rfl d_ d_ av l.length ai _ rfl aq B m.length d _ rfl cv (tz _) o_ a ?_;intro aG aC ae b5 i;have S:=i.gr [] w (H_ _) J))
 go_ret;unfold CY;have hl:(l++m).length=l.length+m.length:=J_;refine⟨aG,aC,og hl.symm,?_,by rw[hl];exact jf b5,S⟩;unfold As;rw[hl,EZ];exact Sl.iT b5
end Go.Proofs.YtenbhdilndfaeaaGreat
