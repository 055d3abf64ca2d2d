import Derived.Test.YtenbhdilndfaeaaGreatR03
set_option maxRecDepth 100000
set_option maxHeartbeats 0
set_option linter.all false
namespace Go.Proofs.YtenbhdilndfaeaaGreat
open Go.RowKit Go.Proofs.Tryz
variable{G:Prop}{g k:Nat}{ty:TypeId}{cs cur:Array Value}{α:Type}{x:Int}
def I3(h:G:=by
 have bn:k=n:=X;have aT:=s.f_ 0;have f1:=au.hm 0;have bi:=au.f_ 0;go_wp2;have hE:=au.hN 0 (.slice A' rs.length c');refine rr_ #[.slice A' rs.length c'] hE underlying35 ⟨A',c',rs,rfl,?_,?_,?_⟩
 .exact z.ir au I I ((H _ _).setCell (.inl s_) _)
 .rw[q.out,bn,<-K.out,G9]
 .exact F.setCell (.inr s_) _):G:=h
def JG(h:G:=by
 have bG:(l[k].id==id)=true:=zu t0;have q1:(l[k].f==f)=false:=zu t1;clear t0 t1;exact KN):G:=h
def J1(h:G:=by
 have bG:(l[k].id==id)=false:=zu t0;exact KC):G:=h
def J7(h:G:=by
 have bG:(l[k].id==id)=true:=zu t0;have q1:(l[k].f==f)=true:=zu t1;clear t0 t1;exact L0):G:=h
def KC(h:G:=by
 clear t0;exact KN):G:=h
def KE(h:G:=by
 have HA:=O (show jq l n=0 by unfold jq;rw[I_ X]);exact Mc):G:=h
def KN(h:G:=by
 go_wp2;go_roundw
 case rel=>exact⟨k+1,X,gn,by rw[E.out,k6 _ _ _ _ X aQ.out],F.alloc _⟩
 case measure=>exact mz):G:=h
def K3(h:G:=by
 go_roundw
 case rel=>exact⟨k+1,A',c',rs,X,gn,s,au,z,by rw[bK.out,bl.out],F⟩
 case measure=>exact mz):G:=h
def L0(h:G:=by
 go_wp2;go_ret;exact⟨kq (by rw[E.out,mL _ _ _ _ X aQ.out]),F.alloc _⟩):G:=h
def Mc(h:G:=by
 go_enter func94,ntmps94
 go_wp2;go_ret;exact⟨kq (by rw[HA.out]),MR⟩):G:=h
structure Cl where
 id:Int
 f:Int
 v:Vl
 deriving DecidableEq,Inhabited
def Cl.E(c:Cl):List Value:=[Y c.id,Y c.f,.bool c.v.r,Y c.v.n]
structure Dl where
 id:Int
 f:Int
 op:Int
 v:Vl
 deriving DecidableEq,Inhabited
def Dl.E(c:Dl):List Value:=[Y c.id,Y c.f,Y c.op,.bool c.v.r,Y c.v.n]
structure Ac where
 ask:Bool
 v:Int
 kH:Int
 deriving DecidableEq,Inhabited
def Ac.E(c:Ac):List Value:=[.bool c.ask,Y c.v,Y c.kH]
structure Fo where
 fr:Int
 dst:Int
 n:Int
 deriving DecidableEq,Inhabited
def Fo.E(c:Fo):List Value:=[Y c.fr,Y c.dst,Y c.n]
def uc(c:Cl):(Cl.E c).length=4:=rfl
def qK(c:Dl):(Dl.E c).length=5:=rfl
def DK(c:Ac):(Ac.E c).length=3:=rfl
def pi(c:Fo):(Fo.E c).length=3:=rfl
def xM(c:Rw):(Rw.E c).length=2:=rfl
def p9(l:List Cl):∀u∈l.flatMap Cl.E,u.oneCell'=true:=q4 _ (λb u a=>by simp[Cl.E]at a;rcases a with rfl|rfl|rfl|rfl<;>rfl) l
def t8(l:List Dl):∀u∈l.flatMap Dl.E,u.oneCell'=true:=q4 _ (λb u a=>by simp[Dl.E]at a;rcases a with rfl|rfl|rfl|rfl|rfl<;>rfl) l
def uh{l:List Ac}:∀u∈l.flatMap Ac.E,u.oneCell'=true:=q4 _ (λb u a=>by simp[Ac.E]at a;rcases a with rfl|rfl|rfl<;>rfl) l
def vz(l:List Fo):∀u∈l.flatMap Fo.E,u.oneCell'=true:=q4 _ (λb u a=>by simp[Fo.E]at a;rcases a with rfl|rfl|rfl<;>rfl) l
def infoCl:(prog.info? 116).map (λi=>(i.zero,i.size,i.bytes))=some (some (.agg #[Y 0,Y 0,.bool false,Y 0]),4,32):=by kernel_rfl
def infoDl:(prog.info? 124).map (λi=>(i.zero,i.size,i.bytes))=some (some (.agg #[Y 0,Y 0,Y 0,.bool false,Y 0]),5,40):=by kernel_rfl
def infoAc:(prog.info? 162).map (λi=>(i.zero,i.size,i.bytes))=some (some (.agg #[.bool false,Y 0,Y 0]),3,24):=by kernel_rfl
def infoFo:(prog.info? 168).map (λi=>(i.zero,i.size,i.bytes))=some (some (.agg #[Y 0,Y 0,Y 0]),3,24):=by kernel_rfl
def Cs(w:World)(A:OA)(l:List Cl):Prop:=Sl w 116 4 A l.length (l.flatMap Cl.E)
def Ds(w:World)(A:OA)(l:List Dl):Prop:=Sl w 124 5 A l.length (l.flatMap Dl.E)
def As(w:World)(A:OA)(l:List Ac):Prop:=Sl w 162 3 A l.length (l.flatMap Ac.E)
def Fs(w:World)(A:OA)(l:List Fo):Prop:=Sl w 168 3 A l.length (l.flatMap Fo.E)
section
variable{w w':World}{A:OA}
def Cs.g_{l:List Cl}(h:Cs w A l)(a:J [] w w'):Cs w' A l:=Sl.g_ h a
def Ds.g_{l:List Dl}(h:Ds w A l)(a:J [] w w'):Ds w' A l:=Sl.g_ h a
def As.g_{l:List Ac}(h:As w A l)(a:J [] w w'):As w' A l:=Sl.g_ h a
def Fs.g_{l:List Fo}(h:Fs w A l)(a:J [] w w'):Fs w' A l:=Sl.g_ h a
def Cs.at_{l:List Cl}(h:Cs w A l)(e:k<l.length):∃b a,A=some (Z b a)/\w.cell? (Z b (a+k*4))=some (Y l[k].id)/\w.cell? (Z b (a+k*4+1))=some (Y l[k].f)/\w.cell? (Z b (a+k*4+2))=some (.bool l[k].v.r)/\w.cell? (Z b (a+k*4+3))=some (Y l[k].v.n):=by
 obtain⟨b,a,d,c⟩:=Sl.row uc h e;exact⟨b,a,d,c 0 _ rfl,c 1 _ rfl,c 2 _ rfl,c 3 _ rfl⟩
def Ds.at_{l:List Dl}(h:Ds w A l)(e:k<l.length):∃b a,A=some (Z b a)/\w.cell? (Z b (a+k*5))=some (Y l[k].id)/\w.cell? (Z b (a+k*5+1))=some (Y l[k].f)/\w.cell? (Z b (a+k*5+2))=some (Y l[k].op)/\w.cell? (Z b (a+k*5+3))=some (.bool l[k].v.r)/\w.cell? (Z b (a+k*5+4))=some (Y l[k].v.n):=by
 obtain⟨b,a,d,c⟩:=Sl.row qK h e;exact⟨b,a,d,c 0 _ rfl,c 1 _ rfl,c 2 _ rfl,c 3 _ rfl,c 4 _ rfl⟩
def As.at_{l:List Ac}(h:As w A l)(e:k<l.length):∃b a,A=some (Z b a)/\w.cell? (Z b (a+k*3))=some (.bool l[k].ask)/\w.cell? (Z b (a+k*3+1))=some (Y l[k].v)/\w.cell? (Z b (a+k*3+2))=some (Y l[k].kH):=by
 obtain⟨b,a,d,c⟩:=Sl.row DK h e;exact⟨b,a,d,c 0 _ rfl,c 1 _ rfl,c 2 _ rfl⟩
def Fs.at_{l:List Fo}(h:Fs w A l)(e:k<l.length):∃b a,A=some (Z b a)/\w.cell? (Z b (a+k*3))=some (Y l[k].fr)/\w.cell? (Z b (a+k*3+1))=some (Y l[k].dst)/\w.cell? (Z b (a+k*3+2))=some (Y l[k].n):=by
 obtain⟨b,a,d,c⟩:=Sl.row pi h e;exact⟨b,a,d,c 0 _ rfl,c 1 _ rfl,c 2 _ rfl⟩
end
structure Sv(α:Type) where
 A:Option Addr
 c:Nat
 l:List α
def Sv.ok{α:Type}(s:Sv α):Prop:=s.l.length<=s.c
structure Tk where
 hG:Int
 run:Int
 h8:Bool
 pc:Int
 r:Nat->Vl
 gs:Sv Cl
 rs:Sv Cl
 ws:Sv Cl
 nw:Sv Rw
 ds:Sv Dl
 hW:Sv Ac
 hT:Int
 next:Int
 hO:Bool
 v:Vl
 hw:Int
def Tk.g8(t:Tk):Array Value:=#[Y t.hG,Y t.run,.bool t.h8,Y t.pc,.bool (t.r 0).r,Y (t.r 0).n,.bool (t.r 1).r,Y (t.r 1).n,.bool (t.r 2).r,Y (t.r 2).n,.bool (t.r 3).r,Y (t.r 3).n,.bool (t.r 4).r,Y (t.r 4).n,.bool (t.r 5).r,Y (t.r 5).n,.bool (t.r 6).r,Y (t.r 6).n,.bool (t.r 7).r,Y (t.r 7).n,.bool (t.r 8).r,Y (t.r 8).n,.bool (t.r 9).r,Y (t.r 9).n,.bool (t.r 10).r,Y (t.r 10).n,.bool (t.r 11).r,Y (t.r 11).n,.bool (t.r 12).r,Y (t.r 12).n,.bool (t.r 13).r,Y (t.r 13).n,.bool (t.r 14).r,Y (t.r 14).n,.bool (t.r 15).r,Y (t.r 15).n,.slice t.gs.A t.gs.l.length t.gs.c,.slice t.rs.A t.rs.l.length t.rs.c,.slice t.ws.A t.ws.l.length t.ws.c,.slice t.nw.A t.nw.l.length t.nw.c,.slice t.ds.A t.ds.l.length t.ds.c,.slice t.hW.A t.hW.l.length t.hW.c,Y t.hT,Y t.next,.bool t.hO,.bool t.v.r,Y t.v.n,Y t.hw]
structure ln(w:World)(t:Tk):Prop where
 gs:Cs w t.gs.A t.gs.l
 rs:Cs w t.rs.A t.rs.l
 ws:Cs w t.ws.A t.ws.l
 nw:Os w t.nw.A t.nw.l
 nr:nV w t.nw.l
 ds:Ds w t.ds.A t.ds.l
 hW:As w t.hW.A t.hW.l
 yK:t.gs.ok
 lD:t.rs.ok
 vU:t.ws.ok
 tN:t.nw.ok
 sJ:t.ds.ok
 qc:t.hW.ok
def ln.g_{w w':World}{t:Tk}(h:ln w t)(a:J [] w w'):ln w' t:=
 ⟨h.gs.g_ a,h.rs.g_ a,h.ws.g_ a,h.nw.g_ a,h.nr.g_ a,h.ds.g_ a,h.hW.g_ a,h.yK,h.lD,h.vU,h.tN,h.sJ,h.qc⟩
def ln.ir{w w':World}{t:Tk}(h:ln w t)(c:Bk w g ty cs)(a:116≠ty/\56≠ty/\38≠ty/\124≠ty/\162≠ty)(b:J [g] w w'):ln w' t:=
 ⟨Sl.ir h.gs c a.1 b,Sl.ir h.rs c a.1 b,Sl.ir h.ws c a.1 b,Sl.ir h.nw c a.2.1 b,h.nr.ir c a.2.2.1 b,Sl.ir h.ds c a.2.2.2.1 b,Sl.ir h.hW c a.2.2.2.2 b,h.yK,h.lD,h.vU,h.tN,h.sJ,h.qc⟩
structure i6 where
 hG:Int
 run:Int
 h8:Bool
 pc:Int
 r:Nat->Vl
 gs:List Cl
 rs:List Cl
 ws:List Cl
 nw:List Ob
 ds:List Dl
 hW:List Ac
 hT:Int
 next:Int
 hO:Bool
 v:Vl
 hw:Int
def Tk.p(t:Tk):i6:=⟨t.hG,t.run,t.h8,t.pc,t.r,t.gs.l,t.rs.l,t.ws.l,hU t.nw.l,t.ds.l,t.hW.l,t.hT,t.next,t.hO,t.v,t.hw⟩
structure i6.sm(n:Nat)(t:i6):Prop where
 gs:t.gs.length<=n
 rs:t.rs.length<=n
 ws:t.ws.length<=n
 nw:t.nw.length<=n
 ds:t.ds.length<=n
 hW:t.hW.length<=n
def Dd:Nat->Vl:=λ_=>default
def Sv.nil{α:Type}:Sv α:=⟨none,0,[]⟩
def Tk.zero:Tk:=⟨0,0,false,0,Dd,.nil,.nil,.nil,.nil,.nil,.nil,0,0,false,default,0⟩
def Tk.size(t:Tk):t.g8.size=48:=rfl
def Tk.one(t:Tk):t.g8.all (·.oneCell')=true:=by unfold Tk.g8;simp[Value.oneCell']
def ln.nil(w:World)(t:Tk)(d:t.gs=.nil)(e:t.rs=.nil)(f:t.ws=.nil)(b:t.nw=.nil)(c:t.ds=.nil)(a:t.hW=.nil):ln w t:=by
 obtain⟨j,G,l,m,n,i,z,p,o,q,r,s,u,g,v,y⟩:=t;simp only at d e f b c a;subst d;subst e;subst f;subst b;subst c;subst a;exact⟨Gz _ _ _ _,Gz _ _ _ _,Gz _ _ _ _,Gz _ _ _ _,λB h=>by simp[Sv.nil]at h,Gz _ _ _ _,Gz _ _ _ _,H_ _,H_ _,H_ _,H_ _,H_ _,H_ _⟩
structure Ef where
 hS:Int
 pc:Int
 r:Nat->Vl
 rs:Sv Cl
 ws:Sv Cl
 nw:Sv Rw
 ds:Sv Dl
 hW:Sv Ac
 kw:Int
 hO:Bool
 v:Vl
def Ef.g8(x:Ef):Array Value:=#[Y x.hS,Y x.pc,.bool (x.r 0).r,Y (x.r 0).n,.bool (x.r 1).r,Y (x.r 1).n,.bool (x.r 2).r,Y (x.r 2).n,.bool (x.r 3).r,Y (x.r 3).n,.bool (x.r 4).r,Y (x.r 4).n,.bool (x.r 5).r,Y (x.r 5).n,.bool (x.r 6).r,Y (x.r 6).n,.bool (x.r 7).r,Y (x.r 7).n,.bool (x.r 8).r,Y (x.r 8).n,.bool (x.r 9).r,Y (x.r 9).n,.bool (x.r 10).r,Y (x.r 10).n,.bool (x.r 11).r,Y (x.r 11).n,.bool (x.r 12).r,Y (x.r 12).n,.bool (x.r 13).r,Y (x.r 13).n,.bool (x.r 14).r,Y (x.r 14).n,.bool (x.r 15).r,Y (x.r 15).n,.slice x.rs.A x.rs.l.length x.rs.c,.slice x.ws.A x.ws.l.length x.ws.c,.slice x.nw.A x.nw.l.length x.nw.c,.slice x.ds.A x.ds.l.length x.ds.c,.slice x.hW.A x.hW.l.length x.hW.c,Y x.kw,.bool x.hO,.bool x.v.r,Y x.v.n]
structure td(w:World)(x:Ef):Prop where
 rs:Cs w x.rs.A x.rs.l
 ws:Cs w x.ws.A x.ws.l
 nw:Os w x.nw.A x.nw.l
 nr:nV w x.nw.l
 ds:Ds w x.ds.A x.ds.l
 hW:As w x.hW.A x.hW.l
 lD:x.rs.ok
 vU:x.ws.ok
 tN:x.nw.ok
 sJ:x.ds.ok
 qc:x.hW.ok
def td.g_{w w':World}{t:Ef}(h:td w t)(a:J [] w w'):td w' t:=
 ⟨h.rs.g_ a,h.ws.g_ a,h.nw.g_ a,h.nr.g_ a,h.ds.g_ a,h.hW.g_ a,h.lD,h.vU,h.tN,h.sJ,h.qc⟩
def Ef.size(t:Ef):t.g8.size=43:=rfl
def Ef.one(t:Ef):t.g8.all (·.oneCell')=true:=by unfold Ef.g8;simp[Value.oneCell']
def td.ir{w w':World}{t:Ef}(h:td w t)(c:Bk w g ty cs)(a:116≠ty/\56≠ty/\38≠ty/\124≠ty/\162≠ty)(b:J [g] w w'):td w' t:=
 ⟨Sl.ir h.rs c a.1 b,Sl.ir h.ws c a.1 b,Sl.ir h.nw c a.2.1 b,h.nr.ir c a.2.2.1 b,Sl.ir h.ds c a.2.2.2.1 b,Sl.ir h.hW c a.2.2.2.2 b,h.lD,h.vU,h.tN,h.sJ,h.qc⟩
structure qr where
 hS:Int
 pc:Int
 r:Nat->Vl
 rs:List Cl
 ws:List Cl
 nw:List Ob
 ds:List Dl
 hW:List Ac
 kw:Int
 hO:Bool
 v:Vl
def Ef.p(t:Ef):qr:=⟨t.hS,t.pc,t.r,t.rs.l,t.ws.l,hU t.nw.l,t.ds.l,t.hW.l,t.kw,t.hO,t.v⟩
def iE(pc:Int)(r:Nat->Vl):Array Value:=#[Y pc,.bool (r 0).r,Y (r 0).n,.bool (r 1).r,Y (r 1).n,.bool (r 2).r,Y (r 2).n,.bool (r 3).r,Y (r 3).n,.bool (r 4).r,Y (r 4).n,.bool (r 5).r,Y (r 5).n,.bool (r 6).r,Y (r 6).n,.bool (r 7).r,Y (r 7).n,.bool (r 8).r,Y (r 8).n,.bool (r 9).r,Y (r 9).n,.bool (r 10).r,Y (r 10).n,.bool (r 11).r,Y (r 11).n,.bool (r 12).r,Y (r 12).n,.bool (r 13).r,Y (r 13).n,.bool (r 14).r,Y (r 14).n,.bool (r 15).r,Y (r 15).n]
structure X1 where
 i3:Sv In
 hq:Int
 g9:Int
 js:Int
 sr:Nat->Vl
 h:Sv Rw
 nx:Int
 e:Ef
 hH:Bool
def X1.g8(x:X1):Array Value:=#[.slice x.i3.A x.i3.l.length x.i3.c,Y x.hq,Y x.g9,Y x.js,.bool (x.sr 0).r,Y (x.sr 0).n,.bool (x.sr 1).r,Y (x.sr 1).n,.bool (x.sr 2).r,Y (x.sr 2).n,.bool (x.sr 3).r,Y (x.sr 3).n,.bool (x.sr 4).r,Y (x.sr 4).n,.bool (x.sr 5).r,Y (x.sr 5).n,.bool (x.sr 6).r,Y (x.sr 6).n,.bool (x.sr 7).r,Y (x.sr 7).n,.bool (x.sr 8).r,Y (x.sr 8).n,.bool (x.sr 9).r,Y (x.sr 9).n,.bool (x.sr 10).r,Y (x.sr 10).n,.bool (x.sr 11).r,Y (x.sr 11).n,.bool (x.sr 12).r,Y (x.sr 12).n,.bool (x.sr 13).r,Y (x.sr 13).n,.bool (x.sr 14).r,Y (x.sr 14).n,.bool (x.sr 15).r,Y (x.sr 15).n,.slice x.h.A x.h.l.length x.h.c,Y x.nx,Y x.e.hS,Y x.e.pc,.bool (x.e.r 0).r,Y (x.e.r 0).n,.bool (x.e.r 1).r,Y (x.e.r 1).n,.bool (x.e.r 2).r,Y (x.e.r 2).n,.bool (x.e.r 3).r,Y (x.e.r 3).n,.bool (x.e.r 4).r,Y (x.e.r 4).n,.bool (x.e.r 5).r,Y (x.e.r 5).n,.bool (x.e.r 6).r,Y (x.e.r 6).n,.bool (x.e.r 7).r,Y (x.e.r 7).n,.bool (x.e.r 8).r,Y (x.e.r 8).n,.bool (x.e.r 9).r,Y (x.e.r 9).n,.bool (x.e.r 10).r,Y (x.e.r 10).n,.bool (x.e.r 11).r,Y (x.e.r 11).n,.bool (x.e.r 12).r,Y (x.e.r 12).n,.bool (x.e.r 13).r,Y (x.e.r 13).n,.bool (x.e.r 14).r,Y (x.e.r 14).n,.bool (x.e.r 15).r,Y (x.e.r 15).n,.slice x.e.rs.A x.e.rs.l.length x.e.rs.c,.slice x.e.ws.A x.e.ws.l.length x.e.ws.c,.slice x.e.nw.A x.e.nw.l.length x.e.nw.c,.slice x.e.ds.A x.e.ds.l.length x.e.ds.c,.slice x.e.hW.A x.e.hW.l.length x.e.hW.c,Y x.e.kw,.bool x.e.hO,.bool x.e.v.r,Y x.e.v.n,.bool x.hH]
structure Sh where
 a:Bool
 b:Bool
 c:Bool
 n:Int
 deriving DecidableEq,Inhabited
def Sh.E(s:Sh):List Value:=[.bool s.a,.bool s.b,.bool s.c,Y s.n]
def iK:List Sh:=[⟨false,false,false,0⟩,⟨true,false,false,1⟩,⟨true,false,false,0⟩,⟨true,true,false,0⟩,⟨true,true,true,2⟩,⟨true,true,false,3⟩,⟨true,true,false,3⟩,⟨true,false,false,4⟩,⟨true,false,false,5⟩,⟨true,false,false,5⟩,⟨true,false,false,5⟩,⟨false,false,false,6⟩,⟨true,false,false,6⟩,⟨false,false,false,7⟩,⟨true,false,false,0⟩,⟨true,false,false,0⟩,⟨true,false,false,0⟩,⟨false,false,false,8⟩,⟨true,false,false,0⟩,⟨true,false,false,0⟩,⟨false,false,false,5⟩,⟨false,false,false,9⟩]
def qY:List Value:=iK.flatMap Sh.E
def Cf:∀k,k<22->0<=(iK.getD k default).n/\(iK.getD k default).n<=9:=by decide
def xJ{w:World}:Calls prog 146 #[] w λe w'=>∃g:Nat,e=.returned (.slice (j_ g) 22 22)/\Sl w' 274 4 (j_ g) 22 qY/\J [] w w':=by
 go_enter func146,ntmps146
 go_wp2;go_ret;exact⟨w.heap.size,rfl,Sl.new w 274 4 _ 22 _ rfl rfl,(H _ _).alloc _⟩
def jF(l:List In)(i:Nat)(x:In)(s:Sh):Bool:=
 if x.op<0∨21<x.op then false
 else if(!mj x.a s.a||(x.op !=13&&x.op !=10&& !mj x.b s.b)||(x.op !=13&& !mj x.c s.c)) then false
 else if(x.op==13&&(decide (x.b<0)||decide (4<x.b)||decide (x.c<x.b)||decide (64<x.c)||h5 l ((i:Int)+1) !=21))||(x.op==10&& !r9 x.b) then false
 else if s.n=0 then x.n==0
 else if s.n=2 then pW x.n&&decide (0<=x.n)&&decide (x.n<100)
 else if s.n=3 then decide (0<=x.n)&&decide (x.n<16)
 else if s.n=4 then decide (0<=x.n)&&decide (x.n<=16)
 else if s.n=5 then decide (0<=x.n)&&decide (x.n<64)&&(x.op !=20||h5 l ((i:Int)-1)==21)
 else if s.n=6 then decide (0<=h5 l x.n)&&h5 l x.n !=20&&(decide ((i:Int)<x.n)||h5 l x.n==21)
 else if s.n=7 then h5 l x.n==21
 else if s.n=8 then x.n==0||h5 l x.n==21
 else true
def kD(l:List In)(i:Nat):Bool:=jF l i (l.getD i default) (iK.getD (l.getD i default).op.toNat default)
def mr{α:Type}(p:α->Bool):List α->Nat
 |[]=>0
 |x::l=>if p x then mr p l+1 else 0
def pY(p:α->Bool)(l:List α):mr p l<=l.length:=by
 induction l with
 |nil=>simp[mr]
 |cons x l a=>simp only[mr,FJ];split<;>omega
def oJ{p:α->Bool}{l:List α}(a:k<l.length)(b:p l[k]=true):mr p (l.drop k)=mr p (l.drop (k+1))+1:=by
 rw[Y_ a];simp[mr,b]
def nL{p:α->Bool}{l:List α}(a:k<l.length)(b:p l[k]=false):mr p (l.drop k)=0:=by
 rw[Y_ a];simp[mr,b]
def rU{p:α->Bool}{l:List α}(a:l.length<=k):mr p (l.drop k)=0:=by
 rw[F3 a]
 rfl
def cat(l:List Cl)(id f:Int):Int:=iR (λc:Cl=>c.id==id&&c.f==f) l 0
def oN(id f:Int)(c:Cl):Bool:=decide (c.id<id)||(c.id==id&&decide (c.f<f))
def rx(l:List Cl)(id f:Int):Nat:=mr (oN id f) l
def ka(l:List Cl)(c:Cl):List Cl:=
 if 0<=cat l c.id c.f then l.set (cat l c.id c.f).toNat c else l.take (rx l c.id c.f)++([c]++l.drop (rx l c.id c.f))
def pu(l:List Dl)(id f:Int):Int:=iR (λc:Dl=>c.id==id&&c.f==f) l 0
def oh(id f:Int)(c:Dl):Bool:=decide (c.id<id)||(c.id==id&&decide (c.f<f))
def rX(l:List Dl)(id f:Int):Nat:=mr (oh id f) l
def pr(h:List Ob)(c:Cl):List Ob:=match h6 h c.id c.f with
 |none=>h
 |some _=>kL h c.id c.f c.v
def it(h:List Ob)(l:List Cl):List Ob:=l.foldl pr h
def px(h:List Ob)(d:Dl):List Ob:=match h6 h d.id d.f with
 |none=>h
 |some v=>if(iz d.op v d.v).2=0 then kL h d.id d.f (iz d.op v d.v).1 else h
def kg(h:List Ob)(l:List Dl):List Ob:=l.foldl px h
def kG(rs:List Cl)(h:List Ob)(g:Cl):List Ob:=if cat rs g.id g.f<0 then it h [g] else h
def before(t:i6)(view:List Ob):List Ob:=it (t.gs.foldl (kG t.rs) view) t.rs
def iu(t:i6)(view:List Ob):List Ob:=kg (it (t.nw.foldl jY (before t view)) t.ws) t.ds
def la(h:List Ob)(t:i6):List Ob:=kg (it (t.nw.foldl jY h) t.ws) t.ds
def qz(o:Ob)(f:Int)(v:Vl):Ob:=⟨o.id,if 0<=f/\f<(o.fs.length:Int) then o.fs.set f.toNat v else o.fs⟩
def iO(t:i6)(c:Cl):i6:=
 if jn t.nw c.id<0 then{t with ws:=ka t.ws c} else{t with nw:=t.nw.modify (jn t.nw c.id).toNat (λo=>qz o c.f c.v)}
def jO(t:i6)(view:List Ob)(id f:Int):Option i6:=
 if pu t.ds id f<0 then some t else
 match h6 (before t view) id f with
 |none=>none
 |some b=>if b.r=true then none else
  some (iO {t with rs:=ka t.rs ⟨id,f,b⟩,ds:=t.ds.eraseIdx (pu t.ds id f).toNat} ⟨id,f,(h6 (iu t view) id f).getD default⟩)
def take(t:i6)(d:Dl):Option i6:=
 if t.h8=true∨0<=jn t.nw d.id∨0<=cat t.ws d.id d.f∨0<=cat t.rs d.id d.f then none
 else if pu t.ds d.id d.f<0 then some {t with ds:=t.ds.take (rX t.ds d.id d.f)++([d]++t.ds.drop (rX t.ds d.id d.f))}
 else if(t.ds.getD (pu t.ds d.id d.f).toNat default).op≠d.op then none
 else some {t with ds:=t.ds.modify (pu t.ds d.id d.f).toNat (λx=>{x with v:=(iz d.op x.v d.v).1})}
def jB(l:List Cl)(d:Dl):List Cl:=l.filter λc=>c.id !=d.id||c.f !=d.f
def jK:i6->List Cl->List Cl->List Dl->i6 × List Cl × List Cl
 |t,rs,ws,[]=>(t,rs,ws)
 |t,rs,ws,d::l=>match take t d with
  |none=>jK t rs ws l
  |some t'=>jK t' (jB rs d) (jB ws d) l
def q9(view:List Ob)(t:i6)(c:Cl):Option i6:=
 if 0<=jn t.nw c.id∨0<=cat t.ws c.id c.f∨0<=cat t.rs c.id c.f then some t
 else if 0<=pu t.ds c.id c.f then jO t view c.id c.f
 else some {t with rs:=ka t.rs c}
def kj(view:List Ob):i6->List Cl->Option i6
 |t,[]=>some t
 |t,c::l=>match q9 view t c with
  |none=>none
  |some t'=>kj view t' l
def tH(view:List Ob)(t:i6)(c:Cl):Option i6:=(jO t view c.id c.f).map (iO · c)
def kO(view:List Ob):i6->List Cl->Option i6
 |t,[]=>some t
 |t,c::l=>match tH view t c with
  |none=>none
  |some t'=>kO view t' l
def record(t:i6)(view:List Ob)(e:qr):Option i6:=
 let a:=jK t e.rs e.ws e.ds
 match kj view a.1 a.2.1 with
 |none=>none
 |some t1=>match kO view {t1 with nw:=t1.nw++e.nw} a.2.2 with
  |none=>none
  |some ag=>some {ag with hW:=ag.hW++e.hW}
def i5:Nat->Vl:=λ_=>default
def pJ(r:Nat->Vl)(a:Int)(v:Vl):Nat->Vl:=λj=>if j=a.toNat then v else r j
structure XP where
 i3:List In
 hq:Int
 g9:Int
 js:Int
 sr:Nat->Vl
 h:List Ob
 nx:Int
 e:qr
 hH:Bool
def X1.p(x:X1):XP:=⟨x.i3.l,x.hq,x.g9,x.js,x.sr,hU x.h.l,x.nx,x.e.p,x.hH⟩
def iA(l:List In)(n:Int):Bool:=decide (0<=n)&&(decide (n<(l.length:Int))&&(l.getD n.toNat default).op==21)
def hJ(x:XP)(id f:Int):XP × Vl:=match h6 x.h id f with
 |none=>({x with hH:=true},default)
 |some v=>if 0<=cat x.e.rs id f then(x,v) else({x with e:={x.e with rs:=x.e.rs++[⟨id,f,v⟩]}},v)
def h4(x:XP)(id f:Int)(v:Vl):XP:={x with e:={x.e with ws:=x.e.ws++[⟨id,f,v⟩]}}
def iB(x:XP):XP:={x with hH:=x.hH||(match iU x.h 1 with|none=>true|some o=>decide ((o.fs.length:Int)<3))}
def iG(h:List Ob)(id:Int):Int:=match iU h id with
 |none=>0
 |some o=>o.fs.length
def hF(x:XP):XP × Int × Int:=
 let x:=iB x
 if x.hH=true then(x,0,0) else
 let y:=hJ x 1 0
 ({y.1 with hH:=y.1.hH||(!y.2.r||(match iU y.1.h y.2.n with|none=>true|some o=>decide ((o.fs.length:Int)<3)))},y.2.n,iG y.1.h y.2.n)
def kU(x:XP):XP:={x with hH:=true}
def iX(x:XP)(v:Vl):XP:=
 let a:=hF x
 if a.1.hH=true then a.1 else
 let b:=hJ a.1 a.2.1 2
 if b.2.r=true∨(b.2.n≠0/\iA b.1.i3 b.2.n=false) then kU b.1 else
 if b.2.n≠0 then
  let y:=h4 (h4 b.1 a.2.1 2 default) 1 2 v
  {y with e:={y.e with pc:=b.2.n,r:=i5}}
 else
  let p:=hJ b.1 a.2.1 0
  if p.2.r=false then kU p.1 else
  if p.2.n=0 then{p.1 with e:={p.1.e with hS:=2,hO:=true,v:=v,pc:=p.1.js,r:=p.1.sr}}
  else
   let y:=h4 (h4 p.1 1 0 p.2) 1 2 v
   {y with e:={y.e with hS:=1,kw:=y.g9,pc:= -1,r:=i5}}
def ji(x:XP)(n:Int):XP:=iX x ⟨false,n⟩
def ih(x:XP)(v:Vl)(f:Int):XP × Int × Bool:=
 if v.r=false then(ji x (-2),0,false) else
 if v.n=0 then(ji x (-1),0,false) else
 match iU x.h v.n with
 |none=>(kU x,0,false)
 |some o=>if(o.fs.length:Int)<=f then(ji x (-1),0,false) else(x,v.n,true)
def ht(x:XP)(n:Int):XP × Int × Int × Bool:=
 let a:=hF x
 if a.1.hH=true then(a.1,0,0,false) else
 if a.2.2<=3+n then(ji a.1 (-1),0,0,false) else(a.1,a.2.1,3+n,true)
def kY(x:XP)(a:Int)(v:Vl):XP:={x with e:={x.e with r:=pJ x.e.r a v}}
def sD(x:XP)(pc:Int):XP:={x with e:={x.e with pc:=pc}}
def jb(x:XP)(i:In):Option XP:=
 let r:=x.e.r
 if i.op=0 then some x
 else if i.op=1 then some (kY x i.a ⟨false,i.n⟩)
 else if i.op=2 then some (kY x i.a ⟨true,0⟩)
 else if i.op=3 then some (kY x i.a (r i.b.toNat))
 else if i.op=4 then
  let y:=iz i.n (r i.b.toNat) (r i.c.toNat)
  some (if y.2≠0 then ji x y.2 else kY x i.a y.1)
 else if i.op=11 then some (sD x i.n)
 else if i.op=12 then some (if(r i.a.toNat).n≠0 then x else sD x i.n)
 else if i.op=21 then some {x with e:={x.e with r:=i5,hS:=1,kw:=i.n}}
 else if i.op=16 then some (iX x (r i.a.toNat))
 else if i.op=19 then some (if(r i.a.toNat).r=true then ji x (-2) else{x with e:={x.e with hW:=[⟨false,(r i.a.toNat).n,0⟩]}})
 else none
def ki(x:XP)(i:In):Option XP:=
 if i.op≠8/\i.op≠9/\i.op≠10/\i.op≠20 then none else
 let a:=x.sr i.a.toNat
 let y:=ht x i.n
 if y.2.2.2=false then some y.1 else
 let f:=y.2.1
 let k:=y.2.2.1
 if i.op=9 then some (h4 y.1 f k a) else
 let z:=hJ y.1 f k
 if i.op=8 then some (kY z.1 i.a z.2)
 else if i.op=10 then
  let q:=iz i.b z.2 a
  if q.2≠0 then some (ji z.1 q.2) else
  let u:=h4 z.1 f k q.1
  some {u with e:={u.e with ds:=[⟨f,k,i.b,a⟩]}}
 else if z.2.r=true then some (ji z.1 (-2))
 else some {z.1 with e:={z.1.e with hS:=3,v:=z.2,pc:=z.1.js,r:=z.1.sr}}
def jH(x:XP)(i:In):XP:=
 let a:=x.sr i.a.toNat
 if i.op=5 then
  let y:=ih x (x.sr i.b.toNat) i.n
  if y.2.2=true then(let z:=hJ y.1 y.2.1 i.n;kY z.1 i.a z.2) else y.1
 else if i.op=6 then
  let y:=ih x (x.sr i.b.toNat) i.n
  if y.2.2=true then h4 y.1 y.2.1 i.n a else y.1
 else if i.op=7 then
  kY {x with e:={x.e with nw:=[⟨x.nx,List.replicate i.n.toNat default⟩]}} i.a ⟨true,x.nx⟩
 else if i.op=13 then
  let y:=hF x
  let z:={y.1 with e:={y.1.e with nw:=[⟨y.1.nx,[⟨true,y.2.1⟩,⟨false,y.1.js+1⟩,default]++((List.range i.b.toNat).map y.1.sr++List.replicate (i.c-i.b).toNat default)⟩]}}
  sD (h4 z 1 0 ⟨true,z.nx⟩) i.n
 else if i.op=14 then
  let y:=hF x
  if y.1.hH=true then y.1 else
  let p:=hJ y.1 y.2.1 0
  if p.2.r=true/\p.2.n=0 then{p.1 with e:={p.1.e with hS:=2,v:=a,pc:=p.1.js,r:=p.1.sr}} else
  let r:=hJ p.1 y.2.1 1
  if p.2.r=false∨r.2.r=true∨iA r.1.i3 r.2.n=false then kU r.1 else
  sD (h4 (h4 r.1 1 0 p.2) 1 1 a) r.2.n
 else if i.op=15∨i.op=18 then
  let y:=iB x
  if y.hH=true then y else
  let z:=hJ y 1 (if i.op=15 then 1 else 2)
  kY z.1 i.a z.2
 else if i.op=17 then
  let y:=hF x
  h4 y.1 y.2.1 2 ⟨false,i.n⟩
 else x
def og(l:List In):Bool:=(List.range l.length).all (kD l)
def jA(l:List In):Int:=((l.filter λi=>i.op==21).length:Int)
def kh:List In->Int->Bool
 |[],_=>true
 |i::l,m=>if i.op=21 then(i.n==m)&&kh l (m+1) else kh l m
def hY(c:List In)(hq g9:Int):Bool:=
 decide (1<=c.length)&&decide (c.length<=2048)&&decide (0<=hq)&&decide (hq<=64)&&(h5 c 0==21)&&
 (h5 c ((c.length:Int)-1)==14||h5 c ((c.length:Int)-1)==16||h5 c ((c.length:Int)-1)==11)&&
 og c&&kh c 0&&(g9==jA c)
def lP:qr:=⟨0,0,i5,[],[],[],[],[],0,false,default⟩
def jl:qr:={lP with hS:=4}
def mx(x:XP)(pc:Int):XP:=
 if pc= -1 then
  let y:=iB x
  if y.hH=true then y else
  let z:=hJ y 1 2
  iX z.1 z.2
 else
  let i:=x.i3.getD pc.toNat default
  match jb x i with
  |some y=>y
  |none=>match ki x i with
   |some y=>y
   |none=>jH x i
def j8(c:List In)(hq g9 pc:Int)(r:Nat->Vl)(h:List Ob)(nx:Int):qr:=
 if hY c hq g9=false∨pc< -1∨(c.length:Int)<=pc then jl else
 let y:=mx ⟨c,hq,g9,pc,r,h,nx,{lP with pc:=pc+1,r:=r},false⟩ pc
 if y.hH=true then jl else y.e
def lT(A:OA)(c:Nat)(l:List Cl)(id f:Int)(w:World)(h:Cs w A l)(u:l.length<=1000000000):
 Calls prog 129 #[.slice A l.length c,Y id,Y f] w λe w'=>e=.returned (Y (cat l id f))/\J [] w w':=by
 have i:=O (show cat l id f=iR (λc:Cl=>c.id==id&&c.f==f) l 0 from rfl);generalize s:l.length=b at*
 go_enter func129,ntmps129
 go_wp2
 go_loopw [11] (λa w'=>∃k:Nat,k<=b/\a=Y k/\cat l id f=iR (λc:Cl=>c.id==id&&c.f==f) (l.drop k) k/\J [] w w') (λa _=>b-(intOf a).toNat)
 case atStart=>exact⟨0,P_ _,rfl,i.out,H _ _⟩
 case round=>
  obtain⟨k,t,rfl,G,F⟩:=hrel;have E:=O G;clear G
  by_cases j:k<b
  .have d:k<l.length:=X;obtain⟨m,v,rfl,p,r,n,o⟩:=(h.g_ F).at_ d
   by_cases t0:l[k].id=id
   .by_cases t1:l[k].f=f
    .have aQ:=O (show(λc:Cl=>c.id==id&&c.f==f) l[k]=true by simp[t0,t1]);exact J7
    .have aQ:=O (show(λc:Cl=>c.id==id&&c.f==f) l[k]=false by simp[t0,t1]);exact JG
   .have aQ:=O (show(λc:Cl=>c.id==id&&c.f==f) l[k]=false by simp[t0]);exact J1
  .exact Mo
def l6(t:Tk)(id f:Int){w:World}(h:ln w t)(u:t.ds.l.length<=1000000000):
 Calls prog 130 #[.agg t.g8,Y id,Y f] w λe w'=>e=.returned (Y (pu t.ds.l id f))/\J [] w w':=by
 have s:=Q_ w 53 t.g8;have o:(w.alloc (.cells t.g8 53)).cell? (Z w.heap.size 40)=some (.slice t.ds.A t.ds.l.length t.ds.c):=(s.f_ 40).trans rfl;obtain⟨A,a,l,c,m,b⟩:∃(A:OA) (a:Nat) (l:List Dl),t.ds.A=A/\t.ds.c=a/\t.ds.l=l:=⟨_,_,_,rfl,rfl,rfl⟩;have j:=h.ds;rw[c,b]at j;rw[c,m,b]at o;rw[b]at u;have r:=O b;clear c m b h;rw[r.out];have p:=O (show pu l id f=iR (λa:Dl=>a.id==id&&a.f==f) l 0 from rfl);generalize K:l.length=i at*
 go_enter func130,ntmps130
 go_wp2
 go_loopw [12] (λd w'=>∃k:Nat,k<=i/\d=Y k/\pu l id f=iR (λa:Dl=>a.id==id&&a.f==f) (l.drop k) k/\J [] w w') (λd _=>i-(intOf d).toNat)
 case atStart=>exact⟨0,P_ _,rfl,p.out,(H _ _).alloc _⟩
 case round=>
  obtain⟨k,L,rfl,G,F⟩:=hrel;have E:=O G;clear G
  by_cases y:k<i
  .have n:k<l.length:=X;obtain⟨z,M,rfl,D,I,B,C,v⟩:=(j.g_ F).at_ n
   by_cases t0:l[k].id=id
   .by_cases t1:l[k].f=f
    .have aQ:=O (show(λa:Dl=>a.id==id&&a.f==f) l[k]=true by simp[t0,t1]);exact J7
    .have aQ:=O (show(λa:Dl=>a.id==id&&a.f==f) l[k]=false by simp[t0,t1]);exact JG
   .have aQ:=O (show(λa:Dl=>a.id==id&&a.f==f) l[k]=false by simp[t0]);exact J1
  .exact Mo
def o7(t:Tk)(id:Int)(w:World)(h:ln w t)(y:t.nw.l.length<=1000000000):
 Calls prog 128 #[.agg t.g8,Y id] w λe w'=>e=.returned (Y (jn (hU t.nw.l) id))/\J [] w w':=by
 have v:=Q_ w 53 t.g8;have p:(w.alloc (.cells t.g8 53)).cell? (Z w.heap.size 39)=some (.slice t.nw.A t.nw.l.length t.nw.c):=(v.f_ 39).trans rfl;obtain⟨A,l,a,d,m,c⟩:∃(A:OA) (l:Nat) (a:List Rw),t.nw.A=A/\t.nw.c=l/\t.nw.l=a:=⟨_,_,_,rfl,rfl,rfl⟩;have j:=h.nw;rw[d,c]at j;rw[d,m,c]at p;rw[c]at y;have u:=O c;clear d m c h;rw[u.out];have s:=O (show jn (hU a) id=iR (λb:Rw=>b.o.id==id) a 0 by unfold jn hU;exact pa _ _ _ _ λ_ _=>rfl);generalize I:a.length=i at*
 go_enter func128,ntmps128
 go_wp2
 go_loopw [10] (λf w'=>∃k:Nat,k<=i/\f=Y k/\jn (hU a) id=iR (λb:Rw=>b.o.id==id) (a.drop k) k/\J [] w w') (λf _=>i-(intOf f).toNat)
 case atStart=>exact⟨0,P_ _,rfl,s.out,(H _ _).alloc _⟩
 case round=>
  obtain⟨k,K,rfl,G,F⟩:=hrel;have E:=O G;clear G
  by_cases z:k<i
  .have n:k<a.length:=X;obtain⟨B,L,rfl,C,D⟩:=(j.g_ F).at_ n
   by_cases t0:a[k].o.id=id
   .have aQ:=O (show(λb:Rw=>b.o.id==id) a[k]=true by simp[t0]);have r:(a[k].o.id==id)=true:=zu t0;clear t0;exact L0
   .have aQ:=O (show(λb:Rw=>b.o.id==id) a[k]=false by simp[t0]);have r:(a[k].o.id==id)=false:=zu t0;exact KC
  .exact Mo
structure mB(w:World)(A:OA)(c:Nat)(l:List Rw):Prop where
 os:Os w A l
 lD:nV w l
 lO:l.length<=c
def mB.g_{w w':World}{A:OA}{c:Nat}{l:List Rw}(h:mB w A c l)(a:J [] w w'):mB w' A c l:=⟨h.os.g_ a,h.lD.g_ a,h.lO⟩
def mB.alloc{w:World}{A:OA}{c:Nat}{l:List Rw}(h:mB w A c l)(a:Obj):mB (w.alloc a) A c l:=h.g_ ((H [] w).alloc a)
def mB.ir{w w':World}{A:OA}{c:Nat}{l:List Rw}{t:TypeId}(h:mB w A c l)(b:Bk w g t cs)(d:56≠t)(e:38≠t)(a:J [g] w w'):mB w' A c l:=
 ⟨Sl.ir h.os b d a,h.lD.ir b e a,h.lO⟩
def mt(P:List Ob)(w:World)(e:Ending)(w':World):Prop:=∃(A:OA) (c:Nat) (rs:List Rw),e=.returned (.agg #[.slice A rs.length c])/\mB w' A c rs/\hU rs=P/\J [] w w'
def hZ(l:List Rw):(hU l).length=l.length:=by simp[hU]
def tT{h:List Ob}{id f:Int}{v:Vl}:(kL h id f v).length=h.length:=by simp[kL]
def yI(h:List Ob)(c:Cl):(pr h c).length=h.length:=by
 unfold pr;split
 .rfl
 .exact tT
def jN(h:List Ob)(l:List Cl):(it h l).length=h.length:=by
 unfold it
 induction l generalizing h with
 |nil=>rfl
 |cons b l a=>rw[GT,a,yI]
def qO{h:List Ob}{l:List Cl}(a:k<l.length):it h (l.take (k+1))=pr (it h (l.take k)) l[k]:=by
 unfold it;rw[X_ a,G3]
 rfl
def nX(A:OA)(c:Nat)(l:List Rw)(B:OA)(d:Nat)(cs:List Cl)(w:World)(h:mB w A c l)(hn:l.length<=1000000000)(hc:Cs w B cs)(bW:cs.length<=1000000000):
 Calls prog 125 #[.agg #[.slice A l.length c],.slice B cs.length d] w (mt (it (hU l) cs) w):=by
 obtain⟨v,y,m⟩:=qL w 35 #[.slice A l.length c] 35 #[n_];have Q:=h.g_ m;have ad:=O (show l.length=(hU l).length from(hZ l).symm);generalize P:cs.length=n at*;have K:=O P;clear P
 go_enter func125,ntmps125
 go_wp2
 go_loopw [11] (λt wr=>∃(k:Nat) (A':OA) (c':Nat) (rs:List Rw),k<=n/\t=Y k/\Bk wr w.heap.size 35 #[.slice A' rs.length c']/\Bk wr (w.heap.size+1) 35 #[n_]/\mB wr A' c' rs/\hU rs=it (hU l) (cs.take k)/\J [] w wr) (λt _=>n-(intOf t).toNat)
 case atStart=>exact⟨0,A,c,l,P_ _,rfl,v,y,Q,rfl,m⟩
 case round=>
  obtain⟨k,A',c',rs,hk,rfl,s,au,z,M,F⟩:=hrel;have q:=O M;clear M v y Q m
  by_cases S:k<n
  .have D:k<cs.length:=by rw[K.out];exact S
   obtain⟨ae,off,R,V,W,T,U⟩:=(hc.g_ F).at_ D;subst R;have N:=O (show it (hU l) (cs.take (k+1))=pr (hU rs) cs[k] by rw[q.out];exact qO D)
   have E:rs.length<=1000000000:=by
    have:=hZ rs
    rw[q.out,jN]at this;have h2:=ad.out;omega
   generalize cs[k]=x at*;obtain⟨g,f,b⟩:=x;simp only at V W T U;have a:=(H [] wr).alloc (.cells #[Y g,Y f,.bool b.r,Y b.n] 116);have aT:=(s.alloc (.cells #[Y g,Y f,.bool b.r,Y b.n] 116)).f_ 0
   cases j:h6 (hU rs) g f with
   |none=>
    have r:=O (show pr (hU rs) ⟨g,f,b⟩=hU rs by unfold pr;simp only[j])
    go_wp2_with (go_at_call 149;((with_reducible refine(qP A' c' rs g f b (z.g_ a).os (z.g_ a).lD E j).mono ?_);rintro af L⟨rfl,e⟩;have i:=((s.g_ a).g_ e).alloc (.cells #[n_] 35)))
    go_roundw
    case rel=>exact⟨k+1,A',c',rs,X,gn,i,((au.g_ a).g_ e).alloc _,((z.g_ a).g_ e).alloc _,by rw[N.out,r.out],((F.trans a).trans e).alloc _⟩
    case measure=>exact mz
   |some ag=>
    have r:=O (show pr (hU rs) ⟨g,f,b⟩=kL (hU rs) g f b by unfold pr;simp only[j])
    go_wp2_with (go_at_call 149;((with_reducible refine(ox A' c' rs g f b ag (z.g_ a).os (z.g_ a).lD E j).mono ?_);rintro af L⟨p,o,u,rfl,ai,ak,Z,C,e⟩;have al:=O C;clear C;have i:=((s.g_ a).g_ e).alloc (.cells #[.slice p u.length o] 35);have z0:=i.f_ 0;have f0:=i.hm 0;have hD:=Q_ L 35 #[.slice p u.length o];have MN:=hD.f_ 0))
    go_roundw
    case rel=>exact⟨k+1,p,o,u,X,gn,i.hN 0 _,(((au.g_ a).g_ e).alloc _).ib s_ _,((mB.mk ak Z ai).alloc _).ir i I I ((H _ _).setCell (.inl s_) _),by rw[N.out,r.out,al.out],(((F.trans a).trans e).alloc _).setCell (.inr s_) _⟩
    case measure=>exact mz
  .exact I3
def BA(h:List Ob)(c:Dl):(px h c).length=h.length:=by
 unfold px;split
 .rfl
 .split
  .exact tT
  .rfl
def n9(h:List Ob)(l:List Dl):(kg h l).length=h.length:=by
 unfold kg
 induction l generalizing h with
 |nil=>rfl
 |cons b l a=>rw[GT,a,BA]
def vr{h:List Ob}{l:List Dl}(a:k<l.length):kg h (l.take (k+1))=px (kg h (l.take k)) l[k]:=by
 unfold kg;rw[X_ a,G3]
 rfl
def sn(A:OA)(c:Nat)(l:List Rw)(B:OA)(d:Nat)(ds:List Dl){w:World}(h:mB w A c l)(hn:l.length<=1000000000)(hc:Ds w B ds)(bW:ds.length<=1000000000):
 Calls prog 124 #[.agg #[.slice A l.length c],.slice B ds.length d] w (mt (kg (hU l) ds) w):=by
 obtain⟨Q,S,L⟩:=qL w 35 #[.slice A l.length c] 35 #[n_];have ae:=h.g_ L;have ag:=O (show l.length=(hU l).length from(hZ l).symm);generalize al:ds.length=n at*;have K:=O al;clear al
 go_enter func124,ntmps124
 go_wp2
 go_loopw [13] (λP wr=>∃(k:Nat) (A':OA) (c':Nat) (rs:List Rw),k<=n/\P=Y k/\Bk wr w.heap.size 35 #[.slice A' rs.length c']/\Bk wr (w.heap.size+1) 35 #[n_]/\mB wr A' c' rs/\hU rs=kg (hU l) (ds.take k)/\J [] w wr) (λP _=>n-(intOf P).toNat)
 case atStart=>exact⟨0,A,c,l,P_ _,rfl,Q,S,ae,rfl,L⟩
 case round=>
  obtain⟨k,A',c',rs,hk,rfl,s,au,z,bD,F⟩:=hrel;have q:=O bD;clear bD Q S ae L
  by_cases aj:k<n
  .have V:k<ds.length:=by rw[K.out];exact aj
   obtain⟨am,off,aG,bm,bu,bH,bM,aY⟩:=(hc.g_ F).at_ V;subst aG;have bK:=O (show kg (hU l) (ds.take (k+1))=px (hU rs) ds[k] by rw[q.out];exact vr V)
   have E:rs.length<=1000000000:=by
    have:=hZ rs
    rw[q.out,n9]at this;have h2:=ag.out;omega
   generalize ds[k]=x at*;obtain⟨g,j,m,b⟩:=x;simp only at bm bu bH bM aY;have a:Bk (wr.alloc (.cells #[Y g,Y j,Y m,.bool b.r,Y b.n] 124)) wr.heap.size 124 #[Y g,Y j,Y m,.bool b.r,Y b.n]:=Q_ wr _ _;have s:=s.alloc (.cells #[Y g,Y j,Y m,.bool b.r,Y b.n] 124);have au:=au.alloc (.cells #[Y g,Y j,Y m,.bool b.r,Y b.n] 124);have z:=z.alloc (.cells #[Y g,Y j,Y m,.bool b.r,Y b.n] 124);have F:=F.alloc (.cells #[Y g,Y j,Y m,.bool b.r,Y b.n] 124);have aT:=s.f_ 0;have MN:=a.f_ 0;have ai:=a.f_ 1
   cases u:h6 (hU rs) g j with
   |none=>
    have bl:=O (show px (hU rs) ⟨g,j,m,b⟩=hU rs by unfold px;simp only[u]);obtain⟨e,t⟩:=mn_ (iz m default b);have D:=O t;clear t
    go_wp2_with (first|(go_at_call 148;((with_reducible refine(kA A' c' rs g j _ z.os z.lD E).mono ?_);rintro v C⟨rfl,f⟩;rw[u];simp only[HE,HK];have s:=(s.g_ f).alloc (.cells (V_ (default:Vl)) 38);have au:=(au.g_ f).alloc (.cells (V_ (default:Vl)) 38);have a:=(a.g_ f).alloc (.cells (V_ (default:Vl)) 38);have z:=(z.g_ f).alloc (.cells (V_ (default:Vl)) 38);have F:=(F.trans f).alloc (.cells (V_ (default:Vl)) 38);have p:=Q_ C 38 (V_ (default:Vl));have U:=a.f_ 2;have Z:=a.f_ 3;have aX:=a.f_ 4;have z0:=p.f_ 0;have W:=p.f_ 1))|(go_at_call 164;((with_reducible refine(mR m _ b).mono ?_);rintro v M⟨r,i⟩;unfold qN at r;subst r;rw[D.out];have s:=(s.g_ i).alloc (.cells (V_ e.1) 38);have au:=(au.g_ i).alloc (.cells (V_ e.1) 38);have z:=(z.g_ i).alloc (.cells (V_ e.1) 38);have F:=(F.trans i).alloc (.cells (V_ e.1) 38))))
    exact K3
   |some o=>
    obtain⟨e,t⟩:=mn_ (iz m o b);have D:=O t
    by_cases y:e.2=0
    .have bl:=O (show px (hU rs) ⟨g,j,m,b⟩=kL (hU rs) g j e.1 by unfold px;simp only[u,t,y,if_true]);have an:(e.2==0)=true:=zu y;clear t y
     go_wp2_with (first|(go_at_call 148;((with_reducible refine(kA A' c' rs g j _ z.os z.lD E).mono ?_);rintro v C⟨rfl,f⟩;rw[u];simp only[GE,Hl];have s:=(s.g_ f).alloc (.cells (V_ o) 38);have au:=(au.g_ f).alloc (.cells (V_ o) 38);have a:=(a.g_ f).alloc (.cells (V_ o) 38);have z:=(z.g_ f).alloc (.cells (V_ o) 38);have F:=(F.trans f).alloc (.cells (V_ o) 38);have p:=Q_ C 38 (V_ o);have U:=a.f_ 2;have Z:=a.f_ 3;have aX:=a.f_ 4;have z0:=p.f_ 0;have W:=p.f_ 1))|(go_at_call 164;((with_reducible refine(mR m _ b).mono ?_);rintro v M⟨r,i⟩;unfold qN at r;subst r;rw[D.out];have s:=(s.g_ i).alloc (.cells (V_ e.1) 38);have au:=(au.g_ i).alloc (.cells (V_ e.1) 38);have a:=(a.g_ i).alloc (.cells (V_ e.1) 38);have z:=(z.g_ i).alloc (.cells (V_ e.1) 38);have F:=(F.trans i).alloc (.cells (V_ e.1) 38);have R:=Q_ M 38 (V_ e.1);have aT:=s.f_ 0;have MN:=a.f_ 0;have ai:=a.f_ 1;have cG:=R.f_ 0;have cH:=R.f_ 1))|(go_at_call 149;((with_reducible refine(ox A' c' rs g j e.1 o z.os z.lD E u).mono ?_);rintro v ad⟨aw,aO,ao,rfl,ap,aq,cj,T,N⟩;have ar:=O T;clear T;have s:=s.g_ N;have au:=au.g_ N;have F:=F.trans N;have aT:=s.f_ 0;have f0:=s.hm 0)))
     go_roundw
     case rel=>exact⟨k+1,aw,aO,ao,X,gn,s.hN 0 _,au.ib s_ _,(mB.mk aq cj ap).ir s I I ((H _ _).setCell (.inl s_) _),by rw[bK.out,bl.out,ar.out],F.setCell (.inr s_) _⟩
     case measure=>exact mz
    .have bl:=O (show px (hU rs) ⟨g,j,m,b⟩=hU rs by unfold px;simp only[u,t,y,if_false]);have an:(e.2==0)=false:=zu y;clear t y
     go_wp2_with (first|(go_at_call 148;((with_reducible refine(kA A' c' rs g j _ z.os z.lD E).mono ?_);rintro v C⟨rfl,f⟩;rw[u];simp only[GE,Hl];have s:=(s.g_ f).alloc (.cells (V_ o) 38);have au:=(au.g_ f).alloc (.cells (V_ o) 38);have a:=(a.g_ f).alloc (.cells (V_ o) 38);have z:=(z.g_ f).alloc (.cells (V_ o) 38);have F:=(F.trans f).alloc (.cells (V_ o) 38);have p:=Q_ C 38 (V_ o);have U:=a.f_ 2;have Z:=a.f_ 3;have aX:=a.f_ 4;have z0:=p.f_ 0;have W:=p.f_ 1))|(go_at_call 164;((with_reducible refine(mR m _ b).mono ?_);rintro v M⟨r,i⟩;unfold qN at r;subst r;rw[D.out];have s:=(s.g_ i).alloc (.cells (V_ e.1) 38);have au:=(au.g_ i).alloc (.cells (V_ e.1) 38);have z:=(z.g_ i).alloc (.cells (V_ e.1) 38);have F:=(F.trans i).alloc (.cells (V_ e.1) 38))))
     exact K3
  .exact I3
def sW(E:α->List Value)(j:∀a,(E a).length=3){w:World}{e:TypeId}{l:List α}(p:k<l.length)(r:α){d f P:Value}(t:E r=[d,f,P])(o:Bk w g e cur)(h:∀(i:Nat) (u:Value),(l.flatMap E)[i]?=some u->cur[i]?=some u){n:Nat}(s:l.length=n):
 Sl (((w.setCell (Z g (k*3)) d).setCell (Z g (k*3+1)) f).setCell (Z g (k*3+2)) P) e 3 (j_ g) n ((l.set k r).flatMap E):=by
 subst s;have m:=(((o.hN (k*3) d).hN (k*3+1) f).hN (k*3+2) P);have iG:=kk E 3 j l
 have v:k*3+2<cur.size:=by
  have q:k*3+2<(l.flatMap E).length:=X
  have:=h _ _ (L_ q)
  rcases FO (k*3+2) cur.size with h|h
  .exact h
  .exact MI
 refine⟨by rw[kk E 3 j];simp,λ_=>⟨g,0,_,_,rfl,m,λc u b=>?_⟩⟩;rw[W_];refine q5 E 3 j X l k p r cur h (λc u b=>?_) (λi y=>?_) c u b
 .rw[t]at b
  match c,b with
  |0,b=>simp only[Gp,Option.some.injEq]at b;subst b;rw[J_,I_ X];rw[J_,I_ X];rw[J_,O_ X,O_ (by first|omega|(simp;omega))]
  |1,b=>simp only[GZ,Gp,Option.some.injEq]at b;subst b;rw[J_,I_ X];rw[J_,O_ X,O_ (by first|omega|(simp;omega))]
  |2,b=>simp only[GZ,Gp,Option.some.injEq]at b;subst b;rw[J_,O_ X,O_ (by first|omega|(simp;omega))]
  |c+3,b=>simp at b
 .rw[J_,I_ X];rw[J_,I_ X];rw[J_,I_ X]
def Ce(E:α->List Value)(m:∀a,(E a).length=4){w:World}{e:TypeId}{l:List α}(q:k<l.length)(r:α){d j P f:Value}(v:E r=[d,j,P,f])(p:Bk w g e cur)(h:∀(i:Nat) (u:Value),(l.flatMap E)[i]?=some u->cur[i]?=some u){n:Nat}(t:l.length=n):
 Sl ((((w.setCell (Z g (k*4)) d).setCell (Z g (k*4+1)) j).setCell (Z g (k*4+2)) P).setCell (Z g (k*4+3)) f) e 4 (j_ g) n ((l.set k r).flatMap E):=by
 subst t;have o:=((((p.hN (k*4) d).hN (k*4+1) j).hN (k*4+2) P).hN (k*4+3) f);have iG:=kk E 4 m l
 have y:k*4+3<cur.size:=by
  have s:k*4+3<(l.flatMap E).length:=X
  have:=h _ _ (L_ s)
  rcases FO (k*4+3) cur.size with h|h
  .exact h
  .exact MI
 refine⟨by rw[kk E 4 m];simp,λ_=>⟨g,0,_,_,rfl,o,λc u b=>?_⟩⟩;rw[W_];refine q5 E 4 m X l k q r cur h (λc u b=>?_) (λi z=>?_) c u b
 .rw[v]at b
  match c,b with
  |0,b=>simp only[Gp,Option.some.injEq]at b;subst b;rw[J_,I_ X];rw[J_,I_ X];rw[J_,I_ X];rw[J_,O_ X,O_ (by first|omega|(simp;omega))]
  |1,b=>simp only[GZ,Gp,Option.some.injEq]at b;subst b;rw[J_,I_ X];rw[J_,I_ X];rw[J_,O_ X,O_ (by first|omega|(simp;omega))]
  |2,b=>simp only[GZ,Gp,Option.some.injEq]at b;subst b;rw[J_,I_ X];rw[J_,O_ X,O_ (by first|omega|(simp;omega))]
  |3,b=>simp only[GZ,Gp,Option.some.injEq]at b;subst b;rw[J_,O_ X,O_ (by first|omega|(simp;omega))]
  |c+4,b=>simp at b
 .rw[J_,I_ X];rw[J_,I_ X];rw[J_,I_ X];rw[J_,I_ X]
def Sl.Cj{E:α->List Value}{s:Nat}(f:∀a,(E a).length=s){w:World}{l:List α}(h:Sl w ty s (j_ g) l.length (l.flatMap E))(j:k<l.length):
 ∀b u,(E l[k])[b]?=some u->w.cell? (Z g (k*s+b))=some u:=by
 obtain⟨n,o,c,i⟩:=Sl.row f h j;injection c with c;injection c with d e;subst d;subst e;intro b u m
 have:=i b u m
 rwa [W_]at this
def sO(P:List Cl)(w:World)(e:Ending)(w':World):Prop:=∃(A:OA) (d:Nat),e=.returned (.slice A P.length d)/\Cs w' A P/\P.length<=d/\J [] w w'
def rZ(l:List Cl)(id f:Int): -1<=cat l id f/\cat l id f<l.length:=by
 have:=nA (λa:Cl=>a.id==id&&a.f==f) l 0
 unfold cat;exact ML
def BQ(A:OA)(d:Nat)(l:List Cl)(id f:Int)(n:Nat)(w:World)(h:Cs w A l)(a:Hid (l.length=n))(c:n<=1000000000):
 Calls prog 129 #[.slice A n d,Y id,Y f] w λe w'=>e=.returned (Y (cat l id f))/\J [] w w':=by
 have b:=a.out;subst b;exact lT A d l id f w h c
def zw(A:OA)(d:Nat)(l:List Cl)(c:Cl)(x:Nat)(w:World)(h:Cs w A l)(z:l.length<=1000000000)(L:cat l c.id c.f=x):
 Calls prog 98 #[.slice A l.length d,.agg #[Y c.id,Y c.f,.bool c.v.r,Y c.v.n]] w (sO (ka l c) w):=by
 obtain⟨N,R,S,K,Q⟩:=info_parts infoCl;have D:=(H [] w).alloc (.cells #[Y c.id,Y c.f,.bool c.v.r,Y c.v.n] 116);have a:=Q_ w 116 #[Y c.id,Y c.f,.bool c.v.r,Y c.v.n];have s:=Sl.alloc h (.cells #[Y c.id,Y c.f,.bool c.v.r,Y c.v.n] 116);have t:x<l.length:=ov (rZ l c.id c.f);have F:=O (show ka l c=l.set x c by unfold ka;rw[L,O_ X,F0]);have y:=t;have C:=O L;clear L;have o:=O (show(l.set x c).length=l.length by simp);obtain⟨p,n⟩:=mn_ l.length;rw[n]at t z s |-;have m:=O n;clear n;have W:(x:Int)<(p:Int):=X
 go_enter func98,ntmps98
 go_wp2_with (at_builtin;refine iJ _ rfl (.const (n_)) (.tmp 7) 50 rfl (w.heap.size+1) 116 N _ 4 32 underlying50 R S K Q rfl I I none 0 0 [] rfl (iY _ _ _ _) A p d _ rfl s (p9 _) X s_ ?_;intro U u B i r;simp only[W_,FU]at i;have a:=r.ue a X;have P:=r.gr [] w X D;have J:=a.f_ 0;have M:=a.f_ 1)
 obtain⟨g,cur,E,bo,b,T⟩:=kS i X;subst E
 have v:Cs B (j_ g) l:=by unfold Cs;rw[m.out];exact Sl.iQ i
 go_wp2_with (go_at_call 129;((with_reducible refine(BQ (j_ g) u l c.id c.f p B v m z).mono ?_);rintro ad j⟨rfl,f⟩;rw[C.out];have a:=a.g_ f;have b:=b.g_ f;have J:=a.f_ 0;have M:=a.f_ 1;have V:=a.f_ 2;have dB:=a.f_ 3;have e:=Sl.Cj uc (v.g_ f) y;have k0:j.cell? (Z g (x*4))=some _:=e 0 _ rfl;have k1:j.cell? (Z g (x*4+1))=some _:=e 1 _ rfl;have bm:j.cell? (Z g (x*4+2))=some _:=e 2 _ rfl;have k3:j.cell? (Z g (x*4+3))=some _:=e 3 _ rfl;clear e;have f0:=b.hm (x*4);have f1:=b.hm (x*4+1);have bW:=b.hm (x*4+2);have c9:=b.hm (x*4+3)))
 go_ret;unfold sO;rw[F.out];refine⟨some (Z g 0),u,qf (by rw[o.out,m.out]),?_,by rw[o.out,m.out];exact jk i,?_⟩
 .exact Ce Cl.E uc y c rfl b T o.out.symm
 .exact((((P.trans f).setCell (.inr p_) _).setCell (.inr p_) _).setCell (.inr p_) _).setCell (.inr p_) _
def CN(l:List Cl)(id f:Int):rx l id f<=l.length:=pY _ _
def Ba(A:OA)(d:Nat)(l:List Cl)(c:Cl)(w:World)(h:Cs w A l)(hn:l.length<=1000000000)(L:cat l c.id c.f<0):
 Calls prog 98 #[.slice A l.length d,.agg #[Y c.id,Y c.f,.bool c.v.r,Y c.v.n]] w (sO (ka l c) w):=by
 obtain⟨P,R,S,D,Q⟩:=info_parts infoCl;have W:=(H [] w).alloc (.cells #[Y c.id,Y c.f,.bool c.v.r,Y c.v.n] 116);have a:=Q_ w 116 #[Y c.id,Y c.f,.bool c.v.r,Y c.v.n];have y:=Sl.alloc h (.cells #[Y c.id,Y c.f,.bool c.v.r,Y c.v.n] 116);have aQ:=O (show ka l c=l.take (rx l c.id c.f)++([c]++l.drop (rx l c.id c.f)) by unfold ka;rw[I_ X]);have ae:=O (show cat l c.id c.f= -1 by have:=rZ l c.id c.f;omega);clear L;have bR:=O (show rx l c.id c.f=0+mr (oN c.id c.f) (l.drop 0) by simp[rx]);have bJ:=O (show ∀k,k=rx l c.id c.f->(l.take k++([c]++l.drop k)).length=k+(1+(l.length-k)) from λk hk=>by have:=CN l c.id c.f;simp;omega);obtain⟨e,z⟩:=mn_ l.length;rw[z]at hn y |-;have i:=O z;clear z
 go_enter func98,ntmps98
 go_wp2_with (at_builtin;refine iJ _ rfl (.const (n_)) (.tmp 7) 50 rfl (w.heap.size+1) 116 P _ 4 32 underlying50 R S D Q rfl I I none 0 0 [] rfl (iY _ _ _ _) A e d _ rfl y (p9 _) X s_ ?_;intro aD K w2 r v;simp only[W_,FU]at r;have a:=v.ue a X;have bP:=v.gr [] w X W;have B:=a.f_ 0;have M:=a.f_ 1;have N:=a.f_ 2;have T:=a.f_ 3)
 have j:Cs w2 aD l:=by unfold Cs;rw[i.out];exact Sl.iQ r
 have b0:=jk r
 go_upto_block 0 with(go_at_call 129;((with_reducible refine(BQ aD K l c.id c.f e w2 j i hn).mono ?_);rintro af ah⟨rfl,o⟩;rw[ae.out];have a:=a.g_ o;have B:=a.f_ 0;have M:=a.f_ 1;have N:=a.f_ 2;have T:=a.f_ 3))
 have j:=j.g_ o;have V:=bP.trans o;clear r v y W o bP
 go_cut [6] (λn a6=>∃k:Nat,n=Y k/\k<=e/\k=rx l c.id c.f/\J [] ah a6)
 case first=>
  go_wp2_with fail
  go_loopw [6] (λn w'=>∃k:Nat,n=Y k/\k<=e/\rx l c.id c.f=k+mr (oN c.id c.f) (l.drop k)/\J [] ah w') (λn _=>e-(intOf n).toNat)
  case atStart=>exact⟨0,rfl,P_ _,bR.out,H _ _⟩
  case round=>
   obtain⟨k,rfl,hk,t,F⟩:=hrel;have MT:=O t;clear t;have b:=a.g_ F;have a2:=b.f_ 0;have bp:=b.f_ 1;have bT:=b.f_ 2;have bQ:=b.f_ 3;clear b B M N T
   by_cases u:k<e
   .have m:k<l.length:=by rw[i.out];exact u
    have aw:(k:Int)<(e:Int):=X;obtain⟨al,off,E,MN,ai,ca,ce⟩:=(j.g_ F).at_ m;subst E
    by_cases t0:l[k].id<c.id
    .have aq:=O (oJ (p:=oN c.id c.f) m (by simp[oN,t0]));have C:decide (l[k].id<c.id)=true:=zu t0;exact Kf
    .have C:decide (l[k].id<c.id)=false:=zu t0
     by_cases t1:l[k].id=c.id
     .have U:(l[k].id==c.id)=true:=zu t1
      by_cases ag:l[k].f<c.f
      .have aq:=O (oJ (p:=oN c.id c.f) m (by simp[oN,t1,ag]));have q2:decide (l[k].f<c.f)=true:=zu ag;exact J4
      .have aq:=O (nL (p:=oN c.id c.f) m (by simp[oN,t1,ag]));have q2:decide (l[k].f<c.f)=false:=zu ag;exact KI
     .have aq:=O (nL (p:=oN c.id c.f) m (by simp[oN,t0,t1]));have U:(l[k].id==c.id)=false:=zu t1;exact KM
   .have aq:=O (rU (p:=oN c.id c.f) (l:=l) (k:=k) (by rw[i.out];omega));have aw:¬(k:Int)<(e:Int):=X;exact K1
 case rest=>
  obtain⟨k,rfl,hk,av,F⟩:=hcut;have aT:=O av;clear av B M N T;have b:=a.g_ F;have a2:=b.f_ 0;have bp:=b.f_ 1;have bT:=b.f_ 2;have bQ:=b.f_ 3;have e0:(0:Int)<=(k:Int):=X;have aC:(k:Int)<=(e:Int):=X;have aw:(k:Int)<=(K:Int):=X;have C:=j.g_ F;have aL:=(Sl.yw uc C (show k<=l.length by rw[i.out];exact hk)).g_ ((H [] wc).alloc (.cells #[Y c.id,Y c.f,.bool c.v.r,Y c.v.n] 116)).drew;have aG:=(Sl.yM uc C (show k<=l.length by rw[i.out];exact hk) K (by rw[i.out];exact b0)).g_ ((H [] wc).alloc (.cells #[Y c.id,Y c.f,.bool c.v.r,Y c.v.n] 116)).drew;have aW:=O (show ∀U∈(#[Y c.id,Y c.f,.bool c.v.r,Y c.v.n]:Array Value).toList++(l.drop k).flatMap Cl.E,U.oneCell'=true from λU hu=>p9 (c::l.drop k) U hu);rw[i.out]at aG;have bA:=kV (s:=4) (Q_ wc.drew 116 #[Y c.id,Y c.f,.bool c.v.r,Y c.v.n]) rfl;have b3:=V.trans F;have g:=b.drew;clear a b j F V C
  go_wp2_with fail
  go_region_held3 (λw'=>w'.cell? (Z w.heap.size 0)=some (Y c.id)/\w'.cell? (Z w.heap.size 1)=some (Y c.f)/\w'.cell? (Z w.heap.size 2)=some (.bool c.v.r)/\w'.cell? (Z w.heap.size 3)=some (Y c.v.n)) (first|exact du|exact dE|go_keep)
   (first
     |(refine mG _ r_ (.tmp 63) (.tmp 66) 50 r_ 116 P _ 4 32 underlying50 R S D Q rfl I I _ 1 _ r_ bA _ (e-k) _ _ r_ aG (p9 _) X ?_;intro u c5 t ao bu E;have m:=(g.alloc (.cells #[Y c.id,Y c.f,.bool c.v.r,Y c.v.n] 116)).g_ E;have du:t.cell? (Z w.heap.size 0)=some (Y c.id)/\t.cell? (Z w.heap.size 1)=some (Y c.f)/\t.cell? (Z w.heap.size 2)=some (.bool c.v.r)/\t.cell? (Z w.heap.size 3)=some (Y c.v.n):=⟨m.f_ 0,m.f_ 1,m.f_ 2,m.f_ 3⟩)
     |(refine mG _ r_ (.tmp 61) (.tmp 67) 50 r_ 116 P _ 4 32 underlying50 R S D Q rfl I I _ k _ r_ (aL.g_ E) _ (1+(e-k)) _ _ r_ bu aW.out X ?_;intro aK aJ t bF bY az;have u:=m.g_ az;have dE:t.cell? (Z w.heap.size 0)=some (Y c.id)/\t.cell? (Z w.heap.size 1)=some (Y c.f)/\t.cell? (Z w.heap.size 2)=some (.bool c.v.r)/\t.cell? (Z w.heap.size 3)=some (Y c.v.n):=⟨u.f_ 0,u.f_ 1,u.f_ 2,u.f_ 3⟩))
  go_wp2
  all_goals
   go_ret;unfold sO;have iG:=bJ.out k aT.out;rw[i.out]at iG;rw[aQ.out,<-aT.out];refine⟨aK,aJ,qf iG.symm,?_,by rw[iG];exact bF,(((b3.alloc _).drew).trans E).trans az⟩;unfold Cs;rw[iG,F2,F2,Hz];exact bY
def rR(A:OA)(d:Nat)(l:List Cl)(c:Cl){w:World}(h:Cs w A l)(a:l.length<=1000000000):
 Calls prog 98 #[.slice A l.length d,.agg #[Y c.id,Y c.f,.bool c.v.r,Y c.v.n]] w (sO (ka l c) w):=by
 by_cases b:cat l c.id c.f<0
 .exact Ba A d l c w h a b
 .exact zw A d l c (cat l c.id c.f).toNat w h a (GF X).symm
def y3(A:OA)(c:Nat)(l:List Rw){B:OA}(d:Nat)(cs:List Cl)(n:Nat){w:World}(h:mB w A c l)(i:l.length<=1000000000)(f:Cs w B cs)(e:Hid (cs.length=n))(a:n<=1000000000):
 Calls prog 125 #[.agg #[.slice A l.length c],.slice B n d] w (mt (it (hU l) cs) w):=by
 have b:=e.out;subst b;exact nX A c l B d cs w h i f a
def DB{w:World}(x:Cl):Cs (w.alloc (.cells #[Y x.id,Y x.f,.bool x.v.r,Y x.v.n] 116)) (j_ w.heap.size) [x]:=kV (s:=4) (Q_ w 116 #[Y x.id,Y x.f,.bool x.v.r,Y x.v.n]) rfl
def yP(rs:List Cl)(a:List Cl)(h:List Ob):(a.foldl (kG rs) h).length=h.length:=by
 induction a generalizing h with
 |nil=>rfl
 |cons g c b=>
  rw[GT,b];unfold kG;split
  .exact jN _ _
  .rfl
def mQ(t:i6)(h:List Ob):(before t h).length=h.length:=by unfold before;rw[jN,yP]
def pk(t:Tk)(A:OA)(c:Nat)(l:List Rw){w:World}(u:ln w t)(h:mB w A c l)(hn:l.length<=1000000000)(cZ:t.gs.l.length<=1000000000)(y:t.rs.l.length<=1000000000):
 Calls prog 122 #[.agg t.g8,.agg #[.slice A l.length c]] w (mt (before t.p (hU l)) w):=by
 obtain⟨b,av,e,a,v⟩:=C6 w 53 t.g8 35 #[.slice A l.length c] 35 #[n_] 35 #[.slice A l.length c];have f:=h.g_ v;have S:((((w.alloc (.cells t.g8 53)).alloc (.cells #[.slice A l.length c] 35)).alloc (.cells #[n_] 35)).alloc (.cells #[.slice A l.length c] 35)).cell? (Z w.heap.size 36)=some (.slice t.gs.A t.gs.l.length t.gs.c):=(b.f_ 36).trans rfl;have W:=O (show before t.p (hU l)=it (t.gs.l.foldl (kG t.rs.l) (hU l)) t.rs.l from rfl);have ae:=O (hZ l)
 go_enter func122,ntmps122
 go_wp2_with fail
 clear av
 go_loopw [12] (λD wr=>∃(k:Nat) (n:OA) (o:Nat) (rs:List Rw),k<=t.gs.l.length/\D=Y k/\Bk wr w.heap.size 53 t.g8/\Bk wr (w.heap.size+1+1) 35 #[n_]/\Bk wr (w.heap.size+1+1+1) 35 #[.slice n rs.length o]/\mB wr n o rs/\hU rs=(t.gs.l.take k).foldl (kG t.rs.l) (hU l)/\J [] w wr) (λD _=>t.gs.l.length-(intOf D).toNat)
 case atStart=>exact⟨0,A,c,l,P_ _,rfl,b,e,a,f,rfl,v⟩
 case round=>
  clear b e a f v S;obtain⟨k,n,o,rs,hk,rfl,b,e,a,f,B,d⟩:=hrel;have Q:=O B
  have P:rs.length<=1000000000:=by
   have:=hZ rs
   rw[B,yP,ae.out]at this;omega
  clear B
  by_cases aj:k<t.gs.l.length
  .have K:=aj;obtain⟨af,off,U,bm,bu,bH,bM⟩:=(u.gs.g_ d).at_ K;rw[U];have M:=O (show(t.gs.l.take (k+1)).foldl (kG t.rs.l) (hU l)=kG t.rs.l (hU rs) t.gs.l[k] by rw[Q.out,X_ K,G3];rfl);generalize t.gs.l[k]=x at*;have V:(k:Int)<(t.gs.l.length:Int):=X;have T:(wr.alloc (.cells #[Y x.id,Y x.f,.bool x.v.r,Y x.v.n] 116)).cell? (Z w.heap.size 37)=some (.slice t.rs.A t.rs.l.length t.rs.c):=((b.alloc _).f_ 37).trans rfl;have j:=Q_ wr 116 #[Y x.id,Y x.f,.bool x.v.r,Y x.v.n];replace b:=b.alloc (.cells #[Y x.id,Y x.f,.bool x.v.r,Y x.v.n] 116);replace e:=e.alloc (.cells #[Y x.id,Y x.f,.bool x.v.r,Y x.v.n] 116);replace a:=a.alloc (.cells #[Y x.id,Y x.f,.bool x.v.r,Y x.v.n] 116);replace f:=f.alloc (.cells #[Y x.id,Y x.f,.bool x.v.r,Y x.v.n] 116);replace d:=d.alloc (.cells #[Y x.id,Y x.f,.bool x.v.r,Y x.v.n] 116);have R:=j.f_ 0;have ai:=j.f_ 1
   by_cases N:cat t.rs.l x.id x.f<0
   .have z:=O (show kG t.rs.l (hU rs) x=it (hU rs) [x] by unfold kG;rw[O_ N])
    go_wp2_with (first|(go_at_call 129;((with_reducible refine(lT t.rs.A t.rs.c t.rs.l x.id x.f _ (u.g_ d).rs y).mono ?_);rintro C ah⟨rfl,i⟩;replace b:=b.g_ i;replace e:=e.g_ i;replace a:=a.g_ i;replace j:=j.g_ i;replace f:=f.g_ i;replace d:=d.trans i;replace L:=a.f_ 0;replace R:=j.f_ 0;replace ai:=j.f_ 1;replace aB:=j.f_ 2;replace aS:=j.f_ 3))|(go_at_call 125;((with_reducible refine(y3 n o rs 1 [x] 1 (f.alloc _) P (DB x) (O rfl) X).mono ?_);unfold mt;rintro C ad⟨q,r,p,rfl,F,s,m⟩;have E:=O s;clear s;replace d:=(d.alloc (.cells #[Y x.id,Y x.f,.bool x.v.r,Y x.v.n] 116)).trans m;replace b:=(b.alloc (.cells #[Y x.id,Y x.f,.bool x.v.r,Y x.v.n] 116)).g_ m;replace e:=(e.alloc (.cells #[Y x.id,Y x.f,.bool x.v.r,Y x.v.n] 116)).g_ m;replace a:=(a.alloc (.cells #[Y x.id,Y x.f,.bool x.v.r,Y x.v.n] 116)).g_ m;replace L:=a.f_ 0;have f0:=a.hm 0)))
    go_roundw
    case rel=>exact⟨k+1,q,r,p,X,gn,b.ib sd_ _,e.ib sd_ _,a.hN 0 _,F.ir a I I ((H _ _).setCell (.inl s_) _),by rw[M.out,z.out,E.out],d.setCell (.inr p_) _⟩
    case measure=>exact mz
   .have z:=O (show kG t.rs.l (hU rs) x=hU rs by unfold kG;rw[I_ N])
    go_wp2_with (go_at_call 129;((with_reducible refine(lT t.rs.A t.rs.c t.rs.l x.id x.f _ (u.g_ d).rs y).mono ?_);rintro C ah⟨rfl,i⟩;replace b:=b.g_ i;replace e:=e.g_ i;replace a:=a.g_ i;replace f:=f.g_ i;replace d:=d.trans i))
    go_roundw
    case rel=>exact⟨k+1,n,o,rs,X,gn,b,e,a,f,by rw[M.out,z.out],d⟩
    case measure=>exact mz
  .have j:=O (show k=t.gs.l.length by omega);have V:¬(k:Int)<(t.gs.l.length:Int):=X;have L:=a.f_ 0;have T:wr.cell? (Z w.heap.size 37)=some (.slice t.rs.A t.rs.l.length t.rs.c):=(b.f_ 37).trans rfl
   go_wp2_with (go_at_call 125;((with_reducible refine(nX n o rs t.rs.A t.rs.c t.rs.l _ f P (u.g_ d).rs y).mono ?_);unfold mt;rintro C ad⟨q,r,p,rfl,F,s,m⟩;have E:=O s;clear s;have i:=e.g_ m;have M:=i.hm 0;have K:=i.f_ 0))
   have z:=i.hN 0 (.slice q p.length r);refine rr_ #[.slice q p.length r] z underlying35 ⟨q,r,p,rfl,?_,?_,?_⟩
   .exact F.ir i I I ((H _ _).setCell (.inl s_) _)
   .rw[E.out,Q.out,W.out,j.out,G9]
   .exact(d.trans m).setCell (.inr p_) _
def iS{α:Type}(p:α->Bool)(l:List α):Bool:=l.any p
def pm{p:α->Bool}{l:List α}(a:k<l.length)(b:p l[k]=true):iS p (l.drop k)=true:=by
 unfold iS;rw[Y_ a];simp only[HS,b,HY]
def oO{p:α->Bool}{l:List α}(a:k<l.length)(b:p l[k]=false):iS p (l.drop k)=iS p (l.drop (k+1)):=by
 unfold iS;rw[Y_ a];simp only[HS,b,Hx]
def rA{p:α->Bool}{l:List α}(a:l.length<=k):iS p (l.drop k)=false:=by
 unfold iS;rw[F3 a]
 rfl
def Ns(w:World)(ty:TypeId)(A:OA)(l:List Int):Prop:=Sl w ty 1 A l.length (l.map (Value.int .i64))
def Ns.g_{w w':World}{A:OA}{l:List Int}(h:Ns w ty A l)(a:J [] w w'):Ns w' ty A l:=Sl.g_ h a
def Ns.at_{w:World}{A:OA}{l:List Int}(h:Ns w ty A l)(d:k<l.length):∃b c,A=some (Z b c)/\w.cell? (Z b (c+k))=some (Y l[k]):=by
 obtain⟨b,c,j,e,a,i⟩:=Sl.at_ h d
 have f:(l.map (Value.int .i64))[k]?=some (Y l[k]):=by simp[L_ d]
 rw[f]at a;injection a with a;subst a;exact⟨b,c,e,i⟩
def pn(A:OA)(c:Nat)(l:List Int)(s:Int){w:World}(h:Ns w 3 A l)(C:l.length<=1000000000):
 Calls prog 82 #[.agg #[.slice A l.length c],Y s] w λe w'=>e=.returned (.bool (iS (λx=>x==s) l))/\J [] w w':=by
 have o:=O (show iS (λx=>x==s) l=iS (λx=>x==s) (l.drop 0) from rfl);have r:=Q_ w 32 #[.slice A l.length c];have t:=r.f_ 0;generalize z:l.length=m at*
 go_enter func82,ntmps82
 go_wp2
 go_loopw [10] (λj w'=>∃k:Nat,k<=m/\j=Y k/\iS (λx=>x==s) l=iS (λx=>x==s) (l.drop k)/\J [] w w') (λj _=>m-(intOf j).toNat)
 case atStart=>exact⟨0,P_ _,rfl,o.out,(H _ _).alloc _⟩
 case round=>
  obtain⟨k,B,rfl,G,d⟩:=hrel;have f:=O G;clear G
  by_cases u:k<m
  .have i:k<l.length:=X;obtain⟨v,D,rfl,y⟩:=(h.g_ d).at_ i
   by_cases a:l[k]=s
   .have b:=O (pm (p:=λx=>x==s) i (zu a));have n:(l[k]==s)=true:=zu a;clear a;go_wp2;go_ret;exact⟨iw (by rw[f.out,b.out]),d⟩
   .have b:=O (oO (p:=λx=>x==s) i (zu a));have n:(l[k]==s)=false:=zu a;clear a;go_wp2;go_roundw
    case rel=>exact⟨k+1,X,gn,by rw[f.out,b.out],d⟩
    case measure=>exact mz
  .have b:=O (rA (p:=λx=>x==s) (l:=l) (k:=k) X);go_wp2;go_ret;exact⟨iw (by rw[f.out,b.out]),d⟩
def jq(l:List Int)(n:Int):Int:=if 0<=n/\n<(l.length:Int) then l.getD n.toNat 0 else 0
def yl(A:OA)(c:Nat)(l:List Int)(n:Int){w:World}(h:Ns w 2 A l)(q:l.length<=1000000000):
 Calls prog 94 #[.agg #[.slice A l.length c],Y n] w λe w'=>e=.returned (Y (jq l n))/\J [] w w':=by
 have i:=Q_ w 29 #[.slice A l.length c];have MR:=(H [] w).alloc (.cells #[.slice A l.length c] 29);have j:=i.f_ 0
 by_cases a:0<=n
 .by_cases f:n<(l.length:Int)
  .have b:n.toNat<l.length:=X;obtain⟨k,d⟩:∃k:Nat,n=k:=⟨n.toNat,(GF a).symm⟩;have HA:=O (show jq l n=l[n.toNat] by unfold jq;rw[O_ ⟨a,f⟩];simp[List.getD,L_ b]);obtain⟨m,r,rfl,p⟩:=(h.g_ MR).at_ b;have o:¬(l.length:Int)<=n:=X;clear d;exact Mc
  .exact KE
 .exact KE
def lz(l:List Fo)(x:Int):Nat:=mr (λf:Fo=>decide (f.fr<x)) l
def py(l:List Fo)(x:Int):Bool:=decide (lz l x<l.length)&&((l.getD (lz l x) default).fr==x)
def CM{l:List Fo}(a:k<l.length)(h:lz l x=k):py l x=(l[k].fr==x):=by
 unfold py;rw[h];simp[a,List.getD]
def CL{l:List Fo}:lz l x<=l.length:=pY _ _
def rz(A:OA)(c:Nat)(l:List Fo)(x:Int){w:World}(h:Fs w A l)(L:l.length<=1000000000):
 Calls prog 99 #[.agg #[.slice A l.length c],Y x] w λe w'=>e=.returned (.tuple #[Y (lz l x),.bool (py l x)])/\J [] w w':=by
 have B:=O (show lz l x=0+mr (λa:Fo=>decide (a.fr<x)) (l.drop 0) by simp[lz]);have b:=Q_ w 96 #[.slice A l.length c];have t:=b.f_ 0
 go_enter func99,ntmps99
 go_wp2
 go_loopw [11] (λs w'=>∃k:Nat,k<=l.length/\s=Y k/\lz l x=k+mr (λa:Fo=>decide (a.fr<x)) (l.drop k)/\Bk w' w.heap.size 96 #[.slice A l.length c]/\J [] w w') (λs _=>l.length-(intOf s).toNat)
 case atStart=>exact⟨0,P_ _,rfl,B.out,b,(H _ _).alloc _⟩
 case round=>
  clear b t;obtain⟨k,K,rfl,G,b,i⟩:=hrel;have o:=O G;clear G
  by_cases y:k<l.length
  .have j:=y;have v:(k:Int)<(l.length:Int):=X;obtain⟨D,M,rfl,F,I,E⟩:=(h.g_ i).at_ j;have u:=Q_ wr 168 #[Y l[k].fr,Y l[k].dst,Y l[k].n];have C:=u.f_ 0
   by_cases m:l[k].fr<x
   .have d:=O (oJ (p:=(λa:Fo=>decide (a.fr<x))) j (zu m));have z:¬x<=l[k].fr:=X;clear m;go_wp2;go_roundw
    case rel=>exact⟨k+1,X,gn,by rw[o.out,d.out];omega,b.alloc _,i.alloc _⟩
    case measure=>exact mz
   .have d:=O (nL (p:=(λa:Fo=>decide (a.fr<x))) j (zu m));have f:=O (show lz l x=k by rw[o.out,d.out];omega);have r:=O (CM j f.out);have z:x<=l[k].fr:=X;clear m
    go_wp2_with fail
    go_quiet (fail)
    go_wp2
    go_ret2
    exact⟨by rw[f.out,r.out];rfl,(i.alloc _).drewN _⟩
  .have d:=O (rU (p:=(λa:Fo=>decide (a.fr<x))) (l:=l) (k:=k) X);have v:¬(k:Int)<(l.length:Int):=X;have f:=O (show lz l x=l.length by rw[o.out,d.out];omega);have r:=O (show py l x=false by unfold py;rw[f.out];simp);have t:=b.f_ 0;go_wp2
   go_ret2
   exact⟨by rw[f.out,r.out];rfl,i⟩
def zO(A:OA)(c:Nat)(l:List Fo)(x:Int){w:World}(h:Fs w A l)(j:l.length<=1000000000):
 Calls prog 101 #[.agg #[.slice A l.length c],Y x] w λe w'=>e=.returned (.tuple #[Y (if py l x=true then(l.getD (lz l x) default).dst else 0),.bool (py l x)])/\J [] w w':=by
 have i:=Q_ w 96 #[.slice A l.length c];have b:=(H [] w).alloc (.cells #[.slice A l.length c] 96);have p:=i.f_ 0
 cases a:py l x with
 |false=>
  have f:=O a;clear a
  go_enter func101,ntmps101
  go_wp2_with (go_at_call 99;((with_reducible refine(rz A c l x (h.g_ b) j).mono ?_);rintro e m⟨rfl,d⟩;rw[f.out]))
  go_ret2
  exact⟨rfl,b.trans d⟩
 |true=>
  have n:=by
   unfold py at a;simp at a;exact a.1
  have o:(lz l x:Int)<(l.length:Int):=X;have f:=O a;clear a
  go_enter func101,ntmps101
  go_wp2_with fail
  go_at_call 99
  refine(rz A c l x (h.g_ b) j).mono ?_;rintro e m⟨rfl,d⟩;rw[f.out];have s:=(i.g_ d).f_ 0;obtain⟨q,v,rfl,t,u,r⟩:=(h.g_ (b.trans d)).at_ n;go_wp2
  go_ret2
  exact⟨by first|rfl|(rw[HD.out];rfl),b.trans d⟩
def DP(P:List Ac)(w:World)(e:Ending)(w':World):Prop:=∃(A:OA) (d:Nat),e=.returned (.slice A P.length d)/\As w' A P/\P.length<=d/\J [] w w'
def xb(A:OA)(c:Nat)(l:List Ac)(B:OA)(d:Nat)(a:List Ac){w:World}(h:As w A l)(r:As w B a)(N:l.length<=1000000000)(M:a.length<=1000000000):
 Calls prog 93 #[.slice A l.length c,.slice B a.length d] w (DP (l++a) w):=by
 obtain⟨j,n,o,i,m⟩:=info_parts infoAc;have q:Sl w 162 3 A l.length (l.flatMap Ac.E):=h
 have z:Hid (∀w',J [] w w'->Sl w' 162 3 B a.length (a.flatMap Ac.E)):=O λw' K=>Sl.g_ r K
 have F:w.heap.size<=w.heap.size:=H_ _
 go_enter func93,ntmps93
 go_wp2_with (first
  |(at_builtin;refine iJ _ rfl (.const (n_)) (.tmp 5) 36 rfl w.heap.size 162 j _ 3 24 underlying36 n o i m rfl I I none 0 0 [] rfl (iY _ _ _ _) A l.length c _ rfl q (uh) X F ?_;intro u y L f t;simp only[W_,FU]at f;have b:=t.gr [] w (H_ _) (H [] w);have D:=b.size;have E:=z.out L b)
  |(at_builtin;refine iJ _ rfl (.tmp 6) (.tmp 7) 36 rfl w.heap.size 162 j _ 3 24 underlying36 n o i m rfl I I u l.length y _ rfl f B a.length d _ rfl E (uh) X D ?_;intro C v L p t;have s:=t.gr [] w (H_ _) b))
 go_ret;unfold DP;have e:(l++a).length=l.length+a.length:=K_;refine⟨C,v,qf e.symm,?_,by rw[e];exact jk p,s⟩;unfold As;rw[e,F2];exact Sl.iQ p
