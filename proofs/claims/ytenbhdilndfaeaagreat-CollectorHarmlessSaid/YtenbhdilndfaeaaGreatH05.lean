import Derived.Test.YtenbhdilndfaeaaGreatH03
set_option maxRecDepth 100000
set_option maxHeartbeats 0
set_option linter.all false
namespace Go.Proofs.YtenbhdilndfaeaaGreat
open Go.RowKit Go.Proofs.Tryz
abbrev uy:Array Value:=#[Y 0,Y 0,.bool false,Y 0,.bool false,Y 0,.bool false,Y 0,.bool false,Y 0,.bool false,Y 0,.bool false,Y 0,.bool false,Y 0,.bool false,Y 0,.bool false,Y 0,.bool false,Y 0,.bool false,Y 0,.bool false,Y 0,.bool false,Y 0,.bool false,Y 0,.bool false,Y 0,.bool false,Y 0,n_,n_,n_,n_,n_,Y 0,.bool false,.bool false,Y 0]
abbrev ks:Array Value:=#[Y 0,Y 0,.bool false,Y 0,.bool false,Y 0,.bool false,Y 0,.bool false,Y 0,.bool false,Y 0,.bool false,Y 0,.bool false,Y 0,.bool false,Y 0,.bool false,Y 0,.bool false,Y 0,.bool false,Y 0,.bool false,Y 0,.bool false,Y 0,.bool false,Y 0,.bool false,Y 0,.bool false,Y 0,.bool false,Y 0,n_,n_,n_,n_,n_,n_,Y 0,Y 0,.bool false,.bool false,Y 0,Y 0]
section
variable{G:Prop}{g k:Nat}{ty:TypeId}{cs cur:Array Value}{α:Type}{x:Int}
def Ka(h:G:=by
 have ai:k=n:=X;have aR:=s.f_ 0;have bz:=E.hG 0;have bq:=E.f_ 0;go_wp2;have hE:=E.hW 0<|.slice A' rs.length c';refine rr_ #[.slice A' rs.length c'] hE underlying35 ⟨A',c',rs,rfl,?_,?_,?_⟩;exact D.iy E I I<|(G_ _ _).setCell (.inl s_) _;rw[q.out,ai,<-t.out,HU];exact F.setCell (.inr s_) _):G:=h
def KP(h:G:=by
 have bq:(l[k].id==id)=true:=zu t0;have aY:(l[k].f==f)=false:=zu t1;clear t0 t1;exact LU):G:=h
def Lb(h:G:=by
 have bq:(l[k].id==id)=false:=zu t0;exact LK):G:=h
def Lh(h:G:=by
 have bq:(l[k].id==id)=true:=zu t0;have aY:(l[k].f==f)=true:=zu t1;clear t0 t1;exact M6):G:=h
def LK(h:G:=by
 clear t0;exact LU):G:=h
def LN(h:G:=by
 have HA:=O (show jD l n=0 by unfold jD;rw[K_ X]);exact Ni):G:=h
def LU(h:G:=by
 go_wp2;go_roundw;exact⟨k+1,X,gn,by rw[HI.out,kO _ _ _ _ X aQ.out],F.alloc _⟩;exact mz):G:=h
def Mk(h:G:=by
 go_roundw;exact⟨k+1,A',c',rs,X,gn,s,E,D,by rw[bS.out,bo.out],F⟩;exact mz):G:=h
def M6(h:G:=by
 go_wp2;go_ret;exact⟨kD (by rw[HI.out,l4 _ _ _ _ X aQ.out]),F.alloc _⟩):G:=h
def Ni(h:G:=by
 go_enter func94,ntmps94;go_wp2;go_ret;exact⟨kD (by rw[HA.out]),N2⟩):G:=h
structure Cl where
 id:Int
 f:Int
 v:Vl
 deriving DecidableEq,Inhabited
abbrev QV:=List Cl
def Cl.E(c:Cl):List Value:=[Y c.id,Y c.f,.bool c.v.r,Y c.v.n]
structure Dl where
 id:Int
 f:Int
 op:Int
 v:Vl
 deriving DecidableEq,Inhabited
abbrev QC:=List Dl
def Dl.E(c:Dl):List Value:=[Y c.id,Y c.f,Y c.op,.bool c.v.r,Y c.v.n]
structure Ac where
 ask:Bool
 v:Int
 k8:Int
 deriving DecidableEq,Inhabited
def Ac.E(c:Ac):List Value:=[.bool c.ask,Y c.v,Y c.k8]
structure Fo where
 fr:Int
 dst:Int
 n:Int
 deriving DecidableEq,Inhabited
abbrev QD:=List Fo
def Fo.E(c:Fo):List Value:=[Y c.fr,Y c.dst,Y c.n]
def sa(c:Cl):(Cl.E c).length=4:=rfl
def p8(c:Dl):(Dl.E c).length=5:=rfl
def EL(c:Ac):(Ac.E c).length=3:=rfl
def pi(c:Fo):(Fo.E c).length=3:=rfl
def yf(c:Rw):(Rw.E c).length=2:=rfl
def qa(l:QV):∀u∈l.flatMap Cl.E,u.oneCell'=true:=q7 _ (λb u a=>by simp[Cl.E]at a;rcases a with rfl|rfl|rfl|rfl<;>rfl) l
def uj(l:QC):∀u∈l.flatMap Dl.E,u.oneCell'=true:=q7 _ (λb u a=>by simp[Dl.E]at a;rcases a with rfl|rfl|rfl|rfl|rfl<;>rfl) l
def ut{l:List Ac}:∀u∈l.flatMap Ac.E,u.oneCell'=true:=q7 _ (λb u a=>by simp[Ac.E]at a;rcases a with rfl|rfl|rfl<;>rfl) l
def v2(l:QD):∀u∈l.flatMap Fo.E,u.oneCell'=true:=q7 _ (λb u a=>by simp[Fo.E]at a;rcases a with rfl|rfl|rfl<;>rfl) l
def infoCl:(prog.info? 116).map (λi=>(i.zero,i.size,i.bytes))=some (some<|.agg #[Y 0,Y 0,.bool false,Y 0],4,32):=by kernel_rfl
def infoDl:(prog.info? 124).map (λi=>(i.zero,i.size,i.bytes))=some (some<|.agg #[Y 0,Y 0,Y 0,.bool false,Y 0],5,40):=by kernel_rfl
def infoAc:(prog.info? 162).map (λi=>(i.zero,i.size,i.bytes))=some (some<|.agg #[.bool false,Y 0,Y 0],3,24):=by kernel_rfl
def infoFo:(prog.info? 168).map (λi=>(i.zero,i.size,i.bytes))=some (some<|.agg #[Y 0,Y 0,Y 0],3,24):=by kernel_rfl
def Cs(w:World)(A:OA)(l:QV):Prop:=Sl w 116 4 A l.length<|l.flatMap Cl.E
def Ds(w:World)(A:OA)(l:QC):Prop:=Sl w 124 5 A l.length<|l.flatMap Dl.E
def As(w:World)(A:OA)(l:List Ac):Prop:=Sl w 162 3 A l.length<|l.flatMap Ac.E
def Fs(w:World)(A:OA)(l:QD):Prop:=Sl w 168 3 A l.length<|l.flatMap Fo.E
section
variable{w w':World}{A:OA}
def Cs.hF{l:QV}(h:Cs w A l)(a:J [] w w'):Cs w' A l:=Sl.hF h a
def Ds.hF{l:QC}(h:Ds w A l)(a:J [] w w'):Ds w' A l:=Sl.hF h a
def As.hF{l:List Ac}(h:As w A l)(a:J [] w w'):As w' A l:=Sl.hF h a
def Fs.hF{l:QD}(h:Fs w A l)(a:J [] w w'):Fs w' A l:=Sl.hF h a
def Cs.at_{l:QV}(h:Cs w A l)(hk:k<l.length):∃b off,A=some (Z b off)/\w.cell? (Z b<|off+k*4)=some (Y l[k].id)/\w.cell? (Z b<|off+k*4+1)=some (Y l[k].f)/\w.cell? (Z b<|off+k*4+2)=some (.bool l[k].v.r)/\w.cell? (Z b<|off+k*4+3)=some (Y l[k].v.n):=Ma
def Ds.at_{l:QC}(h:Ds w A l)(hk:k<l.length):∃b off,A=some (Z b off)/\w.cell? (Z b<|off+k*5)=some (Y l[k].id)/\w.cell? (Z b<|off+k*5+1)=some (Y l[k].f)/\w.cell? (Z b<|off+k*5+2)=some (Y l[k].op)/\w.cell? (Z b<|off+k*5+3)=some (.bool l[k].v.r)/\w.cell? (Z b<|off+k*5+4)=some (Y l[k].v.n):=LX
def As.at_{l:List Ac}(h:As w A l)(e:k<l.length):∃b a,A=some (Z b a)/\w.cell? (Z b<|a+k*3)=some (.bool l[k].ask)/\w.cell? (Z b<|a+k*3+1)=some (Y l[k].v)/\w.cell? (Z b<|a+k*3+2)=some (Y l[k].k8):=by
 obtain⟨b,a,d,c⟩:=Sl.row EL h e;exact⟨b,a,d,c 0 _ rfl,c 1 _ rfl,c 2 _ rfl⟩
def Fs.at_{l:QD}(h:Fs w A l)(e:k<l.length):∃b a,A=some (Z b a)/\w.cell? (Z b<|a+k*3)=some (Y l[k].fr)/\w.cell? (Z b<|a+k*3+1)=some (Y l[k].dst)/\w.cell? (Z b<|a+k*3+2)=some (Y l[k].n):=by
 obtain⟨b,a,d,c⟩:=Sl.row pi h e;exact⟨b,a,d,c 0 _ rfl,c 1 _ rfl,c 2 _ rfl⟩
end
structure Sv(α:Type) where
 A:Option Addr
 c:Nat
 l:List α
def Sv.ok{α:Type}(s:Sv α):Prop:=s.l.length<=s.c
structure Tk where
 hT:Int
 run:Int
 ip:Bool
 pc:Int
 r:Nat->Vl
 gs:Sv Cl
 rs:Sv Cl
 ws:Sv Cl
 nw:Sv Rw
 ds:Sv Dl
 ia:Sv Ac
 h5:Int
 next:Int
 hX:Bool
 v:Vl
 hK:Int
abbrev QE:=List Tk
def Tk.g_(t:Tk):Array Value:=#[Y t.hT,Y t.run,.bool t.ip,Y t.pc,.bool (t.r 0).r,Y (t.r 0).n,.bool (t.r 1).r,Y (t.r 1).n,.bool (t.r 2).r,Y (t.r 2).n,.bool (t.r 3).r,Y (t.r 3).n,.bool (t.r 4).r,Y (t.r 4).n,.bool (t.r 5).r,Y (t.r 5).n,.bool (t.r 6).r,Y (t.r 6).n,.bool (t.r 7).r,Y (t.r 7).n,.bool (t.r 8).r,Y (t.r 8).n,.bool (t.r 9).r,Y (t.r 9).n,.bool (t.r 10).r,Y (t.r 10).n,.bool (t.r 11).r,Y (t.r 11).n,.bool (t.r 12).r,Y (t.r 12).n,.bool (t.r 13).r,Y (t.r 13).n,.bool (t.r 14).r,Y (t.r 14).n,.bool (t.r 15).r,Y (t.r 15).n,.slice t.gs.A t.gs.l.length t.gs.c,.slice t.rs.A t.rs.l.length t.rs.c,.slice t.ws.A t.ws.l.length t.ws.c,.slice t.nw.A t.nw.l.length t.nw.c,.slice t.ds.A t.ds.l.length t.ds.c,.slice t.ia.A t.ia.l.length t.ia.c,Y t.h5,Y t.next,.bool t.hX,.bool t.v.r,Y t.v.n,Y t.hK]
structure kV(w:World)(t:Tk):Prop where
 gs:Cs w t.gs.A t.gs.l
 rs:Cs w t.rs.A t.rs.l
 ws:Cs w t.ws.A t.ws.l
 nw:Os w t.nw.A t.nw.l
 nr:nv w t.nw.l
 ds:Ds w t.ds.A t.ds.l
 ia:As w t.ia.A t.ia.l
 zi:t.gs.ok
 ll:t.rs.ok
 wy:t.ws.ok
 tX:t.nw.ok
 sQ:t.ds.ok
 qf:t.ia.ok
def kV.hF{w w':World}{t:Tk}(h:kV w t)(a:J [] w w'):kV w' t:=
 ⟨h.gs.hF a,h.rs.hF a,h.ws.hF a,h.nw.hF a,h.nr.hF a,h.ds.hF a,h.ia.hF a,h.zi,h.ll,h.wy,h.tX,h.sQ,h.qf⟩
def kV.iy{w w':World}{t:Tk}(h:kV w t)(c:Bk w g ty cs)(a:116≠ty/\56≠ty/\38≠ty/\124≠ty/\162≠ty)(b:J [g] w w'):kV w' t:=
 ⟨Sl.iy h.gs c a.1 b,Sl.iy h.rs c a.1 b,Sl.iy h.ws c a.1 b,Sl.iy h.nw c a.2.1 b,h.nr.iy c a.2.2.1 b,Sl.iy h.ds c a.2.2.2.1 b,Sl.iy h.ia c a.2.2.2.2 b,h.zi,h.ll,h.wy,h.tX,h.sQ,h.qf⟩
structure iP where
 hT:Int
 run:Int
 ip:Bool
 pc:Int
 r:Nat->Vl
 gs:List Cl
 rs:List Cl
 ws:List Cl
 nw:List Ob
 ds:List Dl
 ia:List Ac
 h5:Int
 next:Int
 hX:Bool
 v:Vl
 hK:Int
abbrev QA:=List iP
def Tk.p(t:Tk):iP:=⟨t.hT,t.run,t.ip,t.pc,t.r,t.gs.l,t.rs.l,t.ws.l,hY t.nw.l,t.ds.l,t.ia.l,t.h5,t.next,t.hX,t.v,t.hK⟩
structure iP.sm(n:Nat)(t:iP):Prop where
 gs:t.gs.length<=n
 rs:t.rs.length<=n
 ws:t.ws.length<=n
 nw:t.nw.length<=n
 ds:t.ds.length<=n
 ia:t.ia.length<=n
def D7:Nat->Vl:=λ_=>default
def Sv.nil{α:Type}:Sv α:=⟨none,0,[]⟩
def Tk.zero:Tk:=⟨0,0,false,0,D7,.nil,.nil,.nil,.nil,.nil,.nil,0,0,false,default,0⟩
def Tk.size(t:Tk):t.g_.size=48:=rfl
def Tk.one(t:Tk):t.g_.all (·.oneCell')=true:=by unfold Tk.g_;simp[Value.oneCell']
def kV.nil(w:World)(t:Tk)(d:t.gs=.nil)(e:t.rs=.nil)(f:t.ws=.nil)(b:t.nw=.nil)(c:t.ds=.nil)(a:t.ia=.nil):kV w t:=by
 obtain⟨j,G,l,m,n,i,u,p,o,q,r,s,g,v,y,z⟩:=t;simp only at d e f b c a;subst d;subst e;subst f;subst b;subst c;subst a;exact⟨HB _ _ _ _,HB _ _ _ _,HB _ _ _ _,HB _ _ _ _,λB h=>by simp[Sv.nil]at h,HB _ _ _ _,HB _ _ _ _,I_ _,I_ _,I_ _,I_ _,I_ _,I_ _⟩
structure Ef where
 h7:Int
 pc:Int
 r:Nat->Vl
 rs:Sv Cl
 ws:Sv Cl
 nw:Sv Rw
 ds:Sv Dl
 ia:Sv Ac
 kw:Int
 hX:Bool
 v:Vl
def Ef.g_(x:Ef):Array Value:=#[Y x.h7,Y x.pc,.bool (x.r 0).r,Y (x.r 0).n,.bool (x.r 1).r,Y (x.r 1).n,.bool (x.r 2).r,Y (x.r 2).n,.bool (x.r 3).r,Y (x.r 3).n,.bool (x.r 4).r,Y (x.r 4).n,.bool (x.r 5).r,Y (x.r 5).n,.bool (x.r 6).r,Y (x.r 6).n,.bool (x.r 7).r,Y (x.r 7).n,.bool (x.r 8).r,Y (x.r 8).n,.bool (x.r 9).r,Y (x.r 9).n,.bool (x.r 10).r,Y (x.r 10).n,.bool (x.r 11).r,Y (x.r 11).n,.bool (x.r 12).r,Y (x.r 12).n,.bool (x.r 13).r,Y (x.r 13).n,.bool (x.r 14).r,Y (x.r 14).n,.bool (x.r 15).r,Y (x.r 15).n,.slice x.rs.A x.rs.l.length x.rs.c,.slice x.ws.A x.ws.l.length x.ws.c,.slice x.nw.A x.nw.l.length x.nw.c,.slice x.ds.A x.ds.l.length x.ds.c,.slice x.ia.A x.ia.l.length x.ia.c,Y x.kw,.bool x.hX,.bool x.v.r,Y x.v.n]
structure tk(w:World)(x:Ef):Prop where
 rs:Cs w x.rs.A x.rs.l
 ws:Cs w x.ws.A x.ws.l
 nw:Os w x.nw.A x.nw.l
 nr:nv w x.nw.l
 ds:Ds w x.ds.A x.ds.l
 ia:As w x.ia.A x.ia.l
 ll:x.rs.ok
 wy:x.ws.ok
 tX:x.nw.ok
 sQ:x.ds.ok
 qf:x.ia.ok
def tk.hF{w w':World}{t:Ef}(h:tk w t)(a:J [] w w'):tk w' t:=
 ⟨h.rs.hF a,h.ws.hF a,h.nw.hF a,h.nr.hF a,h.ds.hF a,h.ia.hF a,h.ll,h.wy,h.tX,h.sQ,h.qf⟩
def Ef.size(t:Ef):t.g_.size=43:=rfl
def Ef.one(t:Ef):t.g_.all (·.oneCell')=true:=by unfold Ef.g_;simp[Value.oneCell']
def tk.iy{w w':World}{t:Ef}(h:tk w t)(c:Bk w g ty cs)(a:116≠ty/\56≠ty/\38≠ty/\124≠ty/\162≠ty)(b:J [g] w w'):tk w' t:=
 ⟨Sl.iy h.rs c a.1 b,Sl.iy h.ws c a.1 b,Sl.iy h.nw c a.2.1 b,h.nr.iy c a.2.2.1 b,Sl.iy h.ds c a.2.2.2.1 b,Sl.iy h.ia c a.2.2.2.2 b,h.ll,h.wy,h.tX,h.sQ,h.qf⟩
structure pC where
 h7:Int
 pc:Int
 r:Nat->Vl
 rs:List Cl
 ws:List Cl
 nw:List Ob
 ds:List Dl
 ia:List Ac
 kw:Int
 hX:Bool
 v:Vl
def Ef.p(t:Ef):pC:=⟨t.h7,t.pc,t.r,t.rs.l,t.ws.l,hY t.nw.l,t.ds.l,t.ia.l,t.kw,t.hX,t.v⟩
def iE(pc:Int)(r:Nat->Vl):Array Value:=#[Y pc,.bool (r 0).r,Y (r 0).n,.bool (r 1).r,Y (r 1).n,.bool (r 2).r,Y (r 2).n,.bool (r 3).r,Y (r 3).n,.bool (r 4).r,Y (r 4).n,.bool (r 5).r,Y (r 5).n,.bool (r 6).r,Y (r 6).n,.bool (r 7).r,Y (r 7).n,.bool (r 8).r,Y (r 8).n,.bool (r 9).r,Y (r 9).n,.bool (r 10).r,Y (r 10).n,.bool (r 11).r,Y (r 11).n,.bool (r 12).r,Y (r 12).n,.bool (r 13).r,Y (r 13).n,.bool (r 14).r,Y (r 14).n,.bool (r 15).r,Y (r 15).n]
structure X1 where
 ju:Sv In
 hH:Int
 hC:Int
 j4:Int
 sr:Nat->Vl
 h:Sv Rw
 nx:Int
 e:Ef
 hM:Bool
def X1.g_(x:X1):Array Value:=#[.slice x.ju.A x.ju.l.length x.ju.c,Y x.hH,Y x.hC,Y x.j4,.bool (x.sr 0).r,Y (x.sr 0).n,.bool (x.sr 1).r,Y (x.sr 1).n,.bool (x.sr 2).r,Y (x.sr 2).n,.bool (x.sr 3).r,Y (x.sr 3).n,.bool (x.sr 4).r,Y (x.sr 4).n,.bool (x.sr 5).r,Y (x.sr 5).n,.bool (x.sr 6).r,Y (x.sr 6).n,.bool (x.sr 7).r,Y (x.sr 7).n,.bool (x.sr 8).r,Y (x.sr 8).n,.bool (x.sr 9).r,Y (x.sr 9).n,.bool (x.sr 10).r,Y (x.sr 10).n,.bool (x.sr 11).r,Y (x.sr 11).n,.bool (x.sr 12).r,Y (x.sr 12).n,.bool (x.sr 13).r,Y (x.sr 13).n,.bool (x.sr 14).r,Y (x.sr 14).n,.bool (x.sr 15).r,Y (x.sr 15).n,.slice x.h.A x.h.l.length x.h.c,Y x.nx,Y x.e.h7,Y x.e.pc,.bool (x.e.r 0).r,Y (x.e.r 0).n,.bool (x.e.r 1).r,Y (x.e.r 1).n,.bool (x.e.r 2).r,Y (x.e.r 2).n,.bool (x.e.r 3).r,Y (x.e.r 3).n,.bool (x.e.r 4).r,Y (x.e.r 4).n,.bool (x.e.r 5).r,Y (x.e.r 5).n,.bool (x.e.r 6).r,Y (x.e.r 6).n,.bool (x.e.r 7).r,Y (x.e.r 7).n,.bool (x.e.r 8).r,Y (x.e.r 8).n,.bool (x.e.r 9).r,Y (x.e.r 9).n,.bool (x.e.r 10).r,Y (x.e.r 10).n,.bool (x.e.r 11).r,Y (x.e.r 11).n,.bool (x.e.r 12).r,Y (x.e.r 12).n,.bool (x.e.r 13).r,Y (x.e.r 13).n,.bool (x.e.r 14).r,Y (x.e.r 14).n,.bool (x.e.r 15).r,Y (x.e.r 15).n,.slice x.e.rs.A x.e.rs.l.length x.e.rs.c,.slice x.e.ws.A x.e.ws.l.length x.e.ws.c,.slice x.e.nw.A x.e.nw.l.length x.e.nw.c,.slice x.e.ds.A x.e.ds.l.length x.e.ds.c,.slice x.e.ia.A x.e.ia.l.length x.e.ia.c,Y x.e.kw,.bool x.e.hX,.bool x.e.v.r,Y x.e.v.n,.bool x.hM]
structure Sh where
 a:Bool
 b:Bool
 c:Bool
 n:Int
 deriving DecidableEq,Inhabited
def Sh.E(s:Sh):List Value:=[.bool s.a,.bool s.b,.bool s.c,Y s.n]
def je:List Sh:=[⟨false,false,false,0⟩,⟨true,false,false,1⟩,⟨true,false,false,0⟩,⟨true,true,false,0⟩,⟨true,true,true,2⟩,⟨true,true,false,3⟩,⟨true,true,false,3⟩,⟨true,false,false,4⟩,⟨true,false,false,5⟩,⟨true,false,false,5⟩,⟨true,false,false,5⟩,⟨false,false,false,6⟩,⟨true,false,false,6⟩,⟨false,false,false,7⟩,⟨true,false,false,0⟩,⟨true,false,false,0⟩,⟨true,false,false,0⟩,⟨false,false,false,8⟩,⟨true,false,false,0⟩,⟨true,false,false,0⟩,⟨false,false,false,5⟩,⟨false,false,false,9⟩]
def q6:List Value:=je.flatMap Sh.E
def C0:∀k,k<22->0<=(je.getD k default).n/\(je.getD k default).n<=9:=by decide
def ya{w:World}:Calls prog 146 #[] w λe w'=>∃g:Nat,e=.returned (.slice (j_ g) 22 22)/\Sl w' 274 4 (j_ g) 22 q6/\J [] w w':=by
 go_enter func146,ntmps146;go_wp2;go_ret;exact⟨w.heap.size,rfl,Sl.new w 274 4 _ 22 _ rfl rfl,(G_ _ _).alloc _⟩
def jU(l:QR)(i:Nat)(x:In)(s:Sh):Bool:=
 if x.op<0\/21<x.op then false
 else if(!mC x.a s.a||(x.op !=13&&x.op !=10&& !mC x.b s.b)||(x.op !=13&& !mC x.c s.c)) then false
 else if(x.op==13&&(decide (x.b<0)||decide (4<x.b)||decide (x.c<x.b)||decide (64<x.c)||iG l ((i:Int)+1) !=21))||(x.op==10&& !qV x.b) then false
 else if s.n=0 then x.n==0
 else if s.n=2 then pX x.n&&decide (0<=x.n)&&decide (x.n<100)
 else if s.n=3 then decide (0<=x.n)&&decide (x.n<16)
 else if s.n=4 then decide (0<=x.n)&&decide (x.n<=16)
 else if s.n=5 then decide (0<=x.n)&&decide (x.n<64)&&(x.op !=20||iG l ((i:Int)-1)==21)
 else if s.n=6 then decide (0<=iG l x.n)&&iG l x.n !=20&&(decide ((i:Int)<x.n)||iG l x.n==21)
 else if s.n=7 then iG l x.n==21
 else if s.n=8 then x.n==0||iG l x.n==21
 else true
def kU(l:QR)(i:Nat):Bool:=jU l i (l.getD i default)<|je.getD (l.getD i default).op.toNat default
def mE{α:Type}(p:α->Bool):List α->Nat
 |[]=>0
 |x::l=>if p x then mE p l+1 else 0
def pY(p:α->Bool)(l:List α):mE p l<=l.length:=by
 induction l with
 |nil=>simp[mE]
 |cons x l a=>simp only[mE,GI];split<;>omega
def oO{p:α->Bool}{l:List α}(a:k<l.length)(b:p l[k]=true):mE p (l.drop k)=mE p (l.drop<|k+1)+1:=by
 rw[W_ a];simp[mE,b]
def nU{p:α->Bool}{l:List α}(a:k<l.length)(b:p l[k]=false):mE p (l.drop k)=0:=by
 rw[W_ a];simp[mE,b]
def r0{p:α->Bool}{l:List α}(a:l.length<=k):mE p (l.drop k)=0:=by
 rw[Hd a];rfl
def cat(l:QV)(id f:Int):Int:=iK (λc:Cl=>c.id==id&&c.f==f) l 0
def oS(id f:Int)(c:Cl):Bool:=decide (c.id<id)||(c.id==id&&decide (c.f<f))
def qS(l:QV)(id f:Int):Nat:=mE (oS id f) l
def kc(l:QV)(c:Cl):List Cl:=
 if 0<=cat l c.id c.f then l.set (cat l c.id c.f).toNat c else l.take (qS l c.id c.f)++([c]++l.drop (qS l c.id c.f))
def pk(l:QC)(id f:Int):Int:=iK (λc:Dl=>c.id==id&&c.f==f) l 0
def om(id f:Int)(c:Dl):Bool:=decide (c.id<id)||(c.id==id&&decide (c.f<f))
def r8(l:QC)(id f:Int):Nat:=mE (om id f) l
def oi(h:QQ)(c:Cl):List Ob:=match iw h c.id c.f with
 |none=>h
 |some _=>kC h c.id c.f c.v
def iL(h:QQ)(l:QV):List Ob:=l.foldl oi h
def na(h:QQ)(d:Dl):List Ob:=match iw h d.id d.f with
 |none=>h
 |some v=>if(iA d.op v d.v).2=0 then kC h d.id d.f (iA d.op v d.v).1 else h
def jz(h:QQ)(l:QC):List Ob:=l.foldl na h
def j0(rs:QV)(h:QQ)(g:Cl):List Ob:=if cat rs g.id g.f<0 then iL h [g] else h
def before(t:iP)(view:QQ):List Ob:=iL (t.gs.foldl (j0 t.rs) view) t.rs
def iR(t:iP)(view:QQ):List Ob:=jz (iL (t.nw.foldl kS<|before t view) t.ws) t.ds
def kG(h:QQ)(t:iP):List Ob:=jz (iL (t.nw.foldl kS h) t.ws) t.ds
def tU(o:Ob)(f:Int)(v:Vl):Ob:=⟨o.id,if 0<=f/\f<(o.fs.length:Int) then o.fs.set f.toNat v else o.fs⟩
def jt(t:iP)(c:Cl):iP:=
 if jx t.nw c.id<0 then{t with ws:=kc t.ws c} else{t with nw:=t.nw.modify (jx t.nw c.id).toNat (λo=>tU o c.f c.v)}
def jb(t:iP)(view:QQ)(id f:Int):Option iP:=
 if pk t.ds id f<0 then some t else
 match iw (before t view) id f with
 |none=>none
 |some b=>if b.r=true then none else
  some (jt {t with rs:=kc t.rs ⟨id,f,b⟩,ds:=t.ds.eraseIdx (pk t.ds id f).toNat} ⟨id,f,(iw (iR t view) id f).getD default⟩)
def take(t:iP)(d:Dl):Option iP:=
 if t.ip=true\/0<=jx t.nw d.id\/0<=cat t.ws d.id d.f\/0<=cat t.rs d.id d.f then none
 else if pk t.ds d.id d.f<0 then some {t with ds:=t.ds.take (r8 t.ds d.id d.f)++([d]++t.ds.drop (r8 t.ds d.id d.f))}
 else if(t.ds.getD (pk t.ds d.id d.f).toNat default).op≠d.op then none
 else some {t with ds:=t.ds.modify (pk t.ds d.id d.f).toNat (λx=>{x with v:=(iA d.op x.v d.v).1})}
def jj(l:QV)(d:Dl):List Cl:=l.filter λc=>c.id !=d.id||c.f !=d.f
def jf:iP->List Cl->List Cl->List Dl->iP × List Cl × List Cl
 |t,rs,ws,[]=>(t,rs,ws)
 |t,rs,ws,d::l=>match take t d with
  |none=>jf t rs ws l
  |some t'=>jf t' (jj rs d) (jj ws d) l
def m8(view:QQ)(t:iP)(c:Cl):Option iP:=
 if 0<=jx t.nw c.id\/0<=cat t.ws c.id c.f\/0<=cat t.rs c.id c.f then some t
 else if 0<=pk t.ds c.id c.f then jb t view c.id c.f
 else some {t with rs:=kc t.rs c}
def jB(view:QQ):iP->List Cl->Option iP
 |t,[]=>some t
 |t,c::l=>match m8 view t c with
  |none=>none
  |some t'=>jB view t' l
def pw(view:QQ)(t:iP)(c:Cl):Option iP:=(jb t view c.id c.f).map (jt · c)
def j6(view:QQ):iP->List Cl->Option iP
 |t,[]=>some t
 |t,c::l=>match pw view t c with
  |none=>none
  |some t'=>j6 view t' l
def record(t:iP)(view:QQ)(e:pC):Option iP:=
 let a:=jf t e.rs e.ws e.ds
 match jB view a.1 a.2.1 with
 |none=>none
 |some t1=>match j6 view {t1 with nw:=t1.nw++e.nw} a.2.2 with
  |none=>none
  |some ad=>some {ad with ia:=ad.ia++e.ia}
def ja:Nat->Vl:=λ_=>default
def pN(r:Nat->Vl)(a:Int)(v:Vl):Nat->Vl:=λj=>if j=a.toNat then v else r j
structure XP where
 ju:List In
 hH:Int
 hC:Int
 j4:Int
 sr:Nat->Vl
 h:List Ob
 nx:Int
 e:pC
 hM:Bool
def X1.p(x:X1):XP:=⟨x.ju.l,x.hH,x.hC,x.j4,x.sr,hY x.h.l,x.nx,x.e.p,x.hM⟩
def i0(l:QR)(n:Int):Bool:=decide (0<=n)&&(decide (n<(l.length:Int))&&(l.getD n.toNat default).op==21)
def hQ(x:XP)(id f:Int):XP × Vl:=match iw x.h id f with
 |none=>({x with hM:=true},default)
 |some v=>if 0<=cat x.e.rs id f then(x,v) else({x with e:={x.e with rs:=x.e.rs++[⟨id,f,v⟩]}},v)
def h6(x:XP)(id f:Int)(v:Vl):XP:={x with e:={x.e with ws:=x.e.ws++[⟨id,f,v⟩]}}
def iv(x:XP):XP:={x with hM:=x.hM||(match jy x.h 1 with|none=>true|some o=>decide ((o.fs.length:Int)<3))}
def iS(h:QQ)(id:Int):Int:=match jy h id with
 |none=>0
 |some o=>o.fs.length
def hO(x:XP):XP × Int × Int:=
 let x:=iv x
 if x.hM=true then(x,0,0) else
 let y:=hQ x 1 0
 ({y.1 with hM:=y.1.hM||(!y.2.r||(match jy y.1.h y.2.n with|none=>true|some o=>decide ((o.fs.length:Int)<3)))},y.2.n,iS y.1.h y.2.n)
def kl(x:XP):XP:={x with hM:=true}
def iX(x:XP)(v:Vl):XP:=
 let a:=hO x
 if a.1.hM=true then a.1 else
 let b:=hQ a.1 a.2.1 2
 if b.2.r=true\/(b.2.n≠0/\i0 b.1.ju b.2.n=false) then kl b.1 else
 if b.2.n≠0 then
  let y:=h6 (h6 b.1 a.2.1 2 default) 1 2 v
  {y with e:={y.e with pc:=b.2.n,r:=ja}}
 else
  let p:=hQ b.1 a.2.1 0
  if p.2.r=false then kl p.1 else
  if p.2.n=0 then{p.1 with e:={p.1.e with h7:=2,hX:=true,v:=v,pc:=p.1.j4,r:=p.1.sr}}
  else
   let y:=h6 (h6 p.1 1 0 p.2) 1 2 v
   {y with e:={y.e with h7:=1,kw:=y.hC,pc:= -1,r:=ja}}
def i9(x:XP)(n:Int):XP:=iX x ⟨false,n⟩
def ik(x:XP)(v:Vl)(f:Int):XP × Int × Bool:=
 if v.r=false then(i9 x<|-2,0,false) else
 if v.n=0 then(i9 x<|-1,0,false) else
 match jy x.h v.n with
 |none=>(kl x,0,false)
 |some o=>if(o.fs.length:Int)<=f then(i9 x<|-1,0,false) else(x,v.n,true)
def hI(x:XP)(n:Int):XP × Int × Int × Bool:=
 let a:=hO x
 if a.1.hM=true then(a.1,0,0,false) else
 if a.2.2<=3+n then(i9 a.1<|-1,0,0,false) else(a.1,a.2.1,3+n,true)
def kJ(x:XP)(a:Int)(v:Vl):XP:={x with e:={x.e with r:=pN x.e.r a v}}
def rM(x:XP)(pc:Int):XP:={x with e:={x.e with pc:=pc}}
def ji(x:XP)(i:In):Option XP:=
 let r:=x.e.r
 if i.op=0 then some x
 else if i.op=1 then some (kJ x i.a ⟨false,i.n⟩)
 else if i.op=2 then some (kJ x i.a ⟨true,0⟩)
 else if i.op=3 then some (kJ x i.a<|r i.b.toNat)
 else if i.op=4 then
  let y:=iA i.n (r i.b.toNat)<|r i.c.toNat
  some (if y.2≠0 then i9 x y.2 else kJ x i.a y.1)
 else if i.op=11 then some (rM x i.n)
 else if i.op=12 then some (if(r i.a.toNat).n≠0 then x else rM x i.n)
 else if i.op=21 then some {x with e:={x.e with r:=ja,h7:=1,kw:=i.n}}
 else if i.op=16 then some (iX x<|r i.a.toNat)
 else if i.op=19 then some (if(r i.a.toNat).r=true then i9 x (-2) else{x with e:={x.e with ia:=[⟨false,(r i.a.toNat).n,0⟩]}})
 else none
def kb(x:XP)(i:In):Option XP:=
 if i.op≠8/\i.op≠9/\i.op≠10/\i.op≠20 then none else
 let a:=x.sr i.a.toNat
 let y:=hI x i.n
 if y.2.2.2=false then some y.1 else
 let f:=y.2.1
 let k:=y.2.2.1
 if i.op=9 then some (h6 y.1 f k a) else
 let z:=hQ y.1 f k
 if i.op=8 then some (kJ z.1 i.a z.2)
 else if i.op=10 then
  let q:=iA i.b z.2 a
  if q.2≠0 then some (i9 z.1 q.2) else
  let u:=h6 z.1 f k q.1
  some {u with e:={u.e with ds:=[⟨f,k,i.b,a⟩]}}
 else if z.2.r=true then some (i9 z.1<|-2)
 else some {z.1 with e:={z.1.e with h7:=3,v:=z.2,pc:=z.1.j4,r:=z.1.sr}}
def jH(x:XP)(i:In):XP:=
 let a:=x.sr i.a.toNat
 if i.op=5 then
  let y:=ik x (x.sr i.b.toNat) i.n
  if y.2.2=true then(let z:=hQ y.1 y.2.1 i.n;kJ z.1 i.a z.2) else y.1
 else if i.op=6 then
  let y:=ik x (x.sr i.b.toNat) i.n
  if y.2.2=true then h6 y.1 y.2.1 i.n a else y.1
 else if i.op=7 then
  kJ {x with e:={x.e with nw:=[⟨x.nx,List.replicate i.n.toNat default⟩]}} i.a ⟨true,x.nx⟩
 else if i.op=13 then
  let y:=hO x
  let z:={y.1 with e:={y.1.e with nw:=[⟨y.1.nx,[⟨true,y.2.1⟩,⟨false,y.1.j4+1⟩,default]++((List.range i.b.toNat).map y.1.sr++List.replicate (i.c-i.b).toNat default)⟩]}}
  rM (h6 z 1 0 ⟨true,z.nx⟩) i.n
 else if i.op=14 then
  let y:=hO x
  if y.1.hM=true then y.1 else
  let p:=hQ y.1 y.2.1 0
  if p.2.r=true/\p.2.n=0 then{p.1 with e:={p.1.e with h7:=2,v:=a,pc:=p.1.j4,r:=p.1.sr}} else
  let r:=hQ p.1 y.2.1 1
  if p.2.r=false\/r.2.r=true\/i0 r.1.ju r.2.n=false then kl r.1 else
  rM (h6 (h6 r.1 1 0 p.2) 1 1 a) r.2.n
 else if i.op=15\/i.op=18 then
  let y:=iv x
  if y.hM=true then y else
  let z:=hQ y 1 (if i.op=15 then 1 else 2)
  kJ z.1 i.a z.2
 else if i.op=17 then
  let y:=hO x
  h6 y.1 y.2.1 2 ⟨false,i.n⟩
 else x
def nF(l:QR):Bool:=(List.range l.length).all<|kU l
def jM(l:QR):Int:=((l.filter λi=>i.op==21).length:Int)
def kx:List In->Int->Bool
 |[],_=>true
 |i::l,m=>if i.op=21 then(i.n==m)&&kx l (m+1) else kx l m
def ih(c:QR)(hH hC:Int):Bool:=
 decide (1<=c.length)&&decide (c.length<=2048)&&decide (0<=hH)&&decide (hH<=64)&&(iG c 0==21)&&
 (iG c ((c.length:Int)-1)==14||iG c ((c.length:Int)-1)==16||iG c ((c.length:Int)-1)==11)&&
 nF c&&kx c 0&&(hC==jM c)
def lm:pC:=⟨0,0,ja,[],[],[],[],[],0,false,default⟩
def jl:pC:={lm with h7:=4}
def nk(x:XP)(pc:Int):XP:=
 if pc= -1 then
  let y:=iv x
  if y.hM=true then y else
  let z:=hQ y 1 2
  iX z.1 z.2
 else
  let i:=x.ju.getD pc.toNat default
  match ji x i with
  |some y=>y
  |none=>match kb x i with
   |some y=>y
   |none=>jH x i
def kR(c:QR)(hH hC pc:Int)(r:Nat->Vl)(h:QQ)(nx:Int):pC:=
 if ih c hH hC=false\/pc< -1\/(c.length:Int)<=pc then jl else
 let y:=nk ⟨c,hH,hC,pc,r,h,nx,{lm with pc:=pc+1,r:=r},false⟩ pc
 if y.hM=true then jl else y.e
def lX(A:OA)(c:Nat)(l:QV)(id f:Int)(w:World)(h:Cs w A l)(u:l.length<=1000000000):
 Calls prog 129 #[.slice A l.length c,Y id,Y f] w λe w'=>e=.returned (Y<|cat l id f)/\J [] w w':=by
 have i:=O (show cat l id f=iK (λc:Cl=>c.id==id&&c.f==f) l 0 from rfl);generalize s:l.length=b at*
 go_enter func129,ntmps129;go_wp2;go_loopw [11] (λa w'=>∃k:Nat,k<=b/\a=Y k/\cat l id f=iK (λc:Cl=>c.id==id&&c.f==f) (l.drop k) k/\J [] w w') (λa _=>b-(intOf a).toNat)
 case atStart=>exact⟨0,R_ _,rfl,i.out,G_ _ _⟩
 obtain⟨k,t,rfl,G,F⟩:=hrel;have HI:=O G;clear G;by_cases j:k<b;have d:k<l.length:=X;obtain⟨m,v,rfl,r,n,p,o⟩:=(h.hF F).at_ d;by_cases t0:l[k].id=id;by_cases t1:l[k].f=f
 .have aQ:=O (show(λc:Cl=>c.id==id&&c.f==f) l[k]=true by simp[t0,t1]);exact Lh
 have aQ:=O (show(λc:Cl=>c.id==id&&c.f==f) l[k]=false by simp[t0,t1]);exact KP;have aQ:=O (show(λc:Cl=>c.id==id&&c.f==f) l[k]=false by simp[t0]);exact Lb;exact Nu
def mf(t:Tk)(id f:Int){w:World}(h:kV w t)(u:t.ds.l.length<=1000000000):
 Calls prog 130 #[.agg t.g_,Y id,Y f] w λe w'=>e=.returned (Y<|pk t.ds.l id f)/\J [] w w':=by
 have s:=T_ w 53 t.g_;have o:(w.alloc<|.cells t.g_ 53).cell? (Z w.heap.size 40)=some (.slice t.ds.A t.ds.l.length t.ds.c):=(s.f_ 40).trans rfl;obtain⟨A,a,l,c,m,b⟩:∃(A:OA) (a:Nat) (l:QC),t.ds.A=A/\t.ds.c=a/\t.ds.l=l:=⟨_,_,_,rfl,rfl,rfl⟩;have j:=h.ds;rw[c,b]at j;rw[c,m,b]at o;rw[b]at u;have r:=O b;clear c m b h;rw[r.out];have p:=O (show pk l id f=iK (λa:Dl=>a.id==id&&a.f==f) l 0 from rfl);generalize H:l.length=i at*
 go_enter func130,ntmps130;go_wp2;go_loopw [12] (λd w'=>∃k:Nat,k<=i/\d=Y k/\pk l id f=iK (λa:Dl=>a.id==id&&a.f==f) (l.drop k) k/\J [] w w') (λd _=>i-(intOf d).toNat)
 case atStart=>exact⟨0,R_ _,rfl,p.out,(G_ _ _).alloc _⟩
 obtain⟨k,I,rfl,G,F⟩:=hrel;have HI:=O G;clear G;by_cases v:k<i;have n:k<l.length:=X;obtain⟨y,K,rfl,E,z,D,C,B⟩:=(j.hF F).at_ n;by_cases t0:l[k].id=id;by_cases t1:l[k].f=f
 .have aQ:=O (show(λa:Dl=>a.id==id&&a.f==f) l[k]=true by simp[t0,t1]);exact Lh
 have aQ:=O (show(λa:Dl=>a.id==id&&a.f==f) l[k]=false by simp[t0,t1]);exact KP;have aQ:=O (show(λa:Dl=>a.id==id&&a.f==f) l[k]=false by simp[t0]);exact Lb;exact Nu
def pd(t:Tk)(id:Int)(w:World)(h:kV w t)(y:t.nw.l.length<=1000000000):
 Calls prog 128 #[.agg t.g_,Y id] w λe w'=>e=.returned (Y<|jx (hY t.nw.l) id)/\J [] w w':=by
 have v:=T_ w 53 t.g_;have p:(w.alloc<|.cells t.g_ 53).cell? (Z w.heap.size 39)=some (.slice t.nw.A t.nw.l.length t.nw.c):=(v.f_ 39).trans rfl;obtain⟨A,l,a,d,m,c⟩:∃(A:OA) (l:Nat) (a:QT),t.nw.A=A/\t.nw.c=l/\t.nw.l=a:=⟨_,_,_,rfl,rfl,rfl⟩;have j:=h.nw;rw[d,c]at j;rw[d,m,c]at p;rw[c]at y;have u:=O c;clear d m c h;rw[u.out];have r:=O (show jx (hY a) id=iK (λb:Rw=>b.o.id==id) a 0 by unfold jx hY;exact qP _ _ _ _ λ_ _=>rfl);generalize E:a.length=i at*
 go_enter func128,ntmps128;go_wp2;go_loopw [10] (λf w'=>∃k:Nat,k<=i/\f=Y k/\jx (hY a) id=iK (λb:Rw=>b.o.id==id) (a.drop k) k/\J [] w w') (λf _=>i-(intOf f).toNat)
 case atStart=>exact⟨0,R_ _,rfl,r.out,(G_ _ _).alloc _⟩
 obtain⟨k,H,rfl,G,F⟩:=hrel;have HI:=O G;clear G;by_cases z:k<i;have n:k<a.length:=X;obtain⟨B,I,rfl,D,C⟩:=(j.hF F).at_ n;by_cases t0:a[k].o.id=id;have aQ:=O (show(λb:Rw=>b.o.id==id) a[k]=true by simp[t0]);have s:(a[k].o.id==id)=true:=zu t0;clear t0;exact M6;have aQ:=O (show(λb:Rw=>b.o.id==id) a[k]=false by simp[t0]);have s:(a[k].o.id==id)=false:=zu t0;exact LK;exact Nu
structure mh(w:World)(A:OA)(c:Nat)(l:QT):Prop where
 os:Os w A l
 ll:nv w l
 l6:l.length<=c
def mh.hF{w w':World}{A:OA}{c:Nat}{l:QT}(h:mh w A c l)(a:J [] w w'):mh w' A c l:=⟨h.os.hF a,h.ll.hF a,h.l6⟩
def mh.alloc{w:World}{A:OA}{c:Nat}{l:QT}(h:mh w A c l)(a:Obj):mh (w.alloc a) A c l:=h.hF<|(G_ [] w).alloc a
def mh.iy{w w':World}{A:OA}{c:Nat}{l:QT}{t:TypeId}(h:mh w A c l)(b:Bk w g t cs)(d:56≠t)(e:38≠t)(a:J [g] w w'):mh w' A c l:=
 ⟨Sl.iy h.os b d a,h.ll.iy b e a,h.l6⟩
def lO(P:QQ)(w:World)(e:Ending)(w':World):Prop:=∃(A:OA) (c:Nat) (rs:QT),e=.returned (.agg #[.slice A rs.length c])/\mh w' A c rs/\hY rs=P/\J [] w w'
def ib(l:QT):(hY l).length=l.length:=by simp[hY]
def t8{h:QQ}{id f:Int}{v:Vl}:(kC h id f v).length=h.length:=by simp[kC]
def zg(h:QQ)(c:Cl):(oi h c).length=h.length:=by
 unfold oi;split;rfl;exact t8
def j1(h:QQ)(l:QV):(iL h l).length=h.length:=by
 unfold iL;induction l generalizing h with
 |nil=>rfl
 |cons b l a=>rw[H7,a,zg]
def qY{h:QQ}{l:QV}(a:k<l.length):iL h (l.take<|k+1)=oi (iL h<|l.take k) l[k]:=by
 unfold iL;rw[Y_ a,Ig];rfl
def n9(A:OA)(c:Nat)(l:QT)(y:OA)(d:Nat)(cs:QV)(w:World)(h:mh w A c l)(hn:l.length<=1000000000)(hc:Cs w y cs)(bX:cs.length<=1000000000):
 Calls prog 125 #[.agg #[.slice A l.length c],.slice y cs.length d] w (lO (iL (hY l) cs) w):=by
 obtain⟨K,z,m⟩:=qU w 35 #[.slice A l.length c] 35 #[n_];have Q:=h.hF m;have af:=O (show l.length=(hY l).length from(ib l).symm);generalize P:cs.length=n at*;have t:=O P;clear P;go_enter func125,ntmps125;go_wp2;go_loopw [11] (λu wr=>∃(k:Nat) (A':OA) (c':Nat) (rs:QT),k<=n/\u=Y k/\Bk wr w.heap.size 35 #[.slice A' rs.length c']/\Bk wr (w.heap.size+1) 35 #[n_]/\mh wr A' c' rs/\hY rs=iL (hY l) (cs.take k)/\J [] w wr) (λu _=>n-(intOf u).toNat)
 case atStart=>exact⟨0,A,c,l,R_ _,rfl,K,z,Q,rfl,m⟩
 obtain⟨k,A',c',rs,hk,rfl,s,E,D,M,F⟩:=hrel;have q:=O M;clear M K z Q m;by_cases T:k<n
 .have H:k<cs.length:=by rw[t.out];exact T
  obtain⟨ah,off,S,Z,U,W,V⟩:=(hc.hF F).at_ H;subst S;have N:=O (show iL (hY l) (cs.take<|k+1)=oi (hY rs) cs[k] by rw[q.out];exact qY H);have B:rs.length<=1000000000:=by
   have:=ib rs;rw[q.out,j1]at this;have h2:=af.out;omega
  generalize cs[k]=x at*;obtain⟨g,f,b⟩:=x;simp only at Z U W V;have a:=(G_ [] wr).alloc<|.cells #[Y g,Y f,.bool b.r,Y b.n] 116;have aR:=(s.alloc<|.cells #[Y g,Y f,.bool b.r,Y b.n] 116).f_ 0;cases j:iw (hY rs) g f with
  |none=>
   have r:=O (show oi (hY rs) ⟨g,f,b⟩=hY rs by unfold oi;simp only[j]);go_wp2_with (go_at_call 149;((with_reducible refine(qZ A' c' rs g f b (D.hF a).os (D.hF a).ll B j).mono ?_);rintro aj L⟨rfl,e⟩;have i:=((s.hF a).hF e).alloc<|.cells #[n_] 35));go_roundw;exact⟨k+1,A',c',rs,X,gn,i,((E.hF a).hF e).alloc _,((D.hF a).hF e).alloc _,by rw[N.out,r.out],((F.trans a).trans e).alloc _⟩;exact mz
  |some ak=>
   have r:=O (show oi (hY rs) ⟨g,f,b⟩=kC (hY rs) g f b by unfold oi;simp only[j]);go_wp2_with (go_at_call 149;((with_reducible refine(oG A' c' rs g f b ak (D.hF a).os (D.hF a).ll B j).mono ?_);rintro aj L⟨p,o,v,rfl,R,al,cz,C,e⟩;have am:=O C;clear C;have i:=((s.hF a).hF e).alloc<|.cells #[.slice p v.length o] 35;have z0:=i.f_ 0;have bE:=i.hG 0;have hD:=T_ L 35 #[.slice p v.length o];have an:=hD.f_ 0));go_roundw;exact⟨k+1,p,o,v,X,gn,i.hW 0 _,(((E.hF a).hF e).alloc _).ir s_ _,((mh.mk al cz R).alloc _).iy i I I<|(G_ _ _).setCell (.inl s_) _,by rw[N.out,r.out,am.out],(((F.trans a).trans e).alloc _).setCell (.inr s_) _⟩;exact mz
 exact Ka
def B6(h:QQ)(c:Dl):(na h c).length=h.length:=by
 unfold na;split;rfl;split
 .exact t8
 rfl
def od(h:QQ)(l:QC):(jz h l).length=h.length:=by
 unfold jz;induction l generalizing h with
 |nil=>rfl
 |cons b l a=>rw[H7,a,B6]
def vS{h:QQ}{l:QC}(a:k<l.length):jz h (l.take<|k+1)=na (jz h<|l.take k) l[k]:=by
 unfold jz;rw[Y_ a,Ig];rfl
def sy(A:OA)(c:Nat)(l:QT)(P:OA)(d:Nat)(ds:QC){w:World}(h:mh w A c l)(hn:l.length<=1000000000)(hc:Ds w P ds)(bX:ds.length<=1000000000):
 Calls prog 124 #[.agg #[.slice A l.length c],.slice P ds.length d] w (lO (jz (hY l) ds) w):=by
 obtain⟨W,R,K⟩:=qU w 35 #[.slice A l.length c] 35 #[n_];have aj:=h.hF K;have al:=O (show l.length=(hY l).length from(ib l).symm);generalize am:ds.length=n at*;have t:=O am;clear am;go_enter func124,ntmps124;go_wp2;go_loopw [13] (λN wr=>∃(k:Nat) (A':OA) (c':Nat) (rs:QT),k<=n/\N=Y k/\Bk wr w.heap.size 35 #[.slice A' rs.length c']/\Bk wr (w.heap.size+1) 35 #[n_]/\mh wr A' c' rs/\hY rs=jz (hY l) (ds.take k)/\J [] w wr) (λN _=>n-(intOf N).toNat)
 case atStart=>exact⟨0,A,c,l,R_ _,rfl,W,R,aj,rfl,K⟩
 obtain⟨k,A',c',rs,hk,rfl,s,E,D,bJ,F⟩:=hrel;have q:=O bJ;clear bJ W R aj K;by_cases ag:k<n
 .have T:k<ds.length:=by rw[t.out];exact ag
  obtain⟨an,off,aU,bt,bA,bW,bL,bD⟩:=(hc.hF F).at_ T;subst aU;have bS:=O (show jz (hY l) (ds.take<|k+1)=na (hY rs) ds[k] by rw[q.out];exact vS T);have C:rs.length<=1000000000:=by
   have:=ib rs;rw[q.out,od]at this;have h2:=al.out;omega
  generalize ds[k]=x at*;obtain⟨g,j,m,b⟩:=x;simp only at bt bA bW bL bD;have a:Bk (wr.alloc<|.cells #[Y g,Y j,Y m,.bool b.r,Y b.n] 124) wr.heap.size 124 #[Y g,Y j,Y m,.bool b.r,Y b.n]:=T_ wr _ _;have s:=s.alloc<|.cells #[Y g,Y j,Y m,.bool b.r,Y b.n] 124;have E:=E.alloc<|.cells #[Y g,Y j,Y m,.bool b.r,Y b.n] 124;have D:=D.alloc<|.cells #[Y g,Y j,Y m,.bool b.r,Y b.n] 124;have F:=F.alloc<|.cells #[Y g,Y j,Y m,.bool b.r,Y b.n] 124;have aR:=s.f_ 0;have ao:=a.f_ 0;have af:=a.f_ 1;cases v:iw (hY rs) g j with
  |none=>
   have bo:=O (show na (hY rs) ⟨g,j,m,b⟩=hY rs by unfold na;simp only[v]);obtain⟨e,u⟩:=mn_<|iA m default b;have H:=O u;clear u;go_wp2_with (first|(go_at_call 148;((with_reducible refine(kL A' c' rs g j _ D.os D.ll C).mono ?_);rintro y B⟨rfl,f⟩;rw[v];simp only[IN,IW];have s:=(s.hF f).alloc<|.cells (V_ (default:Vl)) 38;have E:=(E.hF f).alloc<|.cells (V_ (default:Vl)) 38;have a:=(a.hF f).alloc<|.cells (V_ (default:Vl)) 38;have D:=(D.hF f).alloc<|.cells (V_ (default:Vl)) 38;have F:=(F.trans f).alloc<|.cells (V_ (default:Vl)) 38;have p:=T_ B 38<|V_ (default:Vl);have ay:=a.f_ 2;have V:=a.f_ 3;have Z:=a.f_ 4;have z0:=p.f_ 0;have U:=p.f_ 1))|(go_at_call 164;((with_reducible refine(mV m _ b).mono ?_);rintro y L⟨r,i⟩;unfold qX at r;subst r;rw[H.out];have s:=(s.hF i).alloc<|.cells (V_ e.1) 38;have E:=(E.hF i).alloc<|.cells (V_ e.1) 38;have D:=(D.hF i).alloc<|.cells (V_ e.1) 38;have F:=(F.trans i).alloc<|.cells (V_ e.1) 38)));exact Mk
  |some o=>
   obtain⟨e,u⟩:=mn_<|iA m o b;have H:=O u;by_cases z:e.2=0
   .have bo:=O (show na (hY rs) ⟨g,j,m,b⟩=kC (hY rs) g j e.1 by unfold na;simp only[v,u,z,if_true]);have ap:(e.2==0)=true:=zu z;clear u z;go_wp2_with (first|(go_at_call 148;((with_reducible refine(kL A' c' rs g j _ D.os D.ll C).mono ?_);rintro y B⟨rfl,f⟩;rw[v];simp only[HO,Ir];have s:=(s.hF f).alloc<|.cells (V_ o) 38;have E:=(E.hF f).alloc<|.cells (V_ o) 38;have a:=(a.hF f).alloc<|.cells (V_ o) 38;have D:=(D.hF f).alloc<|.cells (V_ o) 38;have F:=(F.trans f).alloc<|.cells (V_ o) 38;have p:=T_ B 38<|V_ o;have ay:=a.f_ 2;have V:=a.f_ 3;have Z:=a.f_ 4;have z0:=p.f_ 0;have U:=p.f_ 1))|(go_at_call 164;((with_reducible refine(mV m _ b).mono ?_);rintro y L⟨r,i⟩;unfold qX at r;subst r;rw[H.out];have s:=(s.hF i).alloc<|.cells (V_ e.1) 38;have E:=(E.hF i).alloc<|.cells (V_ e.1) 38;have a:=(a.hF i).alloc<|.cells (V_ e.1) 38;have D:=(D.hF i).alloc<|.cells (V_ e.1) 38;have F:=(F.trans i).alloc<|.cells (V_ e.1) 38;have Q:=T_ L 38<|V_ e.1;have aR:=s.f_ 0;have ao:=a.f_ 0;have af:=a.f_ 1;have cG:=Q.f_ 0;have az:=Q.f_ 1))|(go_at_call 149;((with_reducible refine(oG A' c' rs g j e.1 o D.os D.ll C v).mono ?_);rintro y NY⟨av,aG,aq,rfl,ar,au,cz,S,M⟩;have aw:=O S;clear S;have s:=s.hF M;have E:=E.hF M;have F:=F.trans M;have aR:=s.f_ 0;have bE:=s.hG 0)));go_roundw;exact⟨k+1,av,aG,aq,X,gn,s.hW 0 _,E.ir s_ _,(mh.mk au cz ar).iy s I I<|(G_ _ _).setCell (.inl s_) _,by rw[bS.out,bo.out,aw.out],F.setCell (.inr s_) _⟩;exact mz
   have bo:=O (show na (hY rs) ⟨g,j,m,b⟩=hY rs by unfold na;simp only[v,u,z,if_false]);have ap:(e.2==0)=false:=zu z;clear u z;go_wp2_with (first|(go_at_call 148;((with_reducible refine(kL A' c' rs g j _ D.os D.ll C).mono ?_);rintro y B⟨rfl,f⟩;rw[v];simp only[HO,Ir];have s:=(s.hF f).alloc<|.cells (V_ o) 38;have E:=(E.hF f).alloc<|.cells (V_ o) 38;have a:=(a.hF f).alloc<|.cells (V_ o) 38;have D:=(D.hF f).alloc<|.cells (V_ o) 38;have F:=(F.trans f).alloc<|.cells (V_ o) 38;have p:=T_ B 38<|V_ o;have ay:=a.f_ 2;have V:=a.f_ 3;have Z:=a.f_ 4;have z0:=p.f_ 0;have U:=p.f_ 1))|(go_at_call 164;((with_reducible refine(mV m _ b).mono ?_);rintro y L⟨r,i⟩;unfold qX at r;subst r;rw[H.out];have s:=(s.hF i).alloc<|.cells (V_ e.1) 38;have E:=(E.hF i).alloc<|.cells (V_ e.1) 38;have D:=(D.hF i).alloc<|.cells (V_ e.1) 38;have F:=(F.trans i).alloc<|.cells (V_ e.1) 38)));exact Mk
 exact Ka
def s2(E:α->List Value)(f:∀j,(E j).length=3){w:World}{e:TypeId}{l:List α}(p:k<l.length)(r:α){c d P:Value}(t:E r=[c,d,P])(o:Bk w g e cur)(h:∀(i:Nat) (u:Value),(l.flatMap E)[i]?=some u->cur[i]?=some u){n:Nat}(s:l.length=n):
 Sl (((w.setCell (Z g<|k*3) c).setCell (Z g<|k*3+1) d).setCell (Z g<|k*3+2) P) e 3 (j_ g) n ((l.set k r).flatMap E):=by
 subst s;have m:=(((o.hW (k*3) c).hW (k*3+1) d).hW (k*3+2) P);have iS:=kA E 3 f l;have v:k*3+2<cur.size:=by
  have q:k*3+2<(l.flatMap E).length:=X;have:=h _ _<|O_ q;rcases GU (k*3+2) cur.size with h|h
  exact h;exact NR
 refine⟨by rw[kA E 3 f];simp,λ_=>⟨g,0,_,_,rfl,m,λb u a=>?_⟩⟩;rw[U_];refine q8 E 3 f X l k p r cur h (λb u a=>?_) (λi y=>?_) b u a
 .rw[t]at a
  match b,a with
  |0,a=>simp only[Hz,Option.some.injEq]at a;subst a;rw[Q_,K_ X];rw[Q_,K_ X];rw[Q_,L_ X,L_<|by first|omega|(simp;omega)]
  |1,a=>simp only[H2,Hz,Option.some.injEq]at a;subst a;rw[Q_,K_ X];rw[Q_,L_ X,L_<|by first|omega|(simp;omega)]
  |2,a=>simp only[H2,Hz,Option.some.injEq]at a;subst a;rw[Q_,L_ X,L_<|by first|omega|(simp;omega)]
  |b+3,a=>simp at a
 rw[Q_,K_ X];rw[Q_,K_ X];rw[Q_,K_ X]
def CZ(E:α->List Value)(j:∀m,(E m).length=4){w:World}{e:TypeId}{l:List α}(q:k<l.length)(r:α){c f P d:Value}(v:E r=[c,f,P,d])(p:Bk w g e cur)(h:∀(i:Nat) (u:Value),(l.flatMap E)[i]?=some u->cur[i]?=some u){n:Nat}(t:l.length=n):
 Sl ((((w.setCell (Z g<|k*4) c).setCell (Z g<|k*4+1) f).setCell (Z g<|k*4+2) P).setCell (Z g<|k*4+3) d) e 4 (j_ g) n ((l.set k r).flatMap E):=by
 subst t;have o:=((((p.hW (k*4) c).hW (k*4+1) f).hW (k*4+2) P).hW (k*4+3) d);have iS:=kA E 4 j l;have y:k*4+3<cur.size:=by
  have s:k*4+3<(l.flatMap E).length:=X;have:=h _ _<|O_ s;rcases GU (k*4+3) cur.size with h|h
  exact h;exact NR
 refine⟨by rw[kA E 4 j];simp,λ_=>⟨g,0,_,_,rfl,o,λb u a=>?_⟩⟩;rw[U_];refine q8 E 4 j X l k q r cur h (λb u a=>?_) (λi z=>?_) b u a
 .rw[v]at a
  match b,a with
  |0,a=>simp only[Hz,Option.some.injEq]at a;subst a;rw[Q_,K_ X];rw[Q_,K_ X];rw[Q_,K_ X];rw[Q_,L_ X,L_<|by first|omega|(simp;omega)]
  |1,a=>simp only[H2,Hz,Option.some.injEq]at a;subst a;rw[Q_,K_ X];rw[Q_,K_ X];rw[Q_,L_ X,L_<|by first|omega|(simp;omega)]
  |2,a=>simp only[H2,Hz,Option.some.injEq]at a;subst a;rw[Q_,K_ X];rw[Q_,L_ X,L_<|by first|omega|(simp;omega)]
  |3,a=>simp only[H2,Hz,Option.some.injEq]at a;subst a;rw[Q_,L_ X,L_<|by first|omega|(simp;omega)]
  |b+4,a=>simp at a
 rw[Q_,K_ X];rw[Q_,K_ X];rw[Q_,K_ X];rw[Q_,K_ X]
def Sl.C9{E:α->List Value}{s:Nat}(f:∀c,(E c).length=s){w:World}{l:List α}(h:Sl w ty s (j_ g) l.length<|l.flatMap E)(j:k<l.length):
 ∀a u,(E l[k])[a]?=some u->w.cell? (Z g<|k*s+a)=some u:=by
 obtain⟨n,o,b,i⟩:=Sl.row f h j;injection b with b;injection b with d e;subst d;subst e;intro a u m;have:=i a u m;rwa [U_]at this
def sU(P:QV)(w:World)(e:Ending)(w':World):Prop:=∃(A:OA) (d:Nat),e=.returned (.slice A P.length d)/\Cs w' A P/\P.length<=d/\J [] w w'
def sd(l:QV)(id f:Int): -1<=cat l id f/\cat l id f<l.length:=by
 have:=nI (λa:Cl=>a.id==id&&a.f==f) l 0;unfold cat;exact NW
def Cv(A:OA)(d:Nat)(l:QV)(id f:Int)(n:Nat)(w:World)(h:Cs w A l)(a:Hid<|l.length=n)(c:n<=1000000000):
 Calls prog 129 #[.slice A n d,Y id,Y f] w λe w'=>e=.returned (Y<|cat l id f)/\J [] w w':=by
 have b:=a.out;subst b;exact lX A d l id f w h c
def Ab(A:OA)(d:Nat)(l:QV)(c:Cl)(x:Nat)(w:World)(h:Cs w A l)(z:l.length<=1000000000)(L:cat l c.id c.f=x):
 Calls prog 98 #[.slice A l.length d,.agg #[Y c.id,Y c.f,.bool c.v.r,Y c.v.n]] w (sU (kc l c) w):=by
 obtain⟨M,K,H,P,Q⟩:=info_parts infoCl;have D:=(G_ [] w).alloc<|.cells #[Y c.id,Y c.f,.bool c.v.r,Y c.v.n] 116;have a:=T_ w 116 #[Y c.id,Y c.f,.bool c.v.r,Y c.v.n];have r:=Sl.alloc h<|.cells #[Y c.id,Y c.f,.bool c.v.r,Y c.v.n] 116;have v:x<l.length:=ov<|sd l c.id c.f;have E:=O (show kc l c=l.set x c by unfold kc;rw[L,L_ X,Hh]);have y:=v;have J:=O L;clear L;have o:=O (show(l.set x c).length=l.length by simp);obtain⟨p,n⟩:=mn_ l.length;rw[n]at v z r |-;have m:=O n;clear n;have bY:(x:Int)<(p:Int):=X
 go_enter func98,ntmps98;go_wp2_with (at_builtin;refine iQ _ rfl (.const<|n_) (.tmp 7) 50 rfl (w.heap.size+1) 116 M _ 4 32 underlying50 K H P Q rfl I I none 0 0 [] rfl (i4 _ _ _ _) A p d _ rfl r (qa _) X s_ ?_;intro U s B j t;simp only[U_,G0]at j;have a:=t.uo a X;have N:=t.gr [] w X D;have R:=a.f_ 0;have F:=a.f_ 1);obtain⟨g,cur,C,bg,b,S⟩:=kN j X;subst C;have u:Cs B (j_ g) l:=by unfold Cs;rw[m.out];exact Sl.iZ j
 go_wp2_with (go_at_call 129;((with_reducible refine(Cv (j_ g) s l c.id c.f p B u m z).mono ?_);rintro ad i⟨rfl,f⟩;rw[J.out];have a:=a.hF f;have b:=b.hF f;have R:=a.f_ 0;have F:=a.f_ 1;have V:=a.f_ 2;have W:=a.f_ 3;have e:=Sl.C9 sa (u.hF f) y;have k0:i.cell? (Z g<|x*4)=some _:=e 0 _ rfl;have bo:i.cell? (Z g<|x*4+1)=some _:=e 1 _ rfl;have T:i.cell? (Z g<|x*4+2)=some _:=e 2 _ rfl;have k3:i.cell? (Z g<|x*4+3)=some _:=e 3 _ rfl;clear e;have bE:=b.hG<|x*4;have bz:=b.hG<|x*4+1;have bX:=b.hG<|x*4+2;have dt:=b.hG<|x*4+3));go_ret;unfold sU;rw[E.out];refine⟨some<|Z g 0,s,oJ (by rw[o.out,m.out]),?_,by rw[o.out,m.out];exact jq j,?_⟩;exact CZ Cl.E sa y c rfl b S o.out.symm;exact((((N.trans f).setCell (.inr p_) _).setCell (.inr p_) _).setCell (.inr p_) _).setCell (.inr p_) _
def DD(l:QV)(id f:Int):qS l id f<=l.length:=pY _ _
def BN(A:OA)(d:Nat)(l:QV)(c:Cl)(w:World)(h:Cs w A l)(hn:l.length<=1000000000)(L:cat l c.id c.f<0):
 Calls prog 98 #[.slice A l.length d,.agg #[Y c.id,Y c.f,.bool c.v.r,Y c.v.n]] w (sU (kc l c) w):=by
 obtain⟨Q,P,N,R,S⟩:=info_parts infoCl;have W:=(G_ [] w).alloc<|.cells #[Y c.id,Y c.f,.bool c.v.r,Y c.v.n] 116;have a:=T_ w 116 #[Y c.id,Y c.f,.bool c.v.r,Y c.v.n];have v:=Sl.alloc h<|.cells #[Y c.id,Y c.f,.bool c.v.r,Y c.v.n] 116;have aQ:=O (show kc l c=l.take (qS l c.id c.f)++([c]++l.drop (qS l c.id c.f)) by unfold kc;rw[K_ X]);have bH:=O (show cat l c.id c.f= -1 by have:=sd l c.id c.f;omega);clear L;have bY:=O (show qS l c.id c.f=0+mE (oS c.id c.f) (l.drop 0) by simp[qS]);have bX:=O (show ∀k,k=qS l c.id c.f->(l.take k++([c]++l.drop k)).length=k+(1+(l.length-k)) from λk hk=>by have:=DD l c.id c.f;simp;omega);obtain⟨e,y⟩:=mn_ l.length;rw[y]at hn v |-;have i:=O y;clear y
 go_enter func98,ntmps98;go_wp2_with (at_builtin;refine iQ _ rfl (.const<|n_) (.tmp 7) 50 rfl (w.heap.size+1) 116 Q _ 4 32 underlying50 P N R S rfl I I none 0 0 [] rfl (i4 _ _ _ _) A e d _ rfl v (qa _) X s_ ?_;intro aw C w2 t D;simp only[U_,G0]at t;have a:=D.uo a X;have bT:=D.gr [] w X W;have T:=a.f_ 0;have E:=a.f_ 1;have H:=a.f_ 2;have M:=a.f_ 3);have j:Cs w2 aw l:=by unfold Cs;rw[i.out];exact Sl.iZ t
 have bZ:=jq t
 go_upto_block 0 with(go_at_call 129;((with_reducible refine(Cv aw C l c.id c.f e w2 j i hn).mono ?_);rintro aj ae⟨rfl,r⟩;rw[bH.out];have a:=a.hF r;have T:=a.f_ 0;have E:=a.f_ 1;have H:=a.f_ 2;have M:=a.f_ 3))
 have j:=j.hF r;have V:=bT.trans r;clear t D v W r bT;go_cut [6] (λn aX=>∃k:Nat,n=Y k/\k<=e/\k=qS l c.id c.f/\J [] ae aX)
 case first=>
  go_wp2_with fail;go_loopw [6] (λn w'=>∃k:Nat,n=Y k/\k<=e/\qS l c.id c.f=k+mE (oS c.id c.f) (l.drop k)/\J [] ae w') (λn _=>e-(intOf n).toNat)
  case atStart=>exact⟨0,rfl,R_ _,bY.out,G_ _ _⟩
  obtain⟨k,rfl,hk,o,F⟩:=hrel;have K:=O o;clear o;have b:=a.hF F;have aV:=b.f_ 0;have au:=b.f_ 1;have bw:=b.f_ 2;have bN:=b.f_ 3;clear b T E H M;by_cases z:k<e;have m:k<l.length:=by rw[i.out];exact z
  have av:(k:Int)<(e:Int):=X;obtain⟨ak,off,cW,af,aN,ck,cn⟩:=(j.hF F).at_ m;subst cW;by_cases t0:l[k].id<c.id;have ao:=O (oO (p:=oS c.id c.f) m<|by simp[oS,t0]);have U:decide (l[k].id<c.id)=true:=zu t0;exact Lp;have U:decide (l[k].id<c.id)=false:=zu t0;by_cases t1:l[k].id=c.id;have u:(l[k].id==c.id)=true:=zu t1;by_cases ad:l[k].f<c.f;have ao:=O (oO (p:=oS c.id c.f) m<|by simp[oS,t1,ad]);have B:decide (l[k].f<c.f)=true:=zu ad;exact Le;have ao:=O (nU (p:=oS c.id c.f) m<|by simp[oS,t1,ad]);have B:decide (l[k].f<c.f)=false:=zu ad;exact LQ;have ao:=O (nU (p:=oS c.id c.f) m<|by simp[oS,t0,t1]);have u:(l[k].id==c.id)=false:=zu t1;exact LT;have ao:=O (r0 (p:=oS c.id c.f) (l:=l) (k:=k)<|by rw[i.out];omega);have av:¬(k:Int)<(e:Int):=X;exact L9
 obtain⟨k,rfl,hk,NZ,F⟩:=hcut;have aR:=O NZ;clear NZ T E H M;have b:=a.hF F;have aV:=b.f_ 0;have au:=b.f_ 1;have bw:=b.f_ 2;have bN:=b.f_ 3;have aT:(0:Int)<=(k:Int):=X;have aC:(k:Int)<=(e:Int):=X;have av:(k:Int)<=(C:Int):=X;have z:=j.hF F;have aS:=(Sl.y2 sa z (show k<=l.length by rw[i.out];exact hk)).hF ((G_ [] wc).alloc<|.cells #[Y c.id,Y c.f,.bool c.v.r,Y c.v.n] 116).drew;have aK:=(Sl.zl sa z (show k<=l.length by rw[i.out];exact hk) C<|by rw[i.out];exact bZ).hF ((G_ [] wc).alloc<|.cells #[Y c.id,Y c.f,.bool c.v.r,Y c.v.n] 116).drew;have aE:=O (show ∀U∈(#[Y c.id,Y c.f,.bool c.v.r,Y c.v.n]:Array Value).toList++(l.drop k).flatMap Cl.E,U.oneCell'=true from λU hu=>qa (c::l.drop k) U hu);rw[i.out]at aK;have bR:=k2 (s:=4) (T_ wc.drew 116 #[Y c.id,Y c.f,.bool c.v.r,Y c.v.n]) rfl;have b7:=V.trans F;have g:=b.drew;clear a b j F V z;go_wp2_with fail;go_region_held3 (λw'=>w'.cell? (Z w.heap.size 0)=some (Y c.id)/\w'.cell? (Z w.heap.size 1)=some (Y c.f)/\w'.cell? (Z w.heap.size 2)=some (.bool c.v.r)/\w'.cell? (Z w.heap.size 3)=some (Y c.v.n)) (first|exact dI|exact dO|go_keep)
  (first
    |(refine mL _ r_ (.tmp 63) (.tmp 66) 50 r_ 116 Q _ 4 32 underlying50 P N R S rfl I I _ 1 _ r_ bR _ (e-k) _ _ r_ aK (qa _) X ?_;intro u c5 o bg bL B;have m:=(g.alloc<|.cells #[Y c.id,Y c.f,.bool c.v.r,Y c.v.n] 116).hF B;have dI:o.cell? (Z w.heap.size 0)=some (Y c.id)/\o.cell? (Z w.heap.size 1)=some (Y c.f)/\o.cell? (Z w.heap.size 2)=some (.bool c.v.r)/\o.cell? (Z w.heap.size 3)=some (Y c.v.n):=⟨m.f_ 0,m.f_ 1,m.f_ 2,m.f_ 3⟩)
    |(refine mL _ r_ (.tmp 61) (.tmp 67) 50 r_ 116 Q _ 4 32 underlying50 P N R S rfl I I _ k _ r_ (aS.hF B) _ (1+(e-k)) _ _ r_ bL aE.out X ?_;intro aL aI o bW bU aD;have u:=m.hF aD;have dO:o.cell? (Z w.heap.size 0)=some (Y c.id)/\o.cell? (Z w.heap.size 1)=some (Y c.f)/\o.cell? (Z w.heap.size 2)=some (.bool c.v.r)/\o.cell? (Z w.heap.size 3)=some (Y c.v.n):=⟨u.f_ 0,u.f_ 1,u.f_ 2,u.f_ 3⟩))
 go_wp2;all_goals
  go_ret;unfold sU;have iS:=bX.out k aR.out;rw[i.out]at iS;rw[aQ.out,<-aR.out];refine⟨aL,aI,oJ iS.symm,?_,by rw[iS];exact bW,(((b7.alloc _).drew).trans B).trans aD⟩;unfold Cs;rw[iS,He,He,II];exact bU
def rX(A:OA)(d:Nat)(l:QV)(c:Cl){w:World}(h:Cs w A l)(a:l.length<=1000000000):
 Calls prog 98 #[.slice A l.length d,.agg #[Y c.id,Y c.f,.bool c.v.r,Y c.v.n]] w (sU (kc l c) w):=by
 by_cases b:cat l c.id c.f<0;exact BN A d l c w h a b;exact Ab A d l c (cat l c.id c.f).toNat w h a (HQ X).symm
def zB(A:OA)(c:Nat)(l:QT){a:OA}(d:Nat)(cs:QV)(n:Nat){w:World}(h:mh w A c l)(i:l.length<=1000000000)(hc:Cs w a cs)(f:Hid<|cs.length=n)(b:n<=1000000000):
 Calls prog 125 #[.agg #[.slice A l.length c],.slice a n d] w (lO (iL (hY l) cs) w):=by
 have e:=f.out;subst e;exact n9 A c l a d cs w h i hc b
def Ez{w:World}(x:Cl):Cs (w.alloc<|.cells #[Y x.id,Y x.f,.bool x.v.r,Y x.v.n] 116) (j_ w.heap.size) [x]:=k2 (s:=4) (T_ w 116 #[Y x.id,Y x.f,.bool x.v.r,Y x.v.n]) rfl
def zo(rs:QV)(a:QV)(h:QQ):(a.foldl (j0 rs) h).length=h.length:=by
 induction a generalizing h with
 |nil=>rfl
 |cons g c b=>
  rw[H7,b];unfold j0;split;exact j1 _ _;rfl
def mT(t:iP)(h:QQ):(before t h).length=h.length:=by unfold before;rw[j1,zo]
def pl(t:Tk)(A:OA)(c:Nat)(l:QT){w:World}(u:kV w t)(h:mh w A c l)(hn:l.length<=1000000000)(df:t.gs.l.length<=1000000000)(V:t.rs.l.length<=1000000000):
 Calls prog 122 #[.agg t.g_,.agg #[.slice A l.length c]] w (lO (before t.p<|hY l) w):=by
 obtain⟨b,S,e,a,v⟩:=DX w 53 t.g_ 35 #[.slice A l.length c] 35 #[n_] 35 #[.slice A l.length c];have f:=h.hF v;have P:((((w.alloc<|.cells t.g_ 53).alloc<|.cells #[.slice A l.length c] 35).alloc<|.cells #[n_] 35).alloc<|.cells #[.slice A l.length c] 35).cell? (Z w.heap.size 36)=some (.slice t.gs.A t.gs.l.length t.gs.c):=(b.f_ 36).trans rfl;have U:=O (show before t.p (hY l)=iL (t.gs.l.foldl (j0 t.rs.l)<|hY l) t.rs.l from rfl);have ad:=O<|ib l;go_enter func122,ntmps122;go_wp2_with fail;clear S;go_loopw [12] (λC wr=>∃(k:Nat) (n:OA) (o:Nat) (rs:QT),k<=t.gs.l.length/\C=Y k/\Bk wr w.heap.size 53 t.g_/\Bk wr (w.heap.size+1+1) 35 #[n_]/\Bk wr (w.heap.size+1+1+1) 35 #[.slice n rs.length o]/\mh wr n o rs/\hY rs=(t.gs.l.take k).foldl (j0 t.rs.l) (hY l)/\J [] w wr) (λC _=>t.gs.l.length-(intOf C).toNat)
 case atStart=>exact⟨0,A,c,l,R_ _,rfl,b,e,a,f,rfl,v⟩
 clear b e a f v P;obtain⟨k,n,o,rs,hk,rfl,b,e,a,f,z,d⟩:=hrel;have N:=O z;have M:rs.length<=1000000000:=by
  have:=ib rs;rw[z,zo,ad.out]at this;omega
 clear z;by_cases ag:k<t.gs.l.length
 .have F:=ag;obtain⟨ai,off,W,bt,bA,bW,bL⟩:=(u.gs.hF d).at_ F;rw[W];have K:=O (show(t.gs.l.take<|k+1).foldl (j0 t.rs.l) (hY l)=j0 t.rs.l (hY rs) t.gs.l[k] by rw[N.out,Y_ F,Ig];rfl);generalize t.gs.l[k]=x at*;have T:(k:Int)<(t.gs.l.length:Int):=X;have bg:(wr.alloc<|.cells #[Y x.id,Y x.f,.bool x.v.r,Y x.v.n] 116).cell? (Z w.heap.size 37)=some (.slice t.rs.A t.rs.l.length t.rs.c):=((b.alloc _).f_ 37).trans rfl;have j:=T_ wr 116 #[Y x.id,Y x.f,.bool x.v.r,Y x.v.n];replace b:=b.alloc<|.cells #[Y x.id,Y x.f,.bool x.v.r,Y x.v.n] 116;replace e:=e.alloc<|.cells #[Y x.id,Y x.f,.bool x.v.r,Y x.v.n] 116;replace a:=a.alloc<|.cells #[Y x.id,Y x.f,.bool x.v.r,Y x.v.n] 116;replace f:=f.alloc<|.cells #[Y x.id,Y x.f,.bool x.v.r,Y x.v.n] 116;replace d:=d.alloc<|.cells #[Y x.id,Y x.f,.bool x.v.r,Y x.v.n] 116;have R:=j.f_ 0;have af:=j.f_ 1;by_cases L:cat t.rs.l x.id x.f<0
  .have y:=O (show j0 t.rs.l (hY rs) x=iL (hY rs) [x] by unfold j0;rw[L_ L]);go_wp2_with (first|(go_at_call 129;((with_reducible refine(lX t.rs.A t.rs.c t.rs.l x.id x.f _ (u.hF d).rs V).mono ?_);rintro B ae⟨rfl,i⟩;replace b:=b.hF i;replace e:=e.hF i;replace a:=a.hF i;replace j:=j.hF i;replace f:=f.hF i;replace d:=d.trans i;replace H:=a.f_ 0;replace R:=j.f_ 0;replace af:=j.f_ 1;replace ay:=j.f_ 2;replace aS:=j.f_ 3))|(go_at_call 125;((with_reducible refine(zB n o rs 1 [x] 1 (f.alloc _) M (Ez x) (O rfl) X).mono ?_);unfold lO;rintro B Q⟨q,r,p,rfl,E,s,m⟩;have D:=O s;clear s;replace d:=(d.alloc<|.cells #[Y x.id,Y x.f,.bool x.v.r,Y x.v.n] 116).trans m;replace b:=(b.alloc<|.cells #[Y x.id,Y x.f,.bool x.v.r,Y x.v.n] 116).hF m;replace e:=(e.alloc<|.cells #[Y x.id,Y x.f,.bool x.v.r,Y x.v.n] 116).hF m;replace a:=(a.alloc<|.cells #[Y x.id,Y x.f,.bool x.v.r,Y x.v.n] 116).hF m;replace H:=a.f_ 0;have bE:=a.hG 0)));go_roundw;exact⟨k+1,q,r,p,X,gn,b.ir sd_ _,e.ir sd_ _,a.hW 0 _,E.iy a I I<|(G_ _ _).setCell (.inl s_) _,by rw[K.out,y.out,D.out],d.setCell (.inr p_) _⟩;exact mz
  have y:=O (show j0 t.rs.l (hY rs) x=hY rs by unfold j0;rw[K_ L]);go_wp2_with (go_at_call 129;((with_reducible refine(lX t.rs.A t.rs.c t.rs.l x.id x.f _ (u.hF d).rs V).mono ?_);rintro B ae⟨rfl,i⟩;replace b:=b.hF i;replace e:=e.hF i;replace a:=a.hF i;replace f:=f.hF i;replace d:=d.trans i));go_roundw;exact⟨k+1,n,o,rs,X,gn,b,e,a,f,by rw[K.out,y.out],d⟩;exact mz
 have j:=O (show k=t.gs.l.length by omega);have T:¬(k:Int)<(t.gs.l.length:Int):=X;have H:=a.f_ 0;have bg:wr.cell? (Z w.heap.size 37)=some (.slice t.rs.A t.rs.l.length t.rs.c):=(b.f_ 37).trans rfl;go_wp2_with (go_at_call 125;((with_reducible refine(n9 n o rs t.rs.A t.rs.c t.rs.l _ f M (u.hF d).rs V).mono ?_);unfold lO;rintro B Q⟨q,r,p,rfl,E,s,m⟩;have D:=O s;clear s;have i:=e.hF m;have K:=i.hG 0;have F:=i.f_ 0));have y:=i.hW 0<|.slice q p.length r;refine rr_ #[.slice q p.length r] y underlying35 ⟨q,r,p,rfl,?_,?_,?_⟩;exact E.iy i I I<|(G_ _ _).setCell (.inl s_) _;rw[D.out,N.out,U.out,j.out,HU];exact(d.trans m).setCell (.inr p_) _
def i7{α:Type}(p:α->Bool)(l:List α):Bool:=l.any p
def pm{p:α->Bool}{l:List α}(a:k<l.length)(b:p l[k]=true):i7 p (l.drop k)=true:=by
 unfold i7;rw[W_ a];simp only[I2,b,Ja]
def oU{p:α->Bool}{l:List α}(a:k<l.length)(b:p l[k]=false):i7 p (l.drop k)=i7 p (l.drop<|k+1):=by
 unfold i7;rw[W_ a];simp only[I2,b,IG]
def rD{p:α->Bool}{l:List α}(a:l.length<=k):i7 p (l.drop k)=false:=by
 unfold i7;rw[Hd a];rfl
def Ns(w:World)(ty:TypeId)(A:OA)(l:QS):Prop:=Sl w ty 1 A l.length<|l.map<|Value.int .i64
def Ns.hF{w w':World}{A:OA}{l:QS}(h:Ns w ty A l)(a:J [] w w'):Ns w' ty A l:=Sl.hF h a
def Ns.at_{w:World}{A:OA}{l:QS}(h:Ns w ty A l)(d:k<l.length):∃b c,A=some (Z b c)/\w.cell? (Z b<|c+k)=some (Y l[k]):=by
 obtain⟨b,c,j,f,a,i⟩:=Sl.at_ h d;have e:(l.map<|Value.int .i64)[k]?=some (Y l[k]):=by simp[O_ d]
 rw[e]at a;injection a with a;subst a;exact⟨b,c,f,i⟩
def pn(A:OA)(c:Nat)(l:QS)(s:Int){w:World}(h:Ns w 3 A l)(B:l.length<=1000000000):
 Calls prog 82 #[.agg #[.slice A l.length c],Y s] w λe w'=>e=.returned (.bool<|i7 (λx=>x==s) l)/\J [] w w':=by
 have m:=O (show i7 (λx=>x==s) l=i7 (λx=>x==s) (l.drop 0) from rfl);have o:=T_ w 32 #[.slice A l.length c];have r:=o.f_ 0;generalize y:l.length=j at*
 go_enter func82,ntmps82;go_wp2;go_loopw [10] (λi w'=>∃k:Nat,k<=j/\i=Y k/\i7 (λx=>x==s) l=i7 (λx=>x==s) (l.drop k)/\J [] w w') (λi _=>j-(intOf i).toNat)
 case atStart=>exact⟨0,R_ _,rfl,m.out,(G_ _ _).alloc _⟩
 obtain⟨k,z,rfl,G,d⟩:=hrel;have HI:=O G;clear G;by_cases t:k<j
 .have f:k<l.length:=X;obtain⟨u,C,rfl,v⟩:=(h.hF d).at_ f;by_cases a:l[k]=s
  .have b:=O<|pm (p:=λx=>x==s) f<|zu a;have n:(l[k]==s)=true:=zu a;clear a;go_wp2;go_ret;exact⟨iJ (by rw[HI.out,b.out]),d⟩
  have b:=O<|oU (p:=λx=>x==s) f<|zu a;have n:(l[k]==s)=false:=zu a;clear a;go_wp2;go_roundw;exact⟨k+1,X,gn,by rw[HI.out,b.out],d⟩;exact mz
 have b:=O<|rD (p:=λx=>x==s) (l:=l) (k:=k) X;go_wp2;go_ret;exact⟨iJ (by rw[HI.out,b.out]),d⟩
def jD(l:QS)(n:Int):Int:=if 0<=n/\n<(l.length:Int) then l.getD n.toNat 0 else 0
def yQ(A:OA)(c:Nat)(l:QS)(n:Int){w:World}(h:Ns w 2 A l)(q:l.length<=1000000000):
 Calls prog 94 #[.agg #[.slice A l.length c],Y n] w λe w'=>e=.returned (Y<|jD l n)/\J [] w w':=by
 have i:=T_ w 29 #[.slice A l.length c];have N2:=(G_ [] w).alloc<|.cells #[.slice A l.length c] 29;have m:=i.f_ 0;by_cases a:0<=n;by_cases f:n<(l.length:Int)
 .have b:n.toNat<l.length:=X;obtain⟨k,d⟩:∃k:Nat,n=k:=⟨n.toNat,(HQ a).symm⟩;have HA:=O (show jD l n=l[n.toNat] by unfold jD;rw[L_ ⟨a,f⟩];simp[List.getD,O_ b]);obtain⟨o,r,rfl,p⟩:=(h.hF N2).at_ b;have j:¬(l.length:Int)<=n:=X;clear d;exact Ni
 exact LN;exact LN
def lG(l:QD)(x:Int):Nat:=mE (λf:Fo=>decide (f.fr<x)) l
def pz(l:QD)(x:Int):Bool:=decide (lG l x<l.length)&&((l.getD (lG l x) default).fr==x)
def Dz{l:QD}(a:k<l.length)(h:lG l x=k):pz l x=(l[k].fr==x):=by
 unfold pz;rw[h];simp[a,List.getD]
def Dx{l:QD}:lG l x<=l.length:=pY _ _
def rC(A:OA)(c:Nat)(l:QD)(x:Int){w:World}(h:Fs w A l)(I:l.length<=1000000000):
 Calls prog 99 #[.agg #[.slice A l.length c],Y x] w λe w'=>e=.returned (.tuple #[Y<|lG l x,.bool<|pz l x])/\J [] w w':=by
 have y:=O (show lG l x=0+mE (λa:Fo=>decide (a.fr<x)) (l.drop 0) by simp[lG]);have b:=T_ w 96 #[.slice A l.length c];have s:=b.f_ 0;go_enter func99,ntmps99;go_wp2;go_loopw [11] (λr w'=>∃k:Nat,k<=l.length/\r=Y k/\lG l x=k+mE (λa:Fo=>decide (a.fr<x)) (l.drop k)/\Bk w' w.heap.size 96 #[.slice A l.length c]/\J [] w w') (λr _=>l.length-(intOf r).toNat)
 case atStart=>exact⟨0,R_ _,rfl,y.out,b,(G_ _ _).alloc _⟩
 clear b s;obtain⟨k,H,rfl,G,b,i⟩:=hrel;have HI:=O G;clear G;by_cases v:k<l.length
 .have j:=v;have u:(k:Int)<(l.length:Int):=X;obtain⟨C,K,rfl,F,D,E⟩:=(h.hF i).at_ j;have t:=T_ wr 168 #[Y l[k].fr,Y l[k].dst,Y l[k].n];have B:=t.f_ 0;by_cases m:l[k].fr<x
  .have d:=O<|oO (p:=(λa:Fo=>decide (a.fr<x))) j<|zu m;have z:¬x<=l[k].fr:=X;clear m;go_wp2;go_roundw;exact⟨k+1,X,gn,by rw[HI.out,d.out];omega,b.alloc _,i.alloc _⟩;exact mz
  have d:=O<|nU (p:=(λa:Fo=>decide (a.fr<x))) j<|zu m;have f:=O (show lG l x=k by rw[HI.out,d.out];omega);have o:=O<|Dz j f.out;have z:x<=l[k].fr:=X;clear m;go_wp2_with fail;go_quiet (fail);go_wp2
  go_ret2
  exact⟨by rw[f.out,o.out];rfl,(i.alloc _).drewN _⟩
 have d:=O<|r0 (p:=(λa:Fo=>decide (a.fr<x))) (l:=l) (k:=k) X;have u:¬(k:Int)<(l.length:Int):=X;have f:=O (show lG l x=l.length by rw[HI.out,d.out];omega);have o:=O (show pz l x=false by unfold pz;rw[f.out];simp);have s:=b.f_ 0;go_wp2
 go_ret2
 exact⟨by rw[f.out,o.out];rfl,i⟩
def Aq(A:OA)(c:Nat)(l:QD)(x:Int){w:World}(h:Fs w A l)(j:l.length<=1000000000):
 Calls prog 101 #[.agg #[.slice A l.length c],Y x] w λe w'=>e=.returned (.tuple #[Y (if pz l x=true then(l.getD (lG l x) default).dst else 0),.bool<|pz l x])/\J [] w w':=by
 have i:=T_ w 96 #[.slice A l.length c];have b:=(G_ [] w).alloc<|.cells #[.slice A l.length c] 96;have p:=i.f_ 0;cases a:pz l x with
 |false=>
  have f:=O a;clear a;go_enter func101,ntmps101;go_wp2_with (go_at_call 99;((with_reducible refine(rC A c l x (h.hF b) j).mono ?_);rintro e m⟨rfl,d⟩;rw[f.out]))
  go_ret2
  exact⟨rfl,b.trans d⟩
 |true=>
  have n:=by
   unfold pz at a;simp at a;exact a.1
  have o:(lG l x:Int)<(l.length:Int):=X;have f:=O a;clear a;go_enter func101,ntmps101;go_wp2_with fail;go_at_call 99;refine(rC A c l x (h.hF b) j).mono ?_;rintro e m⟨rfl,d⟩;rw[f.out];have t:=(i.hF d).f_ 0;obtain⟨q,v,rfl,u,r,s⟩:=(h.hF<|b.trans d).at_ n;go_wp2
  go_ret2
  exact⟨by first|rfl|(rw[HD.out];rfl),b.trans d⟩
def ER(P:List Ac)(w:World)(e:Ending)(w':World):Prop:=∃(A:OA) (d:Nat),e=.returned (.slice A P.length d)/\As w' A P/\P.length<=d/\J [] w w'
def xJ(A:OA)(c:Nat)(l:List Ac)(a:OA)(d:Nat)(m:List Ac){w:World}(h:As w A l)(F:As w a m)(L:l.length<=1000000000)(K:m.length<=1000000000):
 Calls prog 93 #[.slice A l.length c,.slice a m.length d] w (ER (l++m) w):=by
 obtain⟨o,n,j,p,q⟩:=info_parts infoAc;have r:Sl w 162 3 A l.length (l.flatMap Ac.E):=h;have HM:Hid (∀w',J [] w w'->Sl w' 162 3 a m.length (m.flatMap Ac.E)):=O λw' E=>Sl.hF F E;have D:w.heap.size<=w.heap.size:=I_ _;go_enter func93,ntmps93;go_wp2_with (first
  |(at_builtin;refine iQ _ rfl (.const<|n_) (.tmp 5) 36 rfl w.heap.size 162 o _ 3 24 underlying36 n j p q rfl I I none 0 0 [] rfl (i4 _ _ _ _) A l.length c _ rfl r (ut) X D ?_;intro z v H f t;simp only[U_,G0]at f;have b:=t.gr [] w (I_ _)<|G_ [] w;have B:=b.size;have C:=HM.out H b)
  |(at_builtin;refine iQ _ rfl (.tmp 6) (.tmp 7) 36 rfl w.heap.size 162 o _ 3 24 underlying36 n j p q rfl I I z l.length v _ rfl f a m.length d _ rfl C (ut) X B ?_;intro y u H i t;have s:=t.gr [] w (I_ _) b))
 go_ret;unfold ER;have e:(l++m).length=l.length+m.length:=M_;refine⟨y,u,oJ e.symm,?_,by rw[e];exact jq i,s⟩;unfold As;rw[e,He];exact Sl.iZ i
end
variable{w w':World}{e:TypeId}{xs:QX}{M:QY}(base:Nat)(o:Int)
def wZ{base:Nat}{g:Nat}{A:OA}{n c:Nat}(h:w.ownsRow base e g (.slice A n c) n xs){b f:Nat}(d:A=some ⟨b,f,none⟩):base<=b:=by
 subst d;rcases h.2 with⟨a,k⟩|⟨j,m,i,a,l,_⟩
 cases a
 injection a with a;injection a with a;injection a with a _ _;omega
def infoI64:(prog.info? 2).map (λi=>(i.zero,i.size,i.bytes))=some (some<|Y 0,1,8):=by kernel_rfl
def zC(i g:Nat)(E:iV w i g)(hB:i<=w.heap.size):
 Calls prog 45 #[.pointer<|some ⟨g,0,none⟩] w λe w'=>∃(A:OA) (c:Nat) (l:QS),e=.returned (.agg #[.slice A l.length c])/\l.length<=5/\Ns w' 2 A l/\iV w' i g/\J [g] w w':=by
 obtain⟨bM,bK,bC,be,bu⟩:=info_parts infoI64;have aV:=E.yw;obtain⟨H,L,-⟩:=qU w 29 #[n_] 29 #[n_];have F:J [g] w ((w.alloc<|.cells #[n_] 29).alloc<|.cells #[n_] 29):=((G_ [g] w).alloc _).alloc _;have P:=E.hF<|((G_ [] w).alloc<|.cells #[n_] 29).alloc<|.cells #[n_] 29;go_enter func45,ntmps45;go_wp2_with fail;go_at_call 19;refine(iD i g 6 P X X).mono ?_;rintro e u⟨V,rfl,bF,bB,cX,n⟩;obtain⟨v,rfl⟩:∃ad:Nat,V=ad:=⟨V.toNat,X⟩;have bA:=H.gr n p_;have bW:=L.gr n p_;have bT:=F.trans n;have ak:w.heap.size+2<=u.heap.size:=by have:=n.size;simp at this;omega
 clear P H L F n E;generalize G:w.heap.size=k at*;have z:=O G;clear G;go_wp2;go_loopw [4] (λB w'=>∃(a:Nat) (d:OA) (h:Nat) (m:QS),a<=v/\B=Y ((v:Int)-a)/\m.length=a/\Bk w' k 29 #[n_]/\Bk w' (k+1) 29 #[.slice d a h]/\w'.ownsRow u.heap.size 2 1 (.slice d a h) a (m.map<|Value.int .i64)/\iV w' i g/\J [g] w w'/\u.heap.size<=w'.heap.size) (λB _=>(intOf B).toNat)
 case atStart=>exact⟨0,none,0,[],R_ _,gn,rfl,bA,bW,i4 _ _ _ _,cX,bT,I_ _⟩
 obtain⟨a,d,h,m,hj,rfl,K,q,C,W,D,Q,ae⟩:=hrel;have y:=O K;clear K;by_cases M:a<v
 .have aQ:=C.f_ 0;have af:=D.hF (G_ [] wr).drew;obtain⟨dB,ag⟩:=D.bk;go_wp2_with fail
  go_region_law (first|(refine pK rfl (.tmp 12) (.tmp 16) 27 rfl u.heap.size 2 bM 1 8 underlying27 bK bC be bu rfl I I d a h (m.map<|Value.int .i64) rfl ah _ 1 1 rfl ai (by intro al R;simp at R;subst R;rfl) X U ?_;intro Z N NY aj t;have x:=t.bk T I;have bz:=x.hG 0;have az:=x.f_ 0)|(go_simp;go_at_call 19;refine(iD i g 9 af X X).mono ?_;rintro e j⟨b,rfl,am,hv1,bS,aO⟩;have bO:IntKind.i64.wrap (b-3)=b-3:=G9 _ X;have r:=(G_ [g] wr).drew.trans aO;have S:=C.gr r p_;have an:=S.f_ 0;have T:=S.alloc<|.cells #[Y<|b-3] 2;have ao:=T.f_ 0;have ah:=iO (kX W ag I r)<|(G_ [] j).alloc<|.cells #[Y<|b-3] 2;have ai:Sl (j.alloc<|.cells #[Y<|b-3] 2) 2 1 (some ⟨j.heap.size,0,none⟩) 1 [Y<|b-3]:=k2 (s:=1) (T_ j 2 #[Y<|b-3]) rfl;have U:u.heap.size<=(j.alloc<|.cells #[Y<|b-3] 2).heap.size:=H_ ae (r.alloc _).size))
  all_goals
   go_wp2;go_roundw
   case rel=>
    have f:=(G_ [k+1] NY).setCell (p:=⟨k+1,0,none⟩) (.inl s_)<|.slice Z (a+1) N;have dC:=(bS.hF<|(G_ [] j).alloc<|.cells #[Y<|b-3] 2).app t X;have ap:=t.gr [g] w (by rw[z.out];omega)<|Q.trans<|r.alloc _;refine⟨a+1,Z,N,m++[b-3],X,gn,by rw[M_,y.out];rfl,(t.bk ((q.gr r p_).alloc _) I).gr f s_,x.hW 0 _,?_,?_,?_,?_⟩;rw[GN];exact kX aj x I f;exact dC.ir f p_;exact ap.setCell (.inr<|by rw[z.out];simp) _;have h1:=H_ U t.size;have h2:=f.size;omega
   case measure=>exact mz
 have b:a=v:=X;subst b;have o:=C.f_ 0;have r:=q.hG 0;have bF:=q.f_ 0;go_wp2;have j:=q.hW 0<|.slice d a h;have f:=(G_ [k] wr).setCell (p:=⟨k,0,none⟩) (.inl s_)<|.slice d a h;refine Ha (Ia rfl _ _ _ _ _ _ _ rfl j underlying29 rfl k_) rfl ⟨d,h,m,by rw[y.out];rfl,by rw[y.out];omega,?_,D.ir f p_,?_⟩
 .unfold Ns;rw[y.out];exact Sl.iy (Sl.iZ W) q I f
 exact Q.setCell (.inr<|by rw[z.out];simp) _
inductive ET where
 |mk (h7 n:Int) (name:ByteArray) (op:Int) (A:OA) (c:Nat) (l:List ET)
abbrev QF:=List ET
def ET.h7:ET->Int| .mk k _ _ _ _ _ _=>k
def ET.n:ET->Int| .mk _ n _ _ _ _ _=>n
def ET.name:ET->ByteArray| .mk _ _ s _ _ _ _=>s
def ET.op:ET->Int| .mk _ _ _ o _ _ _=>o
def ET.A:ET->Option Addr| .mk _ _ _ _ A _ _=>A
def ET.c:ET->Nat| .mk _ _ _ _ _ c _=>c
def ET.l:ET->List ET| .mk _ _ _ _ _ _ l=>l
def ET.g_(t:ET):Array Value:=#[Y t.h7,Y t.n,.string t.name,Y t.op,.slice t.A t.l.length t.c]
def ET.E(t:ET):List Value:=[Y t.h7,Y t.n,.string t.name,Y t.op,.slice t.A t.l.length t.c]
abbrev jK(b x:Nat):Prop:=b<=x
def Sl.sH{c:Nat}{A:OA}{n:Nat}(h:Sl w e c A n xs)(d:0<n->∀b f,A=some (Z b f)->b<w.heap.size->w'.heap[b]?=w.heap[b]?):Sl w' e c A n xs:=by
 rcases Hr n with a|a
 exact⟨h.1,λg=>by omega⟩;exact h.iF<|d a
def Sl.lt{i:Nat}{x g n:Nat}(h:Sl w e i (some<|Z x g) n xs)(f:0<n):x<w.heap.size:=by
 obtain⟨j,o,k,l,a,b,_⟩:=h.2 f;injection a with a;injection a with a;subst a;rcases GU x w.heap.size with c|d
 exact c;rw[GH d]at b;cases b
inductive kB(p:Nat->Prop)(w:World):ET->Prop
 |mk (t:ET) (h:Sl w 226 5 t.A t.l.length<|t.l.flatMap ET.E) (hc:t.l.length<=t.c) (hb:∀x off,t.A=some (Z x off)->0<t.l.length->p x) (hl:∀u∈t.l,kB p w u):kB p w t
def kB.hF{p:Nat->Prop}{t:ET}(h:kB p w t)(d:J [] w w'):kB p w' t:=by
 induction h with
 |mk t h c b _ a=>exact .mk t (h.hF d) c b a
def kB.ir{p:Nat->Prop}{t:ET}(h:kB p w t)(f:J M w w')(z:∀x∈M,¬p x):kB p w' t:=by
 induction h with
 |mk t h d a _ b=>exact .mk t (h.sH λi x k c j=>f.block x j λg=>z x g<|a x k c i) d a b
def kB.imp{p q:Nat->Prop}{t:ET}(h:kB p w t)(b:∀x,p x->q x):kB q w t:=by
 induction h with
 |mk t h f d _ a=>exact .mk t h f (λx i c g=>b x<|d x i c g) a
def kB.lt{p:Nat->Prop}{t:ET}(h:kB p w t):kB (λx=>p x/\x<w.heap.size) w t:=by
 induction h with
 |mk t h f d _ c=>exact .mk t h f (λx g a b=>⟨d x g a b,(by rw[a]at h;exact h.lt b)⟩) c
def kB.le{b c:Nat}{t:ET}(h:kB (jK c) w t)(a:b<=c):kB (jK b) w t:=h.imp λ_ d=>H_ a d
inductive ST where
 |mk (h7:Int) (name fn:ByteArray) (n op:Int) (AE:OA) (cE:Nat) (es:QF) (AB:OA) (cB:Nat) (bs:List ST) (AL:OA) (cL:Nat) (ls:List ST)
abbrev QW:=List ST
def ST.h7:ST->Int| .mk k _ _ _ _ _ _ _ _ _ _ _ _ _=>k
def ST.name:ST->ByteArray| .mk _ s _ _ _ _ _ _ _ _ _ _ _ _=>s
def ST.fn:ST->ByteArray| .mk _ _ s _ _ _ _ _ _ _ _ _ _ _=>s
def ST.n:ST->Int| .mk _ _ _ n _ _ _ _ _ _ _ _ _ _=>n
def ST.op:ST->Int| .mk _ _ _ _ o _ _ _ _ _ _ _ _ _=>o
def ST.AE:ST->Option Addr| .mk _ _ _ _ _ A _ _ _ _ _ _ _ _=>A
def ST.cE:ST->Nat| .mk _ _ _ _ _ _ c _ _ _ _ _ _ _=>c
def ST.es:ST->List ET| .mk _ _ _ _ _ _ _ l _ _ _ _ _ _=>l
def ST.AB:ST->Option Addr| .mk _ _ _ _ _ _ _ _ A _ _ _ _ _=>A
def ST.cB:ST->Nat| .mk _ _ _ _ _ _ _ _ _ c _ _ _ _=>c
def ST.bs:ST->List ST| .mk _ _ _ _ _ _ _ _ _ _ l _ _ _=>l
def ST.AL:ST->Option Addr| .mk _ _ _ _ _ _ _ _ _ _ _ A _ _=>A
def ST.cL:ST->Nat| .mk _ _ _ _ _ _ _ _ _ _ _ _ c _=>c
def ST.ls:ST->List ST| .mk _ _ _ _ _ _ _ _ _ _ _ _ _ l=>l
def ST.E(t:ST):List Value:=[Y t.h7,.string t.name,.string t.fn,Y t.n,Y t.op,.slice t.AE t.es.length t.cE,.slice t.AB t.bs.length t.cB,.slice t.AL t.ls.length t.cL]
def ST.g_(t:ST):Array Value:=#[Y t.h7,.string t.name,.string t.fn,Y t.n,Y t.op,.slice t.AE t.es.length t.cE,.slice t.AB t.bs.length t.cB,.slice t.AL t.ls.length t.cL]
inductive jR(p:Nat->Prop)(w:World):ST->Prop
 |mk (t:ST) (he:Sl w 226 5 t.AE t.es.length<|t.es.flatMap ET.E) (hce:t.es.length<=t.cE) (hbe:∀x off,t.AE=some (Z x off)->0<t.es.length->p x) (hes:∀u∈t.es,kB p w u)
   (hb:Sl w 229 8 t.AB t.bs.length<|t.bs.flatMap ST.E) (hcb:t.bs.length<=t.cB) (oF:∀x off,t.AB=some (Z x off)->0<t.bs.length->p x) (hbs:∀u∈t.bs,jR p w u)
   (hl:Sl w 229 8 t.AL t.ls.length<|t.ls.flatMap ST.E) (hcl:t.ls.length<=t.cL) (hbl:∀x off,t.AL=some (Z x off)->0<t.ls.length->p x) (hls:∀u∈t.ls,jR p w u):jR p w t
def jR.hF{p:Nat->Prop}{t:ST}(h:jR p w t)(a:J [] w w'):jR p w' t:=by
 induction h with
 |mk t l j f m d i r _ n k g _ b c=>exact .mk t (l.hF a) j f (λs q=>(m s q).hF a) (d.hF a) i r b (n.hF a) k g c
def jR.ir{p:Nat->Prop}{t:ST}(h:jR p w t)(g:J M w w')(z:∀x∈M,¬p x):jR p w' t:=by
 induction h with
 |mk t u r i v n q k _ y s j _ l m=>
  exact .mk t (u.sH λc x f a d=>g.block x d λb=>z x b<|i x f a c) r i (λB A=>(v B A).ir g z)
   (n.sH λc x f a d=>g.block x d λb=>z x b<|k x f a c) q k l
   (y.sH λc x f a d=>g.block x d λb=>z x b<|j x f a c) s j m
def jR.imp{p q:Nat->Prop}{t:ST}(h:jR p w t)(d:∀x,p x->q x):jR q w t:=by
 induction h with
 |mk t r m j s i l y _ u n k _ f g=>
  exact .mk t r m (λx c a b=>d x<|j x c a b) (λz v=>(s z v).imp d) i l (λx c a b=>d x<|y x c a b) f u n (λx c a b=>d x<|k x c a b) g
def jR.lt{p:Nat->Prop}{t:ST}(h:jR p w t):jR (λx=>p x/\x<w.heap.size) w t:=by
 induction h with
 |mk t f n k r d m u _ g q l _ i j=>
  exact .mk t f n (λx c a b=>⟨k x c a b,(by rw[a]at f;exact f.lt b)⟩) (λv s=>(r v s).lt) d m (λx c a b=>⟨u x c a b,(by rw[a]at d;exact d.lt b)⟩) i g q (λx c a b=>⟨l x c a b,(by rw[a]at g;exact g.lt b)⟩) j
def jR.le{b c:Nat}{t:ST}(h:jR (jK c) w t)(a:b<=c):jR (jK b) w t:=h.imp λ_ d=>H_ a d
def jF(n:Int):ET:=.mk 1 n ByteArray.empty 0 none 0 []
def jG(s:ByteArray):ET:=.mk 3 0 s 0 none 0 []
def eNew(n:Int):ET:=.mk 6 n ByteArray.empty 0 none 0 []
def kB.leaf(p:Nat->Prop)(w:World)(k n:Int)(s:ByteArray)(o:Int):kB p w (.mk k n s o none 0 []):=.mk _ (HB _ _ _ _) (I_ _) (λ_ _ a _=>by cases a) (λc b=>by cases b)
def ki(n:Int):Calls prog 144 #[Y n] w λe w'=>e=.returned (.agg (jF n).g_)/\J [] w w':=by
 go_enter func144,ntmps144;go_wp2_with fail;exact rr_ (jF n).g_ (T_ w 226 _) underlying226 ⟨rfl,(G_ [] w).alloc _⟩
def kk(s:ByteArray):Calls prog 145 #[.string s] w λe w'=>e=.returned (.agg (jG s).g_)/\J [] w w':=by
 go_enter func145,ntmps145;go_wp2_with fail;exact rr_ (jG s).g_ (T_ w 226 _) underlying226 ⟨rfl,(G_ [] w).alloc _⟩
def qw(o:Int)(A:OA)(a b:ET):ET:=.mk 5 0 ByteArray.empty o A 2 [a,b]
def jv{g:Nat}{t:TypeId}{cs:Array Value}{s n:Nat}(h:Bk w g t cs)(a:cs.size=n*s):Sl w t s (j_ g) n cs.toList:=
 ⟨by simpa using a,λ_=>⟨g,0,cs,_,rfl,h,λc d b=>by simpa using b⟩⟩
def oR(f b:ET)(E:base<=w.heap.size)(x:kB (jK base) w f)(y:kB (jK base) w b):Calls prog 143 #[Y o,.agg f.g_,.agg b.g_] w λe w'=>∃A,e=.returned (.agg (qw o A f b).g_)/\kB (jK base) w' (qw o A f b)/\J [] w w':=by
 obtain⟨j,r,t,d,a,k,m⟩:=f;obtain⟨c,s,i,q,h,g,p⟩:=b;have z:=O x;have C:=O y;clear x y;rw[show(ET.mk j r t d a k m).g_=#[Y j,Y r,.string t,Y d,.slice a m.length k] from rfl,show(ET.mk c s i q h g p).g_=#[Y c,Y s,.string i,Y q,.slice h p.length g] from rfl];go_enter func143,ntmps143;go_wp2_with fail;obtain⟨-,-,D,B,v⟩:=DX w 226 #[Y j,Y r,.string t,Y d,.slice a m.length k] 226 #[Y c,Y s,.string i,Y q,.slice h p.length g] 226 #[Y 5,Y 0,.string ByteArray.empty,Y o,.slice (j_<|w.heap.size+1+1+1) 2 2] 226 #[Y j,Y r,.string t,Y d,.slice a m.length k,Y c,Y s,.string i,Y q,.slice h p.length g];refine rr_ (qw o (j_<|w.heap.size+1+1+1) (ET.mk j r t d a k m)<|ET.mk c s i q h g p).g_ D underlying226 ⟨_,rfl,?_,v⟩;refine .mk _ (jv (n:=2) B rfl) (I_ _) (λH F u _=>by injection u with u;injection u with u;omega) ?_;intro G l;rcases N_.1 l with rfl|l
 exact z.out.hF v;rcases N_.1 l with rfl|l
 .exact C.out.hF v
 cases l
def jc(x:ByteArray)(A:OA)(t:ET):ST:=.mk 1 x ByteArray.empty 0 0 A 1 [t] none 0 [] none 0 []
def kW(x:ByteArray)(t:ET)(w:World)(s:base<=w.heap.size)(l:kB (jK base) w t):Calls prog 142 #[.string x,.agg t.g_] w λe w'=>∃A,e=.returned (.agg (jc x A t).g_)/\jR (jK base) w' (jc x A t)/\J [] w w':=by
 obtain⟨f,i,j,d,c,g,h⟩:=t;have p:=O l;clear l;rw[show(ET.mk f i j d c g h).g_=#[Y f,Y i,.string j,Y d,.slice c h.length g] from rfl];go_enter func142,ntmps142;go_wp2_with fail;obtain⟨-,r,q,k⟩:=xO w 226 #[Y f,Y i,.string j,Y d,.slice c h.length g] 229 #[Y 1,.string x,.string ByteArray.empty,Y 0,Y 0,.slice (j_<|w.heap.size+1+1) 1 1,n_,n_] 226 #[Y f,Y i,.string j,Y d,.slice c h.length g];refine rr_ (jc x (j_<|w.heap.size+1+1)<|ET.mk f i j d c g h).g_ r underlying229 ⟨_,rfl,?_,k⟩;refine .mk _ (jv (n:=1) q rfl) (I_ _) (λx u a _=>by injection a with a;injection a with a;omega) ?_ (HB _ _ _ _) (I_ _) (λ_ _ a _=>by cases a) (λm b=>by cases b) (HB _ _ _ _) (I_ _) (λ_ _ a _=>by cases a) (λm b=>by cases b);intro m b;rcases N_.1 b with rfl|b
 exact p.out.hF k;cases b
def w6:ByteArray:={data:=#[97]}
def vW:ByteArray:={data:=#[98]}
def wl:ByteArray:={data:=#[115]}
def py:ByteArray:={data:=#[112]}
def nj:ByteArray:={data:=#[113]}
def oY:ByteArray:={data:=#[105]}
def yt:ByteArray:={data:=#[106]}
def yr:ByteArray:={data:=#[107]}
def Dh:ByteArray:={data:=#[110]}
def qv:ByteArray:={data:=#[102]}
def pW:ByteArray:={data:=#[103]}
def hV:List ByteArray:=[w6,vW,wl,py,nj,oY,yt,yr]
def mj:Array Value:=#[.string {data:=#[97]},.string {data:=#[98]},.string {data:=#[115]},.string {data:=#[112]},.string {data:=#[113]}]
def l0:Calls prog 177 #[] w λe w'=>e=.returned (.slice (j_ w.heap.size) 5 5)/\w'=w.alloc (.cells mj 9):=by
 go_enter func177,ntmps177;go_wp2_with fail;go_ret;exact NV
def xZ(i:Int)(h0:0<=i)(b:i<5):∃s,s∈hV/\mj[i.toNat]?=some (.string s):=by
 obtain⟨a,rfl⟩:∃a:Nat,i=a:=⟨i.toNat,X⟩
 match a,b with
 |0,_=>exact⟨w6,by simp[hV],rfl⟩
 |1,_=>exact⟨vW,by simp[hV],rfl⟩
 |2,_=>exact⟨wl,by simp[hV],rfl⟩
 |3,_=>exact⟨py,by simp[hV],rfl⟩
 |4,_=>exact⟨nj,by simp[hV],rfl⟩
def w8(A:OA)(n c:Nat)(zs:QS)(a:TypeId)(h:Sl w a 1 A n<|zs.map<|.int .u8)(l:∀b,0<=zs.getD b 0/\zs.getD b 0<256)(f:n<=c)(k:n<=9223372036854775807):
 Calls prog 12 #[.slice A n c] w λe w'=>∃g,e=.returned (q_ g)/\w.heap.size<=g/\iV w' w'.heap.size g/\J [] w w':=by
 go_enter func12,ntmps12;go_wp2_with (go_at_call 54;refine(Di A n c zs a h l f k).mono ?_;rintro e w'⟨g,rfl,j,i,d⟩);go_ret;exact⟨g,rfl,j,i,d⟩
