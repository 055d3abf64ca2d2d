import Derived.Test.YtenbhdilndfaeaaGreatM03
set_option maxRecDepth 100000
set_option maxHeartbeats 0
set_option linter.all false
namespace Go.Proofs.YtenbhdilndfaeaaGreat
open Go.RowKit Go.Proofs.Tryz
variable{G:Prop}{g k:Nat}{ty:TypeId}{cs cur:Array Value}{α:Type}{x:Int}
def Jn(h:G:=by
 have aB:k=n:=X;have aV:=s.f_ 0;have bM:=P.hG 0;have bq:=P.f_ 0;go_wp2;have hE:=P.hV 0 (.slice A' rs.length c');refine rr_ #[.slice A' rs.length c'] hE underlying35 ⟨A',c',rs,rfl,?_,?_,?_⟩
 .exact z.it P O O ((H _ _).setCell (.inl J) _)
 .rw[q.out,aB,<-j.out,GR]
 .exact F.setCell (.inr J) _):G:=h
def J0(h:G:=by
 have bq:(l[k].id==id)=true:=zu t0;have bo:(l[k].f==f)=false:=zu t1;clear t0 t1;exact K2):G:=h
def Kl(h:G:=by
 have bq:(l[k].id==id)=false:=zu t0;exact KS):G:=h
def Ks(h:G:=by
 have bq:(l[k].id==id)=true:=zu t0;have bo:(l[k].f==f)=true:=zu t1;clear t0 t1;exact Ma):G:=h
def KS(h:G:=by
 clear t0;exact K2):G:=h
def KU(h:G:=by
 have HA:=U (show ju l n=0 by unfold ju;rw[R_ X]);exact Mk):G:=h
def K2(h:G:=by
 go_wp2;go_roundw
 case rel=>exact⟨k+1,X,gn,by rw[E.out,ka _ _ _ _ X aS.out],F.alloc _⟩
 case measure=>exact mz):G:=h
def Lm(h:G:=by
 go_roundw
 case rel=>exact⟨k+1,A',c',rs,X,gn,s,P,z,by rw[bR.out,bU.out],F⟩
 case measure=>exact mz):G:=h
def Ma(h:G:=by
 go_wp2;go_ret;exact⟨jZ (by rw[E.out,k2 _ _ _ _ X aS.out]),F.alloc _⟩):G:=h
def Mk(h:G:=by
 go_enter func94,ntmps94
 go_wp2;go_ret;exact⟨jZ (by rw[HA.out]),MZ⟩):G:=h
structure Cl where
 id:Int
 f:Int
 v:Vl
 deriving DecidableEq,Inhabited
def Cl.E(c:Cl):List Value:=[Y c.id,Y c.f,.bool c.v.r,Y c.v.n]
structure Dl where
 id:Int
 f:Int
 op:Int
 v:Vl
 deriving DecidableEq,Inhabited
def Dl.E(c:Dl):List Value:=[Y c.id,Y c.f,Y c.op,.bool c.v.r,Y c.v.n]
structure Ac where
 ask:Bool
 v:Int
 k7:Int
 deriving DecidableEq,Inhabited
def Ac.E(c:Ac):List Value:=[.bool c.ask,Y c.v,Y c.k7]
structure Fo where
 fr:Int
 dst:Int
 n:Int
 deriving DecidableEq,Inhabited
def Fo.E(c:Fo):List Value:=[Y c.fr,Y c.dst,Y c.n]
def rx(c:Cl):(Cl.E c).length=4:=rfl
def pH(c:Dl):(Dl.E c).length=5:=rfl
def oZ(c:Fo):(Fo.E c).length=3:=rfl
def w_(c:Rw):(Rw.E c).length=2:=rfl
def pJ(l:List Cl):∀u∈l.flatMap Cl.E,u.oneCell'=true:=qE _ (λb u a=>by simp[Cl.E]at a;rcases a with rfl|rfl|rfl|rfl<;>rfl) l
def tB(l:List Dl):∀u∈l.flatMap Dl.E,u.oneCell'=true:=qE _ (λb u a=>by simp[Dl.E]at a;rcases a with rfl|rfl|rfl|rfl|rfl<;>rfl) l
def tN{l:List Ac}:∀u∈l.flatMap Ac.E,u.oneCell'=true:=qE _ (λb u a=>by simp[Ac.E]at a;rcases a with rfl|rfl|rfl<;>rfl) l
def u3(l:List Fo):∀u∈l.flatMap Fo.E,u.oneCell'=true:=qE _ (λb u a=>by simp[Fo.E]at a;rcases a with rfl|rfl|rfl<;>rfl) l
def infoCl:(prog.info? 116).map (λi=>(i.zero,i.size,i.bytes))=some (some (.agg #[Y 0,Y 0,.bool false,Y 0]),4,32):=by kernel_rfl
def infoDl:(prog.info? 124).map (λi=>(i.zero,i.size,i.bytes))=some (some (.agg #[Y 0,Y 0,Y 0,.bool false,Y 0]),5,40):=by kernel_rfl
def infoAc:(prog.info? 162).map (λi=>(i.zero,i.size,i.bytes))=some (some (.agg #[.bool false,Y 0,Y 0]),3,24):=by kernel_rfl
def infoFo:(prog.info? 168).map (λi=>(i.zero,i.size,i.bytes))=some (some (.agg #[Y 0,Y 0,Y 0]),3,24):=by kernel_rfl
def Cs(w:World)(A:OA)(l:List Cl):Prop:=Sl w 116 4 A l.length (l.flatMap Cl.E)
def Ds(w:World)(A:OA)(l:List Dl):Prop:=Sl w 124 5 A l.length (l.flatMap Dl.E)
def As(w:World)(A:OA)(l:List Ac):Prop:=Sl w 162 3 A l.length (l.flatMap Ac.E)
def Fs(w:World)(A:OA)(l:List Fo):Prop:=Sl w 168 3 A l.length (l.flatMap Fo.E)
section
variable{w w':World}{A:OA}
def Cs.hF{l:List Cl}(h:Cs w A l)(a:I [] w w'):Cs w' A l:=Sl.hF h a
def Ds.hF{l:List Dl}(h:Ds w A l)(a:I [] w w'):Ds w' A l:=Sl.hF h a
def As.hF{l:List Ac}(h:As w A l)(a:I [] w w'):As w' A l:=Sl.hF h a
def Fs.hF{l:List Fo}(h:Fs w A l)(a:I [] w w'):Fs w' A l:=Sl.hF h a
def Cs.at_{l:List Cl}(h:Cs w A l)(hk:k<l.length):∃b off,A=some (Z b off)/\w.cell? (Z b (off+k*4))=some (Y l[k].id)/\w.cell? (Z b (off+k*4+1))=some (Y l[k].f)/\w.cell? (Z b (off+k*4+2))=some (.bool l[k].v.r)/\w.cell? (Z b (off+k*4+3))=some (Y l[k].v.n):=Li
def Ds.at_{l:List Dl}(h:Ds w A l)(hk:k<l.length):∃b off,A=some (Z b off)/\w.cell? (Z b (off+k*5))=some (Y l[k].id)/\w.cell? (Z b (off+k*5+1))=some (Y l[k].f)/\w.cell? (Z b (off+k*5+2))=some (Y l[k].op)/\w.cell? (Z b (off+k*5+3))=some (.bool l[k].v.r)/\w.cell? (Z b (off+k*5+4))=some (Y l[k].v.n):=K1
def Fs.at_{l:List Fo}(h:Fs w A l)(e:k<l.length):∃b a,A=some (Z b a)/\w.cell? (Z b (a+k*3))=some (Y l[k].fr)/\w.cell? (Z b (a+k*3+1))=some (Y l[k].dst)/\w.cell? (Z b (a+k*3+2))=some (Y l[k].n):=by
 obtain⟨b,a,d,c⟩:=Sl.row oZ h e;exact⟨b,a,d,c 0 _ rfl,c 1 _ rfl,c 2 _ rfl⟩
end
structure Sv(α:Type) where
 A:Option Addr
 c:Nat
 l:List α
def Sv.ok{α:Type}(s:Sv α):Prop:=s.l.length<=s.c
structure Tk where
 hQ:Int
 run:Int
 ik:Bool
 pc:Int
 r:Nat->Vl
 gs:Sv Cl
 rs:Sv Cl
 ws:Sv Cl
 nw:Sv Rw
 ds:Sv Dl
 h8:Sv Ac
 h9:Int
 next:Int
 hY:Bool
 v:Vl
 hK:Int
def Tk.g_(t:Tk):Array Value:=#[Y t.hQ,Y t.run,.bool t.ik,Y t.pc,.bool (t.r 0).r,Y (t.r 0).n,.bool (t.r 1).r,Y (t.r 1).n,.bool (t.r 2).r,Y (t.r 2).n,.bool (t.r 3).r,Y (t.r 3).n,.bool (t.r 4).r,Y (t.r 4).n,.bool (t.r 5).r,Y (t.r 5).n,.bool (t.r 6).r,Y (t.r 6).n,.bool (t.r 7).r,Y (t.r 7).n,.bool (t.r 8).r,Y (t.r 8).n,.bool (t.r 9).r,Y (t.r 9).n,.bool (t.r 10).r,Y (t.r 10).n,.bool (t.r 11).r,Y (t.r 11).n,.bool (t.r 12).r,Y (t.r 12).n,.bool (t.r 13).r,Y (t.r 13).n,.bool (t.r 14).r,Y (t.r 14).n,.bool (t.r 15).r,Y (t.r 15).n,.slice t.gs.A t.gs.l.length t.gs.c,.slice t.rs.A t.rs.l.length t.rs.c,.slice t.ws.A t.ws.l.length t.ws.c,.slice t.nw.A t.nw.l.length t.nw.c,.slice t.ds.A t.ds.l.length t.ds.c,.slice t.h8.A t.h8.l.length t.h8.c,Y t.h9,Y t.next,.bool t.hY,.bool t.v.r,Y t.v.n,Y t.hK]
structure lh(w:World)(t:Tk):Prop where
 gs:Cs w t.gs.A t.gs.l
 rs:Cs w t.rs.A t.rs.l
 ws:Cs w t.ws.A t.ws.l
 nw:Os w t.nw.A t.nw.l
 nr:l5 w t.nw.l
 ds:Ds w t.ds.A t.ds.l
 h8:As w t.h8.A t.h8.l
 yi:t.gs.ok
 k5:t.rs.ok
 vp:t.ws.ok
 td:t.nw.ok
 r8:t.ds.ok
 pN:t.h8.ok
def lh.hF{w w':World}{t:Tk}(h:lh w t)(a:I [] w w'):lh w' t:=
 ⟨h.gs.hF a,h.rs.hF a,h.ws.hF a,h.nw.hF a,h.nr.hF a,h.ds.hF a,h.h8.hF a,h.yi,h.k5,h.vp,h.td,h.r8,h.pN⟩
def lh.it{w w':World}{t:Tk}(h:lh w t)(c:Bk w g ty cs)(a:116≠ty/\56≠ty/\38≠ty/\124≠ty/\162≠ty)(b:I [g] w w'):lh w' t:=
 ⟨Sl.it h.gs c a.1 b,Sl.it h.rs c a.1 b,Sl.it h.ws c a.1 b,Sl.it h.nw c a.2.1 b,h.nr.it c a.2.2.1 b,Sl.it h.ds c a.2.2.2.1 b,Sl.it h.h8 c a.2.2.2.2 b,h.yi,h.k5,h.vp,h.td,h.r8,h.pN⟩
structure i3 where
 hQ:Int
 run:Int
 ik:Bool
 pc:Int
 r:Nat->Vl
 gs:List Cl
 rs:List Cl
 ws:List Cl
 nw:List Ob
 ds:List Dl
 h8:List Ac
 h9:Int
 next:Int
 hY:Bool
 v:Vl
 hK:Int
def Tk.p(t:Tk):i3:=⟨t.hQ,t.run,t.ik,t.pc,t.r,t.gs.l,t.rs.l,t.ws.l,hX t.nw.l,t.ds.l,t.h8.l,t.h9,t.next,t.hY,t.v,t.hK⟩
structure i3.sm(n:Nat)(t:i3):Prop where
 gs:t.gs.length<=n
 rs:t.rs.length<=n
 ws:t.ws.length<=n
 nw:t.nw.length<=n
 ds:t.ds.length<=n
 h8:t.h8.length<=n
def Dj:Nat->Vl:=λ_=>default
def Sv.nil{α:Type}:Sv α:=⟨none,0,[]⟩
def Tk.zero:Tk:=⟨0,0,false,0,Dj,.nil,.nil,.nil,.nil,.nil,.nil,0,0,false,default,0⟩
def Tk.size(t:Tk):t.g_.size=48:=rfl
def Tk.one(t:Tk):t.g_.all (·.oneCell')=true:=by unfold Tk.g_;simp[Value.oneCell']
def lh.nil(w:World)(t:Tk)(d:t.gs=.nil)(e:t.rs=.nil)(f:t.ws=.nil)(c:t.nw=.nil)(b:t.ds=.nil)(a:t.h8=.nil):lh w t:=by
 obtain⟨j,G,l,m,n,i,u,p,o,q,r,s,g,v,y,z⟩:=t;simp only at d e f c b a;subst d;subst e;subst f;subst c;subst b;subst a;exact⟨Gw _ _ _ _,Gw _ _ _ _,Gw _ _ _ _,Gw _ _ _ _,λB h=>by simp[Sv.nil]at h,Gw _ _ _ _,Gw _ _ _ _,H_ _,H_ _,H_ _,H_ _,H_ _,H_ _⟩
structure Ef where
 h6:Int
 pc:Int
 r:Nat->Vl
 rs:Sv Cl
 ws:Sv Cl
 nw:Sv Rw
 ds:Sv Dl
 h8:Sv Ac
 kA:Int
 hY:Bool
 v:Vl
def Ef.g_(x:Ef):Array Value:=#[Y x.h6,Y x.pc,.bool (x.r 0).r,Y (x.r 0).n,.bool (x.r 1).r,Y (x.r 1).n,.bool (x.r 2).r,Y (x.r 2).n,.bool (x.r 3).r,Y (x.r 3).n,.bool (x.r 4).r,Y (x.r 4).n,.bool (x.r 5).r,Y (x.r 5).n,.bool (x.r 6).r,Y (x.r 6).n,.bool (x.r 7).r,Y (x.r 7).n,.bool (x.r 8).r,Y (x.r 8).n,.bool (x.r 9).r,Y (x.r 9).n,.bool (x.r 10).r,Y (x.r 10).n,.bool (x.r 11).r,Y (x.r 11).n,.bool (x.r 12).r,Y (x.r 12).n,.bool (x.r 13).r,Y (x.r 13).n,.bool (x.r 14).r,Y (x.r 14).n,.bool (x.r 15).r,Y (x.r 15).n,.slice x.rs.A x.rs.l.length x.rs.c,.slice x.ws.A x.ws.l.length x.ws.c,.slice x.nw.A x.nw.l.length x.nw.c,.slice x.ds.A x.ds.l.length x.ds.c,.slice x.h8.A x.h8.l.length x.h8.c,Y x.kA,.bool x.hY,.bool x.v.r,Y x.v.n]
structure sE(w:World)(x:Ef):Prop where
 rs:Cs w x.rs.A x.rs.l
 ws:Cs w x.ws.A x.ws.l
 nw:Os w x.nw.A x.nw.l
 nr:l5 w x.nw.l
 ds:Ds w x.ds.A x.ds.l
 h8:As w x.h8.A x.h8.l
 k5:x.rs.ok
 vp:x.ws.ok
 td:x.nw.ok
 r8:x.ds.ok
 pN:x.h8.ok
def sE.hF{w w':World}{t:Ef}(h:sE w t)(a:I [] w w'):sE w' t:=
 ⟨h.rs.hF a,h.ws.hF a,h.nw.hF a,h.nr.hF a,h.ds.hF a,h.h8.hF a,h.k5,h.vp,h.td,h.r8,h.pN⟩
def Ef.one(t:Ef):t.g_.all (·.oneCell')=true:=by unfold Ef.g_;simp[Value.oneCell']
def sE.it{w w':World}{t:Ef}(h:sE w t)(c:Bk w g ty cs)(a:116≠ty/\56≠ty/\38≠ty/\124≠ty/\162≠ty)(b:I [g] w w'):sE w' t:=
 ⟨Sl.it h.rs c a.1 b,Sl.it h.ws c a.1 b,Sl.it h.nw c a.2.1 b,h.nr.it c a.2.2.1 b,Sl.it h.ds c a.2.2.2.1 b,Sl.it h.h8 c a.2.2.2.2 b,h.k5,h.vp,h.td,h.r8,h.pN⟩
structure p8 where
 h6:Int
 pc:Int
 r:Nat->Vl
 rs:List Cl
 ws:List Cl
 nw:List Ob
 ds:List Dl
 h8:List Ac
 kA:Int
 hY:Bool
 v:Vl
def Ef.p(t:Ef):p8:=⟨t.h6,t.pc,t.r,t.rs.l,t.ws.l,hX t.nw.l,t.ds.l,t.h8.l,t.kA,t.hY,t.v⟩
def iM(pc:Int)(r:Nat->Vl):Array Value:=#[Y pc,.bool (r 0).r,Y (r 0).n,.bool (r 1).r,Y (r 1).n,.bool (r 2).r,Y (r 2).n,.bool (r 3).r,Y (r 3).n,.bool (r 4).r,Y (r 4).n,.bool (r 5).r,Y (r 5).n,.bool (r 6).r,Y (r 6).n,.bool (r 7).r,Y (r 7).n,.bool (r 8).r,Y (r 8).n,.bool (r 9).r,Y (r 9).n,.bool (r 10).r,Y (r 10).n,.bool (r 11).r,Y (r 11).n,.bool (r 12).r,Y (r 12).n,.bool (r 13).r,Y (r 13).n,.bool (r 14).r,Y (r 14).n,.bool (r 15).r,Y (r 15).n]
structure X1 where
 jt:Sv In
 hH:Int
 hC:Int
 j2:Int
 sr:Nat->Vl
 h:Sv Rw
 nx:Int
 e:Ef
 hO:Bool
def X1.g_(x:X1):Array Value:=#[.slice x.jt.A x.jt.l.length x.jt.c,Y x.hH,Y x.hC,Y x.j2,.bool (x.sr 0).r,Y (x.sr 0).n,.bool (x.sr 1).r,Y (x.sr 1).n,.bool (x.sr 2).r,Y (x.sr 2).n,.bool (x.sr 3).r,Y (x.sr 3).n,.bool (x.sr 4).r,Y (x.sr 4).n,.bool (x.sr 5).r,Y (x.sr 5).n,.bool (x.sr 6).r,Y (x.sr 6).n,.bool (x.sr 7).r,Y (x.sr 7).n,.bool (x.sr 8).r,Y (x.sr 8).n,.bool (x.sr 9).r,Y (x.sr 9).n,.bool (x.sr 10).r,Y (x.sr 10).n,.bool (x.sr 11).r,Y (x.sr 11).n,.bool (x.sr 12).r,Y (x.sr 12).n,.bool (x.sr 13).r,Y (x.sr 13).n,.bool (x.sr 14).r,Y (x.sr 14).n,.bool (x.sr 15).r,Y (x.sr 15).n,.slice x.h.A x.h.l.length x.h.c,Y x.nx,Y x.e.h6,Y x.e.pc,.bool (x.e.r 0).r,Y (x.e.r 0).n,.bool (x.e.r 1).r,Y (x.e.r 1).n,.bool (x.e.r 2).r,Y (x.e.r 2).n,.bool (x.e.r 3).r,Y (x.e.r 3).n,.bool (x.e.r 4).r,Y (x.e.r 4).n,.bool (x.e.r 5).r,Y (x.e.r 5).n,.bool (x.e.r 6).r,Y (x.e.r 6).n,.bool (x.e.r 7).r,Y (x.e.r 7).n,.bool (x.e.r 8).r,Y (x.e.r 8).n,.bool (x.e.r 9).r,Y (x.e.r 9).n,.bool (x.e.r 10).r,Y (x.e.r 10).n,.bool (x.e.r 11).r,Y (x.e.r 11).n,.bool (x.e.r 12).r,Y (x.e.r 12).n,.bool (x.e.r 13).r,Y (x.e.r 13).n,.bool (x.e.r 14).r,Y (x.e.r 14).n,.bool (x.e.r 15).r,Y (x.e.r 15).n,.slice x.e.rs.A x.e.rs.l.length x.e.rs.c,.slice x.e.ws.A x.e.ws.l.length x.e.ws.c,.slice x.e.nw.A x.e.nw.l.length x.e.nw.c,.slice x.e.ds.A x.e.ds.l.length x.e.ds.c,.slice x.e.h8.A x.e.h8.l.length x.e.h8.c,Y x.e.kA,.bool x.e.hY,.bool x.e.v.r,Y x.e.v.n,.bool x.hO]
structure Sh where
 a:Bool
 b:Bool
 c:Bool
 n:Int
 deriving DecidableEq,Inhabited
def Sh.E(s:Sh):List Value:=[.bool s.a,.bool s.b,.bool s.c,Y s.n]
def i7:List Sh:=[⟨false,false,false,0⟩,⟨true,false,false,1⟩,⟨true,false,false,0⟩,⟨true,true,false,0⟩,⟨true,true,true,2⟩,⟨true,true,false,3⟩,⟨true,true,false,3⟩,⟨true,false,false,4⟩,⟨true,false,false,5⟩,⟨true,false,false,5⟩,⟨true,false,false,5⟩,⟨false,false,false,6⟩,⟨true,false,false,6⟩,⟨false,false,false,7⟩,⟨true,false,false,0⟩,⟨true,false,false,0⟩,⟨true,false,false,0⟩,⟨false,false,false,8⟩,⟨true,false,false,0⟩,⟨true,false,false,0⟩,⟨false,false,false,5⟩,⟨false,false,false,9⟩]
def qC:List Value:=i7.flatMap Sh.E
def Cf:∀k,k<22->0<=(i7.getD k default).n/\(i7.getD k default).n<=9:=by decide
def w6{w:World}:Calls prog 146 #[] w λe w'=>∃g:Nat,e=.returned (.slice (j_ g) 22 22)/\Sl w' 274 4 (j_ g) 22 qC/\I [] w w':=by
 go_enter func146,ntmps146
 go_wp2;go_ret;exact⟨w.heap.size,rfl,Sl.new w 274 4 _ 22 _ rfl rfl,(H _ _).alloc _⟩
def jV(l:List In)(i:Nat)(x:In)(s:Sh):Bool:=
 if x.op<0∨21<x.op then false
 else if(!mi x.a s.a||(x.op !=13&&x.op !=10&& !mi x.b s.b)||(x.op !=13&& !mi x.c s.c)) then false
 else if(x.op==13&&(decide (x.b<0)||decide (4<x.b)||decide (x.c<x.b)||decide (64<x.c)||iB l ((i:Int)+1) !=21))||(x.op==10&& !rB x.b) then false
 else if s.n=0 then x.n==0
 else if s.n=2 then pA x.n&&decide (0<=x.n)&&decide (x.n<100)
 else if s.n=3 then decide (0<=x.n)&&decide (x.n<16)
 else if s.n=4 then decide (0<=x.n)&&decide (x.n<=16)
 else if s.n=5 then decide (0<=x.n)&&decide (x.n<64)&&(x.op !=20||iB l ((i:Int)-1)==21)
 else if s.n=6 then decide (0<=iB l x.n)&&iB l x.n !=20&&(decide ((i:Int)<x.n)||iB l x.n==21)
 else if s.n=7 then iB l x.n==21
 else if s.n=8 then x.n==0||iB l x.n==21
 else true
def kW(l:List In)(i:Nat):Bool:=jV l i (l.getD i default) (i7.getD (l.getD i default).op.toNat default)
def mm{α:Type}(p:α->Bool):List α->Nat
 |[]=>0
 |x::l=>if p x then mm p l+1 else 0
def pB(p:α->Bool)(l:List α):mm p l<=l.length:=by
 induction l with
 |nil=>simp[mm]
 |cons x l a=>simp only[mm,FK];split<;>omega
def oB{p:α->Bool}{l:List α}(a:k<l.length)(b:p l[k]=true):mm p (l.drop k)=mm p (l.drop (k+1))+1:=by
 rw[Q_ a];simp[mm,b]
def nL{p:α->Bool}{l:List α}(a:k<l.length)(b:p l[k]=false):mm p (l.drop k)=0:=by
 rw[Q_ a];simp[mm,b]
def rl{p:α->Bool}{l:List α}(a:l.length<=k):mm p (l.drop k)=0:=by
 rw[Gb a]
 rfl
def cat(l:List Cl)(id f:Int):Int:=iE (λc:Cl=>c.id==id&&c.f==f) l 0
def oG(id f:Int)(c:Cl):Bool:=decide (c.id<id)||(c.id==id&&decide (c.f<f))
def tF(l:List Cl)(id f:Int):Nat:=mm (oG id f) l
def kz(l:List Cl)(c:Cl):List Cl:=
 if 0<=cat l c.id c.f then l.set (cat l c.id c.f).toNat c else l.take (tF l c.id c.f)++([c]++l.drop (tF l c.id c.f))
def pe(l:List Dl)(id f:Int):Int:=iE (λc:Dl=>c.id==id&&c.f==f) l 0
def n8(id f:Int)(c:Dl):Bool:=decide (c.id<id)||(c.id==id&&decide (c.f<f))
def rq(l:List Dl)(id f:Int):Nat:=mm (n8 id f) l
def p7(h:List Ob)(c:Cl):List Ob:=match jy h c.id c.f with
 |none=>h
 |some _=>kQ h c.id c.f c.v
def ja(h:List Ob)(l:List Cl):List Ob:=l.foldl p7 h
def pb(h:List Ob)(d:Dl):List Ob:=match jy h d.id d.f with
 |none=>h
 |some v=>if(iK d.op v d.v).2=0 then kQ h d.id d.f (iK d.op v d.v).1 else h
def kj(h:List Ob)(l:List Dl):List Ob:=l.foldl pb h
def kG(rs:List Cl)(h:List Ob)(g:Cl):List Ob:=if cat rs g.id g.f<0 then ja h [g] else h
def before(t:i3)(view:List Ob):List Ob:=ja (t.gs.foldl (kG t.rs) view) t.rs
def jq(t:i3)(view:List Ob):List Ob:=kj (ja (t.nw.foldl lv (before t view)) t.ws) t.ds
def lL(h:List Ob)(t:i3):List Ob:=kj (ja (t.nw.foldl lv h) t.ws) t.ds
def uz(o:Ob)(f:Int)(v:Vl):Ob:=⟨o.id,if 0<=f/\f<(o.fs.length:Int) then o.fs.set f.toNat v else o.fs⟩
def j1(t:i3)(c:Cl):i3:=
 if jr t.nw c.id<0 then{t with ws:=kz t.ws c} else{t with nw:=t.nw.modify (jr t.nw c.id).toNat (λo=>uz o c.f c.v)}
def jw(t:i3)(view:List Ob)(id f:Int):Option i3:=
 if pe t.ds id f<0 then some t else
 match jy (before t view) id f with
 |none=>none
 |some b=>if b.r=true then none else
  some (j1 {t with rs:=kz t.rs ⟨id,f,b⟩,ds:=t.ds.eraseIdx (pe t.ds id f).toNat} ⟨id,f,(jy (jq t view) id f).getD default⟩)
def take(t:i3)(d:Dl):Option i3:=
 if t.ik=true∨0<=jr t.nw d.id∨0<=cat t.ws d.id d.f∨0<=cat t.rs d.id d.f then none
 else if pe t.ds d.id d.f<0 then some {t with ds:=t.ds.take (rq t.ds d.id d.f)++([d]++t.ds.drop (rq t.ds d.id d.f))}
 else if(t.ds.getD (pe t.ds d.id d.f).toNat default).op≠d.op then none
 else some {t with ds:=t.ds.modify (pe t.ds d.id d.f).toNat (λx=>{x with v:=(iK d.op x.v d.v).1})}
def jJ(l:List Cl)(d:Dl):List Cl:=l.filter λc=>c.id !=d.id||c.f !=d.f
def jN:i3->List Cl->List Cl->List Dl->i3 × List Cl × List Cl
 |t,rs,ws,[]=>(t,rs,ws)
 |t,rs,ws,d::l=>match take t d with
  |none=>jN t rs ws l
  |some t'=>jN t' (jJ rs d) (jJ ws d) l
def qi(view:List Ob)(t:i3)(c:Cl):Option i3:=
 if 0<=jr t.nw c.id∨0<=cat t.ws c.id c.f∨0<=cat t.rs c.id c.f then some t
 else if 0<=pe t.ds c.id c.f then jw t view c.id c.f
 else some {t with rs:=kz t.rs c}
def j4(view:List Ob):i3->List Cl->Option i3
 |t,[]=>some t
 |t,c::l=>match qi view t c with
  |none=>none
  |some t'=>j4 view t' l
def r6(view:List Ob)(t:i3)(c:Cl):Option i3:=(jw t view c.id c.f).map (j1 · c)
def kt(view:List Ob):i3->List Cl->Option i3
 |t,[]=>some t
 |t,c::l=>match r6 view t c with
  |none=>none
  |some t'=>kt view t' l
def record(t:i3)(view:List Ob)(e:p8):Option i3:=
 let a:=jN t e.rs e.ws e.ds
 match j4 view a.1 a.2.1 with
 |none=>none
 |some t1=>match kt view {t1 with nw:=t1.nw++e.nw} a.2.2 with
  |none=>none
  |some ah=>some {ah with h8:=ah.h8++e.h8}
def jp:Nat->Vl:=λ_=>default
def rf(r:Nat->Vl)(a:Int)(v:Vl):Nat->Vl:=λj=>if j=a.toNat then v else r j
structure XP where
 jt:List In
 hH:Int
 hC:Int
 j2:Int
 sr:Nat->Vl
 h:List Ob
 nx:Int
 e:p8
 hO:Bool
def X1.p(x:X1):XP:=⟨x.jt.l,x.hH,x.hC,x.j2,x.sr,hX x.h.l,x.nx,x.e.p,x.hO⟩
def jb(l:List In)(n:Int):Bool:=decide (0<=n)&&(decide (n<(l.length:Int))&&(l.getD n.toNat default).op==21)
def hW(x:XP)(id f:Int):XP × Vl:=match jy x.h id f with
 |none=>({x with hO:=true},default)
 |some v=>if 0<=cat x.e.rs id f then(x,v) else({x with e:={x.e with rs:=x.e.rs++[⟨id,f,v⟩]}},v)
def ib(x:XP)(id f:Int)(v:Vl):XP:={x with e:={x.e with ws:=x.e.ws++[⟨id,f,v⟩]}}
def iL(x:XP):XP:={x with hO:=x.hO||(match jl x.h 1 with|none=>true|some o=>decide ((o.fs.length:Int)<3))}
def iN(h:List Ob)(id:Int):Int:=match jl h id with
 |none=>0
 |some o=>o.fs.length
def hT(x:XP):XP × Int × Int:=
 let x:=iL x
 if x.hO=true then(x,0,0) else
 let y:=hW x 1 0
 ({y.1 with hO:=y.1.hO||(!y.2.r||(match jl y.1.h y.2.n with|none=>true|some o=>decide ((o.fs.length:Int)<3)))},y.2.n,iN y.1.h y.2.n)
def kN(x:XP):XP:={x with hO:=true}
def jm(x:XP)(v:Vl):XP:=
 let a:=hT x
 if a.1.hO=true then a.1 else
 let b:=hW a.1 a.2.1 2
 if b.2.r=true∨(b.2.n≠0/\jb b.1.jt b.2.n=false) then kN b.1 else
 if b.2.n≠0 then
  let y:=ib (ib b.1 a.2.1 2 default) 1 2 v
  {y with e:={y.e with pc:=b.2.n,r:=jp}}
 else
  let p:=hW b.1 a.2.1 0
  if p.2.r=false then kN p.1 else
  if p.2.n=0 then{p.1 with e:={p.1.e with h6:=2,hY:=true,v:=v,pc:=p.1.j2,r:=p.1.sr}}
  else
   let y:=ib (ib p.1 1 0 p.2) 1 2 v
   {y with e:={y.e with h6:=1,kA:=y.hC,pc:= -1,r:=jp}}
def jk(x:XP)(n:Int):XP:=jm x ⟨false,n⟩
def iA(x:XP)(v:Vl)(f:Int):XP × Int × Bool:=
 if v.r=false then(jk x (-2),0,false) else
 if v.n=0 then(jk x (-1),0,false) else
 match jl x.h v.n with
 |none=>(kN x,0,false)
 |some o=>if(o.fs.length:Int)<=f then(jk x (-1),0,false) else(x,v.n,true)
def hI(x:XP)(n:Int):XP × Int × Int × Bool:=
 let a:=hT x
 if a.1.hO=true then(a.1,0,0,false) else
 if a.2.2<=3+n then(jk a.1 (-1),0,0,false) else(a.1,a.2.1,3+n,true)
def kY(x:XP)(a:Int)(v:Vl):XP:={x with e:={x.e with r:=rf x.e.r a v}}
def tP(x:XP)(pc:Int):XP:={x with e:={x.e with pc:=pc}}
def jX(x:XP)(i:In):Option XP:=
 let r:=x.e.r
 if i.op=0 then some x
 else if i.op=1 then some (kY x i.a ⟨false,i.n⟩)
 else if i.op=2 then some (kY x i.a ⟨true,0⟩)
 else if i.op=3 then some (kY x i.a (r i.b.toNat))
 else if i.op=4 then
  let y:=iK i.n (r i.b.toNat) (r i.c.toNat)
  some (if y.2≠0 then jk x y.2 else kY x i.a y.1)
 else if i.op=11 then some (tP x i.n)
 else if i.op=12 then some (if(r i.a.toNat).n≠0 then x else tP x i.n)
 else if i.op=21 then some {x with e:={x.e with r:=jp,h6:=1,kA:=i.n}}
 else if i.op=16 then some (jm x (r i.a.toNat))
 else if i.op=19 then some (if(r i.a.toNat).r=true then jk x (-2) else{x with e:={x.e with h8:=[⟨false,(r i.a.toNat).n,0⟩]}})
 else none
def kM(x:XP)(i:In):Option XP:=
 if i.op≠8/\i.op≠9/\i.op≠10/\i.op≠20 then none else
 let a:=x.sr i.a.toNat
 let y:=hI x i.n
 if y.2.2.2=false then some y.1 else
 let f:=y.2.1
 let k:=y.2.2.1
 if i.op=9 then some (ib y.1 f k a) else
 let z:=hW y.1 f k
 if i.op=8 then some (kY z.1 i.a z.2)
 else if i.op=10 then
  let q:=iK i.b z.2 a
  if q.2≠0 then some (jk z.1 q.2) else
  let u:=ib z.1 f k q.1
  some {u with e:={u.e with ds:=[⟨f,k,i.b,a⟩]}}
 else if z.2.r=true then some (jk z.1 (-2))
 else some {z.1 with e:={z.1.e with h6:=3,v:=z.2,pc:=z.1.j2,r:=z.1.sr}}
def j5(x:XP)(i:In):XP:=
 let a:=x.sr i.a.toNat
 if i.op=5 then
  let y:=iA x (x.sr i.b.toNat) i.n
  if y.2.2=true then(let z:=hW y.1 y.2.1 i.n;kY z.1 i.a z.2) else y.1
 else if i.op=6 then
  let y:=iA x (x.sr i.b.toNat) i.n
  if y.2.2=true then ib y.1 y.2.1 i.n a else y.1
 else if i.op=7 then
  kY {x with e:={x.e with nw:=[⟨x.nx,List.replicate i.n.toNat default⟩]}} i.a ⟨true,x.nx⟩
 else if i.op=13 then
  let y:=hT x
  let z:={y.1 with e:={y.1.e with nw:=[⟨y.1.nx,[⟨true,y.2.1⟩,⟨false,y.1.j2+1⟩,default]++((List.range i.b.toNat).map y.1.sr++List.replicate (i.c-i.b).toNat default)⟩]}}
  tP (ib z 1 0 ⟨true,z.nx⟩) i.n
 else if i.op=14 then
  let y:=hT x
  if y.1.hO=true then y.1 else
  let p:=hW y.1 y.2.1 0
  if p.2.r=true/\p.2.n=0 then{p.1 with e:={p.1.e with h6:=2,v:=a,pc:=p.1.j2,r:=p.1.sr}} else
  let r:=hW p.1 y.2.1 1
  if p.2.r=false∨r.2.r=true∨jb r.1.jt r.2.n=false then kN r.1 else
  tP (ib (ib r.1 1 0 p.2) 1 1 a) r.2.n
 else if i.op=15∨i.op=18 then
  let y:=iL x
  if y.hO=true then y else
  let z:=hW y 1 (if i.op=15 then 1 else 2)
  kY z.1 i.a z.2
 else if i.op=17 then
  let y:=hT x
  ib y.1 y.2.1 2 ⟨false,i.n⟩
 else x
def n6(l:List In):Bool:=(List.range l.length).all (kW l)
def jF(l:List In):Int:=((l.filter λi=>i.op==21).length:Int)
def kl:List In->Int->Bool
 |[],_=>true
 |i::l,m=>if i.op=21 then(i.n==m)&&kl l (m+1) else kl l m
def ic(c:List In)(hH hC:Int):Bool:=
 decide (1<=c.length)&&decide (c.length<=2048)&&decide (0<=hH)&&decide (hH<=64)&&(iB c 0==21)&&
 (iB c ((c.length:Int)-1)==14||iB c ((c.length:Int)-1)==16||iB c ((c.length:Int)-1)==11)&&
 n6 c&&kl c 0&&(hC==jF c)
def l9:p8:=⟨0,0,jp,[],[],[],[],[],0,false,default⟩
def jg:p8:={l9 with h6:=4}
def qb(x:XP)(pc:Int):XP:=
 if pc= -1 then
  let y:=iL x
  if y.hO=true then y else
  let z:=hW y 1 2
  jm z.1 z.2
 else
  let i:=x.jt.getD pc.toNat default
  match jX x i with
  |some y=>y
  |none=>match kM x i with
   |some y=>y
   |none=>j5 x i
def lq(c:List In)(hH hC pc:Int)(r:Nat->Vl)(h:List Ob)(nx:Int):p8:=
 if ic c hH hC=false∨pc< -1∨(c.length:Int)<=pc then jg else
 let y:=qb ⟨c,hH,hC,pc,r,h,nx,{l9 with pc:=pc+1,r:=r},false⟩ pc
 if y.hO=true then jg else y.e
def lQ(A:OA)(c:Nat)(l:List Cl)(id f:Int)(w:World)(h:Cs w A l)(u:l.length<=1000000000):
 Calls prog 129 #[.slice A l.length c,Y id,Y f] w λe w'=>e=.returned (Y (cat l id f))/\I [] w w':=by
 have i:=U (show cat l id f=iE (λc:Cl=>c.id==id&&c.f==f) l 0 from rfl);generalize s:l.length=b at*
 go_enter func129,ntmps129
 go_wp2
 go_loopw [11] (λa w'=>∃k:Nat,k<=b/\a=Y k/\cat l id f=iE (λc:Cl=>c.id==id&&c.f==f) (l.drop k) k/\I [] w w') (λa _=>b-(intOf a).toNat)
 case atStart=>exact⟨0,N_ _,rfl,i.out,H _ _⟩
 case round=>
  obtain⟨k,t,rfl,G,F⟩:=hrel;have E:=U G;clear G
  by_cases j:k<b
  .have d:k<l.length:=X;obtain⟨m,v,rfl,p,r,n,o⟩:=(h.hF F).at_ d
   by_cases t0:l[k].id=id
   .by_cases t1:l[k].f=f
    .have aS:=U (show(λc:Cl=>c.id==id&&c.f==f) l[k]=true by simp[t0,t1]);exact Ks
    .have aS:=U (show(λc:Cl=>c.id==id&&c.f==f) l[k]=false by simp[t0,t1]);exact J0
   .have aS:=U (show(λc:Cl=>c.id==id&&c.f==f) l[k]=false by simp[t0]);exact Kl
  .exact Mt
def l0(t:Tk)(id f:Int){w:World}(h:lh w t)(u:t.ds.l.length<=1000000000):
 Calls prog 130 #[.agg t.g_,Y id,Y f] w λe w'=>e=.returned (Y (pe t.ds.l id f))/\I [] w w':=by
 have s:=P_ w 53 t.g_;have o:(w.alloc (.cells t.g_ 53)).cell? (Z w.heap.size 40)=some (.slice t.ds.A t.ds.l.length t.ds.c):=(s.f_ 40).trans rfl;obtain⟨A,a,l,c,m,b⟩:∃(A:OA) (a:Nat) (l:List Dl),t.ds.A=A/\t.ds.c=a/\t.ds.l=l:=⟨_,_,_,rfl,rfl,rfl⟩;have j:=h.ds;rw[c,b]at j;rw[c,m,b]at o;rw[b]at u;have r:=U b;clear c m b h;rw[r.out];have p:=U (show pe l id f=iE (λa:Dl=>a.id==id&&a.f==f) l 0 from rfl);generalize K:l.length=i at*
 go_enter func130,ntmps130
 go_wp2
 go_loopw [12] (λd w'=>∃k:Nat,k<=i/\d=Y k/\pe l id f=iE (λa:Dl=>a.id==id&&a.f==f) (l.drop k) k/\I [] w w') (λd _=>i-(intOf d).toNat)
 case atStart=>exact⟨0,N_ _,rfl,p.out,(H _ _).alloc _⟩
 case round=>
  obtain⟨k,L,rfl,G,F⟩:=hrel;have E:=U G;clear G
  by_cases v:k<i
  .have n:k<l.length:=X;obtain⟨y,M,rfl,D,J,z,B,C⟩:=(j.hF F).at_ n
   by_cases t0:l[k].id=id
   .by_cases t1:l[k].f=f
    .have aS:=U (show(λa:Dl=>a.id==id&&a.f==f) l[k]=true by simp[t0,t1]);exact Ks
    .have aS:=U (show(λa:Dl=>a.id==id&&a.f==f) l[k]=false by simp[t0,t1]);exact J0
   .have aS:=U (show(λa:Dl=>a.id==id&&a.f==f) l[k]=false by simp[t0]);exact Kl
  .exact Mt
def oV(t:Tk)(id:Int)(w:World)(h:lh w t)(y:t.nw.l.length<=1000000000):
 Calls prog 128 #[.agg t.g_,Y id] w λe w'=>e=.returned (Y (jr (hX t.nw.l) id))/\I [] w w':=by
 have v:=P_ w 53 t.g_;have p:(w.alloc (.cells t.g_ 53)).cell? (Z w.heap.size 39)=some (.slice t.nw.A t.nw.l.length t.nw.c):=(v.f_ 39).trans rfl;obtain⟨A,l,a,d,m,c⟩:∃(A:OA) (l:Nat) (a:List Rw),t.nw.A=A/\t.nw.c=l/\t.nw.l=a:=⟨_,_,_,rfl,rfl,rfl⟩;have j:=h.nw;rw[d,c]at j;rw[d,m,c]at p;rw[c]at y;have u:=U c;clear d m c h;rw[u.out];have r:=U (show jr (hX a) id=iE (λb:Rw=>b.o.id==id) a 0 by unfold jr hX;exact oW _ _ _ _ λ_ _=>rfl);generalize J:a.length=i at*
 go_enter func128,ntmps128
 go_wp2
 go_loopw [10] (λf w'=>∃k:Nat,k<=i/\f=Y k/\jr (hX a) id=iE (λb:Rw=>b.o.id==id) (a.drop k) k/\I [] w w') (λf _=>i-(intOf f).toNat)
 case atStart=>exact⟨0,N_ _,rfl,r.out,(H _ _).alloc _⟩
 case round=>
  obtain⟨k,K,rfl,G,F⟩:=hrel;have E:=U G;clear G
  by_cases z:k<i
  .have n:k<a.length:=X;obtain⟨B,L,rfl,C,D⟩:=(j.hF F).at_ n
   by_cases t0:a[k].o.id=id
   .have aS:=U (show(λb:Rw=>b.o.id==id) a[k]=true by simp[t0]);have s:(a[k].o.id==id)=true:=zu t0;clear t0;exact Ma
   .have aS:=U (show(λb:Rw=>b.o.id==id) a[k]=false by simp[t0]);have s:(a[k].o.id==id)=false:=zu t0;exact KS
  .exact Mt
structure my(w:World)(A:OA)(c:Nat)(l:List Rw):Prop where
 os:Os w A l
 k5:l5 w l
 l3:l.length<=c
def my.hF{w w':World}{A:OA}{c:Nat}{l:List Rw}(h:my w A c l)(a:I [] w w'):my w' A c l:=⟨h.os.hF a,h.k5.hF a,h.l3⟩
def my.alloc{w:World}{A:OA}{c:Nat}{l:List Rw}(h:my w A c l)(o:Obj):my (w.alloc o) A c l:=h.hF ((H [] w).alloc o)
def my.it{w w':World}{A:OA}{c:Nat}{l:List Rw}{t:TypeId}(h:my w A c l)(b:Bk w g t cs)(d:56≠t)(e:38≠t)(a:I [g] w w'):my w' A c l:=
 ⟨Sl.it h.os b d a,h.k5.it b e a,h.l3⟩
def mt(P:List Ob)(w:World)(e:Ending)(w':World):Prop:=∃(A:OA) (c:Nat) (rs:List Rw),e=.returned (.agg #[.slice A rs.length c])/\my w' A c rs/\hX rs=P/\I [] w w'
def h7(l:List Rw):(hX l).length=l.length:=by simp[hX]
def tq{h:List Ob}{id f:Int}{v:Vl}:(kQ h id f v).length=h.length:=by simp[kQ]
def ye(h:List Ob)(c:Cl):(p7 h c).length=h.length:=by
 unfold p7;split
 .rfl
 .exact tq
def jW(h:List Ob)(l:List Cl):(ja h l).length=h.length:=by
 unfold ja
 induction l generalizing h with
 |nil=>rfl
 |cons b l a=>rw[Hf,a,ye]
def qu{h:List Ob}{l:List Cl}(a:k<l.length):ja h (l.take (k+1))=p7 (ja h (l.take k)) l[k]:=by
 unfold ja;rw[T_ a,Hg]
 rfl
def nU(A:OA)(c:Nat)(l:List Rw)(y:OA)(d:Nat)(cs:List Cl)(w:World)(h:my w A c l)(hn:l.length<=1000000000)(hc:Cs w y cs)(cF:cs.length<=1000000000):
 Calls prog 125 #[.agg #[.slice A l.length c],.slice y cs.length d] w (mt (ja (hX l) cs) w):=by
 obtain⟨B,E,o⟩:=pZ w 35 #[.slice A l.length c] 35 #[n_];have Q:=h.hF o;have ad:=U (show l.length=(hX l).length from(h7 l).symm);generalize R:cs.length=n at*;have j:=U R;clear R
 go_enter func125,ntmps125
 go_wp2
 go_loopw [11] (λu wr=>∃(k:Nat) (A':OA) (c':Nat) (rs:List Rw),k<=n/\u=Y k/\Bk wr w.heap.size 35 #[.slice A' rs.length c']/\Bk wr (w.heap.size+1) 35 #[n_]/\my wr A' c' rs/\hX rs=ja (hX l) (cs.take k)/\I [] w wr) (λu _=>n-(intOf u).toNat)
 case atStart=>exact⟨0,A,c,l,N_ _,rfl,B,E,Q,rfl,o⟩
 case round=>
  obtain⟨k,A',c',rs,hk,rfl,s,P,z,L,F⟩:=hrel;have q:=U L;clear L B E Q o
  by_cases W:k<n
  .have C:k<cs.length:=by rw[j.out];exact W
   obtain⟨ah,off,V,bj,bz,Z,bQ⟩:=(hc.hF F).at_ C;subst V;have M:=U (show ja (hX l) (cs.take (k+1))=p7 (hX rs) cs[k] by rw[q.out];exact qu C)
   have D:rs.length<=1000000000:=by
    have:=h7 rs
    rw[q.out,jW]at this;have h2:=ad.out;omega
   generalize cs[k]=x at*;obtain⟨g,f,b⟩:=x;simp only at bj bz Z bQ;have a:=(H [] wr).alloc (.cells #[Y g,Y f,.bool b.r,Y b.n] 116);have aV:=(s.alloc (.cells #[Y g,Y f,.bool b.r,Y b.n] 116)).f_ 0
   cases m:jy (hX rs) g f with
   |none=>
    have r:=U (show p7 (hX rs) ⟨g,f,b⟩=hX rs by unfold p7;simp only[m])
    go_wp2_with (go_at_call 149;((with_reducible refine(qv A' c' rs g f b (z.hF a).os (z.hF a).k5 D m).mono ?_);rintro ai K⟨rfl,e⟩;have i:=((s.hF a).hF e).alloc (.cells #[n_] 35)))
    go_roundw
    case rel=>exact⟨k+1,A',c',rs,X,gn,i,((P.hF a).hF e).alloc _,((z.hF a).hF e).alloc _,by rw[M.out,r.out],((F.trans a).trans e).alloc _⟩
    case measure=>exact mz
   |some aj=>
    have r:=U (show p7 (hX rs) ⟨g,f,b⟩=kQ (hX rs) g f b by unfold p7;simp only[m])
    go_wp2_with (go_at_call 149;((with_reducible refine(ol A' c' rs g f b aj (z.hF a).os (z.hF a).k5 D m).mono ?_);rintro ai K⟨t,p,v,rfl,S,ak,cD,N,e⟩;have T:=U N;clear N;have i:=((s.hF a).hF e).alloc (.cells #[.slice t v.length p] 35);have z0:=i.f_ 0;have bB:=i.hG 0;have hD:=P_ K 35 #[.slice t v.length p];have MV:=hD.f_ 0))
    go_roundw
    case rel=>exact⟨k+1,t,p,v,X,gn,i.hV 0 _,(((P.hF a).hF e).alloc _).ih J _,((my.mk ak cD S).alloc _).it i O O ((H _ _).setCell (.inl J) _),by rw[M.out,r.out,T.out],(((F.trans a).trans e).alloc _).setCell (.inr J) _⟩
    case measure=>exact mz
  .exact Jn
def Bd(h:List Ob)(c:Dl):(pb h c).length=h.length:=by
 unfold pb;split
 .rfl
 .split
  .exact tq
  .rfl
def nX(h:List Ob)(l:List Dl):(kj h l).length=h.length:=by
 unfold kj
 induction l generalizing h with
 |nil=>rfl
 |cons b l a=>rw[Hf,a,Bd]
def uX{h:List Ob}{l:List Dl}(a:k<l.length):kj h (l.take (k+1))=pb (kj h (l.take k)) l[k]:=by
 unfold kj;rw[T_ a,Hg]
 rfl
def rM(A:OA)(c:Nat)(l:List Rw)(Q:OA)(d:Nat)(ds:List Dl){w:World}(h:my w A c l)(hn:l.length<=1000000000)(hc:Ds w Q ds)(cF:ds.length<=1000000000):
 Calls prog 124 #[.agg #[.slice A l.length c],.slice Q ds.length d] w (mt (kj (hX l) ds) w):=by
 obtain⟨S,Z,K⟩:=pZ w 35 #[.slice A l.length c] 35 #[n_];have ah:=h.hF K;have ai:=U (show l.length=(hX l).length from(h7 l).symm);generalize ak:ds.length=n at*;have j:=U ak;clear ak
 go_enter func124,ntmps124
 go_wp2
 go_loopw [13] (λN wr=>∃(k:Nat) (A':OA) (c':Nat) (rs:List Rw),k<=n/\N=Y k/\Bk wr w.heap.size 35 #[.slice A' rs.length c']/\Bk wr (w.heap.size+1) 35 #[n_]/\my wr A' c' rs/\hX rs=kj (hX l) (ds.take k)/\I [] w wr) (λN _=>n-(intOf N).toNat)
 case atStart=>exact⟨0,A,c,l,N_ _,rfl,S,Z,ah,rfl,K⟩
 case round=>
  obtain⟨k,A',c',rs,hk,rfl,s,P,z,bD,F⟩:=hrel;have q:=U bD;clear bD S Z ah K
  by_cases af:k<n
  .have T:k<ds.length:=by rw[j.out];exact af
   obtain⟨al,off,aZ,bj,bz,bP,bQ,be⟩:=(hc.hF F).at_ T;subst aZ;have bR:=U (show kj (hX l) (ds.take (k+1))=pb (hX rs) ds[k] by rw[q.out];exact uX T)
   have D:rs.length<=1000000000:=by
    have:=h7 rs
    rw[q.out,nX]at this;have h2:=ai.out;omega
   generalize ds[k]=x at*;obtain⟨g,m,o,b⟩:=x;simp only at bj bz bP bQ be;have a:Bk (wr.alloc (.cells #[Y g,Y m,Y o,.bool b.r,Y b.n] 124)) wr.heap.size 124 #[Y g,Y m,Y o,.bool b.r,Y b.n]:=P_ wr _ _;have s:=s.alloc (.cells #[Y g,Y m,Y o,.bool b.r,Y b.n] 124);have P:=P.alloc (.cells #[Y g,Y m,Y o,.bool b.r,Y b.n] 124);have z:=z.alloc (.cells #[Y g,Y m,Y o,.bool b.r,Y b.n] 124);have F:=F.alloc (.cells #[Y g,Y m,Y o,.bool b.r,Y b.n] 124);have aV:=s.f_ 0;have MV:=a.f_ 0;have MU:=a.f_ 1
   cases v:jy (hX rs) g m with
   |none=>
    have bU:=U (show pb (hX rs) ⟨g,m,o,b⟩=hX rs by unfold pb;simp only[v]);obtain⟨e,u⟩:=mn_ (iK o default b);have E:=U u;clear u
    go_wp2_with (first|(go_at_call 148;((with_reducible refine(kB A' c' rs g m _ z.os z.k5 D).mono ?_);rintro y C⟨rfl,f⟩;rw[v];simp only[HN,HV];have s:=(s.hF f).alloc (.cells (V_ (default:Vl)) 38);have P:=(P.hF f).alloc (.cells (V_ (default:Vl)) 38);have a:=(a.hF f).alloc (.cells (V_ (default:Vl)) 38);have z:=(z.hF f).alloc (.cells (V_ (default:Vl)) 38);have F:=(F.trans f).alloc (.cells (V_ (default:Vl)) 38);have r:=P_ C 38 (V_ (default:Vl));have au:=a.f_ 2;have V:=a.f_ 3;have ar:=a.f_ 4;have z0:=r.f_ 0;have W:=r.f_ 1))|(go_at_call 164;((with_reducible refine(mL o _ b).mono ?_);rintro y L⟨t,i⟩;unfold qt at t;subst t;rw[E.out];have s:=(s.hF i).alloc (.cells (V_ e.1) 38);have P:=(P.hF i).alloc (.cells (V_ e.1) 38);have z:=(z.hF i).alloc (.cells (V_ e.1) 38);have F:=(F.trans i).alloc (.cells (V_ e.1) 38))))
    exact Lm
   |some p=>
    obtain⟨e,u⟩:=mn_ (iK o p b);have E:=U u
    by_cases B:e.2=0
    .have bU:=U (show pb (hX rs) ⟨g,m,o,b⟩=kQ (hX rs) g m e.1 by unfold pb;simp only[v,u,B,if_true]);have an:(e.2==0)=true:=zu B;clear u B
     go_wp2_with (first|(go_at_call 148;((with_reducible refine(kB A' c' rs g m _ z.os z.k5 D).mono ?_);rintro y C⟨rfl,f⟩;rw[v];simp only[GI,Hs];have s:=(s.hF f).alloc (.cells (V_ p) 38);have P:=(P.hF f).alloc (.cells (V_ p) 38);have a:=(a.hF f).alloc (.cells (V_ p) 38);have z:=(z.hF f).alloc (.cells (V_ p) 38);have F:=(F.trans f).alloc (.cells (V_ p) 38);have r:=P_ C 38 (V_ p);have au:=a.f_ 2;have V:=a.f_ 3;have ar:=a.f_ 4;have z0:=r.f_ 0;have W:=r.f_ 1))|(go_at_call 164;((with_reducible refine(mL o _ b).mono ?_);rintro y L⟨t,i⟩;unfold qt at t;subst t;rw[E.out];have s:=(s.hF i).alloc (.cells (V_ e.1) 38);have P:=(P.hF i).alloc (.cells (V_ e.1) 38);have a:=(a.hF i).alloc (.cells (V_ e.1) 38);have z:=(z.hF i).alloc (.cells (V_ e.1) 38);have F:=(F.trans i).alloc (.cells (V_ e.1) 38);have R:=P_ L 38 (V_ e.1);have aV:=s.f_ 0;have MV:=a.f_ 0;have MU:=a.f_ 1;have cO:=R.f_ 0;have bO:=R.f_ 1))|(go_at_call 149;((with_reducible refine(ol A' c' rs g m e.1 p z.os z.k5 D v).mono ?_);rintro y MT⟨bg,aO,ap,rfl,aq,av,cD,aw,M⟩;have ax:=U aw;clear aw;have s:=s.hF M;have P:=P.hF M;have F:=F.trans M;have aV:=s.f_ 0;have bB:=s.hG 0)))
     go_roundw
     case rel=>exact⟨k+1,bg,aO,ap,X,gn,s.hV 0 _,P.ih J _,(my.mk av cD aq).it s O O ((H _ _).setCell (.inl J) _),by rw[bR.out,bU.out,ax.out],F.setCell (.inr J) _⟩
     case measure=>exact mz
    .have bU:=U (show pb (hX rs) ⟨g,m,o,b⟩=hX rs by unfold pb;simp only[v,u,B,if_false]);have an:(e.2==0)=false:=zu B;clear u B
     go_wp2_with (first|(go_at_call 148;((with_reducible refine(kB A' c' rs g m _ z.os z.k5 D).mono ?_);rintro y C⟨rfl,f⟩;rw[v];simp only[GI,Hs];have s:=(s.hF f).alloc (.cells (V_ p) 38);have P:=(P.hF f).alloc (.cells (V_ p) 38);have a:=(a.hF f).alloc (.cells (V_ p) 38);have z:=(z.hF f).alloc (.cells (V_ p) 38);have F:=(F.trans f).alloc (.cells (V_ p) 38);have r:=P_ C 38 (V_ p);have au:=a.f_ 2;have V:=a.f_ 3;have ar:=a.f_ 4;have z0:=r.f_ 0;have W:=r.f_ 1))|(go_at_call 164;((with_reducible refine(mL o _ b).mono ?_);rintro y L⟨t,i⟩;unfold qt at t;subst t;rw[E.out];have s:=(s.hF i).alloc (.cells (V_ e.1) 38);have P:=(P.hF i).alloc (.cells (V_ e.1) 38);have z:=(z.hF i).alloc (.cells (V_ e.1) 38);have F:=(F.trans i).alloc (.cells (V_ e.1) 38))))
     exact Lm
  .exact Jn
def sn(E:α->List Value)(j:∀m,(E m).length=3){w:World}{e:TypeId}{l:List α}(q:k<l.length)(r:α){d f c:Value}(v:E r=[d,f,c])(p:Bk w g e cur)(h:∀(i:Nat) (u:Value),(l.flatMap E)[i]?=some u->cur[i]?=some u){n:Nat}(t:l.length=n):
 Sl (((w.setCell (Z g (k*3)) d).setCell (Z g (k*3+1)) f).setCell (Z g (k*3+2)) c) e 3 (j_ g) n ((l.set k r).flatMap E):=by
 subst t;have o:=(((p.hV (k*3) d).hV (k*3+1) f).hV (k*3+2) c);have iN:=ko E 3 j l
 have y:k*3+2<cur.size:=by
  have s:k*3+2<(l.flatMap E).length:=X
  have:=h _ _ (K_ s)
  rcases FW (k*3+2) cur.size with h|h
  .exact h
  .exact MM
 refine⟨by rw[ko E 3 j];simp,λ_=>⟨g,0,_,_,rfl,o,λb u a=>?_⟩⟩;rw[W_];refine qF E 3 j X l k q r cur h (λb u a=>?_) (λi z=>?_) b u a
 .rw[v]at a
  match b,a with
  |0,a=>simp only[Gz,Option.some.injEq]at a;subst a;rw[L_,R_ X];rw[L_,R_ X];rw[L_,U_ X,U_ (by first|omega|(simp;omega))]
  |1,a=>simp only[G4,Gz,Option.some.injEq]at a;subst a;rw[L_,R_ X];rw[L_,U_ X,U_ (by first|omega|(simp;omega))]
  |2,a=>simp only[G4,Gz,Option.some.injEq]at a;subst a;rw[L_,U_ X,U_ (by first|omega|(simp;omega))]
  |b+3,a=>simp at a
 .rw[L_,R_ X];rw[L_,R_ X];rw[L_,R_ X]
def Ce(E:α->List Value)(m:∀o,(E o).length=4){w:World}{e:TypeId}{l:List α}(s:k<l.length)(r:α){d j c f:Value}(y:E r=[d,j,c,f])(q:Bk w g e cur)(h:∀(i:Nat) (u:Value),(l.flatMap E)[i]?=some u->cur[i]?=some u){n:Nat}(v:l.length=n):
 Sl ((((w.setCell (Z g (k*4)) d).setCell (Z g (k*4+1)) j).setCell (Z g (k*4+2)) c).setCell (Z g (k*4+3)) f) e 4 (j_ g) n ((l.set k r).flatMap E):=by
 subst v;have p:=((((q.hV (k*4) d).hV (k*4+1) j).hV (k*4+2) c).hV (k*4+3) f);have iN:=ko E 4 m l
 have z:k*4+3<cur.size:=by
  have t:k*4+3<(l.flatMap E).length:=X
  have:=h _ _ (K_ t)
  rcases FW (k*4+3) cur.size with h|h
  .exact h
  .exact MM
 refine⟨by rw[ko E 4 m];simp,λ_=>⟨g,0,_,_,rfl,p,λb u a=>?_⟩⟩;rw[W_];refine qF E 4 m X l k s r cur h (λb u a=>?_) (λi B=>?_) b u a
 .rw[y]at a
  match b,a with
  |0,a=>simp only[Gz,Option.some.injEq]at a;subst a;rw[L_,R_ X];rw[L_,R_ X];rw[L_,R_ X];rw[L_,U_ X,U_ (by first|omega|(simp;omega))]
  |1,a=>simp only[G4,Gz,Option.some.injEq]at a;subst a;rw[L_,R_ X];rw[L_,R_ X];rw[L_,U_ X,U_ (by first|omega|(simp;omega))]
  |2,a=>simp only[G4,Gz,Option.some.injEq]at a;subst a;rw[L_,R_ X];rw[L_,U_ X,U_ (by first|omega|(simp;omega))]
  |3,a=>simp only[G4,Gz,Option.some.injEq]at a;subst a;rw[L_,U_ X,U_ (by first|omega|(simp;omega))]
  |b+4,a=>simp at a
 .rw[L_,R_ X];rw[L_,R_ X];rw[L_,R_ X];rw[L_,R_ X]
def Sl.Ck{E:α->List Value}{s:Nat}(f:∀c,(E c).length=s){w:World}{l:List α}(h:Sl w ty s (j_ g) l.length (l.flatMap E))(j:k<l.length):
 ∀a u,(E l[k])[a]?=some u->w.cell? (Z g (k*s+a))=some u:=by
 obtain⟨n,o,b,i⟩:=Sl.row f h j;injection b with b;injection b with d e;subst d;subst e;intro a u m
 have:=i a u m
 rwa [W_]at this
def se(P:List Cl)(w:World)(e:Ending)(w':World):Prop:=∃(A:OA) (d:Nat),e=.returned (.slice A P.length d)/\Cs w' A P/\P.length<=d/\I [] w w'
def ry(l:List Cl)(id f:Int): -1<=cat l id f/\cat l id f<l.length:=by
 have:=mH (λa:Cl=>a.id==id&&a.f==f) l 0
 unfold cat;exact MR
def BL(A:OA)(d:Nat)(l:List Cl)(id f:Int)(n:Nat)(w:World)(h:Cs w A l)(a:Hid (l.length=n))(c:n<=1000000000):
 Calls prog 129 #[.slice A n d,Y id,Y f] w λe w'=>e=.returned (Y (cat l id f))/\I [] w w':=by
 have b:=a.out;subst b;exact lQ A d l id f w h c
def za(A:OA)(d:Nat)(l:List Cl)(c:Cl)(x:Nat)(w:World)(h:Cs w A l)(z:l.length<=1000000000)(M:cat l c.id c.f=x):
 Calls prog 98 #[.slice A l.length d,.agg #[Y c.id,Y c.f,.bool c.v.r,Y c.v.n]] w (se (kz l c) w):=by
 obtain⟨Q,P,N,F,S⟩:=info_parts infoCl;have D:=(H [] w).alloc (.cells #[Y c.id,Y c.f,.bool c.v.r,Y c.v.n] 116);have a:=P_ w 116 #[Y c.id,Y c.f,.bool c.v.r,Y c.v.n];have r:=Sl.alloc h (.cells #[Y c.id,Y c.f,.bool c.v.r,Y c.v.n] 116);have s:x<l.length:=ov (ry l c.id c.f);have K:=U (show kz l c=l.set x c by unfold kz;rw[M,U_ X,Gs]);have y:=s;have E:=U M;clear M;have o:=U (show(l.set x c).length=l.length by simp);obtain⟨p,n⟩:=mn_ l.length;rw[n]at s z r |-;have m:=U n;clear n;have bY:(x:Int)<(p:Int):=X
 go_enter func98,ntmps98
 go_wp2_with (at_builtin;refine iJ _ rfl (.const (n_)) (.tmp 7) 50 rfl (w.heap.size+1) 116 Q _ 4 32 underlying50 P N F S rfl O O none 0 0 [] rfl (iT _ _ _ _) A p d _ rfl r (pJ _) X J ?_;intro W t B j v;simp only[W_,FY]at j;have a:=v.tK a X;have R:=v.gr [] w X D;have I:=a.f_ 0;have L:=a.f_ 1)
 obtain⟨g,cur,C,bF,b,T⟩:=kE j X;subst C
 have u:Cs B (j_ g) l:=by unfold Cs;rw[m.out];exact Sl.iR j
 go_wp2_with (go_at_call 129;((with_reducible refine(BL (j_ g) t l c.id c.f p B u m z).mono ?_);rintro ad i⟨rfl,f⟩;rw[E.out];have a:=a.hF f;have b:=b.hF f;have I:=a.f_ 0;have L:=a.f_ 1;have b2:=a.f_ 2;have b3:=a.f_ 3;have e:=Sl.Ck rx (u.hF f) y;have k0:i.cell? (Z g (x*4))=some _:=e 0 _ rfl;have bz:i.cell? (Z g (x*4+1))=some _:=e 1 _ rfl;have V:i.cell? (Z g (x*4+2))=some _:=e 2 _ rfl;have k3:i.cell? (Z g (x*4+3))=some _:=e 3 _ rfl;clear e;have bB:=b.hG (x*4);have bM:=b.hG (x*4+1);have ce:=b.hG (x*4+2);have du:=b.hG (x*4+3)))
 go_ret;unfold se;rw[K.out];refine⟨some (Z g 0),t,ot (by rw[o.out,m.out]),?_,by rw[o.out,m.out];exact iY j,?_⟩
 .exact Ce Cl.E rx y c rfl b T o.out.symm
 .exact((((R.trans f).setCell (.inr p_) _).setCell (.inr p_) _).setCell (.inr p_) _).setCell (.inr p_) _
def CS(l:List Cl)(id f:Int):tF l id f<=l.length:=pB _ _
def AS(A:OA)(d:Nat)(l:List Cl)(c:Cl)(w:World)(h:Cs w A l)(hn:l.length<=1000000000)(M:cat l c.id c.f<0):
 Calls prog 98 #[.slice A l.length d,.agg #[Y c.id,Y c.f,.bool c.v.r,Y c.v.n]] w (se (kz l c) w):=by
 obtain⟨T,S,R,y,V⟩:=info_parts infoCl;have MZ:=(H [] w).alloc (.cells #[Y c.id,Y c.f,.bool c.v.r,Y c.v.n] 116);have a:=P_ w 116 #[Y c.id,Y c.f,.bool c.v.r,Y c.v.n];have v:=Sl.alloc h (.cells #[Y c.id,Y c.f,.bool c.v.r,Y c.v.n] 116);have aS:=U (show kz l c=l.take (tF l c.id c.f)++([c]++l.drop (tF l c.id c.f)) by unfold kz;rw[R_ X]);have ad:=U (show cat l c.id c.f= -1 by have:=ry l c.id c.f;omega);clear M;have ae:=U (show tF l c.id c.f=0+mm (oG c.id c.f) (l.drop 0) by simp[tF]);have bV:=U (show ∀k,k=tF l c.id c.f->(l.take k++([c]++l.drop k)).length=k+(1+(l.length-k)) from λk hk=>by have:=CS l c.id c.f;simp;omega);obtain⟨e,B⟩:=mn_ l.length;rw[B]at hn v |-;have i:=U B;clear B
 go_enter func98,ntmps98
 go_wp2_with (at_builtin;refine iJ _ rfl (.const (n_)) (.tmp 7) 50 rfl (w.heap.size+1) 116 T _ 4 32 underlying50 S R y V rfl O O none 0 0 [] rfl (iT _ _ _ _) A e d _ rfl v (pJ _) X J ?_;intro ap E w2 t L;simp only[W_,FY]at t;have a:=L.tK a X;have bW:=L.gr [] w X MZ;have D:=a.f_ 0;have N:=a.f_ 1;have P:=a.f_ 2;have Q:=a.f_ 3)
 have j:Cs w2 ap l:=by unfold Cs;rw[i.out];exact Sl.iR t
 have aL:=iY t
 go_upto_block 0 with(go_at_call 129;((with_reducible refine(BL ap E l c.id c.f e w2 j i hn).mono ?_);rintro ak ag⟨rfl,r⟩;rw[ad.out];have a:=a.hF r;have D:=a.f_ 0;have N:=a.f_ 1;have P:=a.f_ 2;have Q:=a.f_ 3))
 have j:=j.hF r;have al:=bW.trans r;clear t L v MZ r bW
 go_cut [6] (λn a7=>∃k:Nat,n=Y k/\k<=e/\k=tF l c.id c.f/\I [] ag a7)
 case first=>
  go_wp2_with fail
  go_loopw [6] (λn w'=>∃k:Nat,n=Y k/\k<=e/\tF l c.id c.f=k+mm (oG c.id c.f) (l.drop k)/\I [] ag w') (λn _=>e-(intOf n).toNat)
  case atStart=>exact⟨0,rfl,N_ _,ae.out,H _ _⟩
  case round=>
   obtain⟨k,rfl,hk,o,F⟩:=hrel;have z:=U o;clear o;have b:=a.hF F;have aI:=b.f_ 0;have bL:=b.f_ 1;have bt:=b.f_ 2;have bM:=b.f_ 3;clear b D N P Q
   by_cases u:k<e
   .have m:k<l.length:=by rw[i.out];exact u
    have aK:(k:Int)<(e:Int):=X;obtain⟨am,off,cn,aW,bp,ck,co⟩:=(j.hF F).at_ m;subst cn
    by_cases t0:l[k].id<c.id
    .have bu:=U (oB (p:=oG c.id c.f) m (by simp[oG,t0]));have W:decide (l[k].id<c.id)=true:=zu t0;exact Ky
    .have W:decide (l[k].id<c.id)=false:=zu t0
     by_cases t1:l[k].id=c.id
     .have K:(l[k].id==c.id)=true:=zu t1
      by_cases ah:l[k].f<c.f
      .have bu:=U (oB (p:=oG c.id c.f) m (by simp[oG,t1,ah]));have C:decide (l[k].f<c.f)=true:=zu ah;exact Ko
      .have bu:=U (nL (p:=oG c.id c.f) m (by simp[oG,t1,ah]));have C:decide (l[k].f<c.f)=false:=zu ah;exact KX
     .have bu:=U (nL (p:=oG c.id c.f) m (by simp[oG,t0,t1]));have K:(l[k].id==c.id)=false:=zu t1;exact KZ
   .have bu:=U (rl (p:=oG c.id c.f) (l:=l) (k:=k) (by rw[i.out];omega));have aK:¬(k:Int)<(e:Int):=X;exact Lg
 case rest=>
  obtain⟨k,rfl,hk,aV,F⟩:=hcut;have br:=U aV;clear aV D N P Q;have b:=a.hF F;have aI:=b.f_ 0;have bL:=b.f_ 1;have bt:=b.f_ 2;have bM:=b.f_ 3;have aT:(0:Int)<=(k:Int):=X;have aN:(k:Int)<=(e:Int):=X;have aK:(k:Int)<=(E:Int):=X;have C:=j.hF F;have bj:=(Sl.x1 rx C (show k<=l.length by rw[i.out];exact hk)).hF ((H [] wc).alloc (.cells #[Y c.id,Y c.f,.bool c.v.r,Y c.v.n] 116)).drew;have a2:=(Sl.yn rx C (show k<=l.length by rw[i.out];exact hk) E (by rw[i.out];exact aL)).hF ((H [] wc).alloc (.cells #[Y c.id,Y c.f,.bool c.v.r,Y c.v.n] 116)).drew;have aF:=U (show ∀W∈(#[Y c.id,Y c.f,.bool c.v.r,Y c.v.n]:Array Value).toList++(l.drop k).flatMap Cl.E,W.oneCell'=true from λW hu=>pJ (c::l.drop k) W hu);rw[i.out]at a2;have bI:=kP (s:=4) (P_ wc.drew 116 #[Y c.id,Y c.f,.bool c.v.r,Y c.v.n]) rfl;have b9:=al.trans F;have g:=b.drew;clear a b j F al C
  go_wp2_with fail
  go_region_held3 (λw'=>w'.cell? (Z w.heap.size 0)=some (Y c.id)/\w'.cell? (Z w.heap.size 1)=some (Y c.f)/\w'.cell? (Z w.heap.size 2)=some (.bool c.v.r)/\w'.cell? (Z w.heap.size 3)=some (Y c.v.n)) (first|exact dP|exact dQ|go_keep)
   (first
     |(refine mC _ r_ (.tmp 63) (.tmp 66) 50 r_ 116 T _ 4 32 underlying50 S R y V rfl O O _ 1 _ r_ bI _ (e-k) _ _ r_ a2 (pJ _) X ?_;intro u c5 o G bH K;have m:=(g.alloc (.cells #[Y c.id,Y c.f,.bool c.v.r,Y c.v.n] 116)).hF K;have dP:o.cell? (Z w.heap.size 0)=some (Y c.id)/\o.cell? (Z w.heap.size 1)=some (Y c.f)/\o.cell? (Z w.heap.size 2)=some (.bool c.v.r)/\o.cell? (Z w.heap.size 3)=some (Y c.v.n):=⟨m.f_ 0,m.f_ 1,m.f_ 2,m.f_ 3⟩)
     |(refine mC _ r_ (.tmp 61) (.tmp 67) 50 r_ 116 T _ 4 32 underlying50 S R y V rfl O O _ k _ r_ (bj.hF K) _ (1+(e-k)) _ _ r_ bH aF.out X ?_;intro aH aE u bO bY ay;have o:=m.hF ay;have dQ:u.cell? (Z w.heap.size 0)=some (Y c.id)/\u.cell? (Z w.heap.size 1)=some (Y c.f)/\u.cell? (Z w.heap.size 2)=some (.bool c.v.r)/\u.cell? (Z w.heap.size 3)=some (Y c.v.n):=⟨o.f_ 0,o.f_ 1,o.f_ 2,o.f_ 3⟩))
  go_wp2
  all_goals
   go_ret;unfold se;have iN:=bV.out k br.out;rw[i.out]at iN;rw[aS.out,<-br.out];refine⟨aH,aE,ot iN.symm,?_,by rw[iN];exact bO,(((b9.alloc _).drew).trans K).trans ay⟩;unfold Cs;rw[iN,F8,F8,HJ];exact bY
def ri(A:OA)(d:Nat)(l:List Cl)(c:Cl){w:World}(h:Cs w A l)(a:l.length<=1000000000):
 Calls prog 98 #[.slice A l.length d,.agg #[Y c.id,Y c.f,.bool c.v.r,Y c.v.n]] w (se (kz l c) w):=by
 by_cases b:cat l c.id c.f<0
 .exact AS A d l c w h a b
 .exact za A d l c (cat l c.id c.f).toNat w h a (GM X).symm
def yD(A:OA)(c:Nat)(l:List Rw){a:OA}(d:Nat)(cs:List Cl)(n:Nat){w:World}(h:my w A c l)(i:l.length<=1000000000)(hc:Cs w a cs)(f:Hid (cs.length=n))(b:n<=1000000000):
 Calls prog 125 #[.agg #[.slice A l.length c],.slice a n d] w (mt (ja (hX l) cs) w):=by
 have e:=f.out;subst e;exact nU A c l a d cs w h i hc b
def DJ{w:World}(x:Cl):Cs (w.alloc (.cells #[Y x.id,Y x.f,.bool x.v.r,Y x.v.n] 116)) (j_ w.heap.size) [x]:=kP (s:=4) (P_ w 116 #[Y x.id,Y x.f,.bool x.v.r,Y x.v.n]) rfl
def yq(rs:List Cl)(a:List Cl)(h:List Ob):(a.foldl (kG rs) h).length=h.length:=by
 induction a generalizing h with
 |nil=>rfl
 |cons g c b=>
  rw[Hf,b];unfold kG;split
  .exact jW _ _
  .rfl
def mJ(t:i3)(h:List Ob):(before t h).length=h.length:=by unfold before;rw[jW,yq]
def o1(t:Tk)(A:OA)(c:Nat)(l:List Rw){w:World}(u:lh w t)(h:my w A c l)(hn:l.length<=1000000000)(da:t.gs.l.length<=1000000000)(y:t.rs.l.length<=1000000000):
 Calls prog 122 #[.agg t.g_,.agg #[.slice A l.length c]] w (mt (before t.p (hX l)) w):=by
 obtain⟨b,ao,e,a,v⟩:=Da w 53 t.g_ 35 #[.slice A l.length c] 35 #[n_] 35 #[.slice A l.length c];have f:=h.hF v;have V:((((w.alloc (.cells t.g_ 53)).alloc (.cells #[.slice A l.length c] 35)).alloc (.cells #[n_] 35)).alloc (.cells #[.slice A l.length c] 35)).cell? (Z w.heap.size 36)=some (.slice t.gs.A t.gs.l.length t.gs.c):=(b.f_ 36).trans rfl;have W:=U (show before t.p (hX l)=ja (t.gs.l.foldl (kG t.rs.l) (hX l)) t.rs.l from rfl);have ad:=U (h7 l)
 go_enter func122,ntmps122
 go_wp2_with fail
 clear ao
 go_loopw [12] (λD wr=>∃(k:Nat) (n:OA) (o:Nat) (rs:List Rw),k<=t.gs.l.length/\D=Y k/\Bk wr w.heap.size 53 t.g_/\Bk wr (w.heap.size+1+1) 35 #[n_]/\Bk wr (w.heap.size+1+1+1) 35 #[.slice n rs.length o]/\my wr n o rs/\hX rs=(t.gs.l.take k).foldl (kG t.rs.l) (hX l)/\I [] w wr) (λD _=>t.gs.l.length-(intOf D).toNat)
 case atStart=>exact⟨0,A,c,l,N_ _,rfl,b,e,a,f,rfl,v⟩
 case round=>
  clear b e a f v V;obtain⟨k,n,o,rs,hk,rfl,b,e,a,f,z,d⟩:=hrel;have P:=U z
  have Q:rs.length<=1000000000:=by
   have:=h7 rs
   rw[z,yq,ad.out]at this;omega
  clear z
  by_cases af:k<t.gs.l.length
  .have K:=af;obtain⟨ae,off,aZ,bj,bz,bP,bQ⟩:=(u.gs.hF d).at_ K;rw[aZ];have M:=U (show(t.gs.l.take (k+1)).foldl (kG t.rs.l) (hX l)=kG t.rs.l (hX rs) t.gs.l[k] by rw[P.out,T_ K,Hg];rfl);generalize t.gs.l[k]=x at*;have aw:(k:Int)<(t.gs.l.length:Int):=X;have bq:(wr.alloc (.cells #[Y x.id,Y x.f,.bool x.v.r,Y x.v.n] 116)).cell? (Z w.heap.size 37)=some (.slice t.rs.A t.rs.l.length t.rs.c):=((b.alloc _).f_ 37).trans rfl;have j:=P_ wr 116 #[Y x.id,Y x.f,.bool x.v.r,Y x.v.n];replace b:=b.alloc (.cells #[Y x.id,Y x.f,.bool x.v.r,Y x.v.n] 116);replace e:=e.alloc (.cells #[Y x.id,Y x.f,.bool x.v.r,Y x.v.n] 116);replace a:=a.alloc (.cells #[Y x.id,Y x.f,.bool x.v.r,Y x.v.n] 116);replace f:=f.alloc (.cells #[Y x.id,Y x.f,.bool x.v.r,Y x.v.n] 116);replace d:=d.alloc (.cells #[Y x.id,Y x.f,.bool x.v.r,Y x.v.n] 116);have T:=j.f_ 0;have S:=j.f_ 1
   by_cases N:cat t.rs.l x.id x.f<0
   .have B:=U (show kG t.rs.l (hX rs) x=ja (hX rs) [x] by unfold kG;rw[U_ N])
    go_wp2_with (first|(go_at_call 129;((with_reducible refine(lQ t.rs.A t.rs.c t.rs.l x.id x.f _ (u.hF d).rs y).mono ?_);rintro C ag⟨rfl,i⟩;replace b:=b.hF i;replace e:=e.hF i;replace a:=a.hF i;replace j:=j.hF i;replace f:=f.hF i;replace d:=d.trans i;replace L:=a.f_ 0;replace T:=j.f_ 0;replace S:=j.f_ 1;replace au:=j.f_ 2;replace aP:=j.f_ 3))|(go_at_call 125;((with_reducible refine(yD n o rs 1 [x] 1 (f.alloc _) Q (DJ x) (U rfl) X).mono ?_);unfold mt;rintro C R⟨q,r,p,rfl,F,s,m⟩;have E:=U s;clear s;replace d:=(d.alloc (.cells #[Y x.id,Y x.f,.bool x.v.r,Y x.v.n] 116)).trans m;replace b:=(b.alloc (.cells #[Y x.id,Y x.f,.bool x.v.r,Y x.v.n] 116)).hF m;replace e:=(e.alloc (.cells #[Y x.id,Y x.f,.bool x.v.r,Y x.v.n] 116)).hF m;replace a:=(a.alloc (.cells #[Y x.id,Y x.f,.bool x.v.r,Y x.v.n] 116)).hF m;replace L:=a.f_ 0;have bB:=a.hG 0)))
    go_roundw
    case rel=>exact⟨k+1,q,r,p,X,gn,b.ih sd_ _,e.ih sd_ _,a.hV 0 _,F.it a O O ((H _ _).setCell (.inl J) _),by rw[M.out,B.out,E.out],d.setCell (.inr p_) _⟩
    case measure=>exact mz
   .have B:=U (show kG t.rs.l (hX rs) x=hX rs by unfold kG;rw[R_ N])
    go_wp2_with (go_at_call 129;((with_reducible refine(lQ t.rs.A t.rs.c t.rs.l x.id x.f _ (u.hF d).rs y).mono ?_);rintro C ag⟨rfl,i⟩;replace b:=b.hF i;replace e:=e.hF i;replace a:=a.hF i;replace f:=f.hF i;replace d:=d.trans i))
    go_roundw
    case rel=>exact⟨k+1,n,o,rs,X,gn,b,e,a,f,by rw[M.out,B.out],d⟩
    case measure=>exact mz
  .have j:=U (show k=t.gs.l.length by omega);have aw:¬(k:Int)<(t.gs.l.length:Int):=X;have L:=a.f_ 0;have bq:wr.cell? (Z w.heap.size 37)=some (.slice t.rs.A t.rs.l.length t.rs.c):=(b.f_ 37).trans rfl
   go_wp2_with (go_at_call 125;((with_reducible refine(nU n o rs t.rs.A t.rs.c t.rs.l _ f Q (u.hF d).rs y).mono ?_);unfold mt;rintro C R⟨q,r,p,rfl,F,s,m⟩;have E:=U s;clear s;have i:=e.hF m;have M:=i.hG 0;have K:=i.f_ 0))
   have B:=i.hV 0 (.slice q p.length r);refine rr_ #[.slice q p.length r] B underlying35 ⟨q,r,p,rfl,?_,?_,?_⟩
   .exact F.it i O O ((H _ _).setCell (.inl J) _)
   .rw[E.out,P.out,W.out,j.out,GR]
   .exact(d.trans m).setCell (.inr p_) _
def i0{α:Type}(p:α->Bool)(l:List α):Bool:=l.any p
def o2{p:α->Bool}{l:List α}(a:k<l.length)(b:p l[k]=true):i0 p (l.drop k)=true:=by
 unfold i0;rw[Q_ a];simp only[H4,b,Ie]
def oI{p:α->Bool}{l:List α}(a:k<l.length)(b:p l[k]=false):i0 p (l.drop k)=i0 p (l.drop (k+1)):=by
 unfold i0;rw[Q_ a];simp only[H4,b,HH]
def qX{p:α->Bool}{l:List α}(a:l.length<=k):i0 p (l.drop k)=false:=by
 unfold i0;rw[Gb a]
 rfl
def Ns(w:World)(ty:TypeId)(A:OA)(l:List Int):Prop:=Sl w ty 1 A l.length (l.map (Value.int .i64))
def Ns.hF{w w':World}{A:OA}{l:List Int}(h:Ns w ty A l)(a:I [] w w'):Ns w' ty A l:=Sl.hF h a
def Ns.at_{w:World}{A:OA}{l:List Int}(h:Ns w ty A l)(d:k<l.length):∃b c,A=some (Z b c)/\w.cell? (Z b (c+k))=some (Y l[k]):=by
 obtain⟨b,c,j,f,a,i⟩:=Sl.at_ h d
 have e:(l.map (Value.int .i64))[k]?=some (Y l[k]):=by simp[K_ d]
 rw[e]at a;injection a with a;subst a;exact⟨b,c,f,i⟩
def o3(A:OA)(c:Nat)(l:List Int)(s:Int){w:World}(h:Ns w 3 A l)(C:l.length<=1000000000):
 Calls prog 82 #[.agg #[.slice A l.length c],Y s] w λe w'=>e=.returned (.bool (i0 (λx=>x==s) l))/\I [] w w':=by
 have n:=U (show i0 (λx=>x==s) l=i0 (λx=>x==s) (l.drop 0) from rfl);have r:=P_ w 32 #[.slice A l.length c];have t:=r.f_ 0;generalize z:l.length=m at*
 go_enter func82,ntmps82
 go_wp2
 go_loopw [10] (λj w'=>∃k:Nat,k<=m/\j=Y k/\i0 (λx=>x==s) l=i0 (λx=>x==s) (l.drop k)/\I [] w w') (λj _=>m-(intOf j).toNat)
 case atStart=>exact⟨0,N_ _,rfl,n.out,(H _ _).alloc _⟩
 case round=>
  obtain⟨k,B,rfl,G,d⟩:=hrel;have f:=U G;clear G
  by_cases u:k<m
  .have i:k<l.length:=X;obtain⟨v,D,rfl,y⟩:=(h.hF d).at_ i
   by_cases a:l[k]=s
   .have b:=U (o2 (p:=λx=>x==s) i (zu a));have o:(l[k]==s)=true:=zu a;clear a;go_wp2;go_ret;exact⟨iH (by rw[f.out,b.out]),d⟩
   .have b:=U (oI (p:=λx=>x==s) i (zu a));have o:(l[k]==s)=false:=zu a;clear a;go_wp2;go_roundw
    case rel=>exact⟨k+1,X,gn,by rw[f.out,b.out],d⟩
    case measure=>exact mz
  .have b:=U (qX (p:=λx=>x==s) (l:=l) (k:=k) X);go_wp2;go_ret;exact⟨iH (by rw[f.out,b.out]),d⟩
def ju(l:List Int)(n:Int):Int:=if 0<=n/\n<(l.length:Int) then l.getD n.toNat 0 else 0
def xQ(A:OA)(c:Nat)(l:List Int)(n:Int){w:World}(h:Ns w 2 A l)(q:l.length<=1000000000):
 Calls prog 94 #[.agg #[.slice A l.length c],Y n] w λe w'=>e=.returned (Y (ju l n))/\I [] w w':=by
 have i:=P_ w 29 #[.slice A l.length c];have MZ:=(H [] w).alloc (.cells #[.slice A l.length c] 29);have j:=i.f_ 0
 by_cases a:0<=n
 .by_cases f:n<(l.length:Int)
  .have b:n.toNat<l.length:=X;obtain⟨k,d⟩:∃k:Nat,n=k:=⟨n.toNat,(GM a).symm⟩;have HA:=U (show ju l n=l[n.toNat] by unfold ju;rw[U_ ⟨a,f⟩];simp[List.getD,K_ b]);obtain⟨m,r,rfl,o⟩:=(h.hF MZ).at_ b;have p:¬(l.length:Int)<=n:=X;clear d;exact Mk
  .exact KU
 .exact KU
def lw(l:List Fo)(x:Int):Nat:=mm (λf:Fo=>decide (f.fr<x)) l
def pd(l:List Fo)(x:Int):Bool:=decide (lw l x<l.length)&&((l.getD (lw l x) default).fr==x)
def CQ{l:List Fo}(a:k<l.length)(h:lw l x=k):pd l x=(l[k].fr==x):=by
 unfold pd;rw[h];simp[a,List.getD]
def CO{l:List Fo}:lw l x<=l.length:=pB _ _
def qW(A:OA)(c:Nat)(l:List Fo)(x:Int){w:World}(h:Fs w A l)(L:l.length<=1000000000):
 Calls prog 99 #[.agg #[.slice A l.length c],Y x] w λe w'=>e=.returned (.tuple #[Y (lw l x),.bool (pd l x)])/\I [] w w':=by
 have z:=U (show lw l x=0+mm (λa:Fo=>decide (a.fr<x)) (l.drop 0) by simp[lw]);have b:=P_ w 96 #[.slice A l.length c];have t:=b.f_ 0
 go_enter func99,ntmps99
 go_wp2
 go_loopw [11] (λs w'=>∃k:Nat,k<=l.length/\s=Y k/\lw l x=k+mm (λa:Fo=>decide (a.fr<x)) (l.drop k)/\Bk w' w.heap.size 96 #[.slice A l.length c]/\I [] w w') (λs _=>l.length-(intOf s).toNat)
 case atStart=>exact⟨0,N_ _,rfl,z.out,b,(H _ _).alloc _⟩
 case round=>
  clear b t;obtain⟨k,K,rfl,G,b,i⟩:=hrel;have o:=U G;clear G
  by_cases v:k<l.length
  .have j:=v;have y:(k:Int)<(l.length:Int):=X;obtain⟨D,M,rfl,F,J,E⟩:=(h.hF i).at_ j;have u:=P_ wr 168 #[Y l[k].fr,Y l[k].dst,Y l[k].n];have C:=u.f_ 0
   by_cases m:l[k].fr<x
   .have f:=U (oB (p:=(λa:Fo=>decide (a.fr<x))) j (zu m));have B:¬x<=l[k].fr:=X;clear m;go_wp2;go_roundw
    case rel=>exact⟨k+1,X,gn,by rw[o.out,f.out];omega,b.alloc _,i.alloc _⟩
    case measure=>exact mz
   .have f:=U (nL (p:=(λa:Fo=>decide (a.fr<x))) j (zu m));have d:=U (show lw l x=k by rw[o.out,f.out];omega);have r:=U (CQ j d.out);have B:x<=l[k].fr:=X;clear m
    go_wp2_with fail
    go_quiet (fail)
    go_wp2
    go_ret2
    exact⟨by rw[d.out,r.out];rfl,(i.alloc _).drewN _⟩
  .have f:=U (rl (p:=(λa:Fo=>decide (a.fr<x))) (l:=l) (k:=k) X);have y:¬(k:Int)<(l.length:Int):=X;have d:=U (show lw l x=l.length by rw[o.out,f.out];omega);have r:=U (show pd l x=false by unfold pd;rw[d.out];simp);have t:=b.f_ 0;go_wp2
   go_ret2
   exact⟨by rw[d.out,r.out];rfl,i⟩
def zo(A:OA)(c:Nat)(l:List Fo)(x:Int){w:World}(h:Fs w A l)(j:l.length<=1000000000):
 Calls prog 101 #[.agg #[.slice A l.length c],Y x] w λe w'=>e=.returned (.tuple #[Y (if pd l x=true then(l.getD (lw l x) default).dst else 0),.bool (pd l x)])/\I [] w w':=by
 have i:=P_ w 96 #[.slice A l.length c];have b:=(H [] w).alloc (.cells #[.slice A l.length c] 96);have o:=i.f_ 0
 cases a:pd l x with
 |false=>
  have f:=U a;clear a
  go_enter func101,ntmps101
  go_wp2_with (go_at_call 99;((with_reducible refine(qW A c l x (h.hF b) j).mono ?_);rintro e n⟨rfl,d⟩;rw[f.out]))
  go_ret2
  exact⟨rfl,b.trans d⟩
 |true=>
  have m:=by
   unfold pd at a;simp at a;exact a.1
  have p:(lw l x:Int)<(l.length:Int):=X;have f:=U a;clear a
  go_enter func101,ntmps101
  go_wp2_with fail
  go_at_call 99
  refine(qW A c l x (h.hF b) j).mono ?_;rintro e n⟨rfl,d⟩;rw[f.out];have t:=(i.hF d).f_ 0;obtain⟨q,v,rfl,s,u,r⟩:=(h.hF (b.trans d)).at_ m;go_wp2
  go_ret2
  exact⟨by first|rfl|(rw[HD.out];rfl),b.trans d⟩
def DV(P:List Ac)(w:World)(e:Ending)(w':World):Prop:=∃(A:OA) (d:Nat),e=.returned (.slice A P.length d)/\As w' A P/\P.length<=d/\I [] w w'
def wE(A:OA)(c:Nat)(l:List Ac)(a:OA)(d:Nat)(m:List Ac){w:World}(h:As w A l)(F:As w a m)(L:l.length<=1000000000)(K:m.length<=1000000000):
 Calls prog 93 #[.slice A l.length c,.slice a m.length d] w (DV (l++m) w):=by
 obtain⟨o,n,j,f,q⟩:=info_parts infoAc;have r:Sl w 162 3 A l.length (l.flatMap Ac.E):=h
 have HM:Hid (∀w',I [] w w'->Sl w' 162 3 a m.length (m.flatMap Ac.E)):=U λw' E=>Sl.hF F E
 have D:w.heap.size<=w.heap.size:=H_ _
 go_enter func93,ntmps93
 go_wp2_with (first
  |(at_builtin;refine iJ _ rfl (.const (n_)) (.tmp 5) 36 rfl w.heap.size 162 o _ 3 24 underlying36 n j f q rfl O O none 0 0 [] rfl (iT _ _ _ _) A l.length c _ rfl r (tN) X D ?_;intro y v J i z;simp only[W_,FY]at i;have b:=z.gr [] w (H_ _) (H [] w);have t:=b.size;have C:=HM.out J b)
  |(at_builtin;refine iJ _ rfl (.tmp 6) (.tmp 7) 36 rfl w.heap.size 162 o _ 3 24 underlying36 n j f q rfl O O y l.length v _ rfl i a m.length d _ rfl C (tN) X t ?_;intro B u J p z;have s:=z.gr [] w (H_ _) b))
 go_ret;unfold DV;have e:(l++m).length=l.length+m.length:=J_;refine⟨B,u,ot e.symm,?_,by rw[e];exact iY p,s⟩;unfold As;rw[e,F8];exact Sl.iR p
