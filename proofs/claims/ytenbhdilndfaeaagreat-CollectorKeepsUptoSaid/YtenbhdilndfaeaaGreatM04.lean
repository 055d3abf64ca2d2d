import Derived.Test.YtenbhdilndfaeaaGreatM03
set_option maxRecDepth 100000
set_option maxHeartbeats 0
set_option linter.all false
namespace Go.Proofs.YtenbhdilndfaeaaGreat
open Go.RowKit Go.Proofs.Tryz
variable{G:Prop}{g k:Nat}{ty:TypeId}{cs cur:Array Value}{α:Type}{x:Int}
def JE(h:G:=by
 have a8:k=n:=X;have aT:=s.f_ 0;have bL:=P.hG 0;have bp:=P.f_ 0;go_wp2;have hE:=P.hU 0 (.slice A' rs.length c');refine rr_ #[.slice A' rs.length c'] hE underlying35 ⟨A',c',rs,rfl,?_,?_,?_⟩;exact z.iq P I I ((F_ _ _).setCell (.inl H) _);rw[q.out,a8,<-t.out,Hj];exact F.setCell (.inr H) _):G:=h
def Kk(h:G:=by
 have bz:(l[k].id==id)=true:=zu t0;have br:(l[k].f==f)=false:=zu t1;clear t0 t1;exact Lq):G:=h
def KG(h:G:=by
 have bz:(l[k].id==id)=false:=zu t0;exact Ld):G:=h
def KL(h:G:=by
 have bz:(l[k].id==id)=true:=zu t0;have br:(l[k].f==f)=true:=zu t1;clear t0 t1;exact MB):G:=h
def Ld(h:G:=by
 clear t0;exact Lq):G:=h
def Lh(h:G:=by
 have HA:=O (show jt l n=0 by unfold jt;rw[T_ X]);exact MO):G:=h
def Lq(h:G:=by
 go_wp2;go_roundw;exact⟨k+1,X,gn,by rw[aN.out,kt _ _ _ _ X aU.out],F.alloc _⟩;exact mz):G:=h
def LN(h:G:=by
 go_roundw;exact⟨k+1,A',c',rs,X,gn,s,P,z,by rw[bl.out,bV.out],F⟩;exact mz):G:=h
def MB(h:G:=by
 go_wp2;go_ret;exact⟨kh (by rw[aN.out,lA _ _ _ _ X aU.out]),F.alloc _⟩):G:=h
def MO(h:G:=by
 go_enter func94,ntmps94;go_wp2;go_ret;exact⟨kh (by rw[HA.out]),Nv⟩):G:=h
structure Cl where
 id:Int
 f:Int
 v:Vl
 deriving DecidableEq,Inhabited
abbrev QX:=List Cl
def Cl.E(c:Cl):List Value:=[Y c.id,Y c.f,.bool c.v.r,Y c.v.n]
structure Dl where
 id:Int
 f:Int
 op:Int
 v:Vl
 deriving DecidableEq,Inhabited
abbrev QD:=List Dl
def Dl.E(c:Dl):List Value:=[Y c.id,Y c.f,Y c.op,.bool c.v.r,Y c.v.n]
structure Ac where
 ask:Bool
 v:Int
 lh:Int
 deriving DecidableEq,Inhabited
def Ac.E(c:Ac):List Value:=[.bool c.ask,Y c.v,Y c.lh]
structure Fo where
 fr:Int
 dst:Int
 n:Int
 deriving DecidableEq,Inhabited
abbrev QC:=List Fo
def Fo.E(c:Fo):List Value:=[Y c.fr,Y c.dst,Y c.n]
def rx(c:Cl):(Cl.E c).length=4:=rfl
def pL(c:Dl):(Dl.E c).length=5:=rfl
def o2(c:Fo):(Fo.E c).length=3:=rfl
def xy(c:Rw):(Rw.E c).length=2:=rfl
def o4(l:QX):∀u∈l.flatMap Cl.E,u.oneCell'=true:=qE _ (λb u a=>by simp[Cl.E]at a;rcases a with rfl|rfl|rfl|rfl<;>rfl) l
def tI(l:QD):∀u∈l.flatMap Dl.E,u.oneCell'=true:=qE _ (λb u a=>by simp[Dl.E]at a;rcases a with rfl|rfl|rfl|rfl|rfl<;>rfl) l
def tT{l:List Ac}:∀u∈l.flatMap Ac.E,u.oneCell'=true:=qE _ (λb u a=>by simp[Ac.E]at a;rcases a with rfl|rfl|rfl<;>rfl) l
def vt(l:QC):∀u∈l.flatMap Fo.E,u.oneCell'=true:=qE _ (λb u a=>by simp[Fo.E]at a;rcases a with rfl|rfl|rfl<;>rfl) l
def infoCl:(prog.info? 116).map (λi=>(i.zero,i.size,i.bytes))=some (some (.agg #[Y 0,Y 0,.bool false,Y 0]),4,32):=by kernel_rfl
def infoDl:(prog.info? 124).map (λi=>(i.zero,i.size,i.bytes))=some (some (.agg #[Y 0,Y 0,Y 0,.bool false,Y 0]),5,40):=by kernel_rfl
def infoAc:(prog.info? 162).map (λi=>(i.zero,i.size,i.bytes))=some (some (.agg #[.bool false,Y 0,Y 0]),3,24):=by kernel_rfl
def infoFo:(prog.info? 168).map (λi=>(i.zero,i.size,i.bytes))=some (some (.agg #[Y 0,Y 0,Y 0]),3,24):=by kernel_rfl
def Cs(w:World)(A:OA)(l:QX):Prop:=Sl w 116 4 A l.length (l.flatMap Cl.E)
def Ds(w:World)(A:OA)(l:QD):Prop:=Sl w 124 5 A l.length (l.flatMap Dl.E)
def As(w:World)(A:OA)(l:List Ac):Prop:=Sl w 162 3 A l.length (l.flatMap Ac.E)
def Fs(w:World)(A:OA)(l:QC):Prop:=Sl w 168 3 A l.length (l.flatMap Fo.E)
section
variable{w w':World}{A:OA}
def Cs.hF{l:QX}(h:Cs w A l)(a:J [] w w'):Cs w' A l:=Sl.hF h a
def Ds.hF{l:QD}(h:Ds w A l)(a:J [] w w'):Ds w' A l:=Sl.hF h a
def As.hF{l:List Ac}(h:As w A l)(a:J [] w w'):As w' A l:=Sl.hF h a
def Fs.hF{l:QC}(h:Fs w A l)(a:J [] w w'):Fs w' A l:=Sl.hF h a
def Cs.at_{l:QX}(h:Cs w A l)(hk:k<l.length):∃b off,A=some (Z b off)/\w.cell? (Z b (off+k*4))=some (Y l[k].id)/\w.cell? (Z b (off+k*4+1))=some (Y l[k].f)/\w.cell? (Z b (off+k*4+2))=some (.bool l[k].v.r)/\w.cell? (Z b (off+k*4+3))=some (Y l[k].v.n):=LH
def Ds.at_{l:QD}(h:Ds w A l)(hk:k<l.length):∃b off,A=some (Z b off)/\w.cell? (Z b (off+k*5))=some (Y l[k].id)/\w.cell? (Z b (off+k*5+1))=some (Y l[k].f)/\w.cell? (Z b (off+k*5+2))=some (Y l[k].op)/\w.cell? (Z b (off+k*5+3))=some (.bool l[k].v.r)/\w.cell? (Z b (off+k*5+4))=some (Y l[k].v.n):=Lr
def Fs.at_{l:QC}(h:Fs w A l)(e:k<l.length):∃b a,A=some (Z b a)/\w.cell? (Z b (a+k*3))=some (Y l[k].fr)/\w.cell? (Z b (a+k*3+1))=some (Y l[k].dst)/\w.cell? (Z b (a+k*3+2))=some (Y l[k].n):=by
 obtain⟨b,a,d,c⟩:=Sl.row o2 h e;exact⟨b,a,d,c 0 _ rfl,c 1 _ rfl,c 2 _ rfl⟩
end
structure Sv(α:Type) where
 A:Option Addr
 c:Nat
 l:List α
def Sv.ok{α:Type}(s:Sv α):Prop:=s.l.length<=s.c
structure Tk where
 hQ:Int
 run:Int
 ip:Bool
 pc:Int
 r:Nat->Vl
 gs:Sv Cl
 rs:Sv Cl
 ws:Sv Cl
 nw:Sv Rw
 ds:Sv Dl
 h8:Sv Ac
 h9:Int
 next:Int
 hZ:Bool
 v:Vl
 hK:Int
abbrev QB:=List Tk
def Tk.g_(t:Tk):Array Value:=#[Y t.hQ,Y t.run,.bool t.ip,Y t.pc,.bool (t.r 0).r,Y (t.r 0).n,.bool (t.r 1).r,Y (t.r 1).n,.bool (t.r 2).r,Y (t.r 2).n,.bool (t.r 3).r,Y (t.r 3).n,.bool (t.r 4).r,Y (t.r 4).n,.bool (t.r 5).r,Y (t.r 5).n,.bool (t.r 6).r,Y (t.r 6).n,.bool (t.r 7).r,Y (t.r 7).n,.bool (t.r 8).r,Y (t.r 8).n,.bool (t.r 9).r,Y (t.r 9).n,.bool (t.r 10).r,Y (t.r 10).n,.bool (t.r 11).r,Y (t.r 11).n,.bool (t.r 12).r,Y (t.r 12).n,.bool (t.r 13).r,Y (t.r 13).n,.bool (t.r 14).r,Y (t.r 14).n,.bool (t.r 15).r,Y (t.r 15).n,.slice t.gs.A t.gs.l.length t.gs.c,.slice t.rs.A t.rs.l.length t.rs.c,.slice t.ws.A t.ws.l.length t.ws.c,.slice t.nw.A t.nw.l.length t.nw.c,.slice t.ds.A t.ds.l.length t.ds.c,.slice t.h8.A t.h8.l.length t.h8.c,Y t.h9,Y t.next,.bool t.hZ,.bool t.v.r,Y t.v.n,Y t.hK]
structure lm(w:World)(t:Tk):Prop where
 gs:Cs w t.gs.A t.gs.l
 rs:Cs w t.rs.A t.rs.l
 ws:Cs w t.ws.A t.ws.l
 nw:Os w t.nw.A t.nw.l
 nr:l5 w t.nw.l
 ds:Ds w t.ds.A t.ds.l
 h8:As w t.h8.A t.h8.l
 yy:t.gs.ok
 k8:t.rs.ok
 vQ:t.ws.ok
 tj:t.nw.ok
 r9:t.ds.ok
 pP:t.h8.ok
def lm.hF{w w':World}{t:Tk}(h:lm w t)(a:J [] w w'):lm w' t:=
 ⟨h.gs.hF a,h.rs.hF a,h.ws.hF a,h.nw.hF a,h.nr.hF a,h.ds.hF a,h.h8.hF a,h.yy,h.k8,h.vQ,h.tj,h.r9,h.pP⟩
def lm.iq{w w':World}{t:Tk}(h:lm w t)(c:Bk w g ty cs)(a:116≠ty/\56≠ty/\38≠ty/\124≠ty/\162≠ty)(b:J [g] w w'):lm w' t:=
 ⟨Sl.iq h.gs c a.1 b,Sl.iq h.rs c a.1 b,Sl.iq h.ws c a.1 b,Sl.iq h.nw c a.2.1 b,h.nr.iq c a.2.2.1 b,Sl.iq h.ds c a.2.2.2.1 b,Sl.iq h.h8 c a.2.2.2.2 b,h.yy,h.k8,h.vQ,h.tj,h.r9,h.pP⟩
structure jb where
 hQ:Int
 run:Int
 ip:Bool
 pc:Int
 r:Nat->Vl
 gs:List Cl
 rs:List Cl
 ws:List Cl
 nw:List Ob
 ds:List Dl
 h8:List Ac
 h9:Int
 next:Int
 hZ:Bool
 v:Vl
 hK:Int
abbrev QG:=List jb
def Tk.p(t:Tk):jb:=⟨t.hQ,t.run,t.ip,t.pc,t.r,t.gs.l,t.rs.l,t.ws.l,hX t.nw.l,t.ds.l,t.h8.l,t.h9,t.next,t.hZ,t.v,t.hK⟩
structure jb.sm(n:Nat)(t:jb):Prop where
 gs:t.gs.length<=n
 rs:t.rs.length<=n
 ws:t.ws.length<=n
 nw:t.nw.length<=n
 ds:t.ds.length<=n
 h8:t.h8.length<=n
def Dq:Nat->Vl:=λ_=>default
def Sv.nil{α:Type}:Sv α:=⟨none,0,[]⟩
def Tk.zero:Tk:=⟨0,0,false,0,Dq,.nil,.nil,.nil,.nil,.nil,.nil,0,0,false,default,0⟩
def Tk.size(t:Tk):t.g_.size=48:=rfl
def Tk.one(t:Tk):t.g_.all (·.oneCell')=true:=by unfold Tk.g_;simp[Value.oneCell']
def lm.nil(w:World)(t:Tk)(d:t.gs=.nil)(e:t.rs=.nil)(f:t.ws=.nil)(a:t.nw=.nil)(b:t.ds=.nil)(c:t.h8=.nil):lm w t:=by
 obtain⟨l,i,m,n,o,j,B,q,p,r,s,u,v,g,y,z⟩:=t;simp only at d e f a b c;subst d;subst e;subst f;subst a;subst b;subst c;exact⟨GU _ _ _ _,GU _ _ _ _,GU _ _ _ _,GU _ _ _ _,λC h=>by simp[Sv.nil]at h,GU _ _ _ _,GU _ _ _ _,H_ _,H_ _,H_ _,H_ _,H_ _,H_ _⟩
structure Ef where
 h7:Int
 pc:Int
 r:Nat->Vl
 rs:Sv Cl
 ws:Sv Cl
 nw:Sv Rw
 ds:Sv Dl
 h8:Sv Ac
 kF:Int
 hZ:Bool
 v:Vl
def Ef.g_(x:Ef):Array Value:=#[Y x.h7,Y x.pc,.bool (x.r 0).r,Y (x.r 0).n,.bool (x.r 1).r,Y (x.r 1).n,.bool (x.r 2).r,Y (x.r 2).n,.bool (x.r 3).r,Y (x.r 3).n,.bool (x.r 4).r,Y (x.r 4).n,.bool (x.r 5).r,Y (x.r 5).n,.bool (x.r 6).r,Y (x.r 6).n,.bool (x.r 7).r,Y (x.r 7).n,.bool (x.r 8).r,Y (x.r 8).n,.bool (x.r 9).r,Y (x.r 9).n,.bool (x.r 10).r,Y (x.r 10).n,.bool (x.r 11).r,Y (x.r 11).n,.bool (x.r 12).r,Y (x.r 12).n,.bool (x.r 13).r,Y (x.r 13).n,.bool (x.r 14).r,Y (x.r 14).n,.bool (x.r 15).r,Y (x.r 15).n,.slice x.rs.A x.rs.l.length x.rs.c,.slice x.ws.A x.ws.l.length x.ws.c,.slice x.nw.A x.nw.l.length x.nw.c,.slice x.ds.A x.ds.l.length x.ds.c,.slice x.h8.A x.h8.l.length x.h8.c,Y x.kF,.bool x.hZ,.bool x.v.r,Y x.v.n]
structure sE(w:World)(x:Ef):Prop where
 rs:Cs w x.rs.A x.rs.l
 ws:Cs w x.ws.A x.ws.l
 nw:Os w x.nw.A x.nw.l
 nr:l5 w x.nw.l
 ds:Ds w x.ds.A x.ds.l
 h8:As w x.h8.A x.h8.l
 k8:x.rs.ok
 vQ:x.ws.ok
 tj:x.nw.ok
 r9:x.ds.ok
 pP:x.h8.ok
def sE.hF{w w':World}{t:Ef}(h:sE w t)(a:J [] w w'):sE w' t:=
 ⟨h.rs.hF a,h.ws.hF a,h.nw.hF a,h.nr.hF a,h.ds.hF a,h.h8.hF a,h.k8,h.vQ,h.tj,h.r9,h.pP⟩
def Ef.one(t:Ef):t.g_.all (·.oneCell')=true:=by unfold Ef.g_;simp[Value.oneCell']
def sE.iq{w w':World}{t:Ef}(h:sE w t)(c:Bk w g ty cs)(a:116≠ty/\56≠ty/\38≠ty/\124≠ty/\162≠ty)(b:J [g] w w'):sE w' t:=
 ⟨Sl.iq h.rs c a.1 b,Sl.iq h.ws c a.1 b,Sl.iq h.nw c a.2.1 b,h.nr.iq c a.2.2.1 b,Sl.iq h.ds c a.2.2.2.1 b,Sl.iq h.h8 c a.2.2.2.2 b,h.k8,h.vQ,h.tj,h.r9,h.pP⟩
structure p7 where
 h7:Int
 pc:Int
 r:Nat->Vl
 rs:List Cl
 ws:List Cl
 nw:List Ob
 ds:List Dl
 h8:List Ac
 kF:Int
 hZ:Bool
 v:Vl
def Ef.p(t:Ef):p7:=⟨t.h7,t.pc,t.r,t.rs.l,t.ws.l,hX t.nw.l,t.ds.l,t.h8.l,t.kF,t.hZ,t.v⟩
def iK(pc:Int)(r:Nat->Vl):Array Value:=#[Y pc,.bool (r 0).r,Y (r 0).n,.bool (r 1).r,Y (r 1).n,.bool (r 2).r,Y (r 2).n,.bool (r 3).r,Y (r 3).n,.bool (r 4).r,Y (r 4).n,.bool (r 5).r,Y (r 5).n,.bool (r 6).r,Y (r 6).n,.bool (r 7).r,Y (r 7).n,.bool (r 8).r,Y (r 8).n,.bool (r 9).r,Y (r 9).n,.bool (r 10).r,Y (r 10).n,.bool (r 11).r,Y (r 11).n,.bool (r 12).r,Y (r 12).n,.bool (r 13).r,Y (r 13).n,.bool (r 14).r,Y (r 14).n,.bool (r 15).r,Y (r 15).n]
structure X1 where
 jo:Sv In
 hH:Int
 hC:Int
 j6:Int
 sr:Nat->Vl
 h:Sv Rw
 nx:Int
 e:Ef
 hO:Bool
def X1.g_(x:X1):Array Value:=#[.slice x.jo.A x.jo.l.length x.jo.c,Y x.hH,Y x.hC,Y x.j6,.bool (x.sr 0).r,Y (x.sr 0).n,.bool (x.sr 1).r,Y (x.sr 1).n,.bool (x.sr 2).r,Y (x.sr 2).n,.bool (x.sr 3).r,Y (x.sr 3).n,.bool (x.sr 4).r,Y (x.sr 4).n,.bool (x.sr 5).r,Y (x.sr 5).n,.bool (x.sr 6).r,Y (x.sr 6).n,.bool (x.sr 7).r,Y (x.sr 7).n,.bool (x.sr 8).r,Y (x.sr 8).n,.bool (x.sr 9).r,Y (x.sr 9).n,.bool (x.sr 10).r,Y (x.sr 10).n,.bool (x.sr 11).r,Y (x.sr 11).n,.bool (x.sr 12).r,Y (x.sr 12).n,.bool (x.sr 13).r,Y (x.sr 13).n,.bool (x.sr 14).r,Y (x.sr 14).n,.bool (x.sr 15).r,Y (x.sr 15).n,.slice x.h.A x.h.l.length x.h.c,Y x.nx,Y x.e.h7,Y x.e.pc,.bool (x.e.r 0).r,Y (x.e.r 0).n,.bool (x.e.r 1).r,Y (x.e.r 1).n,.bool (x.e.r 2).r,Y (x.e.r 2).n,.bool (x.e.r 3).r,Y (x.e.r 3).n,.bool (x.e.r 4).r,Y (x.e.r 4).n,.bool (x.e.r 5).r,Y (x.e.r 5).n,.bool (x.e.r 6).r,Y (x.e.r 6).n,.bool (x.e.r 7).r,Y (x.e.r 7).n,.bool (x.e.r 8).r,Y (x.e.r 8).n,.bool (x.e.r 9).r,Y (x.e.r 9).n,.bool (x.e.r 10).r,Y (x.e.r 10).n,.bool (x.e.r 11).r,Y (x.e.r 11).n,.bool (x.e.r 12).r,Y (x.e.r 12).n,.bool (x.e.r 13).r,Y (x.e.r 13).n,.bool (x.e.r 14).r,Y (x.e.r 14).n,.bool (x.e.r 15).r,Y (x.e.r 15).n,.slice x.e.rs.A x.e.rs.l.length x.e.rs.c,.slice x.e.ws.A x.e.ws.l.length x.e.ws.c,.slice x.e.nw.A x.e.nw.l.length x.e.nw.c,.slice x.e.ds.A x.e.ds.l.length x.e.ds.c,.slice x.e.h8.A x.e.h8.l.length x.e.h8.c,Y x.e.kF,.bool x.e.hZ,.bool x.e.v.r,Y x.e.v.n,.bool x.hO]
structure Sh where
 a:Bool
 b:Bool
 c:Bool
 n:Int
 deriving DecidableEq,Inhabited
def Sh.E(s:Sh):List Value:=[.bool s.a,.bool s.b,.bool s.c,Y s.n]
def i7:List Sh:=[⟨false,false,false,0⟩,⟨true,false,false,1⟩,⟨true,false,false,0⟩,⟨true,true,false,0⟩,⟨true,true,true,2⟩,⟨true,true,false,3⟩,⟨true,true,false,3⟩,⟨true,false,false,4⟩,⟨true,false,false,5⟩,⟨true,false,false,5⟩,⟨true,false,false,5⟩,⟨false,false,false,6⟩,⟨true,false,false,6⟩,⟨false,false,false,7⟩,⟨true,false,false,0⟩,⟨true,false,false,0⟩,⟨true,false,false,0⟩,⟨false,false,false,8⟩,⟨true,false,false,0⟩,⟨true,false,false,0⟩,⟨false,false,false,5⟩,⟨false,false,false,9⟩]
def qC:List Value:=i7.flatMap Sh.E
def Cg:∀k,k<22->0<=(i7.getD k default).n/\(i7.getD k default).n<=9:=by decide
def xv{w:World}:Calls prog 146 #[] w λe w'=>∃g:Nat,e=.returned (.slice (j_ g) 22 22)/\Sl w' 274 4 (j_ g) 22 qC/\J [] w w':=by
 go_enter func146,ntmps146;go_wp2;go_ret;exact⟨w.heap.size,rfl,Sl.new w 274 4 _ 22 _ rfl rfl,(F_ _ _).alloc _⟩
def jX(l:QS)(i:Nat)(x:In)(s:Sh):Bool:=
 if x.op<0∨21<x.op then false
 else if(!mr x.a s.a||(x.op !=13&&x.op !=10&& !mr x.b s.b)||(x.op !=13&& !mr x.c s.c)) then false
 else if(x.op==13&&(decide (x.b<0)||decide (4<x.b)||decide (x.c<x.b)||decide (64<x.c)||iB l ((i:Int)+1) !=21))||(x.op==10&& !rB x.b) then false
 else if s.n=0 then x.n==0
 else if s.n=2 then pE x.n&&decide (0<=x.n)&&decide (x.n<100)
 else if s.n=3 then decide (0<=x.n)&&decide (x.n<16)
 else if s.n=4 then decide (0<=x.n)&&decide (x.n<=16)
 else if s.n=5 then decide (0<=x.n)&&decide (x.n<64)&&(x.op !=20||iB l ((i:Int)-1)==21)
 else if s.n=6 then decide (0<=iB l x.n)&&iB l x.n !=20&&(decide ((i:Int)<x.n)||iB l x.n==21)
 else if s.n=7 then iB l x.n==21
 else if s.n=8 then x.n==0||iB l x.n==21
 else true
def k4(l:QS)(i:Nat):Bool:=jX l i (l.getD i default) (i7.getD (l.getD i default).op.toNat default)
def mt{α:Type}(p:α->Bool):List α->Nat
 |[]=>0
 |x::l=>if p x then mt p l+1 else 0
def pF(p:α->Bool)(l:List α):mt p l<=l.length:=by
 induction l with
 |nil=>simp[mt]
 |cons x l a=>simp only[mt,Y_];split<;>omega
def oD{p:α->Bool}{l:List α}(a:k<l.length)(b:p l[k]=true):mt p (l.drop k)=mt p (l.drop (k+1))+1:=by
 rw[R_ a];simp[mt,b]
def nO{p:α->Bool}{l:List α}(a:k<l.length)(b:p l[k]=false):mt p (l.drop k)=0:=by
 rw[R_ a];simp[mt,b]
def rp{p:α->Bool}{l:List α}(a:l.length<=k):mt p (l.drop k)=0:=by
 rw[GD a];rfl
def cat(l:QX)(id f:Int):Int:=iM (λc:Cl=>c.id==id&&c.f==f) l 0
def oH(id f:Int)(c:Cl):Bool:=decide (c.id<id)||(c.id==id&&decide (c.f<f))
def tL(l:QX)(id f:Int):Nat:=mt (oH id f) l
def kE(l:QX)(c:Cl):List Cl:=
 if 0<=cat l c.id c.f then l.set (cat l c.id c.f).toNat c else l.take (tL l c.id c.f)++([c]++l.drop (tL l c.id c.f))
def pj(l:QD)(id f:Int):Int:=iM (λc:Dl=>c.id==id&&c.f==f) l 0
def ob(id f:Int)(c:Dl):Bool:=decide (c.id<id)||(c.id==id&&decide (c.f<f))
def rr(l:QD)(id f:Int):Nat:=mt (ob id f) l
def pe(h:QQ)(c:Cl):List Ob:=match jw h c.id c.f with
 |none=>h
 |some _=>kk h c.id c.f c.v
def iV(h:QQ)(l:QX):List Ob:=l.foldl pe h
def nT(h:QQ)(d:Dl):List Ob:=match jw h d.id d.f with
 |none=>h
 |some v=>if(iI d.op v d.v).2=0 then kk h d.id d.f (iI d.op v d.v).1 else h
def jU(h:QQ)(l:QD):List Ob:=l.foldl nT h
def kM(rs:QX)(h:QQ)(g:Cl):List Ob:=if cat rs g.id g.f<0 then iV h [g] else h
def before(t:jb)(view:QQ):List Ob:=iV (t.gs.foldl (kM t.rs) view) t.rs
def jq(t:jb)(view:QQ):List Ob:=jU (iV (t.nw.foldl ll (before t view)) t.ws) t.ds
def lP(h:QQ)(t:jb):List Ob:=jU (iV (t.nw.foldl ll h) t.ws) t.ds
def uC(o:Ob)(f:Int)(v:Vl):Ob:=⟨o.id,if 0<=f/\f<(o.fs.length:Int) then o.fs.set f.toNat v else o.fs⟩
def j5(t:jb)(c:Cl):jb:=
 if js t.nw c.id<0 then{t with ws:=kE t.ws c} else{t with nw:=t.nw.modify (js t.nw c.id).toNat (λo=>uC o c.f c.v)}
def jv(t:jb)(view:QQ)(id f:Int):Option jb:=
 if pj t.ds id f<0 then some t else
 match jw (before t view) id f with
 |none=>none
 |some b=>if b.r=true then none else
  some (j5 {t with rs:=kE t.rs ⟨id,f,b⟩,ds:=t.ds.eraseIdx (pj t.ds id f).toNat} ⟨id,f,(jw (jq t view) id f).getD default⟩)
def take(t:jb)(d:Dl):Option jb:=
 if t.ip=true∨0<=js t.nw d.id∨0<=cat t.ws d.id d.f∨0<=cat t.rs d.id d.f then none
 else if pj t.ds d.id d.f<0 then some {t with ds:=t.ds.take (rr t.ds d.id d.f)++([d]++t.ds.drop (rr t.ds d.id d.f))}
 else if(t.ds.getD (pj t.ds d.id d.f).toNat default).op≠d.op then none
 else some {t with ds:=t.ds.modify (pj t.ds d.id d.f).toNat (λx=>{x with v:=(iI d.op x.v d.v).1})}
def jJ(l:QX)(d:Dl):List Cl:=l.filter λc=>c.id !=d.id||c.f !=d.f
def jP:jb->List Cl->List Cl->List Dl->jb × List Cl × List Cl
 |t,rs,ws,[]=>(t,rs,ws)
 |t,rs,ws,d::l=>match take t d with
  |none=>jP t rs ws l
  |some t'=>jP t' (jJ rs d) (jJ ws d) l
def qk(view:QQ)(t:jb)(c:Cl):Option jb:=
 if 0<=js t.nw c.id∨0<=cat t.ws c.id c.f∨0<=cat t.rs c.id c.f then some t
 else if 0<=pj t.ds c.id c.f then jv t view c.id c.f
 else some {t with rs:=kE t.rs c}
def j8(view:QQ):jb->List Cl->Option jb
 |t,[]=>some t
 |t,c::l=>match qk view t c with
  |none=>none
  |some t'=>j8 view t' l
def r7(view:QQ)(t:jb)(c:Cl):Option jb:=(jv t view c.id c.f).map (j5 · c)
def kx(view:QQ):jb->List Cl->Option jb
 |t,[]=>some t
 |t,c::l=>match r7 view t c with
  |none=>none
  |some t'=>kx view t' l
def record(t:jb)(view:QQ)(e:p7):Option jb:=
 let a:=jP t e.rs e.ws e.ds
 match j8 view a.1 a.2.1 with
 |none=>none
 |some t1=>match kx view {t1 with nw:=t1.nw++e.nw} a.2.2 with
  |none=>none
  |some Q=>some {Q with h8:=Q.h8++e.h8}
def jp:Nat->Vl:=λ_=>default
def rg(r:Nat->Vl)(a:Int)(v:Vl):Nat->Vl:=λj=>if j=a.toNat then v else r j
structure XP where
 jo:List In
 hH:Int
 hC:Int
 j6:Int
 sr:Nat->Vl
 h:List Ob
 nx:Int
 e:p7
 hO:Bool
def X1.p(x:X1):XP:=⟨x.jo.l,x.hH,x.hC,x.j6,x.sr,hX x.h.l,x.nx,x.e.p,x.hO⟩
def jc(l:QS)(n:Int):Bool:=decide (0<=n)&&(decide (n<(l.length:Int))&&(l.getD n.toNat default).op==21)
def hW(x:XP)(id f:Int):XP × Vl:=match jw x.h id f with
 |none=>({x with hO:=true},default)
 |some v=>if 0<=cat x.e.rs id f then(x,v) else({x with e:={x.e with rs:=x.e.rs++[⟨id,f,v⟩]}},v)
def ib(x:XP)(id f:Int)(v:Vl):XP:={x with e:={x.e with ws:=x.e.ws++[⟨id,f,v⟩]}}
def iJ(x:XP):XP:={x with hO:=x.hO||(match ke x.h 1 with|none=>true|some o=>decide ((o.fs.length:Int)<3))}
def iF(h:QQ)(id:Int):Int:=match ke h id with
 |none=>0
 |some o=>o.fs.length
def hT(x:XP):XP × Int × Int:=
 let x:=iJ x
 if x.hO=true then(x,0,0) else
 let y:=hW x 1 0
 ({y.1 with hO:=y.1.hO||(!y.2.r||(match ke y.1.h y.2.n with|none=>true|some o=>decide ((o.fs.length:Int)<3)))},y.2.n,iF y.1.h y.2.n)
def kU(x:XP):XP:={x with hO:=true}
def jl(x:XP)(v:Vl):XP:=
 let a:=hT x
 if a.1.hO=true then a.1 else
 let b:=hW a.1 a.2.1 2
 if b.2.r=true∨(b.2.n≠0/\jc b.1.jo b.2.n=false) then kU b.1 else
 if b.2.n≠0 then
  let y:=ib (ib b.1 a.2.1 2 default) 1 2 v
  {y with e:={y.e with pc:=b.2.n,r:=jp}}
 else
  let p:=hW b.1 a.2.1 0
  if p.2.r=false then kU p.1 else
  if p.2.n=0 then{p.1 with e:={p.1.e with h7:=2,hZ:=true,v:=v,pc:=p.1.j6,r:=p.1.sr}}
  else
   let y:=ib (ib p.1 1 0 p.2) 1 2 v
   {y with e:={y.e with h7:=1,kF:=y.hC,pc:= -1,r:=jp}}
def jk(x:XP)(n:Int):XP:=jl x ⟨false,n⟩
def iz(x:XP)(v:Vl)(f:Int):XP × Int × Bool:=
 if v.r=false then(jk x (-2),0,false) else
 if v.n=0 then(jk x (-1),0,false) else
 match ke x.h v.n with
 |none=>(kU x,0,false)
 |some o=>if(o.fs.length:Int)<=f then(jk x (-1),0,false) else(x,v.n,true)
def hJ(x:XP)(n:Int):XP × Int × Int × Bool:=
 let a:=hT x
 if a.1.hO=true then(a.1,0,0,false) else
 if a.2.2<=3+n then(jk a.1 (-1),0,0,false) else(a.1,a.2.1,3+n,true)
def k6(x:XP)(a:Int)(v:Vl):XP:={x with e:={x.e with r:=rg x.e.r a v}}
def tV(x:XP)(pc:Int):XP:={x with e:={x.e with pc:=pc}}
def j0(x:XP)(i:In):Option XP:=
 let r:=x.e.r
 if i.op=0 then some x
 else if i.op=1 then some (k6 x i.a ⟨false,i.n⟩)
 else if i.op=2 then some (k6 x i.a ⟨true,0⟩)
 else if i.op=3 then some (k6 x i.a (r i.b.toNat))
 else if i.op=4 then
  let y:=iI i.n (r i.b.toNat) (r i.c.toNat)
  some (if y.2≠0 then jk x y.2 else k6 x i.a y.1)
 else if i.op=11 then some (tV x i.n)
 else if i.op=12 then some (if(r i.a.toNat).n≠0 then x else tV x i.n)
 else if i.op=21 then some {x with e:={x.e with r:=jp,h7:=1,kF:=i.n}}
 else if i.op=16 then some (jl x (r i.a.toNat))
 else if i.op=19 then some (if(r i.a.toNat).r=true then jk x (-2) else{x with e:={x.e with h8:=[⟨false,(r i.a.toNat).n,0⟩]}})
 else none
def kT(x:XP)(i:In):Option XP:=
 if i.op≠8/\i.op≠9/\i.op≠10/\i.op≠20 then none else
 let a:=x.sr i.a.toNat
 let y:=hJ x i.n
 if y.2.2.2=false then some y.1 else
 let f:=y.2.1
 let k:=y.2.2.1
 if i.op=9 then some (ib y.1 f k a) else
 let z:=hW y.1 f k
 if i.op=8 then some (k6 z.1 i.a z.2)
 else if i.op=10 then
  let q:=iI i.b z.2 a
  if q.2≠0 then some (jk z.1 q.2) else
  let u:=ib z.1 f k q.1
  some {u with e:={u.e with ds:=[⟨f,k,i.b,a⟩]}}
 else if z.2.r=true then some (jk z.1 (-2))
 else some {z.1 with e:={z.1.e with h7:=3,v:=z.2,pc:=z.1.j6,r:=z.1.sr}}
def ka(x:XP)(i:In):XP:=
 let a:=x.sr i.a.toNat
 if i.op=5 then
  let y:=iz x (x.sr i.b.toNat) i.n
  if y.2.2=true then(let z:=hW y.1 y.2.1 i.n;k6 z.1 i.a z.2) else y.1
 else if i.op=6 then
  let y:=iz x (x.sr i.b.toNat) i.n
  if y.2.2=true then ib y.1 y.2.1 i.n a else y.1
 else if i.op=7 then
  k6 {x with e:={x.e with nw:=[⟨x.nx,List.replicate i.n.toNat default⟩]}} i.a ⟨true,x.nx⟩
 else if i.op=13 then
  let y:=hT x
  let z:={y.1 with e:={y.1.e with nw:=[⟨y.1.nx,[⟨true,y.2.1⟩,⟨false,y.1.j6+1⟩,default]++((List.range i.b.toNat).map y.1.sr++List.replicate (i.c-i.b).toNat default)⟩]}}
  tV (ib z 1 0 ⟨true,z.nx⟩) i.n
 else if i.op=14 then
  let y:=hT x
  if y.1.hO=true then y.1 else
  let p:=hW y.1 y.2.1 0
  if p.2.r=true/\p.2.n=0 then{p.1 with e:={p.1.e with h7:=2,v:=a,pc:=p.1.j6,r:=p.1.sr}} else
  let r:=hW p.1 y.2.1 1
  if p.2.r=false∨r.2.r=true∨jc r.1.jo r.2.n=false then kU r.1 else
  tV (ib (ib r.1 1 0 p.2) 1 1 a) r.2.n
 else if i.op=15∨i.op=18 then
  let y:=iJ x
  if y.hO=true then y else
  let z:=hW y 1 (if i.op=15 then 1 else 2)
  k6 z.1 i.a z.2
 else if i.op=17 then
  let y:=hT x
  ib y.1 y.2.1 2 ⟨false,i.n⟩
 else x
def oa(l:QS):Bool:=(List.range l.length).all (k4 l)
def jG(l:QS):Int:=((l.filter λi=>i.op==21).length:Int)
def ks:List In->Int->Bool
 |[],_=>true
 |i::l,m=>if i.op=21 then(i.n==m)&&ks l (m+1) else ks l m
def ia(c:QS)(hH hC:Int):Bool:=
 decide (1<=c.length)&&decide (c.length<=2048)&&decide (0<=hH)&&decide (hH<=64)&&(iB c 0==21)&&
 (iB c ((c.length:Int)-1)==14||iB c ((c.length:Int)-1)==16||iB c ((c.length:Int)-1)==11)&&
 oa c&&ks c 0&&(hC==jG c)
def mg:p7:=⟨0,0,jp,[],[],[],[],[],0,false,default⟩
def ji:p7:={mg with h7:=4}
def qd(x:XP)(pc:Int):XP:=
 if pc= -1 then
  let y:=iJ x
  if y.hO=true then y else
  let z:=hW y 1 2
  jl z.1 z.2
 else
  let i:=x.jo.getD pc.toNat default
  match j0 x i with
  |some y=>y
  |none=>match kT x i with
   |some y=>y
   |none=>ka x i
def lx(c:QS)(hH hC pc:Int)(r:Nat->Vl)(h:QQ)(nx:Int):p7:=
 if ia c hH hC=false∨pc< -1∨(c.length:Int)<=pc then ji else
 let y:=qd ⟨c,hH,hC,pc,r,h,nx,{mg with pc:=pc+1,r:=r},false⟩ pc
 if y.hO=true then ji else y.e
def lU(A:OA)(c:Nat)(l:QX)(id f:Int)(w:World)(h:Cs w A l)(v:l.length<=1000000000):
 Calls prog 129 #[.slice A l.length c,Y id,Y f] w λe w'=>e=.returned (Y (cat l id f))/\J [] w w':=by
 have j:=O (show cat l id f=iM (λc:Cl=>c.id==id&&c.f==f) l 0 from rfl);generalize t:l.length=b at*
 go_enter func129,ntmps129;go_wp2;go_loopw [11] (λa w'=>∃k:Nat,k<=b/\a=Y k/\cat l id f=iM (λc:Cl=>c.id==id&&c.f==f) (l.drop k) k/\J [] w w') (λa _=>b-(intOf a).toNat)
 case atStart=>exact⟨0,L_ _,rfl,j.out,F_ _ _⟩
 obtain⟨k,u,rfl,d,F⟩:=hrel;have aN:=O d;clear d;by_cases m:k<b;have i:k<l.length:=X;obtain⟨n,y,rfl,r,s,o,p⟩:=(h.hF F).at_ i;by_cases t0:l[k].id=id;by_cases t1:l[k].f=f
 .have aU:=O (show(λc:Cl=>c.id==id&&c.f==f) l[k]=true by simp[t0,t1]);exact KL
 have aU:=O (show(λc:Cl=>c.id==id&&c.f==f) l[k]=false by simp[t0,t1]);exact Kk;have aU:=O (show(λc:Cl=>c.id==id&&c.f==f) l[k]=false by simp[t0]);exact KG;exact MZ
def l9(t:Tk)(id f:Int){w:World}(h:lm w t)(v:t.ds.l.length<=1000000000):
 Calls prog 130 #[.agg t.g_,Y id,Y f] w λe w'=>e=.returned (Y (pj t.ds.l id f))/\J [] w w':=by
 have u:=P_ w 53 t.g_;have p:(w.alloc (.cells t.g_ 53)).cell? (Z w.heap.size 40)=some (.slice t.ds.A t.ds.l.length t.ds.c):=(u.f_ 40).trans rfl;obtain⟨A,a,l,c,n,b⟩:∃(A:OA) (a:Nat) (l:QD),t.ds.A=A/\t.ds.c=a/\t.ds.l=l:=⟨_,_,_,rfl,rfl,rfl⟩;have m:=h.ds;rw[c,b]at m;rw[c,n,b]at p;rw[b]at v;have s:=O b;clear c n b h;rw[s.out];have r:=O (show pj l id f=iM (λa:Dl=>a.id==id&&a.f==f) l 0 from rfl);generalize I:l.length=i at*
 go_enter func130,ntmps130;go_wp2;go_loopw [12] (λd w'=>∃k:Nat,k<=i/\d=Y k/\pj l id f=iM (λa:Dl=>a.id==id&&a.f==f) (l.drop k) k/\J [] w w') (λd _=>i-(intOf d).toNat)
 case atStart=>exact⟨0,L_ _,rfl,r.out,(F_ _ _).alloc _⟩
 obtain⟨k,K,rfl,j,F⟩:=hrel;have aN:=O j;clear j;by_cases z:k<i;have o:k<l.length:=X;obtain⟨B,L,rfl,E,H,C,D,y⟩:=(m.hF F).at_ o;by_cases t0:l[k].id=id;by_cases t1:l[k].f=f
 .have aU:=O (show(λa:Dl=>a.id==id&&a.f==f) l[k]=true by simp[t0,t1]);exact KL
 have aU:=O (show(λa:Dl=>a.id==id&&a.f==f) l[k]=false by simp[t0,t1]);exact Kk;have aU:=O (show(λa:Dl=>a.id==id&&a.f==f) l[k]=false by simp[t0]);exact KG;exact MZ
def oX(t:Tk)(id:Int)(w:World)(h:lm w t)(z:t.nw.l.length<=1000000000):
 Calls prog 128 #[.agg t.g_,Y id] w λe w'=>e=.returned (Y (js (hX t.nw.l) id))/\J [] w w':=by
 have y:=P_ w 53 t.g_;have r:(w.alloc (.cells t.g_ 53)).cell? (Z w.heap.size 39)=some (.slice t.nw.A t.nw.l.length t.nw.c):=(y.f_ 39).trans rfl;obtain⟨A,m,a,d,n,c⟩:∃(A:OA) (m:Nat) (a:QT),t.nw.A=A/\t.nw.c=m/\t.nw.l=a:=⟨_,_,_,rfl,rfl,rfl⟩;have l:=h.nw;rw[d,c]at l;rw[d,n,c]at r;rw[c]at z;have v:=O c;clear d n c h;rw[v.out];have s:=O (show js (hX a) id=iM (λb:Rw=>b.o.id==id) a 0 by unfold js hX;exact oY _ _ _ _ λ_ _=>rfl);generalize H:a.length=i at*
 go_enter func128,ntmps128;go_wp2;go_loopw [10] (λf w'=>∃k:Nat,k<=i/\f=Y k/\js (hX a) id=iM (λb:Rw=>b.o.id==id) (a.drop k) k/\J [] w w') (λf _=>i-(intOf f).toNat)
 case atStart=>exact⟨0,L_ _,rfl,s.out,(F_ _ _).alloc _⟩
 obtain⟨k,I,rfl,j,F⟩:=hrel;have aN:=O j;clear j;by_cases B:k<i;have p:k<a.length:=X;obtain⟨C,K,rfl,D,E⟩:=(l.hF F).at_ p;by_cases t0:a[k].o.id=id;have aU:=O (show(λb:Rw=>b.o.id==id) a[k]=true by simp[t0]);have u:(a[k].o.id==id)=true:=zu t0;clear t0;exact MB;have aU:=O (show(λb:Rw=>b.o.id==id) a[k]=false by simp[t0]);have u:(a[k].o.id==id)=false:=zu t0;exact Ld;exact MZ
structure mE(w:World)(A:OA)(c:Nat)(l:QT):Prop where
 os:Os w A l
 k8:l5 w l
 lR:l.length<=c
def mE.hF{w w':World}{A:OA}{c:Nat}{l:QT}(h:mE w A c l)(a:J [] w w'):mE w' A c l:=⟨h.os.hF a,h.k8.hF a,h.lR⟩
def mE.alloc{w:World}{A:OA}{c:Nat}{l:QT}(h:mE w A c l)(o:Obj):mE (w.alloc o) A c l:=h.hF ((F_ [] w).alloc o)
def mE.iq{w w':World}{A:OA}{c:Nat}{l:QT}{t:TypeId}(h:mE w A c l)(b:Bk w g t cs)(d:56≠t)(e:38≠t)(a:J [g] w w'):mE w' A c l:=
 ⟨Sl.iq h.os b d a,h.k8.iq b e a,h.lR⟩
def my(P:QQ)(w:World)(e:Ending)(w':World):Prop:=∃(A:OA) (c:Nat) (rs:QT),e=.returned (.agg #[.slice A rs.length c])/\mE w' A c rs/\hX rs=P/\J [] w w'
def h5(l:QT):(hX l).length=l.length:=by simp[hX]
def tB{h:QQ}{id f:Int}{v:Vl}:(kk h id f v).length=h.length:=by simp[kk]
def yv(h:QQ)(c:Cl):(pe h c).length=h.length:=by
 unfold pe;split;rfl;exact tB
def jY(h:QQ)(l:QX):(iV h l).length=h.length:=by
 unfold iV;induction l generalizing h with
 |nil=>rfl
 |cons b l a=>rw[HN,a,yv]
def qt{h:QQ}{l:QX}(a:k<l.length):iV h (l.take (k+1))=pe (iV h (l.take k)) l[k]:=by
 unfold iV;rw[Q_ a,HO];rfl
def nW(A:OA)(c:Nat)(l:QT)(v:OA)(d:Nat)(cs:QX)(w:World)(h:mE w A c l)(hn:l.length<=1000000000)(hc:Cs w v cs)(bX:cs.length<=1000000000):
 Calls prog 125 #[.agg #[.slice A l.length c],.slice v cs.length d] w (my (iV (hX l) cs) w):=by
 obtain⟨y,L,m⟩:=pZ w 35 #[.slice A l.length c] 35 #[n_];have Q:=h.hF m;have ad:=O (show l.length=(hX l).length from(h5 l).symm);generalize N:cs.length=n at*;have t:=O N;clear N;go_enter func125,ntmps125;go_wp2;go_loopw [11] (λr wr=>∃(k:Nat) (A':OA) (c':Nat) (rs:QT),k<=n/\r=Y k/\Bk wr w.heap.size 35 #[.slice A' rs.length c']/\Bk wr (w.heap.size+1) 35 #[n_]/\mE wr A' c' rs/\hX rs=iV (hX l) (cs.take k)/\J [] w wr) (λr _=>n-(intOf r).toNat)
 case atStart=>exact⟨0,A,c,l,L_ _,rfl,y,L,Q,rfl,m⟩
 obtain⟨k,A',c',rs,hk,rfl,s,P,z,E,F⟩:=hrel;have q:=O E;clear E y L Q m;by_cases U:k<n
 .have B:k<cs.length:=by rw[t.out];exact U
  obtain⟨ae,off,T,Z,bn,V,W⟩:=(hc.hF F).at_ B;subst T;have K:=O (show iV (hX l) (cs.take (k+1))=pe (hX rs) cs[k] by rw[q.out];exact qt B);have C:rs.length<=1000000000:=by
   have:=h5 rs;rw[q.out,jY]at this;have h2:=ad.out;omega
  generalize cs[k]=x at*;obtain⟨g,f,b⟩:=x;simp only at Z bn V W;have a:=(F_ [] wr).alloc (.cells #[Y g,Y f,.bool b.r,Y b.n] 116);have aT:=(s.alloc (.cells #[Y g,Y f,.bool b.r,Y b.n] 116)).f_ 0;cases j:jw (hX rs) g f with
  |none=>
   have p:=O (show pe (hX rs) ⟨g,f,b⟩=hX rs by unfold pe;simp only[j]);go_wp2_with (go_at_call 149;((with_reducible refine(qu A' c' rs g f b (z.hF a).os (z.hF a).k8 C j).mono ?_);rintro ah D⟨rfl,e⟩;have i:=((s.hF a).hF e).alloc (.cells #[n_] 35)));go_roundw;exact⟨k+1,A',c',rs,X,gn,i,((P.hF a).hF e).alloc _,((z.hF a).hF e).alloc _,by rw[K.out,p.out],((F.trans a).trans e).alloc _⟩;exact mz
  |some ai=>
   have p:=O (show pe (hX rs) ⟨g,f,b⟩=kk (hX rs) g f b by unfold pe;simp only[j]);go_wp2_with (go_at_call 149;((with_reducible refine(oq A' c' rs g f b ai (z.hF a).os (z.hF a).k8 C j).mono ?_);rintro ah D⟨o,c3,u,rfl,R,aj,cG,M,e⟩;have S:=O M;clear M;have i:=((s.hF a).hF e).alloc (.cells #[.slice o u.length c3] 35);have z0:=i.f_ 0;have bA:=i.hG 0;have hD:=P_ D 35 #[.slice o u.length c3];have ak:=hD.f_ 0));go_roundw;exact⟨k+1,o,c3,u,X,gn,i.hU 0 _,(((P.hF a).hF e).alloc _).ih H _,((mE.mk aj cG R).alloc _).iq i I I ((F_ _ _).setCell (.inl H) _),by rw[K.out,p.out,S.out],(((F.trans a).trans e).alloc _).setCell (.inr H) _⟩;exact mz
 exact JE
def Bi(h:QQ)(c:Dl):(nT h c).length=h.length:=by
 unfold nT;split;rfl;split
 .exact tB
 rfl
def nZ(h:QQ)(l:QD):(jU h l).length=h.length:=by
 unfold jU;induction l generalizing h with
 |nil=>rfl
 |cons b l a=>rw[HN,a,Bi]
def vi{h:QQ}{l:QD}(a:k<l.length):jU h (l.take (k+1))=nT (jU h (l.take k)) l[k]:=by
 unfold jU;rw[Q_ a,HO];rfl
def rO(A:OA)(c:Nat)(l:QT)(N:OA)(d:Nat)(ds:QD){w:World}(h:mE w A c l)(hn:l.length<=1000000000)(hc:Ds w N ds)(bX:ds.length<=1000000000):
 Calls prog 124 #[.agg #[.slice A l.length c],.slice N ds.length d] w (my (jU (hX l) ds) w):=by
 obtain⟨R,bo,E⟩:=pZ w 35 #[.slice A l.length c] 35 #[n_];have aj:=h.hF E;have ak:=O (show l.length=(hX l).length from(h5 l).symm);generalize al:ds.length=n at*;have t:=O al;clear al;go_enter func124,ntmps124;go_wp2;go_loopw [13] (λM wr=>∃(k:Nat) (A':OA) (c':Nat) (rs:QT),k<=n/\M=Y k/\Bk wr w.heap.size 35 #[.slice A' rs.length c']/\Bk wr (w.heap.size+1) 35 #[n_]/\mE wr A' c' rs/\hX rs=jU (hX l) (ds.take k)/\J [] w wr) (λM _=>n-(intOf M).toNat)
 case atStart=>exact⟨0,A,c,l,L_ _,rfl,R,bo,aj,rfl,E⟩
 obtain⟨k,A',c',rs,hk,rfl,s,P,z,Z,F⟩:=hrel;have q:=O Z;clear Z R bo aj E;by_cases ag:k<n
 .have S:k<ds.length:=by rw[t.out];exact ag
  obtain⟨am,off,aV,bj,bn,bN,bR,a6⟩:=(hc.hF F).at_ S;subst aV;have bl:=O (show jU (hX l) (ds.take (k+1))=nT (hX rs) ds[k] by rw[q.out];exact vi S);have C:rs.length<=1000000000:=by
   have:=h5 rs;rw[q.out,nZ]at this;have h2:=ak.out;omega
  generalize ds[k]=x at*;obtain⟨g,f,j,a⟩:=x;simp only at bj bn bN bR a6;have G:Bk (wr.alloc (.cells #[Y g,Y f,Y j,.bool a.r,Y a.n] 124)) wr.heap.size 124 #[Y g,Y f,Y j,.bool a.r,Y a.n]:=P_ wr _ _;have s:=s.alloc (.cells #[Y g,Y f,Y j,.bool a.r,Y a.n] 124);have P:=P.alloc (.cells #[Y g,Y f,Y j,.bool a.r,Y a.n] 124);have z:=z.alloc (.cells #[Y g,Y f,Y j,.bool a.r,Y a.n] 124);have F:=F.alloc (.cells #[Y g,Y f,Y j,.bool a.r,Y a.n] 124);have aT:=s.f_ 0;have an:=G.f_ 0;have ah:=G.f_ 1;cases u:jw (hX rs) g f with
  |none=>
   have bV:=O (show nT (hX rs) ⟨g,f,j,a⟩=hX rs by unfold nT;simp only[u]);obtain⟨b,r⟩:=mn_ (iI j default a);have D:=O r;clear r;go_wp2_with (first|(go_at_call 148;((with_reducible refine(kI A' c' rs g f _ z.os z.k8 C).mono ?_);rintro v B⟨rfl,e⟩;rw[u];simp only[Ie,H3];have s:=(s.hF e).alloc (.cells (V_ (default:Vl)) 38);have P:=(P.hF e).alloc (.cells (V_ (default:Vl)) 38);have G:=(G.hF e).alloc (.cells (V_ (default:Vl)) 38);have z:=(z.hF e).alloc (.cells (V_ (default:Vl)) 38);have F:=(F.trans e).alloc (.cells (V_ (default:Vl)) 38);have o:=P_ B 38 (V_ (default:Vl));have W:=G.f_ 2;have U:=G.f_ 3;have V:=G.f_ 4;have z0:=o.f_ 0;have T:=o.f_ 1))|(go_at_call 164;((with_reducible refine(mT j _ a).mono ?_);rintro v K⟨p,i⟩;unfold qs at p;subst p;rw[D.out];have s:=(s.hF i).alloc (.cells (V_ b.1) 38);have P:=(P.hF i).alloc (.cells (V_ b.1) 38);have z:=(z.hF i).alloc (.cells (V_ b.1) 38);have F:=(F.trans i).alloc (.cells (V_ b.1) 38))));exact LN
  |some m=>
   obtain⟨b,r⟩:=mn_ (iI j m a);have D:=O r;by_cases y:b.2=0
   .have bV:=O (show nT (hX rs) ⟨g,f,j,a⟩=kk (hX rs) g f b.1 by unfold nT;simp only[u,r,y,if_true]);have Nt:(b.2==0)=true:=zu y;clear r y;go_wp2_with (first|(go_at_call 148;((with_reducible refine(kI A' c' rs g f _ z.os z.k8 C).mono ?_);rintro v B⟨rfl,e⟩;rw[u];simp only[Hc,Hz];have s:=(s.hF e).alloc (.cells (V_ m) 38);have P:=(P.hF e).alloc (.cells (V_ m) 38);have G:=(G.hF e).alloc (.cells (V_ m) 38);have z:=(z.hF e).alloc (.cells (V_ m) 38);have F:=(F.trans e).alloc (.cells (V_ m) 38);have o:=P_ B 38 (V_ m);have W:=G.f_ 2;have U:=G.f_ 3;have V:=G.f_ 4;have z0:=o.f_ 0;have T:=o.f_ 1))|(go_at_call 164;((with_reducible refine(mT j _ a).mono ?_);rintro v K⟨p,i⟩;unfold qs at p;subst p;rw[D.out];have s:=(s.hF i).alloc (.cells (V_ b.1) 38);have P:=(P.hF i).alloc (.cells (V_ b.1) 38);have G:=(G.hF i).alloc (.cells (V_ b.1) 38);have z:=(z.hF i).alloc (.cells (V_ b.1) 38);have F:=(F.trans i).alloc (.cells (V_ b.1) 38);have Q:=P_ K 38 (V_ b.1);have aT:=s.f_ 0;have an:=G.f_ 0;have ah:=G.f_ 1;have cS:=Q.f_ 0;have aH:=Q.f_ 1))|(go_at_call 149;((with_reducible refine(oq A' c' rs g f b.1 m z.os z.k8 C u).mono ?_);rintro v Nq⟨aY,c3,ao,rfl,ap,aq,cG,ar,L⟩;have au:=O ar;clear ar;have s:=s.hF L;have P:=P.hF L;have F:=F.trans L;have aT:=s.f_ 0;have bA:=s.hG 0)));go_roundw;exact⟨k+1,aY,c3,ao,X,gn,s.hU 0 _,P.ih H _,(mE.mk aq cG ap).iq s I I ((F_ _ _).setCell (.inl H) _),by rw[bl.out,bV.out,au.out],F.setCell (.inr H) _⟩;exact mz
   have bV:=O (show nT (hX rs) ⟨g,f,j,a⟩=hX rs by unfold nT;simp only[u,r,y,if_false]);have Nt:(b.2==0)=false:=zu y;clear r y;go_wp2_with (first|(go_at_call 148;((with_reducible refine(kI A' c' rs g f _ z.os z.k8 C).mono ?_);rintro v B⟨rfl,e⟩;rw[u];simp only[Hc,Hz];have s:=(s.hF e).alloc (.cells (V_ m) 38);have P:=(P.hF e).alloc (.cells (V_ m) 38);have G:=(G.hF e).alloc (.cells (V_ m) 38);have z:=(z.hF e).alloc (.cells (V_ m) 38);have F:=(F.trans e).alloc (.cells (V_ m) 38);have o:=P_ B 38 (V_ m);have W:=G.f_ 2;have U:=G.f_ 3;have V:=G.f_ 4;have z0:=o.f_ 0;have T:=o.f_ 1))|(go_at_call 164;((with_reducible refine(mT j _ a).mono ?_);rintro v K⟨p,i⟩;unfold qs at p;subst p;rw[D.out];have s:=(s.hF i).alloc (.cells (V_ b.1) 38);have P:=(P.hF i).alloc (.cells (V_ b.1) 38);have z:=(z.hF i).alloc (.cells (V_ b.1) 38);have F:=(F.trans i).alloc (.cells (V_ b.1) 38))));exact LN
 exact JE
def so(E:α->List Value)(j:∀m,(E m).length=3){w:World}{e:TypeId}{l:List α}(q:k<l.length)(r:α){d f c:Value}(v:E r=[d,f,c])(p:Bk w g e cur)(h:∀(i:Nat) (u:Value),(l.flatMap E)[i]?=some u->cur[i]?=some u){n:Nat}(t:l.length=n):
 Sl (((w.setCell (Z g (k*3)) d).setCell (Z g (k*3+1)) f).setCell (Z g (k*3+2)) c) e 3 (j_ g) n ((l.set k r).flatMap E):=by
 subst t;have o:=(((p.hU (k*3) d).hU (k*3+1) f).hU (k*3+2) c);have iF:=kj E 3 j l;have y:k*3+2<cur.size:=by
  have s:k*3+2<(l.flatMap E).length:=X;have:=h _ _ (K_ s);rcases Ga (k*3+2) cur.size with h|h
  exact h;exact Nj
 refine⟨by rw[kj E 3 j];simp,λ_=>⟨g,0,_,_,rfl,o,λb u a=>?_⟩⟩;rw[X_];refine qF E 3 j X l k q r cur h (λb u a=>?_) (λi z=>?_) b u a
 .rw[v]at a
  match b,a with
  |0,a=>simp only[G4,Option.some.injEq]at a;subst a;rw[M_,T_ X];rw[M_,T_ X];rw[M_,U_ X,U_ (by first|omega|(simp;omega))]
  |1,a=>simp only[Ht,G4,Option.some.injEq]at a;subst a;rw[M_,T_ X];rw[M_,U_ X,U_ (by first|omega|(simp;omega))]
  |2,a=>simp only[Ht,G4,Option.some.injEq]at a;subst a;rw[M_,U_ X,U_ (by first|omega|(simp;omega))]
  |b+3,a=>simp at a
 rw[M_,T_ X];rw[M_,T_ X];rw[M_,T_ X]
def Cf(E:α->List Value)(m:∀o,(E o).length=4){w:World}{e:TypeId}{l:List α}(s:k<l.length)(r:α){d j c f:Value}(y:E r=[d,j,c,f])(q:Bk w g e cur)(h:∀(i:Nat) (u:Value),(l.flatMap E)[i]?=some u->cur[i]?=some u){n:Nat}(v:l.length=n):
 Sl ((((w.setCell (Z g (k*4)) d).setCell (Z g (k*4+1)) j).setCell (Z g (k*4+2)) c).setCell (Z g (k*4+3)) f) e 4 (j_ g) n ((l.set k r).flatMap E):=by
 subst v;have p:=((((q.hU (k*4) d).hU (k*4+1) j).hU (k*4+2) c).hU (k*4+3) f);have iF:=kj E 4 m l;have z:k*4+3<cur.size:=by
  have t:k*4+3<(l.flatMap E).length:=X;have:=h _ _ (K_ t);rcases Ga (k*4+3) cur.size with h|h
  exact h;exact Nj
 refine⟨by rw[kj E 4 m];simp,λ_=>⟨g,0,_,_,rfl,p,λb u a=>?_⟩⟩;rw[X_];refine qF E 4 m X l k s r cur h (λb u a=>?_) (λi B=>?_) b u a
 .rw[y]at a
  match b,a with
  |0,a=>simp only[G4,Option.some.injEq]at a;subst a;rw[M_,T_ X];rw[M_,T_ X];rw[M_,T_ X];rw[M_,U_ X,U_ (by first|omega|(simp;omega))]
  |1,a=>simp only[Ht,G4,Option.some.injEq]at a;subst a;rw[M_,T_ X];rw[M_,T_ X];rw[M_,U_ X,U_ (by first|omega|(simp;omega))]
  |2,a=>simp only[Ht,G4,Option.some.injEq]at a;subst a;rw[M_,T_ X];rw[M_,U_ X,U_ (by first|omega|(simp;omega))]
  |3,a=>simp only[Ht,G4,Option.some.injEq]at a;subst a;rw[M_,U_ X,U_ (by first|omega|(simp;omega))]
  |b+4,a=>simp at a
 rw[M_,T_ X];rw[M_,T_ X];rw[M_,T_ X];rw[M_,T_ X]
def Sl.Cn{E:α->List Value}{s:Nat}(f:∀c,(E c).length=s){w:World}{l:List α}(h:Sl w ty s (j_ g) l.length (l.flatMap E))(j:k<l.length):
 ∀a u,(E l[k])[a]?=some u->w.cell? (Z g (k*s+a))=some u:=by
 obtain⟨n,o,b,i⟩:=Sl.row f h j;injection b with b;injection b with d e;subst d;subst e;intro a u m;have:=i a u m;rwa [X_]at this
def sf(P:QX)(w:World)(e:Ending)(w':World):Prop:=∃(A:OA) (d:Nat),e=.returned (.slice A P.length d)/\Cs w' A P/\P.length<=d/\J [] w w'
def ry(l:QX)(id f:Int): -1<=cat l id f/\cat l id f<l.length:=by
 have:=nC (λa:Cl=>a.id==id&&a.f==f) l 0;unfold cat;exact No
def BN(A:OA)(d:Nat)(l:QX)(id f:Int)(n:Nat)(w:World)(h:Cs w A l)(a:Hid (l.length=n))(c:n<=1000000000):
 Calls prog 129 #[.slice A n d,Y id,Y f] w λe w'=>e=.returned (Y (cat l id f))/\J [] w w':=by
 have b:=a.out;subst b;exact lU A d l id f w h c
def zm(A:OA)(d:Nat)(l:QX)(c:Cl)(x:Nat)(w:World)(h:Cs w A l)(z:l.length<=1000000000)(G:cat l c.id c.f=x):
 Calls prog 98 #[.slice A l.length d,.agg #[Y c.id,Y c.f,.bool c.v.r,Y c.v.n]] w (sf (kE l c) w):=by
 obtain⟨R,M,Q,F,E⟩:=info_parts infoCl;have D:=(F_ [] w).alloc (.cells #[Y c.id,Y c.f,.bool c.v.r,Y c.v.n] 116);have a:=P_ w 116 #[Y c.id,Y c.f,.bool c.v.r,Y c.v.n];have s:=Sl.alloc h (.cells #[Y c.id,Y c.f,.bool c.v.r,Y c.v.n] 116);have v:x<l.length:=ov (ry l c.id c.f);have K:=O (show kE l c=l.set x c by unfold kE;rw[G,U_ X,GZ]);have y:=v;have P:=O G;clear G;have o:=O (show(l.set x c).length=l.length by simp);obtain⟨p,n⟩:=mn_ l.length;rw[n]at v z s |-;have m:=O n;clear n;have bP:(x:Int)<(p:Int):=X
 go_enter func98,ntmps98;go_wp2_with (at_builtin;refine iL _ rfl (.const (n_)) (.tmp 7) 50 rfl (w.heap.size+1) 116 R _ 4 32 underlying50 M Q F E rfl I I none 0 0 [] rfl (iS _ _ _ _) A p d _ rfl s (o4 _) X H ?_;intro T u B j r;simp only[X_,Gf]at j;have a:=r.tQ a X;have N:=r.gr [] w X D;have J:=a.f_ 0;have L:=a.f_ 1);obtain⟨g,cur,C,bw,b,S⟩:=kK j X;subst C;have t:Cs B (j_ g) l:=by unfold Cs;rw[m.out];exact Sl.iP j
 go_wp2_with (go_at_call 129;((with_reducible refine(BN (j_ g) u l c.id c.f p B t m z).mono ?_);rintro ad i⟨rfl,f⟩;rw[P.out];have a:=a.hF f;have b:=b.hF f;have J:=a.f_ 0;have L:=a.f_ 1;have U:=a.f_ 2;have V:=a.f_ 3;have e:=Sl.Cn rx (t.hF f) y;have k0:i.cell? (Z g (x*4))=some _:=e 0 _ rfl;have bK:i.cell? (Z g (x*4+1))=some _:=e 1 _ rfl;have bj:i.cell? (Z g (x*4+2))=some _:=e 2 _ rfl;have k3:i.cell? (Z g (x*4+3))=some _:=e 3 _ rfl;clear e;have W:=b.hG (x*4);have bL:=b.hG (x*4+1);have cf:=b.hG (x*4+2);have dB:=b.hG (x*4+3)));go_ret;unfold sf;rw[K.out];refine⟨some (Z g 0),u,oy (by rw[o.out,m.out]),?_,by rw[o.out,m.out];exact iY j,?_⟩;exact Cf Cl.E rx y c rfl b S o.out.symm;exact((((N.trans f).setCell (.inr p_) _).setCell (.inr p_) _).setCell (.inr p_) _).setCell (.inr p_) _
def CU(l:QX)(id f:Int):tL l id f<=l.length:=pF _ _
def A2(A:OA)(d:Nat)(l:QX)(c:Cl)(w:World)(h:Cs w A l)(hn:l.length<=1000000000)(G:cat l c.id c.f<0):
 Calls prog 98 #[.slice A l.length d,.agg #[Y c.id,Y c.f,.bool c.v.r,Y c.v.n]] w (sf (kE l c) w):=by
 obtain⟨T,P,S,B,z⟩:=info_parts infoCl;have W:=(F_ [] w).alloc (.cells #[Y c.id,Y c.f,.bool c.v.r,Y c.v.n] 116);have a:=P_ w 116 #[Y c.id,Y c.f,.bool c.v.r,Y c.v.n];have y:=Sl.alloc h (.cells #[Y c.id,Y c.f,.bool c.v.r,Y c.v.n] 116);have aU:=O (show kE l c=l.take (tL l c.id c.f)++([c]++l.drop (tL l c.id c.f)) by unfold kE;rw[T_ X]);have be:=O (show cat l c.id c.f= -1 by have:=ry l c.id c.f;omega);clear G;have bR:=O (show tL l c.id c.f=0+mt (oH c.id c.f) (l.drop 0) by simp[tL]);have bK:=O (show ∀k,k=tL l c.id c.f->(l.take k++([c]++l.drop k)).length=k+(1+(l.length-k)) from λk hk=>by have:=CU l c.id c.f;simp;omega);obtain⟨e,R⟩:=mn_ l.length;rw[R]at hn y |-;have i:=O R;clear R
 go_enter func98,ntmps98;go_wp2_with (at_builtin;refine iL _ rfl (.const (n_)) (.tmp 7) 50 rfl (w.heap.size+1) 116 T _ 4 32 underlying50 P S B z rfl I I none 0 0 [] rfl (iS _ _ _ _) A e d _ rfl y (o4 _) X H ?_;intro aw K w2 t v;simp only[X_,Gf]at t;have a:=v.tQ a X;have bU:=v.gr [] w X W;have C:=a.f_ 0;have L:=a.f_ 1;have M:=a.f_ 2;have N:=a.f_ 3);have j:Cs w2 aw l:=by unfold Cs;rw[i.out];exact Sl.iP t
 have b8:=iY t
 go_upto_block 0 with(go_at_call 129;((with_reducible refine(BN aw K l c.id c.f e w2 j i hn).mono ?_);rintro ad af⟨rfl,r⟩;rw[be.out];have a:=a.hF r;have C:=a.f_ 0;have L:=a.f_ 1;have M:=a.f_ 2;have N:=a.f_ 3))
 have j:=j.hF r;have V:=bU.trans r;clear t v y W r bU;go_cut [6] (λn a8=>∃k:Nat,n=Y k/\k<=e/\k=tL l c.id c.f/\J [] af a8)
 case first=>
  go_wp2_with fail;go_loopw [6] (λn w'=>∃k:Nat,n=Y k/\k<=e/\tL l c.id c.f=k+mt (oH c.id c.f) (l.drop k)/\J [] af w') (λn _=>e-(intOf n).toNat)
  case atStart=>exact⟨0,rfl,L_ _,bR.out,F_ _ _⟩
  obtain⟨k,rfl,hk,o,F⟩:=hrel;have Nu:=O o;clear o;have b:=a.hF F;have ae:=b.f_ 0;have bC:=b.f_ 1;have bM:=b.f_ 2;have bL:=b.f_ 3;clear b C L M N;by_cases u:k<e;have m:k<l.length:=by rw[i.out];exact u
  have aG:(k:Int)<(e:Int):=X;obtain⟨ah,off,cD,al,aV,cj,cn⟩:=(j.hF F).at_ m;subst cD;by_cases t0:l[k].id<c.id;have bD:=O (oD (p:=oH c.id c.f) m (by simp[oH,t0]));have U:decide (l[k].id<c.id)=true:=zu t0;exact KR;have U:decide (l[k].id<c.id)=false:=zu t0;by_cases t1:l[k].id=c.id;have E:(l[k].id==c.id)=true:=zu t1;by_cases Q:l[k].f<c.f;have bD:=O (oD (p:=oH c.id c.f) m (by simp[oH,t1,Q]));have D:decide (l[k].f<c.f)=true:=zu Q;exact KJ;have bD:=O (nO (p:=oH c.id c.f) m (by simp[oH,t1,Q]));have D:decide (l[k].f<c.f)=false:=zu Q;exact Ll;have bD:=O (nO (p:=oH c.id c.f) m (by simp[oH,t0,t1]));have E:(l[k].id==c.id)=false:=zu t1;exact Ln;have bD:=O (rp (p:=oH c.id c.f) (l:=l) (k:=k) (by rw[i.out];omega));have aG:¬(k:Int)<(e:Int):=X;exact LG
 obtain⟨k,rfl,hk,am,F⟩:=hcut;have aY:=O am;clear am C L M N;have b:=a.hF F;have ae:=b.f_ 0;have bC:=b.f_ 1;have bM:=b.f_ 2;have bL:=b.f_ 3;have aQ:(0:Int)<=(k:Int):=X;have aJ:(k:Int)<=(e:Int):=X;have aG:(k:Int)<=(K:Int):=X;have D:=j.hF F;have aM:=(Sl.yg rx D (show k<=l.length by rw[i.out];exact hk)).hF ((F_ [] wc).alloc (.cells #[Y c.id,Y c.f,.bool c.v.r,Y c.v.n] 116)).drew;have aH:=(Sl.yB rx D (show k<=l.length by rw[i.out];exact hk) K (by rw[i.out];exact b8)).hF ((F_ [] wc).alloc (.cells #[Y c.id,Y c.f,.bool c.v.r,Y c.v.n] 116)).drew;have Nr:=O (show ∀U∈(#[Y c.id,Y c.f,.bool c.v.r,Y c.v.n]:Array Value).toList++(l.drop k).flatMap Cl.E,U.oneCell'=true from λU hu=>o4 (c::l.drop k) U hu);rw[i.out]at aH;have bq:=kW (s:=4) (P_ wc.drew 116 #[Y c.id,Y c.f,.bool c.v.r,Y c.v.n]) rfl;have b5:=V.trans F;have g:=b.drew;clear a b j F V D;go_wp2_with fail;go_region_held3 (λw'=>w'.cell? (Z w.heap.size 0)=some (Y c.id)/\w'.cell? (Z w.heap.size 1)=some (Y c.f)/\w'.cell? (Z w.heap.size 2)=some (.bool c.v.r)/\w'.cell? (Z w.heap.size 3)=some (Y c.v.n)) (first|exact cA|exact cO|go_keep)
  (first
    |(refine mJ _ r_ (.tmp 63) (.tmp 66) 50 r_ 116 T _ 4 32 underlying50 P S B z rfl I I _ 1 _ r_ bq _ (e-k) _ _ r_ aH (o4 _) X ?_;intro u c5 o ak aX E;have m:=(g.alloc (.cells #[Y c.id,Y c.f,.bool c.v.r,Y c.v.n] 116)).hF E;have cA:o.cell? (Z w.heap.size 0)=some (Y c.id)/\o.cell? (Z w.heap.size 1)=some (Y c.f)/\o.cell? (Z w.heap.size 2)=some (.bool c.v.r)/\o.cell? (Z w.heap.size 3)=some (Y c.v.n):=⟨m.f_ 0,m.f_ 1,m.f_ 2,m.f_ 3⟩)
    |(refine mJ _ r_ (.tmp 61) (.tmp 67) 50 r_ 116 T _ 4 32 underlying50 P S B z rfl I I _ k _ r_ (aM.hF E) _ (1+(e-k)) _ _ r_ aX Nr.out X ?_;intro aL aI o bJ bZ aC;have u:=m.hF aC;have cO:o.cell? (Z w.heap.size 0)=some (Y c.id)/\o.cell? (Z w.heap.size 1)=some (Y c.f)/\o.cell? (Z w.heap.size 2)=some (.bool c.v.r)/\o.cell? (Z w.heap.size 3)=some (Y c.v.n):=⟨u.f_ 0,u.f_ 1,u.f_ 2,u.f_ 3⟩))
 go_wp2;all_goals
  go_ret;unfold sf;have iF:=bK.out k aY.out;rw[i.out]at iF;rw[aU.out,<-aY.out];refine⟨aL,aI,oy iF.symm,?_,by rw[iF];exact bJ,(((b5.alloc _).drew).trans E).trans aC⟩;unfold Cs;rw[iF,Gs,Gs,Ib];exact bZ
def rk(A:OA)(d:Nat)(l:QX)(c:Cl){w:World}(h:Cs w A l)(a:l.length<=1000000000):
 Calls prog 98 #[.slice A l.length d,.agg #[Y c.id,Y c.f,.bool c.v.r,Y c.v.n]] w (sf (kE l c) w):=by
 by_cases G:cat l c.id c.f<0;exact A2 A d l c w h a G;exact zm A d l c (cat l c.id c.f).toNat w h a (Hd X).symm
def yP(A:OA)(c:Nat)(l:QT){a:OA}(d:Nat)(cs:QX)(n:Nat){w:World}(h:mE w A c l)(i:l.length<=1000000000)(hc:Cs w a cs)(f:Hid (cs.length=n))(b:n<=1000000000):
 Calls prog 125 #[.agg #[.slice A l.length c],.slice a n d] w (my (iV (hX l) cs) w):=by
 have e:=f.out;subst e;exact nW A c l a d cs w h i hc b
def DP{w:World}(x:Cl):Cs (w.alloc (.cells #[Y x.id,Y x.f,.bool x.v.r,Y x.v.n] 116)) (j_ w.heap.size) [x]:=kW (s:=4) (P_ w 116 #[Y x.id,Y x.f,.bool x.v.r,Y x.v.n]) rfl
def yD(rs:QX)(a:QX)(h:QQ):(a.foldl (kM rs) h).length=h.length:=by
 induction a generalizing h with
 |nil=>rfl
 |cons g c b=>
  rw[HN,b];unfold kM;split;exact jY _ _;rfl
def mR(t:jb)(h:QQ):(before t h).length=h.length:=by unfold before;rw[jY,yD]
def o6(t:Tk)(A:OA)(c:Nat)(l:QT){w:World}(s:lm w t)(h:mE w A c l)(hn:l.length<=1000000000)(dg:t.gs.l.length<=1000000000)(y:t.rs.l.length<=1000000000):
 Calls prog 122 #[.agg t.g_,.agg #[.slice A l.length c]] w (my (before t.p (hX l)) w):=by
 obtain⟨b,U,e,a,v⟩:=Df w 53 t.g_ 35 #[.slice A l.length c] 35 #[n_] 35 #[.slice A l.length c];have f:=h.hF v;have R:((((w.alloc (.cells t.g_ 53)).alloc (.cells #[.slice A l.length c] 35)).alloc (.cells #[n_] 35)).alloc (.cells #[.slice A l.length c] 35)).cell? (Z w.heap.size 36)=some (.slice t.gs.A t.gs.l.length t.gs.c):=(b.f_ 36).trans rfl;have V:=O (show before t.p (hX l)=iV (t.gs.l.foldl (kM t.rs.l) (hX l)) t.rs.l from rfl);have ad:=O (h5 l);go_enter func122,ntmps122;go_wp2_with fail;clear U;go_loopw [12] (λC wr=>∃(k:Nat) (m:OA) (n:Nat) (rs:QT),k<=t.gs.l.length/\C=Y k/\Bk wr w.heap.size 53 t.g_/\Bk wr (w.heap.size+1+1) 35 #[n_]/\Bk wr (w.heap.size+1+1+1) 35 #[.slice m rs.length n]/\mE wr m n rs/\hX rs=(t.gs.l.take k).foldl (kM t.rs.l) (hX l)/\J [] w wr) (λC _=>t.gs.l.length-(intOf C).toNat)
 case atStart=>exact⟨0,A,c,l,L_ _,rfl,b,e,a,f,rfl,v⟩
 clear b e a f v R;obtain⟨k,m,n,rs,hk,rfl,b,e,a,f,z,d⟩:=hrel;have N:=O z;have M:rs.length<=1000000000:=by
  have:=h5 rs;rw[z,yD,ad.out]at this;omega
 clear z;by_cases ag:k<t.gs.l.length
 .have F:=ag;obtain⟨ae,off,W,bj,bn,bN,bR⟩:=(s.gs.hF d).at_ F;rw[W];have L:=O (show(t.gs.l.take (k+1)).foldl (kM t.rs.l) (hX l)=kM t.rs.l (hX rs) t.gs.l[k] by rw[N.out,Q_ F,HO];rfl);generalize t.gs.l[k]=x at*;have T:(k:Int)<(t.gs.l.length:Int):=X;have P:(wr.alloc (.cells #[Y x.id,Y x.f,.bool x.v.r,Y x.v.n] 116)).cell? (Z w.heap.size 37)=some (.slice t.rs.A t.rs.l.length t.rs.c):=((b.alloc _).f_ 37).trans rfl;have G:=P_ wr 116 #[Y x.id,Y x.f,.bool x.v.r,Y x.v.n];replace b:=b.alloc (.cells #[Y x.id,Y x.f,.bool x.v.r,Y x.v.n] 116);replace e:=e.alloc (.cells #[Y x.id,Y x.f,.bool x.v.r,Y x.v.n] 116);replace a:=a.alloc (.cells #[Y x.id,Y x.f,.bool x.v.r,Y x.v.n] 116);replace f:=f.alloc (.cells #[Y x.id,Y x.f,.bool x.v.r,Y x.v.n] 116);replace d:=d.alloc (.cells #[Y x.id,Y x.f,.bool x.v.r,Y x.v.n] 116);have S:=G.f_ 0;have ah:=G.f_ 1;by_cases E:cat t.rs.l x.id x.f<0
  .have HB:=O (show kM t.rs.l (hX rs) x=iV (hX rs) [x] by unfold kM;rw[U_ E]);go_wp2_with (first|(go_at_call 129;((with_reducible refine(lU t.rs.A t.rs.c t.rs.l x.id x.f _ (s.hF d).rs y).mono ?_);rintro B af⟨rfl,i⟩;replace b:=b.hF i;replace e:=e.hF i;replace a:=a.hF i;replace G:=G.hF i;replace f:=f.hF i;replace d:=d.trans i;replace K:=a.f_ 0;replace S:=G.f_ 0;replace ah:=G.f_ 1;replace ay:=G.f_ 2;replace aS:=G.f_ 3))|(go_at_call 125;((with_reducible refine(yP m n rs 1 [x] 1 (f.alloc _) M (DP x) (O rfl) X).mono ?_);unfold my;rintro B Q⟨p,q,r,rfl,D,o,j⟩;have u:=O o;clear o;replace d:=(d.alloc (.cells #[Y x.id,Y x.f,.bool x.v.r,Y x.v.n] 116)).trans j;replace b:=(b.alloc (.cells #[Y x.id,Y x.f,.bool x.v.r,Y x.v.n] 116)).hF j;replace e:=(e.alloc (.cells #[Y x.id,Y x.f,.bool x.v.r,Y x.v.n] 116)).hF j;replace a:=(a.alloc (.cells #[Y x.id,Y x.f,.bool x.v.r,Y x.v.n] 116)).hF j;replace K:=a.f_ 0;have bA:=a.hG 0)));go_roundw;exact⟨k+1,p,q,r,X,gn,b.ih sd_ _,e.ih sd_ _,a.hU 0 _,D.iq a I I ((F_ _ _).setCell (.inl H) _),by rw[L.out,HB.out,u.out],d.setCell (.inr p_) _⟩;exact mz
  have HB:=O (show kM t.rs.l (hX rs) x=hX rs by unfold kM;rw[T_ E]);go_wp2_with (go_at_call 129;((with_reducible refine(lU t.rs.A t.rs.c t.rs.l x.id x.f _ (s.hF d).rs y).mono ?_);rintro B af⟨rfl,i⟩;replace b:=b.hF i;replace e:=e.hF i;replace a:=a.hF i;replace f:=f.hF i;replace d:=d.trans i));go_roundw;exact⟨k+1,m,n,rs,X,gn,b,e,a,f,by rw[L.out,HB.out],d⟩;exact mz
 have E:=O (show k=t.gs.l.length by omega);have T:¬(k:Int)<(t.gs.l.length:Int):=X;have K:=a.f_ 0;have P:wr.cell? (Z w.heap.size 37)=some (.slice t.rs.A t.rs.l.length t.rs.c):=(b.f_ 37).trans rfl;go_wp2_with (go_at_call 125;((with_reducible refine(nW m n rs t.rs.A t.rs.c t.rs.l _ f M (s.hF d).rs y).mono ?_);unfold my;rintro B Q⟨p,q,r,rfl,D,o,j⟩;have u:=O o;clear o;have i:=e.hF j;have S:=i.hG 0;have L:=i.f_ 0));have F:=i.hU 0 (.slice p r.length q);refine rr_ #[.slice p r.length q] F underlying35 ⟨p,q,r,rfl,?_,?_,?_⟩;exact D.iq i I I ((F_ _ _).setCell (.inl H) _);rw[u.out,N.out,V.out,E.out,Hj];exact(d.trans j).setCell (.inr p_) _
def i0{α:Type}(p:α->Bool)(l:List α):Bool:=l.any p
def o7{p:α->Bool}{l:List α}(a:k<l.length)(b:p l[k]=true):i0 p (l.drop k)=true:=by
 unfold i0;rw[R_ a];simp only[Ip,b,Iy]
def oI{p:α->Bool}{l:List α}(a:k<l.length)(b:p l[k]=false):i0 p (l.drop k)=i0 p (l.drop (k+1)):=by
 unfold i0;rw[R_ a];simp only[Ip,b,H8]
def qX{p:α->Bool}{l:List α}(a:l.length<=k):i0 p (l.drop k)=false:=by
 unfold i0;rw[GD a];rfl
def Ns(w:World)(ty:TypeId)(A:OA)(l:QR):Prop:=Sl w ty 1 A l.length (l.map (Value.int .i64))
def Ns.hF{w w':World}{A:OA}{l:QR}(h:Ns w ty A l)(a:J [] w w'):Ns w' ty A l:=Sl.hF h a
def Ns.at_{w:World}{A:OA}{l:QR}(h:Ns w ty A l)(d:k<l.length):∃b c,A=some (Z b c)/\w.cell? (Z b (c+k))=some (Y l[k]):=by
 obtain⟨b,c,j,f,a,i⟩:=Sl.at_ h d;have e:(l.map (Value.int .i64))[k]?=some (Y l[k]):=by simp[K_ d]
 rw[e]at a;injection a with a;subst a;exact⟨b,c,f,i⟩
def o8(A:OA)(c:Nat)(l:QR)(s:Int){w:World}(h:Ns w 3 A l)(D:l.length<=1000000000):
 Calls prog 82 #[.agg #[.slice A l.length c],Y s] w λe w'=>e=.returned (.bool (i0 (λx=>x==s) l))/\J [] w w':=by
 have o:=O (show i0 (λx=>x==s) l=i0 (λx=>x==s) (l.drop 0) from rfl);have t:=P_ w 32 #[.slice A l.length c];have u:=t.f_ 0;generalize B:l.length=m at*
 go_enter func82,ntmps82;go_wp2;go_loopw [10] (λj w'=>∃k:Nat,k<=m/\j=Y k/\i0 (λx=>x==s) l=i0 (λx=>x==s) (l.drop k)/\J [] w w') (λj _=>m-(intOf j).toNat)
 case atStart=>exact⟨0,L_ _,rfl,o.out,(F_ _ _).alloc _⟩
 obtain⟨k,C,rfl,n,d⟩:=hrel;have i:=O n;clear n;by_cases v:k<m
 .have f:k<l.length:=X;obtain⟨y,E,rfl,z⟩:=(h.hF d).at_ f;by_cases a:l[k]=s
  .have b:=O (o7 (p:=λx=>x==s) f (zu a));have r:(l[k]==s)=true:=zu a;clear a;go_wp2;go_ret;exact⟨iG (by rw[i.out,b.out]),d⟩
  have b:=O (oI (p:=λx=>x==s) f (zu a));have r:(l[k]==s)=false:=zu a;clear a;go_wp2;go_roundw;exact⟨k+1,X,gn,by rw[i.out,b.out],d⟩;exact mz
 have b:=O (qX (p:=λx=>x==s) (l:=l) (k:=k) X);go_wp2;go_ret;exact⟨iG (by rw[i.out,b.out]),d⟩
def jt(l:QR)(n:Int):Int:=if 0<=n/\n<(l.length:Int) then l.getD n.toNat 0 else 0
def x5(A:OA)(c:Nat)(l:QR)(n:Int){w:World}(h:Ns w 2 A l)(q:l.length<=1000000000):
 Calls prog 94 #[.agg #[.slice A l.length c],Y n] w λe w'=>e=.returned (Y (jt l n))/\J [] w w':=by
 have i:=P_ w 29 #[.slice A l.length c];have Nv:=(F_ [] w).alloc (.cells #[.slice A l.length c] 29);have j:=i.f_ 0;by_cases a:0<=n;by_cases f:n<(l.length:Int)
 .have b:n.toNat<l.length:=X;obtain⟨k,d⟩:∃k:Nat,n=k:=⟨n.toNat,(Hd a).symm⟩;have HA:=O (show jt l n=l[n.toNat] by unfold jt;rw[U_ ⟨a,f⟩];simp[List.getD,K_ b]);obtain⟨m,r,rfl,p⟩:=(h.hF Nv).at_ b;have o:¬(l.length:Int)<=n:=X;clear d;exact MO
 exact Lh;exact Lh
def lB(l:QC)(x:Int):Nat:=mt (λf:Fo=>decide (f.fr<x)) l
def pi(l:QC)(x:Int):Bool:=decide (lB l x<l.length)&&((l.getD (lB l x) default).fr==x)
def CR{l:QC}(a:k<l.length)(h:lB l x=k):pi l x=(l[k].fr==x):=by
 unfold pi;rw[h];simp[a,List.getD]
def CP{l:QC}:lB l x<=l.length:=pF _ _
def qW(A:OA)(c:Nat)(l:QC)(x:Int){w:World}(h:Fs w A l)(K:l.length<=1000000000):
 Calls prog 99 #[.agg #[.slice A l.length c],Y x] w λe w'=>e=.returned (.tuple #[Y (lB l x),.bool (pi l x)])/\J [] w w':=by
 have z:=O (show lB l x=0+mt (λa:Fo=>decide (a.fr<x)) (l.drop 0) by simp[lB]);have b:=P_ w 96 #[.slice A l.length c];have u:=b.f_ 0;go_enter func99,ntmps99;go_wp2;go_loopw [11] (λs w'=>∃k:Nat,k<=l.length/\s=Y k/\lB l x=k+mt (λa:Fo=>decide (a.fr<x)) (l.drop k)/\Bk w' w.heap.size 96 #[.slice A l.length c]/\J [] w w') (λs _=>l.length-(intOf s).toNat)
 case atStart=>exact⟨0,L_ _,rfl,z.out,b,(F_ _ _).alloc _⟩
 clear b u;obtain⟨k,I,rfl,t,b,i⟩:=hrel;have o:=O t;clear t;by_cases y:k<l.length
 .have j:=y;have v:(k:Int)<(l.length:Int):=X;obtain⟨D,L,rfl,F,H,E⟩:=(h.hF i).at_ j;have G:=P_ wr 168 #[Y l[k].fr,Y l[k].dst,Y l[k].n];have C:=G.f_ 0;by_cases m:l[k].fr<x
  .have d:=O (oD (p:=(λa:Fo=>decide (a.fr<x))) j (zu m));have B:¬x<=l[k].fr:=X;clear m;go_wp2;go_roundw;exact⟨k+1,X,gn,by rw[o.out,d.out];omega,b.alloc _,i.alloc _⟩;exact mz
  have d:=O (nO (p:=(λa:Fo=>decide (a.fr<x))) j (zu m));have f:=O (show lB l x=k by rw[o.out,d.out];omega);have r:=O (CR j f.out);have B:x<=l[k].fr:=X;clear m;go_wp2_with fail;go_quiet (fail);go_wp2
  go_ret2
  exact⟨by rw[f.out,r.out];rfl,(i.alloc _).drewN _⟩
 have d:=O (rp (p:=(λa:Fo=>decide (a.fr<x))) (l:=l) (k:=k) X);have v:¬(k:Int)<(l.length:Int):=X;have f:=O (show lB l x=l.length by rw[o.out,d.out];omega);have r:=O (show pi l x=false by unfold pi;rw[f.out];simp);have u:=b.f_ 0;go_wp2
 go_ret2
 exact⟨by rw[f.out,r.out];rfl,i⟩
def zB(A:OA)(c:Nat)(l:QC)(x:Int){w:World}(h:Fs w A l)(j:l.length<=1000000000):
 Calls prog 101 #[.agg #[.slice A l.length c],Y x] w λe w'=>e=.returned (.tuple #[Y (if pi l x=true then(l.getD (lB l x) default).dst else 0),.bool (pi l x)])/\J [] w w':=by
 have i:=P_ w 96 #[.slice A l.length c];have b:=(F_ [] w).alloc (.cells #[.slice A l.length c] 96);have p:=i.f_ 0;cases a:pi l x with
 |false=>
  have f:=O a;clear a;go_enter func101,ntmps101;go_wp2_with (go_at_call 99;((with_reducible refine(qW A c l x (h.hF b) j).mono ?_);rintro e m⟨rfl,d⟩;rw[f.out]))
  go_ret2
  exact⟨rfl,b.trans d⟩
 |true=>
  have n:=by
   unfold pi at a;simp at a;exact a.1
  have o:(lB l x:Int)<(l.length:Int):=X;have f:=O a;clear a;go_enter func101,ntmps101;go_wp2_with fail;go_at_call 99;refine(qW A c l x (h.hF b) j).mono ?_;rintro e m⟨rfl,d⟩;rw[f.out];have u:=(i.hF d).f_ 0;obtain⟨q,v,rfl,s,t,r⟩:=(h.hF (b.trans d)).at_ n;go_wp2
  go_ret2
  exact⟨by first|rfl|(rw[HD.out];rfl),b.trans d⟩
def D0(P:List Ac)(w:World)(e:Ending)(w':World):Prop:=∃(A:OA) (d:Nat),e=.returned (.slice A P.length d)/\As w' A P/\P.length<=d/\J [] w w'
def wZ(A:OA)(c:Nat)(l:List Ac)(a:OA)(d:Nat)(m:List Ac){w:World}(h:As w A l)(E:As w a m)(K:l.length<=1000000000)(H:m.length<=1000000000):
 Calls prog 93 #[.slice A l.length c,.slice a m.length d] w (D0 (l++m) w):=by
 obtain⟨q,o,p,i,f⟩:=info_parts infoAc;have r:Sl w 162 3 A l.length (l.flatMap Ac.E):=h;have HM:Hid (∀w',J [] w w'->Sl w' 162 3 a m.length (m.flatMap Ac.E)):=O λw' D=>Sl.hF E D;have C:w.heap.size<=w.heap.size:=H_ _;go_enter func93,ntmps93;go_wp2_with (first
  |(at_builtin;refine iL _ rfl (.const (n_)) (.tmp 5) 36 rfl w.heap.size 162 q _ 3 24 underlying36 o p i f rfl I I none 0 0 [] rfl (iS _ _ _ _) A l.length c _ rfl r (tT) X C ?_;intro z y F j t;simp only[X_,Gf]at j;have b:=t.gr [] w (H_ _) (F_ [] w);have u:=b.size;have B:=HM.out F b)
  |(at_builtin;refine iL _ rfl (.tmp 6) (.tmp 7) 36 rfl w.heap.size 162 q _ 3 24 underlying36 o p i f rfl I I z l.length y _ rfl j a m.length d _ rfl B (tT) X u ?_;intro v c3 F n t;have s:=t.gr [] w (H_ _) b))
 go_ret;unfold D0;have e:(l++m).length=l.length+m.length:=I_;refine⟨v,c3,oy e.symm,?_,by rw[e];exact iY n,s⟩;unfold As;rw[e,Gs];exact Sl.iP n
