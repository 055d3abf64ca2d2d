import Derived.Test.YtenbhdilndfaeaaGreatR27
set_option maxRecDepth 100000
set_option maxHeartbeats 0
set_option linter.all false
namespace Go.Proofs.YtenbhdilndfaeaaGreat
open Go.RowKit Go.Proofs.Tryz
variable{G:Prop}{w:World}{g:Nat}(A:OA)(c:Nat)(l:List In)(hq:Int)(U:OA)(g9:Int)(hc:Nat)(hl:List Rw)(t:Tk)
def Iq(h:G:=by
 go_wp2_with (go_at_call 148;have ag:=oD U hc hl g az ⟨c,h⟩ (z.g_ aM).os (z.g_ aM).lD ax y;refine ag.mono ?_;rintro e ah⟨rfl,S⟩;have B:=((L.g_ S).alloc (.cells #[.bool c,Y h] 38));have j:=((au.g_ aM).g_ S).alloc (.cells #[.bool c,Y h] 38);have ar:=Q_ ah 38 #[.bool c,Y h];have v0:=B.f_ 0;have v1:=B.f_ 1;have ao:=B.f_ 2;have v3:=B.f_ 3;have bg:=ar.f_ 0;have o1:=ar.f_ 1;have r0:=j.f_ 0;have r1:=j.f_ 1;have r2:=j.f_ 2;have r3:=j.f_ 3;have s0:=j.hm 0;have s1:=j.hm 1;have bV:=j.hm 2;have cr:=j.hm 3)
 exact IQ):G:=h
def IQ(h:G:=by
 refine FY (v:=.tuple #[.agg #[Y g,Y az,.bool xr,Y a],.bool true]) (iC (p:=4) (u:=5) rfl rfl (((((j.hN 0 (Y g)).hN 1 (Y az)).hN 2 (.bool xr)).hN 3 (Y a))) underlying116 rfl k_) rfl ?_;rw[a6.out];exact⟨rfl,((((((F.trans aM).trans S).alloc _).setCell (p:=(Z gr 0)) (.inr bz) _).setCell (p:=(Z gr 1)) (.inr bz) _).setCell (p:=(Z gr 2)) (.inr bz) _).setCell (p:=(Z gr 3)) (.inr bz) _⟩):G:=h
def I5(h:G:=by
 have aT:=s.f_ 0;have f1:=au.hm 0;have bi:=au.f_ 0;go_wp2;have M:J [gr] wr (wr.setCell (Z gr 0) (.slice A' rs.length c')):=(H [gr] wr).setCell (.inl s_) _;refine rr_ #[.slice A' rs.length c'] (au.hN 0 (.slice A' rs.length c')) underlying35 ⟨A',c',rs,rfl,b.ir au I I M,?_,F.jE M bz⟩;rw[q.out,a6.out]):G:=h
def Jv(h:G:=by
 rw[be];exact⟨x.id,x.f,x.v.r,x.v.n,rfl,(((((MR.trans S).alloc _).setCell (p:=(Z gr 0)) (.inr bz) _).setCell (p:=(Z gr 1)) (.inr bz) _).setCell (p:=(Z gr 2)) (.inr bz) _).setCell (p:=(Z gr 3)) (.inr bz) _⟩):G:=h
def Kg(h:G:=by
 go_wp2
 all_goals go_ret
 all_goals exact⟨MP,a2,xs,by rw[<-ah.out];rfl,(by unfold Ns;rw[<-ah.out];exact Sl.iQ (iF ao (H [] wr))),(ov ah.out),R,F⟩):G:=h
def uF{P:Program}{ops:Array Oper}{rest:List Oper}{b:Oper}{a:Act}{Q:Exit->Act->World->Prop}(p:b.guard=none){l c:Operand}{t:TypeId}(u:b.op=.makeSlice t l c)(e:TypeId)(i:TypeInfo){j:Value}(d bytes:Nat)(m:P.underlying t=some (.slice e))(s:P.info? e=some i)(v:i.zero=some j)(C:i.size=d)(y:i.bytes=bytes)(k f:IntKind)(n:Nat)(hl:a.eval l=.int k (n:Int))(hc:a.eval c=.int f (n:Int))(r:(bytes:Int)*(n:Int)<=281474976710656)(z:n<=1000000000)(h:wpList P ops Q rest (a.put b.dst (.slice (j_ w.heap.size) n n)) (w.alloc (.cells (madeCells j.cells (n*d)) e))):wpList P ops Q (b::rest) a w:=
 wpList_step λx o=>uM (w:=w) p l c t u e i j d bytes m s v C y k f (n:Int) hl hc X r X (o _ _ (zu h))
def sf(n:Nat)(v:Vl)(h:Bk w g 38 (((madeCells #[.bool false,Y 0] ((n+1)*2)).setIfInBounds 0 (.bool v.r)).setIfInBounds 1 (Y v.n))):Vs w (j_ g) (v::List.replicate n default):=by
 have p:(madeCells #[Value.bool false,Y 0] ((n+1)*2)).size=(n+1)*2:=size_madeCells _ _;refine⟨by rw[lX],λ_=>⟨g,0,_,(0,0),rfl,h,?_⟩⟩;intro a o d;rw[W_]
 by_cases j:a=0
 .subst j;rw[GQ I,H0 X];exact d
 by_cases k:a=1
 .subst k;rw[H0 p_];exact d
 rw[GQ X,GQ X]
 have i:a<(n+1)*2:=by
  have:=(GR.1 d).1
  rw[lX,FJ,Gl]at this;exact this
 rw[oI _ i];have m:a=(a / 2)*2+a % 2:=X
 have b:(jd (v::List.replicate n default))[(a / 2)*2+a % 2]?=(Vl.E default)[a % 2]?:=by
  unfold jd;rw[jR Vl.E (λ_=>rfl) _ (a / 2) (a % 2) (by rw[FJ,Gl];omega) X]
  have:(v::List.replicate n (default:Vl))[a / 2]'(by rw[FJ,Gl];omega)=default:=by
   obtain⟨e,f⟩:∃e,a / 2=e+1:=⟨a / 2-1,X⟩;simp only[f,Hk,HT]
  rw[this]
 rw[<-m,d]at b
 show some ((#[Value.bool false,Value.int .i64 0])[a % 2]!)=some o
 rcases Hq a with h|h
 .rw[h]at b |-;exact b.symm
 .rw[h]at b |-;exact b.symm
def mT(h:Value)(nx:Int):Array Value:=#[h,Y 0,.bool false,Y 0,.bool false,Y 0,.bool false,Y 0,.bool false,Y 0,.bool false,Y 0,.bool false,Y 0,.bool false,Y 0,.bool false,Y 0,.bool false,Y 0,.bool false,Y 0,.bool false,Y 0,.bool false,Y 0,.bool false,Y 0,.bool false,Y 0,.bool false,Y 0,.bool false,Y 0,Y nx,Y 0,n_,.bool false,.bool false,.bool false,Y 0,Y 0]
def n8{A:OA}{n c:Nat}{nx:Int}:(mT (.slice A n c) nx).all (·.oneCell')=true:=by unfold mT;simp[Value.oneCell']
def startHeap(hq:Int):List Ob:=[⟨1,⟨true,2⟩::List.replicate 2 default⟩,⟨2,⟨true,0⟩::List.replicate (2+hq.toNat) default⟩]
def xe(ok:Bool)(hq:Int)(w:World)(e:Ending)(w':World):Prop:=
 ∃(A:OA) (c:Nat) (rs:List Rw),e=.returned (.tuple #[.agg #[.slice A rs.length c,Y 0,.bool false,Y 0,.bool false,Y 0,.bool false,Y 0,.bool false,Y 0,.bool false,Y 0,.bool false,Y 0,.bool false,Y 0,.bool false,Y 0,.bool false,Y 0,.bool false,Y 0,.bool false,Y 0,.bool false,Y 0,.bool false,Y 0,.bool false,Y 0,.bool false,Y 0,.bool false,Y 0,Y (if ok=true then 3 else 0),Y 0,n_,.bool false,.bool false,.bool false,Y 0,Y 0],Y (if ok=true then 0 else 1)])/\mB w' A c rs/\hU rs=(if ok=true then startHeap hq else[])/\J [] w w'
def v_(w:World)(h:Is w A l)(q:l.length<=1000000000)(s:hY l hq g9=false):
 Calls prog 91 #[.agg #[.slice A l.length c,Y hq,Y g9]] w (xe false hq w):=by
 obtain⟨a,d,b⟩:=qL w 26 #[.slice A l.length c,Y hq,Y g9] 154 #[n_,Y 0,.bool false,Y 0,.bool false,Y 0,.bool false,Y 0,.bool false,Y 0,.bool false,Y 0,.bool false,Y 0,.bool false,Y 0,.bool false,Y 0,.bool false,Y 0,.bool false,Y 0,.bool false,Y 0,.bool false,Y 0,.bool false,Y 0,.bool false,Y 0,.bool false,Y 0,.bool false,Y 0,Y 0,Y 0,n_,.bool false,.bool false,.bool false,Y 0,Y 0]
 go_enter func91,ntmps91
 go_upto_region 1 with fail
 obtain⟨B,j⟩:=nm_ ((w.alloc (.cells #[.slice A l.length c,Y hq,Y g9] 26)).alloc (.cells #[n_,Y 0,.bool false,Y 0,.bool false,Y 0,.bool false,Y 0,.bool false,Y 0,.bool false,Y 0,.bool false,Y 0,.bool false,Y 0,.bool false,Y 0,.bool false,Y 0,.bool false,Y 0,.bool false,Y 0,.bool false,Y 0,.bool false,Y 0,.bool false,Y 0,.bool false,Y 0,.bool false,Y 0,Y 0,Y 0,n_,.bool false,.bool false,.bool false,Y 0,Y 0] 154));rw[<-j]at a d b |-;clear j;obtain⟨n,f⟩:=nm_ w.heap.size;obtain⟨k,e⟩:=nm_ (w.heap.size+1);rw[<-e]at d;rw[<-f]at a;rw[<-e,<-f];have p:w.heap.size<=k:=X;have u:n≠k:=X;clear f e;have v:=a.f_ 0;have z:=a.f_ 1;have x:=a.f_ 2
 go_wp2_with (first|((go_at_call 92;have i:=iP A c l hq g9 (h.g_ b) q;rw[s]at i;refine i.mono ?_;rintro C E⟨rfl,m⟩);replace d:=d.g_ m;replace b:=b.trans m)|(refine kZ (mT (n_) 0) d (n8) ?_;intro y o G))
 exact l5 (mT (n_) 0) (Y 1) o underlying154 ⟨none,0,[],rfl,⟨Gz _ _ _ _,(λD r=>by cases r),H_ _⟩,rfl,b.jE G p⟩
def xG(v:Nat)(g9:Int)(w:World)(h:Is w A l)(hn:l.length<=1000000000)(hv:hY l (v:Int) g9=true)(aM:v<=64):
 Calls prog 91 #[.agg #[.slice A l.length c,Y (v:Int),Y g9]] w (xe true (v:Int) w):=by
 obtain⟨aG,ad,af,aj,bi⟩:=info_parts infoVl;obtain⟨j,d,i⟩:=qL w 26 #[.slice A l.length c,Y (v:Int),Y g9] 154 #[n_,Y 0,.bool false,Y 0,.bool false,Y 0,.bool false,Y 0,.bool false,Y 0,.bool false,Y 0,.bool false,Y 0,.bool false,Y 0,.bool false,Y 0,.bool false,Y 0,.bool false,Y 0,.bool false,Y 0,.bool false,Y 0,.bool false,Y 0,.bool false,Y 0,.bool false,Y 0,.bool false,Y 0,Y 0,Y 0,n_,.bool false,.bool false,.bool false,Y 0,Y 0]
 go_enter func91,ntmps91
 go_upto_region 1 with fail
 obtain⟨bj,bh⟩:=nm_ ((w.alloc (.cells #[.slice A l.length c,Y (v:Int),Y g9] 26)).alloc (.cells #[n_,Y 0,.bool false,Y 0,.bool false,Y 0,.bool false,Y 0,.bool false,Y 0,.bool false,Y 0,.bool false,Y 0,.bool false,Y 0,.bool false,Y 0,.bool false,Y 0,.bool false,Y 0,.bool false,Y 0,.bool false,Y 0,.bool false,Y 0,.bool false,Y 0,.bool false,Y 0,.bool false,Y 0,Y 0,Y 0,n_,.bool false,.bool false,.bool false,Y 0,Y 0] 154));rw[<-bh]at j d i |-;clear bh;obtain⟨L,P⟩:=nm_ w.heap.size;obtain⟨s,M⟩:=nm_ (w.heap.size+1);rw[<-M]at d;rw[<-P]at j;rw[<-M,<-P];have bz:w.heap.size<=s:=X;have ak:L≠s:=X;clear P M;have MN:=j.f_ 0;have O:=j.f_ 1;have aB:=j.f_ 2
 go_upto_region 3 with(go_at_call 92;have ag:=iP A c l (v:Int) g9 (h.g_ i) hn;rw[hv]at ag;refine ag.mono ?_;rintro F e⟨rfl,K⟩)
 replace j:=j.g_ K;replace d:=d.g_ K;replace i:=i.trans K;have E:=i.size
 have x:s≠e.heap.size/\s≠e.heap.size+1/\L≠e.heap.size:=by have h1:=d.lt;have h2:=j.lt;omega
 clear K MN O aB
 go_upto_region 4 with(at_make;refine uF rfl rfl 38 aG 2 16 underlying54 ad af aj bi .i64 .i64 3 r_ r_ X X ?_)
 have m:Bk ((e.alloc (.cells (madeCells #[.bool false,Y 0] (3*2)) 38)).alloc (.cells #[Y 1,.slice (j_ e.heap.size) 3 3] 56)) e.heap.size 38 (madeCells #[.bool false,Y 0] ((2+1)*2)):=(Q_ e 38 (madeCells #[.bool false,Y 0] ((2+1)*2))).alloc (.cells #[Y 1,.slice (j_ e.heap.size) 3 3] 56);obtain⟨-,k,-⟩:=qL e 38 (madeCells #[.bool false,Y 0] (3*2)) 56 #[Y 1,.slice (j_ e.heap.size) 3 3];replace j:=(j.alloc (.cells (madeCells #[.bool false,Y 0] (3*2)) 38)).alloc (.cells #[Y 1,.slice (j_ e.heap.size) 3 3] 56);replace d:=(d.alloc (.cells (madeCells #[.bool false,Y 0] (3*2)) 38)).alloc (.cells #[Y 1,.slice (j_ e.heap.size) 3 3] 56);replace i:=(i.alloc (.cells (madeCells #[.bool false,Y 0] (3*2)) 38)).alloc (.cells #[Y 1,.slice (j_ e.heap.size) 3 3] 56)
 have al:w.heap.size<=e.heap.size:=by have:=d.lt;have:=E;omega
 have D:s≠e.heap.size/\s≠e.heap.size+1/\L≠e.heap.size:=x;clear x E;obtain⟨Q,aw⟩:=nm_ ((e.alloc (.cells (madeCells #[.bool false,Y 0] (3*2)) 38)).alloc (.cells #[Y 1,.slice (j_ e.heap.size) 3 3] 56));rw[<-aw]at m k j d i |-;clear aw;obtain⟨t,am⟩:=nm_ (e.heap.size+1);rw[<-am]at k D |-;have g:t≠e.heap.size:=X;have an:w.heap.size<=t:=X;clear am;generalize e.heap.size=a at*;have V:Q.cell? (Z a 0)=some (.bool false):=(m.f_ 0).trans (oI 0 I);have W:Q.cell? (Z a 1)=some (Y 0):=(m.f_ 1).trans (oI 1 I);have R:=m.hm 0;have S:=m.hm 1;have o1:=k.f_ 1
 go_upto_region 5 with fail
 have C:=(m.hN 0 (.bool true)).hN 1 (Y 2);have o:=sf 2 ⟨true,2⟩ C;replace k:=(k.ib (p:=(Z a 0)) g (.bool true)).ib (p:=(Z a 1)) g (Y 2);replace j:=(j.ib (p:=(Z a 0)) D.2.2 (.bool true)).ib (p:=(Z a 1)) D.2.2 (Y 2);replace d:=(d.ib (p:=(Z a 0)) D.1 (.bool true)).ib (p:=(Z a 1)) D.1 (Y 2);replace i:=(i.setCell (p:=(Z a 0)) (.inr al) (.bool true)).setCell (p:=(Z a 1)) (.inr al) (Y 2);clear m C V W R S o1;obtain⟨f,aJ⟩:=nm_ ((Q.setCell (Z a 0) (.bool true)).setCell (Z a 1) (Y 2));rw[<-aJ]at o k j d i |-;clear aJ;have O:=j.f_ 1;have E:=i.size
 have x:s≠f.heap.size/\s≠f.heap.size+1/\t≠f.heap.size/\a≠f.heap.size:=by
  have h1:=d.lt;have h2:=k.lt;refine⟨X,X,X,?_⟩;intro he
  rcases FO a f.heap.size with h3|h3
  .omega
  .obtain⟨ao,off,U,hc⟩:=Sl.f_ o s_;injection U with U;injection U with y;have ap:=hc 0 (.bool true) rfl;have ar:=yN ap;simp only at ar;omega
 go_upto_region 6 with(at_make;refine uF rfl rfl 38 aG 2 16 underlying54 ad af aj bi .i64 .i64 (3+v) r_ r_ X X ?_)
 have m:Bk ((f.alloc (.cells (madeCells #[.bool false,Y 0] ((3+v)*2)) 38)).alloc (.cells #[Y 2,.slice (j_ f.heap.size) (3+v) (3+v)] 56)) f.heap.size 38 (madeCells #[.bool false,Y 0] ((2+v+1)*2)):=by
  have F:3+v=2+v+1:=X;have q:=(Q_ f 38 (madeCells #[.bool false,Y 0] ((3+v)*2))).alloc (.cells #[Y 2,.slice (j_ f.heap.size) (3+v) (3+v)] 56);rw[<-F];exact q
 obtain⟨-,r,-⟩:=qL f 38 (madeCells #[.bool false,Y 0] ((3+v)*2)) 56 #[Y 2,.slice (j_ f.heap.size) (3+v) (3+v)];replace k:=(k.alloc (.cells (madeCells #[.bool false,Y 0] ((3+v)*2)) 38)).alloc (.cells #[Y 2,.slice (j_ f.heap.size) (3+v) (3+v)] 56);replace o:=(o.alloc (.cells (madeCells #[.bool false,Y 0] ((3+v)*2)) 38)).alloc (.cells #[Y 2,.slice (j_ f.heap.size) (3+v) (3+v)] 56);replace d:=(d.alloc (.cells (madeCells #[.bool false,Y 0] ((3+v)*2)) 38)).alloc (.cells #[Y 2,.slice (j_ f.heap.size) (3+v) (3+v)] 56);replace i:=(i.alloc (.cells (madeCells #[.bool false,Y 0] ((3+v)*2)) 38)).alloc (.cells #[Y 2,.slice (j_ f.heap.size) (3+v) (3+v)] 56);clear j O;obtain⟨u,aF⟩:=nm_ ((f.alloc (.cells (madeCells #[.bool false,Y 0] ((3+v)*2)) 38)).alloc (.cells #[Y 2,.slice (j_ f.heap.size) (3+v) (3+v)] 56));rw[<-aF]at m k r o d i |-;clear aF;obtain⟨aq,au⟩:=nm_ (f.heap.size+1);rw[<-au]at r x |-;have av:aq≠f.heap.size:=X;clear au;generalize f.heap.size=b at*;have V:u.cell? (Z b 0)=some (.bool false):=(m.f_ 0).trans (oI 0 X);have W:u.cell? (Z b 1)=some (Y 0):=(m.f_ 1).trans (oI 1 X);have R:=m.hm 0;have S:=m.hm 1;have o1:=r.f_ 1;have e0:(0:Int)<3+(v:Int):=X
 go_upto_region 7 with fail
 have C:=(m.hN 0 (.bool true)).hN 1 (Y 0);have bu:=sf (2+v) ⟨true,0⟩ C;have z:J [b] u ((u.setCell (Z b 0) (.bool true)).setCell (Z b 1) (Y 0)):=((H [b] u).setCell (p:=(Z b 0)) (.inl s_) (.bool true)).setCell (p:=(Z b 1)) (.inl s_) (Y 0);replace k:=k.gr z (zu x.2.2.1);replace r:=r.gr z (zu av);replace d:=d.gr z (zu x.1)
 replace o:Vs ((u.setCell (Z b 0) (.bool true)).setCell (Z b 1) (Y 0)) (j_ a) (⟨true,2⟩::List.replicate 2 default):=Sl.iy o (λao off y _=>by
  injection y with y;injection y with y
  exact z.block ao (by assumption) (by rw[<-y];simpa using x.2.2.2))
 replace i:=i.jE z E;clear m C V W R S o1 z;obtain⟨n,bE⟩:=nm_ ((u.setCell (Z b 0) (.bool true)).setCell (Z b 1) (Y 0));rw[<-bE]at o bu k r d i |-;clear bE;have p0:=k.f_ 0;have p1:=k.f_ 1;have bG:=r.f_ 0;have q1:=r.f_ 1;have B:J [] n (n.alloc (.cells #[Y 1,.slice (j_ a) 3 3,Y 2,.slice (j_ b) (3+v) (3+v)] 56)):=(H [] n).alloc _;have hB:=Q_ n 56 #[Y 1,.slice (j_ a) 3 3,Y 2,.slice (j_ b) (3+v) (3+v)]
 go_wp2_with (refine kZ (mT (.slice (j_ n.heap.size) 2 2) 3) (d.g_ B) (n8) ?_;intro N ax G)
 have MS:J [] n N∨True:=.inr trivial;clear MS
 have MT:nV N [(⟨⟨1,⟨true,2⟩::List.replicate 2 default⟩,some (Z a 0),3⟩:Rw),(⟨⟨2,⟨true,0⟩::List.replicate (2+v) default⟩,some (Z b 0),3+v⟩:Rw)]:=by
  intro ay T;have hk:=(d.g_ B)
  rcases N_.1 T with rfl|T
  .exact⟨Sl.ir (o.g_ B) hk I G,by show(3:Nat)<=1000000000;decide⟩
  .have:ay=(⟨⟨2,⟨true,0⟩::List.replicate (2+v) default⟩,some (Z b 0),3+v⟩:Rw):=zu T
   subst this;exact⟨Sl.ir (bu.g_ B) hk I G,by show(⟨true,0⟩::List.replicate (2+v) (default:Vl)).length<=1000000000;simp;omega⟩
 have az:Os N (j_ n.heap.size) [(⟨⟨1,⟨true,2⟩::List.replicate 2 default⟩,some (Z a 0),3⟩:Rw),(⟨⟨2,⟨true,0⟩::List.replicate (2+v) default⟩,some (Z b 0),3+v⟩:Rw)]:=by
  have F:jP [(⟨⟨1,⟨true,2⟩::List.replicate 2 default⟩,some (Z a 0),3⟩:Rw),(⟨⟨2,⟨true,0⟩::List.replicate (2+v) default⟩,some (Z b 0),3+v⟩:Rw)]=(#[Y 1,.slice (j_ a) 3 3,Y 2,.slice (j_ b) (3+v) (3+v)]:Array Value).toList:=by
   simp[jP,Rw.E];omega
  have q:Sl (n.alloc (.cells #[Y 1,.slice (j_ a) 3 3,Y 2,.slice (j_ b) (3+v) (3+v)] 56)) 56 2 (j_ n.heap.size) 2 (jP [(⟨⟨1,⟨true,2⟩::List.replicate 2 default⟩,some (Z a 0),3⟩:Rw),(⟨⟨2,⟨true,0⟩::List.replicate (2+v) default⟩,some (Z b 0),3+v⟩:Rw)]):=by
   rw[F];exact⟨rfl,λ_=>⟨n.heap.size,0,_,(0,0),rfl,hB,λaA aC hu=>by rw[W_];simpa using hu⟩⟩
  exact Sl.ir q (d.g_ B) I G
 exact l5 (mT (.slice (j_ n.heap.size) 2 2) 3) (Y 0) ax underlying154 ⟨some (Z n.heap.size 0),2,[(⟨⟨1,⟨true,2⟩::List.replicate 2 default⟩,some (Z a 0),3⟩:Rw),(⟨⟨2,⟨true,0⟩::List.replicate (2+v) default⟩,some (Z b 0),3+v⟩:Rw)],rfl,⟨az,MT,H_ _⟩,rfl,(i.trans B).jE G bz⟩
def si(h:Is w A l)(e:l.length<=1000000000):
 Calls prog 91 #[.agg #[.slice A l.length c,Y hq,Y g9]] w (xe (hY l hq g9) hq w):=by
 cases a:hY l hq g9 with
 |false=>exact v_ A c l hq g9 w h e a
 |true=>
  have d:=a;unfold hY at d;simp only[FP,Gx]at d;obtain⟨b,rfl⟩:∃b:Nat,hq=b:=⟨hq.toNat,X⟩;exact xG A c l b g9 w h e a X
structure Cm where
 h:Sv Rw
 hG:Int
 jp:Int
 hW:Sv Ac
 jt:Bool
 hO:Bool
 v:Vl
 iN:Int
 hw:Int
def Cm.g8(s:Cm):Array Value:=#[.slice s.h.A s.h.l.length s.h.c,Y s.hG,Y s.jp,.slice s.hW.A s.hW.l.length s.hW.c,.bool s.jt,.bool s.hO,.bool s.v.r,Y s.v.n,Y s.iN,Y s.hw]
def Cm.one(s:Cm):s.g8.all (·.oneCell')=true:=by unfold Cm.g8;simp[Value.oneCell']
structure qs where
 h:List Ob
 hG:Int
 jp:Int
 hW:List Ac
 jt:Bool
 hO:Bool
 v:Vl
 iN:Int
 hw:Int
def Cm.p(s:Cm):qs:=⟨hU s.h.l,s.hG,s.jp,s.hW.l,s.jt,s.hO,s.v,s.iN,s.hw⟩
structure l9(w:World)(s:Cm):Prop where
 h:mB w s.h.A s.h.c s.h.l
 hW:As w s.hW.A s.hW.l
 qc:s.hW.ok
def l9.g_{w':World}{s:Cm}(h:l9 w s)(a:J [] w w'):l9 w' s:=⟨h.h.g_ a,h.hW.g_ a,h.qc⟩
def l9.ir{w':World}{s:Cm}{a:TypeId}{cs:Array Value}(h:l9 w s)(e:Bk w g a cs)(b:56≠a/\38≠a/\162≠a)(d:J [g] w w'):l9 w' s:=⟨h.h.ir e b.1 b.2.1 d,Sl.ir h.hW e b.2.2 d,h.qc⟩
def Cm.zero:Cm:=⟨.nil,0,0,.nil,false,false,default,0,0⟩
def l9.zero(w:World)(s:Cm)(a:s.h=.nil)(b:s.hW=.nil):l9 w s:=by
 obtain⟨f,G,h,i,j,e,n,m,k⟩:=s;simp only at a b;subst a;subst b;exact⟨⟨Gz _ _ _ _,λo d=>by simp[Sv.nil]at d,H_ _⟩,Gz _ _ _ _,H_ _⟩
def vg(P:qs)(n:Int)(w:World)(e:Ending)(w':World):Prop:=∃s:Cm,e=.returned (.tuple #[.agg s.g8,Y n])/\l9 w' s/\s.p=P/\J [] w w'
def s7(ok:Bool)(hq:Int):qs:=if ok=true then{Cm.zero.p with h:=startHeap hq} else Cm.zero.p
def wZ(h:Is w A l)(F:l.length<=1000000000):
 Calls prog 47 #[.agg #[.slice A l.length c,Y hq,Y g9]] w (vg (s7 (hY l hq g9) hq) (if hY l hq g9=true then 0 else 1) w):=by
 obtain⟨m,k,n⟩:=qL w 26 #[.slice A l.length c,Y hq,Y g9] 40 #[n_,Y 0,Y 0,n_,.bool false,.bool false,.bool false,Y 0,Y 0,Y 0]
 go_enter func47,ntmps47
 go_upto_region 1 with fail
 obtain⟨R,C⟩:=nm_ ((w.alloc (.cells #[.slice A l.length c,Y hq,Y g9] 26)).alloc (.cells #[n_,Y 0,Y 0,n_,.bool false,.bool false,.bool false,Y 0,Y 0,Y 0] 40));rw[<-C]at m k n |-;clear C;obtain⟨N,u⟩:=nm_ w.heap.size;obtain⟨y,r⟩:=nm_ (w.heap.size+1);rw[<-r]at k;rw[<-u]at m;rw[<-r,<-u];have D:w.heap.size<=y:=X;clear u r;have O:=m.f_ 0;have Q:=m.f_ 1;have P:=m.f_ 2
 cases K:hY l hq g9 with
 |false=>
  go_wp2_with (first|(go_at_call 91;have p:=si A c l hq g9 (h.g_ n) F;rw[K]at p;refine p.mono ?_;unfold xe;rintro x b⟨d,e,a,f,z,E,i⟩;have f:x=.returned (.tuple #[.agg (mT (.slice d a.length e) 0),Y 1]):=f;subst f)|(refine kZ (mT (.slice d a.length e) 0) (Q_ b 154 #[n_,Y 0,.bool false,Y 0,.bool false,Y 0,.bool false,Y 0,.bool false,Y 0,.bool false,Y 0,.bool false,Y 0,.bool false,Y 0,.bool false,Y 0,.bool false,Y 0,.bool false,Y 0,.bool false,Y 0,.bool false,Y 0,.bool false,Y 0,.bool false,Y 0,.bool false,Y 0,.bool false,Y 0,Y 0,Y 0,n_,.bool false,.bool false,.bool false,Y 0,Y 0]) (n8) ?_;intro q v o;have L:q.cell? (Z b.heap.size 0)=some (.slice d a.length e):=(v.f_ 0).trans rfl)|(refine lF rfl 40 _ _ rfl (y) r_ (Cm.zero.g8) r_ 40 _ ((k.g_ i).g_ (((H [] b).alloc _).jE o (H_ _))) r_ k_ (Cm.one _) ?_;intro M s G))
  all_goals (
   have j:J [] b q:=((H [] b).alloc _).jE o (H_ _);have B:=(k.g_ i).g_ j
   exact l5 Cm.zero.g8 (Y 1) s underlying40 ⟨Cm.zero,rfl,l9.zero _ _ rfl rfl,rfl,((n.trans i).trans j).jE G D⟩)
 |true=>
  go_wp2_with (first|(go_at_call 91;have p:=si A c l hq g9 (h.g_ n) F;rw[K]at p;refine p.mono ?_;unfold xe;rintro x b⟨d,e,a,f,z,E,i⟩;have f:x=.returned (.tuple #[.agg (mT (.slice d a.length e) 3),Y 0]):=f;subst f)|(refine kZ (mT (.slice d a.length e) 3) (Q_ b 154 #[n_,Y 0,.bool false,Y 0,.bool false,Y 0,.bool false,Y 0,.bool false,Y 0,.bool false,Y 0,.bool false,Y 0,.bool false,Y 0,.bool false,Y 0,.bool false,Y 0,.bool false,Y 0,.bool false,Y 0,.bool false,Y 0,.bool false,Y 0,.bool false,Y 0,.bool false,Y 0,.bool false,Y 0,Y 0,Y 0,n_,.bool false,.bool false,.bool false,Y 0,Y 0]) (n8) ?_;intro q v o;have L:q.cell? (Z b.heap.size 0)=some (.slice d a.length e):=(v.f_ 0).trans rfl)|(refine lF rfl 40 _ _ rfl (y) r_ (({Cm.zero with h:=⟨d,e,a⟩}:Cm).g8) r_ 40 _ ((k.g_ i).g_ (((H [] b).alloc _).jE o (H_ _))) r_ k_ (Cm.one _) ?_;intro M s G))
  all_goals (
   have j:J [] b q:=((H [] b).alloc _).jE o (H_ _);have B:=(k.g_ i).g_ j
   exact l5 ({Cm.zero with h:=⟨d,e,a⟩}:Cm).g8 (Y 0) s underlying40 ⟨({Cm.zero with h:=⟨d,e,a⟩}:Cm),rfl,⟨(z.g_ j).ir B I I G,Gz _ _ _ _,H_ _⟩,by unfold s7;rw[O_ rfl,<-show hU a=startHeap hq from E];rfl,((n.trans i).trans j).jE G D⟩)
def lj(c:List In)(hq g9:Int)(d:List Int)(t:i6)(view:List Ob):(ja c hq g9 d t view).run=t.run:=by
 unfold ja;simp only;split
 .rfl
 split
 .rfl
 split
 .rfl
 .rename_i b a
  have:=(kz a).run
  split
  .exact this
  split
  .exact this
  .exact this
def na(c:List In)(hq g9:Int)(d:List Int)(view:List Ob):Nat->i6->i6
 |0,t=>t
 |n+1,t=>if t.hT=0 then na c hq g9 d view n (ja c hq g9 d t view) else t
def zl(c:List In)(hq g9:Int)(d:List Int)(view:List Ob)(t:i6):i6:=na c hq g9 d view (todo c t+1) t
def zm{c:List In}{hq g9:Int}{d:List Int}{view:List Ob}(n:Nat){t:i6}(h:t.hT≠0):na c hq g9 d view n t=t:=by
 cases n with
 |zero=>rfl
 |succ n=>unfold na;rw[I_ h]
def By(w:World)(g i:Nat):Int:=match w.cell? (Z g i)with
 |some (.int _ n)=>n
 |_=>0
def vx{i:Nat}{k:IntKind}{n:Int}(h:w.cell? (Z g i)=some (.int k n)):By w g i=n:=by unfold By;rw[h]
def left(l:List In)(g:Nat)(w:World):Nat:=if By w g 42=0 then(64-By w g 47).toNat*(l.length+3)+oY l (By w g 3)+1 else 0
def left_of{l:List In}{t:Tk}(h:Bk w g 53 t.g8):left l g w=if t.hT=0 then todo l t.p+1 else 0:=by
 unfold left;rw[vx ((h.f_ 42).trans rfl),vx ((h.f_ 47).trans rfl),vx ((h.f_ 3).trans rfl)]
 rfl
def zn(B:OA)(x:Nat)(d:List Int)(t:Tk)(n:OA)(vc:Nat)(b:List Rw)(ad:Is w A l)(hn:l.length<=1000000000)(hD:Ns w 3 B d)(hd:d.length<=1000000000)(MO:ln w t)(hv:mB w n vc b)(E:ru l hq g9 d=true)(cA:b.length<=99999999)(bp:0<=t.run)(bA:t.run<=1099511627776)(aJ:t.hT=0->Way l t.p):
 Calls prog 50 #[.agg #[.slice A l.length c,Y hq,Y g9],.agg #[.slice B d.length x],.agg t.g8,.agg #[.slice n b.length vc]] w (np (zl l hq g9 d (hU b) t.p) 0 w):=by
 have aR:=by unfold ru at E;simp only[FP]at E;exact E.2
 have cj:=LW;obtain⟨P,F⟩:=mn_ (zl l hq g9 d (hU b) t.p);rw[F];unfold zl at F;obtain⟨j,r,e,s,k,C⟩:=Fj w 26 #[.slice A l.length c,Y hq,Y g9] 32 #[.slice B d.length x] 53 t.g8 35 #[.slice n b.length vc] 53 lK
 go_enter func50,ntmps50
 go_upto_region 1 with fail
 obtain⟨bj,bh⟩:=nm_ (((((w.alloc (.cells #[.slice A l.length c,Y hq,Y g9] 26)).alloc (.cells #[.slice B d.length x] 32)).alloc (.cells t.g8 53)).alloc (.cells #[.slice n b.length vc] 35)).alloc (.cells lK 53));rw[<-bh]at j r e s k C |-;obtain⟨N,bD⟩:=nm_ w.heap.size;obtain⟨V,W⟩:=nm_ (w.heap.size+1);obtain⟨gt,R⟩:=nm_ (w.heap.size+1+1);obtain⟨T,S⟩:=nm_ (w.heap.size+1+1+1);obtain⟨gr,i⟩:=nm_ (w.heap.size+1+1+1+1);rw[<-i]at k;rw[<-S]at s;rw[<-R]at e;rw[<-W]at r;rw[<-bD]at j;rw[<-i,<-S,<-R,<-W,<-bD];have bz:w.heap.size<=gr:=X;have cJ:w.heap.size<=gt:=X;have au:N≠gt/\V≠gt/\T≠gt/\gr≠gt:=X;clear bD W R S i;go_wp2
 go_loopw [12] (λ_ wr=>∃(a:Tk) (f:Nat),Bk wr N 26 #[.slice A l.length c,Y hq,Y g9]/\Bk wr V 32 #[.slice B d.length x]/\Bk wr gt 53 a.g8/\Bk wr T 35 #[.slice n b.length vc]/\Bk wr gr 53 lK/\ln wr a/\J [] w wr/\a.run=t.run/\na l hq g9 d (hU b) f a.p=P/\(a.hT=0->Way l a.p/\todo l a.p+1<=f)) (λ_ wr=>left l gt wr)
 case atStart=>exact⟨t,todo l t.p+1,j,r,e,s,k,MO.g_ C,C,rfl,F,λh=>⟨aJ h,H_ _⟩⟩
 case round=>
  clear j r e s k C F aJ;obtain⟨a,f,j,r,e,s,k,aj,i,D,K,ak⟩:=hrel;have al:=O (left_of (l:=l) e)
  by_cases o:a.hT=0
  .obtain⟨p,am⟩:=ak o;have ca:wr.cell? (Z gt 42)=some (Y 0):=(e.f_ 42).trans (FN (λf=>some (Value.int .i64 f)) o);have MN:=j.f_ 0;have ai:=j.f_ 1;have aB:=j.f_ 2;have aT:=r.f_ 0;have v0:=s.f_ 0
   have an:0<=a.run:=by rw[D];exact bp
   have ao:a.run<=1099511627776:=by rw[D];exact bA
   have bQ:=p.s1;have MT:=p.s0
   have ar:a.hw<=1000000:=by have av:a.p.hw=a.hw:=rfl;omega
   have aw:128*a.p.hw.toNat<=500000:=X
   have ay:a.pc<=1000000:=by have h:=p.hi;have av:a.p.pc=a.pc:=rfl;omega
   have cD: -1<=a.pc:=p.lo;have az:0<=a.hw:=p.s0;have g:=O K;have z:=O o;have aA:=O D;clear K D bQ MT
   go_wp2_with (first|(refine k5 e underlying53 ?_)|(go_at_call 39;((with_reducible refine(uO A c l hq g9 B x d a n vc b _ (ad.g_ i) hn (hD.g_ i) hd aj (hv.g_ i) E o (p.sm.mono aw) cA cD ay an ao az ar).mono ?_);unfold np;rintro av L⟨y,rfl,aC,M,MS⟩))|(refine kZ (y.g8) (Q_ L 53 lK) (Tk.one _) ?_;intro ah bS Q)|(refine k5 bS underlying53 ?_)|(refine lF rfl 53 _ _ rfl (gt) r_ (y.g8) r_ 53 _ ((e.g_ MS).g_ (((H [] L).alloc _).jE Q (H_ _))) r_ k_ (Tk.one _) ?_;intro m bT u))
   have v:=MS.trans (((H [] L).alloc _).jE Q (H_ _));have MP:=((H [] L).alloc _).jE Q (H_ _);obtain⟨n1,n2,n3,n4⟩:=au;obtain⟨sm,st0,st1,lo,hi,aE⟩:=rN aR p z.out (d:=d) (view:=hU b);rw[<-M]at aE;go_roundw
   case rel=>
    have aF:∃(a:Tk) (f:Nat),Bk m N 26 #[.slice A l.length c,Y hq,Y g9]/\Bk m V 32 #[.slice B d.length x]/\Bk m gt 53 a.g8/\Bk m T 35 #[.slice n b.length vc]/\Bk m gr 53 lK/\ln m a/\J [] w m/\a.run=t.run/\na l hq g9 d (hU b) f a.p=P/\(a.hT=0->Way l a.p/\todo l a.p+1<=f):=by
     refine⟨y,f-1,(j.g_ v).gr u (zu n1),(r.g_ v).gr u (zu n2),bT,(s.g_ v).gr u (zu n3),(k.g_ v).gr u (zu n4),(aC.g_ MP).ir (e.g_ v) I u,(i.trans v).jE u cJ,?_,?_,?_⟩
     .have h:y.p.run=y.run:=rfl;rw[<-h,M,lj];exact aA.out
     .obtain⟨aG,rfl⟩:∃aG,f=aG+1:=⟨f-1,X⟩;have h:=g.out;unfold na at h;rw[O_ (show a.p.hT=0 from z.out),<-M]at h;exact h
     .intro h0;obtain⟨h,h2⟩:=aE h0;exact⟨h,X⟩
    repeat apply Exists.intro
    first|exact aF|exact⟨aF,rfl⟩
    all_goals exact undef
   case measure=>
    have h:=al.out;rw[O_ z.out]at h;have h2:=left_of (l:=l) bT;rw[h,h2];split
    .rename_i h0
     have:=(aE h0).2
     omega
    .omega
  .have q:(a.hT==0)=false:=zu o;have ca:wr.cell? (Z gt 42)=some (Y a.hT):=(e.f_ 42).trans rfl;have g:=O K;have z:=O o;clear o K ak
   go_wp2_with (first|(refine k5 e underlying53 ?_)|(refine kZ (a.g8) k (Tk.one _) ?_;intro p m G))
   have h:P=a.p:=by rw[<-g.out];exact zm f z.out
   rw[h];exact l5 a.g8 (Y 0) m underlying53 ⟨a,rfl,aj.ir k I G,rfl,i.jE G bz⟩
def Ts(w:World)(A:OA)(l:List Tk):Prop:=Sl w 53 48 A l.length (l.flatMap λt=>t.g8.toList)
structure yn(w:World)(A:OA)(l:List Tk):Prop where
 row:Ts w A l
 B_:∀t∈l,ln w t
def tz:(t.g8.toList).length=48:=rfl
def yn.g_{w':World}{A:OA}{l:List Tk}(h:yn w A l)(a:J [] w w'):yn w' A l:=⟨Sl.g_ h.row a,λt b=>(h.B_ t b).g_ a⟩
def yn.at_{A:OA}{l:List Tk}(h:yn w A l){k:Nat}(m:k<l.length):∃b d,A=some (Z b d)/\(∀a,a<48->w.cell? (Z b (d+k*48+a))=(l[k]).g8[a]?):=by
 obtain⟨b,d,U,hc⟩:=Sl.f_ h.row X;refine⟨b,d,U,λa e=>?_⟩;have j:=jg (λt:Tk=>t.g8.toList) 48 tz l k a m e
 have f:a<(l[k]).g8.size:=by rw[Tk.size];exact e
 have i:(l[k]).g8.toList[a]?=some (l[k]).g8[a]:=by simp[f]
 rw[FM f,Ho];exact hc _ _ (j.trans i)
def nk(h:List Ob)(l:List i6)(k:Int):List Ob:=(l.take k.toNat).foldl la h
def yD(h:List Ob)(t:i6):(la h t).length<=h.length+t.nw.length:=by
 unfold la;rw[n9,jN];exact oZ t.nw h
def vW(l:List i6)(h:List Ob){n:Nat}(a:∀t∈l,t.nw.length<=n):(l.foldl la h).length<=h.length+l.length*n:=by
 induction l generalizing h with
 |nil=>simp
 |cons t l b=>
  have f:=b (la h t) (λe d=>a e (FQ _ d));have i:=yD h t;have j:=a t F9;rw[GT,FJ,G5];omega
def Aw(l:List Rw)(r:OA)(tc:Nat)(ts:List Tk)(k:Int)(w:World)(h:mB w A c l)(hn:l.length<=10000000)(MP:yn w r ts)(co:ts.length<=100)(ao:∀t∈ts,t.p.sm 500000)(b3:k<=1000000000):
 Calls prog 40 #[.agg #[.slice A l.length c],.slice r ts.length tc,Y k] w (mt (nk (hU l) (ts.map Tk.p) k) w):=by
 obtain⟨i1,bJ,bY,bZ,ca⟩:=info_parts infoOb
 have ad:∀t∈ts,t.nw.l.length<=500000:=λt W=>by have:=(ao t W).nw;have ae:t.p.nw.length=t.nw.l.length:=hZ _;omega
 obtain⟨D,E,j⟩:=qL w 35 #[.slice A l.length c] 35 #[n_]
 go_enter func40,ntmps40
 go_upto_region 1 with fail
 obtain⟨C,bh⟩:=nm_ ((w.alloc (.cells #[.slice A l.length c] 35)).alloc (.cells #[n_] 35));rw[<-bh]at D E j |-;clear bh;obtain⟨bw,aX⟩:=nm_ w.heap.size;obtain⟨gr,ag⟩:=nm_ (w.heap.size+1);rw[<-ag]at E;rw[<-aX]at D;rw[<-ag,<-aX];have bz:w.heap.size<=gr:=X;clear aX ag;have MN:=D.f_ 0;have cA:Sl C 56 2 A l.length (jP l):=(h.g_ j).os;have ah:=iY C C.heap.size 56 2
 go_upto_region 2 with(at_builtin;refine iJ _ rfl (.const (n_)) (.tmp 10) 33 rfl C.heap.size 56 i1 _ 2 32 underlying33 bJ bY bZ ca rfl I I none 0 0 _ rfl ah A l.length c _ rfl cA (j7 l) X (H_ _) ?_;intro f i u L ai;simp only[W_,FU]at L)
 have e:=ai.gr [] C (H_ _) (H _ _);have ak:mB u f i l:=⟨Sl.iQ L,(h.g_ (j.trans e)).lD,jk L⟩;have bE:=D.g_ e;have b9:=(E.g_ e).alloc (.cells #[.slice f l.length i] 35);have T:=Q_ u 35 #[.slice f l.length i];have g:=ak.g_ ((H [] u).alloc (.cells #[.slice f l.length i] 35));have bO:=(j.trans e).alloc (.cells #[.slice f l.length i] 35);have bC:=(j.trans e).size
 have al:gr≠u.heap.size:=by have:=E.lt;have:=e.size;omega
 obtain⟨aK,aJ⟩:=nm_ (u.alloc (.cells #[.slice f l.length i] 35));rw[<-aJ]at b9 T g bO |-;clear aJ;clear L ai e ak bE D E j MN cA ah;generalize u.heap.size=m at*;go_wp2
 go_loopw [8] (λan wr=>∃(a:Nat) (A':OA) (c':Nat) (rs:List Rw),a<=ts.length/\((a:Int)<=k∨a=0)/\an=Y a/\Bk wr m 35 #[.slice A' rs.length c']/\Bk wr gr 35 #[n_]/\mB wr A' c' rs/\hU rs=((ts.map Tk.p).take a).foldl la (hU l)/\J [] w wr) (λan _=>ts.length-(intOf an).toNat)
 case atStart=>exact⟨0,f,i,l,P_ _,.inr rfl,rfl,T,b9,g,rfl,bO⟩
 case round=>
  clear T b9 g bO;obtain⟨a,A',c',rs,MM,ck,rfl,s,au,b,bD,F⟩:=hrel;have q:=O bD;clear bD
  by_cases bQ:(a:Int)<k
  .by_cases z:a<ts.length
   .have aL:(a:Int)<(ts.length:Int):=X;obtain⟨P,S,d9,eW⟩:=(MP.g_ F).at_ z;subst d9
    have aI:rs.length<=100000000:=by
     have Q:=hZ rs
     have h2:=vW ((ts.map Tk.p).take a) (hU l) (n:=500000) (λap hu=>by
      obtain⟨t,W,rfl⟩:=Z_.1 (Gf hu)
      exact(ao t W).nw)
     rw[q.out]at Q;rw[Gd,F6,hZ]at h2;have h3:min a ts.length*500000<=100*500000:=Hr _ X;omega
    have ar:=(MP.g_ F).B_ ts[a] (M_ z);have cy:=ao ts[a] (M_ z);have av:=ad ts[a] (M_ z)
    have bK:=O (show((ts.map Tk.p).take (a+1)).foldl la (hU l)=la (hU rs) ts[a].p by
     rw[q.out,X_ (by rw[F6];exact z),G3,Gg]
     rfl)
    generalize ts[a]=t at*
    go_upto_region 5 with fail
    refine hI (λw'=>w'.cell? (Z m 0)=some (.slice A' rs.length c')/\∀d,d<48->w'.cell? (Z P (S+a*48+d))=t.g8[d]?) 6 k_ ?_;have o:=(H [] wr).drew;replace s:=s.g_ o;replace au:=au.g_ o;replace b:=b.g_ o;replace ar:=ar.g_ o;replace F:=F.trans o;have x:wr.drew.cell? (Z m 0)=some (.slice A' rs.length c')/\∀d,d<48->wr.drew.cell? (Z P (S+a*48+d))=t.g8[d]?:=⟨s.f_ 0,eW⟩;have e0:(0:Int)<=(a:Int):=X
    (iterate 4 refine jW x ?_)
    refine iH 4 (v:=.agg t.g8) x ?_ (hy:=(Or.inl ⟨r_,λw' bq=>lV 53 rfl P (S+a*48) r_ (λd R=>bq.2 d R) underlying53 rfl k_⟩))
    refine hV 5 λV y=>?_
    go_simp
    (go_at_call 84;((with_reducible refine(ww A' c' rs t ar b X (G_ cy.ws I) (G_ cy.ds I)).mono ?_);unfold mt;rintro ae K⟨aP,c4,r4,rfl,aw,ax,N⟩))
    have ay:=O ax;clear ax x
    have bg:∀d,d<48->K.cell? (Z P (S+a*48+d))=t.g8[d]?:=λd R=>by
     have Q:=eW d R
     have hs:d<t.g8.size:=by rw[Tk.size];exact R
     rw[FM hs]at Q |-;exact(o.trans N).f_ Q s_
    have B:=s.g_ N
    refine hX y ⟨B.f_ 0,bg⟩ λx=>?_
    clear y V;have az:=au.g_ N;have aT:=B.f_ 0;have f0:=B.hm 0;have M:J [m] K (K.setCell (Z m 0) (.slice aP r4.length c4)):=(H [m] K).setCell (.inl s_) _
    refine hV 6 λV y=>?_
    go_simp;refine y.out _ _ (λh=>U_ h I) ?_;clear y V;refine hC k_ ?_ _;clear x aT f0;go_wp2;go_roundw
    case rel=>exact⟨a+1,aP,c4,r4,X,X,gn,B.hN 0 _,az.ib (zu al) _,aw.ir B I I M,by rw[ay.out,bK.out],(F.trans N).jE M bC⟩
    case measure=>exact mz
   .have aL:¬(a:Int)<(ts.length:Int):=X
    have a6:=O (show nk (hU l) (ts.map Tk.p) k=((ts.map Tk.p).take a).foldl la (hU l) by
     unfold nk
     rw[FK (by rw[F6];omega),FK (by rw[F6];omega)])
    exact I5
  .have a6:=O (show nk (hU l) (ts.map Tk.p) k=((ts.map Tk.p).take a).foldl la (hU l) by
    unfold nk
    have:k.toNat=a:=X
    rw[this])
   exact I5
def lM(f:Fo)(dst:Int):Fo:=if f.dst=dst then⟨f.fr,f.dst,if 3<f.n+1 then 3 else f.n+1⟩ else if f.n-1<=0 then⟨f.fr,dst,1⟩ else⟨f.fr,f.dst,f.n-1⟩
def lr(l:List Fo)(fr dst:Int):List Fo:=
 if py l fr=true then l.set (lz l fr) (lM (l.getD (lz l fr) default) dst) else l.take (lz l fr)++([⟨fr,dst,1⟩]++l.drop (lz l fr))
def yS(P:List Fo)(w:World)(e:Ending)(w':World):Prop:=∃(A:OA) (d:Nat),e=.returned (.agg #[.slice A P.length d])/\Fs w' A P/\P.length<=d/\J [] w w'
def za(l:List Fo)(d e:Int)(w:World)(h:Fs w A l)(hn:l.length<=1000000000)(t:py l d=false):
 Calls prog 51 #[.agg #[.slice A l.length c],Y d,Y e] w (yS (lr l d e) w):=by
 have W:=O (show lr l d e=l.take (lz l d)++([⟨d,e,1⟩]++l.drop (lz l d)) by unfold lr;rw[t];rfl);obtain⟨a,Q⟩:=nm_ (lz l d)
 have hk:a<=l.length:=by rw[Q];exact CL
 have C:=O Q;clear Q;obtain⟨K,M,N,F,L⟩:=info_parts infoFo;obtain⟨b,B,m⟩:=qL w 96 #[.slice A l.length c] 96 #[n_]
 go_enter func51,ntmps51
 go_upto_region 1 with fail
 obtain⟨k,bh⟩:=nm_ ((w.alloc (.cells #[.slice A l.length c] 96)).alloc (.cells #[n_] 96));rw[<-bh]at b B m |-;clear bh;obtain⟨gs,R⟩:=nm_ w.heap.size;obtain⟨z,D⟩:=nm_ (w.heap.size+1);rw[<-D]at B;rw[<-R]at b;rw[<-D,<-R];have bz:w.heap.size<=z:=X;clear R D;have S:=b.f_ 0;have cA:Sl k 168 3 A l.length (l.flatMap Fo.E):=h.g_ m
 go_upto_region 2 with(at_builtin;refine iJ _ rfl (.const (n_)) (.tmp 12) 94 rfl k.heap.size 168 K _ 3 24 underlying94 M N F L rfl I I none 0 0 [] rfl (iY _ _ _ _) A l.length c _ rfl cA (vz l) X (H_ _) ?_;intro q x w2 E V;simp only[W_,FU]at E;have S:=(b.g_ (V.gr [] k (H_ _) (H _ _))).f_ 0)
 have n:J [] k w2:=V.gr [] k (H_ _) (H _ _);have ax:Fs w2 q l:=Sl.iQ E;have b0:=jk E;have bR:=b.g_ n;have b9:=B.g_ n;clear b B
 go_upto_region 4 with(go_at_call 99;((with_reducible refine(rz A c l d (h.g_ (m.trans n)) hn).mono ?_);rw[t];rintro ae i⟨rfl,o⟩))
 rw[<-C.out];clear S;refine hI (λ_=>True) 14 k_ ?_;have G:J [] i i.drew:=(H [] i).drew;obtain⟨bI,cD⟩:=nm_ i.drew;rw[<-cD]at G |-;clear cD;have b:True:=trivial;have e0:(0:Int)<=(a:Int):=X;have aC:(a:Int)<=(l.length:Int):=X;have aw:(a:Int)<=(x:Int):=X;have aW:=O (show ∀P∈(#[Y d,Y e,Y 1]:Array Value).toList++(l.drop a).flatMap Fo.E,P.oneCell'=true from λP hu=>vz (⟨d,e,1⟩::l.drop a) P hu)
 (iterate 3 refine jW b ?_)
 refine iH 3 (v:=.slice q a a) b ?_ (hy:=(Or.inl ⟨r_,(by intro w' bq;go_simp;try with_reducible rfl)⟩));refine iH 4 b ?_;refine iH 5 b ?_;refine iH 6 b ?_;refine iH 8 b ?_;refine iH 9 b ?_;refine iH 10 (v:=.slice (if x=a then q else q.map (·.add (a*3))) (l.length-a) (x-a)) b ?_ (hy:=(Or.inl ⟨r_,(by intro w' bq;go_simp;try with_reducible rfl)⟩))
 refine hV 7 λj f=>?_
 go_simp;have af:J [] i (bI.alloc (.cells #[Y d,Y e,Y 1] 168)):=G.alloc _;have bA:=kV (s:=3) (Q_ bI 168 #[Y d,Y e,Y 1]) rfl;have aG:=(Sl.yM pi (ax.g_ (o.trans af)) hk x b0);refine f.out _ _ (λ_=>trivial) ?_;clear f j
 try simp only[a_]
 refine hV 11 λj f=>?_
 refine mG _ r_ (.tmp 29) (.tmp 32) 94 r_ 168 K _ 3 24 underlying94 M N F L rfl I I _ 1 _ r_ bA _ (l.length-a) _ _ r_ aG (vz _) X ?_;intro a7 c5 ad ao bu ak;have T:J [] i ad:=af.trans ak;have aL:=(Sl.yw pi (ax.g_ (o.trans T)) hk);refine f.out _ _ (λ_=>trivial) ?_;clear f j
 try simp only[a_]
 refine hV 12 λj f=>?_
 refine mG _ r_ (.tmp 25) (.tmp 33) 94 r_ 168 K _ 3 24 underlying94 M N F L rfl I I _ a _ r_ aL _ (1+(l.length-a)) _ _ r_ bu aW.out X ?_;intro u r y bF bY az;have ag:J [] i y:=T.trans az;refine f.out _ _ (λ_=>trivial) ?_;clear f j
 try simp only[a_]
 refine iH 13 b ?_;refine hC k_ ?_ _;have p:=b9.g_ (o.trans ag);have r0:=p.f_ 0;have f0:=p.hm 0;go_wp2
 all_goals (
  have av:J [z] y (y.setCell (Z z 0) (.slice u (a+(1+(l.length-a))) r)):=(H [z] y).setCell (.inl s_) _
  have iG:(lr l d e).length=a+(1+(l.length-a)):=by rw[W.out,<-C.out];simp;omega
  refine FY (v:=.agg #[.slice u (a+(1+(l.length-a))) r]) (G7 rfl _ _ _ _ _ _ _ rfl (p.hN 0 (.slice u (a+(1+(l.length-a))) r)) underlying96 rfl k_) rfl ⟨u,r,by rw[iG],?_,by rw[iG];exact bF,((m.trans n).trans (o.trans ag)).jE av bz⟩;unfold Fs;rw[iG,W.out,<-C.out,F2,F2,Hz]
  exact Sl.ir bY p I av)
def y_(l:List Fo)(s e:Int)(w:World)(h:Fs w A l)(hn:l.length<=1000000000)(t:py l s=true)(hb:∀f∈l, -1000<=f.n/\f.n<=1000):
 Calls prog 51 #[.agg #[.slice A l.length c],Y s,Y e] w (yS (lr l s e) w):=by
 have cV:=O (show lr l s e=l.set (lz l s) (lM (l.getD (lz l s) default) e) by unfold lr;rw[t];rfl);obtain⟨a,ae⟩:=nm_ (lz l s)
 have R:a<l.length:=by rw[ae];unfold py at t;simp at t;exact t.1
 have af:=O ae
 have aq:l.getD a default=l[a]:=by simp[List.getD,L_ R]
 have D:Hid (lr l s e=l.set a (lM l[a] e)):=O (by rw[cV.out,<-af.out,aq]);have MO:=hb l[a] (M_ R);clear ae cV aq hb;obtain⟨bC,bv,bw,aZ,bg⟩:=info_parts infoFo;obtain⟨ag,hR,P⟩:=qL w 96 #[.slice A l.length c] 96 #[n_]
 go_enter func51,ntmps51
 go_upto_region 1 with fail
 obtain⟨bj,bh⟩:=nm_ ((w.alloc (.cells #[.slice A l.length c] 96)).alloc (.cells #[n_] 96));rw[<-bh]at ag hR P |-;clear bh;obtain⟨gs,ai⟩:=nm_ w.heap.size;obtain⟨r,aj⟩:=nm_ (w.heap.size+1);rw[<-aj]at hR;rw[<-ai]at ag;rw[<-aj,<-ai];have bz:w.heap.size<=r:=X;clear ai aj;have MN:=ag.f_ 0;have cA:Sl bj 168 3 A l.length (l.flatMap Fo.E):=h.g_ P
 go_upto_region 2 with(at_builtin;refine iJ _ rfl (.const (n_)) (.tmp 12) 94 rfl bj.heap.size 168 bC _ 3 24 underlying94 bv bw aZ bg rfl I I none 0 0 [] rfl (iY _ _ _ _) A l.length c _ rfl cA (vz l) X (H_ _) ?_;intro aD n w2 aV ak;simp only[W_,FU]at aV;have MN:=(ag.g_ (ak.gr [] bj (H_ _) (H _ _))).f_ 0)
 have MS:J [] bj w2:=ak.gr [] bj (H_ _) (H _ _);have ax:Fs w2 aD l:=Sl.iQ aV;have b0:=jk aV;have bR:=ag.g_ MS;have b9:=hR.g_ MS;clear ag hR;obtain⟨g,cur,al,G,U,an⟩:=kS aV X;subst al
 have o:=λao ap(hu:(Fo.E l[a])[ao]?=some ap)=>an (a*3+ao) ap (by
  have hj:ao<3:=by have:=(GR.1 hu).1;rw[pi]at this;exact this
  rw[jg Fo.E 3 pi l a ao R hj]
  exact hu)
 go_upto_region 6 with(go_at_call 99;((with_reducible refine(rz A c l s (h.g_ (P.trans MS)) hn).mono ?_);rw[t];rintro ar E⟨rfl,au⟩))
 rw[<-af.out];clear MN;have aw:=U.g_ au;have ay:(a:Int)<(l.length:Int):=X;obtain⟨f,bO⟩:=nm_ (l[a]);rw[<-bO]at o MO D;have da:=O bO;clear bO;have k0:E.cell? (Z g (a*3))=some (Y f.fr):=(aw.f_ _).trans (o 0 _ rfl);have k1:E.cell? (Z g (a*3+1))=some (Y f.dst):=(aw.f_ _).trans (o 1 _ rfl);have bm:E.cell? (Z g (a*3+2))=some (Y f.n):=(aw.f_ _).trans (o 2 _ rfl)
 go_upto_region 7 with fail
 have i:=Q_ E 168 #[Y f.fr,Y f.dst,Y f.n];have MT:=aw.alloc (.cells #[Y f.fr,Y f.dst,Y f.n] 168);have az:=(b9.g_ au).alloc (.cells #[Y f.fr,Y f.dst,Y f.n] 168);have bG:=((P.trans MS).trans au).alloc (.cells #[Y f.fr,Y f.dst,Y f.n] 168);have MP:g≠E.heap.size:=ov aw.lt;have ad:r≠E.heap.size:=ov ((b9.g_ au).lt);have bQ:w.heap.size<=E.heap.size:=((P.trans MS).trans au).size;have v:r≠g:=Bk.me b9 U I;have u:w.heap.size<=g:=G_ P.size G;clear k0 k1 bm aw aV ak ax bR b9 MS au P cA U G;obtain⟨F,bE⟩:=nm_ (E.alloc (.cells #[Y f.fr,Y f.dst,Y f.n] 168));rw[<-bE]at i MT az bG |-;clear bE;generalize E.heap.size=d at*
 by_cases C:f.dst=e
 .have q:(f.dst==e)=true:=zu C
  by_cases h3:3<f.n+1
  .have T:=O (show lM f e=⟨f.fr,f.dst,3⟩ by unfold lM;rw[O_ C,O_ h3])
   have q3:(3<f.n+1)=True:=by simp[h3]
   clear C;have S:=i.f_ 0;have V:=i.f_ 1;have Q:=i.f_ 2;have L:=i.hm 0;have M:=i.hm 1;have N:=i.hm 2
   go_upto_region 12 with fail
   have m:Bk (F.setCell (Z d 2) (Y 3)) d 168 #[Y f.fr,Y f.dst,Y 3]:=(i).hN 2 (Y 3);have b:=(MT).ib (p:=(Z d 2)) MP (Y 3);have k:=(az).ib (p:=(Z d 2)) ad (Y 3);have y:=(bG).setCell (p:=(Z d 2)) (.inr bQ) (Y 3);clear S V Q L M N;obtain⟨j,z⟩:=nm_ (F.setCell (Z d 2) (Y 3));rw[<-z]at m b k y |-;clear z;have z0:=m.f_ 0;have aR:=m.f_ 1;have aU:=m.f_ 2;have k0:j.cell? (Z g (a*3))=some (Y f.fr):=(b.f_ _).trans (o 0 _ rfl);have k1:j.cell? (Z g (a*3+1))=some (Y f.dst):=(b.f_ _).trans (o 1 _ rfl);have bm:j.cell? (Z g (a*3+2))=some (Y f.n):=(b.f_ _).trans (o 2 _ rfl);have f0:=b.hm (a*3);have f1:=b.hm (a*3+1);have bW:=b.hm (a*3+2);have r0:=k.f_ 0;have aA:=k.hm 0
   have W:Fs ((((j.setCell (Z g (a*3)) (Y f.fr)).setCell (Z g (a*3+1)) (Y f.dst)).setCell (Z g (a*3+2)) (Y 3))) (j_ g) (l.set a ⟨f.fr,f.dst,3⟩):=by
    unfold Fs;exact sW Fo.E pi R ⟨f.fr,f.dst,3⟩ rfl b an s_
   have B:=((k.ib (p:=(Z g (a*3))) v (Y f.fr)).ib (p:=(Z g (a*3+1))) v (Y f.dst)).ib (p:=(Z g (a*3+2))) v (Y 3);have x:J [r] _ _:=(H [r] ((((j.setCell (Z g (a*3)) (Y f.fr)).setCell (Z g (a*3+1)) (Y f.dst)).setCell (Z g (a*3+2)) (Y 3)))).setCell (p:=(Z r 0)) (.inl s_) (.slice (j_ g) l.length n);have aB:=((y.setCell (p:=(Z g (a*3))) (.inr u) (Y f.fr)).setCell (p:=(Z g (a*3+1))) (.inr u) (Y f.dst)).setCell (p:=(Z g (a*3+2))) (.inr u) (Y 3)
   have iG:(lr l s e).length=l.length:=by rw[D.out];simp
   go_wp2;refine rr_ #[.slice (j_ g) l.length n] (B.hN 0 (.slice (j_ g) l.length n)) underlying96 ⟨some (Z g 0),n,by rw[iG],?_,by rw[iG];exact b0,aB.jE x bz⟩;rw[D.out,T.out];unfold Fs;rw[FV]
   have K:Sl ((((j.setCell (Z g (a*3)) (Y f.fr)).setCell (Z g (a*3+1)) (Y f.dst)).setCell (Z g (a*3+2)) (Y 3))) 168 3 (j_ g) l.length ((l.set a ⟨f.fr,f.dst,3⟩).flatMap Fo.E):=by have q:=W;unfold Fs at q;rw[FV]at q;exact q
   exact Sl.ir K B I x
  .have T:=O (show lM f e=⟨f.fr,f.dst,f.n+1⟩ by unfold lM;rw[O_ C,I_ h3])
   have q3:(3<f.n+1)=False:=by simp[h3]
   clear C;have S:=i.f_ 0;have V:=i.f_ 1;have Q:=i.f_ 2;have L:=i.hm 0;have M:=i.hm 1;have N:=i.hm 2
   go_upto_region 12 with fail
   have m:Bk (F.setCell (Z d 2) (Y (f.n+1))) d 168 #[Y f.fr,Y f.dst,Y (f.n+1)]:=(i).hN 2 (Y (f.n+1));have b:=(MT).ib (p:=(Z d 2)) MP (Y (f.n+1));have k:=(az).ib (p:=(Z d 2)) ad (Y (f.n+1));have y:=(bG).setCell (p:=(Z d 2)) (.inr bQ) (Y (f.n+1));clear S V Q L M N;obtain⟨j,z⟩:=nm_ (F.setCell (Z d 2) (Y (f.n+1)));rw[<-z]at m b k y |-;clear z;have z0:=m.f_ 0;have aR:=m.f_ 1;have aU:=m.f_ 2;have k0:j.cell? (Z g (a*3))=some (Y f.fr):=(b.f_ _).trans (o 0 _ rfl);have k1:j.cell? (Z g (a*3+1))=some (Y f.dst):=(b.f_ _).trans (o 1 _ rfl);have bm:j.cell? (Z g (a*3+2))=some (Y f.n):=(b.f_ _).trans (o 2 _ rfl);have f0:=b.hm (a*3);have f1:=b.hm (a*3+1);have bW:=b.hm (a*3+2);have r0:=k.f_ 0;have aA:=k.hm 0
   have W:Fs ((((j.setCell (Z g (a*3)) (Y f.fr)).setCell (Z g (a*3+1)) (Y f.dst)).setCell (Z g (a*3+2)) (Y (f.n+1)))) (j_ g) (l.set a ⟨f.fr,f.dst,f.n+1⟩):=by
    unfold Fs;exact sW Fo.E pi R ⟨f.fr,f.dst,f.n+1⟩ rfl b an s_
   have B:=((k.ib (p:=(Z g (a*3))) v (Y f.fr)).ib (p:=(Z g (a*3+1))) v (Y f.dst)).ib (p:=(Z g (a*3+2))) v (Y (f.n+1));have x:J [r] _ _:=(H [r] ((((j.setCell (Z g (a*3)) (Y f.fr)).setCell (Z g (a*3+1)) (Y f.dst)).setCell (Z g (a*3+2)) (Y (f.n+1))))).setCell (p:=(Z r 0)) (.inl s_) (.slice (j_ g) l.length n);have aB:=((y.setCell (p:=(Z g (a*3))) (.inr u) (Y f.fr)).setCell (p:=(Z g (a*3+1))) (.inr u) (Y f.dst)).setCell (p:=(Z g (a*3+2))) (.inr u) (Y (f.n+1))
   have iG:(lr l s e).length=l.length:=by rw[D.out];simp
   go_wp2;refine rr_ #[.slice (j_ g) l.length n] (B.hN 0 (.slice (j_ g) l.length n)) underlying96 ⟨some (Z g 0),n,by rw[iG],?_,by rw[iG];exact b0,aB.jE x bz⟩;rw[D.out,T.out];unfold Fs;rw[FV]
   have K:Sl ((((j.setCell (Z g (a*3)) (Y f.fr)).setCell (Z g (a*3+1)) (Y f.dst)).setCell (Z g (a*3+2)) (Y (f.n+1)))) 168 3 (j_ g) l.length ((l.set a ⟨f.fr,f.dst,f.n+1⟩).flatMap Fo.E):=by have q:=W;unfold Fs at q;rw[FV]at q;exact q
   exact Sl.ir K B I x
 .have q:(f.dst==e)=false:=zu C
  by_cases hz:f.n-1<=0
  .have T:=O (show lM f e=⟨f.fr,e,1⟩ by unfold lM;rw[I_ C,O_ hz])
   have q2:(f.n-1<=0)=True:=by simp[hz]
   clear C;have S:=i.f_ 0;have V:=i.f_ 1;have Q:=i.f_ 2;have L:=i.hm 0;have M:=i.hm 1;have N:=i.hm 2
   go_upto_region 12 with fail
   have m:Bk (((F.setCell (Z d 2) (Y (f.n-1))).setCell (Z d 1) (Y e)).setCell (Z d 2) (Y 1)) d 168 #[Y f.fr,Y e,Y 1]:=(((i).hN 2 (Y (f.n-1))).hN 1 (Y e)).hN 2 (Y 1);have b:=(((MT).ib (p:=(Z d 2)) MP (Y (f.n-1))).ib (p:=(Z d 1)) MP (Y e)).ib (p:=(Z d 2)) MP (Y 1);have k:=(((az).ib (p:=(Z d 2)) ad (Y (f.n-1))).ib (p:=(Z d 1)) ad (Y e)).ib (p:=(Z d 2)) ad (Y 1);have y:=(((bG).setCell (p:=(Z d 2)) (.inr bQ) (Y (f.n-1))).setCell (p:=(Z d 1)) (.inr bQ) (Y e)).setCell (p:=(Z d 2)) (.inr bQ) (Y 1);clear S V Q L M N;obtain⟨j,z⟩:=nm_ (((F.setCell (Z d 2) (Y (f.n-1))).setCell (Z d 1) (Y e)).setCell (Z d 2) (Y 1));rw[<-z]at m b k y |-;clear z;have z0:=m.f_ 0;have aR:=m.f_ 1;have aU:=m.f_ 2;have k0:j.cell? (Z g (a*3))=some (Y f.fr):=(b.f_ _).trans (o 0 _ rfl);have k1:j.cell? (Z g (a*3+1))=some (Y f.dst):=(b.f_ _).trans (o 1 _ rfl);have bm:j.cell? (Z g (a*3+2))=some (Y f.n):=(b.f_ _).trans (o 2 _ rfl);have f0:=b.hm (a*3);have f1:=b.hm (a*3+1);have bW:=b.hm (a*3+2);have r0:=k.f_ 0;have aA:=k.hm 0
   have W:Fs ((((j.setCell (Z g (a*3)) (Y f.fr)).setCell (Z g (a*3+1)) (Y e)).setCell (Z g (a*3+2)) (Y 1))) (j_ g) (l.set a ⟨f.fr,e,1⟩):=by
    unfold Fs;exact sW Fo.E pi R ⟨f.fr,e,1⟩ rfl b an s_
   have B:=((k.ib (p:=(Z g (a*3))) v (Y f.fr)).ib (p:=(Z g (a*3+1))) v (Y e)).ib (p:=(Z g (a*3+2))) v (Y 1);have x:J [r] _ _:=(H [r] ((((j.setCell (Z g (a*3)) (Y f.fr)).setCell (Z g (a*3+1)) (Y e)).setCell (Z g (a*3+2)) (Y 1)))).setCell (p:=(Z r 0)) (.inl s_) (.slice (j_ g) l.length n);have aB:=((y.setCell (p:=(Z g (a*3))) (.inr u) (Y f.fr)).setCell (p:=(Z g (a*3+1))) (.inr u) (Y e)).setCell (p:=(Z g (a*3+2))) (.inr u) (Y 1)
   have iG:(lr l s e).length=l.length:=by rw[D.out];simp
   go_wp2;refine rr_ #[.slice (j_ g) l.length n] (B.hN 0 (.slice (j_ g) l.length n)) underlying96 ⟨some (Z g 0),n,by rw[iG],?_,by rw[iG];exact b0,aB.jE x bz⟩;rw[D.out,T.out];unfold Fs;rw[FV]
   have K:Sl ((((j.setCell (Z g (a*3)) (Y f.fr)).setCell (Z g (a*3+1)) (Y e)).setCell (Z g (a*3+2)) (Y 1))) 168 3 (j_ g) l.length ((l.set a ⟨f.fr,e,1⟩).flatMap Fo.E):=by have q:=W;unfold Fs at q;rw[FV]at q;exact q
   exact Sl.ir K B I x
  .have T:=O (show lM f e=⟨f.fr,f.dst,f.n-1⟩ by unfold lM;rw[I_ C,I_ hz])
   have q2:(f.n-1<=0)=False:=by simp[hz]
   clear C;have S:=i.f_ 0;have V:=i.f_ 1;have Q:=i.f_ 2;have L:=i.hm 0;have M:=i.hm 1;have N:=i.hm 2
   go_upto_region 12 with fail
   have m:Bk (F.setCell (Z d 2) (Y (f.n-1))) d 168 #[Y f.fr,Y f.dst,Y (f.n-1)]:=(i).hN 2 (Y (f.n-1));have b:=(MT).ib (p:=(Z d 2)) MP (Y (f.n-1));have k:=(az).ib (p:=(Z d 2)) ad (Y (f.n-1));have y:=(bG).setCell (p:=(Z d 2)) (.inr bQ) (Y (f.n-1));clear S V Q L M N;obtain⟨j,z⟩:=nm_ (F.setCell (Z d 2) (Y (f.n-1)));rw[<-z]at m b k y |-;clear z;have z0:=m.f_ 0;have aR:=m.f_ 1;have aU:=m.f_ 2;have k0:j.cell? (Z g (a*3))=some (Y f.fr):=(b.f_ _).trans (o 0 _ rfl);have k1:j.cell? (Z g (a*3+1))=some (Y f.dst):=(b.f_ _).trans (o 1 _ rfl);have bm:j.cell? (Z g (a*3+2))=some (Y f.n):=(b.f_ _).trans (o 2 _ rfl);have f0:=b.hm (a*3);have f1:=b.hm (a*3+1);have bW:=b.hm (a*3+2);have r0:=k.f_ 0;have aA:=k.hm 0
   have W:Fs ((((j.setCell (Z g (a*3)) (Y f.fr)).setCell (Z g (a*3+1)) (Y f.dst)).setCell (Z g (a*3+2)) (Y (f.n-1)))) (j_ g) (l.set a ⟨f.fr,f.dst,f.n-1⟩):=by
    unfold Fs;exact sW Fo.E pi R ⟨f.fr,f.dst,f.n-1⟩ rfl b an s_
   have B:=((k.ib (p:=(Z g (a*3))) v (Y f.fr)).ib (p:=(Z g (a*3+1))) v (Y f.dst)).ib (p:=(Z g (a*3+2))) v (Y (f.n-1));have x:J [r] _ _:=(H [r] ((((j.setCell (Z g (a*3)) (Y f.fr)).setCell (Z g (a*3+1)) (Y f.dst)).setCell (Z g (a*3+2)) (Y (f.n-1))))).setCell (p:=(Z r 0)) (.inl s_) (.slice (j_ g) l.length n);have aB:=((y.setCell (p:=(Z g (a*3))) (.inr u) (Y f.fr)).setCell (p:=(Z g (a*3+1))) (.inr u) (Y f.dst)).setCell (p:=(Z g (a*3+2))) (.inr u) (Y (f.n-1))
   have iG:(lr l s e).length=l.length:=by rw[D.out];simp
   go_wp2;refine rr_ #[.slice (j_ g) l.length n] (B.hN 0 (.slice (j_ g) l.length n)) underlying96 ⟨some (Z g 0),n,by rw[iG],?_,by rw[iG];exact b0,aB.jE x bz⟩;rw[D.out,T.out];unfold Fs;rw[FV]
   have K:Sl ((((j.setCell (Z g (a*3)) (Y f.fr)).setCell (Z g (a*3+1)) (Y f.dst)).setCell (Z g (a*3+2)) (Y (f.n-1)))) 168 3 (j_ g) l.length ((l.set a ⟨f.fr,f.dst,f.n-1⟩).flatMap Fo.E):=by have q:=W;unfold Fs at q;rw[FV]at q;exact q
   exact Sl.ir K B I x
def zb(l:List Fo)(a b:Int)(h:Fs w A l)(d:l.length<=1000000000)(e:∀f∈l, -1000<=f.n/\f.n<=1000):
 Calls prog 51 #[.agg #[.slice A l.length c],Y a,Y b] w (yS (lr l a b) w):=by
 cases t:py l a with
 |false=>exact za A c l a b w h d t
 |true=>exact y_ A c l a b w h d t e
def Dv(l:List In)(hq g9 x:Int):Prop:=kN l x=true/\jm l hq g9 x=false/\ -1000000000<=x/\x<=1000000000
def C8(l:List In)(hq g9:Int)(w:World)(e:Ending)(w':World):Prop:=∃(A:OA) (d:Nat) (xs:List Int),e=.returned (.slice A xs.length d)/\Ns w' 3 A xs/\xs.length<=16/\(∀x∈xs,Dv l hq g9 x)/\J [] w w'
def roomOf(v:Value):Nat:=match v with
 | .slice _ n _=>16-n
 |_=>0
def zY(m:OA)(x:Nat)(b:List Fo)(hG n:Int)(h:Is w A l)(v:l.length<=1000000000)(E:Fs w m b)(af:b.length<=1000000000)(r:∀f∈b, -1000000000<=f.dst/\f.dst<=1000000000)(MT: -1000000000<=hG)(bQ:hG<=1000000000):
 Calls prog 53 #[.agg #[.slice A l.length c,Y hq,Y g9],.agg #[.slice m b.length x],Y hG,Y n] w (C8 l hq g9 w):=by
 obtain⟨bC,bv,bw,aZ,bg⟩:=info_parts infoInt;obtain⟨d,k,L⟩:=qL w 26 #[.slice A l.length c,Y hq,Y g9] 96 #[.slice m b.length x]
 go_enter func53,ntmps53
 go_upto_region 1 with fail
 obtain⟨bj,bh⟩:=nm_ ((w.alloc (.cells #[.slice A l.length c,Y hq,Y g9] 26)).alloc (.cells #[.slice m b.length x] 96));rw[<-bh]at d k L |-;clear bh;obtain⟨ae,G⟩:=nm_ w.heap.size;obtain⟨gs,V⟩:=nm_ (w.heap.size+1);rw[<-V]at k;rw[<-G]at d;rw[<-V,<-G];clear V G;go_wp2
 go_loopw [9,10,11] (λT al an wr=>∃(MP:OA) (j a2:Nat) (xs:List Int) (a:Int) (N:Bool),T=.slice MP j a2/\al=Y a/\an=.bool N/\j=xs.length/\j<=16/\(∀z∈xs,Dv l hq g9 z)/\ -1000000000<=a/\a<=1000000000/\wr.ownsRow w.heap.size 3 1 (.slice MP j a2) j (xs.map (Value.int .i64))/\Bk wr ae 26 #[.slice A l.length c,Y hq,Y g9]/\Bk wr gs 96 #[.slice m b.length x]/\J [] w wr) (λT _ _ _=>roomOf T)
 case atStart=>exact⟨none,0,0,[],hG,true,rfl,rfl,rfl,rfl,P_ _,(λz S=>by cases S),MT,bQ,iY _ _ _ _,d,k,L⟩
 case round=>
  clear d k L;obtain⟨MP,j,a2,xs,a,N,rfl,rfl,rfl,hn0,aq,R,D,K,ao,d,k,F⟩:=hrel;have ah:=O hn0;clear hn0
  cases N with
  |false=>
   exact Kg
  |true=>
   by_cases h1:(j:Int)<n
   .by_cases h2:(j:Int)<16
    .have MN:=d.f_ 0;have ai:=d.f_ 1;have aB:=d.f_ 2
     cases u:kN l a with
     |false=>
      go_wp2_with (go_at_call 97;have i:=l7 A c l hq g9 a (h.g_ F) v D K;rw[u]at i;refine i.mono ?_;rintro p w1⟨rfl,e⟩)
      all_goals go_ret
      all_goals exact⟨MP,a2,xs,by rw[<-ah.out];rfl,(by unfold Ns;rw[<-ah.out];exact Sl.iQ (iF ao e)),(ov ah.out),R,F.trans e⟩
     |true=>
      cases g:jm l hq g9 a with
      |true=>
       go_wp2_with (first|(go_at_call 97;have i:=l7 A c l hq g9 a (h.g_ F) v D K;rw[u]at i;refine i.mono ?_;rintro p w1⟨rfl,e⟩;have z0:=(d.g_ e).f_ 0;have Z:=(d.g_ e).f_ 1;have aU:=(d.g_ e).f_ 2)|(go_at_call 83;have i:=lA A c l hq g9 a (h.g_ (F.trans e)) v;rw[g]at i;refine i.mono ?_;rintro p y⟨rfl,B⟩))
       all_goals go_ret
       all_goals exact⟨MP,a2,xs,by rw[<-ah.out];rfl,(by unfold Ns;rw[<-ah.out];exact Sl.iQ (iF ao (e.trans B))),(ov ah.out),R,(F.trans e).trans B⟩
      |false=>
       have ar:=O u;have au:=O g
       go_upto_region 4 with(first|(go_at_call 97;have i:=l7 A c l hq g9 a (h.g_ F) v D K;rw[u]at i;refine i.mono ?_;rintro p w1⟨rfl,e⟩;have z0:=(d.g_ e).f_ 0;have Z:=(d.g_ e).f_ 1;have aU:=(d.g_ e).f_ 2)|(go_at_call 83;have i:=lA A c l hq g9 a (h.g_ (F.trans e)) v;rw[g]at i;refine i.mono ?_;rintro p y⟨rfl,B⟩))
       clear u g z0 Z aU MN ai aB;have o:J [] wr (y.alloc (.cells #[Y a] 3)):=(e.trans B).alloc _;have aQ:=iF ao o;have ap:Sl (y.alloc (.cells #[Y a] 3)) 3 1 (j_ y.heap.size) 1 [Y a]:=kV (s:=1) (Q_ y 3 #[Y a]) rfl;have t:=(F.trans o).size;have aw:=d.g_ o;have q:=k.g_ o
       go_upto_region 5 with(at_builtin;refine iJ _ rfl (.tmp 36) (.tmp 38) 30 rfl w.heap.size 3 bC _ 1 8 underlying30 bv bw aZ bg rfl I I MP j a2 _ rfl aQ _ 1 1 _ rfl ap (by intro ax hu;simp at hu;subst hu;rfl) X t ?_;intro aD am ay aV M;have az:=M.bk aw I;have aA:=M.bk q I;have aC:=aA.f_ 0)
       have W:=M.gr [] w (H_ _) (F.trans o)
       go_wp2_with (go_at_call 101;((with_reducible refine(zO m x b a (E.g_ W) af).mono ?_);rintro p ad⟨rfl,C⟩))
       go_roundw
       case rel=>
        have aE: -1000000000<=(if py b a=true then(b.getD (lz b a) default).dst else 0)/\(if py b a=true then(b.getD (lz b a) default).dst else 0)<=1000000000:=by
         split
         .rename_i Q
          have aj:=by unfold py at Q;simp at Q;exact Q.1
          have MM:b.getD (lz b a) default∈b:=by rw[List.getD,L_ aj];exact M_ aj
          exact r _ MM
         .omega
        exact⟨aD,j+1,am,xs++[a],_,_,rfl,rfl,rfl,by rw[K_,<-ah.out];rfl,X,(λz S=>by
         rcases T_.1 S with P|P
         .exact R z P
         .have:z=a:=zu P
          subst this
          exact⟨ar.out,au.out,D,K⟩),aE.1,aE.2,by rw[FI];exact iF aV C,az.g_ C,aA.g_ C,W.trans C⟩
       case measure=>simp[roomOf];omega
    .exact Kg
   .exact Kg
def qh(l:List Rw)(id f:Int)(h:Os w A l)(i:nV w l)(d:l.length<=1000000000)(b:h6 (hU l) id f=none):
 Calls prog 148 #[.agg #[.slice A l.length c],Y id,Y f] w λe w'=>e=.returned (.tuple #[.agg #[.bool false,Y 0],.bool false])/\J [] w w':=by
 have a:=kA A c l id f w h i d;rw[b]at a;exact a
def oD(l:List Rw)(id f:Int)(v:Vl)(h:Os w A l)(i:nV w l)(d:l.length<=1000000000)(b:h6 (hU l) id f=some v):
 Calls prog 148 #[.agg #[.slice A l.length c],Y id,Y f] w λe w'=>e=.returned (.tuple #[.agg #[.bool v.r,Y v.n],.bool true])/\J [] w w':=by
 have a:=kA A c l id f w h i d;rw[b]at a;exact a
def xx(h:List Ob)(c:Cl):Bool:=match h6 h c.id c.f with
 |none=>true
 |some v=> !(v.r==c.v.r&&v.n==c.v.n)
def kK(h:List Ob)(l:List Cl):Option Cl:=l.find? (xx h)
def uE(d:OA)(cc:Nat)(b:List Cl)(ad:mB w U hc hl)(ax:hl.length<=1000000000)(V:Cs w d b)(bW:b.length<=1000000000):
 Calls prog 181 #[.agg #[.slice U hl.length hc],.slice d b.length cc] w λe w'=>e=.returned (.tuple #[.agg #[Y ((kK (hU hl) b).getD default).id,Y ((kK (hU hl) b).getD default).f,.bool ((kK (hU hl) b).getD default).v.r,Y ((kK (hU hl) b).getD default).v.n],.bool (kK (hU hl) b).isSome])/\J [] w w':=by
 obtain⟨n,o,s⟩:=qL w 35 #[.slice U hl.length hc] 116 #[Y 0,Y 0,.bool false,Y 0];have ae:=O (show b.length=b.length from rfl);obtain⟨r,q⟩:=nm_ b.length;have N:=O q;rw[<-q];rw[<-q]at bW;clear q
 go_enter func181,ntmps181
 go_upto_region 1 with fail
 obtain⟨bj,Q⟩:=nm_ ((w.alloc (.cells #[.slice U hl.length hc] 35)).alloc (.cells #[Y 0,Y 0,.bool false,Y 0] 116));rw[<-Q]at n o s |-;clear Q;obtain⟨bw,D⟩:=nm_ w.heap.size;obtain⟨gr,x⟩:=nm_ (w.heap.size+1);rw[<-x]at o;rw[<-D]at n;rw[<-x,<-D];have bz:w.heap.size<=gr:=X;clear D x;go_wp2
 go_loopw [12] (λE wr=>∃i:Nat,i<=r/\E=Y i/\kK (hU hl) b=(b.drop i).find? (xx (hU hl))/\Bk wr bw 35 #[.slice U hl.length hc]/\Bk wr gr 116 #[Y 0,Y 0,.bool false,Y 0]/\J [] w wr) (λE _=>r-(intOf E).toNat)
 case atStart=>exact⟨0,P_ _,rfl,rfl,n,o,s⟩
 case round=>
  clear n o s;obtain⟨i,hk,rfl,M,T,au,F⟩:=hrel;have k:=O M;clear M
  by_cases aj:i<r
  .have K:i<b.length:=by rw[<-N.out];exact aj
   obtain⟨af,off,W,bm,bu,bH,bM⟩:=(V.g_ F).at_ K;subst W;have P:=Y_ K;generalize b[i]=ai at*;obtain⟨g,az,xr,a⟩:=ai;simp only at bm bu bH bM;have m:=O P;clear P;have aM:=(H [] wr).alloc (.cells #[Y g,Y az,.bool xr,Y a] 116);have L:Bk (wr.alloc (.cells #[Y g,Y az,.bool xr,Y a] 116)) wr.heap.size 116 #[Y g,Y az,.bool xr,Y a]:=Q_ wr _ _;have MN:=(T.g_ aM).f_ 0;have z:=ad.g_ F
   cases y:h6 (hU hl) g az with
   |none=>
    have a6:=O (show kK (hU hl) b=some ⟨g,az,⟨xr,a⟩⟩ by rw[k.out,m.out,HU];unfold xx;simp only[y])
    go_wp2_with (go_at_call 148;have ag:=qh U hc hl g az (z.g_ aM).os (z.g_ aM).lD ax y;refine ag.mono ?_;rintro e ah⟨rfl,S⟩;have B:=((L.g_ S).alloc (.cells #[.bool false,Y 0] 38));have j:=((au.g_ aM).g_ S).alloc (.cells #[.bool false,Y 0] 38);have ar:=Q_ ah 38 #[.bool false,Y 0];have v0:=B.f_ 0;have v1:=B.f_ 1;have ao:=B.f_ 2;have v3:=B.f_ 3;have bg:=ar.f_ 0;have o1:=ar.f_ 1;have r0:=j.f_ 0;have r1:=j.f_ 1;have r2:=j.f_ 2;have r3:=j.f_ 3;have s0:=j.hm 0;have s1:=j.hm 1;have bV:=j.hm 2;have cr:=j.hm 3)
    exact IQ
   |some v=>
    obtain⟨c,h⟩:=v;have C:=O (show xx (hU hl) ⟨g,az,⟨xr,a⟩⟩= !(c==xr&&h==a) by unfold xx;simp only[y])
    cases I:(c==xr)with
    |false=>
     have a6:=O (show kK (hU hl) b=some ⟨g,az,⟨xr,a⟩⟩ by rw[k.out,m.out,HU];rw[C.out,I];rfl);exact Iq
    |true=>
     cases R:(h==a)with
     |false=>
      have a6:=O (show kK (hU hl) b=some ⟨g,az,⟨xr,a⟩⟩ by rw[k.out,m.out,HU];rw[C.out,I,R];rfl);exact Iq
     |true=>
      have a6:=O (show kK (hU hl) b=(b.drop (i+1)).find? (xx (hU hl)) by rw[k.out,m.out,List.find?_cons_of_neg];rw[C.out,I,R];decide)
      go_wp2_with (go_at_call 148;have ag:=oD U hc hl g az ⟨c,h⟩ (z.g_ aM).os (z.g_ aM).lD ax y;refine ag.mono ?_;rintro e ah⟨rfl,S⟩;have B:=((L.g_ S).alloc (.cells #[.bool c,Y h] 38));have j:=((au.g_ aM).g_ S).alloc (.cells #[.bool c,Y h] 38);have ar:=Q_ ah 38 #[.bool c,Y h];have ao:=B.f_ 2;have v3:=B.f_ 3;have bg:=ar.f_ 0;have o1:=ar.f_ 1)
      go_roundw
      case rel=>exact⟨i+1,X,gn,a6.out,((T.g_ aM).g_ S).alloc _,j,((F.trans aM).trans S).alloc _⟩
      case measure=>exact mz
  .have m:i=r:=X;have a6:=O (show kK (hU hl) b=none by rw[k.out,m,N.out,List.drop_length];rfl);have r0:=au.f_ 0;have r1:=au.f_ 1;have r2:=au.f_ 2;have r3:=au.f_ 3;have s0:=au.hm 0;have s1:=au.hm 1;have bV:=au.hm 2;have cr:=au.hm 3;go_wp2;refine FY (v:=.tuple #[.agg #[Y 0,Y 0,.bool false,Y 0],.bool false]) (iC (p:=4) (u:=5) rfl rfl (((((au.hN 0 (Y 0)).hN 1 (Y 0)).hN 2 (.bool false)).hN 3 (Y 0))) underlying116 rfl k_) rfl ?_;rw[a6.out];exact⟨rfl,(((F.setCell (p:=(Z gr 0)) (.inr bz) _).setCell (p:=(Z gr 1)) (.inr bz) _).setCell (p:=(Z gr 2)) (.inr bz) _).setCell (p:=(Z gr 3)) (.inr bz) _⟩
def su(D:mB w U hc hl)(z:hl.length<=1000000000)(y:ln w t)(B:t.rs.l.length<=1000000000):
 Calls prog 150 #[.agg #[.slice U hl.length hc],.agg t.g8] w λe w'=>∃(a b:Int) (r:Bool) (n:Int),e=.returned (.tuple #[.agg #[Y a,Y b,.bool r,Y n],.bool (kK (hU hl) t.rs.l).isNone])/\J [] w w':=by
 obtain⟨q,j,h,MR⟩:=xj w 35 #[.slice U hl.length hc] 53 t.g8 116 #[Y 0,Y 0,.bool false,Y 0]
 go_enter func150,ntmps150
 go_upto_region 1 with fail
 obtain⟨H,C⟩:=nm_ (((w.alloc (.cells #[.slice U hl.length hc] 35)).alloc (.cells t.g8 53)).alloc (.cells #[Y 0,Y 0,.bool false,Y 0] 116));rw[<-C]at q j h MR |-;clear C;obtain⟨bw,m⟩:=nm_ w.heap.size;obtain⟨gt,i⟩:=nm_ (w.heap.size+1);obtain⟨gr,k⟩:=nm_ (w.heap.size+1+1);rw[<-k]at h;rw[<-i]at j;rw[<-m]at q;rw[<-k,<-i,<-m];have bz:w.heap.size<=gr:=X;clear m k i;have W:=q.f_ 0;have c:H.cell? (Z gt 37)=some (.slice t.rs.A t.rs.l.length t.rs.c):=(j.f_ 37).trans rfl
 cases be:kK (hU hl) t.rs.l with
 |none=>
  obtain⟨x,s⟩:=mn_ ((none:Option Cl).getD default)
  go_wp2_with (go_at_call 181;((with_reducible refine(uE U hc hl t.rs.A t.rs.c t.rs.l (D.g_ MR) z (y.g_ MR).rs B).mono ?_);rw[be,s];rintro e o⟨rfl,S⟩;have d:=(h.g_ S).alloc (.cells #[Y x.id,Y x.f,.bool x.v.r,Y x.v.n] 116);have f:=Q_ o 116 #[Y x.id,Y x.f,.bool x.v.r,Y x.v.n];have F:=f.f_ 0;have L:=f.f_ 1;have M:=f.f_ 2;have K:=f.f_ 3;have N:=d.f_ 0;have O:=d.f_ 1;have P:=d.f_ 2;have Q:=d.f_ 3;have R:=d.hm 0;have T:=d.hm 1;have E:=d.hm 2;have I:=d.hm 3))
  refine FY (v:=.tuple #[.agg #[Y x.id,Y x.f,.bool x.v.r,Y x.v.n],.bool true]) (iC (p:=4) (u:=5) rfl rfl (((((d.hN 0 (Y x.id)).hN 1 (Y x.f)).hN 2 (.bool x.v.r)).hN 3 (Y x.v.n))) underlying116 rfl k_) rfl ?_;exact Jv
 |some V=>
  obtain⟨x,s⟩:=mn_ ((some V:Option Cl).getD default)
  go_wp2_with (go_at_call 181;((with_reducible refine(uE U hc hl t.rs.A t.rs.c t.rs.l (D.g_ MR) z (y.g_ MR).rs B).mono ?_);rw[be,s];rintro e o⟨rfl,S⟩;have d:=(h.g_ S).alloc (.cells #[Y x.id,Y x.f,.bool x.v.r,Y x.v.n] 116);have f:=Q_ o 116 #[Y x.id,Y x.f,.bool x.v.r,Y x.v.n];have F:=f.f_ 0;have L:=f.f_ 1;have M:=f.f_ 2;have K:=f.f_ 3;have N:=d.f_ 0;have O:=d.f_ 1;have P:=d.f_ 2;have Q:=d.f_ 3;have R:=d.hm 0;have T:=d.hm 1;have E:=d.hm 2;have I:=d.hm 3))
  refine FY (v:=.tuple #[.agg #[Y x.id,Y x.f,.bool x.v.r,Y x.v.n],.bool false]) (iC (p:=4) (u:=5) rfl rfl (((((d.hN 0 (Y x.id)).hN 1 (Y x.f)).hN 2 (.bool x.v.r)).hN 3 (Y x.v.n))) underlying116 rfl k_) rfl ?_;exact Jv
