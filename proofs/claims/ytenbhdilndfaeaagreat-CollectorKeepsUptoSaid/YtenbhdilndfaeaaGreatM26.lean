import Derived.Test.YtenbhdilndfaeaaGreatM25
set_option maxRecDepth 100000
set_option maxHeartbeats 0
set_option linter.all false
namespace Go.Proofs.YtenbhdilndfaeaaGreat
open Go.RowKit Go.Proofs.Tryz
variable{G:Prop}{w:World}{g:Nat}(A:OA)(c:Nat)(l:QS)(hH:Int)(hA:OA)(hC:Int)(hc:Nat)(hl:QT)(t:Tk)
def I2(h:G:=by
 go_wp2_with (go_at_call 148;have ap:=oz hA hc hl g aC ⟨a,d⟩ (z.hF aH).os (z.hF aH).k8 aq y;refine ap.mono ?_;rintro e af⟨rfl,S⟩;have B:=((G.hF S).alloc (.cells #[.bool a,Y d] 38));have j:=((P.hF aH).hF S).alloc (.cells #[.bool a,Y d] 38);have V:=P_ af 38 #[.bool a,Y d];have v0:=B.f_ 0;have v1:=B.f_ 1;have aQ:=B.f_ 2;have v3:=B.f_ 3;have aB:=V.f_ 0;have Np:=V.f_ 1;have b0:=j.f_ 0;have r1:=j.f_ 1;have r2:=j.f_ 2;have r3:=j.f_ 3;have s0:=j.hG 0;have s1:=j.hG 1;have aW:=j.hG 2;have cx:=j.hG 3);exact Jr):G:=h
def Jr(h:G:=by
 refine Gu (v:=.tuple #[.agg #[Y g,Y aC,.bool xr,Y l],.bool true]) (iE (p:=4) (u:=5) rfl rfl (((((j.hU 0 (Y g)).hU 1 (Y aC)).hU 2 (.bool xr)).hU 3 (Y l))) underlying116 rfl k_) rfl ?_;rw[M.out];exact⟨rfl,((((((F.trans aH).trans S).alloc _).setCell (p:=(Z gr 0)) (.inr bM) _).setCell (p:=(Z gr 1)) (.inr bM) _).setCell (p:=(Z gr 2)) (.inr bM) _).setCell (p:=(Z gr 3)) (.inr bM) _⟩):G:=h
def JG(h:G:=by
 have aT:=s.f_ 0;have bL:=P.hG 0;have bp:=P.f_ 0;go_wp2;have L:J [gr] wr (wr.setCell (Z gr 0) (.slice A' rs.length c')):=(F_ [gr] wr).setCell (.inl H) _;refine rr_ #[.slice A' rs.length c'] (P.hU 0 (.slice A' rs.length c')) underlying35 ⟨A',c',rs,rfl,f.iq P I I L,?_,F.jN L bM⟩;rw[q.out,M.out]):G:=h
def Ka(h:G:=by
 rw[aV];exact⟨x.id,x.f,x.v.r,x.v.n,rfl,(((((Nv.trans S).alloc _).setCell (p:=(Z gr 0)) (.inr bM) _).setCell (p:=(Z gr 1)) (.inr bM) _).setCell (p:=(Z gr 2)) (.inr bM) _).setCell (p:=(Z gr 3)) (.inr bM) _⟩):G:=h
def KT(h:G:=by
 go_wp2;all_goals go_ret
 all_goals exact⟨Nt,E,xs,by rw[<-af.out];rfl,(by unfold Ns;rw[<-af.out];exact Sl.iP (iD ak (F_ [] wr))),(ov af.out),R,F⟩):G:=h
def uj{P:Program}{ops:Array Oper}{rest:QZ}{o:Oper}{a:Act}{Q:Exit->Act->World->Prop}(m:o.guard=none){l c:Operand}{t:TypeId}(u:o.op=.makeSlice t l c)(e:TypeId)(i:TypeInfo){d:Value}(b bytes:Nat)(v:P.underlying t=some (.slice e))(s:P.info? e=some i)(x:i.zero=some d)(q:i.size=b)(p:i.bytes=bytes)(j f:IntKind)(n:Nat)(hl:a.eval l=.int j (n:Int))(hc:a.eval c=.int f (n:Int))(r:(bytes:Int)*(n:Int)<=281474976710656)(z:n<=1000000000)(h:wpList P ops Q rest (a.put o.dst (.slice (j_ w.heap.size) n n)) (w.alloc (.cells (madeCells d.cells (n*b)) e))):wpList P ops Q (o::rest) a w:=
 wpList_step λy k=>uo (w:=w) m l c t u e i d b bytes v s x q p j f (n:Int) hl hc X r X (k _ _ (zu h))
def rH(n:Nat)(v:Vl)(h:Bk w g 38 (((madeCells #[.bool false,Y 0] ((n+1)*2)).setIfInBounds 0 (.bool v.r)).setIfInBounds 1 (Y v.n))):Vs w (j_ g) (v::List.replicate n default):=by
 have p:(madeCells #[Value.bool false,Y 0] ((n+1)*2)).size=(n+1)*2:=size_madeCells _ _;refine⟨by rw[lZ],λ_=>⟨g,0,_,(0,0),rfl,h,?_⟩⟩;intro a o d;rw[X_];by_cases i:a=0
 .subst i;rw[Hl I,Iz X];exact d
 by_cases j:a=1
 .subst j;rw[Iz p_];exact d
 rw[Hl X,Hl X];have f:a<(n+1)*2:=by
  have:=(HI.1 d).1;rw[lZ,Y_,GJ]at this;exact this
 rw[oC _ f];have k:a=(a / 2)*2+a % 2:=X;have b:(i5 (v::List.replicate n default))[(a / 2)*2+a % 2]?=(Vl.E default)[a % 2]?:=by
  unfold i5;rw[j4 Vl.E (λ_=>rfl) _ (a / 2) (a % 2) (by rw[Y_,GJ];omega) X];have:(v::List.replicate n (default:Vl))[a / 2]'(by rw[Y_,GJ];omega)=default:=by
   obtain⟨e,m⟩:∃e,a / 2=e+1:=⟨a / 2-1,X⟩;simp only[m,HV,Iq]
  rw[this]
 rw[<-k,d]at b;show some ((#[Value.bool false,Value.int .i64 0])[a % 2]!)=some o;rcases HX a with h|h
 rw[h]at b |-;exact b.symm
 rw[h]at b |-;exact b.symm
def mV(h:Value)(nx:Int):Array Value:=#[h,Y 0,.bool false,Y 0,.bool false,Y 0,.bool false,Y 0,.bool false,Y 0,.bool false,Y 0,.bool false,Y 0,.bool false,Y 0,.bool false,Y 0,.bool false,Y 0,.bool false,Y 0,.bool false,Y 0,.bool false,Y 0,.bool false,Y 0,.bool false,Y 0,.bool false,Y 0,.bool false,Y 0,Y nx,Y 0,n_,.bool false,.bool false,.bool false,Y 0,Y 0]
def nY{A:OA}{n c:Nat}{a:Int}:(mV (.slice A n c) a).all (·.oneCell')=true:=by unfold mV;simp[Value.oneCell']
def startHeap(hH:Int):List Ob:=[⟨1,⟨true,2⟩::List.replicate 2 default⟩,⟨2,⟨true,0⟩::List.replicate (2+hH.toNat) default⟩]
def w4(ok:Bool)(hH:Int)(w:World)(e:Ending)(w':World):Prop:=
 ∃(A:OA) (c:Nat) (rs:QT),e=.returned (.tuple #[.agg #[.slice A rs.length c,Y 0,.bool false,Y 0,.bool false,Y 0,.bool false,Y 0,.bool false,Y 0,.bool false,Y 0,.bool false,Y 0,.bool false,Y 0,.bool false,Y 0,.bool false,Y 0,.bool false,Y 0,.bool false,Y 0,.bool false,Y 0,.bool false,Y 0,.bool false,Y 0,.bool false,Y 0,.bool false,Y 0,Y (if ok=true then 3 else 0),Y 0,n_,.bool false,.bool false,.bool false,Y 0,Y 0],Y (if ok=true then 0 else 1)])/\mE w' A c rs/\hX rs=(if ok=true then startHeap hH else[])/\J [] w w'
def vZ(w:World)(h:Is w A l)(r:l.length<=1000000000)(u:ia l hH hC=false):
 Calls prog 91 #[.agg #[.slice A l.length c,Y hH,Y hC]] w (w4 false hH w):=by
 obtain⟨a,d,b⟩:=pZ w 26 #[.slice A l.length c,Y hH,Y hC] 154 #[n_,Y 0,.bool false,Y 0,.bool false,Y 0,.bool false,Y 0,.bool false,Y 0,.bool false,Y 0,.bool false,Y 0,.bool false,Y 0,.bool false,Y 0,.bool false,Y 0,.bool false,Y 0,.bool false,Y 0,.bool false,Y 0,.bool false,Y 0,.bool false,Y 0,.bool false,Y 0,.bool false,Y 0,Y 0,Y 0,n_,.bool false,.bool false,.bool false,Y 0,Y 0];go_enter func91,ntmps91;go_upto_region 1 with fail;obtain⟨B,j⟩:=nm_ ((w.alloc (.cells #[.slice A l.length c,Y hH,Y hC] 26)).alloc (.cells #[n_,Y 0,.bool false,Y 0,.bool false,Y 0,.bool false,Y 0,.bool false,Y 0,.bool false,Y 0,.bool false,Y 0,.bool false,Y 0,.bool false,Y 0,.bool false,Y 0,.bool false,Y 0,.bool false,Y 0,.bool false,Y 0,.bool false,Y 0,.bool false,Y 0,.bool false,Y 0,.bool false,Y 0,Y 0,Y 0,n_,.bool false,.bool false,.bool false,Y 0,Y 0] 154));rw[<-j]at a d b |-;clear j;obtain⟨p,f⟩:=nm_ w.heap.size;obtain⟨k,e⟩:=nm_ (w.heap.size+1);rw[<-e]at d;rw[<-f]at a;rw[<-e,<-f];have q:w.heap.size<=k:=X;have G:p≠k:=X;clear f e;have x:=a.f_ 0;have y:=a.f_ 1;have z:=a.f_ 2
 go_wp2_with (first|((go_at_call 92;have i:=iW A c l hH hC (h.hF b) r;rw[u]at i;refine i.mono ?_;rintro C E⟨rfl,m⟩);replace d:=d.hF m;replace b:=b.trans m)|(refine kP (mV (n_) 0) d (nY) ?_;intro v o n));exact lW (mV (n_) 0) (Y 1) o underlying154 ⟨none,0,[],rfl,⟨GU _ _ _ _,(λD s=>by cases s),H_ _⟩,rfl,b.jN n q⟩
def xq(v:Nat)(hC:Int)(w:World)(h:Is w A l)(hn:l.length<=1000000000)(hv:ia l (v:Int) hC=true)(aL:v<=64):
 Calls prog 91 #[.agg #[.slice A l.length c,Y (v:Int),Y hC]] w (w4 true (v:Int) w):=by
 obtain⟨aq,ad,aj,ae,bp⟩:=info_parts infoVl;obtain⟨j,d,i⟩:=pZ w 26 #[.slice A l.length c,Y (v:Int),Y hC] 154 #[n_,Y 0,.bool false,Y 0,.bool false,Y 0,.bool false,Y 0,.bool false,Y 0,.bool false,Y 0,.bool false,Y 0,.bool false,Y 0,.bool false,Y 0,.bool false,Y 0,.bool false,Y 0,.bool false,Y 0,.bool false,Y 0,.bool false,Y 0,.bool false,Y 0,.bool false,Y 0,.bool false,Y 0,Y 0,Y 0,n_,.bool false,.bool false,.bool false,Y 0,Y 0];go_enter func91,ntmps91;go_upto_region 1 with fail;obtain⟨bo,bg⟩:=nm_ ((w.alloc (.cells #[.slice A l.length c,Y (v:Int),Y hC] 26)).alloc (.cells #[n_,Y 0,.bool false,Y 0,.bool false,Y 0,.bool false,Y 0,.bool false,Y 0,.bool false,Y 0,.bool false,Y 0,.bool false,Y 0,.bool false,Y 0,.bool false,Y 0,.bool false,Y 0,.bool false,Y 0,.bool false,Y 0,.bool false,Y 0,.bool false,Y 0,.bool false,Y 0,.bool false,Y 0,Y 0,Y 0,n_,.bool false,.bool false,.bool false,Y 0,Y 0] 154));rw[<-bg]at j d i |-;clear bg;obtain⟨P,S⟩:=nm_ w.heap.size;obtain⟨s,L⟩:=nm_ (w.heap.size+1);rw[<-L]at d;rw[<-S]at j;rw[<-L,<-S];have bM:w.heap.size<=s:=X;have G:P≠s:=X;clear S L;have af:=j.f_ 0;have Q:=j.f_ 1;have ay:=j.f_ 2
 go_upto_region 3 with(go_at_call 92;have ap:=iW A c l (v:Int) hC (h.hF i) hn;rw[hv]at ap;refine ap.mono ?_;rintro F e⟨rfl,K⟩);replace j:=j.hF K;replace d:=d.hF K;replace i:=i.trans K;have E:=i.size;have g:s≠e.heap.size/\s≠e.heap.size+1/\P≠e.heap.size:=by have h1:=d.lt;have h2:=j.lt;omega
 clear K af Q ay;go_upto_region 4 with(at_make;refine uj rfl rfl 38 aq 2 16 underlying54 ad aj ae bp .i64 .i64 3 r_ r_ X X ?_);have m:Bk ((e.alloc (.cells (madeCells #[.bool false,Y 0] (3*2)) 38)).alloc (.cells #[Y 1,.slice (j_ e.heap.size) 3 3] 56)) e.heap.size 38 (madeCells #[.bool false,Y 0] ((2+1)*2)):=(P_ e 38 (madeCells #[.bool false,Y 0] ((2+1)*2))).alloc (.cells #[Y 1,.slice (j_ e.heap.size) 3 3] 56);obtain⟨-,k,-⟩:=pZ e 38 (madeCells #[.bool false,Y 0] (3*2)) 56 #[Y 1,.slice (j_ e.heap.size) 3 3];replace j:=(j.alloc (.cells (madeCells #[.bool false,Y 0] (3*2)) 38)).alloc (.cells #[Y 1,.slice (j_ e.heap.size) 3 3] 56);replace d:=(d.alloc (.cells (madeCells #[.bool false,Y 0] (3*2)) 38)).alloc (.cells #[Y 1,.slice (j_ e.heap.size) 3 3] 56);replace i:=(i.alloc (.cells (madeCells #[.bool false,Y 0] (3*2)) 38)).alloc (.cells #[Y 1,.slice (j_ e.heap.size) 3 3] 56);have ag:w.heap.size<=e.heap.size:=by have:=d.lt;have:=E;omega
 have C:s≠e.heap.size/\s≠e.heap.size+1/\P≠e.heap.size:=g;clear g E;obtain⟨O,ao⟩:=nm_ ((e.alloc (.cells (madeCells #[.bool false,Y 0] (3*2)) 38)).alloc (.cells #[Y 1,.slice (j_ e.heap.size) 3 3] 56));rw[<-ao]at m k j d i |-;clear ao;obtain⟨ai,ak⟩:=nm_ (e.heap.size+1);rw[<-ak]at k C |-;have t:ai≠e.heap.size:=X;have Nw:w.heap.size<=ai:=X;clear ak;generalize e.heap.size=a at*;have V:O.cell? (Z a 0)=some (.bool false):=(m.f_ 0).trans (oC 0 I);have W:O.cell? (Z a 1)=some (Y 0):=(m.f_ 1).trans (oC 1 I);have R:=m.hG 0;have T:=m.hG 1;have M:=k.f_ 1
 go_upto_region 5 with fail;have B:=(m.hU 0 (.bool true)).hU 1 (Y 2);have o:=rH 2 ⟨true,2⟩ B;replace k:=(k.ih (p:=(Z a 0)) t (.bool true)).ih (p:=(Z a 1)) t (Y 2);replace j:=(j.ih (p:=(Z a 0)) C.2.2 (.bool true)).ih (p:=(Z a 1)) C.2.2 (Y 2);replace d:=(d.ih (p:=(Z a 0)) C.1 (.bool true)).ih (p:=(Z a 1)) C.1 (Y 2);replace i:=(i.setCell (p:=(Z a 0)) (.inr ag) (.bool true)).setCell (p:=(Z a 1)) (.inr ag) (Y 2);clear m B V W R T M;obtain⟨f,bi⟩:=nm_ ((O.setCell (Z a 0) (.bool true)).setCell (Z a 1) (Y 2));rw[<-bi]at o k j d i |-;clear bi;have Q:=j.f_ 1;have E:=i.size
 have g:s≠f.heap.size/\s≠f.heap.size+1/\ai≠f.heap.size/\a≠f.heap.size:=by
  have h1:=d.lt;have h2:=k.lt;refine⟨X,X,X,?_⟩;intro he;rcases Ga a f.heap.size with h3|h3
  omega;obtain⟨al,off,hA,hc⟩:=Sl.f_ o H;injection hA with hA;injection hA with y;have bE:=hc 0 (.bool true) rfl;have am:=yC bE;simp only at am;omega
 go_upto_region 6 with(at_make;refine uj rfl rfl 38 aq 2 16 underlying54 ad aj ae bp .i64 .i64 (3+v) r_ r_ X X ?_);have m:Bk ((f.alloc (.cells (madeCells #[.bool false,Y 0] ((3+v)*2)) 38)).alloc (.cells #[Y 2,.slice (j_ f.heap.size) (3+v) (3+v)] 56)) f.heap.size 38 (madeCells #[.bool false,Y 0] ((2+v+1)*2)):=by
  have F:3+v=2+v+1:=X;have q:=(P_ f 38 (madeCells #[.bool false,Y 0] ((3+v)*2))).alloc (.cells #[Y 2,.slice (j_ f.heap.size) (3+v) (3+v)] 56);rw[<-F];exact q
 obtain⟨-,r,-⟩:=pZ f 38 (madeCells #[.bool false,Y 0] ((3+v)*2)) 56 #[Y 2,.slice (j_ f.heap.size) (3+v) (3+v)];replace k:=(k.alloc (.cells (madeCells #[.bool false,Y 0] ((3+v)*2)) 38)).alloc (.cells #[Y 2,.slice (j_ f.heap.size) (3+v) (3+v)] 56);replace o:=(o.alloc (.cells (madeCells #[.bool false,Y 0] ((3+v)*2)) 38)).alloc (.cells #[Y 2,.slice (j_ f.heap.size) (3+v) (3+v)] 56);replace d:=(d.alloc (.cells (madeCells #[.bool false,Y 0] ((3+v)*2)) 38)).alloc (.cells #[Y 2,.slice (j_ f.heap.size) (3+v) (3+v)] 56);replace i:=(i.alloc (.cells (madeCells #[.bool false,Y 0] ((3+v)*2)) 38)).alloc (.cells #[Y 2,.slice (j_ f.heap.size) (3+v) (3+v)] 56);clear j Q;obtain⟨u,bq⟩:=nm_ ((f.alloc (.cells (madeCells #[.bool false,Y 0] ((3+v)*2)) 38)).alloc (.cells #[Y 2,.slice (j_ f.heap.size) (3+v) (3+v)] 56));rw[<-bq]at m k r o d i |-;clear bq;obtain⟨an,au⟩:=nm_ (f.heap.size+1);rw[<-au]at r g |-;have av:an≠f.heap.size:=X;clear au;generalize f.heap.size=b at*;have V:u.cell? (Z b 0)=some (.bool false):=(m.f_ 0).trans (oC 0 X);have W:u.cell? (Z b 1)=some (Y 0):=(m.f_ 1).trans (oC 1 X);have R:=m.hG 0;have T:=m.hG 1;have M:=r.f_ 1;have aQ:(0:Int)<3+(v:Int):=X
 go_upto_region 7 with fail;have B:=(m.hU 0 (.bool true)).hU 1 (Y 0);have bH:=rH (2+v) ⟨true,0⟩ B;have z:J [b] u ((u.setCell (Z b 0) (.bool true)).setCell (Z b 1) (Y 0)):=((F_ [b] u).setCell (p:=(Z b 0)) (.inl H) (.bool true)).setCell (p:=(Z b 1)) (.inl H) (Y 0);replace k:=k.gr z (zu g.2.2.1);replace r:=r.gr z (zu av);replace d:=d.gr z (zu g.1);replace o:Vs ((u.setCell (Z b 0) (.bool true)).setCell (Z b 1) (Y 0)) (j_ a) (⟨true,2⟩::List.replicate 2 default):=Sl.iy o (λal off y _=>by
  injection y with y;injection y with y;exact z.block al (by assumption) (by rw[<-y];simpa using g.2.2.2))
 replace i:=i.jN z E;clear m B V W R T M z;obtain⟨n,aW⟩:=nm_ ((u.setCell (Z b 0) (.bool true)).setCell (Z b 1) (Y 0));rw[<-aW]at o bH k r d i |-;clear aW;have p0:=k.f_ 0;have p1:=k.f_ 1;have bz:=r.f_ 0;have br:=r.f_ 1;have x:J [] n (n.alloc (.cells #[Y 1,.slice (j_ a) 3 3,Y 2,.slice (j_ b) (3+v) (3+v)] 56)):=(F_ [] n).alloc _;have hB:=P_ n 56 #[Y 1,.slice (j_ a) 3 3,Y 2,.slice (j_ b) (3+v) (3+v)]
 go_wp2_with (refine kP (mV (.slice (j_ n.heap.size) 2 2) 3) (d.hF x) (nY) ?_;intro N aB D);have aw:J [] n N∨True:=.inr trivial;clear aw;have ax:l5 N [(⟨⟨1,⟨true,2⟩::List.replicate 2 default⟩,some (Z a 0),3⟩:Rw),(⟨⟨2,⟨true,0⟩::List.replicate (2+v) default⟩,some (Z b 0),3+v⟩:Rw)]:=by
  intro az U;have hk:=(d.hF x);rcases O_.1 U with rfl|U
  exact⟨Sl.iq (o.hF x) hk I D,by show(3:Nat)<=1000000000;decide⟩;have:az=(⟨⟨2,⟨true,0⟩::List.replicate (2+v) default⟩,some (Z b 0),3+v⟩:Rw):=zu U;subst this;exact⟨Sl.iq (bH.hF x) hk I D,by show(⟨true,0⟩::List.replicate (2+v) (default:Vl)).length<=1000000000;simp;omega⟩
 have aA:Os N (j_ n.heap.size) [(⟨⟨1,⟨true,2⟩::List.replicate 2 default⟩,some (Z a 0),3⟩:Rw),(⟨⟨2,⟨true,0⟩::List.replicate (2+v) default⟩,some (Z b 0),3+v⟩:Rw)]:=by
  have F:iT [(⟨⟨1,⟨true,2⟩::List.replicate 2 default⟩,some (Z a 0),3⟩:Rw),(⟨⟨2,⟨true,0⟩::List.replicate (2+v) default⟩,some (Z b 0),3+v⟩:Rw)]=(#[Y 1,.slice (j_ a) 3 3,Y 2,.slice (j_ b) (3+v) (3+v)]:Array Value).toList:=by
   simp[iT,Rw.E];omega
  have q:Sl (n.alloc (.cells #[Y 1,.slice (j_ a) 3 3,Y 2,.slice (j_ b) (3+v) (3+v)] 56)) 56 2 (j_ n.heap.size) 2 (iT [(⟨⟨1,⟨true,2⟩::List.replicate 2 default⟩,some (Z a 0),3⟩:Rw),(⟨⟨2,⟨true,0⟩::List.replicate (2+v) default⟩,some (Z b 0),3+v⟩:Rw)]):=by
   rw[F];exact⟨rfl,λ_=>⟨n.heap.size,0,_,(0,0),rfl,hB,λaC aE hu=>by rw[X_];simpa using hu⟩⟩
  exact Sl.iq q (d.hF x) I D
 exact lW (mV (.slice (j_ n.heap.size) 2 2) 3) (Y 0) aB underlying154 ⟨some (Z n.heap.size 0),2,[(⟨⟨1,⟨true,2⟩::List.replicate 2 default⟩,some (Z a 0),3⟩:Rw),(⟨⟨2,⟨true,0⟩::List.replicate (2+v) default⟩,some (Z b 0),3+v⟩:Rw)],rfl,⟨aA,ax,H_ _⟩,rfl,(i.trans x).jN D bM⟩
def rJ(h:Is w A l)(e:l.length<=1000000000):
 Calls prog 91 #[.agg #[.slice A l.length c,Y hH,Y hC]] w (w4 (ia l hH hC) hH w):=by
 cases a:ia l hH hC with
 |false=>exact vZ A c l hH hC w h e a
 |true=>
  have d:=a;unfold ia at d;simp only[Gq,He]at d;obtain⟨b,rfl⟩:∃b:Nat,hH=b:=⟨hH.toNat,X⟩;exact xq A c l b hC w h e a X
structure Cm where
 h:Sv Rw
 hQ:Int
 jn:Int
 h8:Sv Ac
 jH:Bool
 hZ:Bool
 v:Vl
 iU:Int
 hK:Int
def Cm.g_(s:Cm):Array Value:=#[.slice s.h.A s.h.l.length s.h.c,Y s.hQ,Y s.jn,.slice s.h8.A s.h8.l.length s.h8.c,.bool s.jH,.bool s.hZ,.bool s.v.r,Y s.v.n,Y s.iU,Y s.hK]
def Cm.one(s:Cm):s.g_.all (·.oneCell')=true:=by unfold Cm.g_;simp[Value.oneCell']
structure qb where
 h:List Ob
 hQ:Int
 jn:Int
 h8:List Ac
 jH:Bool
 hZ:Bool
 v:Vl
 iU:Int
 hK:Int
def Cm.p(s:Cm):qb:=⟨hX s.h.l,s.hQ,s.jn,s.h8.l,s.jH,s.hZ,s.v,s.iU,s.hK⟩
structure me(w:World)(s:Cm):Prop where
 h:mE w s.h.A s.h.c s.h.l
 h8:As w s.h8.A s.h8.l
 pP:s.h8.ok
def me.hF{w':World}{s:Cm}(h:me w s)(a:J [] w w'):me w' s:=⟨h.h.hF a,h.h8.hF a,h.pP⟩
def me.iq{w':World}{s:Cm}{a:TypeId}{cs:Array Value}(h:me w s)(e:Bk w g a cs)(b:56≠a/\38≠a/\162≠a)(d:J [g] w w'):me w' s:=⟨h.h.iq e b.1 b.2.1 d,Sl.iq h.h8 e b.2.2 d,h.pP⟩
def Cm.zero:Cm:=⟨.nil,0,0,.nil,false,false,default,0,0⟩
def me.zero(w:World)(s:Cm)(a:s.h=.nil)(b:s.h8=.nil):me w s:=by
 obtain⟨h,e,i,j,k,f,o,n,m⟩:=s;simp only at a b;subst a;subst b;exact⟨⟨GU _ _ _ _,λp d=>by simp[Sv.nil]at d,H_ _⟩,GU _ _ _ _,H_ _⟩
def uU(P:qb)(n:Int)(w:World)(e:Ending)(w':World):Prop:=∃s:Cm,e=.returned (.tuple #[.agg s.g_,Y n])/\me w' s/\s.p=P/\J [] w w'
def qU(ok:Bool)(hH:Int):qb:=if ok=true then{Cm.zero.p with h:=startHeap hH} else Cm.zero.p
def wQ(h:Is w A l)(E:l.length<=1000000000):
 Calls prog 47 #[.agg #[.slice A l.length c,Y hH,Y hC]] w (uU (qU (ia l hH hC) hH) (if ia l hH hC=true then 0 else 1) w):=by
 obtain⟨k,j,m⟩:=pZ w 26 #[.slice A l.length c,Y hH,Y hC] 40 #[n_,Y 0,Y 0,n_,.bool false,.bool false,.bool false,Y 0,Y 0,Y 0];go_enter func47,ntmps47;go_upto_region 1 with fail;obtain⟨P,B⟩:=nm_ ((w.alloc (.cells #[.slice A l.length c,Y hH,Y hC] 26)).alloc (.cells #[n_,Y 0,Y 0,n_,.bool false,.bool false,.bool false,Y 0,Y 0,Y 0] 40));rw[<-B]at k j m |-;clear B;obtain⟨M,u⟩:=nm_ w.heap.size;obtain⟨y,r⟩:=nm_ (w.heap.size+1);rw[<-r]at j;rw[<-u]at k;rw[<-r,<-u];have z:w.heap.size<=y:=X;clear u r;have L:=k.f_ 0;have N:=k.f_ 1;have O:=k.f_ 2
 cases F:ia l hH hC with
 |false=>
  go_wp2_with (first|(go_at_call 91;have o:=rJ A c l hH hC (h.hF m) E;rw[F]at o;refine o.mono ?_;unfold w4;rintro x b⟨d,c1,a,e,t,D,f⟩;have e:x=.returned (.tuple #[.agg (mV (.slice d a.length c1) 0),Y 1]):=e;subst e)|(refine kP (mV (.slice d a.length c1) 0) (P_ b 154 #[n_,Y 0,.bool false,Y 0,.bool false,Y 0,.bool false,Y 0,.bool false,Y 0,.bool false,Y 0,.bool false,Y 0,.bool false,Y 0,.bool false,Y 0,.bool false,Y 0,.bool false,Y 0,.bool false,Y 0,.bool false,Y 0,.bool false,Y 0,.bool false,Y 0,.bool false,Y 0,.bool false,Y 0,Y 0,Y 0,n_,.bool false,.bool false,.bool false,Y 0,Y 0]) (nY) ?_;intro p v n;have K:p.cell? (Z b.heap.size 0)=some (.slice d a.length c1):=(v.f_ 0).trans rfl)|(refine lH rfl 40 _ _ rfl (y) r_ (Cm.zero.g_) r_ 40 _ ((j.hF f).hF (((F_ [] b).alloc _).jN n (H_ _))) r_ k_ (Cm.one _) ?_;intro H s q));all_goals (
   have i:J [] b p:=((F_ [] b).alloc _).jN n (H_ _);have C:=(j.hF f).hF i;exact lW Cm.zero.g_ (Y 1) s underlying40 ⟨Cm.zero,rfl,me.zero _ _ rfl rfl,rfl,((m.trans f).trans i).jN q z⟩)
 |true=>
  go_wp2_with (first|(go_at_call 91;have o:=rJ A c l hH hC (h.hF m) E;rw[F]at o;refine o.mono ?_;unfold w4;rintro x b⟨d,c1,a,e,t,D,f⟩;have e:x=.returned (.tuple #[.agg (mV (.slice d a.length c1) 3),Y 0]):=e;subst e)|(refine kP (mV (.slice d a.length c1) 3) (P_ b 154 #[n_,Y 0,.bool false,Y 0,.bool false,Y 0,.bool false,Y 0,.bool false,Y 0,.bool false,Y 0,.bool false,Y 0,.bool false,Y 0,.bool false,Y 0,.bool false,Y 0,.bool false,Y 0,.bool false,Y 0,.bool false,Y 0,.bool false,Y 0,.bool false,Y 0,.bool false,Y 0,.bool false,Y 0,Y 0,Y 0,n_,.bool false,.bool false,.bool false,Y 0,Y 0]) (nY) ?_;intro p v n;have K:p.cell? (Z b.heap.size 0)=some (.slice d a.length c1):=(v.f_ 0).trans rfl)|(refine lH rfl 40 _ _ rfl (y) r_ (({Cm.zero with h:=⟨d,c1,a⟩}:Cm).g_) r_ 40 _ ((j.hF f).hF (((F_ [] b).alloc _).jN n (H_ _))) r_ k_ (Cm.one _) ?_;intro H s q));all_goals (
   have i:J [] b p:=((F_ [] b).alloc _).jN n (H_ _);have C:=(j.hF f).hF i;exact lW ({Cm.zero with h:=⟨d,c1,a⟩}:Cm).g_ (Y 0) s underlying40 ⟨({Cm.zero with h:=⟨d,c1,a⟩}:Cm),rfl,⟨(t.hF i).iq C I I q,GU _ _ _ _,H_ _⟩,by unfold qU;rw[U_ rfl,<-show hX a=startHeap hH from D];rfl,((m.trans f).trans i).jN q z⟩)
def mK(c:QS)(hH hC:Int)(d:QR)(t:jb)(view:QQ):(je c hH hC d t view).run=t.run:=by
 unfold je;simp only;split
 .rfl
 split
 .rfl
 split;rfl;rename_i b a;have:=(lK a).run;split
 .exact this
 split;exact this;exact this
def mX(c:QS)(hH hC:Int)(d:QR)(view:QQ):Nat->jb->jb
 |0,t=>t
 |n+1,t=>if t.h9=0 then mX c hH hC d view n (je c hH hC d t view) else t
def AN(c:QS)(hH hC:Int)(d:QR)(view:QQ)(t:jb):jb:=mX c hH hC d view (todo c t+1) t
def za{c:QS}{hH hC:Int}{d:QR}{view:QQ}(n:Nat){t:jb}(h:t.h9≠0):mX c hH hC d view n t=t:=by
 cases n with
 |zero=>rfl
 |succ n=>unfold mX;rw[T_ h]
def Bg(w:World)(g i:Nat):Int:=match w.cell? (Z g i)with
 |some (.int _ n)=>n
 |_=>0
def vo{i:Nat}{k:IntKind}{n:Int}(h:w.cell? (Z g i)=some (.int k n)):Bg w g i=n:=by unfold Bg;rw[h]
def left(l:QS)(g:Nat)(w:World):Nat:=if Bg w g 42=0 then(64-Bg w g 47).toNat*(l.length+3)+pf l (Bg w g 3)+1 else 0
def left_of{l:QS}{t:Tk}(h:Bk w g 53 t.g_):left l g w=if t.h9=0 then todo l t.p+1 else 0:=by
 unfold left;rw[vo ((h.f_ 42).trans rfl),vo ((h.f_ 47).trans rfl),vo ((h.f_ 3).trans rfl)];rfl
def zb(m:OA)(y:Nat)(d:QR)(t:Tk)(r:OA)(vc:Nat)(b:QT)(ag:Is w A l)(hn:l.length<=1000000000)(hD:Ns w 3 m d)(hd:d.length<=1000000000)(ht:lm w t)(hv:mE w r vc b)(E:qS l hH hC d=true)(b9:b.length<=99999999)(bC:0<=t.run)(bJ:t.run<=1099511627776)(aD:t.h9=0->Way l t.p):
 Calls prog 50 #[.agg #[.slice A l.length c,Y hH,Y hC],.agg #[.slice m d.length y],.agg t.g_,.agg #[.slice r b.length vc]] w (ns (AN l hH hC d (hX b) t.p) 0 w):=by
 have aY:=by unfold qS at E;simp only[Gq]at E;exact E.2
 have cj:=MA;obtain⟨M,F⟩:=mn_ (AN l hH hC d (hX b) t.p);rw[F];unfold AN at F;obtain⟨j,u,e,n,k,C⟩:=FE w 26 #[.slice A l.length c,Y hH,Y hC] 32 #[.slice m d.length y] 53 t.g_ 35 #[.slice r b.length vc] 53 lE;go_enter func50,ntmps50;go_upto_region 1 with fail;obtain⟨bo,bg⟩:=nm_ (((((w.alloc (.cells #[.slice A l.length c,Y hH,Y hC] 26)).alloc (.cells #[.slice m d.length y] 32)).alloc (.cells t.g_ 53)).alloc (.cells #[.slice r b.length vc] 35)).alloc (.cells lE 53));rw[<-bg]at j u e n k C |-;obtain⟨P,T⟩:=nm_ w.heap.size;obtain⟨R,L⟩:=nm_ (w.heap.size+1);obtain⟨gt,U⟩:=nm_ (w.heap.size+1+1);obtain⟨S,ai⟩:=nm_ (w.heap.size+1+1+1);obtain⟨gr,i⟩:=nm_ (w.heap.size+1+1+1+1);rw[<-i]at k;rw[<-ai]at n;rw[<-U]at e;rw[<-L]at u;rw[<-T]at j;rw[<-i,<-ai,<-U,<-L,<-T];have bM:w.heap.size<=gr:=X;have cM:w.heap.size<=gt:=X;have ax:P≠gt/\R≠gt/\S≠gt/\gr≠gt:=X;clear T L U ai i;go_wp2
 go_loopw [12] (λ_ wr=>∃(a:Tk) (f:Nat),Bk wr P 26 #[.slice A l.length c,Y hH,Y hC]/\Bk wr R 32 #[.slice m d.length y]/\Bk wr gt 53 a.g_/\Bk wr S 35 #[.slice r b.length vc]/\Bk wr gr 53 lE/\lm wr a/\J [] w wr/\a.run=t.run/\mX l hH hC d (hX b) f a.p=M/\(a.h9=0->Way l a.p/\todo l a.p+1<=f)) (λ_ wr=>left l gt wr)
 case atStart=>exact⟨t,todo l t.p+1,j,u,e,n,k,ht.hF C,C,rfl,F,λh=>⟨aD h,H_ _⟩⟩
 clear j u e n k C F aD;obtain⟨a,f,j,u,e,n,k,G,i,D,K,al⟩:=hrel;have am:=O (left_of (l:=l) e);by_cases p:a.h9=0
 .obtain⟨s,an⟩:=al p;have cy:wr.cell? (Z gt 42)=some (Y 0):=(e.f_ 42).trans (Z_ (λf=>some (Value.int .i64 f)) p);have ao:=j.f_ 0;have ah:=j.f_ 1;have ay:=j.f_ 2;have aT:=u.f_ 0;have v0:=n.f_ 0;have ap:0<=a.run:=by rw[D];exact bC
  have aq:a.run<=1099511627776:=by rw[D];exact bJ
  have b5:=s.s1;have Nu:=s.s0;have ar:a.hK<=1000000:=by have au:a.p.hK=a.hK:=rfl;omega
  have az:128*a.p.hK.toNat<=500000:=X;have aA:a.pc<=1000000:=by have h:=s.hi;have au:a.p.pc=a.pc:=rfl;omega
  have cU: -1<=a.pc:=s.lo;have aC:0<=a.hK:=s.s0;have g:=O K;have B:=O p;have aE:=O D;clear K D b5 Nu;go_wp2_with (first|(refine k2 e underlying53 ?_)|(go_at_call 39;((with_reducible refine(ut A c l hH hC m y d a r vc b _ (ag.hF i) hn (hD.hF i) hd G (hv.hF i) E p (s.sm.mono az) b9 cU aA ap aq aC ar).mono ?_);unfold ns;rintro au H⟨z,rfl,aj,Q,Np⟩))|(refine kP (z.g_) (P_ H 53 lE) (Tk.one _) ?_;intro af bq N)|(refine k2 bq underlying53 ?_)|(refine lH rfl 53 _ _ rfl (gt) r_ (z.g_) r_ 53 _ ((e.hF Np).hF (((F_ [] H).alloc _).jN N (H_ _))) r_ k_ (Tk.one _) ?_;intro o bR v));have x:=Np.trans (((F_ [] H).alloc _).jN N (H_ _));have ak:=((F_ [] H).alloc _).jN N (H_ _);obtain⟨n1,n2,n3,n4⟩:=ax;obtain⟨sm,st0,st1,lo,hi,V⟩:=ur aY s B.out (d:=d) (view:=hX b);rw[<-Q]at V;go_roundw
  case rel=>
   have aF:∃(a:Tk) (f:Nat),Bk o P 26 #[.slice A l.length c,Y hH,Y hC]/\Bk o R 32 #[.slice m d.length y]/\Bk o gt 53 a.g_/\Bk o S 35 #[.slice r b.length vc]/\Bk o gr 53 lE/\lm o a/\J [] w o/\a.run=t.run/\mX l hH hC d (hX b) f a.p=M/\(a.h9=0->Way l a.p/\todo l a.p+1<=f):=by
    refine⟨z,f-1,(j.hF x).gr v (zu n1),(u.hF x).gr v (zu n2),bR,(n.hF x).gr v (zu n3),(k.hF x).gr v (zu n4),(aj.hF ak).iq (e.hF x) I v,(i.trans x).jN v cM,?_,?_,?_⟩;have h:z.p.run=z.run:=rfl;rw[<-h,Q,mK];exact aE.out;obtain⟨aG,rfl⟩:∃aG,f=aG+1:=⟨f-1,X⟩;have h:=g.out;unfold mX at h;rw[U_ (show a.p.h9=0 from B.out),<-Q]at h;exact h;intro W;obtain⟨h,h2⟩:=V W;exact⟨h,X⟩
   repeat apply Exists.intro
   first|exact aF|exact⟨aF,rfl⟩
   all_goals exact undef
  case measure=>
   have h:=am.out;rw[U_ B.out]at h;have h2:=left_of (l:=l) bR;rw[h,h2];split;rename_i W;have:=(V W).2;omega;omega
 have q:(a.h9==0)=false:=zu p;have cy:wr.cell? (Z gt 42)=some (Y a.h9):=(e.f_ 42).trans rfl;have g:=O K;have B:=O p;clear p K al;go_wp2_with (first|(refine k2 e underlying53 ?_)|(refine kP (a.g_) k (Tk.one _) ?_;intro s o h));have HM:M=a.p:=by rw[<-g.out];exact za f B.out
 rw[HM];exact lW a.g_ (Y 0) o underlying53 ⟨a,rfl,G.iq k I h,rfl,i.jN h bM⟩
def Ts(w:World)(A:OA)(l:QB):Prop:=Sl w 53 48 A l.length (l.flatMap λt=>t.g_.toList)
structure x7(w:World)(A:OA)(l:QB):Prop where
 row:Ts w A l
 ye:∀t∈l,lm w t
def sT:(t.g_.toList).length=48:=rfl
def x7.hF{w':World}{A:OA}{l:QB}(h:x7 w A l)(a:J [] w w'):x7 w' A l:=⟨Sl.hF h.row a,λt b=>(h.ye t b).hF a⟩
def x7.at_{A:OA}{l:QB}(h:x7 w A l){k:Nat}(m:k<l.length):∃b d,A=some (Z b d)/\(∀a,a<48->w.cell? (Z b (d+k*48+a))=(l[k]).g_[a]?):=by
 obtain⟨b,d,hA,hc⟩:=Sl.f_ h.row X;refine⟨b,d,hA,λa e=>?_⟩;have j:=ja (λt:Tk=>t.g_.toList) 48 sT l k a m e;have f:a<(l[k]).g_.size:=by rw[Tk.size];exact e
 have i:(l[k]).g_.toList[a]?=some (l[k]).g_[a]:=by simp[f]
 rw[Gb f,HE];exact hc _ _ (j.trans i)
def nG(h:QQ)(l:QG)(k:Int):List Ob:=(l.take k.toNat).foldl lP h
def yp(h:QQ)(t:jb):(lP h t).length<=h.length+t.nw.length:=by
 unfold lP;rw[nZ,jY];exact oS t.nw h
def vS(l:QG)(h:QQ){n:Nat}(a:∀t∈l,t.nw.length<=n):(l.foldl lP h).length<=h.length+l.length*n:=by
 induction l generalizing h with
 |nil=>simp
 |cons t l b=>
  have f:=b (lP h t) (λe d=>a e (Gj _ d));have i:=yp h t;have j:=a t GM;rw[HN,Y_,Hp];omega
def Ak(l:QT)(TA:OA)(tc:Nat)(ts:QB)(k:Int)(w:World)(h:mE w A c l)(hn:l.length<=10000000)(Nt:x7 w TA ts)(cz:ts.length<=100)(ak:∀t∈ts,t.p.sm 500000)(cq:k<=1000000000):
 Calls prog 40 #[.agg #[.slice A l.length c],.slice TA ts.length tc,Y k] w (my (nG (hX l) (ts.map Tk.p) k) w):=by
 obtain⟨i1,bT,cj,cn,cr⟩:=info_parts infoOb;have af:∀t∈ts,t.nw.l.length<=500000:=λt ht=>by have:=(ak t ht).nw;have ai:t.p.nw.length=t.nw.l.length:=h5 _;omega
 obtain⟨C,D,j⟩:=pZ w 35 #[.slice A l.length c] 35 #[n_];go_enter func40,ntmps40;go_upto_region 1 with fail;obtain⟨B,bg⟩:=nm_ ((w.alloc (.cells #[.slice A l.length c] 35)).alloc (.cells #[n_] 35));rw[<-bg]at C D j |-;clear bg;obtain⟨aJ,aY⟩:=nm_ w.heap.size;obtain⟨gr,V⟩:=nm_ (w.heap.size+1);rw[<-V]at D;rw[<-aY]at C;rw[<-V,<-aY];have bM:w.heap.size<=gr:=X;clear aY V;have al:=C.f_ 0;have cT:Sl B 56 2 A l.length (iT l):=(h.hF j).os;have am:=iS B B.heap.size 56 2
 go_upto_region 2 with(at_builtin;refine iL _ rfl (.const (n_)) (.tmp 10) 33 rfl B.heap.size 56 i1 _ 2 32 underlying33 bT cj cn cr rfl I I none 0 0 _ rfl am A l.length c _ rfl cT (jA l) X (H_ _) ?_;intro i e r N an;simp only[X_,Gf]at N);have d:=an.gr [] B (H_ _) (F_ _ _);have ao:mE r i e l:=⟨Sl.iP N,(h.hF (j.trans d)).k8,iY N⟩;have bH:=C.hF d;have cg:=(D.hF d).alloc (.cells #[.slice i l.length e] 35);have ah:=P_ r 35 #[.slice i l.length e];have g:=ao.hF ((F_ [] r).alloc (.cells #[.slice i l.length e] 35));have av:=(j.trans d).alloc (.cells #[.slice i l.length e] 35);have bQ:=(j.trans d).size;have ap:gr≠r.heap.size:=by have:=D.lt;have:=d.size;omega
 obtain⟨ar,bi⟩:=nm_ (r.alloc (.cells #[.slice i l.length e] 35));rw[<-bi]at cg ah g av |-;clear bi;clear N an d ao bH C D j al cT am;generalize r.heap.size=o at*;go_wp2
 go_loopw [8] (λau wr=>∃(a:Nat) (A':OA) (c':Nat) (rs:QT),a<=ts.length/\((a:Int)<=k∨a=0)/\au=Y a/\Bk wr o 35 #[.slice A' rs.length c']/\Bk wr gr 35 #[n_]/\mE wr A' c' rs/\hX rs=((ts.map Tk.p).take a).foldl lP (hX l)/\J [] w wr) (λau _=>ts.length-(intOf au).toNat)
 case atStart=>exact⟨0,i,e,l,L_ _,.inr rfl,rfl,ah,cg,g,rfl,av⟩
 clear ah cg g av;obtain⟨a,A',c',rs,hm,cF,rfl,s,P,f,bO,F⟩:=hrel;have q:=O bO;clear bO;by_cases b5:(a:Int)<k
 .by_cases y:a<ts.length
  .have ay:(a:Int)<(ts.length:Int):=X;obtain⟨Q,T,ey,dy⟩:=(Nt.hF F).at_ y;subst ey;have aX:rs.length<=100000000:=by
    have R:=h5 rs;have h2:=vS ((ts.map Tk.p).take a) (hX l) (n:=500000) (λaz hu=>by
     obtain⟨t,ht,rfl⟩:=Ge.1 (GX hu);exact(ak t ht).nw)
    rw[q.out]at R;rw[Gp,Gg,h5]at h2;have h3:min a ts.length*500000<=100*500000:=HY _ X;omega
   have U:=(Nt.hF F).ye ts[a] (N_ y);have cA:=ak ts[a] (N_ y);have aA:=af ts[a] (N_ y);have bl:=O (show((ts.map Tk.p).take (a+1)).foldl lP (hX l)=lP (hX rs) ts[a].p by
    rw[q.out,Q_ (by rw[Gg];exact y),HO,Hq];rfl)
   generalize ts[a]=t at*
   go_upto_region 5 with fail;refine hN (λw'=>w'.cell? (Z o 0)=some (.slice A' rs.length c')/\∀b,b<48->w'.cell? (Z Q (T+a*48+b))=t.g_[b]?) 6 k_ ?_;have m:=(F_ [] wr).drew;replace s:=s.hF m;replace P:=P.hF m;replace f:=f.hF m;replace U:=U.hF m;replace F:=F.trans m;have u:wr.drew.cell? (Z o 0)=some (.slice A' rs.length c')/\∀b,b<48->wr.drew.cell? (Z Q (T+a*48+b))=t.g_[b]?:=⟨s.f_ 0,dy⟩;have aQ:(0:Int)<=(a:Int):=X;(iterate 4 refine j2 u ?_);refine ir 4 (v:=.agg t.g_) u ?_ (hy:=(Or.inl ⟨r_,λw' bF=>lX 53 rfl Q (T+a*48) r_ (λb S=>bF.2 b S) underlying53 rfl k_⟩));refine hY 5 λW x=>?_;go_simp;(go_at_call 84;((with_reducible refine(wo A' c' rs t U f X (G_ cA.ws I) (G_ cA.ds I)).mono ?_);unfold my;rintro ai K⟨aO,c4,r4,rfl,aB,aC,E⟩));have aq:=O aC;clear aC u;have bu:∀b,b<48->K.cell? (Z Q (T+a*48+b))=t.g_[b]?:=λb S=>by
    have R:=dy b S;have hs:b<t.g_.size:=by rw[Tk.size];exact S
    rw[Gb hs]at R |-;exact(m.trans E).f_ R H
   have z:=s.hF E;refine h4 x ⟨z.f_ 0,bu⟩ λu=>?_;clear x W;have aD:=P.hF E;have aT:=z.f_ 0;have bA:=z.hG 0;have L:J [o] K (K.setCell (Z o 0) (.slice aO r4.length c4)):=(F_ [o] K).setCell (.inl H) _;refine hY 6 λW x=>?_;go_simp;refine x.out _ _ (λh=>Gc h I) ?_;clear x W;refine hM k_ ?_ _;clear u aT bA;go_wp2;go_roundw;exact⟨a+1,aO,c4,r4,X,X,gn,z.hU 0 _,aD.ih (zu ap) _,aB.iq z I I L,by rw[aq.out,bl.out],(F.trans E).jN L bQ⟩;exact mz
  have ay:¬(a:Int)<(ts.length:Int):=X;have M:=O (show nG (hX l) (ts.map Tk.p) k=((ts.map Tk.p).take a).foldl lP (hX l) by
   unfold nG;rw[F7 (by rw[Gg];omega),F7 (by rw[Gg];omega)])
  exact JG
 have M:=O (show nG (hX l) (ts.map Tk.p) k=((ts.map Tk.p).take a).foldl lP (hX l) by
  unfold nG;have:k.toNat=a:=X;rw[this])
 exact JG
def lO(f:Fo)(dst:Int):Fo:=if f.dst=dst then⟨f.fr,f.dst,if 3<f.n+1 then 3 else f.n+1⟩ else if f.n-1<=0 then⟨f.fr,dst,1⟩ else⟨f.fr,f.dst,f.n-1⟩
def lq(l:QC)(fr dst:Int):List Fo:=
 if pi l fr=true then l.set (lB l fr) (lO (l.getD (lB l fr) default) dst) else l.take (lB l fr)++([⟨fr,dst,1⟩]++l.drop (lB l fr))
def yF(P:QC)(w:World)(e:Ending)(w':World):Prop:=∃(A:OA) (d:Nat),e=.returned (.agg #[.slice A P.length d])/\Fs w' A P/\P.length<=d/\J [] w w'
def yY(l:QC)(d e:Int)(w:World)(h:Fs w A l)(hn:l.length<=1000000000)(x:pi l d=false):
 Calls prog 51 #[.agg #[.slice A l.length c],Y d,Y e] w (yF (lq l d e) w):=by
 have aU:=O (show lq l d e=l.take (lB l d)++([⟨d,e,1⟩]++l.drop (lB l d)) by unfold lq;rw[x];rfl);obtain⟨a,D⟩:=nm_ (lB l d);have hk:a<=l.length:=by rw[D];exact CP
 have F:=O D;clear D;obtain⟨Q,N,P,L,K⟩:=info_parts infoFo;obtain⟨b,C,n⟩:=pZ w 96 #[.slice A l.length c] 96 #[n_];go_enter func51,ntmps51;go_upto_region 1 with fail;obtain⟨k,bg⟩:=nm_ ((w.alloc (.cells #[.slice A l.length c] 96)).alloc (.cells #[n_] 96));rw[<-bg]at b C n |-;clear bg;obtain⟨gs,S⟩:=nm_ w.heap.size;obtain⟨B,E⟩:=nm_ (w.heap.size+1);rw[<-E]at C;rw[<-S]at b;rw[<-E,<-S];have bM:w.heap.size<=B:=X;clear S E;have V:=b.f_ 0;have cT:Sl k 168 3 A l.length (l.flatMap Fo.E):=h.hF n
 go_upto_region 2 with(at_builtin;refine iL _ rfl (.const (n_)) (.tmp 12) 94 rfl k.heap.size 168 Q _ 3 24 underlying94 N P L K rfl I I none 0 0 [] rfl (iS _ _ _ _) A l.length c _ rfl cT (vt l) X (H_ _) ?_;intro u r w2 M W;simp only[X_,Gf]at M;have V:=(b.hF (W.gr [] k (H_ _) (F_ _ _))).f_ 0);have m:J [] k w2:=W.gr [] k (H_ _) (F_ _ _);have aB:Fs w2 u l:=Sl.iP M;have b8:=iY M;have bS:=b.hF m;have cg:=C.hF m;clear b C;go_upto_region 4 with(go_at_call 99;((with_reducible refine(qW A c l d (h.hF (n.trans m)) hn).mono ?_);rw[x];rintro ad i⟨rfl,o⟩));rw[<-F.out];clear V;refine hN (λ_=>True) 14 k_ ?_;have U:J [] i i.drew:=(F_ [] i).drew;obtain⟨bO,b6⟩:=nm_ i.drew;rw[<-b6]at U |-;clear b6;have b:True:=trivial;have aQ:(0:Int)<=(a:Int):=X;have aJ:(a:Int)<=(l.length:Int):=X;have aG:(a:Int)<=(r:Int):=X;have Nr:=O (show ∀R∈(#[Y d,Y e,Y 1]:Array Value).toList++(l.drop a).flatMap Fo.E,R.oneCell'=true from λR hu=>vt (⟨d,e,1⟩::l.drop a) R hu)
 (iterate 3 refine j2 b ?_)
 refine ir 3 (v:=.slice u a a) b ?_ (hy:=(Or.inl ⟨r_,(by intro w' bF;go_simp;try with_reducible rfl)⟩));refine ir 4 b ?_;refine ir 5 b ?_;refine ir 6 b ?_;refine ir 8 b ?_;refine ir 9 b ?_;refine ir 10 (v:=.slice (if r=a then u else u.map (·.add (a*3))) (l.length-a) (r-a)) b ?_ (hy:=(Or.inl ⟨r_,(by intro w' bF;go_simp;try with_reducible rfl)⟩));refine hY 7 λj f=>?_;go_simp;have ae:J [] i (bO.alloc (.cells #[Y d,Y e,Y 1] 168)):=U.alloc _;have bq:=kW (s:=3) (P_ bO 168 #[Y d,Y e,Y 1]) rfl;have aH:=(Sl.yB o2 (aB.hF (o.trans ae)) hk r b8);refine f.out _ _ (λ_=>trivial) ?_;clear f j;try simp only[a_]
 refine hY 11 λj f=>?_;refine mJ _ r_ (.tmp 29) (.tmp 32) 94 r_ 168 Q _ 3 24 underlying94 N P L K rfl I I _ 1 _ r_ bq _ (l.length-a) _ _ r_ aH (vt _) X ?_;intro aW c5 Nq ak aX ai;have T:J [] i Nq:=ae.trans ai;have aM:=(Sl.yg o2 (aB.hF (o.trans T)) hk);refine f.out _ _ (λ_=>trivial) ?_;clear f j;try simp only[a_]
 refine hY 12 λj f=>?_;refine mJ _ r_ (.tmp 25) (.tmp 33) 94 r_ 168 Q _ 3 24 underlying94 N P L K rfl I I _ a _ r_ aM _ (1+(l.length-a)) _ _ r_ aX Nr.out X ?_;intro q p y bJ bZ aC;have ag:J [] i y:=T.trans aC;refine f.out _ _ (λ_=>trivial) ?_;clear f j;try simp only[a_]
 refine ir 13 b ?_;refine hM k_ ?_ _;have z:=cg.hF (o.trans ag);have b0:=z.f_ 0;have bA:=z.hG 0;go_wp2;all_goals (
  have am:J [B] y (y.setCell (Z B 0) (.slice q (a+(1+(l.length-a))) p)):=(F_ [B] y).setCell (.inl H) _;have iF:(lq l d e).length=a+(1+(l.length-a)):=by rw[aU.out,<-F.out];simp;omega
  refine Gu (v:=.agg #[.slice q (a+(1+(l.length-a))) p]) (Hb rfl _ _ _ _ _ _ _ rfl (z.hU 0 (.slice q (a+(1+(l.length-a))) p)) underlying96 rfl k_) rfl ⟨q,p,by rw[iF],?_,by rw[iF];exact bJ,((n.trans m).trans (o.trans ag)).jN am bM⟩;unfold Fs;rw[iF,aU.out,<-F.out,Gs,Gs,Ib];exact Sl.iq bZ z I am)
def yX(l:QC)(r e:Int)(w:World)(h:Fs w A l)(hn:l.length<=1000000000)(x:pi l r=true)(hb:∀f∈l, -1000<=f.n/\f.n<=1000):
 Calls prog 51 #[.agg #[.slice A l.length c],Y r,Y e] w (yF (lq l r e) w):=by
 have c6:=O (show lq l r e=l.set (lB l r) (lO (l.getD (lB l r) default) e) by unfold lq;rw[x];rfl);obtain⟨a,ad⟩:=nm_ (lB l r);have R:a<l.length:=by rw[ad];unfold pi at x;simp at x;exact x.1
 have ae:=O ad;have Nw:l.getD a default=l[a]:=by simp[List.getD,K_ R]
 have D:Hid (lq l r e=l.set a (lO l[a] e)):=O (by rw[c6.out,<-ae.out,Nw]);have Nq:=hb l[a] (N_ R);clear ad c6 Nw hb;obtain⟨bu,bB,bt,a7,a6⟩:=info_parts infoFo;obtain⟨ag,hR,P⟩:=pZ w 96 #[.slice A l.length c] 96 #[n_];go_enter func51,ntmps51;go_upto_region 1 with fail;obtain⟨bo,bg⟩:=nm_ ((w.alloc (.cells #[.slice A l.length c] 96)).alloc (.cells #[n_] 96));rw[<-bg]at ag hR P |-;clear bg;obtain⟨gs,ah⟩:=nm_ w.heap.size;obtain⟨o,ai⟩:=nm_ (w.heap.size+1);rw[<-ai]at hR;rw[<-ah]at ag;rw[<-ai,<-ah];have bM:w.heap.size<=o:=X;clear ah ai;have ak:=ag.f_ 0;have cT:Sl bo 168 3 A l.length (l.flatMap Fo.E):=h.hF P
 go_upto_region 2 with(at_builtin;refine iL _ rfl (.const (n_)) (.tmp 12) 94 rfl bo.heap.size 168 bu _ 3 24 underlying94 bB bt a7 a6 rfl I I none 0 0 [] rfl (iS _ _ _ _) A l.length c _ rfl cT (vt l) X (H_ _) ?_;intro aw m w2 ax al;simp only[X_,Gf]at ax;have ak:=(ag.hF (al.gr [] bo (H_ _) (F_ _ _))).f_ 0);have Np:J [] bo w2:=al.gr [] bo (H_ _) (F_ _ _);have aB:Fs w2 aw l:=Sl.iP ax;have b8:=iY ax;have bS:=ag.hF Np;have cg:=hR.hF Np;clear ag hR;obtain⟨g,cur,an,ao,ap,t⟩:=kK ax X;subst an;have n:=λaq ar(hu:(Fo.E l[a])[aq]?=some ar)=>t (a*3+aq) ar (by
  have hj:aq<3:=by have:=(HI.1 hu).1;rw[o2]at this;exact this
  rw[ja Fo.E 3 o2 l a aq R hj];exact hu)
 go_upto_region 6 with(go_at_call 99;((with_reducible refine(qW A c l r (h.hF (P.trans Np)) hn).mono ?_);rw[x];rintro au E⟨rfl,av⟩));rw[<-ae.out];clear ak;have ay:=ap.hF av;have Nr:(a:Int)<(l.length:Int):=X;obtain⟨f,cA⟩:=nm_ (l[a]);rw[<-cA]at n Nq D;have de:=O cA;clear cA;have k0:E.cell? (Z g (a*3))=some (Y f.fr):=(ay.f_ _).trans (n 0 _ rfl);have bK:E.cell? (Z g (a*3+1))=some (Y f.dst):=(ay.f_ _).trans (n 1 _ rfl);have bj:E.cell? (Z g (a*3+2))=some (Y f.n):=(ay.f_ _).trans (n 2 _ rfl);go_upto_region 7 with fail;have G:=P_ E 168 #[Y f.fr,Y f.dst,Y f.n];have Nu:=ay.alloc (.cells #[Y f.fr,Y f.dst,Y f.n] 168);have az:=(cg.hF av).alloc (.cells #[Y f.fr,Y f.dst,Y f.n] 168);have aA:=((P.trans Np).trans av).alloc (.cells #[Y f.fr,Y f.dst,Y f.n] 168);have Nt:g≠E.heap.size:=ov ay.lt;have aF:o≠E.heap.size:=ov ((cg.hF av).lt);have bD:w.heap.size<=E.heap.size:=((P.trans Np).trans av).size;have u:o≠g:=Bk.l8 cg ap I;have s:w.heap.size<=g:=G_ P.size ao;clear k0 bK bj ay ax al aB bS cg Np av P cT ap ao;obtain⟨F,aW⟩:=nm_ (E.alloc (.cells #[Y f.fr,Y f.dst,Y f.n] 168));rw[<-aW]at G Nu az aA |-;clear aW;generalize E.heap.size=d at*
 by_cases C:f.dst=e
 .have q:(f.dst==e)=true:=zu C;by_cases h3:3<f.n+1
  .have T:=O (show lO f e=⟨f.fr,f.dst,3⟩ by unfold lO;rw[U_ C,U_ h3]);have bP:(3<f.n+1)=True:=by simp[h3]
   clear C;have S:=G.f_ 0;have U:=G.f_ 1;have Q:=G.f_ 2;have L:=G.hG 0;have M:=G.hG 1;have N:=G.hG 2;go_upto_region 12 with fail;have k:Bk (F.setCell (Z d 2) (Y 3)) d 168 #[Y f.fr,Y f.dst,Y 3]:=(G).hU 2 (Y 3);have b:=(Nu).ih (p:=(Z d 2)) Nt (Y 3);have j:=(az).ih (p:=(Z d 2)) aF (Y 3);have y:=(aA).setCell (p:=(Z d 2)) (.inr bD) (Y 3);clear S U Q L M N;obtain⟨i,z⟩:=nm_ (F.setCell (Z d 2) (Y 3));rw[<-z]at k b j y |-;clear z;have z0:=k.f_ 0;have aR:=k.f_ 1;have aZ:=k.f_ 2;have k0:i.cell? (Z g (a*3))=some (Y f.fr):=(b.f_ _).trans (n 0 _ rfl);have bK:i.cell? (Z g (a*3+1))=some (Y f.dst):=(b.f_ _).trans (n 1 _ rfl);have bj:i.cell? (Z g (a*3+2))=some (Y f.n):=(b.f_ _).trans (n 2 _ rfl);have bA:=b.hG (a*3);have bL:=b.hG (a*3+1);have cf:=b.hG (a*3+2);have b0:=j.f_ 0;have aC:=j.hG 0
   have V:Fs ((((i.setCell (Z g (a*3)) (Y f.fr)).setCell (Z g (a*3+1)) (Y f.dst)).setCell (Z g (a*3+2)) (Y 3))) (j_ g) (l.set a ⟨f.fr,f.dst,3⟩):=by
    unfold Fs;exact so Fo.E o2 R ⟨f.fr,f.dst,3⟩ rfl b t H
   have B:=((j.ih (p:=(Z g (a*3))) u (Y f.fr)).ih (p:=(Z g (a*3+1))) u (Y f.dst)).ih (p:=(Z g (a*3+2))) u (Y 3);have v:J [o] _ _:=(F_ [o] ((((i.setCell (Z g (a*3)) (Y f.fr)).setCell (Z g (a*3+1)) (Y f.dst)).setCell (Z g (a*3+2)) (Y 3)))).setCell (p:=(Z o 0)) (.inl H) (.slice (j_ g) l.length m);have W:=((y.setCell (p:=(Z g (a*3))) (.inr s) (Y f.fr)).setCell (p:=(Z g (a*3+1))) (.inr s) (Y f.dst)).setCell (p:=(Z g (a*3+2))) (.inr s) (Y 3);have iF:(lq l r e).length=l.length:=by rw[D.out];simp
   go_wp2;refine rr_ #[.slice (j_ g) l.length m] (B.hU 0 (.slice (j_ g) l.length m)) underlying96 ⟨some (Z g 0),m,by rw[iF],?_,by rw[iF];exact b8,W.jN v bM⟩;rw[D.out,T.out];unfold Fs;rw[Gl];have K:Sl ((((i.setCell (Z g (a*3)) (Y f.fr)).setCell (Z g (a*3+1)) (Y f.dst)).setCell (Z g (a*3+2)) (Y 3))) 168 3 (j_ g) l.length ((l.set a ⟨f.fr,f.dst,3⟩).flatMap Fo.E):=by have q:=V;unfold Fs at q;rw[Gl]at q;exact q
   exact Sl.iq K B I v
  have T:=O (show lO f e=⟨f.fr,f.dst,f.n+1⟩ by unfold lO;rw[U_ C,T_ h3]);have bP:(3<f.n+1)=False:=by simp[h3]
  clear C;have S:=G.f_ 0;have U:=G.f_ 1;have Q:=G.f_ 2;have L:=G.hG 0;have M:=G.hG 1;have N:=G.hG 2;go_upto_region 12 with fail;have k:Bk (F.setCell (Z d 2) (Y (f.n+1))) d 168 #[Y f.fr,Y f.dst,Y (f.n+1)]:=(G).hU 2 (Y (f.n+1));have b:=(Nu).ih (p:=(Z d 2)) Nt (Y (f.n+1));have j:=(az).ih (p:=(Z d 2)) aF (Y (f.n+1));have y:=(aA).setCell (p:=(Z d 2)) (.inr bD) (Y (f.n+1));clear S U Q L M N;obtain⟨i,z⟩:=nm_ (F.setCell (Z d 2) (Y (f.n+1)));rw[<-z]at k b j y |-;clear z;have z0:=k.f_ 0;have aR:=k.f_ 1;have aZ:=k.f_ 2;have k0:i.cell? (Z g (a*3))=some (Y f.fr):=(b.f_ _).trans (n 0 _ rfl);have bK:i.cell? (Z g (a*3+1))=some (Y f.dst):=(b.f_ _).trans (n 1 _ rfl);have bj:i.cell? (Z g (a*3+2))=some (Y f.n):=(b.f_ _).trans (n 2 _ rfl);have bA:=b.hG (a*3);have bL:=b.hG (a*3+1);have cf:=b.hG (a*3+2);have b0:=j.f_ 0;have aC:=j.hG 0
  have V:Fs ((((i.setCell (Z g (a*3)) (Y f.fr)).setCell (Z g (a*3+1)) (Y f.dst)).setCell (Z g (a*3+2)) (Y (f.n+1)))) (j_ g) (l.set a ⟨f.fr,f.dst,f.n+1⟩):=by
   unfold Fs;exact so Fo.E o2 R ⟨f.fr,f.dst,f.n+1⟩ rfl b t H
  have B:=((j.ih (p:=(Z g (a*3))) u (Y f.fr)).ih (p:=(Z g (a*3+1))) u (Y f.dst)).ih (p:=(Z g (a*3+2))) u (Y (f.n+1));have v:J [o] _ _:=(F_ [o] ((((i.setCell (Z g (a*3)) (Y f.fr)).setCell (Z g (a*3+1)) (Y f.dst)).setCell (Z g (a*3+2)) (Y (f.n+1))))).setCell (p:=(Z o 0)) (.inl H) (.slice (j_ g) l.length m);have W:=((y.setCell (p:=(Z g (a*3))) (.inr s) (Y f.fr)).setCell (p:=(Z g (a*3+1))) (.inr s) (Y f.dst)).setCell (p:=(Z g (a*3+2))) (.inr s) (Y (f.n+1));have iF:(lq l r e).length=l.length:=by rw[D.out];simp
  go_wp2;refine rr_ #[.slice (j_ g) l.length m] (B.hU 0 (.slice (j_ g) l.length m)) underlying96 ⟨some (Z g 0),m,by rw[iF],?_,by rw[iF];exact b8,W.jN v bM⟩;rw[D.out,T.out];unfold Fs;rw[Gl];have K:Sl ((((i.setCell (Z g (a*3)) (Y f.fr)).setCell (Z g (a*3+1)) (Y f.dst)).setCell (Z g (a*3+2)) (Y (f.n+1)))) 168 3 (j_ g) l.length ((l.set a ⟨f.fr,f.dst,f.n+1⟩).flatMap Fo.E):=by have q:=V;unfold Fs at q;rw[Gl]at q;exact q
  exact Sl.iq K B I v
 have q:(f.dst==e)=false:=zu C;by_cases hz:f.n-1<=0
 .have T:=O (show lO f e=⟨f.fr,e,1⟩ by unfold lO;rw[T_ C,U_ hz]);have bG:(f.n-1<=0)=True:=by simp[hz]
  clear C;have S:=G.f_ 0;have U:=G.f_ 1;have Q:=G.f_ 2;have L:=G.hG 0;have M:=G.hG 1;have N:=G.hG 2;go_upto_region 12 with fail;have k:Bk (((F.setCell (Z d 2) (Y (f.n-1))).setCell (Z d 1) (Y e)).setCell (Z d 2) (Y 1)) d 168 #[Y f.fr,Y e,Y 1]:=(((G).hU 2 (Y (f.n-1))).hU 1 (Y e)).hU 2 (Y 1);have b:=(((Nu).ih (p:=(Z d 2)) Nt (Y (f.n-1))).ih (p:=(Z d 1)) Nt (Y e)).ih (p:=(Z d 2)) Nt (Y 1);have j:=(((az).ih (p:=(Z d 2)) aF (Y (f.n-1))).ih (p:=(Z d 1)) aF (Y e)).ih (p:=(Z d 2)) aF (Y 1);have y:=(((aA).setCell (p:=(Z d 2)) (.inr bD) (Y (f.n-1))).setCell (p:=(Z d 1)) (.inr bD) (Y e)).setCell (p:=(Z d 2)) (.inr bD) (Y 1);clear S U Q L M N;obtain⟨i,z⟩:=nm_ (((F.setCell (Z d 2) (Y (f.n-1))).setCell (Z d 1) (Y e)).setCell (Z d 2) (Y 1));rw[<-z]at k b j y |-;clear z;have z0:=k.f_ 0;have aR:=k.f_ 1;have aZ:=k.f_ 2;have k0:i.cell? (Z g (a*3))=some (Y f.fr):=(b.f_ _).trans (n 0 _ rfl);have bK:i.cell? (Z g (a*3+1))=some (Y f.dst):=(b.f_ _).trans (n 1 _ rfl);have bj:i.cell? (Z g (a*3+2))=some (Y f.n):=(b.f_ _).trans (n 2 _ rfl);have bA:=b.hG (a*3);have bL:=b.hG (a*3+1);have cf:=b.hG (a*3+2);have b0:=j.f_ 0;have aC:=j.hG 0
  have V:Fs ((((i.setCell (Z g (a*3)) (Y f.fr)).setCell (Z g (a*3+1)) (Y e)).setCell (Z g (a*3+2)) (Y 1))) (j_ g) (l.set a ⟨f.fr,e,1⟩):=by
   unfold Fs;exact so Fo.E o2 R ⟨f.fr,e,1⟩ rfl b t H
  have B:=((j.ih (p:=(Z g (a*3))) u (Y f.fr)).ih (p:=(Z g (a*3+1))) u (Y e)).ih (p:=(Z g (a*3+2))) u (Y 1);have v:J [o] _ _:=(F_ [o] ((((i.setCell (Z g (a*3)) (Y f.fr)).setCell (Z g (a*3+1)) (Y e)).setCell (Z g (a*3+2)) (Y 1)))).setCell (p:=(Z o 0)) (.inl H) (.slice (j_ g) l.length m);have W:=((y.setCell (p:=(Z g (a*3))) (.inr s) (Y f.fr)).setCell (p:=(Z g (a*3+1))) (.inr s) (Y e)).setCell (p:=(Z g (a*3+2))) (.inr s) (Y 1);have iF:(lq l r e).length=l.length:=by rw[D.out];simp
  go_wp2;refine rr_ #[.slice (j_ g) l.length m] (B.hU 0 (.slice (j_ g) l.length m)) underlying96 ⟨some (Z g 0),m,by rw[iF],?_,by rw[iF];exact b8,W.jN v bM⟩;rw[D.out,T.out];unfold Fs;rw[Gl];have K:Sl ((((i.setCell (Z g (a*3)) (Y f.fr)).setCell (Z g (a*3+1)) (Y e)).setCell (Z g (a*3+2)) (Y 1))) 168 3 (j_ g) l.length ((l.set a ⟨f.fr,e,1⟩).flatMap Fo.E):=by have q:=V;unfold Fs at q;rw[Gl]at q;exact q
  exact Sl.iq K B I v
 have T:=O (show lO f e=⟨f.fr,f.dst,f.n-1⟩ by unfold lO;rw[T_ C,T_ hz]);have bG:(f.n-1<=0)=False:=by simp[hz]
 clear C;have S:=G.f_ 0;have U:=G.f_ 1;have Q:=G.f_ 2;have L:=G.hG 0;have M:=G.hG 1;have N:=G.hG 2;go_upto_region 12 with fail;have k:Bk (F.setCell (Z d 2) (Y (f.n-1))) d 168 #[Y f.fr,Y f.dst,Y (f.n-1)]:=(G).hU 2 (Y (f.n-1));have b:=(Nu).ih (p:=(Z d 2)) Nt (Y (f.n-1));have j:=(az).ih (p:=(Z d 2)) aF (Y (f.n-1));have y:=(aA).setCell (p:=(Z d 2)) (.inr bD) (Y (f.n-1));clear S U Q L M N;obtain⟨i,z⟩:=nm_ (F.setCell (Z d 2) (Y (f.n-1)));rw[<-z]at k b j y |-;clear z;have z0:=k.f_ 0;have aR:=k.f_ 1;have aZ:=k.f_ 2;have k0:i.cell? (Z g (a*3))=some (Y f.fr):=(b.f_ _).trans (n 0 _ rfl);have bK:i.cell? (Z g (a*3+1))=some (Y f.dst):=(b.f_ _).trans (n 1 _ rfl);have bj:i.cell? (Z g (a*3+2))=some (Y f.n):=(b.f_ _).trans (n 2 _ rfl);have bA:=b.hG (a*3);have bL:=b.hG (a*3+1);have cf:=b.hG (a*3+2);have b0:=j.f_ 0;have aC:=j.hG 0
 have V:Fs ((((i.setCell (Z g (a*3)) (Y f.fr)).setCell (Z g (a*3+1)) (Y f.dst)).setCell (Z g (a*3+2)) (Y (f.n-1)))) (j_ g) (l.set a ⟨f.fr,f.dst,f.n-1⟩):=by
  unfold Fs;exact so Fo.E o2 R ⟨f.fr,f.dst,f.n-1⟩ rfl b t H
 have B:=((j.ih (p:=(Z g (a*3))) u (Y f.fr)).ih (p:=(Z g (a*3+1))) u (Y f.dst)).ih (p:=(Z g (a*3+2))) u (Y (f.n-1));have v:J [o] _ _:=(F_ [o] ((((i.setCell (Z g (a*3)) (Y f.fr)).setCell (Z g (a*3+1)) (Y f.dst)).setCell (Z g (a*3+2)) (Y (f.n-1))))).setCell (p:=(Z o 0)) (.inl H) (.slice (j_ g) l.length m);have W:=((y.setCell (p:=(Z g (a*3))) (.inr s) (Y f.fr)).setCell (p:=(Z g (a*3+1))) (.inr s) (Y f.dst)).setCell (p:=(Z g (a*3+2))) (.inr s) (Y (f.n-1));have iF:(lq l r e).length=l.length:=by rw[D.out];simp
 go_wp2;refine rr_ #[.slice (j_ g) l.length m] (B.hU 0 (.slice (j_ g) l.length m)) underlying96 ⟨some (Z g 0),m,by rw[iF],?_,by rw[iF];exact b8,W.jN v bM⟩;rw[D.out,T.out];unfold Fs;rw[Gl];have K:Sl ((((i.setCell (Z g (a*3)) (Y f.fr)).setCell (Z g (a*3+1)) (Y f.dst)).setCell (Z g (a*3+2)) (Y (f.n-1)))) 168 3 (j_ g) l.length ((l.set a ⟨f.fr,f.dst,f.n-1⟩).flatMap Fo.E):=by have q:=V;unfold Fs at q;rw[Gl]at q;exact q
 exact Sl.iq K B I v
def yZ(l:QC)(a b:Int)(h:Fs w A l)(d:l.length<=1000000000)(i:∀f∈l, -1000<=f.n/\f.n<=1000):
 Calls prog 51 #[.agg #[.slice A l.length c],Y a,Y b] w (yF (lq l a b) w):=by
 cases e:pi l a with
 |false=>exact yY A c l a b w h d e
 |true=>exact yX A c l a b w h d e i
def DI(l:QS)(hH hC x:Int):Prop:=m8 l x=true/\jz l hH hC x=false/\ -1000000000<=x/\x<=1000000000
def Di(l:QS)(hH hC:Int)(w:World)(e:Ending)(w':World):Prop:=∃(A:OA) (d:Nat) (xs:QR),e=.returned (.slice A xs.length d)/\Ns w' 3 A xs/\xs.length<=16/\(∀x∈xs,DI l hH hC x)/\J [] w w'
def roomOf(v:Value):Nat:=match v with
 | .slice _ n _=>16-n
 |_=>0
def zM(m:OA)(v:Nat)(b:QC)(hQ n:Int)(h:Is w A l)(u:l.length<=1000000000)(au:Fs w m b)(Nw:b.length<=1000000000)(G:∀f∈b, -1000000000<=f.dst/\f.dst<=1000000000)(Nu: -1000000000<=hQ)(b5:hQ<=1000000000):
 Calls prog 53 #[.agg #[.slice A l.length c,Y hH,Y hC],.agg #[.slice m b.length v],Y hQ,Y n] w (Di l hH hC w):=by
 obtain⟨bu,bB,bt,a7,a6⟩:=info_parts infoInt;obtain⟨d,k,L⟩:=pZ w 26 #[.slice A l.length c,Y hH,Y hC] 96 #[.slice m b.length v];go_enter func53,ntmps53;go_upto_region 1 with fail;obtain⟨bo,bg⟩:=nm_ ((w.alloc (.cells #[.slice A l.length c,Y hH,Y hC] 26)).alloc (.cells #[.slice m b.length v] 96));rw[<-bg]at d k L |-;clear bg;obtain⟨aK,K⟩:=nm_ w.heap.size;obtain⟨gs,U⟩:=nm_ (w.heap.size+1);rw[<-U]at k;rw[<-K]at d;rw[<-U,<-K];clear U K;go_wp2
 go_loopw [9,10,11] (λT ad al wr=>∃(Nt:OA) (j E:Nat) (xs:QR) (a:Int) (P:Bool),T=.slice Nt j E/\ad=Y a/\al=.bool P/\j=xs.length/\j<=16/\(∀y∈xs,DI l hH hC y)/\ -1000000000<=a/\a<=1000000000/\wr.ownsRow w.heap.size 3 1 (.slice Nt j E) j (xs.map (Value.int .i64))/\Bk wr aK 26 #[.slice A l.length c,Y hH,Y hC]/\Bk wr gs 96 #[.slice m b.length v]/\J [] w wr) (λT _ _ _=>roomOf T)
 case atStart=>exact⟨none,0,0,[],hQ,true,rfl,rfl,rfl,rfl,L_ _,(λy S=>by cases S),Nu,b5,iS _ _ _ _,d,k,L⟩
 clear d k L;obtain⟨Nt,j,E,xs,a,P,rfl,rfl,rfl,hn0,an,R,D,C,ak,d,k,F⟩:=hrel;have af:=O hn0;clear hn0;cases P with
 |false=>
  exact KT
 |true=>
  by_cases h1:(j:Int)<n
  .by_cases h2:(j:Int)<16
   .have ao:=d.f_ 0;have ah:=d.f_ 1;have ay:=d.f_ 2;cases r:m8 l a with
    |false=>
     go_wp2_with (go_at_call 97;have i:=l_ A c l hH hC a (h.hF F) u D C;rw[r]at i;refine i.mono ?_;rintro p w1⟨rfl,e⟩);all_goals go_ret
     all_goals exact⟨Nt,E,xs,by rw[<-af.out];rfl,(by unfold Ns;rw[<-af.out];exact Sl.iP (iD ak e)),(ov af.out),R,F.trans e⟩
    |true=>
     cases H:jz l hH hC a with
     |true=>
      go_wp2_with (first|(go_at_call 97;have i:=l_ A c l hH hC a (h.hF F) u D C;rw[r]at i;refine i.mono ?_;rintro p w1⟨rfl,e⟩;have z0:=(d.hF e).f_ 0;have Z:=(d.hF e).f_ 1;have aZ:=(d.hF e).f_ 2)|(go_at_call 83;have i:=lC A c l hH hC a (h.hF (F.trans e)) u;rw[H]at i;refine i.mono ?_;rintro p x⟨rfl,z⟩));all_goals go_ret
      all_goals exact⟨Nt,E,xs,by rw[<-af.out];rfl,(by unfold Ns;rw[<-af.out];exact Sl.iP (iD ak (e.trans z))),(ov af.out),R,(F.trans e).trans z⟩
     |false=>
      have aq:=O r;have g:=O H;go_upto_region 4 with(first|(go_at_call 97;have i:=l_ A c l hH hC a (h.hF F) u D C;rw[r]at i;refine i.mono ?_;rintro p w1⟨rfl,e⟩;have z0:=(d.hF e).f_ 0;have Z:=(d.hF e).f_ 1;have aZ:=(d.hF e).f_ 2)|(go_at_call 83;have i:=lC A c l hH hC a (h.hF (F.trans e)) u;rw[H]at i;refine i.mono ?_;rintro p x⟨rfl,z⟩));clear r H z0 Z aZ ao ah ay;have o:J [] wr (x.alloc (.cells #[Y a] 3)):=(e.trans z).alloc _;have aT:=iD ak o;have aD:Sl (x.alloc (.cells #[Y a] 3)) 3 1 (j_ x.heap.size) 1 [Y a]:=kW (s:=1) (P_ x 3 #[Y a]) rfl;have t:=(F.trans o).size;have ar:=d.hF o;have az:=k.hF o;go_upto_region 5 with(at_builtin;refine iL _ rfl (.tmp 36) (.tmp 38) 30 rfl w.heap.size 3 bu _ 1 8 underlying30 bB bt a7 a6 rfl I I Nt j E _ rfl aT _ 1 1 _ rfl aD (by intro aA hu;simp at hu;subst hu;rfl) X t ?_;intro aw aj ae ax M;have q:=M.bk ar I;have W:=M.bk az I;have aB:=W.f_ 0);have V:=M.gr [] w (H_ _) (F.trans o);go_wp2_with (go_at_call 101;((with_reducible refine(zB m v b a (au.hF V) Nw).mono ?_);rintro p Nq⟨rfl,B⟩));go_roundw
      case rel=>
       have aC: -1000000000<=(if pi b a=true then(b.getD (lB b a) default).dst else 0)/\(if pi b a=true then(b.getD (lB b a) default).dst else 0)<=1000000000:=by
        split;rename_i N;have ag:=by unfold pi at N;simp at N;exact N.1
        have hm:b.getD (lB b a) default∈b:=by rw[List.getD,K_ ag];exact N_ ag
        exact G _ hm;omega
       exact⟨aw,j+1,aj,xs++[a],_,_,rfl,rfl,rfl,by rw[I_,<-af.out];rfl,X,(λy S=>by
        rcases W_.1 S with Q|Q
        exact R y Q;have:y=a:=zu Q;subst this;exact⟨aq.out,g.out,D,C⟩),aC.1,aC.2,by rw[Gd];exact iD ax B,q.hF B,W.hF B,V.trans B⟩
      case measure=>simp[roomOf];omega
   exact KT
  exact KT
def pT(l:QT)(id f:Int)(h:Os w A l)(i:l5 w l)(d:l.length<=1000000000)(b:jw (hX l) id f=none):
 Calls prog 148 #[.agg #[.slice A l.length c],Y id,Y f] w λe w'=>e=.returned (.tuple #[.agg #[.bool false,Y 0],.bool false])/\J [] w w':=by
 have a:=kI A c l id f w h i d;rw[b]at a;exact a
def oz(l:QT)(id f:Int)(v:Vl)(h:Os w A l)(i:l5 w l)(d:l.length<=1000000000)(b:jw (hX l) id f=some v):
 Calls prog 148 #[.agg #[.slice A l.length c],Y id,Y f] w λe w'=>e=.returned (.tuple #[.agg #[.bool v.r,Y v.n],.bool true])/\J [] w w':=by
 have a:=kI A c l id f w h i d;rw[b]at a;exact a
def yR(h:QQ)(c:Cl):Bool:=match jw h c.id c.f with
 |none=>true
 |some v=> !(v.r==c.v.r&&v.n==c.v.n)
def kV(h:QQ)(l:QX):Option Cl:=l.find? (yR h)
def ui(c:OA)(cc:Nat)(cl:QX)(o:mE w hA hc hl)(aq:hl.length<=1000000000)(R:Cs w c cl)(bX:cl.length<=1000000000):
 Calls prog 181 #[.agg #[.slice hA hl.length hc],.slice c cl.length cc] w λe w'=>e=.returned (.tuple #[.agg #[Y ((kV (hX hl) cl).getD default).id,Y ((kV (hX hl) cl).getD default).f,.bool ((kV (hX hl) cl).getD default).v.r,Y ((kV (hX hl) cl).getD default).v.n],.bool (kV (hX hl) cl).isSome])/\J [] w w':=by
 obtain⟨k,m,s⟩:=pZ w 35 #[.slice hA hl.length hc] 116 #[Y 0,Y 0,.bool false,Y 0];have t:=O (show cl.length=cl.length from rfl);obtain⟨q,n⟩:=nm_ cl.length;have I:=O n;rw[<-n];rw[<-n]at bX;clear n;go_enter func181,ntmps181;go_upto_region 1 with fail;obtain⟨bo,N⟩:=nm_ ((w.alloc (.cells #[.slice hA hl.length hc] 35)).alloc (.cells #[Y 0,Y 0,.bool false,Y 0] 116));rw[<-N]at k m s |-;clear N;obtain⟨T,x⟩:=nm_ w.heap.size;obtain⟨gr,r⟩:=nm_ (w.heap.size+1);rw[<-r]at m;rw[<-x]at k;rw[<-r,<-x];have bM:w.heap.size<=gr:=X;clear x r;go_wp2
 go_loopw [12] (λD wr=>∃b:Nat,b<=q/\D=Y b/\kV (hX hl) cl=(cl.drop b).find? (yR (hX hl))/\Bk wr T 35 #[.slice hA hl.length hc]/\Bk wr gr 116 #[Y 0,Y 0,.bool false,Y 0]/\J [] w wr) (λD _=>q-(intOf D).toNat)
 case atStart=>exact⟨0,L_ _,rfl,rfl,k,m,s⟩
 clear k m s;obtain⟨b,hk,rfl,E,Q,P,F⟩:=hrel;have h:=O E;clear E;by_cases W:b<q
 .have H:b<cl.length:=by rw[<-I.out];exact W
  obtain⟨ad,off,U,bj,bn,bN,bR⟩:=(R.hF F).at_ H;subst U;have L:=R_ H;generalize cl[b]=ae at*;obtain⟨g,aC,xr,l⟩:=ae;simp only at bj bn bN bR;have i:=O L;clear L;have aH:=(F_ [] wr).alloc (.cells #[Y g,Y aC,.bool xr,Y l] 116);have G:Bk (wr.alloc (.cells #[Y g,Y aC,.bool xr,Y l] 116)) wr.heap.size 116 #[Y g,Y aC,.bool xr,Y l]:=P_ wr _ _;have ah:=(Q.hF aH).f_ 0;have z:=o.hF F;cases y:jw (hX hl) g aC with
  |none=>
   have M:=O (show kV (hX hl) cl=some ⟨g,aC,⟨xr,l⟩⟩ by rw[h.out,i.out,Ir];unfold yR;simp only[y]);go_wp2_with (go_at_call 148;have ap:=pT hA hc hl g aC (z.hF aH).os (z.hF aH).k8 aq y;refine ap.mono ?_;rintro e af⟨rfl,S⟩;have B:=((G.hF S).alloc (.cells #[.bool false,Y 0] 38));have j:=((P.hF aH).hF S).alloc (.cells #[.bool false,Y 0] 38);have V:=P_ af 38 #[.bool false,Y 0];have v0:=B.f_ 0;have v1:=B.f_ 1;have aQ:=B.f_ 2;have v3:=B.f_ 3;have aB:=V.f_ 0;have Np:=V.f_ 1;have b0:=j.f_ 0;have r1:=j.f_ 1;have r2:=j.f_ 2;have r3:=j.f_ 3;have s0:=j.hG 0;have s1:=j.hG 1;have aW:=j.hG 2;have cx:=j.hG 3);exact Jr
  |some v=>
   obtain⟨a,d⟩:=v;have HB:=O (show yR (hX hl) ⟨g,aC,⟨xr,l⟩⟩= !(a==xr&&d==l) by unfold yR;simp only[y]);cases C:(a==xr)with
   |false=>
    have M:=O (show kV (hX hl) cl=some ⟨g,aC,⟨xr,l⟩⟩ by rw[h.out,i.out,Ir];rw[HB.out,C];rfl);exact I2
   |true=>
    cases K:(d==l)with
    |false=>
     have M:=O (show kV (hX hl) cl=some ⟨g,aC,⟨xr,l⟩⟩ by rw[h.out,i.out,Ir];rw[HB.out,C,K];rfl);exact I2
    |true=>
     have M:=O (show kV (hX hl) cl=(cl.drop (b+1)).find? (yR (hX hl)) by rw[h.out,i.out,List.find?_cons_of_neg];rw[HB.out,C,K];decide);go_wp2_with (go_at_call 148;have ap:=oz hA hc hl g aC ⟨a,d⟩ (z.hF aH).os (z.hF aH).k8 aq y;refine ap.mono ?_;rintro e af⟨rfl,S⟩;have B:=((G.hF S).alloc (.cells #[.bool a,Y d] 38));have j:=((P.hF aH).hF S).alloc (.cells #[.bool a,Y d] 38);have V:=P_ af 38 #[.bool a,Y d];have aQ:=B.f_ 2;have v3:=B.f_ 3;have aB:=V.f_ 0;have Np:=V.f_ 1);go_roundw;exact⟨b+1,X,gn,M.out,((Q.hF aH).hF S).alloc _,j,((F.trans aH).trans S).alloc _⟩;exact mz
 have i:b=q:=X;have M:=O (show kV (hX hl) cl=none by rw[h.out,i,I.out,List.drop_length];rfl);have b0:=P.f_ 0;have r1:=P.f_ 1;have r2:=P.f_ 2;have r3:=P.f_ 3;have s0:=P.hG 0;have s1:=P.hG 1;have aW:=P.hG 2;have cx:=P.hG 3;go_wp2;refine Gu (v:=.tuple #[.agg #[Y 0,Y 0,.bool false,Y 0],.bool false]) (iE (p:=4) (u:=5) rfl rfl (((((P.hU 0 (Y 0)).hU 1 (Y 0)).hU 2 (.bool false)).hU 3 (Y 0))) underlying116 rfl k_) rfl ?_;rw[M.out];exact⟨rfl,(((F.setCell (p:=(Z gr 0)) (.inr bM) _).setCell (p:=(Z gr 1)) (.inr bM) _).setCell (p:=(Z gr 2)) (.inr bM) _).setCell (p:=(Z gr 3)) (.inr bM) _⟩
def rR(o:mE w hA hc hl)(y:hl.length<=1000000000)(C:lm w t)(z:t.rs.l.length<=1000000000):
 Calls prog 150 #[.agg #[.slice hA hl.length hc],.agg t.g_] w λe w'=>∃(E b:Int) (r:Bool) (n:Int),e=.returned (.tuple #[.agg #[Y E,Y b,.bool r,Y n],.bool (kV (hX hl) t.rs.l).isNone])/\J [] w w':=by
 obtain⟨q,i,f,Nv⟩:=w6 w 35 #[.slice hA hl.length hc] 53 t.g_ 116 #[Y 0,Y 0,.bool false,Y 0];go_enter func150,ntmps150;go_upto_region 1 with fail;obtain⟨K,B⟩:=nm_ (((w.alloc (.cells #[.slice hA hl.length hc] 35)).alloc (.cells t.g_ 53)).alloc (.cells #[Y 0,Y 0,.bool false,Y 0] 116));rw[<-B]at q i f Nv |-;clear B;obtain⟨V,k⟩:=nm_ w.heap.size;obtain⟨gt,j⟩:=nm_ (w.heap.size+1);obtain⟨gr,h⟩:=nm_ (w.heap.size+1+1);rw[<-h]at f;rw[<-j]at i;rw[<-k]at q;rw[<-h,<-j,<-k];have bM:w.heap.size<=gr:=X;clear k h j;have U:=q.f_ 0;have c:K.cell? (Z gt 37)=some (.slice t.rs.A t.rs.l.length t.rs.c):=(i.f_ 37).trans rfl
 cases aV:kV (hX hl) t.rs.l with
 |none=>
  obtain⟨x,s⟩:=mn_ ((none:Option Cl).getD default);go_wp2_with (go_at_call 181;((with_reducible refine(ui hA hc hl t.rs.A t.rs.c t.rs.l (o.hF Nv) y (C.hF Nv).rs z).mono ?_);rw[aV,s];rintro e m⟨rfl,S⟩;have a:=(f.hF S).alloc (.cells #[Y x.id,Y x.f,.bool x.v.r,Y x.v.n] 116);have d:=P_ m 116 #[Y x.id,Y x.f,.bool x.v.r,Y x.v.n];have F:=d.f_ 0;have D:=d.f_ 1;have g:=d.f_ 2;have M:=d.f_ 3;have I:=a.f_ 0;have N:=a.f_ 1;have O:=a.f_ 2;have P:=a.f_ 3;have Q:=a.hG 0;have R:=a.hG 1;have H:=a.hG 2;have L:=a.hG 3));refine Gu (v:=.tuple #[.agg #[Y x.id,Y x.f,.bool x.v.r,Y x.v.n],.bool true]) (iE (p:=4) (u:=5) rfl rfl (((((a.hU 0 (Y x.id)).hU 1 (Y x.f)).hU 2 (.bool x.v.r)).hU 3 (Y x.v.n))) underlying116 rfl k_) rfl ?_;exact Ka
 |some T=>
  obtain⟨x,s⟩:=mn_ ((some T:Option Cl).getD default);go_wp2_with (go_at_call 181;((with_reducible refine(ui hA hc hl t.rs.A t.rs.c t.rs.l (o.hF Nv) y (C.hF Nv).rs z).mono ?_);rw[aV,s];rintro e m⟨rfl,S⟩;have a:=(f.hF S).alloc (.cells #[Y x.id,Y x.f,.bool x.v.r,Y x.v.n] 116);have d:=P_ m 116 #[Y x.id,Y x.f,.bool x.v.r,Y x.v.n];have F:=d.f_ 0;have D:=d.f_ 1;have g:=d.f_ 2;have M:=d.f_ 3;have I:=a.f_ 0;have N:=a.f_ 1;have O:=a.f_ 2;have P:=a.f_ 3;have Q:=a.hG 0;have R:=a.hG 1;have H:=a.hG 2;have L:=a.hG 3));refine Gu (v:=.tuple #[.agg #[Y x.id,Y x.f,.bool x.v.r,Y x.v.n],.bool false]) (iE (p:=4) (u:=5) rfl rfl (((((a.hU 0 (Y x.id)).hU 1 (Y x.f)).hU 2 (.bool x.v.r)).hU 3 (Y x.v.n))) underlying116 rfl k_) rfl ?_;exact Ka
