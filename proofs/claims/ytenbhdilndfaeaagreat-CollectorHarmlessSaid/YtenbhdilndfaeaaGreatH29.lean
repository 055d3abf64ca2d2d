import Derived.Test.YtenbhdilndfaeaaGreatH27
set_option maxRecDepth 100000
set_option maxHeartbeats 0
set_option linter.all false
namespace Go.Proofs.YtenbhdilndfaeaaGreat
open Go.RowKit Go.Proofs.Tryz
section
variable{G:Prop}{w:World}{g:Nat}(A:OA)(c:Nat)(l:QR)(hH:Int)(hA:OA)(hC:Int)(hc:Nat)(hl:QT)(t:Tk)
def Jw(h:G:=by
 go_wp2_with (go_at_call 148;have ad:=oK hA hc hl g aD ⟨a,h⟩ (D.hF aJ).os (D.hF aJ).ll bE y;refine ad.mono ?_;rintro e ae⟨rfl,S⟩;have z:=((L.hF S).alloc<|.cells #[.bool a,Y h] 38);have j:=((E.hF aJ).hF S).alloc<|.cells #[.bool a,Y h] 38;have ar:=T_ ae 38 #[.bool a,Y h];have v0:=z.f_ 0;have v1:=z.f_ 1;have bn:=z.f_ 2;have v3:=z.f_ 3;have ah:=ar.f_ 0;have N3:=ar.f_ 1;have bQ:=j.f_ 0;have r1:=j.f_ 1;have r2:=j.f_ 2;have r3:=j.f_ 3;have s0:=j.hG 0;have s1:=j.hG 1;have bT:=j.hG 2;have cj:=j.hG 3);exact JW):G:=h
def JW(h:G:=by
 refine Ha (v:=.tuple #[.agg #[Y g,Y aD,.bool xr,Y l],.bool true]) (iI (p:=4) (u:=5) rfl rfl (((((j.hW 0<|Y g).hW 1<|Y aD).hW 2<|.bool xr).hW 3<|Y l)) underlying116 rfl k_) rfl ?_;rw[aL.out];exact⟨rfl,((((((F.trans aJ).trans S).alloc _).setCell (p:=(Z gr 0)) (.inr a2) _).setCell (p:=(Z gr 1)) (.inr a2) _).setCell (p:=(Z gr 2)) (.inr a2) _).setCell (p:=(Z gr 3)) (.inr a2) _⟩):G:=h
def Kc(h:G:=by
 have aR:=s.f_ 0;have bz:=E.hG 0;have bq:=E.f_ 0;go_wp2;have M:J [gr] wr (wr.setCell (Z gr 0)<|.slice A' rs.length c'):=(G_ [gr] wr).setCell (.inl s_) _;refine rr_ #[.slice A' rs.length c'] (E.hW 0<|.slice A' rs.length c') underlying35 ⟨A',c',rs,rfl,b.iy E I I M,?_,F.jT M a2⟩;rw[q.out,aL.out]):G:=h
def KG(h:G:=by
 rw[aW];exact⟨x.id,x.f,x.v.r,x.v.n,rfl,(((((N2.trans S).alloc _).setCell (p:=(Z gr 0)) (.inr a2) _).setCell (p:=(Z gr 1)) (.inr a2) _).setCell (p:=(Z gr 2)) (.inr a2) _).setCell (p:=(Z gr 3)) (.inr a2) _⟩):G:=h
def Ln(h:G:=by
 go_wp2;all_goals go_ret
 all_goals exact⟨N1,aV,xs,by rw[<-ae.out];rfl,(by unfold Ns;rw[<-ae.out];exact Sl.iZ<|iO am<|G_ [] wr),(ov ae.out),R,F⟩):G:=h
def uT{P:Program}{ops:Array Oper}{rest:QZ}{b:Oper}{a:Act}{Q:Exit->Act->World->Prop}(k:b.guard=none){l c:Operand}{t:TypeId}(r:b.op=.makeSlice t l c)(e:TypeId)(i:TypeInfo){z:Value}(d bytes:Nat)(s:P.underlying t=some (.slice e))(o:P.info? e=some i)(u:i.zero=some z)(q:i.size=d)(p:i.bytes=bytes)(C f:IntKind)(n:Nat)(hl:a.eval l=.int C (n:Int))(hc:a.eval c=.int f (n:Int))(m:(bytes:Int)*(n:Int)<=281474976710656)(x:n<=1000000000)(h:wpList P ops Q rest (a.put b.dst<|.slice (j_ w.heap.size) n n)<|w.alloc<|.cells (madeCells z.cells<|n*d) e):wpList P ops Q (b::rest) a w:=
 wpList_step λv j=>u_ (w:=w) k l c t r e i z d bytes s o u q p C f (n:Int) hl hc X m X<|j _ _<|zu h
def sn(n:Nat)(v:Vl)(h:Bk w g 38<|((madeCells #[.bool false,Y 0]<|(n+1)*2).setIfInBounds 0<|.bool v.r).setIfInBounds 1<|Y v.n):Vs w (j_ g) (v::List.replicate n default):=by
 have p:(madeCells #[Value.bool false,Y 0]<|(n+1)*2).size=(n+1)*2:=size_madeCells _ _;refine⟨by rw[l3],λ_=>⟨g,0,_,(0,0),rfl,h,?_⟩⟩;intro a o d;rw[U_];by_cases i:a=0
 .subst i;rw[HW I,Jb X];exact d
 by_cases j:a=1
 .subst j;rw[Jb p_];exact d
 rw[HW X,HW X];have f:a<(n+1)*2:=by
  have:=(Ie.1 d).1;rw[l3,GI,Hm]at this;exact this
 rw[oN _ f];have k:a=(a / 2)*2+a % 2:=X;have b:(jo<|v::List.replicate n default)[(a / 2)*2+a % 2]?=(Vl.E default)[a % 2]?:=by
  unfold jo;rw[j7 Vl.E (λ_=>rfl) _ (a / 2) (a % 2) (by rw[GI,Hm];omega) X];have:(v::List.replicate n (default:Vl))[a / 2]'(by rw[GI,Hm];omega)=default:=by
   obtain⟨e,m⟩:∃e,a / 2=e+1:=⟨a / 2-1,X⟩;simp only[m,Iq,I3]
  rw[this]
 rw[<-k,d]at b;show some ((#[Value.bool false,Value.int .i64 0])[a % 2]!)=some o;rcases Ix a with h|h
 rw[h]at b |-;exact b.symm
 rw[h]at b |-;exact b.symm
abbrev mZ_:Array Value:=#[n_,Y 0,.bool false,Y 0,.bool false,Y 0,.bool false,Y 0,.bool false,Y 0,.bool false,Y 0,.bool false,Y 0,.bool false,Y 0,.bool false,Y 0,.bool false,Y 0,.bool false,Y 0,.bool false,Y 0,.bool false,Y 0,.bool false,Y 0,.bool false,Y 0,.bool false,Y 0,.bool false,Y 0,Y 0,Y 0,n_,.bool false,.bool false,.bool false,Y 0,Y 0]
def mX(h:Value)(nx:Int):Array Value:=#[h,Y 0,.bool false,Y 0,.bool false,Y 0,.bool false,Y 0,.bool false,Y 0,.bool false,Y 0,.bool false,Y 0,.bool false,Y 0,.bool false,Y 0,.bool false,Y 0,.bool false,Y 0,.bool false,Y 0,.bool false,Y 0,.bool false,Y 0,.bool false,Y 0,.bool false,Y 0,.bool false,Y 0,Y nx,Y 0,n_,.bool false,.bool false,.bool false,Y 0,Y 0]
def ob{A:OA}{n c:Nat}{a:Int}:(mX (.slice A n c) a).all (·.oneCell')=true:=by unfold mX;simp[Value.oneCell']
def startHeap(hH:Int):List Ob:=[⟨1,⟨true,2⟩::List.replicate 2 default⟩,⟨2,⟨true,0⟩::List.replicate (2+hH.toNat) default⟩]
def xM(ok:Bool)(hH:Int)(w:World)(e:Ending)(w':World):Prop:=
 ∃(A:OA) (c:Nat) (rs:QT),e=.returned (.tuple #[.agg #[.slice A rs.length c,Y 0,.bool false,Y 0,.bool false,Y 0,.bool false,Y 0,.bool false,Y 0,.bool false,Y 0,.bool false,Y 0,.bool false,Y 0,.bool false,Y 0,.bool false,Y 0,.bool false,Y 0,.bool false,Y 0,.bool false,Y 0,.bool false,Y 0,.bool false,Y 0,.bool false,Y 0,.bool false,Y 0,Y (if ok=true then 3 else 0),Y 0,n_,.bool false,.bool false,.bool false,Y 0,Y 0],Y (if ok=true then 0 else 1)])/\mh w' A c rs/\hY rs=(if ok=true then startHeap hH else[])/\J [] w w'
def wG(w:World)(h:Is w A l)(q:l.length<=1000000000)(s:ih l hH hC=false):
 Calls prog 91 #[.agg #[.slice A l.length c,Y hH,Y hC]] w (xM false hH w):=by
 obtain⟨b,d,a⟩:=qU w 26 #[.slice A l.length c,Y hH,Y hC] 154 mZ_;go_enter func91,ntmps91;go_upto_region 1 with fail;obtain⟨B,i⟩:=nm_<|(w.alloc<|.cells #[.slice A l.length c,Y hH,Y hC] 26).alloc<|.cells mZ_ 154;rw[<-i]at b d a |-;clear i;obtain⟨n,f⟩:=nm_ w.heap.size;obtain⟨k,e⟩:=nm_<|w.heap.size+1;rw[<-e]at d;rw[<-f]at b;rw[<-e,<-f];have o:w.heap.size<=k:=X;have u:n≠k:=X;clear f e;have x:=b.f_ 0;have y:=b.f_ 1;have z:=b.f_ 2
 go_wp2_with (first|((go_at_call 92;have j:=iY A c l hH hC (h.hF a) q;rw[s]at j;refine j.mono ?_;rintro C E⟨rfl,m⟩);replace d:=d.hF m;replace a:=a.trans m)|(refine k6 (mX (n_) 0) d (ob) ?_;intro v p G));exact me (mX (n_) 0) (Y 1) p underlying154 ⟨none,0,[],rfl,⟨HB _ _ _ _,(λD r=>by cases r),I_ _⟩,rfl,a.jT G o⟩
def x9(v:Nat)(hC:Int)(w:World)(h:Is w A l)(hn:l.length<=1000000000)(hv:ih l (v:Int) hC=true)(aQ:v<=64):
 Calls prog 91 #[.agg #[.slice A l.length c,Y (v:Int),Y hC]] w (xM true (v:Int) w):=by
 obtain⟨ap,aB,aO,W,bt⟩:=info_parts infoVl;obtain⟨j,d,i⟩:=qU w 26 #[.slice A l.length c,Y (v:Int),Y hC] 154 mZ_;go_enter func91,ntmps91;go_upto_region 1 with fail;obtain⟨bw,ae⟩:=nm_<|(w.alloc<|.cells #[.slice A l.length c,Y (v:Int),Y hC] 26).alloc<|.cells mZ_ 154;rw[<-ae]at j d i |-;clear ae;obtain⟨H,Q⟩:=nm_ w.heap.size;obtain⟨s,M⟩:=nm_<|w.heap.size+1;rw[<-M]at d;rw[<-Q]at j;rw[<-M,<-Q];have a2:w.heap.size<=s:=X;have ag:H≠s:=X;clear Q M;have ah:=j.f_ 0;have O:=j.f_ 1;have ay:=j.f_ 2
 go_upto_region 3 with(go_at_call 92;have ad:=iY A c l (v:Int) hC (h.hF i) hn;rw[hv]at ad;refine ad.mono ?_;rintro E e⟨rfl,F⟩);replace j:=j.hF F;replace d:=d.hF F;replace i:=i.trans F;have D:=i.size;have g:s≠e.heap.size/\s≠e.heap.size+1/\H≠e.heap.size:=by have h1:=d.lt;have h2:=j.lt;omega
 clear F ah O ay;go_upto_region 4 with(at_make;refine uT rfl rfl 38 ap 2 16 underlying54 aB aO W bt .i64 .i64 3 r_ r_ X X ?_);have m:Bk ((e.alloc<|.cells (madeCells #[.bool false,Y 0]<|3*2) 38).alloc<|.cells #[Y 1,.slice (j_ e.heap.size) 3 3] 56) e.heap.size 38 (madeCells #[.bool false,Y 0]<|(2+1)*2):=(T_ e 38<|madeCells #[.bool false,Y 0]<|(2+1)*2).alloc<|.cells #[Y 1,.slice (j_ e.heap.size) 3 3] 56;obtain⟨-,k,-⟩:=qU e 38 (madeCells #[.bool false,Y 0]<|3*2) 56 #[Y 1,.slice (j_ e.heap.size) 3 3];replace j:=(j.alloc<|.cells (madeCells #[.bool false,Y 0]<|3*2) 38).alloc<|.cells #[Y 1,.slice (j_ e.heap.size) 3 3] 56;replace d:=(d.alloc<|.cells (madeCells #[.bool false,Y 0]<|3*2) 38).alloc<|.cells #[Y 1,.slice (j_ e.heap.size) 3 3] 56;replace i:=(i.alloc<|.cells (madeCells #[.bool false,Y 0]<|3*2) 38).alloc<|.cells #[Y 1,.slice (j_ e.heap.size) 3 3] 56;have ai:w.heap.size<=e.heap.size:=by have:=d.lt;have:=D;omega
 have C:s≠e.heap.size/\s≠e.heap.size+1/\H≠e.heap.size:=g;clear g D;obtain⟨N,av⟩:=nm_<|(e.alloc<|.cells (madeCells #[.bool false,Y 0]<|3*2) 38).alloc<|.cells #[Y 1,.slice (j_ e.heap.size) 3 3] 56;rw[<-av]at m k j d i |-;clear av;obtain⟨V,t⟩:=nm_<|e.heap.size+1;rw[<-t]at k C |-;have al:V≠e.heap.size:=X;have am:w.heap.size<=V:=X;clear t;generalize e.heap.size=a at*;have T:N.cell? (Z a 0)=some (.bool false):=(m.f_ 0).trans<|oN 0 I;have U:N.cell? (Z a 1)=some (Y 0):=(m.f_ 1).trans<|oN 1 I;have P:=m.hG 0;have R:=m.hG 1;have L:=k.f_ 1
 go_upto_region 5 with fail;have B:=(m.hW 0<|.bool true).hW 1<|Y 2;have o:=sn 2 ⟨true,2⟩ B;replace k:=(k.ir (p:=(Z a 0)) al<|.bool true).ir (p:=(Z a 1)) al<|Y 2;replace j:=(j.ir (p:=(Z a 0)) C.2.2<|.bool true).ir (p:=(Z a 1)) C.2.2<|Y 2;replace d:=(d.ir (p:=(Z a 0)) C.1<|.bool true).ir (p:=(Z a 1)) C.1<|Y 2;replace i:=(i.setCell (p:=(Z a 0)) (.inr ai)<|.bool true).setCell (p:=(Z a 1)) (.inr ai)<|Y 2;clear m B T U P R L;obtain⟨f,aN⟩:=nm_<|(N.setCell (Z a 0)<|.bool true).setCell (Z a 1)<|Y 2;rw[<-aN]at o k j d i |-;clear aN;have O:=j.f_ 1;have D:=i.size
 have g:s≠f.heap.size/\s≠f.heap.size+1/\V≠f.heap.size/\a≠f.heap.size:=by
  have h1:=d.lt;have h2:=k.lt;refine⟨X,X,X,?_⟩;intro he;rcases GU a f.heap.size with h3|h3
  omega;obtain⟨an,off,hA,hc⟩:=Sl.f_ o s_;injection hA with hA;injection hA with y;have ax:=hc 0 (.bool true) rfl;have ar:=zm ax;simp only at ar;omega
 go_upto_region 6 with(at_make;refine uT rfl rfl 38 ap 2 16 underlying54 aB aO W bt .i64 .i64 (3+v) r_ r_ X X ?_);have m:Bk ((f.alloc<|.cells (madeCells #[.bool false,Y 0]<|(3+v)*2) 38).alloc<|.cells #[Y 2,.slice (j_ f.heap.size) (3+v)<|3+v] 56) f.heap.size 38 (madeCells #[.bool false,Y 0]<|(2+v+1)*2):=by
  have E:3+v=2+v+1:=X;have q:=(T_ f 38<|madeCells #[.bool false,Y 0]<|(3+v)*2).alloc<|.cells #[Y 2,.slice (j_ f.heap.size) (3+v)<|3+v] 56;rw[<-E];exact q
 obtain⟨-,r,-⟩:=qU f 38 (madeCells #[.bool false,Y 0]<|(3+v)*2) 56 #[Y 2,.slice (j_ f.heap.size) (3+v)<|3+v];replace k:=(k.alloc<|.cells (madeCells #[.bool false,Y 0]<|(3+v)*2) 38).alloc<|.cells #[Y 2,.slice (j_ f.heap.size) (3+v)<|3+v] 56;replace o:=(o.alloc<|.cells (madeCells #[.bool false,Y 0]<|(3+v)*2) 38).alloc<|.cells #[Y 2,.slice (j_ f.heap.size) (3+v)<|3+v] 56;replace d:=(d.alloc<|.cells (madeCells #[.bool false,Y 0]<|(3+v)*2) 38).alloc<|.cells #[Y 2,.slice (j_ f.heap.size) (3+v)<|3+v] 56;replace i:=(i.alloc<|.cells (madeCells #[.bool false,Y 0]<|(3+v)*2) 38).alloc<|.cells #[Y 2,.slice (j_ f.heap.size) (3+v)<|3+v] 56;clear j O;obtain⟨u,aE⟩:=nm_<|(f.alloc<|.cells (madeCells #[.bool false,Y 0]<|(3+v)*2) 38).alloc<|.cells #[Y 2,.slice (j_ f.heap.size) (3+v)<|3+v] 56;rw[<-aE]at m k r o d i |-;clear aE;obtain⟨ao,aq⟩:=nm_<|f.heap.size+1;rw[<-aq]at r g |-;have au:ao≠f.heap.size:=X;clear aq;generalize f.heap.size=b at*;have T:u.cell? (Z b 0)=some (.bool false):=(m.f_ 0).trans<|oN 0 X;have U:u.cell? (Z b 1)=some (Y 0):=(m.f_ 1).trans<|oN 1 X;have P:=m.hG 0;have R:=m.hG 1;have L:=r.f_ 1;have aT:(0:Int)<3+(v:Int):=X
 go_upto_region 7 with fail;have B:=(m.hW 0<|.bool true).hW 1<|Y 0;have bD:=sn (2+v) ⟨true,0⟩ B;have z:J [b] u ((u.setCell (Z b 0)<|.bool true).setCell (Z b 1)<|Y 0):=((G_ [b] u).setCell (p:=(Z b 0)) (.inl s_)<|.bool true).setCell (p:=(Z b 1)) (.inl s_)<|Y 0;replace k:=k.gr z<|zu g.2.2.1;replace r:=r.gr z<|zu au;replace d:=d.gr z<|zu g.1;replace o:Vs ((u.setCell (Z b 0)<|.bool true).setCell (Z b 1)<|Y 0) (j_ a) (⟨true,2⟩::List.replicate 2 default):=Sl.iF o (λan off y _=>by
  injection y with y;injection y with y;exact z.block an (by assumption)<|by rw[<-y];simpa using g.2.2.2)
 replace i:=i.jT z D;clear m B T U P R L z;obtain⟨n,bG⟩:=nm_<|(u.setCell (Z b 0)<|.bool true).setCell (Z b 1)<|Y 0;rw[<-bG]at o bD k r d i |-;clear bG;have p0:=k.f_ 0;have p1:=k.f_ 1;have bq:=r.f_ 0;have aY:=r.f_ 1;have x:J [] n (n.alloc<|.cells #[Y 1,.slice (j_ a) 3 3,Y 2,.slice (j_ b) (3+v)<|3+v] 56):=(G_ [] n).alloc _;have hB:=T_ n 56 #[Y 1,.slice (j_ a) 3 3,Y 2,.slice (j_ b) (3+v)<|3+v]
 go_wp2_with (refine k6 (mX (.slice (j_ n.heap.size) 2 2) 3) (d.hF x) (ob) ?_;intro K az G);have aw:J [] n K\/True:=.inr trivial;clear aw;have aA:nv K [(⟨⟨1,⟨true,2⟩::List.replicate 2 default⟩,some<|Z a 0,3⟩:Rw),(⟨⟨2,⟨true,0⟩::List.replicate (2+v) default⟩,some<|Z b 0,3+v⟩:Rw)]:=by
  intro aC S;have hk:=(d.hF x);rcases N_.1 S with rfl|S
  exact⟨Sl.iy (o.hF x) hk I G,by show(3:Nat)<=1000000000;decide⟩;have:aC=(⟨⟨2,⟨true,0⟩::List.replicate (2+v) default⟩,some<|Z b 0,3+v⟩:Rw):=zu S;subst this;exact⟨Sl.iy (bD.hF x) hk I G,by show(⟨true,0⟩::List.replicate (2+v) (default:Vl)).length<=1000000000;simp;omega⟩
 have N1:Os K (j_ n.heap.size) [(⟨⟨1,⟨true,2⟩::List.replicate 2 default⟩,some<|Z a 0,3⟩:Rw),(⟨⟨2,⟨true,0⟩::List.replicate (2+v) default⟩,some<|Z b 0,3+v⟩:Rw)]:=by
  have E:jw [(⟨⟨1,⟨true,2⟩::List.replicate 2 default⟩,some<|Z a 0,3⟩:Rw),(⟨⟨2,⟨true,0⟩::List.replicate (2+v) default⟩,some<|Z b 0,3+v⟩:Rw)]=(#[Y 1,.slice (j_ a) 3 3,Y 2,.slice (j_ b) (3+v)<|3+v]:Array Value).toList:=by
   simp[jw,Rw.E];omega
  have q:Sl (n.alloc<|.cells #[Y 1,.slice (j_ a) 3 3,Y 2,.slice (j_ b) (3+v)<|3+v] 56) 56 2 (j_ n.heap.size) 2 (jw [(⟨⟨1,⟨true,2⟩::List.replicate 2 default⟩,some<|Z a 0,3⟩:Rw),(⟨⟨2,⟨true,0⟩::List.replicate (2+v) default⟩,some<|Z b 0,3+v⟩:Rw)]):=by
   rw[E];exact⟨rfl,λ_=>⟨n.heap.size,0,_,(0,0),rfl,hB,λaD aF hu=>by rw[U_];simpa using hu⟩⟩
  exact Sl.iy q (d.hF x) I G
 exact me (mX (.slice (j_ n.heap.size) 2 2) 3) (Y 0) az underlying154 ⟨some<|Z n.heap.size 0,2,[(⟨⟨1,⟨true,2⟩::List.replicate 2 default⟩,some<|Z a 0,3⟩:Rw),(⟨⟨2,⟨true,0⟩::List.replicate (2+v) default⟩,some<|Z b 0,3+v⟩:Rw)],rfl,⟨N1,aA,I_ _⟩,rfl,(i.trans x).jT G a2⟩
def su(h:Is w A l)(e:l.length<=1000000000):
 Calls prog 91 #[.agg #[.slice A l.length c,Y hH,Y hC]] w (xM (ih l hH hC) hH w):=by
 cases a:ih l hH hC with
 |false=>exact wG A c l hH hC w h e a
 |true=>
  have d:=a;unfold ih at d;simp only[G4,HH]at d;obtain⟨b,rfl⟩:∃b:Nat,hH=b:=⟨hH.toNat,X⟩;exact x9 A c l b hC w h e a X
structure Cm where
 h:Sv Rw
 hT:Int
 jC:Int
 ia:Sv Ac
 jO:Bool
 hX:Bool
 v:Vl
 iW:Int
 hK:Int
def Cm.g_(s:Cm):Array Value:=#[.slice s.h.A s.h.l.length s.h.c,Y s.hT,Y s.jC,.slice s.ia.A s.ia.l.length s.ia.c,.bool s.jO,.bool s.hX,.bool s.v.r,Y s.v.n,Y s.iW,Y s.hK]
def Cm.one(s:Cm):s.g_.all (·.oneCell')=true:=by unfold Cm.g_;simp[Value.oneCell']
structure qB where
 h:List Ob
 hT:Int
 jC:Int
 ia:List Ac
 jO:Bool
 hX:Bool
 v:Vl
 iW:Int
 hK:Int
def Cm.p(s:Cm):qB:=⟨hY s.h.l,s.hT,s.jC,s.ia.l,s.jO,s.hX,s.v,s.iW,s.hK⟩
structure mi(w:World)(s:Cm):Prop where
 h:mh w s.h.A s.h.c s.h.l
 ia:As w s.ia.A s.ia.l
 qf:s.ia.ok
def mi.hF{w':World}{s:Cm}(h:mi w s)(a:J [] w w'):mi w' s:=⟨h.h.hF a,h.ia.hF a,h.qf⟩
def mi.iy{w':World}{s:Cm}{a:TypeId}{cs:Array Value}(h:mi w s)(e:Bk w g a cs)(b:56≠a/\38≠a/\162≠a)(d:J [g] w w'):mi w' s:=⟨h.h.iy e b.1 b.2.1 d,Sl.iy h.ia e b.2.2 d,h.qf⟩
def Cm.zero:Cm:=⟨.nil,0,0,.nil,false,false,default,0,0⟩
def mi.zero(w:World)(s:Cm)(a:s.h=.nil)(b:s.ia=.nil):mi w s:=by
 obtain⟨f,G,h,i,j,e,n,m,k⟩:=s;simp only at a b;subst a;subst b;exact⟨⟨HB _ _ _ _,λo d=>by simp[Sv.nil]at d,I_ _⟩,HB _ _ _ _,I_ _⟩
def vF(P:qB)(n:Int)(w:World)(e:Ending)(w':World):Prop:=∃s:Cm,e=.returned (.tuple #[.agg s.g_,Y n])/\mi w' s/\s.p=P/\J [] w w'
def th(ok:Bool)(hH:Int):qB:=if ok=true then{Cm.zero.p with h:=startHeap hH} else Cm.zero.p
def xz(h:Is w A l)(E:l.length<=1000000000):
 Calls prog 47 #[.agg #[.slice A l.length c,Y hH,Y hC]] w (vF (th (ih l hH hC) hH) (if ih l hH hC=true then 0 else 1) w):=by
 obtain⟨o,k,m⟩:=qU w 26 #[.slice A l.length c,Y hH,Y hC] 40 #[n_,Y 0,Y 0,n_,.bool false,.bool false,.bool false,Y 0,Y 0,Y 0];go_enter func47,ntmps47;go_upto_region 1 with fail;obtain⟨Q,z⟩:=nm_<|(w.alloc<|.cells #[.slice A l.length c,Y hH,Y hC] 26).alloc<|.cells #[n_,Y 0,Y 0,n_,.bool false,.bool false,.bool false,Y 0,Y 0,Y 0] 40;rw[<-z]at o k m |-;clear z;obtain⟨M,v⟩:=nm_ w.heap.size;obtain⟨y,r⟩:=nm_<|w.heap.size+1;rw[<-r]at k;rw[<-v]at o;rw[<-r,<-v];have B:w.heap.size<=y:=X;clear v r;have N:=o.f_ 0;have O:=o.f_ 1;have P:=o.f_ 2
 cases F:ih l hH hC with
 |false=>
  go_wp2_with (first|(go_at_call 91;have n:=su A c l hH hC (h.hF m) E;rw[F]at n;refine n.mono ?_;unfold xM;rintro x b⟨d,e,a,f,H,D,i⟩;have f:x=.returned (.tuple #[.agg<|mX (.slice d a.length e) 0,Y 1]):=f;subst f)|(refine k6 (mX (.slice d a.length e) 0) (T_ b 154 mZ_) (ob) ?_;intro q u p;have L:q.cell? (Z b.heap.size 0)=some (.slice d a.length e):=(u.f_ 0).trans rfl)|(refine lL rfl 40 _ _ rfl (y) r_ (Cm.zero.g_) r_ 40 _ ((k.hF i).hF<|((G_ [] b).alloc _).jT p<|I_ _) r_ k_ (Cm.one _) ?_;intro K s G));all_goals (
   have j:J [] b q:=((G_ [] b).alloc _).jT p<|I_ _;have C:=(k.hF i).hF j;exact me Cm.zero.g_ (Y 1) s underlying40 ⟨Cm.zero,rfl,mi.zero _ _ rfl rfl,rfl,((m.trans i).trans j).jT G B⟩)
 |true=>
  go_wp2_with (first|(go_at_call 91;have n:=su A c l hH hC (h.hF m) E;rw[F]at n;refine n.mono ?_;unfold xM;rintro x b⟨d,e,a,f,H,D,i⟩;have f:x=.returned (.tuple #[.agg<|mX (.slice d a.length e) 3,Y 0]):=f;subst f)|(refine k6 (mX (.slice d a.length e) 3) (T_ b 154 mZ_) (ob) ?_;intro q u p;have L:q.cell? (Z b.heap.size 0)=some (.slice d a.length e):=(u.f_ 0).trans rfl)|(refine lL rfl 40 _ _ rfl (y) r_ (({Cm.zero with h:=⟨d,e,a⟩}:Cm).g_) r_ 40 _ ((k.hF i).hF<|((G_ [] b).alloc _).jT p<|I_ _) r_ k_ (Cm.one _) ?_;intro K s G));all_goals (
   have j:J [] b q:=((G_ [] b).alloc _).jT p<|I_ _;have C:=(k.hF i).hF j;exact me ({Cm.zero with h:=⟨d,e,a⟩}:Cm).g_ (Y 0) s underlying40 ⟨({Cm.zero with h:=⟨d,e,a⟩}:Cm),rfl,⟨(H.hF j).iy C I I G,HB _ _ _ _,I_ _⟩,by unfold th;rw[L_ rfl,<-show hY a=startHeap hH from D];rfl,((m.trans i).trans j).jT G B⟩)
def lu(c:QR)(hH hC:Int)(d:QS)(t:iP)(view:QQ):(iT c hH hC d t view).run=t.run:=by
 unfold iT;simp only;split
 .rfl
 split
 .rfl
 split;rfl;rename_i b a;have:=(li a).run;split
 .exact this
 split;exact this;exact this
def oB(c:QR)(hH hC:Int)(d:QS)(view:QQ):Nat->iP->iP
 |0,t=>t
 |n+1,t=>if t.h5=0 then oB c hH hC d view n (iT c hH hC d t view) else t
def BC(c:QR)(hH hC:Int)(d:QS)(view:QQ)(t:iP):iP:=oB c hH hC d view (todo c t+1) t
def zW{c:QR}{hH hC:Int}{d:QS}{view:QQ}(n:Nat){t:iP}(h:t.h5≠0):oB c hH hC d view n t=t:=by
 cases n with
 |zero=>rfl
 |succ n=>unfold oB;rw[K_ h]
def B4(w:World)(g i:Nat):Int:=match w.cell? (Z g i)with
 |some (.int _ n)=>n
 |_=>0
def vX{i:Nat}{k:IntKind}{n:Int}(h:w.cell? (Z g i)=some (.int k n)):B4 w g i=n:=by unfold B4;rw[h]
def left(l:QR)(g:Nat)(w:World):Nat:=if B4 w g 42=0 then(64-B4 w g 47).toNat*(l.length+3)+px l (B4 w g 3)+1 else 0
def left_of{l:QR}{t:Tk}(h:Bk w g 53 t.g_):left l g w=if t.h5=0 then todo l t.p+1 else 0:=by
 unfold left;rw[vX<|(h.f_ 42).trans rfl,vX<|(h.f_ 47).trans rfl,vX<|(h.f_ 3).trans rfl];rfl
def zX(m:OA)(y:Nat)(d:QS)(t:Tk)(o:OA)(vc:Nat)(b:QT)(ag:Is w A l)(hn:l.length<=1000000000)(hD:Ns w 3 m d)(hd:d.length<=1000000000)(ht:kV w t)(hv:mh w o vc b)(E:rz l hH hC d=true)(b9:b.length<=99999999)(bF:0<=t.run)(bB:t.run<=1099511627776)(aI:t.h5=0->Way l t.p):
 Calls prog 50 #[.agg #[.slice A l.length c,Y hH,Y hC],.agg #[.slice m d.length y],.agg t.g_,.agg #[.slice o b.length vc]] w (lp (BC l hH hC d (hY b) t.p) 0 w):=by
 have ar:=by unfold rz at E;simp only[G4]at E;exact E.2
 have cg:=M9;obtain⟨N,F⟩:=mn_<|BC l hH hC d (hY b) t.p;rw[F];unfold BC at F;obtain⟨j,s,e,u,k,C⟩:=Gh w 26 #[.slice A l.length c,Y hH,Y hC] 32 #[.slice m d.length y] 53 t.g_ 35 #[.slice o b.length vc] 53 ks;go_enter func50,ntmps50;go_upto_region 1 with fail;obtain⟨bw,ah⟩:=nm_<|((((w.alloc<|.cells #[.slice A l.length c,Y hH,Y hC] 26).alloc<|.cells #[.slice m d.length y] 32).alloc<|.cells t.g_ 53).alloc<|.cells #[.slice o b.length vc] 35).alloc<|.cells ks 53;rw[<-ah]at j s e u k C |-;obtain⟨M,U⟩:=nm_ w.heap.size;obtain⟨R,S⟩:=nm_<|w.heap.size+1;obtain⟨gt,T⟩:=nm_<|w.heap.size+1+1;obtain⟨L,Q⟩:=nm_<|w.heap.size+1+1+1;obtain⟨gr,i⟩:=nm_<|w.heap.size+1+1+1+1;rw[<-i]at k;rw[<-Q]at u;rw[<-T]at e;rw[<-S]at s;rw[<-U]at j;rw[<-i,<-Q,<-T,<-S,<-U];have a2:w.heap.size<=gr:=X;have cO:w.heap.size<=gt:=X;have aq:M≠gt/\R≠gt/\L≠gt/\gr≠gt:=X;clear U S T Q i;go_wp2
 go_loopw [12] (λ_ wr=>∃(a:Tk) (f:Nat),Bk wr M 26 #[.slice A l.length c,Y hH,Y hC]/\Bk wr R 32 #[.slice m d.length y]/\Bk wr gt 53 a.g_/\Bk wr L 35 #[.slice o b.length vc]/\Bk wr gr 53 ks/\kV wr a/\J [] w wr/\a.run=t.run/\oB l hH hC d (hY b) f a.p=N/\(a.h5=0->Way l a.p/\todo l a.p+1<=f)) (λ_ wr=>left l gt wr)
 case atStart=>exact⟨t,todo l t.p+1,j,s,e,u,k,ht.hF C,C,rfl,F,λh=>⟨aI h,I_ _⟩⟩
 clear j s e u k C F aI;obtain⟨a,f,j,s,e,u,k,ai,i,D,H,cu⟩:=hrel;have aj:=O<|left_of (l:=l) e;by_cases p:a.h5=0
 .obtain⟨r,al⟩:=cu p;have cj:wr.cell? (Z gt 42)=some (Y 0):=(e.f_ 42).trans<|GG (λf=>some<|Value.int .i64 f) p;have am:=j.f_ 0;have af:=j.f_ 1;have ay:=j.f_ 2;have aR:=s.f_ 0;have v0:=u.f_ 0;have an:0<=a.run:=by rw[D];exact bF
  have ap:a.run<=1099511627776:=by rw[D];exact bB
  have b0:=r.s1;have aH:=r.s0;have au:a.hK<=1000000:=by have av:a.p.hK=a.hK:=rfl;omega
  have ax:128*a.p.hK.toNat<=500000:=X;have aA:a.pc<=1000000:=by have h:=r.hi;have av:a.p.pc=a.pc:=rfl;omega
  have cR: -1<=a.pc:=r.lo;have aB:0<=a.hK:=r.s0;have g:=O H;have B:=O p;have aC:=O D;clear H D b0 aH;go_wp2_with (first|(refine la e underlying53 ?_)|(go_at_call 39;((with_reducible refine(rS A c l hH hC m y d a o vc b _ (ag.hF i) hn (hD.hF i) hd ai (hv.hF i) E p (r.sm.mono ax) b9 cR aA an ap aB au).mono ?_);unfold lp;rintro av K⟨z,rfl,aD,V,N3⟩))|(refine k6 (z.g_) (T_ K 53 ks) (Tk.one _) ?_;intro ae bJ P)|(refine la bJ underlying53 ?_)|(refine lL rfl 53 _ _ rfl (gt) r_ (z.g_) r_ 53 _ ((e.hF N3).hF<|((G_ [] K).alloc _).jT P<|I_ _) r_ k_ (Tk.one _) ?_;intro n bP v));have x:=N3.trans<|((G_ [] K).alloc _).jT P<|I_ _;have aU:=((G_ [] K).alloc _).jT P<|I_ _;obtain⟨n1,n2,n3,n4⟩:=aq;obtain⟨sm,st0,st1,lo,hi,W⟩:=vb ar r B.out (d:=d) (view:=hY b);rw[<-V]at W;go_roundw
  case rel=>
   have aE:∃(a:Tk) (f:Nat),Bk n M 26 #[.slice A l.length c,Y hH,Y hC]/\Bk n R 32 #[.slice m d.length y]/\Bk n gt 53 a.g_/\Bk n L 35 #[.slice o b.length vc]/\Bk n gr 53 ks/\kV n a/\J [] w n/\a.run=t.run/\oB l hH hC d (hY b) f a.p=N/\(a.h5=0->Way l a.p/\todo l a.p+1<=f):=by
    refine⟨z,f-1,(j.hF x).gr v<|zu n1,(s.hF x).gr v<|zu n2,bP,(u.hF x).gr v<|zu n3,(k.hF x).gr v<|zu n4,(aD.hF aU).iy (e.hF x) I v,(i.trans x).jT v cO,?_,?_,?_⟩;have h:z.p.run=z.run:=rfl;rw[<-h,V,lu];exact aC.out;obtain⟨aF,rfl⟩:∃aF,f=aF+1:=⟨f-1,X⟩;have h:=g.out;unfold oB at h;rw[L_ (show a.p.h5=0 from B.out),<-V]at h;exact h;intro h0;obtain⟨h,h2⟩:=W h0;exact⟨h,X⟩
   repeat apply Exists.intro
   first|exact aE|exact⟨aE,rfl⟩
   all_goals exact undef
  case measure=>
   have h:=aj.out;rw[L_ B.out]at h;have h2:=left_of (l:=l) bP;rw[h,h2];split;rename_i h0;have:=(W h0).2;omega;omega
 have q:(a.h5==0)=false:=zu p;have cj:wr.cell? (Z gt 42)=some (Y a.h5):=(e.f_ 42).trans rfl;have g:=O H;have B:=O p;clear p H cu;go_wp2_with (first|(refine la e underlying53 ?_)|(refine k6 (a.g_) k (Tk.one _) ?_;intro n h G));have HM:N=a.p:=by rw[<-g.out];exact zW f B.out
 rw[HM];exact me a.g_ (Y 0) h underlying53 ⟨a,rfl,ai.iy k I G,rfl,i.jT G a2⟩
def Ts(w:World)(A:OA)(l:QE):Prop:=Sl w 53 48 A l.length<|l.flatMap λt=>t.g_.toList
structure xK(w:World)(A:OA)(l:QE):Prop where
 row:Ts w A l
 y0:∀t∈l,kV w t
def tE:(t.g_.toList).length=48:=rfl
def xK.hF{w':World}{A:OA}{l:QE}(h:xK w A l)(a:J [] w w'):xK w' A l:=⟨Sl.hF h.row a,λt b=>(h.y0 t b).hF a⟩
def xK.at_{A:OA}{l:QE}(h:xK w A l){k:Nat}(m:k<l.length):∃b d,A=some (Z b d)/\(∀a,a<48->w.cell? (Z b<|d+k*48+a)=(l[k]).g_[a]?):=by
 obtain⟨b,d,hA,hc⟩:=Sl.f_ h.row X;refine⟨b,d,hA,λa e=>?_⟩;have j:=jr (λt:Tk=>t.g_.toList) 48 tE l k a m e;have f:a<(l[k]).g_.size:=by rw[Tk.size];exact e
 have i:(l[k]).g_.toList[a]?=some (l[k]).g_[a]:=by simp[f]
 rw[GQ f,Ik];exact hc _ _<|j.trans i
def j3(h:QQ)(l:QA)(k:Int):List Ob:=(l.take k.toNat).foldl kG h
def zd(h:QQ)(t:iP):(kG h t).length<=h.length+t.nw.length:=by
 unfold kG;rw[od,j1];exact o7 t.nw h
def tx(l:QA)(h:QQ){n:Nat}(a:∀t∈l,t.nw.length<=n):(l.foldl kG h).length<=h.length+l.length*n:=by
 induction l generalizing h with
 |nil=>simp
 |cons t l b=>
  have f:=b (kG h t) λe d=>a e<|Z_ _ d;have i:=zd h t;have j:=a t GT;rw[H7,GI,HY];omega
def rQ(l:QT)(TA:OA)(tc:Nat)(ts:QE)(k:Int)(w:World)(h:Os w A l)(f:nv w l)(hn:l.length<=10000000)(N1:xK w TA ts)(b7:ts.length<=100)(am:∀t∈ts,t.p.sm 500000)(ce:k<=1000000000):
 Calls prog 40 #[.agg #[.slice A l.length c],.slice TA ts.length tc,Y k] w (lO (j3 (hY l) (ts.map Tk.p) k) w):=by
 obtain⟨i1,bR,cf,cg,ct⟩:=info_parts infoOb;have ad:∀t∈ts,t.nw.l.length<=500000:=λt ht=>by have:=(am t ht).nw;have ae:t.p.nw.length=t.nw.l.length:=ib _;omega
 obtain⟨D,H,m⟩:=qU w 35 #[.slice A l.length c] 35 #[n_];go_enter func40,ntmps40;go_upto_region 1 with fail;obtain⟨C,af⟩:=nm_<|(w.alloc<|.cells #[.slice A l.length c] 35).alloc<|.cells #[n_] 35;rw[<-af]at D H m |-;clear af;obtain⟨bK,V⟩:=nm_ w.heap.size;obtain⟨gr,W⟩:=nm_<|w.heap.size+1;rw[<-W]at H;rw[<-V]at D;rw[<-W,<-V];have a2:w.heap.size<=gr:=X;clear V W;have ah:=D.f_ 0;have cT:Sl C 56 2 A l.length (jw l):=h.hF m;have ak:=i4 C C.heap.size 56 2
 go_upto_region 2 with(at_builtin;refine iQ _ rfl (.const<|n_) (.tmp 10) 33 rfl C.heap.size 56 i1 _ 2 32 underlying33 bR cf cg ct rfl I I none 0 0 _ rfl ak A l.length c _ rfl cT (j9 l) X (I_ _) ?_;intro j i u N aq;simp only[U_,G0]at N);have e:=aq.gr [] C (I_ _)<|G_ _ _;have al:mh u j i l:=⟨Sl.iZ N,f.hF<|m.trans e,jq N⟩;have br:=D.hF e;have ck:=(H.hF e).alloc<|.cells #[.slice j l.length i] 35;have an:=T_ u 35 #[.slice j l.length i];have g:=al.hF<|(G_ [] u).alloc<|.cells #[.slice j l.length i] 35;have bI:=(m.trans e).alloc<|.cells #[.slice j l.length i] 35;have aW:=(m.trans e).size;have au:gr≠u.heap.size:=by have:=H.lt;have:=e.size;omega
 obtain⟨aj,aN⟩:=nm_<|u.alloc<|.cells #[.slice j l.length i] 35;rw[<-aN]at ck an g bI |-;clear aN;clear N aq e al br D H m ah cT ak;generalize u.heap.size=r at*;go_wp2
 go_loopw [8] (λav wr=>∃(a:Nat) (A':OA) (c':Nat) (rs:QT),a<=ts.length/\((a:Int)<=k\/a=0)/\av=Y a/\Bk wr r 35 #[.slice A' rs.length c']/\Bk wr gr 35 #[n_]/\mh wr A' c' rs/\hY rs=((ts.map Tk.p).take a).foldl kG (hY l)/\J [] w wr) (λav _=>ts.length-(intOf av).toNat)
 case atStart=>exact⟨0,j,i,l,R_ _,.inr rfl,rfl,an,ck,g,rfl,bI⟩
 clear an ck g bI;obtain⟨a,A',c',rs,hm,cx,rfl,s,E,b,bJ,F⟩:=hrel;have q:=O bJ;clear bJ;by_cases bO:(a:Int)<k
 .by_cases z:a<ts.length
  .have G:(a:Int)<(ts.length:Int):=X;obtain⟨P,S,ek,dW⟩:=(N1.hF F).at_ z;subst ek;have ax:rs.length<=100000000:=by
    have Q:=ib rs;have h2:=tx ((ts.map Tk.p).take a) (hY l) (n:=500000) (λay hu=>by
     obtain⟨t,ht,rfl⟩:=GJ.1<|Hk hu;exact(am t ht).nw)
    rw[q.out]at Q;rw[Hj,Hf,ib]at h2;have h3:min a ts.length*500000<=100*500000:=Iy _ X;omega
   have U:=(N1.hF F).y0 ts[a]<|P_ z;have cK:=am ts[a]<|P_ z;have az:=ad ts[a]<|P_ z;have bS:=O (show((ts.map Tk.p).take<|a+1).foldl kG (hY l)=kG (hY rs) ts[a].p by
    rw[q.out,Y_ (by rw[Hf];exact z),Ig,HF];rfl)
   generalize ts[a]=t at*
   go_upto_region 5 with fail;refine hS (λw'=>w'.cell? (Z r 0)=some (.slice A' rs.length c')/\∀d,d<48->w'.cell? (Z P<|S+a*48+d)=t.g_[d]?) 6 k_ ?_;have o:=(G_ [] wr).drew;replace s:=s.hF o;replace E:=E.hF o;replace b:=b.hF o;replace U:=U.hF o;replace F:=F.trans o;have x:wr.drew.cell? (Z r 0)=some (.slice A' rs.length c')/\∀d,d<48->wr.drew.cell? (Z P<|S+a*48+d)=t.g_[d]?:=⟨s.f_ 0,dW⟩;have aT:(0:Int)<=(a:Int):=X;(iterate 4 refine j8 x ?_);refine iC 4 (v:=.agg t.g_) x ?_ (hy:=(Or.inl ⟨r_,λw' aZ=>jA 53 rfl P (S+a*48) r_ (λd R=>aZ.2 d R) underlying53 rfl k_⟩));refine h4 5 λT y=>?_;go_simp;(go_at_call 84;((with_reducible refine(w4 A' c' rs t U b X (H_ cK.ws I)<|H_ cK.ds I).mono ?_);unfold lO;rintro ae L⟨aP,c4,r4,rfl,aA,aB,K⟩));have aC:=O aB;clear aB x;have bT:∀d,d<48->L.cell? (Z P<|S+a*48+d)=t.g_[d]?:=λd R=>by
    have Q:=dW d R;have hs:d<t.g_.size:=by rw[Tk.size];exact R
    rw[GQ hs]at Q |-;exact(o.trans K).f_ Q s_
   have B:=s.hF K;refine hZ y ⟨B.f_ 0,bT⟩ λx=>?_;clear y T;have aD:=E.hF K;have aR:=B.f_ 0;have bE:=B.hG 0;have M:J [r] L (L.setCell (Z r 0)<|.slice aP r4.length c4):=(G_ [r] L).setCell (.inl s_) _;refine h4 6 λT y=>?_;go_simp;refine y.out _ _ (λh=>GR h I) ?_;clear y T;refine hN k_ ?_ _;clear x aR bE;go_wp2;go_roundw;exact⟨a+1,aP,c4,r4,X,X,gn,B.hW 0 _,aD.ir (zu au) _,aA.iy B I I M,by rw[aC.out,bS.out],(F.trans K).jT M aW⟩;exact mz
  have G:¬(a:Int)<(ts.length:Int):=X;have aL:=O (show j3 (hY l) (ts.map Tk.p) k=((ts.map Tk.p).take a).foldl kG (hY l) by
   unfold j3;rw[GY (by rw[Hf];omega),GY<|by rw[Hf];omega])
  exact Kc
 have aL:=O (show j3 (hY l) (ts.map Tk.p) k=((ts.map Tk.p).take a).foldl kG (hY l) by
  unfold j3;have:k.toNat=a:=X;rw[this])
 exact Kc
def Bc(l:QT)(a:OA)(tc:Nat)(ts:QE)(k:Int)(w:World)(h:mh w A c l)(i:l.length<=10000000)(b:xK w a ts)(e:ts.length<=100)(d:∀t∈ts,t.p.sm 500000)(f:k<=1000000000):
 Calls prog 40 #[.agg #[.slice A l.length c],.slice a ts.length tc,Y k] w (lO (j3 (hY l) (ts.map Tk.p) k) w):=rQ A c l a tc ts k w h.os h.ll i b e d f
def lT(f:Fo)(dst:Int):Fo:=if f.dst=dst then⟨f.fr,f.dst,if 3<f.n+1 then 3 else f.n+1⟩ else if f.n-1<=0 then⟨f.fr,dst,1⟩ else⟨f.fr,f.dst,f.n-1⟩
def lA(l:QD)(fr dst:Int):List Fo:=
 if pz l fr=true then l.set (lG l fr) (lT (l.getD (lG l fr) default) dst) else l.take (lG l fr)++([⟨fr,dst,1⟩]++l.drop (lG l fr))
def zp(P:QD)(w:World)(e:Ending)(w':World):Prop:=∃(A:OA) (d:Nat),e=.returned (.agg #[.slice A P.length d])/\Fs w' A P/\P.length<=d/\J [] w w'
def zJ(l:QD)(d e:Int)(w:World)(h:Fs w A l)(hn:l.length<=1000000000)(t:pz l d=false):
 Calls prog 51 #[.agg #[.slice A l.length c],Y d,Y e] w (zp (lA l d e) w):=by
 have V:=O (show lA l d e=l.take (lG l d)++([⟨d,e,1⟩]++l.drop (lG l d)) by unfold lA;rw[t];rfl);obtain⟨a,G⟩:=nm_<|lG l d;have hk:a<=l.length:=by rw[G];exact Dx
 have D:=O G;clear G;obtain⟨L,K,H,M,N⟩:=info_parts infoFo;obtain⟨b,B,m⟩:=qU w 96 #[.slice A l.length c] 96 #[n_];go_enter func51,ntmps51;go_upto_region 1 with fail;obtain⟨k,R⟩:=nm_<|(w.alloc<|.cells #[.slice A l.length c] 96).alloc<|.cells #[n_] 96;rw[<-R]at b B m |-;clear R;obtain⟨gs,C⟩:=nm_ w.heap.size;obtain⟨z,E⟩:=nm_<|w.heap.size+1;rw[<-E]at B;rw[<-C]at b;rw[<-E,<-C];have a2:w.heap.size<=z:=X;clear C E;have S:=b.f_ 0;have cT:Sl k 168 3 A l.length (l.flatMap Fo.E):=h.hF m
 go_upto_region 2 with(at_builtin;refine iQ _ rfl (.const<|n_) (.tmp 12) 94 rfl k.heap.size 168 L _ 3 24 underlying94 K H M N rfl I I none 0 0 [] rfl (i4 _ _ _ _) A l.length c _ rfl cT (v2 l) X (I_ _) ?_;intro y x w2 F W;simp only[U_,G0]at F;have S:=(b.hF<|W.gr [] k (I_ _)<|G_ _ _).f_ 0);have n:J [] k w2:=W.gr [] k (I_ _)<|G_ _ _;have az:Fs w2 y l:=Sl.iZ F;have bZ:=jq F;have b7:=b.hF n;have ck:=B.hF n;clear b B;go_upto_region 4 with(go_at_call 99;((with_reducible refine(rC A c l d (h.hF<|m.trans n) hn).mono ?_);rw[t];rintro ad i⟨rfl,o⟩));rw[<-D.out];clear S;refine hS (λ_=>True) 14 k_ ?_;have af:J [] i i.drew:=(G_ [] i).drew;obtain⟨U,cx⟩:=nm_ i.drew;rw[<-cx]at af |-;clear cx;have b:True:=trivial;have aT:(0:Int)<=(a:Int):=X;have aC:(a:Int)<=(l.length:Int):=X;have av:(a:Int)<=(x:Int):=X;have aE:=O (show ∀P∈(#[Y d,Y e,Y 1]:Array Value).toList++(l.drop a).flatMap Fo.E,P.oneCell'=true from λP hu=>v2 (⟨d,e,1⟩::l.drop a) P hu)
 (iterate 3 refine j8 b ?_)
 refine iC 3 (v:=.slice y a a) b ?_ (hy:=(Or.inl ⟨r_,(by intro w' aZ;go_simp;try with_reducible rfl)⟩));refine iC 4 b ?_;refine iC 5 b ?_;refine iC 6 b ?_;refine iC 8 b ?_;refine iC 9 b ?_;refine iC 10 (v:=.slice (if x=a then y else y.map (·.add (a*3))) (l.length-a)<|x-a) b ?_ (hy:=(Or.inl ⟨r_,(by intro w' aZ;go_simp;try with_reducible rfl)⟩));refine h4 7 λj f=>?_;go_simp;have ag:J [] i (U.alloc<|.cells #[Y d,Y e,Y 1] 168):=af.alloc _;have bR:=k2 (s:=3) (T_ U 168 #[Y d,Y e,Y 1]) rfl;have aK:=(Sl.zl pi (az.hF<|o.trans ag) hk x bZ);refine f.out _ _ (λ_=>trivial) ?_;clear f j;try simp only[a_]
 refine h4 11 λj f=>?_;refine mL _ r_ (.tmp 29) (.tmp 32) 94 r_ 168 L _ 3 24 underlying94 K H M N rfl I I _ 1 _ r_ bR _ (l.length-a) _ _ r_ aK (v2 _) X ?_;intro a6 c5 NY bg bL ah;have Q:J [] i NY:=ag.trans ah;have aS:=(Sl.y2 pi (az.hF<|o.trans Q) hk);refine f.out _ _ (λ_=>trivial) ?_;clear f j;try simp only[a_]
 refine h4 12 λj f=>?_;refine mL _ r_ (.tmp 25) (.tmp 33) 94 r_ 168 L _ 3 24 underlying94 K H M N rfl I I _ a _ r_ aS _ (1+(l.length-a)) _ _ r_ bL aE.out X ?_;intro u r q bW bU aD;have aj:J [] i q:=Q.trans aD;refine f.out _ _ (λ_=>trivial) ?_;clear f j;try simp only[a_]
 refine iC 13 b ?_;refine hN k_ ?_ _;have p:=ck.hF<|o.trans aj;have bQ:=p.f_ 0;have bE:=p.hG 0;go_wp2;all_goals (
  have T:J [z] q (q.setCell (Z z 0)<|.slice u (a+(1+(l.length-a))) r):=(G_ [z] q).setCell (.inl s_) _;have iS:(lA l d e).length=a+(1+(l.length-a)):=by rw[V.out,<-D.out];simp;omega
  refine Ha (v:=.agg #[.slice u (a+(1+(l.length-a))) r]) (Ia rfl _ _ _ _ _ _ _ rfl (p.hW 0<|.slice u (a+(1+(l.length-a))) r) underlying96 rfl k_) rfl ⟨u,r,by rw[iS],?_,by rw[iS];exact bW,((m.trans n).trans<|o.trans aj).jT T a2⟩;unfold Fs;rw[iS,V.out,<-D.out,He,He,II];exact Sl.iy bU p I T)
def zI(l:QD)(s e:Int)(w:World)(h:Fs w A l)(hn:l.length<=1000000000)(t:pz l s=true)(hb:∀f∈l, -1000<=f.n/\f.n<=1000):
 Calls prog 51 #[.agg #[.slice A l.length c],Y s,Y e] w (zp (lA l s e) w):=by
 have c3:=O (show lA l s e=l.set (lG l s) (lT (l.getD (lG l s) default) e) by unfold lA;rw[t];rfl);obtain⟨a,G⟩:=nm_<|lG l s;have Q:a<l.length:=by rw[G];unfold pz at t;simp at t;exact t.1
 have ah:=O G;have ao:l.getD a default=l[a]:=by simp[List.getD,O_ Q]
 have D:Hid (lA l s e=l.set a (lT l[a] e)):=O (by rw[c3.out,<-ah.out,ao]);have ag:=hb l[a]<|P_ Q;clear G c3 ao hb;obtain⟨bM,bK,bC,be,bu⟩:=info_parts infoFo;obtain⟨W,hR,M⟩:=qU w 96 #[.slice A l.length c] 96 #[n_];go_enter func51,ntmps51;go_upto_region 1 with fail;obtain⟨bw,aj⟩:=nm_<|(w.alloc<|.cells #[.slice A l.length c] 96).alloc<|.cells #[n_] 96;rw[<-aj]at W hR M |-;clear aj;obtain⟨gs,ak⟩:=nm_ w.heap.size;obtain⟨r,aH⟩:=nm_<|w.heap.size+1;rw[<-aH]at hR;rw[<-ak]at W;rw[<-aH,<-ak];have a2:w.heap.size<=r:=X;clear ak aH;have al:=W.f_ 0;have cT:Sl bw 168 3 A l.length (l.flatMap Fo.E):=h.hF M
 go_upto_region 2 with(at_builtin;refine iQ _ rfl (.const<|n_) (.tmp 12) 94 rfl bw.heap.size 168 bM _ 3 24 underlying94 bK bC be bu rfl I I none 0 0 [] rfl (i4 _ _ _ _) A l.length c _ rfl cT (v2 l) X (I_ _) ?_;intro aw n w2 ar aq;simp only[U_,G0]at ar;have al:=(W.hF<|aq.gr [] bw (I_ _)<|G_ _ _).f_ 0);have N3:J [] bw w2:=aq.gr [] bw (I_ _)<|G_ _ _;have az:Fs w2 aw l:=Sl.iZ ar;have bZ:=jq ar;have b7:=W.hF N3;have ck:=hR.hF N3;clear W hR;obtain⟨g,cur,am,an,ad,ap⟩:=kN ar X;subst am;have o:=λau av(hu:(Fo.E l[a])[au]?=some av)=>ap (a*3+au) av (by
  have hj:au<3:=by have:=(Ie.1 hu).1;rw[pi]at this;exact this
  rw[jr Fo.E 3 pi l a au Q hj];exact hu)
 go_upto_region 6 with(go_at_call 99;((with_reducible refine(rC A c l s (h.hF<|M.trans N3) hn).mono ?_);rw[t];rintro ax E⟨rfl,ay⟩));rw[<-ah.out];clear al;have aA:=ad.hF ay;have NZ:(a:Int)<(l.length:Int):=X;obtain⟨f,co⟩:=nm_<|l[a];rw[<-co]at o ag D;have da:=O co;clear co;have k0:E.cell? (Z g<|a*3)=some (Y f.fr):=(aA.f_ _).trans<|o 0 _ rfl;have bo:E.cell? (Z g<|a*3+1)=some (Y f.dst):=(aA.f_ _).trans<|o 1 _ rfl;have aB:E.cell? (Z g<|a*3+2)=some (Y f.n):=(aA.f_ _).trans<|o 2 _ rfl;go_upto_region 7 with fail;have i:=T_ E 168 #[Y f.fr,Y f.dst,Y f.n];have aC:=aA.alloc<|.cells #[Y f.fr,Y f.dst,Y f.n] 168;have NY:=(ck.hF ay).alloc<|.cells #[Y f.fr,Y f.dst,Y f.n] 168;have aD:=((M.trans N3).trans ay).alloc<|.cells #[Y f.fr,Y f.dst,Y f.n] 168;have N0:g≠E.heap.size:=ov aA.lt;have aE:r≠E.heap.size:=ov<|(ck.hF ay).lt;have bT:w.heap.size<=E.heap.size:=((M.trans N3).trans ay).size;have v:r≠g:=Bk.mm ck ad I;have u:w.heap.size<=g:=H_ M.size an;clear k0 bo aB aA ar aq az b7 ck N3 ay M cT ad an;obtain⟨F,bG⟩:=nm_<|E.alloc<|.cells #[Y f.fr,Y f.dst,Y f.n] 168;rw[<-bG]at i aC NY aD |-;clear bG;generalize E.heap.size=d at*
 by_cases C:f.dst=e
 .have q:(f.dst==e)=true:=zu C;by_cases h3:3<f.n+1
  .have T:=O (show lT f e=⟨f.fr,f.dst,3⟩ by unfold lT;rw[L_ C,L_ h3]);have bH:(3<f.n+1)=True:=by simp[h3]
   clear C;have R:=i.f_ 0;have S:=i.f_ 1;have N:=i.f_ 2;have K:=i.hG 0;have L:=i.hG 1;have P:=i.hG 2;go_upto_region 12 with fail;have m:Bk (F.setCell (Z d 2)<|Y 3) d 168 #[Y f.fr,Y f.dst,Y 3]:=(i).hW 2<|Y 3;have b:=(aC).ir (p:=(Z d 2)) N0<|Y 3;have k:=(NY).ir (p:=(Z d 2)) aE<|Y 3;have y:=(aD).setCell (p:=(Z d 2)) (.inr bT)<|Y 3;clear R S N K L P;obtain⟨j,z⟩:=nm_<|F.setCell (Z d 2)<|Y 3;rw[<-z]at m b k y |-;clear z;have z0:=m.f_ 0;have aM:=m.f_ 1;have aU:=m.f_ 2;have k0:j.cell? (Z g<|a*3)=some (Y f.fr):=(b.f_ _).trans<|o 0 _ rfl;have bo:j.cell? (Z g<|a*3+1)=some (Y f.dst):=(b.f_ _).trans<|o 1 _ rfl;have aB:j.cell? (Z g<|a*3+2)=some (Y f.n):=(b.f_ _).trans<|o 2 _ rfl;have bE:=b.hG<|a*3;have bz:=b.hG<|a*3+1;have bX:=b.hG<|a*3+2;have bQ:=k.f_ 0;have af:=k.hG 0
   have U:Fs ((((j.setCell (Z g<|a*3)<|Y f.fr).setCell (Z g<|a*3+1)<|Y f.dst).setCell (Z g<|a*3+2)<|Y 3)) (j_ g) (l.set a ⟨f.fr,f.dst,3⟩):=by
    unfold Fs;exact s2 Fo.E pi Q ⟨f.fr,f.dst,3⟩ rfl b ap s_
   have B:=((k.ir (p:=(Z g<|a*3)) v<|Y f.fr).ir (p:=(Z g<|a*3+1)) v<|Y f.dst).ir (p:=(Z g<|a*3+2)) v<|Y 3;have x:J [r] _ _:=(G_ [r]<|(((j.setCell (Z g<|a*3)<|Y f.fr).setCell (Z g<|a*3+1)<|Y f.dst).setCell (Z g<|a*3+2)<|Y 3)).setCell (p:=(Z r 0)) (.inl s_)<|.slice (j_ g) l.length n;have V:=((y.setCell (p:=(Z g<|a*3)) (.inr u)<|Y f.fr).setCell (p:=(Z g<|a*3+1)) (.inr u)<|Y f.dst).setCell (p:=(Z g<|a*3+2)) (.inr u)<|Y 3;have iS:(lA l s e).length=l.length:=by rw[D.out];simp
   go_wp2;refine rr_ #[.slice (j_ g) l.length n] (B.hW 0<|.slice (j_ g) l.length n) underlying96 ⟨some<|Z g 0,n,by rw[iS],?_,by rw[iS];exact bZ,V.jT x a2⟩;rw[D.out,T.out];unfold Fs;rw[G3];have H:Sl ((((j.setCell (Z g<|a*3)<|Y f.fr).setCell (Z g<|a*3+1)<|Y f.dst).setCell (Z g<|a*3+2)<|Y 3)) 168 3 (j_ g) l.length ((l.set a ⟨f.fr,f.dst,3⟩).flatMap Fo.E):=by have q:=U;unfold Fs at q;rw[G3]at q;exact q
   exact Sl.iy H B I x
  have T:=O (show lT f e=⟨f.fr,f.dst,f.n+1⟩ by unfold lT;rw[L_ C,K_ h3]);have bH:(3<f.n+1)=False:=by simp[h3]
  clear C;have R:=i.f_ 0;have S:=i.f_ 1;have N:=i.f_ 2;have K:=i.hG 0;have L:=i.hG 1;have P:=i.hG 2;go_upto_region 12 with fail;have m:Bk (F.setCell (Z d 2)<|Y<|f.n+1) d 168 #[Y f.fr,Y f.dst,Y<|f.n+1]:=(i).hW 2<|Y<|f.n+1;have b:=(aC).ir (p:=(Z d 2)) N0<|Y<|f.n+1;have k:=(NY).ir (p:=(Z d 2)) aE<|Y<|f.n+1;have y:=(aD).setCell (p:=(Z d 2)) (.inr bT)<|Y<|f.n+1;clear R S N K L P;obtain⟨j,z⟩:=nm_<|F.setCell (Z d 2)<|Y<|f.n+1;rw[<-z]at m b k y |-;clear z;have z0:=m.f_ 0;have aM:=m.f_ 1;have aU:=m.f_ 2;have k0:j.cell? (Z g<|a*3)=some (Y f.fr):=(b.f_ _).trans<|o 0 _ rfl;have bo:j.cell? (Z g<|a*3+1)=some (Y f.dst):=(b.f_ _).trans<|o 1 _ rfl;have aB:j.cell? (Z g<|a*3+2)=some (Y f.n):=(b.f_ _).trans<|o 2 _ rfl;have bE:=b.hG<|a*3;have bz:=b.hG<|a*3+1;have bX:=b.hG<|a*3+2;have bQ:=k.f_ 0;have af:=k.hG 0
  have U:Fs ((((j.setCell (Z g<|a*3)<|Y f.fr).setCell (Z g<|a*3+1)<|Y f.dst).setCell (Z g<|a*3+2)<|Y<|f.n+1)) (j_ g) (l.set a ⟨f.fr,f.dst,f.n+1⟩):=by
   unfold Fs;exact s2 Fo.E pi Q ⟨f.fr,f.dst,f.n+1⟩ rfl b ap s_
  have B:=((k.ir (p:=(Z g<|a*3)) v<|Y f.fr).ir (p:=(Z g<|a*3+1)) v<|Y f.dst).ir (p:=(Z g<|a*3+2)) v<|Y<|f.n+1;have x:J [r] _ _:=(G_ [r]<|(((j.setCell (Z g<|a*3)<|Y f.fr).setCell (Z g<|a*3+1)<|Y f.dst).setCell (Z g<|a*3+2)<|Y<|f.n+1)).setCell (p:=(Z r 0)) (.inl s_)<|.slice (j_ g) l.length n;have V:=((y.setCell (p:=(Z g<|a*3)) (.inr u)<|Y f.fr).setCell (p:=(Z g<|a*3+1)) (.inr u)<|Y f.dst).setCell (p:=(Z g<|a*3+2)) (.inr u)<|Y<|f.n+1;have iS:(lA l s e).length=l.length:=by rw[D.out];simp
  go_wp2;refine rr_ #[.slice (j_ g) l.length n] (B.hW 0<|.slice (j_ g) l.length n) underlying96 ⟨some<|Z g 0,n,by rw[iS],?_,by rw[iS];exact bZ,V.jT x a2⟩;rw[D.out,T.out];unfold Fs;rw[G3];have H:Sl ((((j.setCell (Z g<|a*3)<|Y f.fr).setCell (Z g<|a*3+1)<|Y f.dst).setCell (Z g<|a*3+2)<|Y<|f.n+1)) 168 3 (j_ g) l.length ((l.set a ⟨f.fr,f.dst,f.n+1⟩).flatMap Fo.E):=by have q:=U;unfold Fs at q;rw[G3]at q;exact q
  exact Sl.iy H B I x
 have q:(f.dst==e)=false:=zu C;by_cases hz:f.n-1<=0
 .have T:=O (show lT f e=⟨f.fr,e,1⟩ by unfold lT;rw[K_ C,L_ hz]);have bj:(f.n-1<=0)=True:=by simp[hz]
  clear C;have R:=i.f_ 0;have S:=i.f_ 1;have N:=i.f_ 2;have K:=i.hG 0;have L:=i.hG 1;have P:=i.hG 2;go_upto_region 12 with fail;have m:Bk (((F.setCell (Z d 2)<|Y<|f.n-1).setCell (Z d 1)<|Y e).setCell (Z d 2)<|Y 1) d 168 #[Y f.fr,Y e,Y 1]:=(((i).hW 2<|Y<|f.n-1).hW 1<|Y e).hW 2<|Y 1;have b:=(((aC).ir (p:=(Z d 2)) N0<|Y<|f.n-1).ir (p:=(Z d 1)) N0<|Y e).ir (p:=(Z d 2)) N0<|Y 1;have k:=(((NY).ir (p:=(Z d 2)) aE<|Y<|f.n-1).ir (p:=(Z d 1)) aE<|Y e).ir (p:=(Z d 2)) aE<|Y 1;have y:=(((aD).setCell (p:=(Z d 2)) (.inr bT)<|Y<|f.n-1).setCell (p:=(Z d 1)) (.inr bT)<|Y e).setCell (p:=(Z d 2)) (.inr bT)<|Y 1;clear R S N K L P;obtain⟨j,z⟩:=nm_<|((F.setCell (Z d 2)<|Y<|f.n-1).setCell (Z d 1)<|Y e).setCell (Z d 2)<|Y 1;rw[<-z]at m b k y |-;clear z;have z0:=m.f_ 0;have aM:=m.f_ 1;have aU:=m.f_ 2;have k0:j.cell? (Z g<|a*3)=some (Y f.fr):=(b.f_ _).trans<|o 0 _ rfl;have bo:j.cell? (Z g<|a*3+1)=some (Y f.dst):=(b.f_ _).trans<|o 1 _ rfl;have aB:j.cell? (Z g<|a*3+2)=some (Y f.n):=(b.f_ _).trans<|o 2 _ rfl;have bE:=b.hG<|a*3;have bz:=b.hG<|a*3+1;have bX:=b.hG<|a*3+2;have bQ:=k.f_ 0;have af:=k.hG 0
  have U:Fs ((((j.setCell (Z g<|a*3)<|Y f.fr).setCell (Z g<|a*3+1)<|Y e).setCell (Z g<|a*3+2)<|Y 1)) (j_ g) (l.set a ⟨f.fr,e,1⟩):=by
   unfold Fs;exact s2 Fo.E pi Q ⟨f.fr,e,1⟩ rfl b ap s_
  have B:=((k.ir (p:=(Z g<|a*3)) v<|Y f.fr).ir (p:=(Z g<|a*3+1)) v<|Y e).ir (p:=(Z g<|a*3+2)) v<|Y 1;have x:J [r] _ _:=(G_ [r]<|(((j.setCell (Z g<|a*3)<|Y f.fr).setCell (Z g<|a*3+1)<|Y e).setCell (Z g<|a*3+2)<|Y 1)).setCell (p:=(Z r 0)) (.inl s_)<|.slice (j_ g) l.length n;have V:=((y.setCell (p:=(Z g<|a*3)) (.inr u)<|Y f.fr).setCell (p:=(Z g<|a*3+1)) (.inr u)<|Y e).setCell (p:=(Z g<|a*3+2)) (.inr u)<|Y 1;have iS:(lA l s e).length=l.length:=by rw[D.out];simp
  go_wp2;refine rr_ #[.slice (j_ g) l.length n] (B.hW 0<|.slice (j_ g) l.length n) underlying96 ⟨some<|Z g 0,n,by rw[iS],?_,by rw[iS];exact bZ,V.jT x a2⟩;rw[D.out,T.out];unfold Fs;rw[G3];have H:Sl ((((j.setCell (Z g<|a*3)<|Y f.fr).setCell (Z g<|a*3+1)<|Y e).setCell (Z g<|a*3+2)<|Y 1)) 168 3 (j_ g) l.length ((l.set a ⟨f.fr,e,1⟩).flatMap Fo.E):=by have q:=U;unfold Fs at q;rw[G3]at q;exact q
  exact Sl.iy H B I x
 have T:=O (show lT f e=⟨f.fr,f.dst,f.n-1⟩ by unfold lT;rw[K_ C,K_ hz]);have bj:(f.n-1<=0)=False:=by simp[hz]
 clear C;have R:=i.f_ 0;have S:=i.f_ 1;have N:=i.f_ 2;have K:=i.hG 0;have L:=i.hG 1;have P:=i.hG 2;go_upto_region 12 with fail;have m:Bk (F.setCell (Z d 2)<|Y<|f.n-1) d 168 #[Y f.fr,Y f.dst,Y<|f.n-1]:=(i).hW 2<|Y<|f.n-1;have b:=(aC).ir (p:=(Z d 2)) N0<|Y<|f.n-1;have k:=(NY).ir (p:=(Z d 2)) aE<|Y<|f.n-1;have y:=(aD).setCell (p:=(Z d 2)) (.inr bT)<|Y<|f.n-1;clear R S N K L P;obtain⟨j,z⟩:=nm_<|F.setCell (Z d 2)<|Y<|f.n-1;rw[<-z]at m b k y |-;clear z;have z0:=m.f_ 0;have aM:=m.f_ 1;have aU:=m.f_ 2;have k0:j.cell? (Z g<|a*3)=some (Y f.fr):=(b.f_ _).trans<|o 0 _ rfl;have bo:j.cell? (Z g<|a*3+1)=some (Y f.dst):=(b.f_ _).trans<|o 1 _ rfl;have aB:j.cell? (Z g<|a*3+2)=some (Y f.n):=(b.f_ _).trans<|o 2 _ rfl;have bE:=b.hG<|a*3;have bz:=b.hG<|a*3+1;have bX:=b.hG<|a*3+2;have bQ:=k.f_ 0;have af:=k.hG 0
 have U:Fs ((((j.setCell (Z g<|a*3)<|Y f.fr).setCell (Z g<|a*3+1)<|Y f.dst).setCell (Z g<|a*3+2)<|Y<|f.n-1)) (j_ g) (l.set a ⟨f.fr,f.dst,f.n-1⟩):=by
  unfold Fs;exact s2 Fo.E pi Q ⟨f.fr,f.dst,f.n-1⟩ rfl b ap s_
 have B:=((k.ir (p:=(Z g<|a*3)) v<|Y f.fr).ir (p:=(Z g<|a*3+1)) v<|Y f.dst).ir (p:=(Z g<|a*3+2)) v<|Y<|f.n-1;have x:J [r] _ _:=(G_ [r]<|(((j.setCell (Z g<|a*3)<|Y f.fr).setCell (Z g<|a*3+1)<|Y f.dst).setCell (Z g<|a*3+2)<|Y<|f.n-1)).setCell (p:=(Z r 0)) (.inl s_)<|.slice (j_ g) l.length n;have V:=((y.setCell (p:=(Z g<|a*3)) (.inr u)<|Y f.fr).setCell (p:=(Z g<|a*3+1)) (.inr u)<|Y f.dst).setCell (p:=(Z g<|a*3+2)) (.inr u)<|Y<|f.n-1;have iS:(lA l s e).length=l.length:=by rw[D.out];simp
 go_wp2;refine rr_ #[.slice (j_ g) l.length n] (B.hW 0<|.slice (j_ g) l.length n) underlying96 ⟨some<|Z g 0,n,by rw[iS],?_,by rw[iS];exact bZ,V.jT x a2⟩;rw[D.out,T.out];unfold Fs;rw[G3];have H:Sl ((((j.setCell (Z g<|a*3)<|Y f.fr).setCell (Z g<|a*3+1)<|Y f.dst).setCell (Z g<|a*3+2)<|Y<|f.n-1)) 168 3 (j_ g) l.length ((l.set a ⟨f.fr,f.dst,f.n-1⟩).flatMap Fo.E):=by have q:=U;unfold Fs at q;rw[G3]at q;exact q
 exact Sl.iy H B I x
def zK(l:QD)(a b:Int)(h:Fs w A l)(d:l.length<=1000000000)(e:∀f∈l, -1000<=f.n/\f.n<=1000):
 Calls prog 51 #[.agg #[.slice A l.length c],Y a,Y b] w (zp (lA l a b) w):=by
 cases t:pz l a with
 |false=>exact zJ A c l a b w h d t
 |true=>exact zI A c l a b w h d t e
def Eq(l:QR)(hH hC x:Int):Prop:=ng l x=true/\jI l hH hC x=false/\ -1000000000<=x/\x<=1000000000
def D0(l:QR)(hH hC:Int)(w:World)(e:Ending)(w':World):Prop:=∃(A:OA) (d:Nat) (xs:QS),e=.returned (.slice A xs.length d)/\Ns w' 3 A xs/\xs.length<=16/\(∀x∈xs,Eq l hH hC x)/\J [] w w'
def roomOf(v:Value):Nat:=match v with
 | .slice _ n _=>16-n
 |_=>0
def AF(o:OA)(x:Nat)(b:QD)(hT n:Int)(h:Is w A l)(v:l.length<=1000000000)(au:Fs w o b)(H:b.length<=1000000000)(i:∀f∈b, -1000000000<=f.dst/\f.dst<=1000000000)(aH: -1000000000<=hT)(b0:hT<=1000000000):
 Calls prog 53 #[.agg #[.slice A l.length c,Y hH,Y hC],.agg #[.slice o b.length x],Y hT,Y n] w (D0 l hH hC w):=by
 obtain⟨bM,bK,bC,be,bu⟩:=info_parts infoInt;obtain⟨d,m,M⟩:=qU w 26 #[.slice A l.length c,Y hH,Y hC] 96 #[.slice o b.length x];go_enter func53,ntmps53;go_upto_region 1 with fail;obtain⟨bw,V⟩:=nm_<|(w.alloc<|.cells #[.slice A l.length c,Y hH,Y hC] 26).alloc<|.cells #[.slice o b.length x] 96;rw[<-V]at d m M |-;clear V;obtain⟨aj,G⟩:=nm_ w.heap.size;obtain⟨gs,L⟩:=nm_<|w.heap.size+1;rw[<-L]at m;rw[<-G]at d;rw[<-L,<-G];clear L G;go_wp2
 go_loopw [9,10,11] (λU al an wr=>∃(N1:OA) (k aV:Nat) (xs:QS) (a:Int) (P:Bool),U=.slice N1 k aV/\al=Y a/\an=.bool P/\k=xs.length/\k<=16/\(∀z∈xs,Eq l hH hC z)/\ -1000000000<=a/\a<=1000000000/\wr.ownsRow w.heap.size 3 1 (.slice N1 k aV) k (xs.map<|Value.int .i64)/\Bk wr aj 26 #[.slice A l.length c,Y hH,Y hC]/\Bk wr gs 96 #[.slice o b.length x]/\J [] w wr) (λU _ _ _=>roomOf U)
 case atStart=>exact⟨none,0,0,[],hT,true,rfl,rfl,rfl,rfl,R_ _,(λz T=>by cases T),aH,b0,i4 _ _ _ _,d,m,M⟩
 clear d m M;obtain⟨N1,k,aV,xs,a,P,rfl,rfl,rfl,hn0,ao,R,E,D,am,d,m,F⟩:=hrel;have ae:=O hn0;clear hn0;cases P with
 |false=>
  exact Ln
 |true=>
  by_cases h1:(k:Int)<n
  .by_cases h2:(k:Int)<16
   .have av:=d.f_ 0;have af:=d.f_ 1;have ay:=d.f_ 2;cases u:ng l a with
    |false=>
     go_wp2_with (go_at_call 97;have j:=mg A c l hH hC a (h.hF F) v E D;rw[u]at j;refine j.mono ?_;rintro r w1⟨rfl,e⟩);all_goals go_ret
     all_goals exact⟨N1,aV,xs,by rw[<-ae.out];rfl,(by unfold Ns;rw[<-ae.out];exact Sl.iZ<|iO am e),(ov ae.out),R,F.trans e⟩
    |true=>
     cases K:jI l hH hC a with
     |true=>
      go_wp2_with (first|(go_at_call 97;have j:=mg A c l hH hC a (h.hF F) v E D;rw[u]at j;refine j.mono ?_;rintro r w1⟨rfl,e⟩;have z0:=(d.hF e).f_ 0;have Z:=(d.hF e).f_ 1;have aU:=(d.hF e).f_ 2)|(go_at_call 83;have j:=lH A c l hH hC a (h.hF<|F.trans e) v;rw[K]at j;refine j.mono ?_;rintro r y⟨rfl,B⟩));all_goals go_ret
      all_goals exact⟨N1,aV,xs,by rw[<-ae.out];rfl,(by unfold Ns;rw[<-ae.out];exact Sl.iZ<|iO am<|e.trans B),(ov ae.out),R,(F.trans e).trans B⟩
     |false=>
      have ax:=O u;have az:=O K;go_upto_region 4 with(first|(go_at_call 97;have j:=mg A c l hH hC a (h.hF F) v E D;rw[u]at j;refine j.mono ?_;rintro r w1⟨rfl,e⟩;have z0:=(d.hF e).f_ 0;have Z:=(d.hF e).f_ 1;have aU:=(d.hF e).f_ 2)|(go_at_call 83;have j:=lH A c l hH hC a (h.hF<|F.trans e) v;rw[K]at j;refine j.mono ?_;rintro r y⟨rfl,B⟩));clear u K z0 Z aU av af ay;have p:J [] wr (y.alloc<|.cells #[Y a] 3):=(e.trans B).alloc _;have aR:=iO am p;have ap:Sl (y.alloc<|.cells #[Y a] 3) 3 1 (j_ y.heap.size) 1 [Y a]:=k2 (s:=1) (T_ y 3 #[Y a]) rfl;have t:=(F.trans p).size;have aA:=d.hF p;have aB:=m.hF p;go_upto_region 5 with(at_builtin;refine iQ _ rfl (.tmp 36) (.tmp 38) 30 rfl w.heap.size 3 bM _ 1 8 underlying30 bK bC be bu rfl I I N1 k aV _ rfl aR _ 1 1 _ rfl ap (by intro aC hu;simp at hu;subst hu;rfl) X t ?_;intro aw ai aD ar N;have q:=N.bk aA I;have aF:=N.bk aB I;have aG:=aF.f_ 0);have W:=N.gr [] w (I_ _)<|F.trans p;go_wp2_with (go_at_call 101;((with_reducible refine(Aq o x b a (au.hF W) H).mono ?_);rintro r NY⟨rfl,C⟩));go_roundw
      case rel=>
       have g: -1000000000<=(if pz b a=true then(b.getD (lG b a) default).dst else 0)/\(if pz b a=true then(b.getD (lG b a) default).dst else 0)<=1000000000:=by
        split;rename_i S;have ag:=by unfold pz at S;simp at S;exact S.1
        have hm:b.getD (lG b a) default∈b:=by rw[List.getD,O_ ag];exact P_ ag
        exact i _ hm;omega
       exact⟨aw,k+1,ai,xs++[a],_,_,rfl,rfl,rfl,by rw[M_,<-ae.out];rfl,X,(λz T=>by
        rcases X_.1 T with Q|Q
        exact R z Q;have:z=a:=zu Q;subst this;exact⟨ax.out,az.out,E,D⟩),g.1,g.2,by rw[GN];exact iO ar C,q.hF C,aF.hF C,W.trans C⟩
      case measure=>simp[roomOf];omega
   exact Ln
  exact Ln
def qn(l:QT)(id f:Int)(h:Os w A l)(i:nv w l)(d:l.length<=1000000000)(b:iw (hY l) id f=none):
 Calls prog 148 #[.agg #[.slice A l.length c],Y id,Y f] w λe w'=>e=.returned (.tuple #[.agg #[.bool false,Y 0],.bool false])/\J [] w w':=by
 have a:=kL A c l id f w h i d;rw[b]at a;exact a
def oK(l:QT)(id f:Int)(v:Vl)(h:Os w A l)(i:nv w l)(d:l.length<=1000000000)(b:iw (hY l) id f=some v):
 Calls prog 148 #[.agg #[.slice A l.length c],Y id,Y f] w λe w'=>e=.returned (.tuple #[.agg #[.bool v.r,Y v.n],.bool true])/\J [] w w':=by
 have a:=kL A c l id f w h i d;rw[b]at a;exact a
def zD(h:QQ)(c:Cl):Bool:=match iw h c.id c.f with
 |none=>true
 |some v=> !(v.r==c.v.r&&v.n==c.v.n)
def k1(h:QQ)(l:QV):Option Cl:=l.find?<|zD h
def uS(c:OA)(cc:Nat)(b:QV)(af:mh w hA hc hl)(bE:hl.length<=1000000000)(V:Cs w c b)(bX:b.length<=1000000000):
 Calls prog 181 #[.agg #[.slice hA hl.length hc],.slice c b.length cc] w λe w'=>e=.returned (.tuple #[.agg #[Y ((k1 (hY hl) b).getD default).id,Y ((k1 (hY hl) b).getD default).f,.bool ((k1 (hY hl) b).getD default).v.r,Y ((k1 (hY hl) b).getD default).v.n],.bool (k1 (hY hl) b).isSome])/\J [] w w':=by
 obtain⟨m,n,r⟩:=qU w 35 #[.slice hA hl.length hc] 116 #[Y 0,Y 0,.bool false,Y 0];have t:=O (show b.length=b.length from rfl);obtain⟨q,o⟩:=nm_ b.length;have N:=O o;rw[<-o];rw[<-o]at bX;clear o;go_enter func181,ntmps181;go_upto_region 1 with fail;obtain⟨bw,I⟩:=nm_<|(w.alloc<|.cells #[.slice hA hl.length hc] 35).alloc<|.cells #[Y 0,Y 0,.bool false,Y 0] 116;rw[<-I]at m n r |-;clear I;obtain⟨bK,s⟩:=nm_ w.heap.size;obtain⟨gr,B⟩:=nm_<|w.heap.size+1;rw[<-B]at n;rw[<-s]at m;rw[<-B,<-s];have a2:w.heap.size<=gr:=X;clear s B;go_wp2
 go_loopw [12] (λH wr=>∃d:Nat,d<=q/\H=Y d/\k1 (hY hl) b=(b.drop d).find? (zD<|hY hl)/\Bk wr bK 35 #[.slice hA hl.length hc]/\Bk wr gr 116 #[Y 0,Y 0,.bool false,Y 0]/\J [] w wr) (λH _=>q-(intOf H).toNat)
 case atStart=>exact⟨0,R_ _,rfl,rfl,m,n,r⟩
 clear m n r;obtain⟨d,hk,rfl,M,R,E,F⟩:=hrel;have i:=O M;clear M;by_cases U:d<q
 .have K:d<b.length:=by rw[<-N.out];exact U
  obtain⟨al,off,T,bt,W,bW,bL⟩:=(V.hF F).at_ K;subst T;have Q:=W_ K;generalize b[d]=am at*;obtain⟨g,aD,xr,l⟩:=am;simp only at bt W bW bL;have k:=O Q;clear Q;have aJ:=(G_ [] wr).alloc<|.cells #[Y g,Y aD,.bool xr,Y l] 116;have L:Bk (wr.alloc<|.cells #[Y g,Y aD,.bool xr,Y l] 116) wr.heap.size 116 #[Y g,Y aD,.bool xr,Y l]:=T_ wr _ _;have an:=(R.hF aJ).f_ 0;have D:=af.hF F;cases y:iw (hY hl) g aD with
  |none=>
   have aL:=O (show k1 (hY hl) b=some ⟨g,aD,⟨xr,l⟩⟩ by rw[i.out,k.out,I4];unfold zD;simp only[y]);go_wp2_with (go_at_call 148;have ad:=qn hA hc hl g aD (D.hF aJ).os (D.hF aJ).ll bE y;refine ad.mono ?_;rintro e ae⟨rfl,S⟩;have z:=((L.hF S).alloc<|.cells #[.bool false,Y 0] 38);have j:=((E.hF aJ).hF S).alloc<|.cells #[.bool false,Y 0] 38;have ar:=T_ ae 38 #[.bool false,Y 0];have v0:=z.f_ 0;have v1:=z.f_ 1;have bn:=z.f_ 2;have v3:=z.f_ 3;have ah:=ar.f_ 0;have N3:=ar.f_ 1;have bQ:=j.f_ 0;have r1:=j.f_ 1;have r2:=j.f_ 2;have r3:=j.f_ 3;have s0:=j.hG 0;have s1:=j.hG 1;have bT:=j.hG 2;have cj:=j.hG 3);exact JW
  |some v=>
   obtain⟨a,h⟩:=v;have x:=O (show zD (hY hl) ⟨g,aD,⟨xr,l⟩⟩= !(a==xr&&h==l) by unfold zD;simp only[y]);cases C:(a==xr)with
   |false=>
    have aL:=O (show k1 (hY hl) b=some ⟨g,aD,⟨xr,l⟩⟩ by rw[i.out,k.out,I4];rw[x.out,C];rfl);exact Jw
   |true=>
    cases P:(h==l)with
    |false=>
     have aL:=O (show k1 (hY hl) b=some ⟨g,aD,⟨xr,l⟩⟩ by rw[i.out,k.out,I4];rw[x.out,C,P];rfl);exact Jw
    |true=>
     have aL:=O (show k1 (hY hl) b=(b.drop<|d+1).find? (zD<|hY hl) by rw[i.out,k.out,List.find?_cons_of_neg];rw[x.out,C,P];decide);go_wp2_with (go_at_call 148;have ad:=oK hA hc hl g aD ⟨a,h⟩ (D.hF aJ).os (D.hF aJ).ll bE y;refine ad.mono ?_;rintro e ae⟨rfl,S⟩;have z:=((L.hF S).alloc<|.cells #[.bool a,Y h] 38);have j:=((E.hF aJ).hF S).alloc<|.cells #[.bool a,Y h] 38;have ar:=T_ ae 38 #[.bool a,Y h];have bn:=z.f_ 2;have v3:=z.f_ 3;have ah:=ar.f_ 0;have N3:=ar.f_ 1);go_roundw;exact⟨d+1,X,gn,aL.out,((R.hF aJ).hF S).alloc _,j,((F.trans aJ).trans S).alloc _⟩;exact mz
 have k:d=q:=X;have aL:=O (show k1 (hY hl) b=none by rw[i.out,k,N.out,List.drop_length];rfl);have bQ:=E.f_ 0;have r1:=E.f_ 1;have r2:=E.f_ 2;have r3:=E.f_ 3;have s0:=E.hG 0;have s1:=E.hG 1;have bT:=E.hG 2;have cj:=E.hG 3;go_wp2;refine Ha (v:=.tuple #[.agg #[Y 0,Y 0,.bool false,Y 0],.bool false]) (iI (p:=4) (u:=5) rfl rfl (((((E.hW 0<|Y 0).hW 1<|Y 0).hW 2<|.bool false).hW 3<|Y 0)) underlying116 rfl k_) rfl ?_;rw[aL.out];exact⟨rfl,(((F.setCell (p:=(Z gr 0)) (.inr a2) _).setCell (p:=(Z gr 1)) (.inr a2) _).setCell (p:=(Z gr 2)) (.inr a2) _).setCell (p:=(Z gr 3)) (.inr a2) _⟩
def sC(C:mh w hA hc hl)(y:hl.length<=1000000000)(B:kV w t)(z:t.rs.l.length<=1000000000):
 Calls prog 150 #[.agg #[.slice hA hl.length hc],.agg t.g_] w λe w'=>∃(E b:Int) (r:Bool) (n:Int),e=.returned (.tuple #[.agg #[Y E,Y b,.bool r,Y n],.bool (k1 (hY hl) t.rs.l).isNone])/\J [] w w':=by
 obtain⟨o,i,f,N2⟩:=xO w 35 #[.slice hA hl.length hc] 53 t.g_ 116 #[Y 0,Y 0,.bool false,Y 0];go_enter func150,ntmps150;go_upto_region 1 with fail;obtain⟨K,s⟩:=nm_<|((w.alloc<|.cells #[.slice hA hl.length hc] 35).alloc<|.cells t.g_ 53).alloc<|.cells #[Y 0,Y 0,.bool false,Y 0] 116;rw[<-s]at o i f N2 |-;clear s;obtain⟨W,j⟩:=nm_ w.heap.size;obtain⟨gt,h⟩:=nm_<|w.heap.size+1;obtain⟨gr,k⟩:=nm_<|w.heap.size+1+1;rw[<-k]at f;rw[<-h]at i;rw[<-j]at o;rw[<-k,<-h,<-j];have a2:w.heap.size<=gr:=X;clear j k h;have V:=o.f_ 0;have c:K.cell? (Z gt 37)=some (.slice t.rs.A t.rs.l.length t.rs.c):=(i.f_ 37).trans rfl
 cases aW:k1 (hY hl) t.rs.l with
 |none=>
  obtain⟨x,q⟩:=mn_<|(none:Option Cl).getD default;go_wp2_with (go_at_call 181;((with_reducible refine(uS hA hc hl t.rs.A t.rs.c t.rs.l (C.hF N2) y (B.hF N2).rs z).mono ?_);rw[aW,q];rintro e m⟨rfl,S⟩;have a:=(f.hF S).alloc<|.cells #[Y x.id,Y x.f,.bool x.v.r,Y x.v.n] 116;have d:=T_ m 116 #[Y x.id,Y x.f,.bool x.v.r,Y x.v.n];have F:=d.f_ 0;have D:=d.f_ 1;have N:=d.f_ 2;have L:=d.f_ 3;have H:=a.f_ 0;have O:=a.f_ 1;have P:=a.f_ 2;have Q:=a.f_ 3;have R:=a.hG 0;have T:=a.hG 1;have I:=a.hG 2;have M:=a.hG 3));refine Ha (v:=.tuple #[.agg #[Y x.id,Y x.f,.bool x.v.r,Y x.v.n],.bool true]) (iI (p:=4) (u:=5) rfl rfl (((((a.hW 0<|Y x.id).hW 1<|Y x.f).hW 2<|.bool x.v.r).hW 3<|Y x.v.n)) underlying116 rfl k_) rfl ?_;exact KG
 |some U=>
  obtain⟨x,q⟩:=mn_<|(some U:Option Cl).getD default;go_wp2_with (go_at_call 181;((with_reducible refine(uS hA hc hl t.rs.A t.rs.c t.rs.l (C.hF N2) y (B.hF N2).rs z).mono ?_);rw[aW,q];rintro e m⟨rfl,S⟩;have a:=(f.hF S).alloc<|.cells #[Y x.id,Y x.f,.bool x.v.r,Y x.v.n] 116;have d:=T_ m 116 #[Y x.id,Y x.f,.bool x.v.r,Y x.v.n];have F:=d.f_ 0;have D:=d.f_ 1;have N:=d.f_ 2;have L:=d.f_ 3;have H:=a.f_ 0;have O:=a.f_ 1;have P:=a.f_ 2;have Q:=a.f_ 3;have R:=a.hG 0;have T:=a.hG 1;have I:=a.hG 2;have M:=a.hG 3));refine Ha (v:=.tuple #[.agg #[Y x.id,Y x.f,.bool x.v.r,Y x.v.n],.bool false]) (iI (p:=4) (u:=5) rfl rfl (((((a.hW 0<|Y x.id).hW 1<|Y x.f).hW 2<|.bool x.v.r).hW 3<|Y x.v.n)) underlying116 rfl k_) rfl ?_;exact KG
end
variable{G:Prop}(A:OA)(c:Nat)(l:QR)(hH hC:Int)(hA:OA)(hc:Nat)(h:QQ)(hl:QT)(pc:Int)(s:Cm)(t:Tk)
def J4(h:G:=by
 clear B;go_wp2_with (first|((go_at_call 92;have ad:=iY A c l hH hC (h.hF N2) hn;rw[hv]at ad;refine ad.mono ?_;rintro e w1⟨rfl,hg1⟩);replace hR:=hR.hF hg1;replace N2:=N2.trans hg1)|(refine k6 (Cm.zero.g_) hR (Cm.one _) ?_;intro N0 az G));all_goals exact me Cm.zero.g_ (Y 1) az underlying40 ⟨Cm.zero,rfl,mi.zero _ _ rfl rfl,rfl,N2.jT G a2⟩):G:=h
def Kv(h:G:=by
 clear bL;go_wp2_with (go_at_call 83;have ad:=lH A c l hH hC s.hT (h.hF N2) hn;rw[j]at ad;refine ad.mono ?_;rintro e T⟨rfl,NZ⟩;have aT:T.cell? (Z aV 0)=some (Y f.h7):=((hE.hF NZ).f_ 0).trans rfl);go_meet;exact⟨jk a8.out.symm,NZ⟩):G:=h
def K0(h:G:=by
 clear C;refine hZ H ⟨(D.hF h).f_ 0,(au.hF h).f_ 1,(ak.hF h).f_ 0,(h).f_ ky s_⟩ λC=>?_;clear H K;refine iC 18 C ?_;refine hN k_ ?_ _;go_wp2;go_meet;exact⟨_,rfl,rfl,h⟩):G:=h
def K4(h:G:=by
 go_wp2_with (refine k6 (Cm.zero.g_) hR (Cm.one _) ?_;intro N0 az G);all_goals exact me Cm.zero.g_ (Y 7) az underlying40 ⟨Cm.zero,rfl,mi.zero _ _ rfl rfl,rfl,N2.jT G a2⟩):G:=h
def LV(h:G:=by
 go_roundw;exact⟨k+1,X,gn,by rw[HI.out,aZ.out],N0.hF V,D.hF V,N1.hF V,F.trans V⟩;exact mz):G:=h
def Mr(h:G:=by
 all_goals go_ret
 all_goals rw[HM.out]
 all_goals exact⟨rfl,((F.trans aJ).trans S).alloc _⟩):G:=h
def MO(h:G:=by
 by_cases h3:s.hT<0\/(l.length:Int)<=s.hT;rw[L_ h3]at h2;cases h2
 omega):G:=h
def Nr(h:G:=by
 rw[bL]at m4;clear bL;exact NA):G:=h
section
open Go.RowKit Go.Maps
def nR{H:Type}{P:Program}{e:TypeId}(a:P.underlying e=some .bool){v:Value}{z:DataW H × List MemPlace}(h:plainElem P e v=some z):∃x,v=.bool x/\z=(.lit<|.bool x,[]):=by
 unfold plainElem at h;rw[a]at h;cases v<;>simp at h
 exact⟨_,rfl,h.symm⟩
def AZ(w:World):(zeroValue 4).run prog w=.ok (.bool false) w:=by kernel_rfl
def Bm(w:World)(b n:Nat)(f:Int->Bool):Prop:=
 ∃D:DataW Unit,w.ownsMap prog 2 (plainElem prog 4) b n D/\IsMap D/\∀id:Int,(Lit.int .i64 id).wf=true->D.atKey (.int .i64 id) (.lit<|.bool false)=.lit (.bool<|f id)
section
variable{w w':World}{b n:Nat}{f:Int->Bool}
def Bm.made(w:World):Bm (w.alloc<|.map #[] 0) w.heap.size 0 (λ_=>false):=
 ⟨.map [],World.ownsMap_made w _ _ _,⟨[],rfl⟩,λid _=>rfl⟩
def Bm.lt(h:Bm w b n f):b<w.heap.size:=by obtain⟨d,a,_⟩:=h;exact a.lt
def Bm.iF(h:Bm w b n f)(hb:w'.heap[b]?=w.heap[b]?):Bm w' b n f:=MV
def Bm.hF(h:Bm w b n f)(a:J [] w w'):Bm w' b n f:=h.iF<|a.block b h.lt s_
def Bm.congr{g:Int->Bool}(h:Bm w b n f)(d:∀i,f i=g i):Bm w b n g:=by
 have a:f=g:=funext d;rw[<-a];exact h
def Bm.DR{g:Nat}{t:TypeId}{cs:Array Value}(h:Bm w b n f)(d:Bk w g t cs):g≠b:=by
 rintro rfl;obtain⟨e,⟨j,i,a,k⟩,m⟩:=h;unfold Bk at d;rw[d]at a;cases a
def Bm.lookup(h:Bm w b n f){id:Int}(d:(Lit.int .i64 id).wf=true):(Instr.lookup 105 (.map<|some b) (.int .i64 id) false).run prog w=.ok (.bool<|f id) w:=by
 obtain⟨o,i,p,j⟩:=h;obtain⟨r,q,e,k⟩:=i.lookup (int_keyed underlying2) underlying105 (AZ w) (plainElem_bool underlying4 false)<|keyOf_int_mk underlying2 d;obtain⟨u,rfl,m⟩:=nR underlying4 k;have a:=GG Prod.fst m;simp only at a;rw[j id d]at a;have g:=Lit.bool.inj<|DataW.lit.inj a;rw[g];exact e
def Bm.update(h:Bm w b n f)(p:n<maxLen){id:Int}{v:Bool}(g:(Lit.int .i64 id).wf=true):
 ∃w',(Instr.mapUpdate 105 (.map<|some b) (.int .i64 id)<|.bool v).run prog w=.ok () w'/\Bm w' b (n+1) (λi=>if i=id then v else f i)/\w.grownBy w' (some b):=by
 obtain⟨q,o,a,h3⟩:=h;obtain⟨w',d,j,m⟩:=o.update (int_keyed underlying2) underlying105 p (keyOf_int_mk underlying2 g)<|plainElem_bool underlying4 v;refine⟨w',d,⟨_,j,a.put _ _,λi hi=>?_⟩,m⟩;by_cases he:i=id;subst he;show _=DataW.lit (.bool (if i=i then v else f i));rw[L_ rfl];exact atKey_put_same (k:=.int .i64 i) a trivial _ _;show _=DataW.lit (.bool (if i=id then v else f i));exact MJ
end
def uM(h:QQ)(d:Dl):Bool:=match iw h d.id d.f with
 |none=>true
 |some v=>v.r
def uG(h:QQ)(o:Ob):Bool:=(jy h o.id).isSome
def xf(nw:QQ)(id:Int):Bool:=i7 (λo:Ob=>o.id==id) nw
def AQ(h nw:QQ)(c:Cl):Bool:=(iw h c.id c.f).isNone&& !(xf nw c.id)
def qb(h:QQ)(t:iP):Int:=
 if t.h5≠2/\t.h5≠3 then 7 else
 if(k1 h t.rs).isSome=true then 14 else
 if i7 (uM h) t.ds=true then 14 else
 if i7 (uG h) t.nw=true then 9 else
 if i7 (AQ h t.nw) t.ws=true then 9 else 0
def Ap{nw:QQ}{k:Nat}(d:k<nw.length)(i:Int):xf (nw.take<|k+1) i=(if i=nw[k].id then true else xf (nw.take k) i):=by
 unfold xf i7;rw[Y_ d,List.any_append];simp only[I2,List.any_nil,Bool.or_false];by_cases h:i=nw[k].id;rw[L_ h,h];simp;rw[K_ h];have:(nw[k].id==i)=false:=by simpa using λa=>h a.symm
 rw[this,Bool.or_false]
def sM{w:World}(j:mh w hA hc hl)(C:hl.length<=1000000000)(ht:kV w t)(am:t.p.sm 500000)(bK:∀r∈t.nw.l,m5 r.o.id)(aL:∀c∈t.ws.l,m5 c.id):
 Calls prog 100 #[.agg #[.slice hA hl.length hc],.agg t.g_] w λe w'=>e=.returned (.int .i64<|qb (hY hl) t.p)/\J [] w w':=by
 have aF:t.rs.l.length<=1000000000:=H_ am.rs I;have bz:t.ds.l.length<=1000000000:=H_ am.ds I;have bC:t.ws.l.length<=1000000000:=H_ am.ws I;have bB:t.nw.l.length<=1000000:=by have:=am.nw;have e:t.p.nw.length=t.nw.l.length:=ib _;omega
 obtain⟨B,hP⟩:=mn_<|qb (hY hl) t.p;rw[hP];have aQ:=O hP;clear hP;obtain⟨D,N1,z⟩:=qU w 35 #[.slice hA hl.length hc] 53 t.g_;go_enter func100,ntmps100;go_upto_region 1 with fail;obtain⟨bw,al⟩:=nm_<|(w.alloc<|.cells #[.slice hA hl.length hc] 35).alloc<|.cells t.g_ 53;rw[<-al]at D N1 z |-;clear al;obtain⟨ap,NZ⟩:=nm_ w.heap.size;obtain⟨gt,an⟩:=nm_<|w.heap.size+1;rw[<-an]at N1;rw[<-NZ]at D;rw[<-an,<-NZ];clear an NZ;have cj:bw.cell? (Z gt 42)=some (.int .i64 t.h5):=(N1.f_ 42).trans rfl;have T:=D.f_ 0;have aN:=N1.f_ 37
 by_cases E:t.h5≠2/\t.h5≠3
 .have HM:Hid (B=7):=O (by rw[<-aQ.out];unfold qb;exact L_ E);have bj:(t.h5 !=2)=true:=zu E.1;have bH:(t.h5 !=3)=true:=zu E.2;clear E;go_wp2;go_ret;rw[HM.out];exact⟨rfl,z⟩
 have bJ:Hid (B=if(k1 (hY hl) t.rs.l).isSome=true then 14 else if i7 (uM<|hY hl) t.ds.l=true then 14 else if i7 (uG<|hY hl) (hY t.nw.l)=true then 9 else if i7 (AQ (hY hl)<|hY t.nw.l) t.ws.l=true then 9 else 0):=O (by rw[<-aQ.out];unfold qb;exact K_ E);clear aQ;have bg:∀(q:Prop),q->q:=λ_ h=>h;clear bg;go_cut [27] (λb aX=>b=.bool false/\aX=bw)
 case first=>
  by_cases d:t.h5=2
  .have bj:(t.h5 !=2)=false:=by simp[d]
   clear E d;go_wp2;go_meet;exact NV
  have g:t.h5=3:=by
   by_cases g:t.h5=3;exact g;exact GR ⟨d,g⟩ E
  have bj:(t.h5 !=2)=true:=zu d;have bH:(t.h5 !=3)=false:=by simp[g]
  clear E d g;go_wp2;go_meet;exact NV
 case rest=>
 obtain⟨rfl,d0⟩:=hcut;subst wc;clear E;have bq:∀aA,aA<48->bw.cell? (Z gt<|0+aA)=t.g_[aA]?:=λaA _=>by rw[U_];exact N1.f_ aA
 cases H:(k1 (hY hl) t.rs.l).isSome with
 |true=>
  have bZ:(k1 (hY hl) t.rs.l).isNone=false:=by cases h:k1 (hY hl) t.rs.l with|none=>rw[h]at H;cases H|some _=>rfl
  have HM:Hid (B=14):=O (by rw[bJ.out,L_ H]);clear H;go_wp2_with (first|(refine la N1 underlying53 ?_)|(go_at_call 150;((with_reducible refine(sC hA hc hl t (j.hF z) C (ht.hF z) aF).mono ?_);rw[bZ];rintro e a⟨aP,rb,aT,aO,rfl,S⟩)));all_goals go_ret
  all_goals rw[HM.out]
  all_goals exact⟨rfl,(z.trans S).alloc _⟩
 |false=>
  have bZ:(k1 (hY hl) t.rs.l).isNone=true:=by cases h:k1 (hY hl) t.rs.l with|none=>rfl|some _=>rw[h]at H;cases H
  have aq:Hid (B=if i7 (uM<|hY hl) t.ds.l=true then 14 else if i7 (uG<|hY hl) (hY t.nw.l)=true then 9 else if i7 (AQ (hY hl)<|hY t.nw.l) t.ws.l=true then 9 else 0):=O (by rw[bJ.out,K_<|by rw[H];decide]);clear H bJ;go_upto_region 6 with(first|(refine la N1 underlying53 ?_)|(go_at_call 150;((with_reducible refine(sC hA hc hl t (j.hF z) C (ht.hF z) aF).mono ?_);rw[bZ];rintro e a⟨aP,rb,aT,aO,rfl,S⟩)));have aG:J [] bw (a.alloc<|.cells #[.int .i64 aP,.int .i64 rb,.bool aT,.int .i64 aO] 116):=S.alloc _;replace D:=D.hF aG;replace N1:=N1.hF aG;replace z:=z.trans aG;clear aG S T cj aN bq;obtain⟨bd,bf⟩:=nm_<|a.alloc<|.cells #[.int .i64 aP,.int .i64 rb,.bool aT,.int .i64 aO] 116;rw[<-bf]at D N1 z |-;clear bf;have bh:bd.cell? (Z gt 40)=some (.slice t.ds.A t.ds.l.length t.ds.c):=(N1.f_ 40).trans rfl;go_wp2
  go_loopw [39] (λu wr=>∃k:Nat,k<=t.ds.l.length/\u=.int .i64 k/\i7 (uM<|hY hl) t.ds.l=i7 (uM<|hY hl) (t.ds.l.drop k)/\Bk wr ap 35 #[.slice hA hl.length hc]/\Bk wr gt 53 t.g_/\J [] w wr) (λu _=>t.ds.l.length-(intOf u).toNat)
  case atStart=>exact⟨0,R_ _,rfl,rfl,D,N1,z⟩
  clear D N1 z bh;obtain⟨k,hk,rfl,G,D,N1,F⟩:=hrel;have HI:=O G;clear G;by_cases y:k<t.ds.l.length
  .have K:(k:Int)<(t.ds.l.length:Int):=X;obtain⟨b,off,W,bt,bA,bW,bL,bD⟩:=(ht.ds.hF F).at_ y;rw[W];have L:=O<|pm (p:=uM<|hY hl) y;have s:=O<|oU (p:=uM<|hY hl) y;generalize t.ds.l[k]=bk at*;obtain⟨N,M,aY,Q,aW⟩:=bk;simp only at bt bA bW bL bD;have aJ:J [] wr (wr.alloc<|.cells #[.int .i64 N,.int .i64 M,.int .i64 aY,.bool Q,.int .i64 aW] 124):=(G_ [] wr).alloc _;have x:=T_ wr 124 #[.int .i64 N,.int .i64 M,.int .i64 aY,.bool Q,.int .i64 aW];have aV:=x.f_ 0;have au:=x.f_ 1;have T:=(D.hF aJ).f_ 0;cases g:iw (hY hl) N M with
   |none=>
    have HM:Hid (B=14):=O (by rw[aq.out,HI.out,L.out (by unfold uM;simp only[g]),L_ rfl]);go_wp2_with (go_at_call 148;have m:=qn hA hc hl N M (j.hF<|F.trans aJ).os (j.hF<|F.trans aJ).ll C g;refine m.mono ?_;rintro e a⟨rfl,S⟩;have i:=T_ a 38 #[.bool false,.int .i64 0];have Y:=i.f_ 0;have R:=i.f_ 1;have U:=(x.hF<|S.alloc<|.cells #[.bool false,.int .i64 0] 38).f_ 0);exact Mr
   |some d=>
    cases P:d.r with
    |true=>
     have HM:Hid (B=14):=O (by rw[aq.out,HI.out,L.out (by unfold uM;simp only[g];exact P),L_ rfl]);go_wp2_with (go_at_call 148;have m:=oK hA hc hl N M d (j.hF<|F.trans aJ).os (j.hF<|F.trans aJ).ll C g;refine m.mono ?_;rintro e a⟨rfl,S⟩;have i:=T_ a 38 #[.bool d.r,.int .i64 d.n];have Y:=(i.f_ 0).trans<|GG (λq=>some<|Value.bool q) P;have R:=i.f_ 1;have U:=(x.hF<|S.alloc<|.cells #[.bool d.r,.int .i64 d.n] 38).f_ 0);exact Mr
    |false=>
     have aZ:=O (s.out<|by unfold uM;simp only[g];exact P);go_wp2_with (go_at_call 148;have m:=oK hA hc hl N M d (j.hF<|F.trans aJ).os (j.hF<|F.trans aJ).ll C g;refine m.mono ?_;rintro e a⟨rfl,S⟩;have i:=T_ a 38 #[.bool d.r,.int .i64 d.n];have Y:=(i.f_ 0).trans<|GG (λq=>some<|Value.bool q) P;have R:=i.f_ 1;have U:=(x.hF<|S.alloc<|.cells #[.bool d.r,.int .i64 d.n] 38).f_ 0);have V:J [] wr (a.alloc<|.cells #[.bool false,.int .i64 d.n] 38):=(aJ.trans S).alloc _;go_roundw;exact⟨k+1,X,gn,by rw[HI.out,aZ.out],D.hF V,N1.hF V,F.trans V⟩;exact mz
  have K:¬(k:Int)<(t.ds.l.length:Int):=X;have aw:Hid (B=if i7 (uG<|hY hl) (hY t.nw.l)=true then 9 else if i7 (AQ (hY hl)<|hY t.nw.l) t.ws.l=true then 9 else 0):=O (by rw[aq.out,HI.out,rD X,K_ I]);clear aq HI y;have A:wr.cell? (Z gt 39)=some (.slice t.nw.A t.nw.l.length t.nw.c):=(N1.f_ 39).trans rfl;have aS:= @run_makeMap prog;have aM:=Bm.made wr;have be:w.heap.size<=wr.heap.size:=F.size;have bl:J [] wr (wr.alloc<|.map #[] 0):=(G_ [] wr).alloc _;replace D:=D.hF bl;replace N1:=N1.hF bl;have bm:=F.trans bl;go_upto_region 14 with fail;clear K A aS F bl;obtain⟨aK,av⟩:=nm_<|wr.alloc<|.map #[] 0;rw[<-av]at D N1 aM bm |-;clear av;generalize wr.heap.size=P at*;have A:aK.cell? (Z gt 39)=some (.slice t.nw.A t.nw.l.length t.nw.c):=(N1.f_ 39).trans rfl;have bv:w.heap.size<=P:=be;clear be;go_wp2
  go_loopw [63] (λu wr=>∃k:Nat,k<=t.nw.l.length/\u=.int .i64 k/\i7 (uG<|hY hl) (hY t.nw.l)=i7 (uG<|hY hl) ((hY t.nw.l).drop k)/\Bm wr P k (xf<|(hY t.nw.l).take k)/\Bk wr ap 35 #[.slice hA hl.length hc]/\Bk wr gt 53 t.g_/\J [] w wr) (λu _=>t.nw.l.length-(intOf u).toNat)
  case atStart=>exact⟨0,R_ _,rfl,rfl,aM.congr λu=>rfl,D,N1,bm⟩
  clear D N1 bm A aM;obtain⟨k,hk,rfl,G,N0,D,N1,F⟩:=hrel;have HI:=O G;clear G;by_cases y:k<t.nw.l.length
  .have K:(k:Int)<(t.nw.l.length:Int):=X;have az:k<(hY t.nw.l).length:=by rw[ib];exact y
   obtain⟨b,off,W,bt,bA⟩:=(ht.nw.hF F).at_ y;rw[W];have af:(hY t.nw.l)[k]=t.nw.l[k].o:=by simp[hY]
   have L:=O<|pm (p:=uG<|hY hl) az;have s:=O<|oU (p:=uG<|hY hl) az;have bi:=O<|Ap az;rw[af]at L s bi;have Q:=bK t.nw.l[k]<|P_ y;clear af;generalize t.nw.l[k]=r at*;have aJ:J [] wr (wr.alloc<|.cells #[.int .i64 r.o.id,.slice r.A r.o.fs.length r.c] 56):=(G_ [] wr).alloc _;have x:=T_ wr 56 #[.int .i64 r.o.id,.slice r.A r.o.fs.length r.c];have aV:=x.f_ 0;have T:=(D.hF aJ).f_ 0;cases g:jy (hY hl) r.o.id with
   |some o=>
    have HM:Hid (B=9):=O (by rw[aw.out,HI.out,L.out (by unfold uG;rw[g];rfl),L_ rfl]);go_wp2_with (go_at_call 14;have m:=get_some hA hc hl r.o.id o _ (j.hF<|F.trans aJ).os (j.hF<|F.trans aJ).ll C g;refine m.mono ?_;rintro e a⟨M,c5,rfl,N,S⟩);exact Mr
   |none=>
    have aZ:=O (s.out<|by unfold uG;rw[g];rfl);go_upto_region 20 with(go_at_call 14;have m:=get_none hA hc hl r.o.id _ (j.hF<|F.trans aJ).os C g;refine m.mono ?_;rintro e a⟨rfl,S⟩);have V:J [] wr (a.alloc<|.cells #[.int .i64 0,n_] 56):=(aJ.trans S).alloc _;have M:=N0.hF V;have bx:=D.hF V;have N:=N1.hF V;have bT:=F.trans V;have bo:=(x.hF<|S.alloc<|.cells #[.int .i64 0,n_] 56).f_ 0;clear aV T;obtain⟨a7,aE⟩:=nm_<|a.alloc<|.cells #[.int .i64 0,n_] 56;rw[<-aE]at M bx N bT bo |-;clear aE;obtain⟨NY,bF,br,bp⟩:=M.update (show k<maxLen by simp only[maxLen];omega) (v:=true) Q;go_wp2;have ak:J [P] a7 NY:=(G_ [P] a7).grown bp (λq aj=>by injection aj with aj;subst aj;exact .inl s_);go_roundw
    exact⟨k+1,X,gn,by rw[HI.out,aZ.out],br.congr λu=>(bi.out u).symm,bx.gr ak<|zu<|M.DR bx,N.gr ak<|zu<|M.DR N,bT.jT ak bv⟩;exact mz
  have K:¬(k:Int)<(t.nw.l.length:Int):=X;have bu:Hid (B=if i7 (AQ (hY hl)<|hY t.nw.l) t.ws.l=true then 9 else 0):=O (by rw[aw.out,HI.out,rD (by rw[ib];omega),K_ I]);have aB:Bm wr P k (xf<|hY t.nw.l):=N0.congr (λu=>by rw[GY<|by rw[ib];omega]);clear aw HI y N0;have ao:wr.cell? (Z gt 38)=some (.slice t.ws.A t.ws.l.length t.ws.c):=(N1.f_ 38).trans rfl;obtain⟨m0,cq⟩:=nm_ k;rw[<-cq]at aB;obtain⟨a2,bG⟩:=nm_ wr;rw[<-bG]at aB D N1 F ao |-;clear bG;go_wp2;clear K hk cq
  go_loopw [82] (λu wr=>∃k:Nat,k<=t.ws.l.length/\u=.int .i64 k/\i7 (AQ (hY hl)<|hY t.nw.l) t.ws.l=i7 (AQ (hY hl)<|hY t.nw.l) (t.ws.l.drop k)/\Bm wr P m0 (xf<|hY t.nw.l)/\Bk wr ap 35 #[.slice hA hl.length hc]/\Bk wr gt 53 t.g_/\J [] w wr) (λu _=>t.ws.l.length-(intOf u).toNat)
  case atStart=>exact⟨0,R_ _,rfl,rfl,aB,D,N1,F⟩
  clear D N1 F ao aB;obtain⟨k,hk,rfl,G,N0,D,N1,F⟩:=hrel;have HI:=O G;clear G;by_cases y:k<t.ws.l.length
  .have K:(k:Int)<(t.ws.l.length:Int):=X;obtain⟨b,off,W,bt,bA,bW,bL⟩:=(ht.ws.hF F).at_ y;rw[W];have L:=O<|pm (p:=AQ (hY hl)<|hY t.nw.l) y;have s:=O<|oU (p:=AQ (hY hl)<|hY t.nw.l) y;have Q:=aL t.ws.l[k]<|P_ y;generalize t.ws.l[k]=bk at*;obtain⟨M,N,xr,l⟩:=bk;simp only at bt bA bW bL Q;have aJ:J [] wr (wr.alloc<|.cells #[.int .i64 M,.int .i64 N,.bool xr,.int .i64 l] 116):=(G_ [] wr).alloc _;have x:=T_ wr 116 #[.int .i64 M,.int .i64 N,.bool xr,.int .i64 l];have aV:=x.f_ 0;have au:=x.f_ 1;have T:=(D.hF aJ).f_ 0;cases g:iw (hY hl) M N with
   |some d=>
    have aZ:=O (s.out<|by unfold AQ;simp only[g];rfl);go_wp2_with (go_at_call 148;have m:=oK hA hc hl M N d (j.hF<|F.trans aJ).os (j.hF<|F.trans aJ).ll C g;refine m.mono ?_;rintro e a⟨rfl,S⟩;have i:=T_ a 38 #[.bool d.r,.int .i64 d.n];have Y:=i.f_ 0;have R:=i.f_ 1;have U:=(x.hF<|S.alloc<|.cells #[.bool d.r,.int .i64 d.n] 38).f_ 0);have V:J [] wr (a.alloc<|.cells #[.bool d.r,.int .i64 d.n] 38):=(aJ.trans S).alloc _;exact LV
   |none=>
    cases ax:xf (hY t.nw.l) M with
    |true=>
     have aZ:=O (s.out<|by unfold AQ;simp only[g,ax];rfl);go_wp2_with (go_at_call 148;have m:=qn hA hc hl M N (j.hF<|F.trans aJ).os (j.hF<|F.trans aJ).ll C g;refine m.mono ?_;rintro e a⟨rfl,S⟩;have i:=T_ a 38 #[.bool false,.int .i64 0];have Y:=i.f_ 0;have R:=i.f_ 1;have U:=(x.hF<|S.alloc<|.cells #[.bool false,.int .i64 0] 38).f_ 0;have V:J [] wr (a.alloc<|.cells #[.bool false,.int .i64 0] 38):=(aJ.trans S).alloc _;have bO:=(N0.hF V).lookup Q;rw[ax]at bO);exact LV
    |false=>
     have HM:Hid (B=9):=O (by rw[bu.out,HI.out,L.out (by unfold AQ;simp only[g,ax];rfl),L_ rfl]);go_wp2_with (go_at_call 148;have m:=qn hA hc hl M N (j.hF<|F.trans aJ).os (j.hF<|F.trans aJ).ll C g;refine m.mono ?_;rintro e a⟨rfl,S⟩;have i:=T_ a 38 #[.bool false,.int .i64 0];have Y:=i.f_ 0;have R:=i.f_ 1;have U:=(x.hF<|S.alloc<|.cells #[.bool false,.int .i64 0] 38).f_ 0;have V:J [] wr (a.alloc<|.cells #[.bool false,.int .i64 0] 38):=(aJ.trans S).alloc _;have bO:=(N0.hF V).lookup Q;rw[ax]at bO);all_goals go_ret
     all_goals rw[HM.out]
     all_goals exact⟨rfl,F.trans V⟩
  have K:¬(k:Int)<(t.ws.l.length:Int):=X;have HM:Hid (B=0):=O (by rw[bu.out,HI.out,rD X,K_ I]);go_wp2;go_ret;rw[HM.out];exact⟨rfl,F⟩
end
def l7(s:qB)(t:iP):qB:=
 if t.h5=2 then{s with h:=kG s.h t,ia:=s.ia++t.ia,iW:=s.iW+1,hK:=s.hK+t.hK,hT:=t.next}
 else{s with h:=kG s.h t,ia:=s.ia++t.ia,iW:=s.iW+1,hK:=s.hK+t.hK,jO:=true,hX:=t.hX,v:=t.v}
def oq(s:qB)(t:iP):Bool:=decide (s.jO=true\/t.hT≠s.hT)
def kY(ok:Bool)(s:qB)(t:iP):qB × Int:=
 if ok=false then(Cm.zero.p,1) else
 if oq s t=true then(Cm.zero.p,7) else
 if qb s.h t≠0 then(Cm.zero.p,qb s.h t) else(l7 s t,0)
def Cm.size:s.g_.size=10:=rfl
def v8{w:World}(h:Is w A l)(hn:l.length<=1000000000)(hs:mi w s)(ht:kV w t)(R:t.p.sm 500000)(bi:s.h.l.length<=99999999)(c6:s.ia.l.length<=100000000)(bK:∀r∈t.nw.l,m5 r.o.id)(aL:∀c∈t.ws.l,m5 c.id)(cz:0<=s.iW)(b1:s.iW<=1000000000)(b2:0<=s.hK)(b3:s.hK<=1000000000000)(dK:0<=t.hK)(ew:t.hK<=1000000):
 Calls prog 52 #[.agg #[.slice A l.length c,Y hH,Y hC],.agg s.g_,.agg t.g_] w (vF (kY (ih l hH hC) s.p t.p).1 (kY (ih l hH hC) s.p t.p).2 w):=by
 have cX:t.nw.l.length<=500000:=by have:=R.nw;have e:t.p.nw.length=t.nw.l.length:=ib _;omega
 have ag:t.ia.l.length<=1000000000:=H_ R.ia I;have aD:t.ia.l.length<=500000:=R.ia;obtain⟨K,hE⟩:=mn_<|qb (hY s.h.l) t.p;have al:=O hE;clear hE;obtain⟨⟨an,aA⟩,c3⟩:∃q,kY (ih l hH hC) s.p t.p=q:=⟨_,rfl⟩;rw[c3];have B:=O c3;clear c3;obtain⟨F,d,g,hR,N2⟩:=DX w 26 #[.slice A l.length c,Y hH,Y hC] 40 s.g_ 53 t.g_ 40 #[n_,Y 0,Y 0,n_,.bool false,.bool false,.bool false,Y 0,Y 0,Y 0];go_enter func52,ntmps52;go_upto_region 1 with fail;obtain⟨bw,aH⟩:=nm_<|(((w.alloc<|.cells #[.slice A l.length c,Y hH,Y hC] 26).alloc<|.cells s.g_ 40).alloc<|.cells t.g_ 53).alloc<|.cells #[n_,Y 0,Y 0,n_,.bool false,.bool false,.bool false,Y 0,Y 0,Y 0] 40;rw[<-aH]at F d g hR N2 |-;clear aH;obtain⟨aI,bN⟩:=nm_ w.heap.size;obtain⟨a,bl⟩:=nm_<|w.heap.size+1;obtain⟨gt,aw⟩:=nm_<|w.heap.size+1+1;obtain⟨gr,aJ⟩:=nm_<|w.heap.size+1+1+1;rw[<-aJ]at hR;rw[<-aw]at g;rw[<-bl]at d;rw[<-bN]at F;rw[<-aJ,<-aw,<-bl,<-bN];have a2:w.heap.size<=gr:=X;have aK:w.heap.size<=a:=X;have j:gt≠a/\gr≠a:=X;clear bN bl aw aJ;have aM:=F.f_ 0;have af:=F.f_ 1;have ay:=F.f_ 2
 cases hv:ih l hH hC with
 |false=>
  obtain⟨rfl,rfl⟩:=Prod.mk.inj (B.out.symm.trans<|by unfold kY;rw[hv];first|done|exact L_ rfl);exact J4
 |true=>
 go_upto_region 3 with(go_at_call 92;have ad:=iY A c l hH hC (h.hF N2) hn;rw[hv]at ad;refine ad.mono ?_;rintro e w1⟨rfl,hg1⟩);replace F:=F.hF hg1;replace d:=d.hF hg1;replace g:=g.hF hg1;replace hR:=hR.hF hg1;replace N2:=N2.trans hg1;clear hg1 aM af ay;have ax:Hid ((an,aA)=if oq s.p t.p=true then(Cm.zero.p,7) else if K≠0 then(Cm.zero.p,K) else(l7 s.p t.p,0)):=O (by
  rw[<-B.out];unfold kY;rw[hv,K_ I,show qb s.p.h t.p=K from al.out])
 go_cut [21] (λb aX=>b=.bool (oq s.p t.p)/\aX=w1)
 case first=>
  have m4:w1.cell? (Z a 4)=some (.bool s.jO):=(d.f_ 4).trans rfl;have m1:w1.cell? (Z a 1)=some (Y s.hT):=(d.f_ 1).trans rfl;have T:w1.cell? (Z gt 0)=some (Y t.hT):=(g.f_ 0).trans rfl;cases bL:s.jO with
  |true=>
   have a8:=O (show oq s.p t.p=true by unfold oq;exact Hn<|.inl bL);exact Nr
  |false=>
   have a8:=O (show oq s.p t.p=(t.hT !=s.hT) by
    unfold oq;by_cases z:t.hT=s.hT;have:(t.hT !=s.hT)=false:=by simp[z]
    rw[this];exact H4 λN=>N.elim (λD=>GR D<|by show ¬s.jO=true;rw[bL];decide) λD=>D z;have:(t.hT !=s.hT)=true:=zu z;rw[this];exact Hn<|.inr z)
   exact Nr
 case rest=>
 obtain⟨rfl,d0⟩:=hcut;subst wc;cases hcb:oq s.p t.p with
 |true=>
  obtain⟨rfl,rfl⟩:=Prod.mk.inj<|ax.out.trans<|L_ hcb;clear hcb B ax;exact K4
 |false=>
 have aO:Hid ((an,aA)=if K≠0 then(Cm.zero.p,K) else(l7 s.p t.p,0)):=O (by rw[ax.out,K_<|by rw[hcb];decide]);clear hcb ax;have m0:w1.cell? (Z a 0)=some (.slice s.h.A s.h.l.length s.h.c):=(d.f_ 0).trans rfl;by_cases V:K=0
 case neg=>
  obtain⟨rfl,z⟩:=Prod.mk.inj<|aO.out.trans<|L_ V;subst aA;have q:(K !=0)=true:=zu V;clear V aO B;go_wp2_with (first|(refine la g underlying53 ?_)|(go_at_call 100;have ad:=sM s.h.A s.h.c s.h.l t (hs.h.hF N2) X (ht.hF N2) R bK aL;rw[al.out]at ad;refine ad.mono ?_;rintro e w2⟨rfl,L⟩)|(refine k6 (Cm.zero.g_) (hR.hF L) (Cm.one _) ?_;intro N0 az G));all_goals exact me Cm.zero.g_ (Y K) az underlying40 ⟨Cm.zero,rfl,mi.zero _ _ rfl rfl,rfl,(N2.trans L).jT G a2⟩
 case pos=>
 have aR:Hid ((an,aA)=(l7 s.p t.p,0)):=O (by rw[aO.out,K_<|by simp[V]]);have q:(K !=0)=false:=by simp[V]
 clear V aO;go_upto_region 8 with(first|(refine la g underlying53 ?_)|(go_at_call 100;have ad:=sM s.h.A s.h.c s.h.l t (hs.h.hF N2) X (ht.hF N2) R bK aL;rw[al.out]at ad;refine ad.mono ?_;rintro e w2⟨rfl,L⟩));replace F:=F.hF L;replace d:=d.hF L;replace g:=g.hF L;replace hR:=hR.hF L;replace N2:=N2.trans L;clear L q;replace m0:w2.cell? (Z a 0)=some (.slice s.h.A s.h.l.length s.h.c):=(d.f_ 0).trans rfl;go_upto_region 9 with(first|(refine la g underlying53 ?_)|(go_at_call 84;((with_reducible refine(w4 s.h.A s.h.c s.h.l t (ht.hF N2) (hs.h.hF N2) X (H_ R.ws I)<|H_ R.ds I).mono ?_);unfold lO;rintro e S⟨u,o,k,rfl,ar,aT,P⟩;have f:=O aT;clear aT;have m0:S.cell? (Z a 0)=some (.slice s.h.A s.h.l.length s.h.c):=((d.hF P).f_ 0).trans rfl;have ah:=(d.hF P).hG 0)));have i:J [a] S (S.setCell (Z a 0)<|.slice u k.length o):=(G_ [a] S).setCell (.inl s_) _;have aU:=ar.iy (d.hF P) I I i;have y:Bk (S.setCell (Z a 0)<|.slice u k.length o) a 40 ({s with h:=⟨u,o,k⟩}:Cm).g_:=(d.hF P).hW 0<|.slice u k.length o;replace g:=(g.hF P).gr i<|zu j.1;replace hR:=(hR.hF P).gr i<|zu j.2;replace N2:=(N2.trans P).jT i aK;clear m0 ah d F P i ar;replace d:=y;clear y;obtain⟨aj,aN⟩:=nm_<|S.setCell (Z a 0)<|.slice u k.length o;rw[<-aN]at aU d g hR N2 |-;clear aN;have m3:aj.cell? (Z a 3)=some (.slice s.ia.A s.ia.l.length s.ia.c):=(d.f_ 3).trans rfl;have t41:aj.cell? (Z gt 41)=some (.slice t.ia.A t.ia.l.length t.ia.c):=(g.f_ 41).trans rfl
 go_upto_region 10 with(go_at_call 93;((with_reducible refine(xJ s.ia.A s.ia.c s.ia.l t.ia.A t.ia.c t.ia.l (hs.ia.hF N2) (ht.ia.hF N2) X ag).mono ?_);unfold ER;rintro e Q⟨m,x,rfl,br,bD,E⟩;have m3:Q.cell? (Z a 3)=some (.slice s.ia.A s.ia.l.length s.ia.c):=((d.hF E).f_ 3).trans rfl;have ai:=(d.hF E).hG 3));have i:J [a] Q (Q.setCell (Z a 3)<|.slice m (s.ia.l.length+t.ia.l.length) x):=(G_ [a] Q).setCell (.inl s_) _;have aV:As (Q.setCell (Z a 3)<|.slice m (s.ia.l.length+t.ia.l.length) x) m (s.ia.l++t.ia.l):=Sl.iy br (d.hF E) I i;have aW:=(aU.hF E).iy (d.hF E) I I i;have y:Bk (Q.setCell (Z a 3)<|.slice m (s.ia.l.length+t.ia.l.length) x) a 40 ({s with h:=⟨u,o,k⟩,ia:=⟨m,x,s.ia.l++t.ia.l⟩}:Cm).g_:=by
  rw[show({s with h:=⟨u,o,k⟩,ia:=⟨m,x,s.ia.l++t.ia.l⟩}:Cm).g_=({s with h:=⟨u,o,k⟩}:Cm).g_.setIfInBounds 3 (.slice m (s.ia.l.length+t.ia.l.length) x) from(show({s with h:=⟨u,o,k⟩,ia:=⟨m,x,s.ia.l++t.ia.l⟩}:Cm).g_=({s with h:=⟨u,o,k⟩}:Cm).g_.setIfInBounds 3 (.slice m (s.ia.l++t.ia.l).length x) from rfl).trans (GG (λn=>({s with h:=⟨u,o,k⟩}:Cm).g_.setIfInBounds 3<|.slice m n x) M_)];exact(d.hF E).hW 3<|.slice m (s.ia.l.length+t.ia.l.length) x
 replace g:=(g.hF E).gr i<|zu j.1;replace hR:=(hR.hF E).gr i<|zu j.2;replace N2:=(N2.trans E).jT i aK;clear m3 ai d t41 E i br aU;replace d:=y;clear y;obtain⟨M,aE⟩:=nm_<|Q.setCell (Z a 3)<|.slice m (s.ia.l.length+t.ia.l.length) x;rw[<-aE]at aV aW d g hR N2 |-;clear aE;have de:M.cell? (Z a 8)=some (Y s.iW):=(d.f_ 8).trans rfl;have aY:M.cell? (Z a 9)=some (Y s.hK):=(d.f_ 9).trans rfl;have aB:M.cell? (Z gt 47)=some (Y t.hK):=(g.f_ 47).trans rfl;have ap:=d.hG 8;have bE:=d.hG 9
 go_upto_region 12 with fail;have i:J [a] M ((M.setCell (Z a 8)<|Y<|s.iW+1).setCell (Z a 9)<|Y<|s.hK+t.hK):=((G_ [a] M).setCell (p:=(Z a 8)) (.inl s_) _).setCell (p:=(Z a 9)) (.inl s_) _;have H:mi ((M.setCell (Z a 8)<|Y<|s.iW+1).setCell (Z a 9)<|Y<|s.hK+t.hK) ({s with h:=⟨u,o,k⟩,ia:=⟨m,x,s.ia.l++t.ia.l⟩,iW:=s.iW+1,hK:=s.hK+t.hK}:Cm):=⟨aW.iy d I I i,Sl.iy aV d I i,bD⟩;have y:Bk ((M.setCell (Z a 8)<|Y<|s.iW+1).setCell (Z a 9)<|Y<|s.hK+t.hK) a 40 ({s with h:=⟨u,o,k⟩,ia:=⟨m,x,s.ia.l++t.ia.l⟩,iW:=s.iW+1,hK:=s.hK+t.hK}:Cm).g_:=(d.hW 8<|Y<|s.iW+1).hW 9<|Y<|s.hK+t.hK;replace g:=g.gr i<|zu j.1;replace hR:=hR.gr i<|zu j.2;replace N2:=N2.jT i aK;clear de aY ap bE aB d i aV aW;replace d:=y;clear y;obtain⟨C,bG⟩:=nm_<|(M.setCell (Z a 8)<|Y<|s.iW+1).setCell (Z a 9)<|Y<|s.hK+t.hK;rw[<-bG]at H d g hR N2 |-;clear bG;have au:C.cell? (Z gt 42)=some (Y t.h5):=(g.f_ 42).trans rfl;obtain⟨rfl,rfl⟩:=Prod.mk.inj aR.out;clear aR B
 by_cases U:t.h5=2
 .have HA:Hid (l7 s.p t.p=({s with h:=⟨u,o,k⟩,ia:=⟨m,x,s.ia.l++t.ia.l⟩,iW:=s.iW+1,hK:=s.hK+t.hK,hT:=t.next}:Cm).p):=O (by unfold l7;rw[L_ (show t.p.h5=2 from U),show kG s.p.h t.p=hY k from f.out.symm];rfl);have q:(t.h5==2)=true:=zu U;clear U;have z:C.cell? (Z gt 43)=some (Y t.next):=(g.f_ 43).trans rfl;have m1:C.cell? (Z a 1)=some (Y s.hT):=(d.f_ 1).trans rfl;have D:=d.hG 1;have i:J [a] C (C.setCell (Z a 1)<|Y t.next):=(G_ [a] C).setCell (.inl s_) _;have y:Bk (C.setCell (Z a 1)<|Y t.next) a 40 ({s with h:=⟨u,o,k⟩,ia:=⟨m,x,s.ia.l++t.ia.l⟩,iW:=s.iW+1,hK:=s.hK+t.hK,hT:=t.next}:Cm).g_:=d.hW 1<|Y t.next;have bz:=hR.gr i<|zu j.2;go_wp2_with (first|(refine la y underlying40 ?_)|(refine k6 (({s with h:=⟨u,o,k⟩,ia:=⟨m,x,s.ia.l++t.ia.l⟩,iW:=s.iW+1,hK:=s.hK+t.hK,hT:=t.next}:Cm).g_) bz (Cm.one _) ?_;intro N0 az G));rw[HA.out];exact me ({s with h:=⟨u,o,k⟩,ia:=⟨m,x,s.ia.l++t.ia.l⟩,iW:=s.iW+1,hK:=s.hK+t.hK,hT:=t.next}:Cm).g_ (Y 0) az underlying40 ⟨({s with h:=⟨u,o,k⟩,ia:=⟨m,x,s.ia.l++t.ia.l⟩,iW:=s.iW+1,hK:=s.hK+t.hK,hT:=t.next}:Cm),rfl,(mi.iy (s:=({s with h:=⟨u,o,k⟩,ia:=⟨m,x,s.ia.l++t.ia.l⟩,iW:=s.iW+1,hK:=s.hK+t.hK,hT:=t.next}:Cm)) ⟨(H.h.iy d I I i),Sl.iy H.ia d I i,H.qf⟩ bz I G),rfl,(N2.jT i aK).jT G a2⟩
 have HA:Hid (l7 s.p t.p=({s with h:=⟨u,o,k⟩,ia:=⟨m,x,s.ia.l++t.ia.l⟩,iW:=s.iW+1,hK:=s.hK+t.hK,jO:=true,hX:=t.hX,v:=t.v}:Cm).p):=O (by unfold l7;rw[K_ (show ¬t.p.h5=2 from U),show kG s.p.h t.p=hY k from f.out.symm];rfl);have q:(t.h5==2)=false:=zu U;clear U;go_upto_region 14 with fail;clear au q;refine hS (λw'=>w'.cell? (Z gt 44)=some (.bool t.hX)/\w'.cell? (Z gt 45)=some (.bool t.v.r)/\w'.cell? (Z gt 46)=some (Y t.v.n)) 10 k_ ?_;have T:J [] C C.drew:=(G_ [] C).drew;replace H:=H.hF T;replace d:=d.hF T;replace g:=g.hF T;replace hR:=hR.hF T;replace N2:=N2.trans T;clear T;obtain⟨z,bd⟩:=nm_ C.drew;rw[<-bd]at H d g hR N2 |-;clear bd;have D:z.cell? (Z gt 44)=some (.bool t.hX)/\z.cell? (Z gt 45)=some (.bool t.v.r)/\z.cell? (Z gt 46)=some (Y t.v.n):=⟨(g.f_ 44).trans rfl,(g.f_ 45).trans rfl,(g.f_ 46).trans rfl⟩;have m4:z.cell? (Z a 4)=some (.bool s.jO):=(d.f_ 4).trans rfl;have aS:z.cell? (Z a 5)=some (.bool s.hX):=(d.f_ 5).trans rfl;have NY:z.cell? (Z a 6)=some (.bool s.v.r):=(d.f_ 6).trans rfl;have dr:z.cell? (Z a 7)=some (Y s.v.n):=(d.f_ 7).trans rfl;have a6:=d.hG 4;have bp:=d.hG 5;have bt:=d.hG 6;have bB:=d.hG 7
 iterate 5 refine j8 D ?_
 refine h4 5 λW N=>?_;go_simp;clear D;refine hZ N ⟨((g.ir (p:=(Z a 4)) j.1<|.bool true).f_ 44).trans rfl,((g.ir (p:=(Z a 4)) j.1<|.bool true).f_ 45).trans rfl,((g.ir (p:=(Z a 4)) j.1<|.bool true).f_ 46).trans rfl⟩ λD=>?_;clear N W;refine iC 6 D ?_;refine h4 7 λW N=>?_;go_simp;clear D;refine hZ N ⟨(((g.ir (p:=(Z a 4)) j.1<|.bool true).ir (p:=(Z a 5)) j.1<|.bool t.hX).f_ 44).trans rfl,(((g.ir (p:=(Z a 4)) j.1<|.bool true).ir (p:=(Z a 5)) j.1<|.bool t.hX).f_ 45).trans rfl,(((g.ir (p:=(Z a 4)) j.1<|.bool true).ir (p:=(Z a 5)) j.1<|.bool t.hX).f_ 46).trans rfl⟩ λD=>?_;clear N W;refine iC 8 D ?_;refine h4 9 λW N=>?_;go_simp;clear D;refine hZ N ⟨(((((g.ir (p:=(Z a 4)) j.1<|.bool true).ir (p:=(Z a 5)) j.1<|.bool t.hX).ir (p:=(Z a 6)) j.1<|.bool t.v.r).ir (p:=(Z a 7)) j.1<|Y t.v.n).f_ 44).trans rfl,(((((g.ir (p:=(Z a 4)) j.1<|.bool true).ir (p:=(Z a 5)) j.1<|.bool t.hX).ir (p:=(Z a 6)) j.1<|.bool t.v.r).ir (p:=(Z a 7)) j.1<|Y t.v.n).f_ 45).trans rfl,(((((g.ir (p:=(Z a 4)) j.1<|.bool true).ir (p:=(Z a 5)) j.1<|.bool t.hX).ir (p:=(Z a 6)) j.1<|.bool t.v.r).ir (p:=(Z a 7)) j.1<|Y t.v.n).f_ 46).trans rfl⟩ λD=>?_;clear N W;have i:J [a] z ((((z.setCell (Z a 4)<|.bool true).setCell (Z a 5)<|.bool t.hX).setCell (Z a 6)<|.bool t.v.r).setCell (Z a 7)<|Y t.v.n):=((((G_ [a] z).setCell (p:=(Z a 4)) (.inl s_) _).setCell (p:=(Z a 5)) (.inl s_) _).setCell (p:=(Z a 6)) (.inl s_) _).setCell (p:=(Z a 7)) (.inl s_) _;have y:Bk ((((z.setCell (Z a 4)<|.bool true).setCell (Z a 5)<|.bool t.hX).setCell (Z a 6)<|.bool t.v.r).setCell (Z a 7)<|Y t.v.n) a 40 ({s with h:=⟨u,o,k⟩,ia:=⟨m,x,s.ia.l++t.ia.l⟩,iW:=s.iW+1,hK:=s.hK+t.hK,jO:=true,hX:=t.hX,v:=t.v}:Cm).g_:=(((d.hW 4<|.bool true).hW 5<|.bool t.hX).hW 6<|.bool t.v.r).hW 7<|Y t.v.n;have bz:=hR.gr i<|zu j.2;clear m4 aS NY dr a6 bp bt bB D;refine hN k_ ?_ _;go_wp2_with (first|(refine la y underlying40 ?_)|(refine k6 (({s with h:=⟨u,o,k⟩,ia:=⟨m,x,s.ia.l++t.ia.l⟩,iW:=s.iW+1,hK:=s.hK+t.hK,jO:=true,hX:=t.hX,v:=t.v}:Cm).g_) bz (Cm.one _) ?_;intro N0 az G));rw[HA.out];exact me ({s with h:=⟨u,o,k⟩,ia:=⟨m,x,s.ia.l++t.ia.l⟩,iW:=s.iW+1,hK:=s.hK+t.hK,jO:=true,hX:=t.hX,v:=t.v}:Cm).g_ (Y 0) az underlying40 ⟨({s with h:=⟨u,o,k⟩,ia:=⟨m,x,s.ia.l++t.ia.l⟩,iW:=s.iW+1,hK:=s.hK+t.hK,jO:=true,hX:=t.hX,v:=t.v}:Cm),rfl,(mi.iy (s:=({s with h:=⟨u,o,k⟩,ia:=⟨m,x,s.ia.l++t.ia.l⟩,iW:=s.iW+1,hK:=s.hK+t.hK,jO:=true,hX:=t.hX,v:=t.v}:Cm)) ⟨(H.h.iy d I I i),Sl.iy H.ia d I i,H.qf⟩ bz I G),rfl,(N2.jT i aK).jT G a2⟩
def lk(h:QQ)(e:pC):List Ob:=iL (e.nw.foldl kS h) e.ws
def AM(e:pC):(lk h e).length<=h.length+e.nw.length:=by
 unfold lk;rw[j1];exact o7 e.nw h
def xG(l:QT)(f:Ef){w:World}(he:tk w f)(h:mh w A c l)(hn:l.length+f.nw.l.length<=999999999)(bK:f.ws.l.length<=1000000000):
 Calls prog 96 #[.agg #[.slice A l.length c],.agg f.g_] w (lO (lk (hY l) f.p) w):=by
 obtain⟨i1,bR,cf,cg,ct⟩:=info_parts infoOb;obtain⟨e,v,r,N2⟩:=xO w 35 #[.slice A l.length c] 134 f.g_ 35 #[n_];go_enter func96,ntmps96;go_upto_region 1 with fail;obtain⟨bw,ae⟩:=nm_<|((w.alloc<|.cells #[.slice A l.length c] 35).alloc<|.cells f.g_ 134).alloc<|.cells #[n_] 35;rw[<-ae]at e v r N2 |-;clear ae;obtain⟨m,NZ⟩:=nm_ w.heap.size;obtain⟨Q,ak⟩:=nm_<|w.heap.size+1;obtain⟨gr,aH⟩:=nm_<|w.heap.size+1+1;rw[<-aH]at r;rw[<-ak]at v;rw[<-NZ]at e;rw[<-aH,<-ak,<-NZ];have t:w.heap.size<=m:=X;have a2:w.heap.size<=gr:=X;have R:Q≠m/\gr≠m/\m≠gr/\Q≠gr:=X;clear NZ ak aH;have M:=e.f_ 0;have al:=h.hF N2
 go_upto_region 2 with(at_builtin;refine pD _ rfl (.const<|n_) (.tmp 12) 33 rfl 56 i1 _ 2 32 underlying33 bR cf cg ct rfl I I none 0 [] rfl (HB _ _ _ _) A l.length c _ rfl al.os (j9 _) X ?_;intro V U w2 am b7 D;simp only[U_,G0]at b7 am;replace M:=(e.hF D).f_ 0;have bE:=(e.hF D).hG 0);have ax:mh w2 V U l:=⟨b7,al.ll.hF D,am⟩;have i:J [m] w2 (w2.setCell (Z m 0)<|.slice V l.length U):=(G_ [m] w2).setCell (.inl s_) _;have an:=ax.iy (e.hF D) I I i;have ar:=(e.hF D).hW 0<|.slice V l.length U;have bn:=(v.hF D).gr i<|zu R.1;have cz:=(r.hF D).gr i<|zu R.2.1;have cI:=(N2.trans D).jT i t;clear M bE e v r N2 al ax b7 am i D;obtain⟨aj,aN⟩:=nm_<|w2.setCell (Z m 0)<|.slice V l.length U;rw[<-aN]at an ar bn cz cI |-;clear aN;have ao:aj.cell? (Z Q 36)=some (.slice f.nw.A f.nw.l.length f.nw.c):=(bn.f_ 36).trans rfl;go_wp2
 go_loopw [18] (λP wr=>∃(a:Nat) (j:OA) (p:Nat) (d:QT),a<=f.nw.l.length/\P=Y a/\Bk wr m 35 #[.slice j d.length p]/\Bk wr Q 134 f.g_/\Bk wr gr 35 #[n_]/\mh wr j p d/\hY d=(hY<|f.nw.l.take a).foldl kS (hY l)/\J [] w wr) (λP _=>f.nw.l.length-(intOf P).toNat)
 case atStart=>exact⟨0,V,U,l,R_ _,rfl,ar,bn,cz,an,rfl,cI⟩
 clear ar bn cz an cI ao;obtain⟨a,j,p,d,hk,rfl,e,v,r,u,S,x⟩:=hrel;have q:=O S;have n:d.length<=999999999:=by
  have h1:=ib d;have h2:=o7 (hY<|f.nw.l.take a)<|hY l;rw[S]at h1;rw[ib<|f.nw.l.take a,Hj,ib]at h2;omega
 clear S;by_cases N:a<f.nw.l.length
 .obtain⟨b,off,aU,T,bA⟩:=(he.nw.hF x).at_ N;rw[aU];have bS:=O (show(hY<|f.nw.l.take<|a+1).foldl kS (hY l)=kS (hY d) f.nw.l[a].o by rw[q.out];exact rW N);have s:=(he.nr.hF<|x.alloc<|.cells #[Y f.nw.l[a].o.id,.slice f.nw.l[a].A f.nw.l[a].o.fs.length f.nw.l[a].c] 56) f.nw.l[a]<|P_ N;generalize f.nw.l[a]=g at*;have H:Sl (wr.alloc<|.cells #[Y g.o.id,.slice g.A g.o.fs.length g.c] 56) 38 2 g.A g.o.fs.length (jo g.o.fs):=s.1;have aC:(a:Int)<(f.nw.l.length:Int):=X;have k:J [] wr (wr.alloc<|.cells #[Y g.o.id,.slice g.A g.o.fs.length g.c] 56):=(G_ [] wr).alloc _;have L:=T_ wr 56 #[Y g.o.id,.slice g.A g.o.fs.length g.c];have au:=L.f_ 0;have af:=L.f_ 1;have M:=(e.hF k).f_ 0;go_wp2_with (go_at_call 123;((with_reducible refine(vU j p d g.o.id g.A g.c g.o.fs (u.hF k).os (u.hF k).ll u.l6 H s.2 n).mono ?_);rintro av y⟨B,C,z,rfl,bg,aA,aE,W,F⟩;have aB:=O W;clear W;have E:=(e.hF k).hF F;replace M:=E.f_ 0;have bE:=E.hG 0));have i:J [m] y (y.setCell (Z m 0)<|.slice B z.length C):=(G_ [m] y).setCell (.inl s_) _;go_roundw;exact⟨a+1,B,C,z,X,gn,E.hW 0 _,((v.hF k).hF F).gr i<|zu R.1,((r.hF k).hF F).gr i<|zu R.2.1,(mh.mk aA aE bg).iy E I I i,by rw[bS.out,aB.out],((x.trans k).trans F).jT i t⟩;exact mz
 have bO:=O (show a=f.nw.l.length by omega);have aC:¬(a:Int)<(f.nw.l.length:Int):=X;have aQ:=O (show hY d=f.p.nw.foldl kS (hY l) by rw[q.out,bO.out,HU];rfl);clear q hk N;have cA:wr.cell? (Z Q 35)=some (.slice f.ws.A f.ws.l.length f.ws.c):=(v.f_ 35).trans rfl;have G:d.length<=1000000000:=X;obtain⟨aG,aI⟩:=nm_ wr;rw[<-aI]at e v r u x cA |-;clear aI;obtain⟨aK,ad⟩:=nm_ j;obtain⟨az,T⟩:=nm_ p;obtain⟨bQ,bF⟩:=nm_ d;rw[<-ad,<-T,<-bF]at u;rw[<-ad,<-T,<-bF]at e;rw[<-bF]at aQ G;clear ad T bF n bO;go_wp2;clear aC
 go_loopw [29] (λP wr=>∃(a:Nat) (j:OA) (p:Nat) (d:QT),a<=f.ws.l.length/\P=Y a/\Bk wr m 35 #[.slice j d.length p]/\Bk wr Q 134 f.g_/\Bk wr gr 35 #[n_]/\mh wr j p d/\hY d=iL (hY bQ) (f.ws.l.take a)/\J [] w wr) (λP _=>f.ws.l.length-(intOf P).toNat)
 case atStart=>exact⟨0,aK,az,bQ,R_ _,rfl,e,v,r,u,rfl,x⟩
 clear e v r u x cA;obtain⟨a,j,p,d,hk,rfl,e,v,r,u,S,x⟩:=hrel;have q:=O S;clear S;by_cases N:a<f.ws.l.length
 .obtain⟨b,off,aU,T,bA,bW,bL⟩:=(he.ws.hF x).at_ N;rw[aU];have bS:=O (show iL (hY bQ) (f.ws.l.take<|a+1)=oi (hY d) f.ws.l[a] by rw[q.out];exact qY N);have aL:d.length<=1000000000:=by
   have:=ib d;rw[q.out,j1,ib]at this;omega
  have aC:(a:Int)<(f.ws.l.length:Int):=X;generalize f.ws.l[a]=aO at*;obtain⟨K,H,g⟩:=aO;simp only at T bA bW bL;have k:J [] wr (wr.alloc<|.cells #[Y K,Y H,.bool g.r,Y g.n] 116):=(G_ [] wr).alloc _;have L:=T_ wr 116 #[Y K,Y H,.bool g.r,Y g.n];have au:=L.f_ 0;have af:=L.f_ 1;have ay:=L.f_ 2;have aS:=L.f_ 3;have M:=(e.hF k).f_ 0;cases aP:iw (hY d) K H with
  |none=>
   have bo:=O (show oi (hY d) ⟨K,H,g⟩=hY d by unfold oi;simp only[aP]);go_wp2_with (go_at_call 149;((with_reducible refine(qZ j p d K H g (u.hF k).os (u.hF k).ll aL aP).mono ?_);rintro av y⟨rfl,F⟩));have E:J [] wr (y.alloc<|.cells #[n_] 35):=(k.trans F).alloc _;go_roundw;exact⟨a+1,j,p,d,X,gn,e.hF E,v.hF E,r.hF E,u.hF E,by rw[bS.out,bo.out],x.trans E⟩;exact mz
  |some aT=>
   have bo:=O (show oi (hY d) ⟨K,H,g⟩=kC (hY d) K H g by unfold oi;simp only[aP]);go_wp2_with (go_at_call 149;((with_reducible refine(oG j p d K H g aT (u.hF k).os (u.hF k).ll aL aP).mono ?_);rintro av y⟨B,C,z,rfl,bg,aA,aE,W,F⟩;have aB:=O W;clear W;have bC:=T_ y 35 #[.slice B z.length C];have n0:=bC.f_ 0;have aM:=((e.hF k).hF F).alloc<|.cells #[.slice B z.length C] 35;replace M:=aM.f_ 0;have bE:=aM.hG 0));have E:J [] wr (y.alloc<|.cells #[.slice B z.length C] 35):=(k.trans F).alloc _;have i:J [m] (y.alloc<|.cells #[.slice B z.length C] 35) ((y.alloc<|.cells #[.slice B z.length C] 35).setCell (Z m 0)<|.slice B z.length C):=(G_ [m] _).setCell (.inl s_) _;go_roundw;exact⟨a+1,B,C,z,X,gn,aM.hW 0 _,(v.hF E).gr i<|zu R.1,(r.hF E).gr i<|zu R.2.1,((mh.mk aA aE bg).hF<|(G_ [] y).alloc _).iy aM I I i,by rw[bS.out,bo.out,aB.out],(x.trans E).jT i t⟩;exact mz
 have bO:=O (show a=f.ws.l.length by omega);have aC:¬(a:Int)<(f.ws.l.length:Int):=X;have M:=e.f_ 0;have E:=r.hG 0;have g:=r.f_ 0;go_wp2;have i:J [gr] wr (wr.setCell (Z gr 0)<|.slice j d.length p):=(G_ [gr] wr).setCell (.inl s_) _;refine rr_ #[.slice j d.length p] (r.hW 0<|.slice j d.length p) underlying35 ⟨j,p,d,rfl,u.iy r I I i,?_,x.jT i a2⟩;rw[q.out,bO.out,HU,aQ.out];rfl
def mU(c:QR)(h:QQ)(pc k8:Int):List Ob:=
 oi h ⟨((iw h 1 0).getD default).n,3+(c.getD pc.toNat default).n,⟨false,k8⟩⟩
def yP(c:QR)(h:QQ)(pc a:Int):(mU c h pc a).length=h.length:=zg _ _
def xE(k:Nat)(y:Int){w:World}(ad:Is w A l)(hn:l.length<=1000000000)(z:mh w hA hc hl)(bE:hl.length<=1000000000)(hk:k<l.length)(h0:0<=l[k].n)(h1:l[k].n<=1000000):
 Calls prog 95 #[.agg #[.slice A l.length c,Y hH,Y hC],.agg #[.slice hA hl.length hc],Y k,Y y] w (lO (mU l (hY hl) k y) w):=by
 obtain⟨u,x,rfl,bt,bA,bW,bL,bD⟩:=ad.at_ hk;have ae:=O (show mU l (hY hl) (k:Int) y=oi (hY hl) ⟨((iw (hY hl) 1 0).getD default).n,3+l[k].n,⟨false,y⟩⟩ by
  unfold mU;have R:l.getD (k:Int).toNat default=l[k]:=by simp[List.getD,O_ hk]
  rw[R])
 obtain⟨n,N3⟩:∃n,n=l[k].n:=⟨_,rfl⟩;rw[<-N3]at h0 h1 bD ae;clear bt bA bW bL N3;obtain⟨f,hf⟩:=mn_<|(iw (hY hl) 1 0).getD default;rw[hf]at ae;obtain⟨ak,D,r,m⟩:=xO w 26 #[.slice (some<|Z u x) l.length c,Y hH,Y hC] 35 #[.slice hA hl.length hc] 35 #[n_];go_enter func95,ntmps95;go_upto_region 1 with fail;obtain⟨bw,af⟩:=nm_<|((w.alloc<|.cells #[.slice (some<|Z u x) l.length c,Y hH,Y hC] 26).alloc<|.cells #[.slice hA hl.length hc] 35).alloc<|.cells #[n_] 35;rw[<-af]at ak D r m |-;clear af;obtain⟨P,G⟩:=nm_ w.heap.size;obtain⟨Q,NZ⟩:=nm_<|w.heap.size+1;obtain⟨N,aH⟩:=nm_<|w.heap.size+1+1;rw[<-aH]at r;rw[<-NZ]at D;rw[<-G]at ak;rw[<-aH,<-NZ,<-G];have a2:w.heap.size<=N:=X;clear G NZ aH;have ag:=D.f_ 0
 go_upto_region 2 with(go_at_call 148;((with_reducible refine(kL hA hc hl 1 0 _ (z.hF m).os (z.hF m).ll bE).mono ?_);rw[hf];rintro R w1⟨rfl,hg1⟩));have au:=T_ w1 38 #[.bool f.r,Y f.n];have U:J [] bw (w1.alloc<|.cells #[.bool f.r,Y f.n] 38):=hg1.alloc _;replace ak:=ak.hF U;replace D:=D.hF U;replace r:=r.hF U;replace m:=m.trans U;have ky:=m.f_ bD s_;clear hg1 U ag;obtain⟨e,ai⟩:=nm_<|w1.alloc<|.cells #[.bool f.r,Y f.n] 38;rw[<-ai]at au ak D r m ky |-;clear ai;generalize w1.heap.size=S at*
 cases T:iw (hY hl) f.n (3+n)with
 |none=>
  have bo:=O (show mU l (hY hl) (k:Int) y=hY hl by rw[ae.out];unfold oi;simp only[T]);go_cut [11,12] (λaj b V=>∃gn:Nat,aj=q_ gn/\b=.bool false/\J [] e V)
  case first=>
   refine hS (λw'=>w'.cell? (Z Q 0)=some (.slice hA hl.length hc)/\w'.cell? (Z S 1)=some (Y f.n)/\w'.cell? (Z P 0)=some (.slice (some<|Z u x) l.length c)/\w'.cell? (Z u<|x+k*5+4)=some (Y n)) 19 k_ ?_;have j:J [] e e.drew:=(G_ [] e).drew;obtain⟨g,bN⟩:=nm_ e.drew;rw[<-bN]at j |-;clear bN;have C:g.cell? (Z Q 0)=some (.slice hA hl.length hc)/\g.cell? (Z S 1)=some (Y f.n)/\g.cell? (Z P 0)=some (.slice (some<|Z u x) l.length c)/\g.cell? (Z u<|x+k*5+4)=some (Y n):=⟨(D.hF j).f_ 0,(au.hF j).f_ 1,(ak.hF j).f_ 0,(j).f_ ky s_⟩;have aT:(0:Int)<=(k:Int):=X;have aC:(k:Int)<(l.length:Int):=X
   (iterate 9 refine j8 C ?_)
   refine iC 9 (v:=Y<|3+n) C ?_ (hy:=(Or.inl ⟨r_,(by intro w' aZ;go_simp;try(first|with_reducible rfl|(rw[Ic];omega)))⟩));(iterate 2 refine j8 C ?_);refine js 12 16 rfl rfl k_ (λK H=>?_) λK H=>?_
   .go_simp;have i:J [] e g:=j;(go_at_call 149;((with_reducible refine(qZ hA hc hl f.n (3+n) ⟨false,y⟩ (z.hF<|m.trans i).os (z.hF<|m.trans i).ll bE T).mono ?_);rintro R a⟨rfl,E⟩));have d:J [] e a:=j.trans E;clear C;refine hZ H ⟨(D.hF d).f_ 0,(au.hF d).f_ 1,(ak.hF d).f_ 0,(d).f_ ky s_⟩ λC=>?_;clear H K;iterate 3 refine j8 C ?_
    refine h4 16 λK H=>?_;go_simp;have F:J [] e (a.alloc<|.cells #[n_] 35):=d.alloc _;have s:=T_ a 35 #[n_];clear C;have C:(a.alloc<|.cells #[n_] 35).cell? (Z Q 0)=some (.slice hA hl.length hc)/\(a.alloc<|.cells #[n_] 35).cell? (Z S 1)=some (Y f.n)/\(a.alloc<|.cells #[n_] 35).cell? (Z P 0)=some (.slice (some<|Z u x) l.length c)/\(a.alloc<|.cells #[n_] 35).cell? (Z u<|x+k*5+4)=some (Y n):=⟨(D.hF F).f_ 0,(au.hF F).f_ 1,(ak.hF F).f_ 0,(F).f_ ky s_⟩;have z0:=s.f_ 0;have eY:=s.hG 0;refine hZ H C λC=>?_;clear H K;refine h4 17 λK H=>?_;go_simp;have h:J [] e (a.alloc<|.cells #[n_] 35):=d.alloc _;have al:J [] a (a.alloc<|.cells #[n_] 35):=(G_ [] a).alloc _;have W:=T_ a 35 #[n_];exact K0
   go_simp;have i:J [] e (g.alloc<|.cells #[n_] 35):=j.alloc _;have s:=T_ g 35 #[n_];clear C;refine hZ H ⟨(D.hF i).f_ 0,(au.hF i).f_ 1,(ak.hF i).f_ 0,(i).f_ ky s_⟩ λC=>?_;clear H K;refine h4 12 λK H=>?_;go_simp;(go_at_call 149;((with_reducible refine(qZ hA hc hl f.n (3+n) ⟨false,y⟩ (z.hF<|m.trans i).os (z.hF<|m.trans i).ll bE T).mono ?_);rintro R a⟨rfl,E⟩));have d:J [] e a:=i.trans E;clear C;refine hZ H ⟨(D.hF d).f_ 0,(au.hF d).f_ 1,(ak.hF d).f_ 0,(d).f_ ky s_⟩ λC=>?_;clear H K;(iterate 3 refine j8 C ?_);have t:=s.hF E;have z0:=t.f_ 0;have eY:=t.hG 0;refine h4 17 λK H=>?_;go_simp;have B:J [g.heap.size] a (a.setCell (Z g.heap.size 0)<|n_):=(G_ [_] _).setCell (.inl s_) _;have h:J [] e (a.setCell (Z g.heap.size 0)<|n_):=d.jT B j.size;have W:=t.hW 0<|n_;exact K0
  obtain⟨gn,rfl,rfl,M⟩:=hcut;replace D:=D.hF M;replace r:=r.hF M;have ag:=D.f_ 0;have bz:=r.hG 0;have bq:=r.f_ 0;go_wp2;have B:J [N] wc (wc.setCell (Z N 0)<|.slice hA hl.length hc):=(G_ [N] wc).setCell (.inl s_) _;exact rr_ #[.slice hA hl.length hc] (r.hW 0<|.slice hA hl.length hc) underlying35 ⟨hA,hc,hl,rfl,(z.hF<|m.trans M).iy r I I B,bo.out.symm,(m.trans M).jT B a2⟩
 |some am=>
  have bo:=O (show mU l (hY hl) (k:Int) y=kC (hY hl) f.n (3+n) ⟨false,y⟩ by rw[ae.out];unfold oi;simp only[T]);go_cut [11,12] (λaj b V=>∃(gn:Nat) (p:OA) (q:Nat) (o:QT),aj=q_ gn/\b=.bool true/\Bk V gn 35 #[.slice p o.length q]/\mh V p q o/\hY o=kC (hY hl) f.n (3+n) ⟨false,y⟩/\J [] e V)
  case first=>
   refine hS (λw'=>w'.cell? (Z Q 0)=some (.slice hA hl.length hc)/\w'.cell? (Z S 1)=some (Y f.n)/\w'.cell? (Z P 0)=some (.slice (some<|Z u x) l.length c)/\w'.cell? (Z u<|x+k*5+4)=some (Y n)) 19 k_ ?_;have j:J [] e e.drew:=(G_ [] e).drew;obtain⟨g,bN⟩:=nm_ e.drew;rw[<-bN]at j |-;clear bN;have C:g.cell? (Z Q 0)=some (.slice hA hl.length hc)/\g.cell? (Z S 1)=some (Y f.n)/\g.cell? (Z P 0)=some (.slice (some<|Z u x) l.length c)/\g.cell? (Z u<|x+k*5+4)=some (Y n):=⟨(D.hF j).f_ 0,(au.hF j).f_ 1,(ak.hF j).f_ 0,(j).f_ ky s_⟩;have aT:(0:Int)<=(k:Int):=X;have aC:(k:Int)<(l.length:Int):=X
   (iterate 9 refine j8 C ?_)
   refine iC 9 (v:=Y<|3+n) C ?_ (hy:=(Or.inl ⟨r_,(by intro w' aZ;go_simp;try(first|with_reducible rfl|(rw[Ic];omega)))⟩));(iterate 2 refine j8 C ?_);refine js 12 16 rfl rfl k_ (λK H=>?_) λK H=>?_
   .go_simp;have i:J [] e g:=j;(go_at_call 149;((with_reducible refine(oG hA hc hl f.n (3+n) ⟨false,y⟩ am (z.hF<|m.trans i).os (z.hF<|m.trans i).ll bE T).mono ?_);rintro R a⟨p,q,o,rfl,bg,an,aE,L,E⟩;have ao:=O L;clear L));have d:J [] e a:=j.trans E;clear C;refine hZ H ⟨(D.hF d).f_ 0,(au.hF d).f_ 1,(ak.hF d).f_ 0,(d).f_ ky s_⟩ λC=>?_;clear H K;iterate 3 refine j8 C ?_
    refine h4 16 λK H=>?_;go_simp;have F:J [] e (a.alloc<|.cells #[n_] 35):=d.alloc _;have s:=T_ a 35 #[n_];clear C;have C:(a.alloc<|.cells #[n_] 35).cell? (Z Q 0)=some (.slice hA hl.length hc)/\(a.alloc<|.cells #[n_] 35).cell? (Z S 1)=some (Y f.n)/\(a.alloc<|.cells #[n_] 35).cell? (Z P 0)=some (.slice (some<|Z u x) l.length c)/\(a.alloc<|.cells #[n_] 35).cell? (Z u<|x+k*5+4)=some (Y n):=⟨(D.hF F).f_ 0,(au.hF F).f_ 1,(ak.hF F).f_ 0,(F).f_ ky s_⟩;have z0:=s.f_ 0;have eY:=s.hG 0;refine hZ H C λC=>?_;clear H K;refine h4 17 λK H=>?_;go_simp;have h:J [] e (a.alloc<|.cells #[.slice p o.length q] 35):=d.alloc _;have al:J [] a (a.alloc<|.cells #[.slice p o.length q] 35):=(G_ [] a).alloc _;have W:=T_ a 35 #[.slice p o.length q];clear C;refine hZ H ⟨(D.hF h).f_ 0,(au.hF h).f_ 1,(ak.hF h).f_ 0,(h).f_ ky s_⟩ λC=>?_;clear H K;refine iC 18 C ?_;refine hN k_ ?_ _;go_wp2;go_meet;exact⟨_,p,q,o,rfl,rfl,W,(mh.mk an aE bg).hF al,ao.out,h⟩
   go_simp;have i:J [] e (g.alloc<|.cells #[n_] 35):=j.alloc _;have s:=T_ g 35 #[n_];clear C;refine hZ H ⟨(D.hF i).f_ 0,(au.hF i).f_ 1,(ak.hF i).f_ 0,(i).f_ ky s_⟩ λC=>?_;clear H K;refine h4 12 λK H=>?_;go_simp;(go_at_call 149;((with_reducible refine(oG hA hc hl f.n (3+n) ⟨false,y⟩ am (z.hF<|m.trans i).os (z.hF<|m.trans i).ll bE T).mono ?_);rintro R a⟨p,q,o,rfl,bg,an,aE,L,E⟩;have ao:=O L;clear L));have d:J [] e a:=i.trans E;clear C;refine hZ H ⟨(D.hF d).f_ 0,(au.hF d).f_ 1,(ak.hF d).f_ 0,(d).f_ ky s_⟩ λC=>?_;clear H K;(iterate 3 refine j8 C ?_);have t:=s.hF E;have z0:=t.f_ 0;have eY:=t.hG 0;refine h4 17 λK H=>?_;go_simp;have B:J [g.heap.size] a (a.setCell (Z g.heap.size 0)<|.slice p o.length q):=(G_ [_] _).setCell (.inl s_) _;have h:J [] e (a.setCell (Z g.heap.size 0)<|.slice p o.length q):=d.jT B j.size;have W:=t.hW 0<|.slice p o.length q;clear C;refine hZ H ⟨(D.hF h).f_ 0,(au.hF h).f_ 1,(ak.hF h).f_ 0,(h).f_ ky s_⟩ λC=>?_;clear H K;refine iC 18 C ?_;refine hN k_ ?_ _;go_wp2;go_meet;exact⟨_,p,q,o,rfl,rfl,W,(mh.mk an aE bg).iy t I I B,ao.out,h⟩
  obtain⟨gn,p,q,o,rfl,rfl,s,aq,L,M⟩:=hcut;have ar:=O L;clear L;replace r:=r.hF M;have ag:=s.f_ 0;have bz:=r.hG 0;have bq:=r.f_ 0;go_wp2;have B:J [N] wc (wc.setCell (Z N 0)<|.slice p o.length q):=(G_ [N] wc).setCell (.inl s_) _;exact rr_ #[.slice p o.length q] (r.hW 0<|.slice p o.length q) underlying35 ⟨p,q,o,rfl,aq.iy r I I B,by rw[ar.out,bo.out],(m.trans M).jT B a2⟩
def AH{w:World}:(Instr.build 49 #[(0,Y pc)]).run prog w=.ok (.agg<|iE pc ja) w:=by kernel_rfl
def xI(l:List Ac){w:World}(h:As w A l)(F:l.length<=1000000000):
 Calls prog 93 #[.slice A l.length c,n_] w λe w'=>∃(A':OA) (d:Nat),e=.returned (.slice A' l.length d)/\w'.ownsRow w.heap.size 162 3 (.slice A' l.length d) l.length (l.flatMap Ac.E)/\J [] w w':=by
 obtain⟨m,k,j,o,p⟩:=info_parts infoAc;have q:Sl w 162 3 A l.length (l.flatMap Ac.E):=h;have C:w.heap.size<=w.heap.size:=I_ _;go_enter func93,ntmps93;go_wp2_with (first
  |(at_builtin;refine iQ _ rfl (.const<|n_) (.tmp 5) 36 rfl w.heap.size 162 m _ 3 24 underlying36 k j o p rfl I I none 0 0 [] rfl (i4 _ _ _ _) A l.length c _ rfl q (ut) X C ?_;intro z x D g u;simp only[U_,G0]at g;have a:=u.gr [] w (I_ _)<|G_ [] w;have b:=a.size;have B:=HB D 162 3 none)
  |(at_builtin;refine iQ _ rfl (.tmp 6) (.tmp 7) 36 rfl w.heap.size 162 m _ 3 24 underlying36 k j o p rfl I I z l.length x _ rfl g none 0 0 _ rfl B (by intro H D;cases D) X b ?_;intro y v E i u;simp only[Id,IT]at i;have r:=u.gr [] w (I_ _) a))
 go_ret;exact⟨y,v,rfl,i,r⟩
def mF(l:QR)(hH hC:Int)(s:qB)(e:pC):Bool:=decide (s.jO=true\/jI l hH hC s.hT=false\/e.h7=4)
def oT(l:QR)(k8:QS)(s:qB)(e:pC):qB:=
 if e.h7=3 then{s with h:=mU l s.h s.hT<|jD k8 s.jC,ia:=s.ia++[⟨true,e.v.n,jD k8 s.jC⟩],hK:=s.hK+1,hT:=s.hT+1,jC:=s.jC+1}
 else if e.h7=2 then{s with h:=lk s.h e,hK:=s.hK+1,jO:=true,hX:=e.hX,v:=e.v}
 else{s with h:=lk s.h e,hK:=s.hK+1,hT:=e.pc}
def n6(l:QR)(hH hC:Int)(k8:QS)(s:qB):qB × Int:=
 if ih l hH hC=false then(Cm.zero.p,1) else
 if mF l hH hC s (kR l hH hC s.hT ja s.h 0)=true then(Cm.zero.p,7) else
 (oT l k8 s<|kR l hH hC s.hT ja s.h 0,0)
def AJ(aA:OA)(ac:Nat)(al:QS)(s:Cm){w:World}(h:Is w A l)(hn:l.length<=1000000000)(ha:Ns w 2 aA al)(aw:al.length<=1000000000)(hs:mi w s)(bi:s.h.l.length<=99999999)(c6:s.ia.l.length<=100000000)(cz: -1000000000<=s.hT)(b1:s.hT<=1000000000)(b2:0<=s.hK)(b3:s.hK<=1000000000000)(dK:0<=s.jC)(ew:s.jC<=1000000000):
 Calls prog 48 #[.agg #[.slice A l.length c,Y hH,Y hC],.agg #[.slice aA al.length ac],.agg s.g_] w (vF (n6 l hH hC al s.p).1 (n6 l hH hC al s.p).2 w):=by
 obtain⟨bM,bK,bC,be,bu⟩:=info_parts infoAc;obtain⟨an,hE⟩:=mn_<|kR l hH hC s.hT ja (hY s.h.l) 0;have bF:an.sm 16:=by rw[<-hE];exact s7 _ _ _ _ _ _ _
 have bX:=O hE;clear hE;obtain⟨⟨bd,bf⟩,c3⟩:∃q,n6 l hH hC al s.p=q:=⟨_,rfl⟩;rw[c3];have B:=O c3;clear c3;obtain⟨o,H,d,hR,N2⟩:=DX w 26 #[.slice A l.length c,Y hH,Y hC] 29 #[.slice aA al.length ac] 40 s.g_ 40 #[n_,Y 0,Y 0,n_,.bool false,.bool false,.bool false,Y 0,Y 0,Y 0];go_enter func48,ntmps48;go_upto_region 1 with fail;obtain⟨bw,bh⟩:=nm_<|(((w.alloc<|.cells #[.slice A l.length c,Y hH,Y hC] 26).alloc<|.cells #[.slice aA al.length ac] 29).alloc<|.cells s.g_ 40).alloc<|.cells #[n_,Y 0,Y 0,n_,.bool false,.bool false,.bool false,Y 0,Y 0,Y 0] 40;rw[<-bh]at o H d hR N2 |-;clear bh;obtain⟨bk,bN⟩:=nm_ w.heap.size;obtain⟨gw,bg⟩:=nm_<|w.heap.size+1;obtain⟨a,bl⟩:=nm_<|w.heap.size+1+1;obtain⟨gr,bm⟩:=nm_<|w.heap.size+1+1+1;rw[<-bm]at hR;rw[<-bl]at d;rw[<-bg]at H;rw[<-bN]at o;rw[<-bm,<-bl,<-bg,<-bN];have a2:w.heap.size<=gr:=X;have bv:w.heap.size<=a:=X;have Q:bk≠a/\gw≠a/\gr≠a:=X;clear bN bl bg bm;have bx:=o.f_ 0;have af:=o.f_ 1;have ay:=o.f_ 2
 cases hv:ih l hH hC with
 |false=>
  obtain⟨rfl,rfl⟩:=Prod.mk.inj (B.out.symm.trans<|by unfold n6;exact L_ hv);exact J4
 |true=>
 have ax:Hid ((bd,bf)=if mF l hH hC s.p an=true then(Cm.zero.p,7) else(oT l al s.p an,0)):=O (by
  rw[<-B.out];unfold n6;rw[K_ (by rw[hv];decide),show kR l hH hC s.p.hT ja s.p.h 0=an from bX.out])
 have aK:∀N,N<l.length->kU l N=true:=by
  intro N hk;have aZ:=hv;unfold ih nF at aZ;simp only[G4]at aZ;exact G6.mp aZ.1.1.2 N<|zu hk
 clear B;go_upto_region 3 with(go_at_call 92;have ad:=iY A c l hH hC (h.hF N2) hn;rw[hv]at ad;refine ad.mono ?_;rintro e w1⟨rfl,hg1⟩);replace o:=o.hF hg1;replace H:=H.hF hg1;replace d:=d.hF hg1;replace hR:=hR.hF hg1;replace N2:=N2.trans hg1;clear hg1 hv;replace bx:=o.f_ 0;replace af:=o.f_ 1;replace ay:=o.f_ 2;have m1:w1.cell? (Z a 1)=some (Y s.hT):=(d.f_ 1).trans rfl;have m0:w1.cell? (Z a 0)=some (.slice s.h.A s.h.l.length s.h.c):=(d.f_ 0).trans rfl;go_upto_region 4 with(first|(refine wpList_build rfl rfl #[(0,Y s.hT)] k_ (AH s.hT) ?_)|(go_at_call 78;have ad:=qq A c l hH hC s.hT 0 ja s.h.A s.h.c s.h.l (h.hF N2) hn (hs.h.hF N2) X X;rw[bX.out]at ad;refine ad.mono ?_;unfold xN;rintro e w2⟨f,rfl,K,av,N3⟩)|(refine k6 (f.g_) (T_ w2 134 uy) (Ef.one _) ?_;intro ae bn bV));have aU:J [] w2 ae:=((G_ [] w2).alloc _).jT bV<|I_ _;have aG:J [] w1 ae:=N3.trans aU;have bD:tk ae f:=(K.hF<|(G_ [] w2).alloc<|.cells uy 134).iy (T_ w2 134 uy) I bV;have bJ:w2.heap.size≠a:=ov<|(d.hF N3).lt;replace o:=o.hF aG;replace H:=H.hF aG;replace d:=d.hF aG;replace hR:=hR.hF aG;replace N2:=N2.trans aG;clear aG N3 bV aU K bx af ay m0 m1;have hE:=bn;have K:=bD;clear bn bD;have y:w2.heap.size≠a:=bJ;clear bJ;generalize w2.heap.size=aV at*
 have cD:f.p.sm 16:=by rw[av];exact bF
 rw[<-av]at ax;have bS:f.nw.l.length<=16:=by have:=cD.nw;have e:f.p.nw.length=f.nw.l.length:=ib _;omega
 clear bF bX av;try simp only[a_]
 go_cut [34] (λb aX=>b=.bool (mF l hH hC s.p f.p)/\J [] ae aX)
 case first=>
  have bx:=o.f_ 0;have af:=o.f_ 1;have ay:=o.f_ 2;have m4:ae.cell? (Z a 4)=some (.bool s.jO):=(d.f_ 4).trans rfl;have m1:ae.cell? (Z a 1)=some (Y s.hT):=(d.f_ 1).trans rfl;cases bL:s.jO with
  |true=>
   have a8:=O (show mF l hH hC s.p f.p=true by unfold mF;exact Hn<|.inl bL);rw[bL]at m4;clear bL;go_wp2;go_meet;exact⟨jk a8.out.symm,G_ _ _⟩
  |false=>
   rw[bL]at m4;cases j:jI l hH hC s.hT with
   |false=>
    have a8:=O (show mF l hH hC s.p f.p=true by unfold mF;exact Hn<|.inr<|.inl j);exact Kv
   |true=>
    have a8:=O (show mF l hH hC s.p f.p=(f.h7==4) by
     unfold mF;by_cases h1:f.h7=4;have:(f.h7==4)=true:=zu h1;rw[this];exact Hn<|.inr<|.inr h1;have:(f.h7==4)=false:=zu h1;rw[this];exact H4 λD=>D.elim (λh2=>GR h2<|by show ¬s.jO=true;rw[bL];decide) λh2=>h2.elim (λh3=>GR (show jI l hH hC s.hT=false from h3)<|by rw[j];decide) λh3=>h1 h3)
    exact Kv
 case rest=>
 obtain⟨rfl,V⟩:=hcut;replace o:=o.hF V;replace H:=H.hF V;replace d:=d.hF V;replace hR:=hR.hF V;replace N2:=N2.trans V;replace hE:=hE.hF V;replace K:=K.hF V;clear V;cases hcb:mF l hH hC s.p f.p with
 |true=>
  obtain⟨rfl,rfl⟩:=Prod.mk.inj<|ax.out.trans<|L_ hcb;clear hcb ax;exact K4
 |false=>
 obtain⟨rfl,rfl⟩:=Prod.mk.inj (ax.out.trans<|K_<|by rw[hcb];decide);have j:jI l hH hC s.hT=true:=by
  unfold mF at hcb;have h1:=Jf hcb;cases h2:jI l hH hC s.hT with
  |true=>rfl
  |false=>exact GR (.inr<|.inl h2) h1
 obtain⟨N,hk⟩:∃N:Nat,s.hT=N:=by
  unfold jI iG at j;simp only[G4]at j;have h2:=j.2;refine⟨s.hT.toNat,?_⟩;exact MO
 have aF:N<l.length:=by
  unfold jI iG at j;simp only[G4]at j;have h2:=j.2;exact MO
 have R:l.getD N default=l[N]:=by simp[List.getD,O_ aF]
 have am:l[N].op=20:=by
  unfold jI iG at j;simp only[G4]at j;have h2:=j.2;rw[K_ X,hk,Hh,R]at h2;simpa using h2
 have N1:=xi<|aK N aF;rw[R]at N1;have ce:=(N1.hH<|.inr<|.inr<|.inr am).1;have bY:=(N1.hH<|.inr<|.inr<|.inr am).2;have bO:=O hk;clear hk am R N1 j hcb ax aK;have m3:wc.cell? (Z a 3)=some (.slice s.ia.A s.ia.l.length s.ia.c):=(d.f_ 3).trans rfl;go_upto_region 7 with(go_at_call 93;((with_reducible refine(xI s.ia.A s.ia.c s.ia.l (hs.ia.hF N2) X).mono ?_);rintro e T⟨r,u,rfl,cN,NZ⟩;have m3:T.cell? (Z a 3)=some (.slice s.ia.A s.ia.l.length s.ia.c):=((d.hF NZ).f_ 3).trans rfl;have ai:=(d.hF NZ).hG 3));have g:J [a] T (T.setCell (Z a 3)<|.slice r s.ia.l.length u):=(G_ [a] T).setCell (.inl s_) _;have F:Bk (T.setCell (Z a 3)<|.slice r s.ia.l.length u) a 40 ({s with ia:=⟨r,u,s.ia.l⟩}:Cm).g_:=(d.hF NZ).hW 3<|.slice r s.ia.l.length u;have L:=kE (x:=a) cN ((d.hF NZ).qr I) g;replace o:=(o.hF NZ).gr g<|zu Q.1;replace H:=(H.hF NZ).gr g<|zu Q.2.1;replace hR:=(hR.hF NZ).gr g<|zu Q.2.2;replace hE:=(hE.hF NZ).gr g<|zu y;replace K:tk (T.setCell (Z a 3)<|.slice r s.ia.l.length u) f:=(K.hF NZ).iy (d.hF NZ) I g;have aE:w.heap.size<=wc.heap.size:=N2.size;replace N2:=(N2.trans NZ).jT g bv;clear m3 ai d NZ g cN;have d:=F;clear F;obtain⟨bW,bG⟩:=nm_<|T.setCell (Z a 3)<|.slice r s.ia.l.length u;rw[<-bG]at d L o H hR hE K N2 |-;clear bG;replace L:=Eo L aE;have bZ:bW.cell? (Z a 9)=some (Y s.hK):=(d.f_ 9).trans rfl;have bE:=d.hG 9
 go_upto_region 8 with fail;have g:J [a] bW (bW.setCell (Z a 9)<|Y<|s.hK+1):=(G_ [a] bW).setCell (.inl s_) _;have F:Bk (bW.setCell (Z a 9)<|Y<|s.hK+1) a 40 ({s with ia:=⟨r,u,s.ia.l⟩,hK:=s.hK+1}:Cm).g_:=d.hW 9<|Y<|s.hK+1;replace L:=kE (x:=a) L (d.qr I) g;replace o:=o.gr g<|zu Q.1;replace H:=H.gr g<|zu Q.2.1;replace hR:=hR.gr g<|zu Q.2.2;replace hE:=hE.gr g<|zu y;replace K:tk (bW.setCell (Z a 9)<|Y<|s.hK+1) f:=K.iy d I g;replace N2:=N2.jT g bv;clear bZ bE d g aE;have d:=F;clear F;obtain⟨aQ,a7⟩:=nm_<|bW.setCell (Z a 9)<|Y<|s.hK+1;rw[<-a7]at d L o H hR hE K N2 |-;clear a7;have aT:aQ.cell? (Z aV 0)=some (Y f.h7):=(hE.f_ 0).trans rfl;have m0:aQ.cell? (Z a 0)=some (.slice s.h.A s.h.l.length s.h.c):=(d.f_ 0).trans rfl
 by_cases cf:f.h7=3
 .have bH:(f.h7==3)=true:=zu cf;have cS:Hid (oT l al s.p f.p={s.p with h:=mU l s.p.h s.hT<|jD al s.jC,ia:=s.p.ia++[(⟨true,f.v.n,jD al s.jC⟩:Ac)],hK:=s.hK+1,hT:=s.hT+1,jC:=s.jC+1}):=O (by unfold oT;exact L_ cf);clear cf;have w0:=H.f_ 0;have m2:aQ.cell? (Z a 2)=some (Y s.jC):=(d.f_ 2).trans rfl;go_upto_region 10 with(go_at_call 94;((with_reducible refine(yQ aA ac al s.jC (ha.hF N2) aw).mono ?_);rintro e aB⟨rfl,S⟩));replace o:=o.hF S;replace H:=H.hF S;replace d:=d.hF S;replace hR:=hR.hF S;replace N2:=N2.trans S;replace hE:=hE.hF S;replace K:=K.hF S;replace L:=iO L S;clear S w0 m2 aT bH m0;have bx:=o.f_ 0;have af:=o.f_ 1;have ay:=o.f_ 2;have m0:aB.cell? (Z a 0)=some (.slice s.h.A s.h.l.length s.h.c):=(d.f_ 0).trans rfl;have m1:aB.cell? (Z a 1)=some (Y (N:Int)):=(d.f_ 1).trans<|GG (λn=>some<|Value.int .i64 n) bO.out;go_upto_region 11 with(go_at_call 95;((with_reducible refine(xE A c l hH hC s.h.A s.h.c s.h.l N (jD al s.jC) (h.hF N2) hn (hs.h.hF N2) X aF ce bY).mono ?_);unfold lO;rintro e P⟨m,k,i,rfl,aM,dz,z⟩;have aY:=O dz;clear dz;have m0:P.cell? (Z a 0)=some (.slice s.h.A s.h.l.length s.h.c):=((d.hF z).f_ 0).trans rfl;have ah:=(d.hF z).hG 0));have g:J [a] P (P.setCell (Z a 0)<|.slice m i.length k):=(G_ [a] P).setCell (.inl s_) _;have F:Bk (P.setCell (Z a 0)<|.slice m i.length k) a 40 ({s with ia:=⟨r,u,s.ia.l⟩,hK:=s.hK+1,h:=⟨m,k,i⟩}:Cm).g_:=(d.hF z).hW 0<|.slice m i.length k;have ca:=aM.iy (d.hF z) I I g;replace L:=kE (x:=a) (iO L z) ((d.hF z).qr I) g;replace hR:=(hR.hF z).gr g<|zu Q.2.2;replace hE:=(hE.hF z).gr g<|zu y;replace N2:=(N2.trans z).jT g bv;clear m0 ah m1 bx af ay d g o H K aM z;have d:=F;clear F;obtain⟨C,bT⟩:=nm_<|P.setCell (Z a 0)<|.slice m i.length k;rw[<-bT]at ca L d hR hE N2 |-;clear bT;have m3:C.cell? (Z a 3)=some (.slice r s.ia.l.length u):=(d.f_ 3).trans rfl;have bQ:C.cell? (Z aV 42)=some (Y f.v.n):=(hE.f_ 42).trans rfl;have U:J [] C (C.alloc<|.cells #[.bool true,Y f.v.n,Y<|jD al s.jC] 162):=(G_ [] C).alloc _;have ap:Sl (C.alloc<|.cells #[.bool true,Y f.v.n,Y<|jD al s.jC] 162) 162 3 (j_ C.heap.size) 1 [.bool true,Y f.v.n,Y<|jD al s.jC]:=k2 (s:=3) (T_ C 162 #[.bool true,Y f.v.n,Y<|jD al s.jC]) rfl;have aR:=iO L U;have t:w.heap.size<=(C.alloc<|.cells #[.bool true,Y f.v.n,Y<|jD al s.jC] 162).heap.size:=(N2.trans U).size
  go_upto_region 12 with(at_builtin;refine iQ _ rfl (.tmp 60) (.tmp 66) 36 rfl w.heap.size 162 bM _ 3 24 underlying36 bK bC be bu rfl I I r s.ia.l.length u _ rfl aR _ 1 1 _ rfl ap (by intro cb hu;simp at hu;rcases hu with rfl|rfl|rfl<;>rfl) X t ?_;intro D E W b8 cc;have cq:=cc.bk (d.hF U) I;have m3:W.cell? (Z a 3)=some (.slice r s.ia.l.length u):=(cq.f_ 3).trans rfl;have ai:=cq.hG 3);have g:J [a] W (W.setCell (Z a 3)<|.slice D (s.ia.l.length+1) E):=(G_ [a] W).setCell (.inl s_) _;have F:Bk (W.setCell (Z a 3)<|.slice D (s.ia.l.length+1) E) a 40 ({s with ia:=⟨D,E,s.ia.l++[(⟨true,f.v.n,jD al s.jC⟩:Ac)]⟩,hK:=s.hK+1,h:=⟨m,k,i⟩}:Cm).g_:=by
   rw[show({s with ia:=⟨D,E,s.ia.l++[(⟨true,f.v.n,jD al s.jC⟩:Ac)]⟩,hK:=s.hK+1,h:=⟨m,k,i⟩}:Cm).g_=({s with ia:=⟨r,u,s.ia.l⟩,hK:=s.hK+1,h:=⟨m,k,i⟩}:Cm).g_.setIfInBounds 3 (.slice D (s.ia.l.length+1) E) from(show({s with ia:=⟨D,E,s.ia.l++[(⟨true,f.v.n,jD al s.jC⟩:Ac)]⟩,hK:=s.hK+1,h:=⟨m,k,i⟩}:Cm).g_=({s with ia:=⟨r,u,s.ia.l⟩,hK:=s.hK+1,h:=⟨m,k,i⟩}:Cm).g_.setIfInBounds 3 (.slice D (s.ia.l++[(⟨true,f.v.n,jD al s.jC⟩:Ac)]).length E) from rfl).trans (GG (λn=>({s with ia:=⟨r,u,s.ia.l⟩,hK:=s.hK+1,h:=⟨m,k,i⟩}:Cm).g_.setIfInBounds 3<|.slice D n E)<|by rw[M_];rfl)];exact cq.hW 3<|.slice D (s.ia.l.length+1) E
  have dg:=kE (x:=a) b8 (cq.qr I) g;have M:mi (W.setCell (Z a 3)<|.slice D (s.ia.l.length+1) E) ({s with ia:=⟨D,E,s.ia.l++[(⟨true,f.v.n,jD al s.jC⟩:Ac)]⟩,hK:=s.hK+1,h:=⟨m,k,i⟩}:Cm):=by
   refine⟨(mh.mk (cc.sl (ca.hF U).os I) (cc.El I (ca.hF U).ll) ca.l6).iy cq I I g,?_,?_⟩;have q:=Sl.iZ dg;show Sl (W.setCell (Z a 3)<|.slice D (s.ia.l.length+1) E) 162 3 D (s.ia.l++[(⟨true,f.v.n,jD al s.jC⟩:Ac)]).length ((s.ia.l++[(⟨true,f.v.n,jD al s.jC⟩:Ac)]).flatMap Ac.E);rw[He,II,show(s.ia.l++[(⟨true,f.v.n,jD al s.jC⟩:Ac)]).length=s.ia.l.length+1 by rw[M_];rfl];exact q;show(s.ia.l++[(⟨true,f.v.n,jD al s.jC⟩:Ac)]).length<=E;rw[M_];exact jq dg
  replace hR:=(cc.bk (hR.hF U) I).gr g<|zu Q.2.2;replace N2:=(cc.gr [] w (I_ _)<|N2.trans U).jT g bv;clear m3 ai bQ cq d g hE ca L b8 dg cc aR ap U t;have d:=F;clear F;obtain⟨bo,bR⟩:=nm_<|W.setCell (Z a 3)<|.slice D (s.ia.l.length+1) E;rw[<-bR]at M d hR N2 |-;clear bR;have m1:bo.cell? (Z a 1)=some (Y s.hT):=(d.f_ 1).trans rfl;have m2:bo.cell? (Z a 2)=some (Y s.jC):=(d.f_ 2).trans rfl;have bP:=d.hG 1;have bU:=d.hG 2;have g:J [a] bo ((bo.setCell (Z a 1)<|Y<|s.hT+1).setCell (Z a 2)<|Y<|s.jC+1):=((G_ [a] bo).setCell (p:=(Z a 1)) (.inl s_) _).setCell (p:=(Z a 2)) (.inl s_) _;have F:Bk ((bo.setCell (Z a 1)<|Y<|s.hT+1).setCell (Z a 2)<|Y<|s.jC+1) a 40 ({s with ia:=⟨D,E,s.ia.l++[(⟨true,f.v.n,jD al s.jC⟩:Ac)]⟩,hK:=s.hK+1,h:=⟨m,k,i⟩,hT:=s.hT+1,jC:=s.jC+1}:Cm).g_:=(d.hW 1<|Y<|s.hT+1).hW 2<|Y<|s.jC+1;have bz:=hR.gr g<|zu Q.2.2;have HA:Hid (oT l al s.p f.p=({s with ia:=⟨D,E,s.ia.l++[(⟨true,f.v.n,jD al s.jC⟩:Ac)]⟩,hK:=s.hK+1,h:=⟨m,k,i⟩,hT:=s.hT+1,jC:=s.jC+1}:Cm).p):=O (by rw[cS.out,bO.out,show mU l s.p.h (N:Int) (jD al s.jC)=hY i from aY.out.symm,<-bO.out];rfl)
  go_wp2_with (first|(refine la F underlying40 ?_)|(refine k6 (({s with ia:=⟨D,E,s.ia.l++[(⟨true,f.v.n,jD al s.jC⟩:Ac)]⟩,hK:=s.hK+1,h:=⟨m,k,i⟩,hT:=s.hT+1,jC:=s.jC+1}:Cm).g_) bz (Cm.one _) ?_;intro N0 az G));rw[HA.out];exact me ({s with ia:=⟨D,E,s.ia.l++[(⟨true,f.v.n,jD al s.jC⟩:Ac)]⟩,hK:=s.hK+1,h:=⟨m,k,i⟩,hT:=s.hT+1,jC:=s.jC+1}:Cm).g_ (Y 0) az underlying40 ⟨({s with ia:=⟨D,E,s.ia.l++[(⟨true,f.v.n,jD al s.jC⟩:Ac)]⟩,hK:=s.hK+1,h:=⟨m,k,i⟩,hT:=s.hT+1,jC:=s.jC+1}:Cm),rfl,(mi.mk (s:=({s with ia:=⟨D,E,s.ia.l++[(⟨true,f.v.n,jD al s.jC⟩:Ac)]⟩,hK:=s.hK+1,h:=⟨m,k,i⟩,hT:=s.hT+1,jC:=s.jC+1}:Cm)) (M.h.iy d I I g) (Sl.iy M.ia d I g) M.qf).iy bz I G,rfl,(N2.jT g bv).jT G a2⟩
 have bH:(f.h7==3)=false:=zu cf;have cS:Hid (oT l al s.p f.p=if f.h7=2 then{s.p with h:=lk s.p.h f.p,hK:=s.hK+1,jO:=true,hX:=f.hX,v:=f.v} else{s.p with h:=lk s.p.h f.p,hK:=s.hK+1,hT:=f.pc}):=O (by unfold oT;exact K_ cf);clear cf;have ar:J [] aQ aQ:=G_ _ _;go_upto_region 16 with(first|(refine la hE underlying134 ?_)|(go_at_call 96;((with_reducible refine(xG s.h.A s.h.c s.h.l f (K.hF ar) (hs.h.hF N2) X<|H_ cD.ws I).mono ?_);unfold lO;rintro e P⟨m,k,i,rfl,aM,dz,z⟩;have aY:=O dz;clear dz;have m0:P.cell? (Z a 0)=some (.slice s.h.A s.h.l.length s.h.c):=((d.hF z).f_ 0).trans rfl;have ah:=(d.hF z).hG 0)));have g:J [a] P (P.setCell (Z a 0)<|.slice m i.length k):=(G_ [a] P).setCell (.inl s_) _;have F:Bk (P.setCell (Z a 0)<|.slice m i.length k) a 40 ({s with ia:=⟨r,u,s.ia.l⟩,hK:=s.hK+1,h:=⟨m,k,i⟩}:Cm).g_:=(d.hF z).hW 0<|.slice m i.length k;have M:mi (P.setCell (Z a 0)<|.slice m i.length k) ({s with ia:=⟨r,u,s.ia.l⟩,hK:=s.hK+1,h:=⟨m,k,i⟩}:Cm):=⟨aM.iy (d.hF z) I I g,Sl.iy (Sl.iZ<|iO L z) (d.hF z) I g,jq L⟩;replace hR:=(hR.hF z).gr g<|zu Q.2.2;replace hE:=(hE.hF z).gr g<|zu y;replace N2:=(N2.trans z).jT g bv;clear m0 ah d g aT bH o H L K ar aM z;have d:=F;clear F;obtain⟨C,bT⟩:=nm_<|P.setCell (Z a 0)<|.slice m i.length k;rw[<-bT]at M d hR hE N2 |-;clear bT;have aT:C.cell? (Z aV 0)=some (Y f.h7):=(hE.f_ 0).trans rfl
 by_cases U:f.h7=2
 .have bj:(f.h7==2)=true:=zu U;have HA:Hid (oT l al s.p f.p=({s with ia:=⟨r,u,s.ia.l⟩,hK:=s.hK+1,h:=⟨m,k,i⟩,jO:=true,hX:=f.hX,v:=f.v}:Cm).p):=O (by rw[cS.out,L_ U,show lk s.p.h f.p=hY i from aY.out.symm];rfl);clear U cS;go_upto_region 17 with fail;clear aT bj;refine hS (λw'=>w'.cell? (Z aV 40)=some (.bool f.hX)/\w'.cell? (Z aV 41)=some (.bool f.v.r)/\w'.cell? (Z aV 42)=some (Y f.v.n)) 10 k_ ?_;have R:J [] C C.drew:=(G_ [] C).drew;replace M:=M.hF R;replace d:=d.hF R;replace hR:=hR.hF R;replace hE:=hE.hF R;replace N2:=N2.trans R;clear R;obtain⟨D,bI⟩:=nm_ C.drew;rw[<-bI]at M d hR hE N2 |-;clear bI;have E:D.cell? (Z aV 40)=some (.bool f.hX)/\D.cell? (Z aV 41)=some (.bool f.v.r)/\D.cell? (Z aV 42)=some (Y f.v.n):=⟨(hE.f_ 40).trans rfl,(hE.f_ 41).trans rfl,(hE.f_ 42).trans rfl⟩;have m4:D.cell? (Z a 4)=some (.bool s.jO):=(d.f_ 4).trans rfl;have aS:D.cell? (Z a 5)=some (.bool s.hX):=(d.f_ 5).trans rfl;have NY:D.cell? (Z a 6)=some (.bool s.v.r):=(d.f_ 6).trans rfl;have dr:D.cell? (Z a 7)=some (Y s.v.n):=(d.f_ 7).trans rfl;have a6:=d.hG 4;have bp:=d.hG 5;have bt:=d.hG 6;have bB:=d.hG 7
  iterate 5 refine j8 E ?_
  refine h4 5 λW S=>?_;go_simp;clear E;refine hZ S ⟨((hE.ir (p:=(Z a 4)) y<|.bool true).f_ 40).trans rfl,((hE.ir (p:=(Z a 4)) y<|.bool true).f_ 41).trans rfl,((hE.ir (p:=(Z a 4)) y<|.bool true).f_ 42).trans rfl⟩ λE=>?_;clear S W;refine iC 6 E ?_;refine h4 7 λW S=>?_;go_simp;clear E;refine hZ S ⟨(((hE.ir (p:=(Z a 4)) y<|.bool true).ir (p:=(Z a 5)) y<|.bool f.hX).f_ 40).trans rfl,(((hE.ir (p:=(Z a 4)) y<|.bool true).ir (p:=(Z a 5)) y<|.bool f.hX).f_ 41).trans rfl,(((hE.ir (p:=(Z a 4)) y<|.bool true).ir (p:=(Z a 5)) y<|.bool f.hX).f_ 42).trans rfl⟩ λE=>?_;clear S W;refine iC 8 E ?_;refine h4 9 λW S=>?_;go_simp;clear E;refine hZ S ⟨(((((hE.ir (p:=(Z a 4)) y<|.bool true).ir (p:=(Z a 5)) y<|.bool f.hX).ir (p:=(Z a 6)) y<|.bool f.v.r).ir (p:=(Z a 7)) y<|Y f.v.n).f_ 40).trans rfl,(((((hE.ir (p:=(Z a 4)) y<|.bool true).ir (p:=(Z a 5)) y<|.bool f.hX).ir (p:=(Z a 6)) y<|.bool f.v.r).ir (p:=(Z a 7)) y<|Y f.v.n).f_ 41).trans rfl,(((((hE.ir (p:=(Z a 4)) y<|.bool true).ir (p:=(Z a 5)) y<|.bool f.hX).ir (p:=(Z a 6)) y<|.bool f.v.r).ir (p:=(Z a 7)) y<|Y f.v.n).f_ 42).trans rfl⟩ λE=>?_;clear S W;have g:J [a] D ((((D.setCell (Z a 4)<|.bool true).setCell (Z a 5)<|.bool f.hX).setCell (Z a 6)<|.bool f.v.r).setCell (Z a 7)<|Y f.v.n):=((((G_ [a] D).setCell (p:=(Z a 4)) (.inl s_) _).setCell (p:=(Z a 5)) (.inl s_) _).setCell (p:=(Z a 6)) (.inl s_) _).setCell (p:=(Z a 7)) (.inl s_) _;have F:Bk ((((D.setCell (Z a 4)<|.bool true).setCell (Z a 5)<|.bool f.hX).setCell (Z a 6)<|.bool f.v.r).setCell (Z a 7)<|Y f.v.n) a 40 ({s with ia:=⟨r,u,s.ia.l⟩,hK:=s.hK+1,h:=⟨m,k,i⟩,jO:=true,hX:=f.hX,v:=f.v}:Cm).g_:=(((d.hW 4<|.bool true).hW 5<|.bool f.hX).hW 6<|.bool f.v.r).hW 7<|Y f.v.n;have bz:=hR.gr g<|zu Q.2.2;clear m4 aS NY dr a6 bp bt bB E;refine hN k_ ?_ _;go_wp2_with (first|(refine la F underlying40 ?_)|(refine k6 (({s with ia:=⟨r,u,s.ia.l⟩,hK:=s.hK+1,h:=⟨m,k,i⟩,jO:=true,hX:=f.hX,v:=f.v}:Cm).g_) bz (Cm.one _) ?_;intro N0 az G));rw[HA.out];exact me ({s with ia:=⟨r,u,s.ia.l⟩,hK:=s.hK+1,h:=⟨m,k,i⟩,jO:=true,hX:=f.hX,v:=f.v}:Cm).g_ (Y 0) az underlying40 ⟨({s with ia:=⟨r,u,s.ia.l⟩,hK:=s.hK+1,h:=⟨m,k,i⟩,jO:=true,hX:=f.hX,v:=f.v}:Cm),rfl,(mi.mk (s:=({s with ia:=⟨r,u,s.ia.l⟩,hK:=s.hK+1,h:=⟨m,k,i⟩,jO:=true,hX:=f.hX,v:=f.v}:Cm)) (M.h.iy d I I g) (Sl.iy M.ia d I g) M.qf).iy bz I G,rfl,(N2.jT g bv).jT G a2⟩
 have bj:(f.h7==2)=false:=zu U;have HA:Hid (oT l al s.p f.p=({s with ia:=⟨r,u,s.ia.l⟩,hK:=s.hK+1,h:=⟨m,k,i⟩,hT:=f.pc}:Cm).p):=O (by rw[cS.out,K_ U,show lk s.p.h f.p=hY i from aY.out.symm];rfl);clear U cS;have D:C.cell? (Z aV 1)=some (Y f.pc):=(hE.f_ 1).trans rfl;have m1:C.cell? (Z a 1)=some (Y s.hT):=(d.f_ 1).trans rfl;have bP:=d.hG 1;have g:J [a] C (C.setCell (Z a 1)<|Y f.pc):=(G_ [a] C).setCell (.inl s_) _;have F:Bk (C.setCell (Z a 1)<|Y f.pc) a 40 ({s with ia:=⟨r,u,s.ia.l⟩,hK:=s.hK+1,h:=⟨m,k,i⟩,hT:=f.pc}:Cm).g_:=d.hW 1<|Y f.pc;have bz:=hR.gr g<|zu Q.2.2;go_wp2_with (first|(refine la F underlying40 ?_)|(refine k6 (({s with ia:=⟨r,u,s.ia.l⟩,hK:=s.hK+1,h:=⟨m,k,i⟩,hT:=f.pc}:Cm).g_) bz (Cm.one _) ?_;intro N0 az G));rw[HA.out];exact me ({s with ia:=⟨r,u,s.ia.l⟩,hK:=s.hK+1,h:=⟨m,k,i⟩,hT:=f.pc}:Cm).g_ (Y 0) az underlying40 ⟨({s with ia:=⟨r,u,s.ia.l⟩,hK:=s.hK+1,h:=⟨m,k,i⟩,hT:=f.pc}:Cm),rfl,(mi.mk (s:=({s with ia:=⟨r,u,s.ia.l⟩,hK:=s.hK+1,h:=⟨m,k,i⟩,hT:=f.pc}:Cm)) (M.h.iy d I I g) (Sl.iy M.ia d I g) M.qf).iy bz I G,rfl,(N2.jT g bv).jT G a2⟩
