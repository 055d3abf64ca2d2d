import Derived.Test.YtenbhdilndfaeaaGreatR12
import Derived.Test.YtenbhdilndfaeaaGreatR21
set_option maxRecDepth 100000
set_option maxHeartbeats 0
set_option linter.all false
namespace Go.Proofs.YtenbhdilndfaeaaGreat
open Go.RowKit Go.Proofs.Tryz
variable{G:Prop}{k:Nat}(b w:World)(gx:Nat)(x:X1)(E:Nat)(MO aE:Int)(d:Nat)(c:Int)(i:In)
def Km(h:G:=by
 clear C
 refine hX MT m.c5 λC=>?_
 clear MT K;exact La):G:=h
def K7(h:G:=by
 have q:=(ti x.p (x.sr d) n).sr;rw[F.out]at q
 have q2:ao.p.sr=x.p.sr:=by rw[am.out];exact q
 exact q2):G:=h
def La(h:G:=by
 refine hC k_ ?_ _;go_wp2;go_ret;exact⟨_,rfl,g.sG M aP rfl rfl rfl rfl rfl rfl rfl,rfl,aF.ir M⟩):G:=h
def Mq(h:G:=by
 go_wp2;go_ret;exact Mw):G:=h
def Ms(h:G:=by
 have q:=mf hs n;rw[F.out]at q;exact q.mono I):G:=h
def Mw(h:G:=by
 rw[ap.out];exact⟨ao,rfl,B,am.out,l⟩):G:=h
def MA(h:G:=by
 go_wp2;go_ret;exact⟨x,rfl,g,rfl,aF⟩):G:=h
def ke:∀a,a<16->x.g8[40+a*2]?=some (.bool (x.e.r a).r)/\x.g8[40+a*2+1]?=some (Y (x.e.r a).n)
 |0,_=>⟨rfl,rfl⟩
 |1,_=>⟨rfl,rfl⟩
 |2,_=>⟨rfl,rfl⟩
 |3,_=>⟨rfl,rfl⟩
 |4,_=>⟨rfl,rfl⟩
 |5,_=>⟨rfl,rfl⟩
 |6,_=>⟨rfl,rfl⟩
 |7,_=>⟨rfl,rfl⟩
 |8,_=>⟨rfl,rfl⟩
 |9,_=>⟨rfl,rfl⟩
 |10,_=>⟨rfl,rfl⟩
 |11,_=>⟨rfl,rfl⟩
 |12,_=>⟨rfl,rfl⟩
 |13,_=>⟨rfl,rfl⟩
 |14,_=>⟨rfl,rfl⟩
 |15,_=>⟨rfl,rfl⟩
 |n+16,h=>U_ h X
def sX{w:World}{gx:Nat}{x:X1}(h:Bk w gx 186 x.g8)(a:k<16):w.cell? (Z gx (40+k*2))=some (.bool (x.e.r k).r)/\w.cell? (Z gx (40+k*2+1))=some (Y (x.e.r k).n):=⟨(h.f_ _).trans (ke x k a).1,(h.f_ _).trans (ke x k a).2⟩
def mD(v:Vl):∀a:Nat,a<16->(x.g8.setIfInBounds (40+a*2) (.bool v.r)).setIfInBounds (40+a*2+1) (Y v.n)=({x with e:={x.e with r:=pJ x.e.r a v}}:X1).g8
 |0,_=>rfl
 |1,_=>rfl
 |2,_=>rfl
 |3,_=>rfl
 |4,_=>rfl
 |5,_=>rfl
 |6,_=>rfl
 |7,_=>rfl
 |8,_=>rfl
 |9,_=>rfl
 |10,_=>rfl
 |11,_=>rfl
 |12,_=>rfl
 |13,_=>rfl
 |14,_=>rfl
 |15,_=>rfl
 |n+16,h=>U_ h X
def lC(P:XP)(bn:Bool)(b:World)(gx:Nat)(w:World)(e:Ending)(w':World):Prop:=∃x':X1,e=.returned (.bool bn)/\ks b w' gx x'/\x'.p=P/\XG gx w w'
def DV{b w:World}{gx:Nat}{x:X1}(h:ks b w gx x)(v:Vl)(a:k<16):Bk ((w.setCell (Z gx (40+k*2)) (.bool v.r)).setCell (Z gx (40+k*2+1)) (Y v.n)).drew gx 186 ({x with e:={x.e with r:=pJ x.e.r k v}}:X1).g8/\J [gx] w ((w.setCell (Z gx (40+k*2)) (.bool v.r)).setCell (Z gx (40+k*2+1)) (Y v.n)).drew:=
 ⟨by rw[<-mD x v k a];exact(h.bk.hN (40+k*2) (.bool v.r)).hN (40+k*2+1) (Y v.n),J.drew (((H [gx] w).setCell (p:=(Z gx (40+k*2))) (.inl s_) (.bool v.r)).setCell (p:=(Z gx (40+k*2+1))) (.inl s_) (Y v.n))⟩
def plain_0(MO c:Int)(n:Int)(L:ks b w gx x):
 Calls prog 119 #[q_ gx,.agg #[Y 0,Y aE,Y MO,Y c,Y n]] w (lC x.p true b gx w):=by
 obtain⟨j,l,f,a,g,e,aF,m⟩:=sH L #[Y 0,Y aE,Y MO,Y c,Y n]
 go_enter func119,ntmps119
 go_upto_region 1 with fail
 clear f a;have h:=e.f_ 0;exact MA
def plain_1(n:Int)(L:ks b w gx x)(j:E<16):
 Calls prog 119 #[q_ gx,.agg #[Y 1,Y (E:Int),Y MO,Y c,Y n]] w (lC (kY x.p E ⟨false,n⟩) true b gx w):=by
 obtain⟨e,a,s,o,g,f,aF,l⟩:=sH L #[Y 1,Y (E:Int),Y MO,Y c,Y n]
 go_enter func119,ntmps119
 go_upto_region 1 with fail
 clear s o;have q:=f.f_ 0
 go_upto_region 6 with fail
 clear q;refine hI (λw'=>w'.cell? (Z a 0)=some (Y 1)/\w'.cell? (Z a 1)=some (Y (E:Int))/\w'.cell? (Z a 2)=some (Y MO)/\w'.cell? (Z a 3)=some (Y c)/\w'.cell? (Z a 4)=some (Y n)) 9 k_ ?_;have C:e.drew.cell? (Z a 0)=some (Y 1)/\e.drew.cell? (Z a 1)=some (Y (E:Int))/\e.drew.cell? (Z a 2)=some (Y MO)/\e.drew.cell? (Z a 3)=some (Y c)/\e.drew.cell? (Z a 4)=some (Y n):=f.drew.c5;have v:(0:Int)<=(E:Int):=X;have t:(E:Int)<16:=X
 (iterate 8 refine jW C ?_)
 have k:=g.bk;have u:e.cell? (Z gx (40+E*2))=some (.bool (x.e.r E).r):=(k.f_ _).trans (ke x E j).1;have A:e.cell? (Z gx (40+E*2+1))=some (Y (x.e.r E).n):=(k.f_ _).trans (ke x E j).2;have y:=k.hm (40+E*2);have z:=k.hm (40+E*2+1)
 refine hV 8 λK MT=>?_
 go_simp;have m:Bk ((e.setCell (Z gx (40+E*2)) (.bool false)).setCell (Z gx (40+E*2+1)) (Y n)).drew a 189 #[Y 1,Y (E:Int),Y MO,Y c,Y n]:=(f.ib (p:=(Z gx (40+E*2))) l (.bool false)).ib (p:=(Z gx (40+E*2+1))) l (Y n);obtain⟨aP,M⟩:=DV g ⟨false,n⟩ j;exact Km
def plain_2(n:Int)(L:ks b w gx x)(j:E<16):
 Calls prog 119 #[q_ gx,.agg #[Y 2,Y (E:Int),Y MO,Y c,Y n]] w (lC (kY x.p E ⟨true,0⟩) true b gx w):=by
 obtain⟨e,a,s,o,g,f,aF,l⟩:=sH L #[Y 2,Y (E:Int),Y MO,Y c,Y n]
 go_enter func119,ntmps119
 go_upto_region 1 with fail
 clear s o;have q:=f.f_ 0
 go_upto_region 8 with fail
 clear q;refine hI (λw'=>w'.cell? (Z a 0)=some (Y 2)/\w'.cell? (Z a 1)=some (Y (E:Int))/\w'.cell? (Z a 2)=some (Y MO)/\w'.cell? (Z a 3)=some (Y c)/\w'.cell? (Z a 4)=some (Y n)) 7 k_ ?_;have C:e.drew.cell? (Z a 0)=some (Y 2)/\e.drew.cell? (Z a 1)=some (Y (E:Int))/\e.drew.cell? (Z a 2)=some (Y MO)/\e.drew.cell? (Z a 3)=some (Y c)/\e.drew.cell? (Z a 4)=some (Y n):=f.drew.c5;have v:(0:Int)<=(E:Int):=X;have t:(E:Int)<16:=X
 (iterate 6 refine jW C ?_)
 have k:=g.bk;have u:e.cell? (Z gx (40+E*2))=some (.bool (x.e.r E).r):=(k.f_ _).trans (ke x E j).1;have A:e.cell? (Z gx (40+E*2+1))=some (Y (x.e.r E).n):=(k.f_ _).trans (ke x E j).2;have y:=k.hm (40+E*2);have z:=k.hm (40+E*2+1)
 refine hV 6 λK MT=>?_
 go_simp;have m:Bk ((e.setCell (Z gx (40+E*2)) (.bool true)).setCell (Z gx (40+E*2+1)) (Y 0)).drew a 189 #[Y 2,Y (E:Int),Y MO,Y c,Y n]:=(f.ib (p:=(Z gx (40+E*2))) l (.bool true)).ib (p:=(Z gx (40+E*2+1))) l (Y 0);obtain⟨aP,M⟩:=DV g ⟨true,0⟩ j;exact Km
def plain_3(n:Int)(L:ks b w gx x)(e:E<16)(t:d<16):
 Calls prog 119 #[q_ gx,.agg #[Y 3,Y (E:Int),Y (d:Int),Y c,Y n]] w (lC (kY x.p E (x.e.r d)) true b gx w):=by
 obtain⟨l,a,s,m,g,j,aF,F⟩:=sH L #[Y 3,Y (E:Int),Y (d:Int),Y c,Y n]
 go_enter func119,ntmps119
 go_upto_region 1 with fail
 clear s m;have q:=j.f_ 0
 go_upto_region 10 with fail
 clear q;refine hI (λw'=>(w'.cell? (Z a 0)=some (Y 3)/\w'.cell? (Z a 1)=some (Y (E:Int))/\w'.cell? (Z a 2)=some (Y (d:Int))/\w'.cell? (Z a 3)=some (Y c)/\w'.cell? (Z a 4)=some (Y n))/\w'.cell? (Z gx (40+d*2))=some (.bool (x.e.r d).r)/\w'.cell? (Z gx (40+d*2+1))=some (Y (x.e.r d).n)) 11 k_ ?_;have o:=And.intro j.drew.c5 (sX (g.bk.drew) t);have A:(0:Int)<=(E:Int):=X;have u:(E:Int)<16:=X;have v:(0:Int)<=(d:Int):=X;have y:(d:Int)<16:=X
 (iterate 11 refine jW o ?_)
 have k:=g.bk;have z:l.cell? (Z gx (40+E*2))=some (.bool (x.e.r E).r):=(k.f_ _).trans (ke x E e).1;have D:l.cell? (Z gx (40+E*2+1))=some (Y (x.e.r E).n):=(k.f_ _).trans (ke x E e).2;have B:=k.hm (40+E*2);have C:=k.hm (40+E*2+1)
 refine hV 11 λp f=>?_
 go_simp;obtain⟨aP,M⟩:=DV g (x.e.r d) e;refine f.out _ _ (λh=>U_ h I) ?_;clear f p
 try simp only[a_]
 exact La
def plain_11(MO c:Int)(n:Int)(L:ks b w gx x):
 Calls prog 119 #[q_ gx,.agg #[Y 11,Y aE,Y MO,Y c,Y n]] w (lC (sD x.p n) true b gx w):=by
 obtain⟨h,p,l,g,a,f,j,t⟩:=sH L #[Y 11,Y aE,Y MO,Y c,Y n]
 go_enter func119,ntmps119
 go_upto_region 1 with fail
 clear l g;have o:=f.f_ 0;have q:=f.f_ 4;have r:h.cell? (Z gx 39)=some (Y x.e.pc):=(a.bk.f_ 39).trans rfl;have s:=a.bk.hm 39;go_wp2;go_ret;have m:=a.set (x':={x with e:={x.e with pc:=n}}) 39 (Y n) rfl rfl rfl rfl rfl rfl rfl rfl;exact⟨_,rfl,m,rfl,j.ir ((H [gx] _).setCell (.inl s_) _)⟩
def plain_12(n:Int)(L:ks b w gx x)(v:E<16):
 Calls prog 119 #[q_ gx,.agg #[Y 12,Y (E:Int),Y MO,Y c,Y n]] w (lC (if(x.e.r E).n≠0 then x.p else sD x.p n) true b gx w):=by
 obtain⟨F,C⟩:=mn_ (if(x.e.r E).n≠0 then x.p else sD x.p n);rw[C];have K:=O C;clear C;obtain⟨t,a,P,M,u,o,I,V⟩:=sH L #[Y 12,Y (E:Int),Y MO,Y c,Y n]
 go_enter func119,ntmps119
 go_upto_region 1 with fail
 clear P M;have D:=o.f_ 0
 by_cases l:(x.e.r E).n=0
 .have B:=O (show((x.e.r E).n !=0)=false by simp[l]);have A:Hid (F=sD x.p n):=O (by rw[<-K.out,I_ (zu l)]);clear l
  go_upto_region 20 with fail
  clear D;refine hI (λw'=>(w'.cell? (Z a 0)=some (Y 12)/\w'.cell? (Z a 1)=some (Y (E:Int))/\w'.cell? (Z a 2)=some (Y MO)/\w'.cell? (Z a 3)=some (Y c)/\w'.cell? (Z a 4)=some (Y n))/\w'.cell? (Z gx (40+E*2))=some (.bool (x.e.r E).r)/\w'.cell? (Z gx (40+E*2+1))=some (Y (x.e.r E).n)) 8 k_ ?_;have f:=And.intro o.drew.c5 (sX (u.bk.drew) v);have T:(0:Int)<=(E:Int):=X;have N:(E:Int)<16:=X
  iterate 6 refine jW f ?_
  refine hV 6 λy m=>?_
  go_simp
  (go_at_call 166;((with_reducible refine(tu (x.e.r E)).mono ?_);rintro e s⟨rfl,z⟩;rw[B.out]))
  have j:J [] t s:=(H [] t).drew.trans z;have p:=o.g_ j;have g:=u.g_ j;clear f
  refine hX m ⟨p.c5,sX (g.bk) v⟩ λf=>?_
  clear m y;refine iH 7 f ?_;refine hC k_ ?_ _;have Q:=p.f_ 4;have R:s.cell? (Z gx 39)=some (Y x.e.pc):=(g.bk.f_ 39).trans rfl;have S:=g.bk.hm 39;go_wp2;go_ret;have U:=g.set (x':={x with e:={x.e with pc:=n}}) 39 (Y n) rfl rfl rfl rfl rfl rfl rfl rfl;rw[A.out];exact⟨_,rfl,U,rfl,(I.g_ j).ir ((H [gx] _).setCell (.inl s_) _)⟩
 .have B:=O (show((x.e.r E).n !=0)=true by simp[l]);have A:Hid (F=x.p):=O (by rw[<-K.out,O_ (zu l)]);clear l
  go_upto_region 20 with fail
  clear D;refine hI (λw'=>(w'.cell? (Z a 0)=some (Y 12)/\w'.cell? (Z a 1)=some (Y (E:Int))/\w'.cell? (Z a 2)=some (Y MO)/\w'.cell? (Z a 3)=some (Y c)/\w'.cell? (Z a 4)=some (Y n))/\w'.cell? (Z gx (40+E*2))=some (.bool (x.e.r E).r)/\w'.cell? (Z gx (40+E*2+1))=some (Y (x.e.r E).n)) 8 k_ ?_;have f:=And.intro o.drew.c5 (sX (u.bk.drew) v);have T:(0:Int)<=(E:Int):=X;have N:(E:Int)<16:=X
  iterate 6 refine jW f ?_
  refine hV 6 λy m=>?_
  go_simp
  (go_at_call 166;((with_reducible refine(tu (x.e.r E)).mono ?_);rintro e s⟨rfl,z⟩;rw[B.out]))
  have j:J [] t s:=(H [] t).drew.trans z;have p:=o.g_ j;have g:=u.g_ j;clear f
  refine hX m ⟨p.c5,sX (g.bk) v⟩ λf=>?_
  clear m y;refine iH 7 f ?_;refine hC k_ ?_ _;have Q:=p.f_ 4;have R:s.cell? (Z gx 39)=some (Y x.e.pc):=(g.bk.f_ 39).trans rfl;have S:=g.bk.hm 39;go_wp2;go_ret;rw[A.out];exact⟨x,rfl,g,rfl,I.g_ j⟩
def Bc(op aE MO c:Int)(n:Int)(L:ks b w gx x)(h:op≠0/\op≠1/\op≠2/\op≠3/\op≠4/\op≠11/\op≠12/\op≠21/\op≠16/\op≠19):
 Calls prog 119 #[q_ gx,.agg #[Y op,Y aE,Y MO,Y c,Y n]] w (lC x.p false b gx w):=by
 obtain⟨l,m,f,a,g,e,aF,J⟩:=sH L #[Y op,Y aE,Y MO,Y c,Y n]
 go_enter func119,ntmps119
 go_upto_region 1 with fail
 clear f a;have j:=e.f_ 0;have o:(op=0)=False:=p_;have r:(op==0)=false:=p_;have u:(op=1)=False:=p_;have y:(op==1)=false:=p_;have t:(op=2)=False:=p_;have q:(op==2)=false:=p_;have s:(op=3)=False:=p_;have p:(op==3)=false:=p_;have v:(op=4)=False:=p_;have z:(op==4)=false:=p_;have i:(op=11)=False:=p_;have I:(op==11)=false:=p_;have D:(op=12)=False:=p_;have d:(op==12)=false:=p_;have H:(op=21)=False:=p_;have C:(op==21)=false:=p_;have k:(op=16)=False:=p_;have A:(op==16)=false:=p_;have F:(op=19)=False:=p_;have B:(op==19)=false:=p_;clear h;exact MA
def ks.B9{b w w':World}{gx:Nat}{x x':X1}(h:ks b w gx x)(k:J [gx] w w')(m:Bk w' gx 186 x'.g8)(f:x'.i3=x.i3)(g:x'.h=x.h)(j:x'.e.rs=x.e.rs)(e:x'.e.ws=x.e.ws)(n:Os w x'.e.nw.A x'.e.nw.l)(o:nV w x'.e.nw.l)(p:Ds w x'.e.ds.A x'.e.ds.l)(q:As w x'.e.hW.A x'.e.hW.l)(r:x'.e.nw.ok)(s:x'.e.ds.ok)(t:x'.e.hW.ok):ks b w' gx x':=by
 have a:∀c l,w.heap[gx]?≠some (.cells c 116 l):=h.bk.ql I;refine⟨m,h.gr.trans k,h.bx,by rw[f];exact h.i3,by rw[g];exact h.h,?_,?_,by rw[j,e];exact h.ne,?_,?_,?_,?_,r,s,t,by rw[f];exact h.il,by rw[g];exact h.hl⟩
 .rw[j];exact kR (x:=gx) h.rs a k
 .rw[e];exact kR (x:=gx) h.ws a k
 .exact Sl.ir n h.bk I k
 .exact o.ir h.bk I k
 .exact Sl.ir p h.bk I k
 .exact Sl.ir q h.bk I k
def q8(r:Nat->Vl):Array Value:=#[.bool (r 0).r,Y (r 0).n,.bool (r 1).r,Y (r 1).n,.bool (r 2).r,Y (r 2).n,.bool (r 3).r,Y (r 3).n,.bool (r 4).r,Y (r 4).n,.bool (r 5).r,Y (r 5).n,.bool (r 6).r,Y (r 6).n,.bool (r 7).r,Y (r 7).n,.bool (r 8).r,Y (r 8).n,.bool (r 9).r,Y (r 9).n,.bool (r 10).r,Y (r 10).n,.bool (r 11).r,Y (r 11).n,.bool (r 12).r,Y (r 12).n,.bool (r 13).r,Y (r 13).n,.bool (r 14).r,Y (r 14).n,.bool (r 15).r,Y (r 15).n]
def xp(r:Nat->Vl):vn x.g8 40 (q8 r).toList=({x with e:={x.e with r:=r}}:X1).g8:=rfl
def Cn{r:Nat->Vl}:(q8 r).all (·.oneCell')=true:=by unfold q8;simp[Value.oneCell']
def plain_16(n:Int)(L:ks b w gx x)(A:E<16)(B:x.p.e.sm 900000):
 Calls prog 119 #[q_ gx,.agg #[Y 16,Y (E:Int),Y MO,Y c,Y n]] w (lC (iX x.p (x.e.r E)) true b gx w):=by
 obtain⟨e,a,u,o,m,g,t,M⟩:=sH L #[Y 16,Y (E:Int),Y MO,Y c,Y n]
 go_enter func119,ntmps119
 go_upto_region 1 with fail
 clear u o;have s:=g.f_ 0
 go_upto_region 26 with fail
 clear s;have l:J [] e e.drew:=(H [] e).drew;refine hI (λw'=>(w'.cell? (Z a 0)=some (Y 16)/\w'.cell? (Z a 1)=some (Y (E:Int))/\w'.cell? (Z a 2)=some (Y MO)/\w'.cell? (Z a 3)=some (Y c)/\w'.cell? (Z a 4)=some (Y n))/\w'.cell? (Z gx (40+E*2))=some (.bool (x.e.r E).r)/\w'.cell? (Z gx (40+E*2+1))=some (Y (x.e.r E).n)) 7 k_ ?_;have p:=And.intro g.drew.c5 (sX (m.bk.drew) A);have K:(0:Int)<=(E:Int):=X;have C:(E:Int)<16:=X
 iterate 7 refine jW p ?_
 refine hV 7 λq f=>?_
 go_simp
 (go_at_call 117;((with_reducible refine(pE b gx x (x.e.r E) (m.g_ l) B).mono ?_);unfold kW;rintro F D⟨z,rfl,v,j,G⟩;have y:=O j;clear j))
 refine f.out _ _ (λh=>U_ h I) ?_;clear f q
 try simp only[a_]
 refine hC k_ ?_ _;go_wp2;go_ret;exact⟨z,rfl,v,y.out,(t.g_ l).trans G⟩
def plain_19(n:Int)(L:ks b w gx x)(v:E<16)(hs:x.p.e.sm 900000):
 Calls prog 119 #[q_ gx,.agg #[Y 19,Y (E:Int),Y MO,Y c,Y n]] w (lC (if(x.e.r E).r=true then ji x.p (-2) else{x.p with e:={x.p.e with hW:=[⟨false,(x.e.r E).n,0⟩]}}) true b gx w):=by
 obtain⟨Q,K⟩:=mn_ (if(x.e.r E).r=true then ji x.p (-2) else{x.p with e:={x.p.e with hW:=[⟨false,(x.e.r E).n,0⟩]}});rw[K];have W:=O K;clear K;obtain⟨l,a,aI,af,t,q,B,ag⟩:=sH L #[Y 19,Y (E:Int),Y MO,Y c,Y n]
 go_enter func119,ntmps119
 go_upto_region 1 with fail
 clear aI af;have P:=q.f_ 0
 cases F:(x.e.r E).r with
 |true=>
  have D:Hid (Q=ji x.p (-2)):=O (by rw[<-W.out,O_ F])
  go_upto_region 28 with fail
  clear P;have m:J [] l l.drew:=(H [] l).drew;refine hI (λw'=>(w'.cell? (Z a 0)=some (Y 19)/\w'.cell? (Z a 1)=some (Y (E:Int))/\w'.cell? (Z a 2)=some (Y MO)/\w'.cell? (Z a 3)=some (Y c)/\w'.cell? (Z a 4)=some (Y n))/\w'.cell? (Z gx (40+E*2))=some (.bool (x.e.r E).r)/\w'.cell? (Z gx (40+E*2+1))=some (Y (x.e.r E).n)) 7 k_ ?_;have g:=And.intro q.drew.c5 (sX (t.bk.drew) v);have e0:(0:Int)<=(E:Int):=X;have aC:(E:Int)<16:=X
  (iterate 7 refine jW g ?_)
  refine hC k_ ?_ _
  go_wp2_with (go_at_call 165;((with_reducible refine(k8 b gx x (-2) (t.g_ m) hs).mono ?_);unfold kW;rintro e y⟨u,rfl,j,f,G⟩;have o:=O f;clear f))
  go_ret;rw[D.out];exact⟨u,rfl,j,o.out,(B.g_ m).trans G⟩
 |false=>
  have D:Hid (Q={x.p with e:={x.p.e with hW:=[⟨false,(x.e.r E).n,0⟩]}}):=O (by rw[<-W.out,I_ (by rw[F];decide)])
  go_upto_region 28 with fail
  clear P;have m:J [] l l.drew:=(H [] l).drew;refine hI (λw'=>(w'.cell? (Z a 0)=some (Y 19)/\w'.cell? (Z a 1)=some (Y (E:Int))/\w'.cell? (Z a 2)=some (Y MO)/\w'.cell? (Z a 3)=some (Y c)/\w'.cell? (Z a 4)=some (Y n))/\w'.cell? (Z gx (40+E*2))=some (.bool (x.e.r E).r)/\w'.cell? (Z gx (40+E*2+1))=some (Y (x.e.r E).n)) 7 k_ ?_;have g:=And.intro q.drew.c5 (sX (t.bk.drew) v);have e0:(0:Int)<=(E:Int):=X;have aC:(E:Int)<16:=X
  (iterate 7 refine jW g ?_)
  refine hC k_ ?_ _;clear F
  go_upto_region 31 with fail
  clear g;have A:=t.g_ m;have C:=q.g_ m;have S:=B.g_ m;obtain⟨j,T⟩:=nm_ l.drew;rw[<-T]at A C S |-;clear T t q B m;refine hI (λw'=>(w'.cell? (Z a 0)=some (Y 19)/\w'.cell? (Z a 1)=some (Y (E:Int))/\w'.cell? (Z a 2)=some (Y MO)/\w'.cell? (Z a 3)=some (Y c)/\w'.cell? (Z a 4)=some (Y n))/\w'.cell? (Z gx (40+E*2))=some (.bool (x.e.r E).r)/\w'.cell? (Z gx (40+E*2+1))=some (Y (x.e.r E).n)) 13 k_ ?_
  refine nZ ⟨C.drew.c5,sX (A.bk.drew) v⟩ λg=>?_
  iterate 9 refine jW g ?_
  refine hV 9 λz o=>?_
  go_simp;have y:J [] j ((j.alloc (.cells #[.bool false,Y (x.e.r E).n,Y 0] 162)).drew):=((H [] j).alloc _).drew;have R:Bk ((j.alloc (.cells #[.bool false,Y (x.e.r E).n,Y 0] 162)).drew) j.heap.size 162 #[.bool false,Y (x.e.r E).n,Y 0]:=(Q_ j 162 #[.bool false,Y (x.e.r E).n,Y 0]).drew;have f:=A.g_ y;have M:=C.g_ y;have V:=S.g_ y;clear g;obtain⟨u,U⟩:=nm_ ((j.alloc (.cells #[.bool false,Y (x.e.r E).n,Y 0] 162)).drew);rw[<-U]at y R f M V |-;clear U;generalize j.heap.size=i at*
  refine hX o ⟨M.c5,sX (f.bk) v⟩ λg=>?_
  clear o z
  (iterate 3 refine jW g ?_)
  have ah:u.cell? (Z gx 76)=some (.slice x.e.hW.A x.e.hW.l.length x.e.hW.c):=(f.bk.f_ 76).trans rfl;have dR:=f.bk.hm 76
  refine hV 13 λz o=>?_
  go_simp;refine o.out _ _ (λh=>U_ h I) ?_;clear o z
  try simp only[a_]
  refine hC k_ ?_ _;have N:=(H [gx] u).setCell (p:=(Z gx 76)) (.inl s_) (.slice (j_ i) 1 1);have aP:Bk (u.setCell (Z gx 76) (.slice (j_ i) 1 1)) gx 186 ({x with e:={x.e with hW:=⟨some (Z i 0),1,[⟨false,(x.e.r E).n,0⟩]⟩}}:X1).g8:=f.bk.hN 76 (.slice (j_ i) 1 1);have d:As u (j_ i) [⟨false,(x.e.r E).n,0⟩]:=kV (s:=3) R rfl;go_wp2;go_ret;rw[D.out];exact⟨_,rfl,f.B9 (x':=({x with e:={x.e with hW:=⟨some (Z i 0),1,[⟨false,(x.e.r E).n,0⟩]⟩}}:X1)) N aP rfl rfl rfl rfl f.nw f.nr f.ds d f.tN f.sJ (H_ 1),rfl,V.ir N⟩
def plain_21(MO c:Int)(n:Int)(L:ks b w gx x):
 Calls prog 119 #[q_ gx,.agg #[Y 21,Y aE,Y MO,Y c,Y n]] w (lC {x.p with e:={x.p.e with r:=i5,hS:=1,kw:=n}} true b gx w):=by
 obtain⟨Q,g,M,D,C,v,K,t⟩:=sH L #[Y 21,Y aE,Y MO,Y c,Y n]
 go_enter func119,ntmps119
 go_upto_region 1 with fail
 clear M D;have F:=v.f_ 0
 go_upto_region 24 with(refine jc rfl 47 _ _ rfl gx 40 r_ (q8 i5) r_ 186 _ C.bk (by show 40+32<=82;decide) k_ (Cn) ?_;intro a l o)
 rw[xp]at l;have I:=C.sG (x':=({x with e:={x.e with r:=i5}}:X1)) o l rfl rfl rfl rfl rfl rfl rfl;have A:=v.gr o (zu t);have N:=K.ir o;clear F;refine hI (λw'=>w'.cell? (Z g 0)=some (Y 21)/\w'.cell? (Z g 1)=some (Y aE)/\w'.cell? (Z g 2)=some (Y MO)/\w'.cell? (Z g 3)=some (Y c)/\w'.cell? (Z g 4)=some (Y n)) 12 k_ ?_
 refine nZ A.drew.c5 λf=>?_
 (iterate 7 refine jW f ?_)
 have T:a.cell? (Z gx 38)=some (Y x.e.hS):=(l.f_ 38).trans rfl;have S:=l.hm 38
 refine hV 7 λm j=>?_
 go_simp;have d:Bk ((a.setCell (Z gx 38) (Y 1)).drew) gx 186 ({x with e:={x.e with r:=i5,hS:=1}}:X1).g8:=l.hN 38 (Y 1);have s:Bk ((a.setCell (Z gx 38) (Y 1)).drew) g 189 #[Y 21,Y aE,Y MO,Y c,Y n]:=A.ib (p:=(Z gx 38)) t (Y 1);have z:J [gx] a ((a.setCell (Z gx 38) (Y 1)).drew):=((H [gx] a).setCell (p:=(Z gx 38)) (.inl s_) (Y 1)).drew;obtain⟨y,B⟩:=nm_ ((a.setCell (Z gx 38) (Y 1)).drew);rw[<-B]at d s z |-;clear B f
 refine hX j s.c5 λf=>?_
 clear j m
 (iterate 3 refine jW f ?_)
 have h:y.cell? (Z gx 77)=some (Y x.e.kw):=(d.f_ 77).trans rfl;have R:=d.hm 77
 refine hV 11 λm j=>?_
 go_simp;have P:=s.ib (p:=(Z gx 77)) t (Y n);have O:Bk (y.setCell (Z gx 77) (Y n)) gx 186 ({x with e:={x.e with r:=i5,hS:=1,kw:=n}}:X1).g8:=d.hN 77 (Y n);have u:=z.setCell (p:=(Z gx 77)) (.inl s_) (Y n);clear f
 refine hX j P.c5 λf=>?_
 clear j m;refine hC k_ ?_ _;go_wp2;go_ret;exact⟨_,rfl,I.sG (x':=({x with e:={x.e with r:=i5,hS:=1,kw:=n}}:X1)) u O rfl rfl rfl rfl rfl rfl rfl,rfl,N.ir u⟩
def plain_4(f:Nat)(n:Int)(L:ks b w gx x)(S:E<16)(z:d<16)(A:f<16)(hs:x.p.e.sm 900000):
 Calls prog 119 #[q_ gx,.agg #[Y 4,Y (E:Int),Y (d:Int),Y (f:Int),Y n]] w (lC (if(iz n (x.e.r d) (x.e.r f)).2≠0 then ji x.p (iz n (x.e.r d) (x.e.r f)).2 else kY x.p E (iz n (x.e.r d) (x.e.r f)).1) true b gx w):=by
 obtain⟨U,P⟩:=mn_ (if(iz n (x.e.r d) (x.e.r f)).2≠0 then ji x.p (iz n (x.e.r d) (x.e.r f)).2 else kY x.p E (iz n (x.e.r d) (x.e.r f)).1);rw[P];obtain⟨⟨o,k⟩,T⟩:∃ag,iz n (x.e.r d) (x.e.r f)=ag:=⟨_,rfl⟩;rw[T]at P;have Q:=O P;have D:=O T;clear P T;obtain⟨e,a,aI,ah,j,u,C,al⟩:=sH L #[Y 4,Y (E:Int),Y (d:Int),Y (f:Int),Y n]
 go_enter func119,ntmps119
 go_upto_region 1 with fail
 clear aI ah;have R:=u.f_ 0
 go_upto_region 12 with fail
 clear R
 go_cut [6,7] (λp am V=>∃B:Nat,p=q_ B/\am=Y k/\Bk V B 38 #[.bool o.r,Y o.n]/\J [] e V)
 case first=>
  have N:J [] e e.drew:=(H [] e).drew;refine hI (λw'=>(w'.cell? (Z a 0)=some (Y 4)/\w'.cell? (Z a 1)=some (Y (E:Int))/\w'.cell? (Z a 2)=some (Y (d:Int))/\w'.cell? (Z a 3)=some (Y (f:Int))/\w'.cell? (Z a 4)=some (Y n))/\(w'.cell? (Z gx (40+d*2))=some (.bool (x.e.r d).r)/\w'.cell? (Z gx (40+d*2+1))=some (Y (x.e.r d).n))/\w'.cell? (Z gx (40+f*2))=some (.bool (x.e.r f).r)/\w'.cell? (Z gx (40+f*2+1))=some (Y (x.e.r f).n)) 21 k_ ?_;have l:(e.drew.cell? (Z a 0)=some (Y 4)/\e.drew.cell? (Z a 1)=some (Y (E:Int))/\e.drew.cell? (Z a 2)=some (Y (d:Int))/\e.drew.cell? (Z a 3)=some (Y (f:Int))/\e.drew.cell? (Z a 4)=some (Y n))/\(e.drew.cell? (Z gx (40+d*2))=some (.bool (x.e.r d).r)/\e.drew.cell? (Z gx (40+d*2+1))=some (Y (x.e.r d).n))/\e.drew.cell? (Z gx (40+f*2))=some (.bool (x.e.r f).r)/\e.drew.cell? (Z gx (40+f*2+1))=some (Y (x.e.r f).n):=⟨(u.g_ N).c5,(sX (j.bk.g_ N) z),sX (j.bk.g_ N) A⟩;have e0:(0:Int)<=(d:Int):=X;have aC:(d:Int)<16:=X;have aw:(0:Int)<=(f:Int):=X;have bE:(f:Int)<16:=X
  (iterate 14 refine jW l ?_)
  refine jh 14 18 rfl rfl k_ (λt m=>?_) (λt m=>?_)
  .go_simp
   (go_at_call 164;((with_reducible refine(mR n (x.e.r d) (x.e.r f)).mono ?_);unfold qN;rintro W g⟨rfl,M⟩;rw[D.out]))
   clear l;have c:=N.trans M
   refine hX m ⟨(u.g_ c).c5,(sX (j.bk.g_ c) z),sX (j.bk.g_ c) A⟩ λl=>?_
   clear m t
   iterate 3 refine jW l ?_
   refine hV 18 λt m=>?_
   go_simp;have s:=Q_ g 38 #[.bool false,Y 0];have y:J [] e (g.alloc (.cells #[.bool false,Y 0] 38)):=c.alloc _;clear l;have l:((g.alloc (.cells #[.bool false,Y 0] 38)).cell? (Z a 0)=some (Y 4)/\(g.alloc (.cells #[.bool false,Y 0] 38)).cell? (Z a 1)=some (Y (E:Int))/\(g.alloc (.cells #[.bool false,Y 0] 38)).cell? (Z a 2)=some (Y (d:Int))/\(g.alloc (.cells #[.bool false,Y 0] 38)).cell? (Z a 3)=some (Y (f:Int))/\(g.alloc (.cells #[.bool false,Y 0] 38)).cell? (Z a 4)=some (Y n))/\((g.alloc (.cells #[.bool false,Y 0] 38)).cell? (Z gx (40+d*2))=some (.bool (x.e.r d).r)/\(g.alloc (.cells #[.bool false,Y 0] 38)).cell? (Z gx (40+d*2+1))=some (Y (x.e.r d).n))/\(g.alloc (.cells #[.bool false,Y 0] 38)).cell? (Z gx (40+f*2))=some (.bool (x.e.r f).r)/\(g.alloc (.cells #[.bool false,Y 0] 38)).cell? (Z gx (40+f*2+1))=some (Y (x.e.r f).n):=⟨(u.g_ y).c5,(sX (j.bk.g_ y) z),sX (j.bk.g_ y) A⟩;have R:=s.f_ 0;have ai:=s.f_ 1;have f0:=s.hm 0;have f1:=s.hm 1
   refine hX m l λl=>?_
   clear m t
   refine hV 19 λt m=>?_
   go_simp;have MO:=Q_ g 38 #[.bool o.r,Y o.n];have v:J [] e (g.alloc (.cells #[.bool o.r,Y o.n] 38)):=c.alloc _;clear l
   refine hX m ⟨(u.g_ v).c5,(sX (j.bk.g_ v) z),sX (j.bk.g_ v) A⟩ λl=>?_
   clear m t;refine iH 20 l ?_;refine hC k_ ?_ _;go_wp2;go_meet;exact⟨g.heap.size,rfl,rfl,MO,v⟩
  .go_simp;have an:Bk ((e.alloc (.cells #[.bool false,Y 0] 38)).drew) e.heap.size 38 #[.bool false,Y 0]:=(Q_ e 38 #[.bool false,Y 0]).drew;have y:J [] e ((e.alloc (.cells #[.bool false,Y 0] 38)).drew):=((H [] e).alloc _).drew;clear l
   refine hX m ⟨(u.g_ y).c5,(sX (j.bk.g_ y) z),sX (j.bk.g_ y) A⟩ λl=>?_
   clear m t
   refine hV 14 λt m=>?_
   go_simp
   (go_at_call 164;((with_reducible refine(mR n (x.e.r d) (x.e.r f)).mono ?_);unfold qN;rintro W g⟨rfl,M⟩;rw[D.out]))
   have K:=y.trans M;clear l;have l:(g.cell? (Z a 0)=some (Y 4)/\g.cell? (Z a 1)=some (Y (E:Int))/\g.cell? (Z a 2)=some (Y (d:Int))/\g.cell? (Z a 3)=some (Y (f:Int))/\g.cell? (Z a 4)=some (Y n))/\(g.cell? (Z gx (40+d*2))=some (.bool (x.e.r d).r)/\g.cell? (Z gx (40+d*2+1))=some (Y (x.e.r d).n))/\g.cell? (Z gx (40+f*2))=some (.bool (x.e.r f).r)/\g.cell? (Z gx (40+f*2+1))=some (Y (x.e.r f).n):=⟨(u.g_ K).c5,(sX (j.bk.g_ K) z),sX (j.bk.g_ K) A⟩;have s:=an.g_ M;have R:=s.f_ 0;have ai:=s.f_ 1;have f0:=s.hm 0;have f1:=s.hm 1
   refine hX m l λl=>?_
   clear m t
   iterate 3 refine jW l ?_
   refine hV 19 λt m=>?_
   go_simp;have MO:=(s.hN 0 (.bool o.r)).hN 1 (Y o.n);have F:=((H [e.heap.size] g).setCell (p:=(Z e.heap.size 0)) (.inl s_) (.bool o.r)).setCell (p:=(Z e.heap.size 1)) (.inl s_) (Y o.n);have v:=K.hA F s_;clear l
   refine hX m ⟨(u.g_ v).c5,(sX (j.bk.g_ v) z),sX (j.bk.g_ v) A⟩ λl=>?_
   clear m t;refine iH 20 l ?_;refine hC k_ ?_ _;go_wp2;go_meet;exact⟨e.heap.size,rfl,rfl,MO,v⟩
 case rest=>
  obtain⟨B,rfl,rfl,s,y⟩:=hcut;replace j:=j.g_ y;replace u:=u.g_ y;replace C:=C.g_ y;clear y
  by_cases v:k=0
  .have K:Hid (U=kY x.p E o):=O (by rw[<-Q.out,I_ (by simp[v])]);have q:(k !=0)=false:=zu v;clear v Q D
   go_upto_region 16 with fail
   obtain⟨g,M⟩:=nm_ wc;rw[<-M]at j u C s |-;clear M;refine hI (λw'=>(w'.cell? (Z a 0)=some (Y 4)/\w'.cell? (Z a 1)=some (Y (E:Int))/\w'.cell? (Z a 2)=some (Y (d:Int))/\w'.cell? (Z a 3)=some (Y (f:Int))/\w'.cell? (Z a 4)=some (Y n))/\w'.cell? (Z B 0)=some (.bool o.r)/\w'.cell? (Z B 1)=some (Y o.n)) 6 k_ ?_;have l:(g.drew.cell? (Z a 0)=some (Y 4)/\g.drew.cell? (Z a 1)=some (Y (E:Int))/\g.drew.cell? (Z a 2)=some (Y (d:Int))/\g.drew.cell? (Z a 3)=some (Y (f:Int))/\g.drew.cell? (Z a 4)=some (Y n))/\g.drew.cell? (Z B 0)=some (.bool o.r)/\g.drew.cell? (Z B 1)=some (Y o.n):=⟨u.drew.c5,s.drew.f_ 0,s.drew.f_ 1⟩;have e0:(0:Int)<=(E:Int):=X;have aC:(E:Int)<16:=X
   (iterate 6 refine jW l ?_)
   have bG:g.cell? (Z gx (40+E*2))=some (.bool (x.e.r E).r):=(j.bk.f_ _).trans (ke x E S).1;have q1:g.cell? (Z gx (40+E*2+1))=some (Y (x.e.r E).n):=(j.bk.f_ _).trans (ke x E S).2;have f0:=j.bk.hm (40+E*2);have f1:=j.bk.hm (40+E*2+1)
   refine hV 6 λt m=>?_
   go_simp;obtain⟨N,F⟩:=DV j o S;refine m.out _ _ (λh=>U_ h I) ?_;clear m t
   try simp only[a_]
   refine hC k_ ?_ _;go_wp2;go_ret;rw[K.out];exact⟨_,rfl,j.sG F N rfl rfl rfl rfl rfl rfl rfl,rfl,C.ir F⟩
  .have K:Hid (U=ji x.p k):=O (by rw[<-Q.out,O_ (zu v)]);have q:(k !=0)=true:=zu v;clear v Q D
   go_wp2_with (go_at_call 165;((with_reducible refine(k8 b gx x k j hs).mono ?_);unfold kW;rintro W ae⟨au,rfl,M,g,G⟩;have N:=O g;clear g))
   go_ret;rw[K.out];exact⟨au,rfl,M,N.out,C.trans G⟩
def pS{w:World}(L:ks b w gx x)(v:x.p.e.sm 900000)(A:0<=i.a)(C:i.a<16)(u:i.op=3∨i.op=4->0<=i.b/\i.b<16)(z:i.op=4->0<=i.c/\i.c<16):
 Calls prog 119 #[q_ gx,.agg #[Y i.op,Y i.a,Y i.b,Y i.c,Y i.n]] w (lC ((jb x.p i).getD x.p) (jb x.p i).isSome b gx w):=by
 obtain⟨a,aE,MO,c,n⟩:=i;simp only at A C u z |-;obtain⟨E,rfl⟩:∃k:Nat,aE=k:=⟨aE.toNat,X⟩;have f:E<16:=X
 by_cases p:a=0
 .subst p;have e:jb x.p ⟨0,E,MO,c,n⟩=some x.p:=rfl;rw[e];exact plain_0 b w gx x E MO c n L
 by_cases q:a=1
 .subst q;have e:jb x.p ⟨1,E,MO,c,n⟩=some (kY x.p E ⟨false,n⟩):=rfl;rw[e];exact plain_1 b w gx x E MO c n L f
 by_cases s:a=2
 .subst s;have e:jb x.p ⟨2,E,MO,c,n⟩=some (kY x.p E ⟨true,0⟩):=rfl;rw[e];exact plain_2 b w gx x E MO c n L f
 by_cases t:a=3
 .subst t;obtain⟨G,B⟩:=u (.inl rfl);obtain⟨d,rfl⟩:∃k:Nat,MO=k:=⟨MO.toNat,X⟩;have e:jb x.p ⟨3,E,d,c,n⟩=some (kY x.p E (x.e.r d)):=rfl;rw[e];exact plain_3 b w gx x E d c n L f X
 by_cases l:a=4
 .subst l;obtain⟨G,B⟩:=u (.inr rfl);obtain⟨D,F⟩:=z rfl;obtain⟨d,rfl⟩:∃k:Nat,MO=k:=⟨MO.toNat,X⟩;obtain⟨g,rfl⟩:∃k:Nat,c=k:=⟨c.toNat,X⟩;have e:jb x.p ⟨4,E,d,g,n⟩=some (if(iz n (x.e.r d) (x.e.r g)).2≠0 then ji x.p (iz n (x.e.r d) (x.e.r g)).2 else kY x.p E (iz n (x.e.r d) (x.e.r g)).1):=rfl;rw[e];exact plain_4 b w gx x E d g n L f X X v
 by_cases h:a=11
 .subst h;have e:jb x.p ⟨11,E,MO,c,n⟩=some (sD x.p n):=rfl;rw[e];exact plain_11 b w gx x E MO c n L
 by_cases m:a=12
 .subst m;have e:jb x.p ⟨12,E,MO,c,n⟩=some (if(x.e.r E).n≠0 then x.p else sD x.p n):=rfl;rw[e];exact plain_12 b w gx x E MO c n L f
 by_cases y:a=21
 .subst y;have e:jb x.p ⟨21,E,MO,c,n⟩=some {x.p with e:={x.p.e with r:=i5,hS:=1,kw:=n}}:=rfl;rw[e];exact plain_21 b w gx x E MO c n L
 by_cases j:a=16
 .subst j;have e:jb x.p ⟨16,E,MO,c,n⟩=some (iX x.p (x.e.r E)):=rfl;rw[e];exact plain_16 b w gx x E MO c n L f v
 by_cases o:a=19
 .subst o;have e:jb x.p ⟨19,E,MO,c,n⟩=some (if(x.e.r E).r=true then ji x.p (-2) else{x.p with e:={x.p.e with hW:=[⟨false,(x.e.r E).n,0⟩]}}):=rfl;rw[e];exact plain_19 b w gx x E MO c n L f v
 have e:jb x.p ⟨a,E,MO,c,n⟩=none:=by
  unfold jb;exact(I_ p).trans ((I_ q).trans ((I_ s).trans ((I_ t).trans ((I_ l).trans ((I_ h).trans ((I_ m).trans ((I_ y).trans ((I_ j).trans (I_ o)))))))))
 rw[e];exact Bc b w gx x a E MO c n L ⟨p,q,s,t,l,h,m,y,j,o⟩
def vj:∀a,a<16->x.g8[4+a*2]?=some (.bool (x.sr a).r)/\x.g8[4+a*2+1]?=some (Y (x.sr a).n)
 |0,_=>⟨rfl,rfl⟩
 |1,_=>⟨rfl,rfl⟩
 |2,_=>⟨rfl,rfl⟩
 |3,_=>⟨rfl,rfl⟩
 |4,_=>⟨rfl,rfl⟩
 |5,_=>⟨rfl,rfl⟩
 |6,_=>⟨rfl,rfl⟩
 |7,_=>⟨rfl,rfl⟩
 |8,_=>⟨rfl,rfl⟩
 |9,_=>⟨rfl,rfl⟩
 |10,_=>⟨rfl,rfl⟩
 |11,_=>⟨rfl,rfl⟩
 |12,_=>⟨rfl,rfl⟩
 |13,_=>⟨rfl,rfl⟩
 |14,_=>⟨rfl,rfl⟩
 |15,_=>⟨rfl,rfl⟩
 |n+16,h=>U_ h X
def vL{w:World}{gx:Nat}{x:X1}(h:Bk w gx 186 x.g8)(a:k<16):w.cell? (Z gx (4+k*2))=some (.bool (x.sr k).r)/\w.cell? (Z gx (4+k*2+1))=some (Y (x.sr k).n):=⟨(h.f_ _).trans (vj x k a).1,(h.f_ _).trans (vj x k a).2⟩
def sk{w:World}{a gx:Nat}{t:TypeId}{x:X1}{y f u v q:Value}(h:Bk w a t #[y,f,u,v,q])(L:Bk w gx 186 x.g8)(g:k<16){e:Obj}:(((w.alloc e).drew.cell? (Z a 0)=some y/\(w.alloc e).drew.cell? (Z a 1)=some f/\(w.alloc e).drew.cell? (Z a 2)=some u/\(w.alloc e).drew.cell? (Z a 3)=some v/\(w.alloc e).drew.cell? (Z a 4)=some q)/\(w.alloc e).drew.cell? (Z gx (4+k*2))=some (.bool (x.sr k).r)/\(w.alloc e).drew.cell? (Z gx (4+k*2+1))=some (Y (x.sr k).n)):=
 ⟨(h.g_ ((H [] w).alloc e).drew).c5,vL (L.g_ ((H [] w).alloc e).drew) g⟩
def zv{b w:World}{a gx:Nat}{x:X1}{h:World}{f:Array Value}(L:ks b w gx x)(j:Bk w a 189 f)(l:XG gx h w)(v:Array Value):∃W g,(w.alloc (.cells v 38)).drew=W/\w.heap.size=g/\ks b W gx x/\Bk W a 189 f/\Bk W g 38 v/\XG gx h W/\g≠gx:=
 have e:=((H [] w).alloc (.cells v 38)).drew
 ⟨_,_,rfl,rfl,L.g_ e,j.g_ e,(Q_ w 38 v).drew,l.g_ e,ov L.bk.lt⟩
def B8(op aE MO c:Int)(n:Int)(L:ks b w gx x)(v:op≠8/\op≠9/\op≠10/\op≠20):
 Calls prog 120 #[q_ gx,.agg #[Y op,Y aE,Y MO,Y c,Y n]] w (lC x.p false b gx w):=by
 obtain⟨h,j,l,e,g,a,aF,z⟩:=sH L #[Y op,Y aE,Y MO,Y c,Y n]
 go_enter func120,ntmps120
 go_upto_region 1 with fail
 have f:=a.f_ 0;have u:(op=8)=False:=p_;have q:(op==8)=false:=p_;have r:(op !=8)=true:=p_;have y:(op=9)=False:=p_;have p:(op==9)=false:=p_;have o:(op !=9)=true:=p_;have i:(op=10)=False:=p_;have m:(op==10)=false:=p_;have t:(op !=10)=true:=p_;have s:(op=20)=False:=p_;have d:(op==20)=false:=p_;have k:(op !=20)=true:=p_;exact MA
def vars_9(n:Int)(L:ks b w gx x)(s:E<16)(hs:x.p.e.sm 800000)(h0:0<=n)(h1:n<=1000000):
 Calls prog 120 #[q_ gx,.agg #[Y 9,Y (E:Int),Y MO,Y c,Y n]] w (lC ((ki x.p ⟨9,E,MO,c,n⟩).getD x.p) true b gx w):=by
 obtain⟨t,y⟩:=mn_ ((ki x.p ⟨9,E,MO,c,n⟩).getD x.p);rw[y];have z:=O y;obtain⟨o,e,aI,ad,g,a,R,ae⟩:=sH L #[Y 9,Y (E:Int),Y MO,Y c,Y n]
 go_enter func120,ntmps120
 go_upto_region 1 with fail
 have D:=a.f_ 0
 go_upto_region 3 with fail
 have aq:J [] o o.drew:=(H [] o).drew;refine hI (λw'=>(w'.cell? (Z e 0)=some (Y 9)/\w'.cell? (Z e 1)=some (Y (E:Int))/\w'.cell? (Z e 2)=some (Y MO)/\w'.cell? (Z e 3)=some (Y c)/\w'.cell? (Z e 4)=some (Y n))/\w'.cell? (Z gx (4+E*2))=some (.bool (x.sr E).r)/\w'.cell? (Z gx (4+E*2+1))=some (Y (x.sr E).n)) 10 k_ ?_;have j:=And.intro a.drew.c5 (vL (g.bk.drew) s);have e0:(0:Int)<=(E:Int):=X;have aC:(E:Int)<16:=X
 iterate 8 refine jW j ?_
 refine hV 8 λC m=>?_
 go_simp
 refine hX m (sk a g.bk s) λj=>?_
 refine hV 9 λC m=>?_
 go_simp
 refine hX m (sk a g.bk s) λj=>?_
 refine hC k_ ?_ _;obtain⟨bf,aS,bD,T,P,u,bu,S,M⟩:=zv g a R #[.bool (x.sr E).r,Y (x.sr E).n];rw[bD,T];have aX:=u.f_ 4;obtain⟨⟨f,v,d,ok⟩,hy⟩:∃ag,ht x.p n=ag:=⟨_,rfl⟩;have F:=O hy
 go_upto_region 5 with(go_at_call 167;((with_reducible refine(mg b gx x n P hs h0 h1).mono ?_);rw[F.out];unfold xd;rintro ai ah⟨ao,rfl,B,W,p⟩;have am:=O W))
 have A:=u.xg p ae;have i:=bu.xg p M;have l:=S.trans p;have N:f.e.sm 800010:=Ms
 cases ok with
 |false=>
  have ap:Hid (t=f):=O (by rw[<-z.out];show(if(ht x.p n).2.2.2=false then some (ht x.p n).1 else some (h4 (ht x.p n).1 (ht x.p n).2.1 (ht x.p n).2.2.1 (x.p.sr E))).getD x.p=f;rw[F.out];rfl);exact Mq
 |true=>
  have ap:Hid (t=h4 f v d (x.sr E)):=O (by rw[<-z.out];show(if(ht x.p n).2.2.2=false then some (ht x.p n).1 else some (h4 (ht x.p n).1 (ht x.p n).2.1 (ht x.p n).2.2.1 (x.p.sr E))).getD x.p=_;rw[F.out];rfl)
  have bR:ao.e.ws.l.length<=1000000:=by have q:=N.ws;rw[<-am.out]at q;exact G_ q I
  have D:=A.f_ 0;have v0:=i.f_ 0;have v1:=i.f_ 1
  go_wp2_with (go_at_call 163;((with_reducible refine(jZ b gx ao v d (x.sr E) B bR).mono ?_);unfold kW;rintro ai aj⟨K,rfl,Q,U,V⟩;have be:=O U))
  go_ret;rw[ap.out];exact⟨K,rfl,Q,by rw[be.out,am.out],l.trans V⟩
def vars_8(n:Int)(L:ks b w gx x)(j:E<16)(hs:x.p.e.sm 800000)(h0:0<=n)(h1:n<=1000000):
 Calls prog 120 #[q_ gx,.agg #[Y 8,Y (E:Int),Y MO,Y c,Y n]] w (lC ((ki x.p ⟨8,E,MO,c,n⟩).getD x.p) true b gx w):=by
 obtain⟨S,hP⟩:=mn_ ((ki x.p ⟨8,E,MO,c,n⟩).getD x.p);rw[hP];have ad:=O hP;obtain⟨C,e,aI,ae,y,s,aF,ai⟩:=sH L #[Y 8,Y (E:Int),Y MO,Y c,Y n]
 go_enter func120,ntmps120
 go_upto_region 1 with fail
 have R:=s.f_ 0
 go_upto_region 3 with fail
 have aq:J [] C C.drew:=(H [] C).drew;refine hI (λw'=>(w'.cell? (Z e 0)=some (Y 8)/\w'.cell? (Z e 1)=some (Y (E:Int))/\w'.cell? (Z e 2)=some (Y MO)/\w'.cell? (Z e 3)=some (Y c)/\w'.cell? (Z e 4)=some (Y n))/\w'.cell? (Z gx (4+E*2))=some (.bool (x.sr E).r)/\w'.cell? (Z gx (4+E*2+1))=some (Y (x.sr E).n)) 10 k_ ?_;have m:=And.intro s.drew.c5 (vL (y.bk.drew) j);have e0:(0:Int)<=(E:Int):=X;have aC:(E:Int)<16:=X
 iterate 8 refine jW m ?_
 refine hV 8 λP p=>?_
 go_simp
 refine hX p (sk s y.bk j) λm=>?_
 refine hV 9 λP p=>?_
 go_simp
 refine hX p (sk s y.bk j) λm=>?_
 refine hC k_ ?_ _;obtain⟨bf,aS,bD,aQ,aj,V,bu,aM,MR⟩:=zv y s aF #[.bool (x.sr E).r,Y (x.sr E).n];rw[bD,aQ];have aX:=V.f_ 4;obtain⟨⟨u,v,d,ok⟩,hy⟩:∃ak,ht x.p n=ak:=⟨_,rfl⟩;have F:=O hy
 go_upto_region 5 with(go_at_call 167;((with_reducible refine(mg b gx x n aj hs h0 h1).mono ?_);rw[F.out];unfold xd;rintro al ah⟨ao,rfl,B,bA,D⟩;have am:=O bA))
 have A:=V.xg D ai;have i:=bu.xg D MR;have l:=aM.trans D;have MS:u.e.sm 800010:=Ms
 cases ok with
 |false=>
  have ap:Hid (S=u):=O (by rw[<-ad.out];show(if(ht x.p n).2.2.2=false then some (ht x.p n).1 else some (kY (hJ (ht x.p n).1 (ht x.p n).2.1 (ht x.p n).2.2.1).1 E (hJ (ht x.p n).1 (ht x.p n).2.1 (ht x.p n).2.2.1).2)).getD x.p=_;rw[F.out];rfl);exact Mq
 |true=>
  obtain⟨a,hv⟩:=mn_ ((hJ ao.p v d).2);have U:=O hv
  have bR:ao.e.rs.l.length<=1000000:=by have q:=MS.rs;rw[<-am.out]at q;exact G_ q I
  have R:=A.f_ 0
  go_upto_region 11 with(go_at_call 118;((with_reducible refine(jL b gx ao v d B bR).mono ?_);unfold m8;rintro al t⟨o,rfl,T,aZ,K⟩;have be:=O aZ;rw[U.out]))
  have ap:Hid (S=kY o.p E a):=O (by rw[<-ad.out];show(if(ht x.p n).2.2.2=false then some (ht x.p n).1 else some (kY (hJ (ht x.p n).1 (ht x.p n).2.1 (ht x.p n).2.2.1).1 E (hJ (ht x.p n).1 (ht x.p n).2.1 (ht x.p n).2.2.1).2)).getD x.p=_;rw[F.out];show kY (hJ u v d).1 E (hJ u v d).2=_;rw[<-am.out,U.out,be.out]);have M:=(A.xg K ai).alloc (.cells #[.bool a.r,Y a.n] 38);have g:=T.g_ ((H [] t).alloc (.cells #[.bool a.r,Y a.n] 38));have N:=Q_ t 38 #[.bool a.r,Y a.n];have bl:=(l.trans K).g_ ((H [] t).alloc (.cells #[.bool a.r,Y a.n] 38));obtain⟨f,W⟩:=nm_ (t.alloc (.cells #[.bool a.r,Y a.n] 38));rw[<-W]at M g N bl |-;clear W;clear T K B l A i;generalize t.heap.size=z at*;have R:=M.f_ 0
  go_upto_region 13 with fail
  refine hI (λw'=>(w'.cell? (Z e 0)=some (Y 8)/\w'.cell? (Z e 1)=some (Y (E:Int))/\w'.cell? (Z e 2)=some (Y MO)/\w'.cell? (Z e 3)=some (Y c)/\w'.cell? (Z e 4)=some (Y n))/\w'.cell? (Z z 0)=some (.bool a.r)/\w'.cell? (Z z 1)=some (Y a.n)) 9 k_ ?_;have m:(f.drew.cell? (Z e 0)=some (Y 8)/\f.drew.cell? (Z e 1)=some (Y (E:Int))/\f.drew.cell? (Z e 2)=some (Y MO)/\f.drew.cell? (Z e 3)=some (Y c)/\f.drew.cell? (Z e 4)=some (Y n))/\f.drew.cell? (Z z 0)=some (.bool a.r)/\f.drew.cell? (Z z 1)=some (Y a.n):=⟨M.drew.c5,N.drew.f_ 0,N.drew.f_ 1⟩;have e0:(0:Int)<=(E:Int):=X;have aC:(E:Int)<16:=X
  (iterate 9 refine jW m ?_)
  have bG:f.cell? (Z gx (40+E*2))=some (.bool (o.e.r E).r):=(g.bk.f_ _).trans (ke o E j).1;have q1:f.cell? (Z gx (40+E*2+1))=some (Y (o.e.r E).n):=(g.bk.f_ _).trans (ke o E j).2;have f0:=g.bk.hm (40+E*2);have f1:=g.bk.hm (40+E*2+1)
  refine hV 9 λP p=>?_
  go_simp;obtain⟨aP,Q⟩:=DV g a j;refine p.out _ _ (λh=>U_ h I) ?_
  try simp only[a_]
  refine hC k_ ?_ _;go_wp2;go_ret;rw[ap.out];exact⟨_,rfl,g.sG Q aP rfl rfl rfl rfl rfl rfl rfl,rfl,bl.ir Q⟩
def vars_20(n:Int)(L:ks b w gx x)(ha:E<16)(hs:x.p.e.sm 800000)(h0:0<=n)(h1:n<=1000000):
 Calls prog 120 #[q_ gx,.agg #[Y 20,Y (E:Int),Y MO,Y c,Y n]] w (lC ((ki x.p ⟨20,E,MO,c,n⟩).getD x.p) true b gx w):=by
 obtain⟨S,hP⟩:=mn_ ((ki x.p ⟨20,E,MO,c,n⟩).getD x.p);rw[hP];have ai:=O hP;clear hP;obtain⟨al,P,aI,an,Q,D,aF,av⟩:=sH L #[Y 20,Y (E:Int),Y MO,Y c,Y n]
 go_enter func120,ntmps120
 go_upto_region 1 with fail
 clear aI an;have N:=D.f_ 0
 go_upto_region 3 with fail
 clear N;have aq:J [] al al.drew:=(H [] al).drew;refine hI (λw'=>(w'.cell? (Z P 0)=some (Y 20)/\w'.cell? (Z P 1)=some (Y (E:Int))/\w'.cell? (Z P 2)=some (Y MO)/\w'.cell? (Z P 3)=some (Y c)/\w'.cell? (Z P 4)=some (Y n))/\w'.cell? (Z gx (4+E*2))=some (.bool (x.sr E).r)/\w'.cell? (Z gx (4+E*2+1))=some (Y (x.sr E).n)) 10 k_ ?_;have f:=And.intro D.drew.c5 (vL (Q.bk.drew) ha);have e0:(0:Int)<=(E:Int):=X;have aC:(E:Int)<16:=X
 iterate 8 refine jW f ?_
 refine hV 8 λu j=>?_
 go_simp;clear f
 refine hX j (sk D Q.bk ha) λf=>?_
 clear j u
 refine hV 9 λu j=>?_
 go_simp;clear f
 refine hX j (sk D Q.bk ha) λf=>?_
 clear j u;refine hC k_ ?_ _;obtain⟨bf,aS,bD,aQ,aw,aR,bu,aM,MR⟩:=zv Q D aF #[.bool (x.sr E).r,Y (x.sr E).n];rw[bD,aQ];clear bD aQ Q D aF aq f;have aX:=aR.f_ 4;obtain⟨⟨o,m,d,ok⟩,hy⟩:∃ax,ht x.p n=ax:=⟨_,rfl⟩;have F:=O hy;clear hy
 go_upto_region 5 with(go_at_call 167;((with_reducible refine(mg b gx x n aw hs h0 h1).mono ?_);rw[F.out];unfold xd;rintro e ah⟨ao,rfl,B,bA,T⟩;have am:=O bA;clear bA))
 have ay:=aR.xg T av;have i:=bu.xg T MR;have l:=aM.trans T;have MS:o.e.sm 800010:=Ms;clear aw aR bu aM T aX
 cases ok with
 |false=>
  have ap:Hid (S=o):=O (by rw[<-ai.out];show(if(ht x.p n).2.2.2=false then some (ht x.p n).1 else if(hJ (ht x.p n).1 (ht x.p n).2.1 (ht x.p n).2.2.1).2.r=true then some (ji (hJ (ht x.p n).1 (ht x.p n).2.1 (ht x.p n).2.2.1).1 (-2)) else some {(hJ (ht x.p n).1 (ht x.p n).2.1 (ht x.p n).2.2.1).1 with e:={(hJ (ht x.p n).1 (ht x.p n).2.1 (ht x.p n).2.2.1).1.e with hS:=3,v:=(hJ (ht x.p n).1 (ht x.p n).2.1 (ht x.p n).2.2.1).2,pc:=(hJ (ht x.p n).1 (ht x.p n).2.1 (ht x.p n).2.2.1).1.js,r:=(hJ (ht x.p n).1 (ht x.p n).2.1 (ht x.p n).2.2.1).1.sr}}).getD x.p=_;rw[F.out];rfl);exact Mq
 |true=>
  obtain⟨v,hv⟩:=mn_ ((hJ ao.p m d).2);have aO:=O hv;clear hv
  have bR:ao.e.rs.l.length<=1000000:=by have q:=MS.rs;rw[<-am.out]at q;exact G_ q I
  have N:=ay.f_ 0
  go_upto_region 11 with(go_at_call 118;((with_reducible refine(jL b gx ao m d B bR).mono ?_);unfold m8;rintro e K⟨a,rfl,aD,aZ,af⟩;have be:=O aZ;clear aZ;rw[aO.out]))
  have U:Hid (S=if v.r=true then ji a.p (-2) else{a.p with e:={a.p.e with hS:=3,v:=v,pc:=a.p.js,r:=a.p.sr}}):=O (by rw[<-ai.out];show(if(ht x.p n).2.2.2=false then some (ht x.p n).1 else if(hJ (ht x.p n).1 (ht x.p n).2.1 (ht x.p n).2.2.1).2.r=true then some (ji (hJ (ht x.p n).1 (ht x.p n).2.1 (ht x.p n).2.2.1).1 (-2)) else some {(hJ (ht x.p n).1 (ht x.p n).2.1 (ht x.p n).2.2.1).1 with e:={(hJ (ht x.p n).1 (ht x.p n).2.1 (ht x.p n).2.2.1).1.e with hS:=3,v:=(hJ (ht x.p n).1 (ht x.p n).2.1 (ht x.p n).2.2.1).2,pc:=(hJ (ht x.p n).1 (ht x.p n).2.1 (ht x.p n).2.2.1).1.js,r:=(hJ (ht x.p n).1 (ht x.p n).2.1 (ht x.p n).2.2.1).1.sr}}).getD x.p=_;rw[F.out];show(if(hJ o m d).2.r=true then some (ji (hJ o m d).1 (-2)) else some {(hJ o m d).1 with e:={(hJ o m d).1.e with hS:=3,v:=(hJ o m d).2,pc:=(hJ o m d).1.js,r:=(hJ o m d).1.sr}}).getD x.p=_;rw[<-am.out,aO.out,<-be.out];split<;>rfl)
  have bz:a.p.e.sm 900000:=by
   have q:=kb MS m d;rw[<-am.out,<-be.out]at q;exact q.mono I
  have ag:=(ay.xg af av).alloc (.cells #[.bool v.r,Y v.n] 38);have y:=aD.g_ ((H [] K).alloc (.cells #[.bool v.r,Y v.n] 38));have A:=Q_ K 38 #[.bool v.r,Y v.n];have bl:=(l.trans af).g_ ((H [] K).alloc (.cells #[.bool v.r,Y v.n] 38));have h:K.heap.size≠gx:=ov aD.bk.lt;clear N aO be ai F;obtain⟨s,bE⟩:=nm_ (K.alloc (.cells #[.bool v.r,Y v.n] 38));rw[<-bE]at ag y A bl |-;clear bE;clear aD af B l ay i;generalize K.heap.size=R at*;have N:=ag.f_ 0
  cases C:v.r with
  |true=>
   have ap:Hid (S=ji a.p (-2)):=O (by rw[U.out,O_ C]);rw[C]at A;clear C U;have z0:=A.f_ 0
   go_wp2_with (go_at_call 165;((with_reducible refine(k8 b gx a (-2) y bz).mono ?_);unfold kW;rintro e ae⟨M,rfl,t,g,G⟩;have z:=O g;clear g))
   go_ret;rw[ap.out];exact⟨M,rfl,t,z.out,bl.trans G⟩
  |false=>
   have ap:Hid (S={a.p with e:={a.p.e with hS:=3,v:=v,pc:=a.p.js,r:=a.p.sr}}):=O (by rw[U.out,I_ (by rw[C];decide)]);have z0:s.cell? (Z R 0)=some (.bool false):=(A.f_ 0).trans (by rw[C];rfl);clear C U
   go_upto_region 25 with fail
   clear N z0;have k:=y.bk.drew;refine hI (λw'=>(∀g,g<33->w'.cell? (Z gx (3+g))=(iE a.js a.sr)[g]?)/\w'.cell? (Z R 0)=some (.bool v.r)/\w'.cell? (Z R 1)=some (Y v.n)) 20 k_ ?_
   refine nZ ⟨λg t=>by rw[k.f_];exact mE a g t,A.drew.f_ 0,A.drew.f_ 1⟩ λf=>?_
   (iterate 7 refine jW f ?_)
   refine iH 7 (v:=.agg (iE a.js a.sr)) f ?_ (hy:=(Or.inl ⟨r_,λw' bq=>lV 49 rfl gx 3 r_ (λg t=>bq.1 g t) underlying49 rfl k_⟩))
   (iterate 3 refine jW f ?_)
   have bZ:s.cell? (Z gx 38)=some (Y a.e.hS):=(y.bk.f_ 38).trans rfl;have bW:=y.bk.hm 38
   refine hV 11 λu j=>?_
   go_simp;have z:Bk ((s.setCell (Z gx 38) (Y 3)).drew) gx 186 ({a with e:={a.e with hS:=3}}:X1).g8:=(y.bk).hN 38 (Y 3);have V:Bk ((s.setCell (Z gx 38) (Y 3)).drew) R 38 #[.bool v.r,Y v.n]:=(A).ib (p:=(Z gx 38)) h (Y 3);have aL:J [gx] s ((s.setCell (Z gx 38) (Y 3)).drew):=J.drew <| ((H [gx] s)).setCell (p:=(Z gx 38)) (.inl s_) (Y 3);obtain⟨M,bX⟩:=nm_ ((s.setCell (Z gx 38) (Y 3)).drew);rw[<-bX]at z V aL |-;clear bX f
   refine hX j ⟨λg t=>by rw[z.f_];exact mE ({a with e:={a.e with hS:=3}}:X1) g t,V.f_ 0,V.f_ 1⟩ λf=>?_
   clear j u;clear bZ bW
   (iterate 3 refine jW f ?_)
   have b6:M.cell? (Z gx 79)=some (.bool a.e.v.r):=(z.f_ 79).trans rfl;have b7:M.cell? (Z gx 80)=some (Y a.e.v.n):=(z.f_ 80).trans rfl;have b3:=z.hm 79;have b4:=z.hm 80
   refine hV 15 λu j=>?_
   go_simp;have bt:Bk ((M.setCell (Z gx 79) (.bool v.r)).setCell (Z gx 80) (Y v.n)) gx 186 ({a with e:={a.e with hS:=3,v:=v}}:X1).g8:=((z).hN 79 (.bool v.r)).hN 80 (Y v.n);have W:Bk ((M.setCell (Z gx 79) (.bool v.r)).setCell (Z gx 80) (Y v.n)) R 38 #[.bool v.r,Y v.n]:=((V).ib (p:=(Z gx 79)) h (.bool v.r)).ib (p:=(Z gx 80)) h (Y v.n);have a2:J [gx] s ((M.setCell (Z gx 79) (.bool v.r)).setCell (Z gx 80) (Y v.n)):=((aL).setCell (p:=(Z gx 79)) (.inl s_) (.bool v.r)).setCell (p:=(Z gx 80)) (.inl s_) (Y v.n);obtain⟨bw,bY⟩:=nm_ ((M.setCell (Z gx 79) (.bool v.r)).setCell (Z gx 80) (Y v.n));rw[<-bY]at bt W a2 |-;clear bY f
   refine hX j ⟨λg t=>by rw[bt.f_];exact mE ({a with e:={a.e with hS:=3,v:=v}}:X1) g t,W.f_ 0,W.f_ 1⟩ λf=>?_
   clear b6 b3 b7 b4
   iterate 3 refine jW f ?_
   refine hV 19 λu j=>?_
   rw[O_ r_];refine jz 49 _ _ rfl gx 39 r_ (iE a.js a.sr) r_ 186 _ bt (by show 39+33<=82;decide) k_ (oi) ?_;intro ae bG G;rw[ny]at bG;have bp:=W.gr G (zu h)
   refine hX j ⟨λg t=>by rw[bG.f_];exact mE ({a with e:={a.e with hS:=3,v:=v,pc:=a.js,r:=a.sr}}:X1) g t,bp.f_ 0,bp.f_ 1⟩ λf=>?_
   refine hC k_ ?_ _;go_wp2;go_ret;rw[ap.out];exact⟨_,rfl,y.sG (x':=({a with e:={a.e with hS:=3,v:=v,pc:=a.js,r:=a.sr}}:X1)) (a2.trans G) bG rfl rfl rfl rfl rfl rfl rfl,rfl,bl.ir (a2.trans G)⟩
def vars_10(n:Int)(L:ks b w gx x)(ha:E<16)(hs:x.p.e.sm 800000)(h0:0<=n)(h1:n<=1000000):
 Calls prog 120 #[q_ gx,.agg #[Y 10,Y (E:Int),Y MO,Y c,Y n]] w (lC ((ki x.p ⟨10,E,MO,c,n⟩).getD x.p) true b gx w):=by
 obtain⟨R,hP⟩:=mn_ ((ki x.p ⟨10,E,MO,c,n⟩).getD x.p);rw[hP];have al:=O hP;clear hP;obtain⟨an,M,aI,aA,Q,y,aF,bd⟩:=sH L #[Y 10,Y (E:Int),Y MO,Y c,Y n]
 go_enter func120,ntmps120
 go_upto_region 1 with fail
 clear aI aA;have C:=y.f_ 0
 go_upto_region 3 with fail
 clear C;have aq:J [] an an.drew:=(H [] an).drew;refine hI (λw'=>(w'.cell? (Z M 0)=some (Y 10)/\w'.cell? (Z M 1)=some (Y (E:Int))/\w'.cell? (Z M 2)=some (Y MO)/\w'.cell? (Z M 3)=some (Y c)/\w'.cell? (Z M 4)=some (Y n))/\w'.cell? (Z gx (4+E*2))=some (.bool (x.sr E).r)/\w'.cell? (Z gx (4+E*2+1))=some (Y (x.sr E).n)) 10 k_ ?_;have v:=And.intro y.drew.c5 (vL (Q.bk.drew) ha);have e0:(0:Int)<=(E:Int):=X;have aC:(E:Int)<16:=X
 iterate 8 refine jW v ?_
 refine hV 8 λbj D=>?_
 go_simp;clear v
 refine hX D (sk y Q.bk ha) λv=>?_
 clear D bj
 refine hV 9 λbj D=>?_
 go_simp;clear v
 refine hX D (sk y Q.bk ha) λv=>?_
 clear D bj;refine hC k_ ?_ _;obtain⟨bf,aS,bD,aQ,bk,aR,bu,aM,MR⟩:=zv Q y aF #[.bool (x.sr E).r,Y (x.sr E).n];rw[bD,aQ];clear bD aQ Q y aF aq v;have aX:=aR.f_ 4;obtain⟨⟨o,a,d,ok⟩,hy⟩:∃bm,ht x.p n=bm:=⟨_,rfl⟩;have F:=O hy;clear hy
 go_upto_region 5 with(go_at_call 167;((with_reducible refine(mg b gx x n bk hs h0 h1).mono ?_);rw[F.out];unfold xd;rintro e ah⟨ao,rfl,B,bA,S⟩;have am:=O bA;clear bA))
 have bn:=aR.xg S bd;have i:=bu.xg S MR;have l:=aM.trans S;have MS:o.e.sm 800010:=Ms;clear bk aR bu aM S aX
 cases ok with
 |false=>
  have ap:Hid (R=o):=O (by rw[<-al.out];show(if(ht x.p n).2.2.2=false then some (ht x.p n).1 else(if(iz MO (hJ (ht x.p n).1 (ht x.p n).2.1 (ht x.p n).2.2.1).2 (x.sr E)).2≠0 then some (ji (hJ (ht x.p n).1 (ht x.p n).2.1 (ht x.p n).2.2.1).1 (iz MO (hJ (ht x.p n).1 (ht x.p n).2.1 (ht x.p n).2.2.1).2 (x.sr E)).2) else some {(h4 (hJ (ht x.p n).1 (ht x.p n).2.1 (ht x.p n).2.2.1).1 (ht x.p n).2.1 (ht x.p n).2.2.1 (iz MO (hJ (ht x.p n).1 (ht x.p n).2.1 (ht x.p n).2.2.1).2 (x.sr E)).1)with e:={(h4 (hJ (ht x.p n).1 (ht x.p n).2.1 (ht x.p n).2.2.1).1 (ht x.p n).2.1 (ht x.p n).2.2.1 (iz MO (hJ (ht x.p n).1 (ht x.p n).2.1 (ht x.p n).2.2.1).2 (x.sr E)).1).e with ds:=[⟨(ht x.p n).2.1,(ht x.p n).2.2.1,MO,x.sr E⟩]}})).getD x.p=_;rw[F.out];rfl);exact Mq
 |true=>
  obtain⟨f,hv⟩:=mn_ ((hJ ao.p a d).2);have aO:=O hv;clear hv
  have bR:ao.e.rs.l.length<=1000000:=by have q:=MS.rs;rw[<-am.out]at q;exact G_ q I
  have C:=bn.f_ 0
  go_upto_region 11 with(go_at_call 118;((with_reducible refine(jL b gx ao a d B bR).mono ?_);unfold m8;rintro e K⟨g,rfl,aD,aZ,T⟩;have be:=O aZ;clear aZ;rw[aO.out]))
  obtain⟨⟨m,k⟩,aG⟩:∃q,iz MO f (x.sr E)=q:=⟨_,rfl⟩;have aw:=O aG;clear aG;have aW:Hid (R=if k≠0 then ji g.p k else{(h4 g.p a d m)with e:={(h4 g.p a d m).e with ds:=[⟨a,d,MO,x.sr E⟩]}}):=O (by rw[<-al.out];show(if(ht x.p n).2.2.2=false then some (ht x.p n).1 else(if(iz MO (hJ (ht x.p n).1 (ht x.p n).2.1 (ht x.p n).2.2.1).2 (x.sr E)).2≠0 then some (ji (hJ (ht x.p n).1 (ht x.p n).2.1 (ht x.p n).2.2.1).1 (iz MO (hJ (ht x.p n).1 (ht x.p n).2.1 (ht x.p n).2.2.1).2 (x.sr E)).2) else some {(h4 (hJ (ht x.p n).1 (ht x.p n).2.1 (ht x.p n).2.2.1).1 (ht x.p n).2.1 (ht x.p n).2.2.1 (iz MO (hJ (ht x.p n).1 (ht x.p n).2.1 (ht x.p n).2.2.1).2 (x.sr E)).1)with e:={(h4 (hJ (ht x.p n).1 (ht x.p n).2.1 (ht x.p n).2.2.1).1 (ht x.p n).2.1 (ht x.p n).2.2.1 (iz MO (hJ (ht x.p n).1 (ht x.p n).2.1 (ht x.p n).2.2.1).2 (x.sr E)).1).e with ds:=[⟨(ht x.p n).2.1,(ht x.p n).2.2.1,MO,x.sr E⟩]}})).getD x.p=_;rw[F.out];show((if(iz MO (hJ o a d).2 (x.sr E)).2≠0 then some (ji (hJ o a d).1 (iz MO (hJ o a d).2 (x.sr E)).2) else some {(h4 (hJ o a d).1 a d (iz MO (hJ o a d).2 (x.sr E)).1)with e:={(h4 (hJ o a d).1 a d (iz MO (hJ o a d).2 (x.sr E)).1).e with ds:=[⟨a,d,MO,x.sr E⟩]}})).getD x.p=_;rw[<-am.out,aO.out,<-be.out,aw.out];show(if k≠0 then some (ji g.p k) else _).getD x.p=_;split<;>rfl)
  have bz:g.p.e.sm 900000:=by
   have q:=kb MS a d;rw[<-am.out,<-be.out]at q;exact q.mono I
  have N:=(bn.xg T bd).alloc (.cells #[.bool f.r,Y f.n] 38);have P:=(i.xg T MR).alloc (.cells #[.bool f.r,Y f.n] 38);have a8:=aD.g_ ((H [] K).alloc (.cells #[.bool f.r,Y f.n] 38));have ar:=Q_ K 38 #[.bool f.r,Y f.n];have bl:=(l.trans T).g_ ((H [] K).alloc (.cells #[.bool f.r,Y f.n] 38));clear C aO be al F;obtain⟨a7,bE⟩:=nm_ (K.alloc (.cells #[.bool f.r,Y f.n] 38));rw[<-bE]at N P a8 ar bl |-;clear bE;clear aD T B l bn i;generalize K.heap.size=bo at*;have C:=N.f_ 0;have aB:=N.f_ 2;have v0:=P.f_ 0;have v1:=P.f_ 1;have bg:=ar.f_ 0;have o1:=ar.f_ 1
  go_upto_region 16 with(go_at_call 164;((with_reducible refine(mR MO f (x.sr E)).mono ?_);unfold qN;rintro e V⟨rfl,az⟩;rw[aw.out]))
  have z:=az.alloc (.cells #[.bool m.r,Y m.n] 38);have A:=a8.g_ z;have a6:=N.g_ z;have a2:=P.g_ z;have U:=Q_ V 38 #[.bool m.r,Y m.n];have aY:=bl.g_ z;clear C aB v0 v1 bg o1 aw;obtain⟨MM,bi⟩:=nm_ (V.alloc (.cells #[.bool m.r,Y m.n] 38));rw[<-bi]at a6 a2 A U aY z |-;clear bi;clear a8 bl N P z
  have aV:V.heap.size≠gx:=by have:=az.size;have:=A.lt;have:=A.gr.size;intro he;have aT:=Bk.me U A.bk I;exact aT he
  generalize V.heap.size=gq at*
  by_cases W:k=0
  .have ap:Hid (R={(h4 g.p a d m)with e:={(h4 g.p a d m).e with ds:=[⟨a,d,MO,x.sr E⟩]}}):=O (by rw[aW.out,I_ (by simp[W])]);have q:(k !=0)=false:=zu W;have b0:g.e.ws.l.length<=1000000:=G_ bz.ws I;have bG:=U.f_ 0;have q1:=U.f_ 1
   go_upto_region 20 with(go_at_call 163;((with_reducible refine(jZ b gx g a d m A b0).mono ?_);unfold kW;rintro e j⟨u,rfl,aE,bX,aN⟩;have bq:=O bX))
   have aL:=a6.xg aN bd;have av:=a2.xg aN MR;have h:=aY.trans aN;have aB:=aL.f_ 2;have v0:=av.f_ 0;have v1:=av.f_ 1;obtain⟨bp,br⟩:=EI j 124 #[Y a,Y d,Y MO,.bool (x.sr E).r,Y (x.sr E).n];have t:=aE.g_ br;have bh:(j.alloc (.cells #[Y a,Y d,Y MO,.bool (x.sr E).r,Y (x.sr E).n] 124)).cell? (Z gx 75)=some (.slice u.e.ds.A u.e.ds.l.length u.e.ds.c):=(t.bk.f_ 75).trans rfl;have aU:=t.bk.hm 75;go_wp2;go_ret;have bt:=(H [gx] (j.alloc (.cells #[Y a,Y d,Y MO,.bool (x.sr E).r,Y (x.sr E).n] 124))).setCell (p:=(Z gx 75)) (.inl s_) (.slice (j_ j.heap.size) 1 1);have aP:Bk ((j.alloc (.cells #[Y a,Y d,Y MO,.bool (x.sr E).r,Y (x.sr E).n] 124)).setCell (Z gx 75) (.slice (j_ j.heap.size) 1 1)) gx 186 ({u with e:={u.e with ds:=⟨some (Z j.heap.size 0),1,[⟨a,d,MO,x.sr E⟩]⟩}}:X1).g8:=t.bk.hN 75 (.slice (j_ j.heap.size) 1 1);have aJ:Ds (j.alloc (.cells #[Y a,Y d,Y MO,.bool (x.sr E).r,Y (x.sr E).n] 124)) (j_ j.heap.size) [⟨a,d,MO,x.sr E⟩]:=kV (s:=5) bp rfl;rw[ap.out];exact⟨_,rfl,t.B9 (x':=({u with e:={u.e with ds:=⟨some (Z j.heap.size 0),1,[⟨a,d,MO,x.sr E⟩]⟩}}:X1)) bt aP rfl rfl rfl rfl t.nw t.nr aJ t.hW t.tN (H_ 1) t.qc,FN (λbm:XP=>({bm with e:={bm.e with ds:=[⟨a,d,MO,x.sr E⟩]}}:XP)) bq.out,(h.g_ br).ir bt⟩
  .have ap:Hid (R=ji g.p k):=O (by rw[aW.out,O_ W]);have q:(k !=0)=true:=zu W
   go_wp2_with (go_at_call 165;((with_reducible refine(k8 b gx g k A bz).mono ?_);unfold kW;rintro e ae⟨au,rfl,t,j,G⟩;have u:=O j))
   go_ret;rw[ap.out];exact⟨au,rfl,t,u.out,aY.trans G⟩
def oU{x:XP}{i:In}(h:i.op=8∨i.op=9∨i.op=10∨i.op=20):(ki x i).isSome=true:=by
 unfold ki;rw[I_ X];dsimp only
 repeat' split
 all_goals rfl
def tp{w:World}(L:ks b w gx x)(h:x.p.e.sm 800000)(p:0<=i.a)(q:i.a<16)(g:i.op=8∨i.op=9∨i.op=10∨i.op=20->0<=i.n/\i.n<=1000000):
 Calls prog 120 #[q_ gx,.agg #[Y i.op,Y i.a,Y i.b,Y i.c,Y i.n]] w (lC ((ki x.p i).getD x.p) (ki x.p i).isSome b gx w):=by
 obtain⟨f,aE,MO,c,e⟩:=i;simp only at p q g |-;obtain⟨E,rfl⟩:∃k:Nat,aE=k:=⟨aE.toNat,X⟩;have j:E<16:=X
 by_cases m:f=8
 .subst m;have a:=g I;rw[oU s_];exact vars_8 b w gx x E MO c e L j h a.1 a.2
 by_cases l:f=9
 .subst l;have a:=g I;rw[oU s_];exact vars_9 b w gx x E MO c e L j h a.1 a.2
 by_cases o:f=10
 .subst o;have a:=g I;rw[oU s_];exact vars_10 b w gx x E MO c e L j h a.1 a.2
 by_cases n:f=20
 .subst n;have a:=g I;rw[oU s_];exact vars_20 b w gx x E MO c e L j h a.1 a.2
 have r:ki x.p ⟨f,E,MO,c,e⟩=none:=by
  unfold ki;exact O_ ⟨m,l,o,n⟩
 rw[r];exact B8 b w gx x f E MO c e L ⟨m,l,o,n⟩
def rest_17(n:Int)(L:ks b w gx x)(p:E<16)(F:x.p.e.sm 800000):
 Calls prog 121 #[q_ gx,.agg #[Y 17,Y (E:Int),Y MO,Y c,Y n]] w (kW (.tuple #[]) (jH x.p ⟨17,E,MO,c,n⟩) b gx w):=by
 obtain⟨m,g,S,K,j,e,u,ad⟩:=sH L #[Y 17,Y (E:Int),Y MO,Y c,Y n]
 go_enter func121,ntmps121
 go_upto_region 1 with fail
 clear S K;have q:=e.f_ 0;have W:J [] m m.drew:=(H [] m).drew;refine hI (λw'=>(w'.cell? (Z g 0)=some (Y 17)/\w'.cell? (Z g 1)=some (Y (E:Int))/\w'.cell? (Z g 2)=some (Y MO)/\w'.cell? (Z g 3)=some (Y c)/\w'.cell? (Z g 4)=some (Y n))/\w'.cell? (Z gx (4+E*2))=some (.bool (x.sr E).r)/\w'.cell? (Z gx (4+E*2+1))=some (Y (x.sr E).n)) 10 k_ ?_;have a:=And.intro e.drew.c5 (vL (j.bk.drew) p);have e0:(0:Int)<=(E:Int):=X;have aC:(E:Int)<16:=X
 iterate 8 refine jW a ?_
 refine hV 8 λl f=>?_
 go_simp;clear a
 refine hX f (sk e j.bk p) λa=>?_
 clear f l
 refine hV 9 λl f=>?_
 go_simp;clear a
 refine hX f (sk e j.bk p) λa=>?_
 clear f l;refine hC k_ ?_ _;obtain⟨bf,aS,D,v,Q,y,bu,T,MR⟩:=zv j e u #[.bool (x.sr E).r,Y (x.sr E).n];rw[D,v];clear D v j e u W a;have q:=y.f_ 0
 go_upto_region 40 with(go_at_call 161;((with_reducible refine(m6 b gx x Q (G_ F.rs I)).mono ?_);unfold vf;rintro ae ah⟨B,rfl,M,C,t⟩;have A:=O C;clear C))
 obtain⟨ag,o⟩:=mn_ ((hF x.p).2.1);rw[o];have U:=O o;clear o;have s:=l4 F;rw[<-A.out]at s;have bR:B.e.ws.l.length<=1000000:=G_ s.ws I;have N:=y.xg t ad;have aX:=N.f_ 4;clear q
 go_wp2_with (go_at_call 163;((with_reducible refine(jZ b gx B ag 2 ⟨false,n⟩ M bR).mono ?_);unfold kW;rintro ae ai⟨P,rfl,R,z,V⟩;have be:=O z;clear z))
 refine en_ ?_;exact⟨P,rfl,R,by rw[be.out,A.out,<-U.out];rfl,(T.trans t).trans V⟩
def rest_5(n:Int)(L:ks b w gx x)(u:E<16)(W:d<16)(hs:x.p.e.sm 800000):
 Calls prog 121 #[q_ gx,.agg #[Y 5,Y (E:Int),Y (d:Int),Y c,Y n]] w (kW (.tuple #[]) (jH x.p ⟨5,E,d,c,n⟩) b gx w):=by
 obtain⟨S,V⟩:=mn_ (jH x.p ⟨5,E,d,c,n⟩);rw[V];have ad:=O V;obtain⟨P,f,aI,ae,M,v,aF,ai⟩:=sH L #[Y 5,Y (E:Int),Y (d:Int),Y c,Y n]
 go_enter func121,ntmps121
 go_upto_region 1 with fail
 have MN:=v.f_ 0;have aq:J [] P P.drew:=(H [] P).drew;refine hI (λw'=>(w'.cell? (Z f 0)=some (Y 5)/\w'.cell? (Z f 1)=some (Y (E:Int))/\w'.cell? (Z f 2)=some (Y (d:Int))/\w'.cell? (Z f 3)=some (Y c)/\w'.cell? (Z f 4)=some (Y n))/\w'.cell? (Z gx (4+E*2))=some (.bool (x.sr E).r)/\w'.cell? (Z gx (4+E*2+1))=some (Y (x.sr E).n)) 10 k_ ?_;have a:=And.intro v.drew.c5 (vL (M.bk.drew) u);have e0:(0:Int)<=(E:Int):=X;have aC:(E:Int)<16:=X
 iterate 8 refine jW a ?_
 refine hV 8 λD j=>?_
 go_simp
 refine hX j (sk v M.bk u) λa=>?_
 refine hV 9 λD j=>?_
 go_simp
 refine hX j (sk v M.bk u) λa=>?_
 refine hC k_ ?_ _;obtain⟨A,aS,bD,aQ,T,Q,bu,aM,MR⟩:=zv M v aF #[.bool (x.sr E).r,Y (x.sr E).n];rw[bD,aQ];have MN:=Q.f_ 0
 go_upto_region 4 with fail
 obtain⟨⟨z,id,ok⟩,hy⟩:∃aj,ih x.p (x.sr d) n=aj:=⟨_,rfl⟩;have F:=O hy;have C:J [] A A.drew:=(H [] A).drew;refine hI (λw'=>(w'.cell? (Z f 0)=some (Y 5)/\w'.cell? (Z f 1)=some (Y (E:Int))/\w'.cell? (Z f 2)=some (Y (d:Int))/\w'.cell? (Z f 3)=some (Y c)/\w'.cell? (Z f 4)=some (Y n))/\w'.cell? (Z gx (4+d*2))=some (.bool (x.sr d).r)/\w'.cell? (Z gx (4+d*2+1))=some (Y (x.sr d).n)) 17 k_ ?_;have a:=And.intro Q.drew.c5 (vL (T.bk.drew) W);have aw:(0:Int)<=(d:Int):=X;have bE:(d:Int)<16:=X;have ak:=T.g_ C
 iterate 11 refine jW a ?_
 refine hV 11 λD j=>?_
 go_simp
 (go_at_call 168;((with_reducible refine(rf b gx x (x.sr d) n ak hs).mono ?_);rw[F.out];unfold BV;rintro e t⟨ao,rfl,B,bA,y⟩;have am:=O bA))
 have k:ao.sr=x.sr:=K7;have y:XG gx A t:=((XG.refl gx A).g_ C).trans y;have N:=Q.xg y ai
 refine hX j ⟨N.c5,by rw[<-k];exact(vL (B.bk) W)⟩ λa=>?_
 (iterate 5 refine jW a ?_)
 refine hC k_ ?_ _;have i:=bu.xg y MR;have l:=aM.trans y
 have MS:z.e.sm 800010:=by
  have q:=qB hs (x.sr d) n;rw[F.out]at q;exact q.mono I
 replace am:Hid (ao.p=z):=am
 cases ok with
 |false=>
  have ap:Hid (S=z):=O (by rw[<-ad.out];show(if(ih x.p (x.sr d) n).2.2=true then kY (hJ (ih x.p (x.sr d) n).1 (ih x.p (x.sr d) n).2.1 n).1 E (hJ (ih x.p (x.sr d) n).1 (ih x.p (x.sr d) n).2.1 n).2 else(ih x.p (x.sr d) n).1)=_;rw[F.out];rfl);go_wp2;refine en_ ?_;exact Mw
 |true=>
  obtain⟨g,hv⟩:=mn_ ((hJ ao.p id n).2);have U:=O hv
  have bR:ao.e.rs.l.length<=1000000:=by have q:=MS.rs;rw[<-am.out]at q;exact G_ q I
  have aW:Hid (S=kY (hJ ao.p id n).1 E g):=O (by rw[<-ad.out];show(if(ih x.p (x.sr d) n).2.2=true then kY (hJ (ih x.p (x.sr d) n).1 (ih x.p (x.sr d) n).2.1 n).1 E (hJ (ih x.p (x.sr d) n).1 (ih x.p (x.sr d) n).2.1 n).2 else(ih x.p (x.sr d) n).1)=_;rw[F.out];show kY (hJ z id n).1 E (hJ z id n).2=_;rw[<-am.out,U.out])
  go_upto_region 6 with fail
  have C:J [] t t.drew:=(H [] t).drew;have al:=B.g_ C;refine hI (λw'=>w'.cell? (Z f 0)=some (Y 5)/\w'.cell? (Z f 1)=some (Y (E:Int))/\w'.cell? (Z f 2)=some (Y (d:Int))/\w'.cell? (Z f 3)=some (Y c)/\w'.cell? (Z f 4)=some (Y n)) 13 k_ ?_
  refine nZ N.drew.c5 λa=>?_
  refine iH 0 a ?_;refine iH 1 a ?_;refine iH 2 a ?_;refine iH 3 a ?_;refine iH 4 a ?_;refine iH 5 a ?_;refine iH 6 a ?_;refine iH 8 a ?_;refine iH 9 a ?_;refine iH 10 a ?_;refine iH 11 a ?_
  refine hV 7 λD j=>?_
  go_simp
  (go_at_call 118;((with_reducible refine(jL b gx ao id n al bR).mono ?_);unfold m8;rintro e o⟨m,rfl,s,aZ,K⟩;have be:=O aZ;rw[U.out]))
  have K:XG gx t o:=((XG.refl gx t).g_ C).trans K;have ag:=N.xg K ai
  refine hX j ag.c5 λa=>?_
  refine iH 12 a ?_;have bG:o.cell? (Z gx (40+E*2))=some (.bool (m.e.r E).r):=(s.bk.f_ _).trans (ke m E u).1;have q1:o.cell? (Z gx (40+E*2+1))=some (Y (m.e.r E).n):=(s.bk.f_ _).trans (ke m E u).2;have f0:=s.bk.hm (40+E*2);have f1:=s.bk.hm (40+E*2+1)
  refine hV 13 λD j=>?_
  go_simp
  have aP:Bk ((o.setCell (Z gx (40+E*2)) (.bool g.r)).setCell (Z gx (40+E*2+1)) (Y g.n)) gx 186 (({m with e:={m.e with r:=pJ m.e.r E g}}:X1)).g8:=by rw[<-mD m g E u];exact(s.bk.hN (40+E*2) (.bool g.r)).hN (40+E*2+1) (Y g.n)
  have R:J [gx] o ((o.setCell (Z gx (40+E*2)) (.bool g.r)).setCell (Z gx (40+E*2+1)) (Y g.n)):=(((H [gx] o).setCell (p:=(Z gx (40+E*2))) (.inl s_) (.bool g.r)).setCell (p:=(Z gx (40+E*2+1))) (.inl s_) (Y g.n));refine j.out _ _ (λh=>U_ h I) ?_
  try simp only[a_]
  refine hC k_ ?_ _;go_wp2;refine en_ ?_;rw[aW.out,<-be.out];exact⟨_,rfl,s.sG R aP rfl rfl rfl rfl rfl rfl rfl,rfl,(l.trans K).ir R⟩
def rest_6(n:Int)(L:ks b w gx x)(A:E<16)(V:d<16)(W:x.p.e.sm 800000):
 Calls prog 121 #[q_ gx,.agg #[Y 6,Y (E:Int),Y (d:Int),Y c,Y n]] w (kW (.tuple #[]) (jH x.p ⟨6,E,d,c,n⟩) b gx w):=by
 obtain⟨M,z⟩:=mn_ (jH x.p ⟨6,E,d,c,n⟩);rw[z];have C:=O z;clear z;obtain⟨u,e,aI,ad,p,g,N,ae⟩:=sH L #[Y 6,Y (E:Int),Y (d:Int),Y c,Y n]
 go_enter func121,ntmps121
 go_upto_region 1 with fail
 clear aI ad;have K:=g.f_ 0;have aq:J [] u u.drew:=(H [] u).drew;refine hI (λw'=>(w'.cell? (Z e 0)=some (Y 6)/\w'.cell? (Z e 1)=some (Y (E:Int))/\w'.cell? (Z e 2)=some (Y (d:Int))/\w'.cell? (Z e 3)=some (Y c)/\w'.cell? (Z e 4)=some (Y n))/\w'.cell? (Z gx (4+E*2))=some (.bool (x.sr E).r)/\w'.cell? (Z gx (4+E*2+1))=some (Y (x.sr E).n)) 10 k_ ?_;have a:=And.intro g.drew.c5 (vL (p.bk.drew) A);have e0:(0:Int)<=(E:Int):=X;have aC:(E:Int)<16:=X
 iterate 8 refine jW a ?_
 refine hV 8 λm f=>?_
 go_simp;clear a
 refine hX f (sk g p.bk A) λa=>?_
 clear f m
 refine hV 9 λm f=>?_
 go_simp;clear a
 refine hX f (sk g p.bk A) λa=>?_
 clear f m;refine hC k_ ?_ _;obtain⟨o,aS,T,Q,v,t,U,P,MR⟩:=zv p g N #[.bool (x.sr E).r,Y (x.sr E).n];rw[T,Q];clear T Q p g N aq a;have K:=t.f_ 0
 go_upto_region 8 with fail
 clear K;obtain⟨⟨s,id,ok⟩,hy⟩:∃ag,ih x.p (x.sr d) n=ag:=⟨_,rfl⟩;have F:=O hy;clear hy;have y:J [] o o.drew:=(H [] o).drew;refine hI (λw'=>(w'.cell? (Z e 0)=some (Y 6)/\w'.cell? (Z e 1)=some (Y (E:Int))/\w'.cell? (Z e 2)=some (Y (d:Int))/\w'.cell? (Z e 3)=some (Y c)/\w'.cell? (Z e 4)=some (Y n))/\w'.cell? (Z gx (4+d*2))=some (.bool (x.sr d).r)/\w'.cell? (Z gx (4+d*2+1))=some (Y (x.sr d).n)) 17 k_ ?_;have a:=And.intro t.drew.c5 (vL (v.bk.drew) V);have aw:(0:Int)<=(d:Int):=X;have bE:(d:Int)<16:=X;have ai:=v.g_ y
 iterate 11 refine jW a ?_
 refine hV 11 λm f=>?_
 go_simp
 (go_at_call 168;((with_reducible refine(rf b gx x (x.sr d) n ai W).mono ?_);rw[F.out];unfold BV;rintro aj ah⟨ao,rfl,B,S,j⟩;have am:=O S;clear S))
 have k:ao.sr=x.sr:=K7;have j:XG gx o ah:=((XG.refl gx o).g_ y).trans j;have D:=t.xg j ae;clear a
 refine hX f ⟨D.c5,by rw[<-k];exact(vL (B.bk) V)⟩ λa=>?_
 clear f m
 (iterate 5 refine jW a ?_)
 refine hC k_ ?_ _;have i:=U.xg j MR;have l:=P.trans j
 have MS:s.e.sm 800010:=by
  have q:=qB W (x.sr d) n;rw[F.out]at q;exact q.mono I
 clear ai v t U P j a y;replace am:Hid (ao.p=s):=am
 cases ok with
 |false=>
  have ap:Hid (M=s):=O (by rw[<-C.out];show(if(ih x.p (x.sr d) n).2.2=true then h4 (ih x.p (x.sr d) n).1 (ih x.p (x.sr d) n).2.1 n (x.sr E) else(ih x.p (x.sr d) n).1)=_;rw[F.out];rfl);go_wp2;refine en_ ?_;exact Mw
 |true=>
  have bR:ao.e.ws.l.length<=1000000:=by have q:=MS.ws;rw[<-am.out]at q;exact G_ q I
  have aW:Hid (M=h4 ao.p id n (x.sr E)):=O (by rw[<-C.out];show(if(ih x.p (x.sr d) n).2.2=true then h4 (ih x.p (x.sr d) n).1 (ih x.p (x.sr d) n).2.1 n (x.sr E) else(ih x.p (x.sr d) n).1)=_;rw[F.out];show h4 s id n (x.sr E)=_;rw[<-am.out]);clear C F;have v0:=i.f_ 0;have v1:=i.f_ 1;have aX:=D.f_ 4
  go_wp2_with (go_at_call 163;((with_reducible refine(jZ b gx ao id n (x.sr E) B bR).mono ?_);unfold kW;rintro aj ak⟨MP,rfl,aD,R,af⟩;have be:=O R;clear R))
  refine en_ ?_;rw[aW.out,<-be.out];exact⟨MP,rfl,aD,rfl,l.trans af⟩
def rest_7(n:Int)(L:ks b w gx x)(B:E<16)(h0:0<=n)(h1:n<=1000000):
 Calls prog 121 #[q_ gx,.agg #[Y 7,Y (E:Int),Y MO,Y c,Y n]] w (kW (.tuple #[]) (jH x.p ⟨7,E,MO,c,n⟩) b gx w):=by
 obtain⟨V,j,aI,ad,D,z,aF,af⟩:=sH L #[Y 7,Y (E:Int),Y MO,Y c,Y n]
 go_enter func121,ntmps121
 go_upto_region 1 with fail
 clear aI ad;have MN:=z.f_ 0;have aq:J [] V V.drew:=(H [] V).drew;refine hI (λw'=>(w'.cell? (Z j 0)=some (Y 7)/\w'.cell? (Z j 1)=some (Y (E:Int))/\w'.cell? (Z j 2)=some (Y MO)/\w'.cell? (Z j 3)=some (Y c)/\w'.cell? (Z j 4)=some (Y n))/\w'.cell? (Z gx (4+E*2))=some (.bool (x.sr E).r)/\w'.cell? (Z gx (4+E*2+1))=some (Y (x.sr E).n)) 10 k_ ?_;have a:=And.intro z.drew.c5 (vL (D.bk.drew) B);have e0:(0:Int)<=(E:Int):=X;have aC:(E:Int)<16:=X
 iterate 8 refine jW a ?_
 refine hV 8 λm f=>?_
 go_simp;clear a
 refine hX f (sk z D.bk B) λa=>?_
 clear f m
 refine hV 9 λm f=>?_
 go_simp;clear a
 refine hX f (sk z D.bk B) λa=>?_
 clear f m;refine hC k_ ?_ _;obtain⟨T,aS,bD,aQ,ah,W,bu,aM,MR⟩:=zv D z aF #[.bool (x.sr E).r,Y (x.sr E).n];rw[bD,aQ];clear bD aQ D z aF aq a;have MN:=W.f_ 0
 go_upto_region 12 with fail
 clear MN;obtain⟨aG,ak,al,am,bi⟩:=info_parts infoVl;have u:J [] T T.drew:=(H [] T).drew;refine hI (λw'=>(w'.cell? (Z j 0)=some (Y 7)/\w'.cell? (Z j 1)=some (Y (E:Int))/\w'.cell? (Z j 2)=some (Y MO)/\w'.cell? (Z j 3)=some (Y c)/\w'.cell? (Z j 4)=some (Y n))/\w'.cell? (Z gx 37)=some (Y x.nx)) 13 k_ ?_;have K:=ah.g_ u;have M:=W.g_ u;have an:=aM.g_ u;clear ah W bu aM u;obtain⟨t,cw⟩:=nm_ T.drew;rw[<-cw]at K M an |-;clear cw
 refine nZ ⟨M.c5,(K.bk.f_ 37).trans rfl⟩ λa=>?_
 iterate 7 refine jW a ?_
 refine hV 7 λm f=>?_
 refine uM rfl _ _ _ rfl 38 aG _ 2 16 underlying54 ak al am bi .i64 .i64 n r_ r_ h0 X X ?_;have s:J [] t (t.alloc (.cells (madeCells #[.bool false,Y 0] (n.toNat*2)) 38)):=(H [] t).alloc _;have bM:Vs (t.alloc (.cells (madeCells #[.bool false,Y 0] (n.toNat*2)) 38)) (j_ t.heap.size) (List.replicate n.toNat default):=B7 t n.toNat;have P:=K.g_ s;have R:=M.g_ s;have k:=an.g_ s;obtain⟨N,ao⟩:=nm_ (t.alloc (.cells (madeCells #[.bool false,Y 0] (n.toNat*2)) 38));have aw:t.alloc (.cells (madeCells (Value.cells (.agg #[.bool false,Y 0])) (n.toNat*2)) 38)=N:=ao.symm;rw[<-ao]at bM P R k;rw[aw];clear ao aw s K M an;generalize t.heap.size=d at*;clear a
 refine hX f ⟨R.c5,(P.bk.f_ 37).trans rfl⟩ λa=>?_
 clear f m;refine iH 8 a ?_
 refine hV 9 λm f=>?_
 go_simp;obtain⟨ar,s⟩:=EI N 56 #[Y x.nx,.slice (j_ d) n.toNat n.toNat];have o:=P.g_ s;have U:=R.g_ s;have bl:=k.g_ s;have ai:=bM.g_ s;clear a
 refine hX f ⟨U.c5,(o.bk.f_ 37).trans rfl⟩ λa=>?_
 clear f m;clear P R k bM;obtain⟨y,bJ⟩:=nm_ (N.alloc (.cells #[Y x.nx,.slice (j_ d) n.toNat n.toNat] 56));rw[<-bJ]at ar o U bl ai a |-;clear bJ;clear s;generalize N.heap.size=i at*
 (iterate 3 refine jW a ?_)
 have av:y.cell? (Z gx 74)=some (.slice x.e.nw.A x.e.nw.l.length x.e.nw.c):=(o.bk.f_ 74).trans rfl;have G:=o.bk.hm 74;have v:=(H [gx] y).setCell (p:=(Z gx 74)) (.inl s_) (.slice (j_ i) 1 1);have Q:Bk (y.setCell (Z gx 74) (.slice (j_ i) 1 1)) gx 186 ({x with e:={x.e with nw:=⟨some (Z i 0),1,[⟨⟨x.nx,List.replicate n.toNat default⟩,some (Z d 0),n.toNat⟩]⟩}}:X1).g8:=o.bk.hN 74 (.slice (j_ i) 1 1)
 have ax:Os y (j_ i) [⟨⟨x.nx,List.replicate n.toNat default⟩,some (Z d 0),n.toNat⟩]:=by
  have q:=yO (r:=⟨⟨x.nx,List.replicate n.toNat default⟩,some (Z d 0),n.toNat⟩) (by
   show Bk y i 56 #[Y x.nx,.slice (j_ d) (List.replicate n.toNat (default:Vl)).length n.toNat]
   rw[Gl]
   exact ar)
  exact q
 have au:nV y [⟨⟨x.nx,List.replicate n.toNat default⟩,some (Z d 0),n.toNat⟩]:=by
  intro r hr
  have:r=⟨⟨x.nx,List.replicate n.toNat default⟩,some (Z d 0),n.toNat⟩:=zu hr
  subst this;exact⟨ai,by show(List.replicate n.toNat (default:Vl)).length<=1000000000;rw[Gl];omega⟩
 have l:=o.B9 (x':=({x with e:={x.e with nw:=⟨some (Z i 0),1,[⟨⟨x.nx,List.replicate n.toNat default⟩,some (Z d 0),n.toNat⟩]⟩}}:X1)) v Q rfl rfl rfl rfl ax au o.ds o.hW (H_ 1) o.sJ o.qc;have C:=bl.ir v;have F:=U.gr v (zu af)
 refine hV 13 λm f=>?_
 go_simp;refine f.out _ _ (λh=>U_ h I) ?_;clear f m
 try simp only[a_]
 clear a o U bl ai ar ax au Q av G v;obtain⟨g,ae⟩:=nm_ ({x with e:={x.e with nw:=⟨some (Z i 0),1,[⟨⟨x.nx,List.replicate n.toNat default⟩,some (Z d 0),n.toNat⟩]⟩}}:X1);rw[<-ae]at l;have ap:Hid ((jH x.p ⟨7,E,MO,c,n⟩)=kY g.p E ⟨true,g.nx⟩):=O (by rw[ae];rfl);clear ae;obtain⟨S,bL⟩:=nm_ (y.setCell (Z gx 74) (.slice (j_ i) 1 1));rw[<-bL]at l F C |-;clear bL;refine hC k_ ?_ _
 go_upto_region 13 with fail
 refine hI (λw'=>(w'.cell? (Z j 0)=some (Y 7)/\w'.cell? (Z j 1)=some (Y (E:Int))/\w'.cell? (Z j 2)=some (Y MO)/\w'.cell? (Z j 3)=some (Y c)/\w'.cell? (Z j 4)=some (Y n))/\w'.cell? (Z gx 37)=some (Y g.nx)) 13 k_ ?_;have u:J [] S S.drew:=(H [] S).drew;replace l:=l.g_ u;replace F:=F.g_ u;replace C:=C.g_ u;clear u;obtain⟨A,ay⟩:=nm_ S.drew;rw[<-ay]at l F C |-;clear ay
 refine nZ ⟨F.c5,(l.bk.f_ 37).trans rfl⟩ λa=>?_
 (iterate 13 refine jW a ?_)
 have bG:A.cell? (Z gx (40+E*2))=some (.bool (g.e.r E).r):=(l.bk.f_ _).trans (ke g E B).1;have q1:A.cell? (Z gx (40+E*2+1))=some (Y (g.e.r E).n):=(l.bk.f_ _).trans (ke g E B).2;have f0:=l.bk.hm (40+E*2);have f1:=l.bk.hm (40+E*2+1)
 refine hV 13 λm f=>?_
 go_simp
 have Q:Bk ((A.setCell (Z gx (40+E*2)) (.bool true)).setCell (Z gx (40+E*2+1)) (Y g.nx)) gx 186 ({g with e:={g.e with r:=pJ g.e.r E ⟨true,g.nx⟩}}:X1).g8:=by rw[<-mD g ⟨true,g.nx⟩ E B];exact(l.bk.hN (40+E*2) (.bool true)).hN (40+E*2+1) (Y g.nx)
 have v:J [gx] A ((A.setCell (Z gx (40+E*2)) (.bool true)).setCell (Z gx (40+E*2+1)) (Y g.nx)):=(((H [gx] A).setCell (p:=(Z gx (40+E*2))) (.inl s_) (.bool true)).setCell (p:=(Z gx (40+E*2+1))) (.inl s_) (Y g.nx));refine f.out _ _ (λh=>U_ h I) ?_;clear f m
 try simp only[a_]
 refine hC k_ ?_ _;go_wp2;refine en_ ?_;rw[ap.out];exact⟨_,rfl,l.sG v Q rfl rfl rfl rfl rfl rfl rfl,rfl,C.ir v⟩
