import Derived.Test.YtenbhdilndfaeaaGreatM11
import Derived.Test.YtenbhdilndfaeaaGreatM20
set_option maxRecDepth 100000
set_option maxHeartbeats 0
set_option linter.all false
namespace Go.Proofs.YtenbhdilndfaeaaGreat
open Go.RowKit Go.Proofs.Tryz
variable{G:Prop}{k:Nat}(b w:World)(gx:Nat)(x:X1)(E:Nat)(ak V:Int)(d:Nat)(c:Int)(i:In)
theorem Jy(h:G:=by
 clear C
 refine h5 H g.c5 λC=>?_
 clear H K;exact Km):G:=h
theorem Kg(h:G:=by
 have q:=(sv x.p (x.sr d) n).sr;rw[ah.out]at q
 have bI:aj.p.sr=x.p.sr:=by rw[ai.out];exact q
 exact bI):G:=h
theorem Km(h:G:=by
 refine hN k_ ?_ _;go_wp2;go_ret;exact⟨_,rfl,l.rP M aO rfl rfl rfl rfl rfl rfl rfl,rfl,az.iu M⟩):G:=h
theorem Lr(h:G:=by
 go_wp2;go_ret;exact Lz):G:=h
theorem Lt(h:G:=by
 have q:=l3 hs n;rw[ah.out]at q;exact q.mono d_):G:=h
theorem Lz(h:G:=by
 rw[HM.out];exact⟨aj,rfl,B,ai.out,z⟩):G:=h
theorem LB(h:G:=by
 go_wp2;go_ret;exact⟨x,rfl,l,rfl,az⟩):G:=h
theorem kd:∀a,a<16->x.g_[40+a*2]?=some (.bool (x.e.r a).r)/\x.g_[40+a*2+1]?=some (i_ (x.e.r a).n)
 |0,_=>⟨rfl,rfl⟩
 |1,_=>⟨rfl,rfl⟩
 |2,_=>⟨rfl,rfl⟩
 |3,_=>⟨rfl,rfl⟩
 |4,_=>⟨rfl,rfl⟩
 |5,_=>⟨rfl,rfl⟩
 |6,_=>⟨rfl,rfl⟩
 |7,_=>⟨rfl,rfl⟩
 |8,_=>⟨rfl,rfl⟩
 |9,_=>⟨rfl,rfl⟩
 |10,_=>⟨rfl,rfl⟩
 |11,_=>⟨rfl,rfl⟩
 |12,_=>⟨rfl,rfl⟩
 |13,_=>⟨rfl,rfl⟩
 |14,_=>⟨rfl,rfl⟩
 |15,_=>⟨rfl,rfl⟩
 |n+16,h=>EK h o_
theorem r8{w:World}{gx:Nat}{x:X1}(h:Bk w gx 186 x.g_)(ha:k<16):w.cell? (c_ gx (40+k*2))=some (.bool (x.e.r k).r)/\w.cell? (c_ gx (40+k*2+1))=some (i_ (x.e.r k).n):=⟨(h.f_ _).trans (kd x k ha).1,(h.f_ _).trans (kd x k ha).2⟩
theorem mm(v:Vl):∀a:Nat,a<16->(x.g_.setIfInBounds (40+a*2) (.bool v.r)).setIfInBounds (40+a*2+1) (i_ v.n)=({x with e:={x.e with r:=q2 x.e.r a v}}:X1).g_
 |0,_=>rfl
 |1,_=>rfl
 |2,_=>rfl
 |3,_=>rfl
 |4,_=>rfl
 |5,_=>rfl
 |6,_=>rfl
 |7,_=>rfl
 |8,_=>rfl
 |9,_=>rfl
 |10,_=>rfl
 |11,_=>rfl
 |12,_=>rfl
 |13,_=>rfl
 |14,_=>rfl
 |15,_=>rfl
 |n+16,h=>EK h o_
def lu(P:XP)(bB:Bool)(b:World)(gx:Nat)(w:World)(e:Ending)(w':World):Prop:=∃x':X1,e=.returned (.bool bB)/\kq b w' gx x'/\x'.p=P/\XG gx w w'
theorem C4{b w:World}{gx:Nat}{x:X1}(h:kq b w gx x)(v:Vl)(ha:k<16):Bk ((w.setCell (c_ gx (40+k*2)) (.bool v.r)).setCell (c_ gx (40+k*2+1)) (i_ v.n)).drew gx 186 ({x with e:={x.e with r:=q2 x.e.r k v}}:X1).g_/\Gr [gx] w ((w.setCell (c_ gx (40+k*2)) (.bool v.r)).setCell (c_ gx (40+k*2+1)) (i_ v.n)).drew:=
 ⟨by rw[<-mm x v k ha];exact(h.bk.hW (40+k*2) (.bool v.r)).hW (40+k*2+1) (i_ v.n),Gr.drew (((F_ [gx] w).setCell (p:=(c_ gx (40+k*2))) (.inl s_) (.bool v.r)).setCell (p:=(c_ gx (40+k*2+1))) (.inl s_) (i_ v.n))⟩
theorem plain_0(ak c:Int)(n:Int)(L:kq b w gx x):
 Calls prog 119 #[q_ gx,.agg #[i_ 0,i_ V,i_ ak,i_ c,i_ n]] w (lu x.p true b gx w):=by
 obtain⟨R,a,aK,A,l,N,az,t⟩:=rR L #[i_ 0,i_ V,i_ ak,i_ c,i_ n]
 go_enter func119,ntmps119
 go_upto_region 1 with fail
 clear aK A;have U:=N.f_ 0;exact LB
theorem plain_1(n:Int)(L:kq b w gx x)(ha:E<16):
 Calls prog 119 #[q_ gx,.agg #[i_ 1,i_ (E:Int),i_ ak,i_ c,i_ n]] w (lu (kW x.p E ⟨false,n⟩) true b gx w):=by
 obtain⟨R,a,aK,A,l,N,az,t⟩:=rR L #[i_ 1,i_ (E:Int),i_ ak,i_ c,i_ n]
 go_enter func119,ntmps119
 go_upto_region 1 with fail
 clear aK A;have U:=N.f_ 0
 go_upto_region 6 with fail
 clear U;refine hQ (λw'=>w'.cell? (c_ a 0)=some (i_ 1)/\w'.cell? (c_ a 1)=some (i_ (E:Int))/\w'.cell? (c_ a 2)=some (i_ ak)/\w'.cell? (c_ a 3)=some (i_ c)/\w'.cell? (c_ a 4)=some (i_ n)) 9 k_ ?_;have C:R.drew.cell? (c_ a 0)=some (i_ 1)/\R.drew.cell? (c_ a 1)=some (i_ (E:Int))/\R.drew.cell? (c_ a 2)=some (i_ ak)/\R.drew.cell? (c_ a 3)=some (i_ c)/\R.drew.cell? (c_ a 4)=some (i_ n):=N.drew.c5;have aS:(0:Int)<=(E:Int):=o_;have aJ:(E:Int)<16:=o_
 (iterate 8 refine jW C ?_)
 have k:=l.bk;have bj:R.cell? (c_ gx (40+E*2))=some (.bool (x.e.r E).r):=(k.f_ _).trans (kd x E ha).1;have bn:R.cell? (c_ gx (40+E*2+1))=some (i_ (x.e.r E).n):=(k.f_ _).trans (kd x E ha).2;have br:=k.hH (40+E*2);have bH:=k.hH (40+E*2+1)
 refine h4 8 λK H=>?_
 go_simp;have g:Bk ((R.setCell (c_ gx (40+E*2)) (.bool false)).setCell (c_ gx (40+E*2+1)) (i_ n)).drew a 189 #[i_ 1,i_ (E:Int),i_ ak,i_ c,i_ n]:=(N.ih (p:=(c_ gx (40+E*2))) t (.bool false)).ih (p:=(c_ gx (40+E*2+1))) t (i_ n);obtain⟨aO,M⟩:=C4 l ⟨false,n⟩ ha;exact Jy
theorem plain_2(n:Int)(L:kq b w gx x)(ha:E<16):
 Calls prog 119 #[q_ gx,.agg #[i_ 2,i_ (E:Int),i_ ak,i_ c,i_ n]] w (lu (kW x.p E ⟨true,0⟩) true b gx w):=by
 obtain⟨R,a,aK,A,l,N,az,t⟩:=rR L #[i_ 2,i_ (E:Int),i_ ak,i_ c,i_ n]
 go_enter func119,ntmps119
 go_upto_region 1 with fail
 clear aK A;have U:=N.f_ 0
 go_upto_region 8 with fail
 clear U;refine hQ (λw'=>w'.cell? (c_ a 0)=some (i_ 2)/\w'.cell? (c_ a 1)=some (i_ (E:Int))/\w'.cell? (c_ a 2)=some (i_ ak)/\w'.cell? (c_ a 3)=some (i_ c)/\w'.cell? (c_ a 4)=some (i_ n)) 7 k_ ?_;have C:R.drew.cell? (c_ a 0)=some (i_ 2)/\R.drew.cell? (c_ a 1)=some (i_ (E:Int))/\R.drew.cell? (c_ a 2)=some (i_ ak)/\R.drew.cell? (c_ a 3)=some (i_ c)/\R.drew.cell? (c_ a 4)=some (i_ n):=N.drew.c5;have aS:(0:Int)<=(E:Int):=o_;have aJ:(E:Int)<16:=o_
 (iterate 6 refine jW C ?_)
 have k:=l.bk;have bj:R.cell? (c_ gx (40+E*2))=some (.bool (x.e.r E).r):=(k.f_ _).trans (kd x E ha).1;have bn:R.cell? (c_ gx (40+E*2+1))=some (i_ (x.e.r E).n):=(k.f_ _).trans (kd x E ha).2;have br:=k.hH (40+E*2);have bH:=k.hH (40+E*2+1)
 refine h4 6 λK H=>?_
 go_simp;have g:Bk ((R.setCell (c_ gx (40+E*2)) (.bool true)).setCell (c_ gx (40+E*2+1)) (i_ 0)).drew a 189 #[i_ 2,i_ (E:Int),i_ ak,i_ c,i_ n]:=(N.ih (p:=(c_ gx (40+E*2))) t (.bool true)).ih (p:=(c_ gx (40+E*2+1))) t (i_ 0);obtain⟨aO,M⟩:=C4 l ⟨true,0⟩ ha;exact Jy
theorem plain_3(n:Int)(L:kq b w gx x)(ha:E<16)(hb:d<16):
 Calls prog 119 #[q_ gx,.agg #[i_ 3,i_ (E:Int),i_ (d:Int),i_ c,i_ n]] w (lu (kW x.p E (x.e.r d)) true b gx w):=by
 obtain⟨R,a,aK,A,l,N,az,t⟩:=rR L #[i_ 3,i_ (E:Int),i_ (d:Int),i_ c,i_ n]
 go_enter func119,ntmps119
 go_upto_region 1 with fail
 clear aK A;have U:=N.f_ 0
 go_upto_region 10 with fail
 clear U;refine hQ (λw'=>(w'.cell? (c_ a 0)=some (i_ 3)/\w'.cell? (c_ a 1)=some (i_ (E:Int))/\w'.cell? (c_ a 2)=some (i_ (d:Int))/\w'.cell? (c_ a 3)=some (i_ c)/\w'.cell? (c_ a 4)=some (i_ n))/\w'.cell? (c_ gx (40+d*2))=some (.bool (x.e.r d).r)/\w'.cell? (c_ gx (40+d*2+1))=some (i_ (x.e.r d).n)) 11 k_ ?_;have C:=And.intro N.drew.c5 (r8 (l.bk.drew) hb);have aS:(0:Int)<=(E:Int):=o_;have aJ:(E:Int)<16:=o_;have aG:(0:Int)<=(d:Int):=o_;have bQ:(d:Int)<16:=o_
 (iterate 11 refine jW C ?_)
 have k:=l.bk;have bj:R.cell? (c_ gx (40+E*2))=some (.bool (x.e.r E).r):=(k.f_ _).trans (kd x E ha).1;have bn:R.cell? (c_ gx (40+E*2+1))=some (i_ (x.e.r E).n):=(k.f_ _).trans (kd x E ha).2;have br:=k.hH (40+E*2);have bH:=k.hH (40+E*2+1)
 refine h4 11 λK H=>?_
 go_simp;obtain⟨aO,M⟩:=C4 l (x.e.r d) ha;refine H.out _ _ (λh=>EK h d_) ?_;clear H K
 try simp only[a_]
 exact Km
theorem plain_11(ak c:Int)(n:Int)(L:kq b w gx x):
 Calls prog 119 #[q_ gx,.agg #[i_ 11,i_ V,i_ ak,i_ c,i_ n]] w (lu (tD x.p n) true b gx w):=by
 obtain⟨R,a,aK,A,l,N,az,t⟩:=rR L #[i_ 11,i_ V,i_ ak,i_ c,i_ n]
 go_enter func119,ntmps119
 go_upto_region 1 with fail
 clear aK A;have U:=N.f_ 0;have ao:=N.f_ 4;have bZ:R.cell? (c_ gx 39)=some (i_ x.e.pc):=(l.bk.f_ 39).trans rfl;have b0:=l.bk.hH 39;go_wp2;go_ret;have hs:=l.set (x':={x with e:={x.e with pc:=n}}) 39 (i_ n) rfl rfl rfl rfl rfl rfl rfl rfl;exact⟨_,rfl,hs,rfl,az.iu ((F_ [gx] _).setCell (.inl s_) _)⟩
theorem plain_12(n:Int)(L:kq b w gx x)(ha:E<16):
 Calls prog 119 #[q_ gx,.agg #[i_ 12,i_ (E:Int),i_ ak,i_ c,i_ n]] w (lu (if(x.e.r E).n≠0 then x.p else tD x.p n) true b gx w):=by
 obtain⟨P,hP⟩:=mn_ (if(x.e.r E).n≠0 then x.p else tD x.p n);rw[hP];have u:=h_ hP;clear hP;obtain⟨R,a,aK,A,l,N,az,t⟩:=rR L #[i_ 12,i_ (E:Int),i_ ak,i_ c,i_ n]
 go_enter func119,ntmps119
 go_upto_region 1 with fail
 clear aK A;have U:=N.f_ 0
 by_cases hz:(x.e.r E).n=0
 .have bL:=h_ (show((x.e.r E).n !=0)=false by simp[hz]);have HM:Hid (P=tD x.p n):=h_ (by rw[<-u.out,Q_ (zu hz)]);clear hz
  go_upto_region 20 with fail
  clear U;refine hQ (λw'=>(w'.cell? (c_ a 0)=some (i_ 12)/\w'.cell? (c_ a 1)=some (i_ (E:Int))/\w'.cell? (c_ a 2)=some (i_ ak)/\w'.cell? (c_ a 3)=some (i_ c)/\w'.cell? (c_ a 4)=some (i_ n))/\w'.cell? (c_ gx (40+E*2))=some (.bool (x.e.r E).r)/\w'.cell? (c_ gx (40+E*2+1))=some (i_ (x.e.r E).n)) 8 k_ ?_;have C:=And.intro N.drew.c5 (r8 (l.bk.drew) ha);have aS:(0:Int)<=(E:Int):=o_;have aJ:(E:Int)<16:=o_
  iterate 6 refine jW C ?_
  refine h4 6 λK H=>?_
  go_simp
  (go_at_call 166;((with_reducible refine(sC (x.e.r E) _).mono ?_);rintro e w2⟨rfl,J⟩;rw[bL.out]))
  have V:Gr [] R w2:=(F_ [] R).drew.trans J;have aM:=N.hG V;have W:=l.hG V;clear C
  refine h5 H ⟨aM.c5,r8 (W.bk) ha⟩ λC=>?_
  clear H K;refine iP 7 C ?_;refine hN k_ ?_ _;have ao:=aM.f_ 4;have bZ:w2.cell? (c_ gx 39)=some (i_ x.e.pc):=(W.bk.f_ 39).trans rfl;have b0:=W.bk.hH 39;go_wp2;go_ret;have hs:=W.set (x':={x with e:={x.e with pc:=n}}) 39 (i_ n) rfl rfl rfl rfl rfl rfl rfl rfl;rw[HM.out];exact⟨_,rfl,hs,rfl,(az.hG V).iu ((F_ [gx] _).setCell (.inl s_) _)⟩
 .have bL:=h_ (show((x.e.r E).n !=0)=true by simp[hz]);have HM:Hid (P=x.p):=h_ (by rw[<-u.out,T_ (zu hz)]);clear hz
  go_upto_region 20 with fail
  clear U;refine hQ (λw'=>(w'.cell? (c_ a 0)=some (i_ 12)/\w'.cell? (c_ a 1)=some (i_ (E:Int))/\w'.cell? (c_ a 2)=some (i_ ak)/\w'.cell? (c_ a 3)=some (i_ c)/\w'.cell? (c_ a 4)=some (i_ n))/\w'.cell? (c_ gx (40+E*2))=some (.bool (x.e.r E).r)/\w'.cell? (c_ gx (40+E*2+1))=some (i_ (x.e.r E).n)) 8 k_ ?_;have C:=And.intro N.drew.c5 (r8 (l.bk.drew) ha);have aS:(0:Int)<=(E:Int):=o_;have aJ:(E:Int)<16:=o_
  iterate 6 refine jW C ?_
  refine h4 6 λK H=>?_
  go_simp
  (go_at_call 166;((with_reducible refine(sC (x.e.r E) _).mono ?_);rintro e w2⟨rfl,J⟩;rw[bL.out]))
  have V:Gr [] R w2:=(F_ [] R).drew.trans J;have aM:=N.hG V;have W:=l.hG V;clear C
  refine h5 H ⟨aM.c5,r8 (W.bk) ha⟩ λC=>?_
  clear H K;refine iP 7 C ?_;refine hN k_ ?_ _;have ao:=aM.f_ 4;have bZ:w2.cell? (c_ gx 39)=some (i_ x.e.pc):=(W.bk.f_ 39).trans rfl;have b0:=W.bk.hH 39;go_wp2;go_ret;rw[HM.out];exact⟨x,rfl,W,rfl,az.hG V⟩
theorem Ab(op V ak c:Int)(n:Int)(L:kq b w gx x)(ho:op≠0/\op≠1/\op≠2/\op≠3/\op≠4/\op≠11/\op≠12/\op≠21/\op≠16/\op≠19):
 Calls prog 119 #[q_ gx,.agg #[i_ op,i_ V,i_ ak,i_ c,i_ n]] w (lu x.p false b gx w):=by
 obtain⟨R,a,aK,A,l,N,az,t⟩:=rR L #[i_ op,i_ V,i_ ak,i_ c,i_ n]
 go_enter func119,ntmps119
 go_upto_region 1 with fail
 clear aK A;have U:=N.f_ 0;have bD:(op=0)=False:=p_;have aw:(op==0)=false:=p_;have bH:(op=1)=False:=p_;have c1:(op==1)=false:=p_;have bp:(op=2)=False:=p_;have ai:(op==2)=false:=p_;have bQ:(op=3)=False:=p_;have aC:(op==3)=false:=p_;have bC:(op=4)=False:=p_;have c4:(op==4)=false:=p_;have h:(op=11)=False:=p_;have v:(op==11)=false:=p_;have i:(op=12)=False:=p_;have d:(op==12)=false:=p_;have m:(op=21)=False:=p_;have g:(op==21)=false:=p_;have j:(op=16)=False:=p_;have e:(op==16)=false:=p_;have k:(op=19)=False:=p_;have f:(op==19)=false:=p_;clear ho;exact LB
theorem kq.Bc{b w w':World}{gx:Nat}{x x':X1}(h:kq b w gx x)(k:Gr [gx] w w')(hb:Bk w' gx 186 x'.g_)(h1:x'.js=x.js)(h2:x'.h=x.h)(h3:x'.e.rs=x.e.rs)(au:x'.e.ws=x.e.ws)(n1:Os w x'.e.nw.A x'.e.nw.l)(n2:oa w x'.e.nw.l)(n3:Ds w x'.e.ds.A x'.e.ds.l)(n4:As w x'.e.h7.A x'.e.h7.l)(n5:x'.e.nw.ok)(eB:x'.e.ds.ok)(n7:x'.e.h7.ok):kq b w' gx x':=by
 have m:∀c fz,w.heap[gx]?≠some (.cells c 116 fz):=h.bk.pN d_;refine⟨hb,h.gr.trans k,h.bx,by rw[h1];exact h.js,by rw[h2];exact h.h,?_,?_,by rw[h3,au];exact h.ne,?_,?_,?_,?_,n5,eB,n7,by rw[h1];exact h.il,by rw[h2];exact h.hl⟩
 .rw[h3];exact ko (x:=gx) h.rs m k
 .rw[au];exact ko (x:=gx) h.ws m k
 .exact Sl.iu n1 h.bk d_ k
 .exact n2.iu h.bk d_ k
 .exact Sl.iu n3 h.bk d_ k
 .exact Sl.iu n4 h.bk d_ k
def qx(r:Nat->Vl):Array Value:=#[.bool (r 0).r,i_ (r 0).n,.bool (r 1).r,i_ (r 1).n,.bool (r 2).r,i_ (r 2).n,.bool (r 3).r,i_ (r 3).n,.bool (r 4).r,i_ (r 4).n,.bool (r 5).r,i_ (r 5).n,.bool (r 6).r,i_ (r 6).n,.bool (r 7).r,i_ (r 7).n,.bool (r 8).r,i_ (r 8).n,.bool (r 9).r,i_ (r 9).n,.bool (r 10).r,i_ (r 10).n,.bool (r 11).r,i_ (r 11).n,.bool (r 12).r,i_ (r 12).n,.bool (r 13).r,i_ (r 13).n,.bool (r 14).r,i_ (r 14).n,.bool (r 15).r,i_ (r 15).n]
theorem wy(r:Nat->Vl):uD x.g_ 40 (qx r).toList=({x with e:={x.e with r:=r}}:X1).g_:=rfl
theorem Bt(r:Nat->Vl):(qx r).all (·.oneCell')=true:=by unfold qx;simp[Value.oneCell']
theorem plain_16(n:Int)(L:kq b w gx x)(ha:E<16)(hs:x.p.e.sm 900000):
 Calls prog 119 #[q_ gx,.agg #[i_ 16,i_ (E:Int),i_ ak,i_ c,i_ n]] w (lu (jm x.p (x.e.r E)) true b gx w):=by
 obtain⟨R,a,aK,A,l,N,az,t⟩:=rR L #[i_ 16,i_ (E:Int),i_ ak,i_ c,i_ n]
 go_enter func119,ntmps119
 go_upto_region 1 with fail
 clear aK A;have U:=N.f_ 0
 go_upto_region 26 with fail
 clear U;have V:Gr [] R R.drew:=(F_ [] R).drew;refine hQ (λw'=>(w'.cell? (c_ a 0)=some (i_ 16)/\w'.cell? (c_ a 1)=some (i_ (E:Int))/\w'.cell? (c_ a 2)=some (i_ ak)/\w'.cell? (c_ a 3)=some (i_ c)/\w'.cell? (c_ a 4)=some (i_ n))/\w'.cell? (c_ gx (40+E*2))=some (.bool (x.e.r E).r)/\w'.cell? (c_ gx (40+E*2+1))=some (i_ (x.e.r E).n)) 7 k_ ?_;have C:=And.intro N.drew.c5 (r8 (l.bk.drew) ha);have aS:(0:Int)<=(E:Int):=o_;have aJ:(E:Int)<16:=o_
 iterate 7 refine jW C ?_
 refine h4 7 λK H=>?_
 go_simp
 (go_at_call 117;((with_reducible refine(o9 b _ gx x (x.e.r E) (l.hG V) hs).mono ?_);unfold kP;rintro e X⟨aI,rfl,ag,F,G⟩;have Y:=h_ F;clear F))
 refine H.out _ _ (λh=>EK h d_) ?_;clear H K
 try simp only[a_]
 refine hN k_ ?_ _;go_wp2;go_ret;exact⟨aI,rfl,ag,Y.out,(az.hG V).trans G⟩
theorem plain_19(n:Int)(L:kq b w gx x)(ha:E<16)(hs:x.p.e.sm 900000):
 Calls prog 119 #[q_ gx,.agg #[i_ 19,i_ (E:Int),i_ ak,i_ c,i_ n]] w (lu (if(x.e.r E).r=true then jk x.p (-2) else{x.p with e:={x.p.e with h7:=[⟨false,(x.e.r E).n,0⟩]}}) true b gx w):=by
 obtain⟨P,hP⟩:=mn_ (if(x.e.r E).r=true then jk x.p (-2) else{x.p with e:={x.p.e with h7:=[⟨false,(x.e.r E).n,0⟩]}});rw[hP];have u:=h_ hP;clear hP;obtain⟨R,a,aK,A,l,N,az,t⟩:=rR L #[i_ 19,i_ (E:Int),i_ ak,i_ c,i_ n]
 go_enter func119,ntmps119
 go_upto_region 1 with fail
 clear aK A;have U:=N.f_ 0
 cases cq:(x.e.r E).r with
 |true=>
  have HM:Hid (P=jk x.p (-2)):=h_ (by rw[<-u.out,T_ cq])
  go_upto_region 28 with fail
  clear U;have V:Gr [] R R.drew:=(F_ [] R).drew;refine hQ (λw'=>(w'.cell? (c_ a 0)=some (i_ 19)/\w'.cell? (c_ a 1)=some (i_ (E:Int))/\w'.cell? (c_ a 2)=some (i_ ak)/\w'.cell? (c_ a 3)=some (i_ c)/\w'.cell? (c_ a 4)=some (i_ n))/\w'.cell? (c_ gx (40+E*2))=some (.bool (x.e.r E).r)/\w'.cell? (c_ gx (40+E*2+1))=some (i_ (x.e.r E).n)) 7 k_ ?_;have C:=And.intro N.drew.c5 (r8 (l.bk.drew) ha);have aS:(0:Int)<=(E:Int):=o_;have aJ:(E:Int)<16:=o_
  (iterate 7 refine jW C ?_)
  refine hN k_ ?_ _
  go_wp2_with (go_at_call 165;((with_reducible refine(kV b _ gx x (-2) (l.hG V) hs).mono ?_);unfold kP;rintro e X⟨aI,rfl,ag,F,G⟩;have Y:=h_ F;clear F))
  go_ret;rw[HM.out];exact⟨aI,rfl,ag,Y.out,(az.hG V).trans G⟩
 |false=>
  have HM:Hid (P={x.p with e:={x.p.e with h7:=[⟨false,(x.e.r E).n,0⟩]}}):=h_ (by rw[<-u.out,Q_ (by rw[cq];decide)])
  go_upto_region 28 with fail
  clear U;have V:Gr [] R R.drew:=(F_ [] R).drew;refine hQ (λw'=>(w'.cell? (c_ a 0)=some (i_ 19)/\w'.cell? (c_ a 1)=some (i_ (E:Int))/\w'.cell? (c_ a 2)=some (i_ ak)/\w'.cell? (c_ a 3)=some (i_ c)/\w'.cell? (c_ a 4)=some (i_ n))/\w'.cell? (c_ gx (40+E*2))=some (.bool (x.e.r E).r)/\w'.cell? (c_ gx (40+E*2+1))=some (i_ (x.e.r E).n)) 7 k_ ?_;have C:=And.intro N.drew.c5 (r8 (l.bk.drew) ha);have aS:(0:Int)<=(E:Int):=o_;have aJ:(E:Int)<16:=o_
  (iterate 7 refine jW C ?_)
  refine hN k_ ?_ _;clear cq
  go_upto_region 31 with fail
  clear C;have W:=l.hG V;have aM:=N.hG V;have au:=az.hG V;obtain⟨aH,bC⟩:=nm_ R.drew;rw[<-bC]at W aM au |-;clear bC l N az V;refine hQ (λw'=>(w'.cell? (c_ a 0)=some (i_ 19)/\w'.cell? (c_ a 1)=some (i_ (E:Int))/\w'.cell? (c_ a 2)=some (i_ ak)/\w'.cell? (c_ a 3)=some (i_ c)/\w'.cell? (c_ a 4)=some (i_ n))/\w'.cell? (c_ gx (40+E*2))=some (.bool (x.e.r E).r)/\w'.cell? (c_ gx (40+E*2+1))=some (i_ (x.e.r E).n)) 13 k_ ?_
  refine nt ⟨aM.drew.c5,r8 (W.bk.drew) ha⟩ λC=>?_
  iterate 9 refine jW C ?_
  refine h4 9 λK H=>?_
  go_simp;have aU:Gr [] aH ((aH.alloc (.cells #[.bool false,i_ (x.e.r E).n,i_ 0] 162)).drew):=((F_ [] aH).alloc _).drew;have hA:Bk ((aH.alloc (.cells #[.bool false,i_ (x.e.r E).n,i_ 0] 162)).drew) aH.heap.size 162 #[.bool false,i_ (x.e.r E).n,i_ 0]:=(P_ aH 162 #[.bool false,i_ (x.e.r E).n,i_ 0]).drew;have B:=W.hG aU;have af:=aM.hG aU;have z:=au.hG aU;clear C;obtain⟨am,cf⟩:=nm_ ((aH.alloc (.cells #[.bool false,i_ (x.e.r E).n,i_ 0] 162)).drew);rw[<-cf]at aU hA B af z |-;clear cf;generalize aH.heap.size=v at*
  refine h5 H ⟨af.c5,r8 (B.bk) ha⟩ λC=>?_
  clear H K
  (iterate 3 refine jW C ?_)
  have f:am.cell? (c_ gx 76)=some (.slice x.e.h7.A x.e.h7.l.length x.e.h7.c):=(B.bk.f_ 76).trans rfl;have dP:=B.bk.hH 76
  refine h4 13 λK H=>?_
  go_simp;refine H.out _ _ (λh=>EK h d_) ?_;clear H K
  try simp only[a_]
  refine hN k_ ?_ _;have M:=(F_ [gx] am).setCell (p:=(c_ gx 76)) (.inl s_) (.slice (j_ v) 1 1);have aO:Bk (am.setCell (c_ gx 76) (.slice (j_ v) 1 1)) gx 186 ({x with e:={x.e with h7:=⟨some (c_ v 0),1,[⟨false,(x.e.r E).n,0⟩]⟩}}:X1).g_:=B.bk.hW 76 (.slice (j_ v) 1 1);have d:As am (j_ v) [⟨false,(x.e.r E).n,0⟩]:=kN (s:=3) hA rfl;go_wp2;go_ret;rw[HM.out];exact⟨_,rfl,B.Bc (x':=({x with e:={x.e with h7:=⟨some (c_ v 0),1,[⟨false,(x.e.r E).n,0⟩]⟩}}:X1)) M aO rfl rfl rfl rfl B.nw B.nr B.ds d B.sY B.rS (H_ 1),rfl,z.iu M⟩
theorem plain_21(ak c:Int)(n:Int)(L:kq b w gx x):
 Calls prog 119 #[q_ gx,.agg #[i_ 21,i_ V,i_ ak,i_ c,i_ n]] w (lu {x.p with e:={x.p.e with r:=jq,h6:=1,kx:=n}} true b gx w):=by
 obtain⟨R,a,aK,A,l,N,az,t⟩:=rR L #[i_ 21,i_ V,i_ ak,i_ c,i_ n]
 go_enter func119,ntmps119
 go_upto_region 1 with fail
 clear aK A;have U:=N.f_ 0
 go_upto_region 24 with(refine jc rfl 47 _ _ rfl gx 40 r_ (qx jq) r_ 186 _ l.bk (by show 40+32<=82;decide) k_ (Bt _) ?_;intro w2 bz J)
 rw[wy]at bz;have W:=l.rP (x':=({x with e:={x.e with r:=jq}}:X1)) J bz rfl rfl rfl rfl rfl rfl rfl;have aM:=N.gr J (zu t);have au:=az.iu J;clear U;refine hQ (λw'=>w'.cell? (c_ a 0)=some (i_ 21)/\w'.cell? (c_ a 1)=some (i_ V)/\w'.cell? (c_ a 2)=some (i_ ak)/\w'.cell? (c_ a 3)=some (i_ c)/\w'.cell? (c_ a 4)=some (i_ n)) 12 k_ ?_
 refine nt aM.drew.c5 λC=>?_
 (iterate 7 refine jW C ?_)
 have b6:w2.cell? (c_ gx 38)=some (i_ x.e.h6):=(bz.f_ 38).trans rfl;have bT:=bz.hH 38
 refine h4 7 λK H=>?_
 go_simp;have d:Bk ((w2.setCell (c_ gx 38) (i_ 1)).drew) gx 186 ({x with e:={x.e with r:=jq,h6:=1}}:X1).g_:=bz.hW 38 (i_ 1);have f:Bk ((w2.setCell (c_ gx 38) (i_ 1)).drew) a 189 #[i_ 21,i_ V,i_ ak,i_ c,i_ n]:=aM.ih (p:=(c_ gx 38)) t (i_ 1);have aT:Gr [gx] w2 ((w2.setCell (c_ gx 38) (i_ 1)).drew):=((F_ [gx] w2).setCell (p:=(c_ gx 38)) (.inl s_) (i_ 1)).drew;obtain⟨am,cf⟩:=nm_ ((w2.setCell (c_ gx 38) (i_ 1)).drew);rw[<-cf]at d f aT |-;clear cf C
 refine h5 H f.c5 λC=>?_
 clear H K
 (iterate 3 refine jW C ?_)
 have h:am.cell? (c_ gx 77)=some (i_ x.e.kx):=(d.f_ 77).trans rfl;have ar:=d.hH 77
 refine h4 11 λK H=>?_
 go_simp;have g:=f.ih (p:=(c_ gx 77)) t (i_ n);have aO:Bk (am.setCell (c_ gx 77) (i_ n)) gx 186 ({x with e:={x.e with r:=jq,h6:=1,kx:=n}}:X1).g_:=d.hW 77 (i_ n);have M:=aT.setCell (p:=(c_ gx 77)) (.inl s_) (i_ n);clear C
 refine h5 H g.c5 λC=>?_
 clear H K;refine hN k_ ?_ _;go_wp2;go_ret;exact⟨_,rfl,W.rP (x':=({x with e:={x.e with r:=jq,h6:=1,kx:=n}}:X1)) M aO rfl rfl rfl rfl rfl rfl rfl,rfl,au.iu M⟩
theorem plain_4(f:Nat)(n:Int)(L:kq b w gx x)(ha:E<16)(hb:d<16)(hc:f<16)(hs:x.p.e.sm 900000):
 Calls prog 119 #[q_ gx,.agg #[i_ 4,i_ (E:Int),i_ (d:Int),i_ (f:Int),i_ n]] w (lu (if(iF n (x.e.r d) (x.e.r f)).2≠0 then jk x.p (iF n (x.e.r d) (x.e.r f)).2 else kW x.p E (iF n (x.e.r d) (x.e.r f)).1) true b gx w):=by
 obtain⟨P,hP⟩:=mn_ (if(iF n (x.e.r d) (x.e.r f)).2≠0 then jk x.p (iF n (x.e.r d) (x.e.r f)).2 else kW x.p E (iF n (x.e.r d) (x.e.r f)).1);rw[hP];obtain⟨⟨j,k⟩,hy⟩:∃y,iF n (x.e.r d) (x.e.r f)=y:=⟨_,rfl⟩;rw[hy]at hP;have u:=h_ hP;have ah:=h_ hy;clear hP hy;obtain⟨R,a,aK,A,l,N,az,t⟩:=rR L #[i_ 4,i_ (E:Int),i_ (d:Int),i_ (f:Int),i_ n]
 go_enter func119,ntmps119
 go_upto_region 1 with fail
 clear aK A;have U:=N.f_ 0
 go_upto_region 12 with fail
 clear U
 go_cut [6,7] (λp o aX=>∃I:Nat,p=q_ I/\o=i_ k/\Bk aX I 38 #[.bool j.r,i_ j.n]/\Gr [] R aX)
 case first=>
  have V:Gr [] R R.drew:=(F_ [] R).drew;refine hQ (λw'=>(w'.cell? (c_ a 0)=some (i_ 4)/\w'.cell? (c_ a 1)=some (i_ (E:Int))/\w'.cell? (c_ a 2)=some (i_ (d:Int))/\w'.cell? (c_ a 3)=some (i_ (f:Int))/\w'.cell? (c_ a 4)=some (i_ n))/\(w'.cell? (c_ gx (40+d*2))=some (.bool (x.e.r d).r)/\w'.cell? (c_ gx (40+d*2+1))=some (i_ (x.e.r d).n))/\w'.cell? (c_ gx (40+f*2))=some (.bool (x.e.r f).r)/\w'.cell? (c_ gx (40+f*2+1))=some (i_ (x.e.r f).n)) 21 k_ ?_;have C:(R.drew.cell? (c_ a 0)=some (i_ 4)/\R.drew.cell? (c_ a 1)=some (i_ (E:Int))/\R.drew.cell? (c_ a 2)=some (i_ (d:Int))/\R.drew.cell? (c_ a 3)=some (i_ (f:Int))/\R.drew.cell? (c_ a 4)=some (i_ n))/\(R.drew.cell? (c_ gx (40+d*2))=some (.bool (x.e.r d).r)/\R.drew.cell? (c_ gx (40+d*2+1))=some (i_ (x.e.r d).n))/\R.drew.cell? (c_ gx (40+f*2))=some (.bool (x.e.r f).r)/\R.drew.cell? (c_ gx (40+f*2+1))=some (i_ (x.e.r f).n):=⟨(N.hG V).c5,(r8 (l.bk.hG V) hb),r8 (l.bk.hG V) hc⟩;have aS:(0:Int)<=(d:Int):=o_;have aJ:(d:Int)<16:=o_;have aG:(0:Int)<=(f:Int):=o_;have bQ:(f:Int)<16:=o_
  (iterate 14 refine jW C ?_)
  refine ji 14 18 rfl rfl k_ (λK H=>?_) (λK H=>?_)
  .go_simp
   (go_at_call 164;((with_reducible refine(mD n (x.e.r d) (x.e.r f) _).mono ?_);unfold qi;rintro e T⟨rfl,Z⟩;rw[ah.out]))
   clear C;have g:=V.trans Z
   refine h5 H ⟨(N.hG g).c5,(r8 (l.bk.hG g) hb),r8 (l.bk.hG g) hc⟩ λC=>?_
   clear H K
   iterate 3 refine jW C ?_
   refine h4 18 λK H=>?_
   go_simp;have aq:=P_ T 38 #[.bool false,i_ 0];have aP:Gr [] R (T.alloc (.cells #[.bool false,i_ 0] 38)):=g.alloc _;clear C;have C:((T.alloc (.cells #[.bool false,i_ 0] 38)).cell? (c_ a 0)=some (i_ 4)/\(T.alloc (.cells #[.bool false,i_ 0] 38)).cell? (c_ a 1)=some (i_ (E:Int))/\(T.alloc (.cells #[.bool false,i_ 0] 38)).cell? (c_ a 2)=some (i_ (d:Int))/\(T.alloc (.cells #[.bool false,i_ 0] 38)).cell? (c_ a 3)=some (i_ (f:Int))/\(T.alloc (.cells #[.bool false,i_ 0] 38)).cell? (c_ a 4)=some (i_ n))/\((T.alloc (.cells #[.bool false,i_ 0] 38)).cell? (c_ gx (40+d*2))=some (.bool (x.e.r d).r)/\(T.alloc (.cells #[.bool false,i_ 0] 38)).cell? (c_ gx (40+d*2+1))=some (i_ (x.e.r d).n))/\(T.alloc (.cells #[.bool false,i_ 0] 38)).cell? (c_ gx (40+f*2))=some (.bool (x.e.r f).r)/\(T.alloc (.cells #[.bool false,i_ 0] 38)).cell? (c_ gx (40+f*2+1))=some (i_ (x.e.r f).n):=⟨(N.hG aP).c5,(r8 (l.bk.hG aP) hb),r8 (l.bk.hG aP) hc⟩;have U:=aq.f_ 0;have ad:=aq.f_ 1;have br:=aq.hH 0;have bH:=aq.hH 1
   refine h5 H C λC=>?_
   clear H K
   refine h4 19 λK H=>?_
   go_simp;have m:=P_ T 38 #[.bool j.r,i_ j.n];have bl:Gr [] R (T.alloc (.cells #[.bool j.r,i_ j.n] 38)):=g.alloc _;clear C
   refine h5 H ⟨(N.hG bl).c5,(r8 (l.bk.hG bl) hb),r8 (l.bk.hG bl) hc⟩ λC=>?_
   clear H K;refine iP 20 C ?_;refine hN k_ ?_ _;go_wp2;go_meet;exact⟨T.heap.size,rfl,rfl,m,bl⟩
  .go_simp;have z:Bk ((R.alloc (.cells #[.bool false,i_ 0] 38)).drew) R.heap.size 38 #[.bool false,i_ 0]:=(P_ R 38 #[.bool false,i_ 0]).drew;have aP:Gr [] R ((R.alloc (.cells #[.bool false,i_ 0] 38)).drew):=((F_ [] R).alloc _).drew;clear C
   refine h5 H ⟨(N.hG aP).c5,(r8 (l.bk.hG aP) hb),r8 (l.bk.hG aP) hc⟩ λC=>?_
   clear H K
   refine h4 14 λK H=>?_
   go_simp
   (go_at_call 164;((with_reducible refine(mD n (x.e.r d) (x.e.r f) _).mono ?_);unfold qi;rintro e T⟨rfl,Z⟩;rw[ah.out]))
   have c:=aP.trans Z;clear C;have C:(T.cell? (c_ a 0)=some (i_ 4)/\T.cell? (c_ a 1)=some (i_ (E:Int))/\T.cell? (c_ a 2)=some (i_ (d:Int))/\T.cell? (c_ a 3)=some (i_ (f:Int))/\T.cell? (c_ a 4)=some (i_ n))/\(T.cell? (c_ gx (40+d*2))=some (.bool (x.e.r d).r)/\T.cell? (c_ gx (40+d*2+1))=some (i_ (x.e.r d).n))/\T.cell? (c_ gx (40+f*2))=some (.bool (x.e.r f).r)/\T.cell? (c_ gx (40+f*2+1))=some (i_ (x.e.r f).n):=⟨(N.hG c).c5,(r8 (l.bk.hG c) hb),r8 (l.bk.hG c) hc⟩;have aq:=z.hG Z;have U:=aq.f_ 0;have ad:=aq.f_ 1;have br:=aq.hH 0;have bH:=aq.hH 1
   refine h5 H C λC=>?_
   clear H K
   iterate 3 refine jW C ?_
   refine h4 19 λK H=>?_
   go_simp;have m:=(aq.hW 0 (.bool j.r)).hW 1 (i_ j.n);have M:=((F_ [R.heap.size] T).setCell (p:=(c_ R.heap.size 0)) (.inl s_) (.bool j.r)).setCell (p:=(c_ R.heap.size 1)) (.inl s_) (i_ j.n);have bl:=c.hK M s_;clear C
   refine h5 H ⟨(N.hG bl).c5,(r8 (l.bk.hG bl) hb),r8 (l.bk.hG bl) hc⟩ λC=>?_
   clear H K;refine iP 20 C ?_;refine hN k_ ?_ _;go_wp2;go_meet;exact⟨R.heap.size,rfl,rfl,m,bl⟩
 case rest=>
  obtain⟨I,rfl,rfl,aq,aE⟩:=hcut;replace l:=l.hG aE;replace N:=N.hG aE;replace az:=az.hG aE;clear aE
  by_cases hz:k=0
  .have HM:Hid (P=kW x.p E j):=h_ (by rw[<-u.out,Q_ (by simp[hz])]);have q:(k !=0)=false:=zu hz;clear hz u ah
   go_upto_region 16 with fail
   obtain⟨aH,bC⟩:=nm_ wc;rw[<-bC]at l N az aq |-;clear bC;refine hQ (λw'=>(w'.cell? (c_ a 0)=some (i_ 4)/\w'.cell? (c_ a 1)=some (i_ (E:Int))/\w'.cell? (c_ a 2)=some (i_ (d:Int))/\w'.cell? (c_ a 3)=some (i_ (f:Int))/\w'.cell? (c_ a 4)=some (i_ n))/\w'.cell? (c_ I 0)=some (.bool j.r)/\w'.cell? (c_ I 1)=some (i_ j.n)) 6 k_ ?_;have C:(aH.drew.cell? (c_ a 0)=some (i_ 4)/\aH.drew.cell? (c_ a 1)=some (i_ (E:Int))/\aH.drew.cell? (c_ a 2)=some (i_ (d:Int))/\aH.drew.cell? (c_ a 3)=some (i_ (f:Int))/\aH.drew.cell? (c_ a 4)=some (i_ n))/\aH.drew.cell? (c_ I 0)=some (.bool j.r)/\aH.drew.cell? (c_ I 1)=some (i_ j.n):=⟨N.drew.c5,aq.drew.f_ 0,aq.drew.f_ 1⟩;have aS:(0:Int)<=(E:Int):=o_;have aJ:(E:Int)<16:=o_
   (iterate 6 refine jW C ?_)
   have bj:aH.cell? (c_ gx (40+E*2))=some (.bool (x.e.r E).r):=(l.bk.f_ _).trans (kd x E ha).1;have bn:aH.cell? (c_ gx (40+E*2+1))=some (i_ (x.e.r E).n):=(l.bk.f_ _).trans (kd x E ha).2;have br:=l.bk.hH (40+E*2);have bH:=l.bk.hH (40+E*2+1)
   refine h4 6 λK H=>?_
   go_simp;obtain⟨aO,M⟩:=C4 l j ha;refine H.out _ _ (λh=>EK h d_) ?_;clear H K
   try simp only[a_]
   refine hN k_ ?_ _;go_wp2;go_ret;rw[HM.out];exact⟨_,rfl,l.rP M aO rfl rfl rfl rfl rfl rfl rfl,rfl,az.iu M⟩
  .have HM:Hid (P=jk x.p k):=h_ (by rw[<-u.out,T_ (zu hz)]);have q:(k !=0)=true:=zu hz;clear hz u ah
   go_wp2_with (go_at_call 165;((with_reducible refine(kV b _ gx x k l hs).mono ?_);unfold kP;rintro e X⟨aI,rfl,ag,F,G⟩;have Y:=h_ F;clear F))
   go_ret;rw[HM.out];exact⟨aI,rfl,ag,Y.out,az.trans G⟩
theorem pl(L:kq b w gx x)(hs:x.p.e.sm 900000)(ad:0<=i.a)(aT:i.a<16)(hb:i.op=3∨i.op=4->0<=i.b/\i.b<16)(hc:i.op=4->0<=i.c/\i.c<16):
 Calls prog 119 #[q_ gx,.agg #[i_ i.op,i_ i.a,i_ i.b,i_ i.c,i_ i.n]] w (lu ((jU x.p i).getD x.p) (jU x.p i).isSome b gx w):=by
 obtain⟨op,V,ak,c,n⟩:=i;simp only at ad aT hb hc |-;obtain⟨E,rfl⟩:∃k:Nat,V=k:=⟨V.toNat,o_⟩;have j:E<16:=o_
 by_cases h0:op=0
 .subst h0;have e:jU x.p ⟨0,E,ak,c,n⟩=some x.p:=rfl;rw[e];exact plain_0 b w gx x E ak c n L
 by_cases h1:op=1
 .subst h1;have e:jU x.p ⟨1,E,ak,c,n⟩=some (kW x.p E ⟨false,n⟩):=rfl;rw[e];exact plain_1 b w gx x E ak c n L j
 by_cases h2:op=2
 .subst h2;have e:jU x.p ⟨2,E,ak,c,n⟩=some (kW x.p E ⟨true,0⟩):=rfl;rw[e];exact plain_2 b w gx x E ak c n L j
 by_cases h3:op=3
 .subst h3;obtain⟨t,aQ⟩:=hb (.inl rfl);obtain⟨d,rfl⟩:∃k:Nat,ak=k:=⟨ak.toNat,o_⟩;have e:jU x.p ⟨3,E,d,c,n⟩=some (kW x.p E (x.e.r d)):=rfl;rw[e];exact plain_3 b w gx x E d c n L j o_
 by_cases au:op=4
 .subst au;obtain⟨t,aQ⟩:=hb (.inr rfl);obtain⟨bi,bq⟩:=hc rfl;obtain⟨d,rfl⟩:∃k:Nat,ak=k:=⟨ak.toNat,o_⟩;obtain⟨f,rfl⟩:∃k:Nat,c=k:=⟨c.toNat,o_⟩;have e:jU x.p ⟨4,E,d,f,n⟩=some (if(iF n (x.e.r d) (x.e.r f)).2≠0 then jk x.p (iF n (x.e.r d) (x.e.r f)).2 else kW x.p E (iF n (x.e.r d) (x.e.r f)).1):=rfl;rw[e];exact plain_4 b w gx x E d f n L j o_ o_ hs
 by_cases A:op=11
 .subst A;have e:jU x.p ⟨11,E,ak,c,n⟩=some (tD x.p n):=rfl;rw[e];exact plain_11 b w gx x E ak c n L
 by_cases cy:op=12
 .subst cy;have e:jU x.p ⟨12,E,ak,c,n⟩=some (if(x.e.r E).n≠0 then x.p else tD x.p n):=rfl;rw[e];exact plain_12 b w gx x E ak c n L j
 by_cases N:op=21
 .subst N;have e:jU x.p ⟨21,E,ak,c,n⟩=some {x.p with e:={x.p.e with r:=jq,h6:=1,kx:=n}}:=rfl;rw[e];exact plain_21 b w gx x E ak c n L
 by_cases BM:op=16
 .subst BM;have e:jU x.p ⟨16,E,ak,c,n⟩=some (jm x.p (x.e.r E)):=rfl;rw[e];exact plain_16 b w gx x E ak c n L j hs
 by_cases U:op=19
 .subst U;have e:jU x.p ⟨19,E,ak,c,n⟩=some (if(x.e.r E).r=true then jk x.p (-2) else{x.p with e:={x.p.e with h7:=[⟨false,(x.e.r E).n,0⟩]}}):=rfl;rw[e];exact plain_19 b w gx x E ak c n L j hs
 have e:jU x.p ⟨op,E,ak,c,n⟩=none:=by
  unfold jU;exact(Q_ h0).trans ((Q_ h1).trans ((Q_ h2).trans ((Q_ h3).trans ((Q_ au).trans ((Q_ A).trans ((Q_ cy).trans ((Q_ N).trans ((Q_ BM).trans (Q_ U)))))))))
 rw[e];exact Ab b w gx x op E ak c n L ⟨h0,h1,h2,h3,au,A,cy,N,BM,U⟩
theorem uA:∀a,a<16->x.g_[4+a*2]?=some (.bool (x.sr a).r)/\x.g_[4+a*2+1]?=some (i_ (x.sr a).n)
 |0,_=>⟨rfl,rfl⟩
 |1,_=>⟨rfl,rfl⟩
 |2,_=>⟨rfl,rfl⟩
 |3,_=>⟨rfl,rfl⟩
 |4,_=>⟨rfl,rfl⟩
 |5,_=>⟨rfl,rfl⟩
 |6,_=>⟨rfl,rfl⟩
 |7,_=>⟨rfl,rfl⟩
 |8,_=>⟨rfl,rfl⟩
 |9,_=>⟨rfl,rfl⟩
 |10,_=>⟨rfl,rfl⟩
 |11,_=>⟨rfl,rfl⟩
 |12,_=>⟨rfl,rfl⟩
 |13,_=>⟨rfl,rfl⟩
 |14,_=>⟨rfl,rfl⟩
 |15,_=>⟨rfl,rfl⟩
 |n+16,h=>EK h o_
theorem uZ{w:World}{gx:Nat}{x:X1}(h:Bk w gx 186 x.g_)(ha:k<16):w.cell? (c_ gx (4+k*2))=some (.bool (x.sr k).r)/\w.cell? (c_ gx (4+k*2+1))=some (i_ (x.sr k).n):=⟨(h.f_ _).trans (uA x k ha).1,(h.f_ _).trans (uA x k ha).2⟩
theorem rz{w:World}{a gx:Nat}{t:TypeId}{x:X1}{y z u v q:Value}(h:Bk w a t #[y,z,u,v,q])(L:Bk w gx 186 x.g_)(ha:k<16){o:Obj}:(((w.alloc o).drew.cell? (c_ a 0)=some y/\(w.alloc o).drew.cell? (c_ a 1)=some z/\(w.alloc o).drew.cell? (c_ a 2)=some u/\(w.alloc o).drew.cell? (c_ a 3)=some v/\(w.alloc o).drew.cell? (c_ a 4)=some q)/\(w.alloc o).drew.cell? (c_ gx (4+k*2))=some (.bool (x.sr k).r)/\(w.alloc o).drew.cell? (c_ gx (4+k*2+1))=some (i_ (x.sr k).n)):=
 ⟨(h.hG ((F_ [] w).alloc o).drew).c5,uZ (L.hG ((F_ [] w).alloc o).drew) ha⟩
theorem yH{b w:World}{a gx:Nat}{x:X1}{w0:World}{I:Array Value}(L:kq b w gx x)(N:Bk w a 189 I)(hg:XG gx w0 w)(v:Array Value):∃W g,(w.alloc (.cells v 38)).drew=W/\w.heap.size=g/\kq b W gx x/\Bk W a 189 I/\Bk W g 38 v/\XG gx w0 W/\g≠gx:=
 have h:=((F_ [] w).alloc (.cells v 38)).drew
 ⟨_,_,rfl,rfl,L.hG h,N.hG h,(P_ w 38 v).drew,hg.hG h,ov L.bk.lt⟩
theorem Bb(op V ak c:Int)(n:Int)(L:kq b w gx x)(ho:op≠8/\op≠9/\op≠10/\op≠20):
 Calls prog 120 #[q_ gx,.agg #[i_ op,i_ V,i_ ak,i_ c,i_ n]] w (lu x.p false b gx w):=by
 obtain⟨R,a,aK,A,l,N,az,t⟩:=rR L #[i_ op,i_ V,i_ ak,i_ c,i_ n]
 go_enter func120,ntmps120
 go_upto_region 1 with fail
 clear aK A;have U:=N.f_ 0;have h:(op=8)=False:=p_;have cq:(op==8)=false:=p_;have df:(op !=8)=true:=p_;have j:(op=9)=False:=p_;have cN:(op==9)=false:=p_;have ai:(op !=9)=true:=p_;have i:(op=10)=False:=p_;have d:(op==10)=false:=p_;have f:(op !=10)=true:=p_;have g:(op=20)=False:=p_;have e:(op==20)=false:=p_;have k:(op !=20)=true:=p_;clear ho;exact LB
theorem vars_9(n:Int)(L:kq b w gx x)(ha:E<16)(hs:x.p.e.sm 800000)(h0:0<=n)(h1:n<=1000000):
 Calls prog 120 #[q_ gx,.agg #[i_ 9,i_ (E:Int),i_ ak,i_ c,i_ n]] w (lu ((kK x.p ⟨9,E,ak,c,n⟩).getD x.p) true b gx w):=by
 obtain⟨P,hP⟩:=mn_ ((kK x.p ⟨9,E,ak,c,n⟩).getD x.p);rw[hP];have u:=h_ hP;clear hP;obtain⟨R,a,aK,A,l,N,az,t⟩:=rR L #[i_ 9,i_ (E:Int),i_ ak,i_ c,i_ n]
 go_enter func120,ntmps120
 go_upto_region 1 with fail
 clear aK A;have U:=N.f_ 0
 go_upto_region 3 with fail
 clear U;have V:Gr [] R R.drew:=(F_ [] R).drew;refine hQ (λw'=>(w'.cell? (c_ a 0)=some (i_ 9)/\w'.cell? (c_ a 1)=some (i_ (E:Int))/\w'.cell? (c_ a 2)=some (i_ ak)/\w'.cell? (c_ a 3)=some (i_ c)/\w'.cell? (c_ a 4)=some (i_ n))/\w'.cell? (c_ gx (4+E*2))=some (.bool (x.sr E).r)/\w'.cell? (c_ gx (4+E*2+1))=some (i_ (x.sr E).n)) 10 k_ ?_;have C:=And.intro N.drew.c5 (uZ (l.bk.drew) ha);have aS:(0:Int)<=(E:Int):=o_;have aJ:(E:Int)<16:=o_
 iterate 8 refine jW C ?_
 refine h4 8 λK H=>?_
 go_simp;clear C
 refine h5 H (rz N l.bk ha) λC=>?_
 clear H K
 refine h4 9 λK H=>?_
 go_simp;clear C
 refine h5 H (rz N l.bk ha) λC=>?_
 clear H K;refine hN k_ ?_ _;obtain⟨aH,aL,bC,D,W,aM,bB,au,aW⟩:=yH l N az #[.bool (x.sr E).r,i_ (x.sr E).n];rw[bC,D];clear bC D l N az V C;have ao:=aM.f_ 4;obtain⟨⟨g,f,d,ok⟩,hy⟩:∃y,hJ x.p n=y:=⟨_,rfl⟩;have ah:=h_ hy;clear hy
 go_upto_region 5 with(go_at_call 167;((with_reducible refine(l5 b _ gx x n W hs h0 h1).mono ?_);rw[ah.out];unfold wm;rintro e ae⟨aj,rfl,B,bJ,S⟩;have ai:=h_ bJ;clear bJ))
 have af:=aM.xg S t;have i:=bB.xg S aW;have z:=au.trans S;have a8:g.e.sm 800010:=Lt;clear W aM bB au S ao
 cases ok with
 |false=>
  have HM:Hid (P=g):=h_ (by rw[<-u.out];show(if(hJ x.p n).2.2.2=false then some (hJ x.p n).1 else some (ib (hJ x.p n).1 (hJ x.p n).2.1 (hJ x.p n).2.2.1 (x.p.sr E))).getD x.p=g;rw[ah.out];rfl);exact Lr
 |true=>
  have HM:Hid (P=ib g f d (x.sr E)):=h_ (by rw[<-u.out];show(if(hJ x.p n).2.2.2=false then some (hJ x.p n).1 else some (ib (hJ x.p n).1 (hJ x.p n).2.1 (hJ x.p n).2.2.1 (x.p.sr E))).getD x.p=_;rw[ah.out];rfl)
  have bX:aj.e.ws.l.length<=1000000:=by have q:=a8.ws;rw[<-ai.out]at q;exact G_ q d_
  have U:=af.f_ 0;have v0:=i.f_ 0;have v1:=i.f_ 1
  go_wp2_with (go_at_call 163;((with_reducible refine(j3 b _ gx aj f d (x.sr E) B bX).mono ?_);unfold kP;rintro e T⟨O,rfl,av,aQ,Z⟩;have aV:=h_ aQ;clear aQ))
  go_ret;rw[HM.out];exact⟨O,rfl,av,by rw[aV.out,ai.out],z.trans Z⟩
theorem vars_8(n:Int)(L:kq b w gx x)(ha:E<16)(hs:x.p.e.sm 800000)(h0:0<=n)(h1:n<=1000000):
 Calls prog 120 #[q_ gx,.agg #[i_ 8,i_ (E:Int),i_ ak,i_ c,i_ n]] w (lu ((kK x.p ⟨8,E,ak,c,n⟩).getD x.p) true b gx w):=by
 obtain⟨P,hP⟩:=mn_ ((kK x.p ⟨8,E,ak,c,n⟩).getD x.p);rw[hP];have u:=h_ hP;clear hP;obtain⟨R,a,aK,A,l,N,az,t⟩:=rR L #[i_ 8,i_ (E:Int),i_ ak,i_ c,i_ n]
 go_enter func120,ntmps120
 go_upto_region 1 with fail
 clear aK A;have U:=N.f_ 0
 go_upto_region 3 with fail
 clear U;have V:Gr [] R R.drew:=(F_ [] R).drew;refine hQ (λw'=>(w'.cell? (c_ a 0)=some (i_ 8)/\w'.cell? (c_ a 1)=some (i_ (E:Int))/\w'.cell? (c_ a 2)=some (i_ ak)/\w'.cell? (c_ a 3)=some (i_ c)/\w'.cell? (c_ a 4)=some (i_ n))/\w'.cell? (c_ gx (4+E*2))=some (.bool (x.sr E).r)/\w'.cell? (c_ gx (4+E*2+1))=some (i_ (x.sr E).n)) 10 k_ ?_;have C:=And.intro N.drew.c5 (uZ (l.bk.drew) ha);have aS:(0:Int)<=(E:Int):=o_;have aJ:(E:Int)<16:=o_
 iterate 8 refine jW C ?_
 refine h4 8 λK H=>?_
 go_simp;clear C
 refine h5 H (rz N l.bk ha) λC=>?_
 clear H K
 refine h4 9 λK H=>?_
 go_simp;clear C
 refine h5 H (rz N l.bk ha) λC=>?_
 clear H K;refine hN k_ ?_ _;obtain⟨aH,aL,bC,D,W,aM,bB,au,aW⟩:=yH l N az #[.bool (x.sr E).r,i_ (x.sr E).n];rw[bC,D];clear bC D l N az V C;have ao:=aM.f_ 4;obtain⟨⟨g,f,d,ok⟩,hy⟩:∃y,hJ x.p n=y:=⟨_,rfl⟩;have ah:=h_ hy;clear hy
 go_upto_region 5 with(go_at_call 167;((with_reducible refine(l5 b _ gx x n W hs h0 h1).mono ?_);rw[ah.out];unfold wm;rintro e ae⟨aj,rfl,B,bJ,S⟩;have ai:=h_ bJ;clear bJ))
 have af:=aM.xg S t;have i:=bB.xg S aW;have z:=au.trans S;have a8:g.e.sm 800010:=Lt;clear W aM bB au S ao
 cases ok with
 |false=>
  have HM:Hid (P=g):=h_ (by rw[<-u.out];show(if(hJ x.p n).2.2.2=false then some (hJ x.p n).1 else some (kW (hX (hJ x.p n).1 (hJ x.p n).2.1 (hJ x.p n).2.2.1).1 E (hX (hJ x.p n).1 (hJ x.p n).2.1 (hJ x.p n).2.2.1).2)).getD x.p=_;rw[ah.out];rfl);exact Lr
 |true=>
  obtain⟨v,hv⟩:=mn_ ((hX aj.p f d).2);have ay:=h_ hv;clear hv
  have bX:aj.e.rs.l.length<=1000000:=by have q:=a8.rs;rw[<-ai.out]at q;exact G_ q d_
  have U:=af.f_ 0
  go_upto_region 11 with(go_at_call 118;((with_reducible refine(jQ b _ gx aj f d B bX).mono ?_);unfold mQ;rintro e T⟨O,rfl,av,aQ,Z⟩;have aV:=h_ aQ;clear aQ;rw[ay.out]))
  have HM:Hid (P=kW O.p E v):=h_ (by rw[<-u.out];show(if(hJ x.p n).2.2.2=false then some (hJ x.p n).1 else some (kW (hX (hJ x.p n).1 (hJ x.p n).2.1 (hJ x.p n).2.2.1).1 E (hX (hJ x.p n).1 (hJ x.p n).2.1 (hJ x.p n).2.2.1).2)).getD x.p=_;rw[ah.out];show kW (hX g f d).1 E (hX g f d).2=_;rw[<-ai.out,ay.out,aV.out]);have aE:=(af.xg Z t).alloc (.cells #[.bool v.r,i_ v.n] 38);have a7:=av.hG ((F_ [] T).alloc (.cells #[.bool v.r,i_ v.n] 38));have aq:=P_ T 38 #[.bool v.r,i_ v.n];have bi:=(z.trans Z).hG ((F_ [] T).alloc (.cells #[.bool v.r,i_ v.n] 38));clear U ay aV u ah;obtain⟨o,bG⟩:=nm_ (T.alloc (.cells #[.bool v.r,i_ v.n] 38));rw[<-bG]at aE a7 aq bi |-;clear bG;clear av Z B z af i;generalize T.heap.size=I at*;have U:=aE.f_ 0
  go_upto_region 13 with fail
  refine hQ (λw'=>(w'.cell? (c_ a 0)=some (i_ 8)/\w'.cell? (c_ a 1)=some (i_ (E:Int))/\w'.cell? (c_ a 2)=some (i_ ak)/\w'.cell? (c_ a 3)=some (i_ c)/\w'.cell? (c_ a 4)=some (i_ n))/\w'.cell? (c_ I 0)=some (.bool v.r)/\w'.cell? (c_ I 1)=some (i_ v.n)) 9 k_ ?_;have C:(o.drew.cell? (c_ a 0)=some (i_ 8)/\o.drew.cell? (c_ a 1)=some (i_ (E:Int))/\o.drew.cell? (c_ a 2)=some (i_ ak)/\o.drew.cell? (c_ a 3)=some (i_ c)/\o.drew.cell? (c_ a 4)=some (i_ n))/\o.drew.cell? (c_ I 0)=some (.bool v.r)/\o.drew.cell? (c_ I 1)=some (i_ v.n):=⟨aE.drew.c5,aq.drew.f_ 0,aq.drew.f_ 1⟩;have aS:(0:Int)<=(E:Int):=o_;have aJ:(E:Int)<16:=o_
  (iterate 9 refine jW C ?_)
  have bj:o.cell? (c_ gx (40+E*2))=some (.bool (O.e.r E).r):=(a7.bk.f_ _).trans (kd O E ha).1;have bn:o.cell? (c_ gx (40+E*2+1))=some (i_ (O.e.r E).n):=(a7.bk.f_ _).trans (kd O E ha).2;have br:=a7.bk.hH (40+E*2);have bH:=a7.bk.hH (40+E*2+1)
  refine h4 9 λK H=>?_
  go_simp;obtain⟨aO,M⟩:=C4 a7 v ha;refine H.out _ _ (λh=>EK h d_) ?_;clear H K
  try simp only[a_]
  refine hN k_ ?_ _;go_wp2;go_ret;rw[HM.out];exact⟨_,rfl,a7.rP M aO rfl rfl rfl rfl rfl rfl rfl,rfl,bi.iu M⟩
theorem vars_20(n:Int)(L:kq b w gx x)(ha:E<16)(hs:x.p.e.sm 800000)(h0:0<=n)(h1:n<=1000000):
 Calls prog 120 #[q_ gx,.agg #[i_ 20,i_ (E:Int),i_ ak,i_ c,i_ n]] w (lu ((kK x.p ⟨20,E,ak,c,n⟩).getD x.p) true b gx w):=by
 obtain⟨P,hP⟩:=mn_ ((kK x.p ⟨20,E,ak,c,n⟩).getD x.p);rw[hP];have u:=h_ hP;clear hP;obtain⟨R,a,aK,A,l,N,az,t⟩:=rR L #[i_ 20,i_ (E:Int),i_ ak,i_ c,i_ n]
 go_enter func120,ntmps120
 go_upto_region 1 with fail
 clear aK A;have U:=N.f_ 0
 go_upto_region 3 with fail
 clear U;have V:Gr [] R R.drew:=(F_ [] R).drew;refine hQ (λw'=>(w'.cell? (c_ a 0)=some (i_ 20)/\w'.cell? (c_ a 1)=some (i_ (E:Int))/\w'.cell? (c_ a 2)=some (i_ ak)/\w'.cell? (c_ a 3)=some (i_ c)/\w'.cell? (c_ a 4)=some (i_ n))/\w'.cell? (c_ gx (4+E*2))=some (.bool (x.sr E).r)/\w'.cell? (c_ gx (4+E*2+1))=some (i_ (x.sr E).n)) 10 k_ ?_;have C:=And.intro N.drew.c5 (uZ (l.bk.drew) ha);have aS:(0:Int)<=(E:Int):=o_;have aJ:(E:Int)<16:=o_
 iterate 8 refine jW C ?_
 refine h4 8 λK H=>?_
 go_simp;clear C
 refine h5 H (rz N l.bk ha) λC=>?_
 clear H K
 refine h4 9 λK H=>?_
 go_simp;clear C
 refine h5 H (rz N l.bk ha) λC=>?_
 clear H K;refine hN k_ ?_ _;obtain⟨aH,aL,bC,D,W,aM,bB,au,aW⟩:=yH l N az #[.bool (x.sr E).r,i_ (x.sr E).n];rw[bC,D];clear bC D l N az V C;have ao:=aM.f_ 4;obtain⟨⟨g,f,d,ok⟩,hy⟩:∃y,hJ x.p n=y:=⟨_,rfl⟩;have ah:=h_ hy;clear hy
 go_upto_region 5 with(go_at_call 167;((with_reducible refine(l5 b _ gx x n W hs h0 h1).mono ?_);rw[ah.out];unfold wm;rintro e ae⟨aj,rfl,B,bJ,S⟩;have ai:=h_ bJ;clear bJ))
 have af:=aM.xg S t;have i:=bB.xg S aW;have z:=au.trans S;have a8:g.e.sm 800010:=Lt;clear W aM bB au S ao
 cases ok with
 |false=>
  have HM:Hid (P=g):=h_ (by rw[<-u.out];show(if(hJ x.p n).2.2.2=false then some (hJ x.p n).1 else if(hX (hJ x.p n).1 (hJ x.p n).2.1 (hJ x.p n).2.2.1).2.r=true then some (jk (hX (hJ x.p n).1 (hJ x.p n).2.1 (hJ x.p n).2.2.1).1 (-2)) else some {(hX (hJ x.p n).1 (hJ x.p n).2.1 (hJ x.p n).2.2.1).1 with e:={(hX (hJ x.p n).1 (hJ x.p n).2.1 (hJ x.p n).2.2.1).1.e with h6:=3,v:=(hX (hJ x.p n).1 (hJ x.p n).2.1 (hJ x.p n).2.2.1).2,pc:=(hX (hJ x.p n).1 (hJ x.p n).2.1 (hJ x.p n).2.2.1).1.jY,r:=(hX (hJ x.p n).1 (hJ x.p n).2.1 (hJ x.p n).2.2.1).1.sr}}).getD x.p=_;rw[ah.out];rfl);exact Lr
 |true=>
  obtain⟨v,hv⟩:=mn_ ((hX aj.p f d).2);have ay:=h_ hv;clear hv
  have bX:aj.e.rs.l.length<=1000000:=by have q:=a8.rs;rw[<-ai.out]at q;exact G_ q d_
  have U:=af.f_ 0
  go_upto_region 11 with(go_at_call 118;((with_reducible refine(jQ b _ gx aj f d B bX).mono ?_);unfold mQ;rintro e T⟨O,rfl,av,aQ,Z⟩;have aV:=h_ aQ;clear aQ;rw[ay.out]))
  have aZ:Hid (P=if v.r=true then jk O.p (-2) else{O.p with e:={O.p.e with h6:=3,v:=v,pc:=O.p.jY,r:=O.p.sr}}):=h_ (by rw[<-u.out];show(if(hJ x.p n).2.2.2=false then some (hJ x.p n).1 else if(hX (hJ x.p n).1 (hJ x.p n).2.1 (hJ x.p n).2.2.1).2.r=true then some (jk (hX (hJ x.p n).1 (hJ x.p n).2.1 (hJ x.p n).2.2.1).1 (-2)) else some {(hX (hJ x.p n).1 (hJ x.p n).2.1 (hJ x.p n).2.2.1).1 with e:={(hX (hJ x.p n).1 (hJ x.p n).2.1 (hJ x.p n).2.2.1).1.e with h6:=3,v:=(hX (hJ x.p n).1 (hJ x.p n).2.1 (hJ x.p n).2.2.1).2,pc:=(hX (hJ x.p n).1 (hJ x.p n).2.1 (hJ x.p n).2.2.1).1.jY,r:=(hX (hJ x.p n).1 (hJ x.p n).2.1 (hJ x.p n).2.2.1).1.sr}}).getD x.p=_;rw[ah.out];show(if(hX g f d).2.r=true then some (jk (hX g f d).1 (-2)) else some {(hX g f d).1 with e:={(hX g f d).1.e with h6:=3,v:=(hX g f d).2,pc:=(hX g f d).1.jY,r:=(hX g f d).1.sr}}).getD x.p=_;rw[<-ai.out,ay.out,<-aV.out];split<;>rfl)
  have bo:O.p.e.sm 900000:=by
   have q:=kc a8 f d;rw[<-ai.out,<-aV.out]at q;exact q.mono d_
  have aE:=(af.xg Z t).alloc (.cells #[.bool v.r,i_ v.n] 38);have a7:=av.hG ((F_ [] T).alloc (.cells #[.bool v.r,i_ v.n] 38));have aq:=P_ T 38 #[.bool v.r,i_ v.n];have bi:=(z.trans Z).hG ((F_ [] T).alloc (.cells #[.bool v.r,i_ v.n] 38));have h:T.heap.size≠gx:=ov av.bk.lt;clear U ay aV u ah;obtain⟨o,bG⟩:=nm_ (T.alloc (.cells #[.bool v.r,i_ v.n] 38));rw[<-bG]at aE a7 aq bi |-;clear bG;clear av Z B z af i;generalize T.heap.size=I at*;have U:=aE.f_ 0
  cases aw:v.r with
  |true=>
   have HM:Hid (P=jk O.p (-2)):=h_ (by rw[aZ.out,T_ aw]);rw[aw]at aq;clear aw aZ;have z0:=aq.f_ 0
   go_wp2_with (go_at_call 165;((with_reducible refine(kV b _ gx O (-2) a7 bo).mono ?_);unfold kP;rintro e X⟨aI,rfl,ag,F,G⟩;have Y:=h_ F;clear F))
   go_ret;rw[HM.out];exact⟨aI,rfl,ag,Y.out,bi.trans G⟩
  |false=>
   have HM:Hid (P={O.p with e:={O.p.e with h6:=3,v:=v,pc:=O.p.jY,r:=O.p.sr}}):=h_ (by rw[aZ.out,Q_ (by rw[aw];decide)]);have z0:o.cell? (c_ I 0)=some (.bool false):=(aq.f_ 0).trans (by rw[aw];rfl);clear aw aZ
   go_upto_region 25 with fail
   clear U z0;have k:=a7.bk.drew;refine hQ (λw'=>(∀j,j<33->w'.cell? (c_ gx (3+j))=(iJ O.jY O.sr)[j]?)/\w'.cell? (c_ I 0)=some (.bool v.r)/\w'.cell? (c_ I 1)=some (i_ v.n)) 20 k_ ?_
   refine nt ⟨λj hj=>by rw[k.f_];exact mq O j hj,aq.drew.f_ 0,aq.drew.f_ 1⟩ λC=>?_
   (iterate 7 refine jW C ?_)
   refine iP 7 (v:=.agg (iJ O.jY O.sr)) C ?_ (hy:=(Or.inl ⟨r_,λw' bR=>lL 49 _ rfl gx 3 r_ _ (λj hj=>bR.1 j hj) _ underlying49 rfl k_⟩))
   (iterate 3 refine jW C ?_)
   have b6:o.cell? (c_ gx 38)=some (i_ O.e.h6):=(a7.bk.f_ 38).trans rfl;have bT:=a7.bk.hH 38
   refine h4 11 λK H=>?_
   go_simp;have aT:Bk ((o.setCell (c_ gx 38) (i_ 3)).drew) gx 186 ({O with e:={O.e with h6:=3}}:X1).g_:=(a7.bk).hW 38 (i_ 3);have bF:Bk ((o.setCell (c_ gx 38) (i_ 3)).drew) I 38 #[.bool v.r,i_ v.n]:=(aq).ih (p:=(c_ gx 38)) h (i_ 3);have aP:Gr [gx] o ((o.setCell (c_ gx 38) (i_ 3)).drew):=Gr.drew <| ((F_ [gx] o)).setCell (p:=(c_ gx 38)) (.inl s_) (i_ 3);obtain⟨s,bW⟩:=nm_ ((o.setCell (c_ gx 38) (i_ 3)).drew);rw[<-bW]at aT bF aP |-;clear bW C
   refine h5 H ⟨λj hj=>by rw[aT.f_];exact mq ({O with e:={O.e with h6:=3}}:X1) j hj,bF.f_ 0,bF.f_ 1⟩ λC=>?_
   clear H K;clear b6 bT
   (iterate 3 refine jW C ?_)
   have ce:s.cell? (c_ gx 79)=some (.bool O.e.v.r):=(aT.f_ 79).trans rfl;have cf:s.cell? (c_ gx 80)=some (i_ O.e.v.n):=(aT.f_ 80).trans rfl;have b9:=aT.hH 79;have ca:=aT.hH 80
   refine h4 15 λK H=>?_
   go_simp;have bt:Bk ((s.setCell (c_ gx 79) (.bool v.r)).setCell (c_ gx 80) (i_ v.n)) gx 186 ({O with e:={O.e with h6:=3,v:=v}}:X1).g_:=((aT).hW 79 (.bool v.r)).hW 80 (i_ v.n);have bK:Bk ((s.setCell (c_ gx 79) (.bool v.r)).setCell (c_ gx 80) (i_ v.n)) I 38 #[.bool v.r,i_ v.n]:=((bF).ih (p:=(c_ gx 79)) h (.bool v.r)).ih (p:=(c_ gx 80)) h (i_ v.n);have bl:Gr [gx] o ((s.setCell (c_ gx 79) (.bool v.r)).setCell (c_ gx 80) (i_ v.n)):=((aP).setCell (p:=(c_ gx 79)) (.inl s_) (.bool v.r)).setCell (p:=(c_ gx 80)) (.inl s_) (i_ v.n);obtain⟨bz,b5⟩:=nm_ ((s.setCell (c_ gx 79) (.bool v.r)).setCell (c_ gx 80) (i_ v.n));rw[<-b5]at bt bK bl |-;clear b5 C
   refine h5 H ⟨λj hj=>by rw[bt.f_];exact mq ({O with e:={O.e with h6:=3,v:=v}}:X1) j hj,bK.f_ 0,bK.f_ 1⟩ λC=>?_
   clear H K;clear ce b9 cf ca
   iterate 3 refine jW C ?_
   refine h4 19 λK H=>?_
   rw[T_ r_];refine jF 49 _ _ rfl gx 39 r_ (iJ O.jY O.sr) r_ 186 _ bt (by show 39+33<=82;decide) k_ (nU _ _) ?_;intro X bH G;rw[na]at bH;have bD:=bK.gr G (zu h);clear C
   refine h5 H ⟨λj hj=>by rw[bH.f_];exact mq ({O with e:={O.e with h6:=3,v:=v,pc:=O.jY,r:=O.sr}}:X1) j hj,bD.f_ 0,bD.f_ 1⟩ λC=>?_
   clear H K;refine hN k_ ?_ _;go_wp2;go_ret;rw[HM.out];exact⟨_,rfl,a7.rP (x':=({O with e:={O.e with h6:=3,v:=v,pc:=O.jY,r:=O.sr}}:X1)) (bl.trans G) bH rfl rfl rfl rfl rfl rfl rfl,rfl,bi.iu (bl.trans G)⟩
theorem vars_10(n:Int)(L:kq b w gx x)(ha:E<16)(hs:x.p.e.sm 800000)(h0:0<=n)(h1:n<=1000000):
 Calls prog 120 #[q_ gx,.agg #[i_ 10,i_ (E:Int),i_ ak,i_ c,i_ n]] w (lu ((kK x.p ⟨10,E,ak,c,n⟩).getD x.p) true b gx w):=by
 obtain⟨P,hP⟩:=mn_ ((kK x.p ⟨10,E,ak,c,n⟩).getD x.p);rw[hP];have u:=h_ hP;clear hP;obtain⟨R,a,aK,A,l,N,az,t⟩:=rR L #[i_ 10,i_ (E:Int),i_ ak,i_ c,i_ n]
 go_enter func120,ntmps120
 go_upto_region 1 with fail
 clear aK A;have U:=N.f_ 0
 go_upto_region 3 with fail
 clear U;have V:Gr [] R R.drew:=(F_ [] R).drew;refine hQ (λw'=>(w'.cell? (c_ a 0)=some (i_ 10)/\w'.cell? (c_ a 1)=some (i_ (E:Int))/\w'.cell? (c_ a 2)=some (i_ ak)/\w'.cell? (c_ a 3)=some (i_ c)/\w'.cell? (c_ a 4)=some (i_ n))/\w'.cell? (c_ gx (4+E*2))=some (.bool (x.sr E).r)/\w'.cell? (c_ gx (4+E*2+1))=some (i_ (x.sr E).n)) 10 k_ ?_;have C:=And.intro N.drew.c5 (uZ (l.bk.drew) ha);have aS:(0:Int)<=(E:Int):=o_;have aJ:(E:Int)<16:=o_
 iterate 8 refine jW C ?_
 refine h4 8 λK H=>?_
 go_simp;clear C
 refine h5 H (rz N l.bk ha) λC=>?_
 clear H K
 refine h4 9 λK H=>?_
 go_simp;clear C
 refine h5 H (rz N l.bk ha) λC=>?_
 clear H K;refine hN k_ ?_ _;obtain⟨aH,aL,bC,D,W,aM,bB,au,aW⟩:=yH l N az #[.bool (x.sr E).r,i_ (x.sr E).n];rw[bC,D];clear bC D l N az V C;have ao:=aM.f_ 4;obtain⟨⟨g,f,d,ok⟩,hy⟩:∃y,hJ x.p n=y:=⟨_,rfl⟩;have ah:=h_ hy;clear hy
 go_upto_region 5 with(go_at_call 167;((with_reducible refine(l5 b _ gx x n W hs h0 h1).mono ?_);rw[ah.out];unfold wm;rintro e ae⟨aj,rfl,B,bJ,S⟩;have ai:=h_ bJ;clear bJ))
 have af:=aM.xg S t;have i:=bB.xg S aW;have z:=au.trans S;have a8:g.e.sm 800010:=Lt;clear W aM bB au S ao
 cases ok with
 |false=>
  have HM:Hid (P=g):=h_ (by rw[<-u.out];show(if(hJ x.p n).2.2.2=false then some (hJ x.p n).1 else(if(iF ak (hX (hJ x.p n).1 (hJ x.p n).2.1 (hJ x.p n).2.2.1).2 (x.sr E)).2≠0 then some (jk (hX (hJ x.p n).1 (hJ x.p n).2.1 (hJ x.p n).2.2.1).1 (iF ak (hX (hJ x.p n).1 (hJ x.p n).2.1 (hJ x.p n).2.2.1).2 (x.sr E)).2) else some {(ib (hX (hJ x.p n).1 (hJ x.p n).2.1 (hJ x.p n).2.2.1).1 (hJ x.p n).2.1 (hJ x.p n).2.2.1 (iF ak (hX (hJ x.p n).1 (hJ x.p n).2.1 (hJ x.p n).2.2.1).2 (x.sr E)).1)with e:={(ib (hX (hJ x.p n).1 (hJ x.p n).2.1 (hJ x.p n).2.2.1).1 (hJ x.p n).2.1 (hJ x.p n).2.2.1 (iF ak (hX (hJ x.p n).1 (hJ x.p n).2.1 (hJ x.p n).2.2.1).2 (x.sr E)).1).e with ds:=[⟨(hJ x.p n).2.1,(hJ x.p n).2.2.1,ak,x.sr E⟩]}})).getD x.p=_;rw[ah.out];rfl);exact Lr
 |true=>
  obtain⟨v,hv⟩:=mn_ ((hX aj.p f d).2);have ay:=h_ hv;clear hv
  have bX:aj.e.rs.l.length<=1000000:=by have q:=a8.rs;rw[<-ai.out]at q;exact G_ q d_
  have U:=af.f_ 0
  go_upto_region 11 with(go_at_call 118;((with_reducible refine(jQ b _ gx aj f d B bX).mono ?_);unfold mQ;rintro e T⟨O,rfl,av,aQ,Z⟩;have aV:=h_ aQ;clear aQ;rw[ay.out]))
  obtain⟨⟨j,k⟩,aP⟩:∃q,iF ak v (x.sr E)=q:=⟨_,rfl⟩;have aG:=h_ aP;clear aP;have aZ:Hid (P=if k≠0 then jk O.p k else{(ib O.p f d j)with e:={(ib O.p f d j).e with ds:=[⟨f,d,ak,x.sr E⟩]}}):=h_ (by rw[<-u.out];show(if(hJ x.p n).2.2.2=false then some (hJ x.p n).1 else(if(iF ak (hX (hJ x.p n).1 (hJ x.p n).2.1 (hJ x.p n).2.2.1).2 (x.sr E)).2≠0 then some (jk (hX (hJ x.p n).1 (hJ x.p n).2.1 (hJ x.p n).2.2.1).1 (iF ak (hX (hJ x.p n).1 (hJ x.p n).2.1 (hJ x.p n).2.2.1).2 (x.sr E)).2) else some {(ib (hX (hJ x.p n).1 (hJ x.p n).2.1 (hJ x.p n).2.2.1).1 (hJ x.p n).2.1 (hJ x.p n).2.2.1 (iF ak (hX (hJ x.p n).1 (hJ x.p n).2.1 (hJ x.p n).2.2.1).2 (x.sr E)).1)with e:={(ib (hX (hJ x.p n).1 (hJ x.p n).2.1 (hJ x.p n).2.2.1).1 (hJ x.p n).2.1 (hJ x.p n).2.2.1 (iF ak (hX (hJ x.p n).1 (hJ x.p n).2.1 (hJ x.p n).2.2.1).2 (x.sr E)).1).e with ds:=[⟨(hJ x.p n).2.1,(hJ x.p n).2.2.1,ak,x.sr E⟩]}})).getD x.p=_;rw[ah.out];show((if(iF ak (hX g f d).2 (x.sr E)).2≠0 then some (jk (hX g f d).1 (iF ak (hX g f d).2 (x.sr E)).2) else some {(ib (hX g f d).1 f d (iF ak (hX g f d).2 (x.sr E)).1)with e:={(ib (hX g f d).1 f d (iF ak (hX g f d).2 (x.sr E)).1).e with ds:=[⟨f,d,ak,x.sr E⟩]}})).getD x.p=_;rw[<-ai.out,ay.out,<-aV.out,aG.out];show(if k≠0 then some (jk O.p k) else _).getD x.p=_;split<;>rfl)
  have bo:O.p.e.sm 900000:=by
   have q:=kc a8 f d;rw[<-ai.out,<-aV.out]at q;exact q.mono d_
  have aE:=(af.xg Z t).alloc (.cells #[.bool v.r,i_ v.n] 38);have aC:=(i.xg Z aW).alloc (.cells #[.bool v.r,i_ v.n] 38);have a7:=av.hG ((F_ [] T).alloc (.cells #[.bool v.r,i_ v.n] 38));have aq:=P_ T 38 #[.bool v.r,i_ v.n];have bi:=(z.trans Z).hG ((F_ [] T).alloc (.cells #[.bool v.r,i_ v.n] 38));clear U ay aV u ah;obtain⟨o,bG⟩:=nm_ (T.alloc (.cells #[.bool v.r,i_ v.n] 38));rw[<-bG]at aE aC a7 aq bi |-;clear bG;clear av Z B z af i;generalize T.heap.size=I at*;have U:=aE.f_ 0;have ar:=aE.f_ 2;have v0:=aC.f_ 0;have v1:=aC.f_ 1;have aw:=aq.f_ 0;have J:=aq.f_ 1
  go_upto_region 16 with(go_at_call 164;((with_reducible refine(mD ak v (x.sr E) _).mono ?_);unfold qi;rintro e ax⟨rfl,aB⟩;rw[aG.out]))
  have Q:=aB.alloc (.cells #[.bool j.r,i_ j.n] 38);have aY:=a7.hG Q;have aX:=aE.hG Q;have bg:=aC.hG Q;have ad:=P_ ax 38 #[.bool j.r,i_ j.n];have ap:=bi.hG Q;clear U ar v0 v1 aw J aG;obtain⟨aR,bl⟩:=nm_ (ax.alloc (.cells #[.bool j.r,i_ j.n] 38));rw[<-bl]at aX bg aY ad ap Q |-;clear bl;clear a7 bi aE aC Q
  have bp:ax.heap.size≠gx:=by have:=aB.size;have:=aY.lt;have:=aY.gr.size;intro he;have bL:=Bk.lZ ad aY.bk d_;exact bL he
  generalize ax.heap.size=gq at*
  by_cases hz:k=0
  .have HM:Hid (P={(ib O.p f d j)with e:={(ib O.p f d j).e with ds:=[⟨f,d,ak,x.sr E⟩]}}):=h_ (by rw[aZ.out,Q_ (by simp[hz])]);have q:(k !=0)=false:=zu hz;clear hz aZ;have b7:O.e.ws.l.length<=1000000:=G_ bo.ws d_;have bj:=ad.f_ 0;have bn:=ad.f_ 1
   go_upto_region 20 with(go_at_call 163;((with_reducible refine(j3 b _ gx O f d j aY b7).mono ?_);unfold kP;rintro e aD⟨aF,rfl,m,bE,aN⟩;have bM:=h_ bE;clear bE))
   have a2:=aX.xg aN t;have be:=bg.xg aN aW;have h:=ap.trans aN;have ar:=a2.f_ 2;have v0:=be.f_ 0;have v1:=be.f_ 1;obtain⟨hA,aU⟩:=DO aD 124 #[i_ f,i_ d,i_ ak,.bool (x.sr E).r,i_ (x.sr E).n];have am:=m.hG aU;have bq:(aD.alloc (.cells #[i_ f,i_ d,i_ ak,.bool (x.sr E).r,i_ (x.sr E).n] 124)).cell? (c_ gx 75)=some (.slice aF.e.ds.A aF.e.ds.l.length aF.e.ds.c):=(am.bk.f_ 75).trans rfl;have a6:=am.bk.hH 75;go_wp2;go_ret;have M:=(F_ [gx] (aD.alloc (.cells #[i_ f,i_ d,i_ ak,.bool (x.sr E).r,i_ (x.sr E).n] 124))).setCell (p:=(c_ gx 75)) (.inl s_) (.slice (j_ aD.heap.size) 1 1);have aO:Bk ((aD.alloc (.cells #[i_ f,i_ d,i_ ak,.bool (x.sr E).r,i_ (x.sr E).n] 124)).setCell (c_ gx 75) (.slice (j_ aD.heap.size) 1 1)) gx 186 ({aF with e:={aF.e with ds:=⟨some (c_ aD.heap.size 0),1,[⟨f,d,ak,x.sr E⟩]⟩}}:X1).g_:=am.bk.hW 75 (.slice (j_ aD.heap.size) 1 1);have aT:Ds (aD.alloc (.cells #[i_ f,i_ d,i_ ak,.bool (x.sr E).r,i_ (x.sr E).n] 124)) (j_ aD.heap.size) [⟨f,d,ak,x.sr E⟩]:=kN (s:=5) hA rfl;rw[HM.out];exact⟨_,rfl,am.Bc (x':=({aF with e:={aF.e with ds:=⟨some (c_ aD.heap.size 0),1,[⟨f,d,ak,x.sr E⟩]⟩}}:X1)) M aO rfl rfl rfl rfl am.nw am.nr aT am.h7 am.sY (H_ 1) am.pE,ED (λy:XP=>({y with e:={y.e with ds:=[⟨f,d,ak,x.sr E⟩]}}:XP)) bM.out,(h.hG aU).iu M⟩
  .have HM:Hid (P=jk O.p k):=h_ (by rw[aZ.out,T_ hz]);have q:(k !=0)=true:=zu hz;clear hz aZ
   go_wp2_with (go_at_call 165;((with_reducible refine(kV b _ gx O k aY bo).mono ?_);unfold kP;rintro e X⟨aI,rfl,ag,F,G⟩;have Y:=h_ F;clear F))
   go_ret;rw[HM.out];exact⟨aI,rfl,ag,Y.out,ap.trans G⟩
theorem oC{x:XP}{i:In}(h:i.op=8∨i.op=9∨i.op=10∨i.op=20):(kK x i).isSome=true:=by
 unfold kK;rw[Q_ o_];dsimp only
 repeat' split
 all_goals rfl
theorem sy(L:kq b w gx x)(hs:x.p.e.sm 800000)(ad:0<=i.a)(aT:i.a<16)(hn:i.op=8∨i.op=9∨i.op=10∨i.op=20->0<=i.n/\i.n<=1000000):
 Calls prog 120 #[q_ gx,.agg #[i_ i.op,i_ i.a,i_ i.b,i_ i.c,i_ i.n]] w (lu ((kK x.p i).getD x.p) (kK x.p i).isSome b gx w):=by
 obtain⟨op,V,ak,c,n⟩:=i;simp only at ad aT hn |-;obtain⟨E,rfl⟩:∃k:Nat,V=k:=⟨V.toNat,o_⟩;have j:E<16:=o_
 by_cases bL:op=8
 .subst bL;have h:=hn d_;rw[oC s_];exact vars_8 b w gx x E ak c n L j hs h.1 h.2
 by_cases aM:op=9
 .subst aM;have h:=hn d_;rw[oC s_];exact vars_9 b w gx x E ak c n L j hs h.1 h.2
 by_cases h10:op=10
 .subst h10;have h:=hn d_;rw[oC s_];exact vars_10 b w gx x E ak c n L j hs h.1 h.2
 by_cases d:op=20
 .subst d;have h:=hn d_;rw[oC s_];exact vars_20 b w gx x E ak c n L j hs h.1 h.2
 have e:kK x.p ⟨op,E,ak,c,n⟩=none:=by
  unfold kK;exact T_ ⟨bL,aM,h10,d⟩
 rw[e];exact Bb b w gx x op E ak c n L ⟨bL,aM,h10,d⟩
theorem rest_17(n:Int)(L:kq b w gx x)(ha:E<16)(hs:x.p.e.sm 800000):
 Calls prog 121 #[q_ gx,.agg #[i_ 17,i_ (E:Int),i_ ak,i_ c,i_ n]] w (kP (.tuple #[]) (j2 x.p ⟨17,E,ak,c,n⟩) b gx w):=by
 obtain⟨R,a,aK,A,l,N,az,t⟩:=rR L #[i_ 17,i_ (E:Int),i_ ak,i_ c,i_ n]
 go_enter func121,ntmps121
 go_upto_region 1 with fail
 clear aK A;have U:=N.f_ 0;have V:Gr [] R R.drew:=(F_ [] R).drew;refine hQ (λw'=>(w'.cell? (c_ a 0)=some (i_ 17)/\w'.cell? (c_ a 1)=some (i_ (E:Int))/\w'.cell? (c_ a 2)=some (i_ ak)/\w'.cell? (c_ a 3)=some (i_ c)/\w'.cell? (c_ a 4)=some (i_ n))/\w'.cell? (c_ gx (4+E*2))=some (.bool (x.sr E).r)/\w'.cell? (c_ gx (4+E*2+1))=some (i_ (x.sr E).n)) 10 k_ ?_;have C:=And.intro N.drew.c5 (uZ (l.bk.drew) ha);have aS:(0:Int)<=(E:Int):=o_;have aJ:(E:Int)<16:=o_
 iterate 8 refine jW C ?_
 refine h4 8 λK H=>?_
 go_simp;clear C
 refine h5 H (rz N l.bk ha) λC=>?_
 clear H K
 refine h4 9 λK H=>?_
 go_simp;clear C
 refine h5 H (rz N l.bk ha) λC=>?_
 clear H K;refine hN k_ ?_ _;obtain⟨aH,aL,bC,D,W,aM,bB,au,aW⟩:=yH l N az #[.bool (x.sr E).r,i_ (x.sr E).n];rw[bC,D];clear bC D l N az V C;have U:=aM.f_ 0
 go_upto_region 40 with(go_at_call 161;((with_reducible refine(mN b _ gx x W (G_ hs.rs d_)).mono ?_);unfold uu;rintro e ae⟨aj,rfl,B,bJ,S⟩;have ai:=h_ bJ;clear bJ))
 obtain⟨f,aR⟩:=mn_ ((hU x.p).2.1);rw[aR];have aC:=h_ aR;clear aR;have a8:=lS hs;rw[<-ai.out]at a8;have bX:aj.e.ws.l.length<=1000000:=G_ a8.ws d_;have af:=aM.xg S t;have ao:=af.f_ 4;clear U
 go_wp2_with (go_at_call 163;((with_reducible refine(j3 b _ gx aj f 2 ⟨false,n⟩ B bX).mono ?_);unfold kP;rintro e T⟨O,rfl,av,aQ,Z⟩;have aV:=h_ aQ;clear aQ))
 refine en_ ?_;exact⟨O,rfl,av,by rw[aV.out,ai.out,<-aC.out];rfl,(au.trans S).trans Z⟩
theorem rest_5(n:Int)(L:kq b w gx x)(ha:E<16)(hb:d<16)(hs:x.p.e.sm 800000):
 Calls prog 121 #[q_ gx,.agg #[i_ 5,i_ (E:Int),i_ (d:Int),i_ c,i_ n]] w (kP (.tuple #[]) (j2 x.p ⟨5,E,d,c,n⟩) b gx w):=by
 obtain⟨P,hP⟩:=mn_ (j2 x.p ⟨5,E,d,c,n⟩);rw[hP];have u:=h_ hP;clear hP;obtain⟨R,a,aK,A,l,N,az,t⟩:=rR L #[i_ 5,i_ (E:Int),i_ (d:Int),i_ c,i_ n]
 go_enter func121,ntmps121
 go_upto_region 1 with fail
 clear aK A;have U:=N.f_ 0;have V:Gr [] R R.drew:=(F_ [] R).drew;refine hQ (λw'=>(w'.cell? (c_ a 0)=some (i_ 5)/\w'.cell? (c_ a 1)=some (i_ (E:Int))/\w'.cell? (c_ a 2)=some (i_ (d:Int))/\w'.cell? (c_ a 3)=some (i_ c)/\w'.cell? (c_ a 4)=some (i_ n))/\w'.cell? (c_ gx (4+E*2))=some (.bool (x.sr E).r)/\w'.cell? (c_ gx (4+E*2+1))=some (i_ (x.sr E).n)) 10 k_ ?_;have C:=And.intro N.drew.c5 (uZ (l.bk.drew) ha);have aS:(0:Int)<=(E:Int):=o_;have aJ:(E:Int)<16:=o_
 iterate 8 refine jW C ?_
 refine h4 8 λK H=>?_
 go_simp;clear C
 refine h5 H (rz N l.bk ha) λC=>?_
 clear H K
 refine h4 9 λK H=>?_
 go_simp;clear C
 refine h5 H (rz N l.bk ha) λC=>?_
 clear H K;refine hN k_ ?_ _;obtain⟨aH,aL,bC,D,W,aM,bB,au,aW⟩:=yH l N az #[.bool (x.sr E).r,i_ (x.sr E).n];rw[bC,D];clear bC D l N az V C;have U:=aM.f_ 0
 go_upto_region 4 with fail
 clear U;obtain⟨⟨g,id,ok⟩,hy⟩:∃y,iz x.p (x.sr d) n=y:=⟨_,rfl⟩;have ah:=h_ hy;clear hy;have j:Gr [] aH aH.drew:=(F_ [] aH).drew;refine hQ (λw'=>(w'.cell? (c_ a 0)=some (i_ 5)/\w'.cell? (c_ a 1)=some (i_ (E:Int))/\w'.cell? (c_ a 2)=some (i_ (d:Int))/\w'.cell? (c_ a 3)=some (i_ c)/\w'.cell? (c_ a 4)=some (i_ n))/\w'.cell? (c_ gx (4+d*2))=some (.bool (x.sr d).r)/\w'.cell? (c_ gx (4+d*2+1))=some (i_ (x.sr d).n)) 17 k_ ?_;have C:=And.intro aM.drew.c5 (uZ (W.bk.drew) hb);have aG:(0:Int)<=(d:Int):=o_;have bQ:(d:Int)<16:=o_;have f:=W.hG j
 iterate 11 refine jW C ?_
 refine h4 11 λK H=>?_
 go_simp
 (go_at_call 168;((with_reducible refine(qz b _ gx x (x.sr d) n f hs).mono ?_);rw[ah.out];unfold AZ;rintro e ae⟨aj,rfl,B,bJ,S⟩;have ai:=h_ bJ;clear bJ))
 have k:aj.sr=x.sr:=Kg;have S:XG gx aH ae:=((XG.refl gx aH).hG j).trans S;have af:=aM.xg S t;clear C
 refine h5 H ⟨af.c5,by rw[<-k];exact(uZ (B.bk) hb)⟩ λC=>?_
 clear H K
 (iterate 5 refine jW C ?_)
 refine hN k_ ?_ _;have i:=bB.xg S aW;have z:=au.trans S
 have a8:g.e.sm 800010:=by
  have q:=p3 hs (x.sr d) n;rw[ah.out]at q;exact q.mono d_
 clear f W aM bB au S C j;replace ai:Hid (aj.p=g):=ai
 cases ok with
 |false=>
  have HM:Hid (P=g):=h_ (by rw[<-u.out];show(if(iz x.p (x.sr d) n).2.2=true then kW (hX (iz x.p (x.sr d) n).1 (iz x.p (x.sr d) n).2.1 n).1 E (hX (iz x.p (x.sr d) n).1 (iz x.p (x.sr d) n).2.1 n).2 else(iz x.p (x.sr d) n).1)=_;rw[ah.out];rfl);go_wp2;refine en_ ?_;exact Lz
 |true=>
  obtain⟨v,hv⟩:=mn_ ((hX aj.p id n).2);have ay:=h_ hv;clear hv
  have bX:aj.e.rs.l.length<=1000000:=by have q:=a8.rs;rw[<-ai.out]at q;exact G_ q d_
  have aZ:Hid (P=kW (hX aj.p id n).1 E v):=h_ (by rw[<-u.out];show(if(iz x.p (x.sr d) n).2.2=true then kW (hX (iz x.p (x.sr d) n).1 (iz x.p (x.sr d) n).2.1 n).1 E (hX (iz x.p (x.sr d) n).1 (iz x.p (x.sr d) n).2.1 n).2 else(iz x.p (x.sr d) n).1)=_;rw[ah.out];show kW (hX g id n).1 E (hX g id n).2=_;rw[<-ai.out,ay.out]);clear u ah
  go_upto_region 6 with fail
  have j:Gr [] ae ae.drew:=(F_ [] ae).drew;have m:=B.hG j;refine hQ (λw'=>w'.cell? (c_ a 0)=some (i_ 5)/\w'.cell? (c_ a 1)=some (i_ (E:Int))/\w'.cell? (c_ a 2)=some (i_ (d:Int))/\w'.cell? (c_ a 3)=some (i_ c)/\w'.cell? (c_ a 4)=some (i_ n)) 13 k_ ?_
  refine nt af.drew.c5 λC=>?_
  refine iP 0 C ?_;refine iP 1 C ?_;refine iP 2 C ?_;refine iP 3 C ?_;refine iP 4 C ?_;refine iP 5 C ?_;refine iP 6 C ?_;refine iP 8 C ?_;refine iP 9 C ?_;refine iP 10 C ?_;refine iP 11 C ?_
  refine h4 7 λK H=>?_
  go_simp
  (go_at_call 118;((with_reducible refine(jQ b _ gx aj id n m bX).mono ?_);unfold mQ;rintro e T⟨O,rfl,av,aQ,Z⟩;have aV:=h_ aQ;clear aQ;rw[ay.out]))
  have Z:XG gx ae T:=((XG.refl gx ae).hG j).trans Z;have aE:=af.xg Z t;clear C
  refine h5 H aE.c5 λC=>?_
  clear H K;refine iP 12 C ?_;have bj:T.cell? (c_ gx (40+E*2))=some (.bool (O.e.r E).r):=(av.bk.f_ _).trans (kd O E ha).1;have bn:T.cell? (c_ gx (40+E*2+1))=some (i_ (O.e.r E).n):=(av.bk.f_ _).trans (kd O E ha).2;have br:=av.bk.hH (40+E*2);have bH:=av.bk.hH (40+E*2+1)
  refine h4 13 λK H=>?_
  go_simp
  have aO:Bk ((T.setCell (c_ gx (40+E*2)) (.bool v.r)).setCell (c_ gx (40+E*2+1)) (i_ v.n)) gx 186 (({O with e:={O.e with r:=q2 O.e.r E v}}:X1)).g_:=by rw[<-mm O v E ha];exact(av.bk.hW (40+E*2) (.bool v.r)).hW (40+E*2+1) (i_ v.n)
  have M:Gr [gx] T ((T.setCell (c_ gx (40+E*2)) (.bool v.r)).setCell (c_ gx (40+E*2+1)) (i_ v.n)):=(((F_ [gx] T).setCell (p:=(c_ gx (40+E*2))) (.inl s_) (.bool v.r)).setCell (p:=(c_ gx (40+E*2+1))) (.inl s_) (i_ v.n));refine H.out _ _ (λh=>EK h d_) ?_;clear H K
  try simp only[a_]
  refine hN k_ ?_ _;go_wp2;refine en_ ?_;rw[aZ.out,<-aV.out];exact⟨_,rfl,av.rP M aO rfl rfl rfl rfl rfl rfl rfl,rfl,(z.trans Z).iu M⟩
theorem rest_6(n:Int)(L:kq b w gx x)(ha:E<16)(hb:d<16)(hs:x.p.e.sm 800000):
 Calls prog 121 #[q_ gx,.agg #[i_ 6,i_ (E:Int),i_ (d:Int),i_ c,i_ n]] w (kP (.tuple #[]) (j2 x.p ⟨6,E,d,c,n⟩) b gx w):=by
 obtain⟨P,hP⟩:=mn_ (j2 x.p ⟨6,E,d,c,n⟩);rw[hP];have u:=h_ hP;clear hP;obtain⟨R,a,aK,A,l,N,az,t⟩:=rR L #[i_ 6,i_ (E:Int),i_ (d:Int),i_ c,i_ n]
 go_enter func121,ntmps121
 go_upto_region 1 with fail
 clear aK A;have U:=N.f_ 0;have V:Gr [] R R.drew:=(F_ [] R).drew;refine hQ (λw'=>(w'.cell? (c_ a 0)=some (i_ 6)/\w'.cell? (c_ a 1)=some (i_ (E:Int))/\w'.cell? (c_ a 2)=some (i_ (d:Int))/\w'.cell? (c_ a 3)=some (i_ c)/\w'.cell? (c_ a 4)=some (i_ n))/\w'.cell? (c_ gx (4+E*2))=some (.bool (x.sr E).r)/\w'.cell? (c_ gx (4+E*2+1))=some (i_ (x.sr E).n)) 10 k_ ?_;have C:=And.intro N.drew.c5 (uZ (l.bk.drew) ha);have aS:(0:Int)<=(E:Int):=o_;have aJ:(E:Int)<16:=o_
 iterate 8 refine jW C ?_
 refine h4 8 λK H=>?_
 go_simp;clear C
 refine h5 H (rz N l.bk ha) λC=>?_
 clear H K
 refine h4 9 λK H=>?_
 go_simp;clear C
 refine h5 H (rz N l.bk ha) λC=>?_
 clear H K;refine hN k_ ?_ _;obtain⟨aH,aL,bC,D,W,aM,bB,au,aW⟩:=yH l N az #[.bool (x.sr E).r,i_ (x.sr E).n];rw[bC,D];clear bC D l N az V C;have U:=aM.f_ 0
 go_upto_region 8 with fail
 clear U;obtain⟨⟨g,id,ok⟩,hy⟩:∃y,iz x.p (x.sr d) n=y:=⟨_,rfl⟩;have ah:=h_ hy;clear hy;have j:Gr [] aH aH.drew:=(F_ [] aH).drew;refine hQ (λw'=>(w'.cell? (c_ a 0)=some (i_ 6)/\w'.cell? (c_ a 1)=some (i_ (E:Int))/\w'.cell? (c_ a 2)=some (i_ (d:Int))/\w'.cell? (c_ a 3)=some (i_ c)/\w'.cell? (c_ a 4)=some (i_ n))/\w'.cell? (c_ gx (4+d*2))=some (.bool (x.sr d).r)/\w'.cell? (c_ gx (4+d*2+1))=some (i_ (x.sr d).n)) 17 k_ ?_;have C:=And.intro aM.drew.c5 (uZ (W.bk.drew) hb);have aG:(0:Int)<=(d:Int):=o_;have bQ:(d:Int)<16:=o_;have f:=W.hG j
 iterate 11 refine jW C ?_
 refine h4 11 λK H=>?_
 go_simp
 (go_at_call 168;((with_reducible refine(qz b _ gx x (x.sr d) n f hs).mono ?_);rw[ah.out];unfold AZ;rintro e ae⟨aj,rfl,B,bJ,S⟩;have ai:=h_ bJ;clear bJ))
 have k:aj.sr=x.sr:=Kg;have S:XG gx aH ae:=((XG.refl gx aH).hG j).trans S;have af:=aM.xg S t;clear C
 refine h5 H ⟨af.c5,by rw[<-k];exact(uZ (B.bk) hb)⟩ λC=>?_
 clear H K
 (iterate 5 refine jW C ?_)
 refine hN k_ ?_ _;have i:=bB.xg S aW;have z:=au.trans S
 have a8:g.e.sm 800010:=by
  have q:=p3 hs (x.sr d) n;rw[ah.out]at q;exact q.mono d_
 clear f W aM bB au S C j;replace ai:Hid (aj.p=g):=ai
 cases ok with
 |false=>
  have HM:Hid (P=g):=h_ (by rw[<-u.out];show(if(iz x.p (x.sr d) n).2.2=true then ib (iz x.p (x.sr d) n).1 (iz x.p (x.sr d) n).2.1 n (x.sr E) else(iz x.p (x.sr d) n).1)=_;rw[ah.out];rfl);go_wp2;refine en_ ?_;exact Lz
 |true=>
  have bX:aj.e.ws.l.length<=1000000:=by have q:=a8.ws;rw[<-ai.out]at q;exact G_ q d_
  have aZ:Hid (P=ib aj.p id n (x.sr E)):=h_ (by rw[<-u.out];show(if(iz x.p (x.sr d) n).2.2=true then ib (iz x.p (x.sr d) n).1 (iz x.p (x.sr d) n).2.1 n (x.sr E) else(iz x.p (x.sr d) n).1)=_;rw[ah.out];show ib g id n (x.sr E)=_;rw[<-ai.out]);clear u ah;have v0:=i.f_ 0;have v1:=i.f_ 1;have ao:=af.f_ 4
  go_wp2_with (go_at_call 163;((with_reducible refine(j3 b _ gx aj id n (x.sr E) B bX).mono ?_);unfold kP;rintro e T⟨O,rfl,av,aQ,Z⟩;have aV:=h_ aQ;clear aQ))
  refine en_ ?_;rw[aZ.out,<-aV.out];exact⟨O,rfl,av,rfl,z.trans Z⟩
theorem rest_7(n:Int)(L:kq b w gx x)(ha:E<16)(h0:0<=n)(h1:n<=1000000):
 Calls prog 121 #[q_ gx,.agg #[i_ 7,i_ (E:Int),i_ ak,i_ c,i_ n]] w (kP (.tuple #[]) (j2 x.p ⟨7,E,ak,c,n⟩) b gx w):=by
 obtain⟨R,a,aK,A,l,N,az,t⟩:=rR L #[i_ 7,i_ (E:Int),i_ ak,i_ c,i_ n]
 go_enter func121,ntmps121
 go_upto_region 1 with fail
 clear aK A;have U:=N.f_ 0;have V:Gr [] R R.drew:=(F_ [] R).drew;refine hQ (λw'=>(w'.cell? (c_ a 0)=some (i_ 7)/\w'.cell? (c_ a 1)=some (i_ (E:Int))/\w'.cell? (c_ a 2)=some (i_ ak)/\w'.cell? (c_ a 3)=some (i_ c)/\w'.cell? (c_ a 4)=some (i_ n))/\w'.cell? (c_ gx (4+E*2))=some (.bool (x.sr E).r)/\w'.cell? (c_ gx (4+E*2+1))=some (i_ (x.sr E).n)) 10 k_ ?_;have C:=And.intro N.drew.c5 (uZ (l.bk.drew) ha);have aS:(0:Int)<=(E:Int):=o_;have aJ:(E:Int)<16:=o_
 iterate 8 refine jW C ?_
 refine h4 8 λK H=>?_
 go_simp;clear C
 refine h5 H (rz N l.bk ha) λC=>?_
 clear H K
 refine h4 9 λK H=>?_
 go_simp;clear C
 refine h5 H (rz N l.bk ha) λC=>?_
 clear H K;refine hN k_ ?_ _;obtain⟨aH,aL,bC,D,W,aM,bB,au,aW⟩:=yH l N az #[.bool (x.sr E).r,i_ (x.sr E).n];rw[bC,D];clear bC D l N az V C;have U:=aM.f_ 0
 go_upto_region 12 with fail
 clear U;obtain⟨ap,P,ax,F,ay⟩:=info_parts infoVl;have j:Gr [] aH aH.drew:=(F_ [] aH).drew;refine hQ (λw'=>(w'.cell? (c_ a 0)=some (i_ 7)/\w'.cell? (c_ a 1)=some (i_ (E:Int))/\w'.cell? (c_ a 2)=some (i_ ak)/\w'.cell? (c_ a 3)=some (i_ c)/\w'.cell? (c_ a 4)=some (i_ n))/\w'.cell? (c_ gx 37)=some (i_ x.nx)) 13 k_ ?_;have B:=W.hG j;have af:=aM.hG j;have z:=au.hG j;clear W aM bB au j;obtain⟨am,cf⟩:=nm_ aH.drew;rw[<-cf]at B af z |-;clear cf
 refine nt ⟨af.c5,(B.bk.f_ 37).trans rfl⟩ λC=>?_
 iterate 7 refine jW C ?_
 refine h4 7 λK H=>?_
 refine t2 rfl _ _ _ rfl 38 ap _ 2 16 underlying54 P ax F ay .i64 .i64 n r_ r_ h0 o_ o_ ?_;have bO:Gr [] am (am.alloc (.cells (madeCells #[.bool false,i_ 0] (n.toNat*2)) 38)):=(F_ [] am).alloc _;have bN:Vs (am.alloc (.cells (madeCells #[.bool false,i_ 0] (n.toNat*2)) 38)) (j_ am.heap.size) (List.replicate n.toNat default):=Ba am n.toNat;have av:=B.hG bO;have aE:=af.hG bO;have k:=z.hG bO;obtain⟨Q,f⟩:=nm_ (am.alloc (.cells (madeCells #[.bool false,i_ 0] (n.toNat*2)) 38));have m:am.alloc (.cells (madeCells (Value.cells (.agg #[.bool false,i_ 0])) (n.toNat*2)) 38)=Q:=f.symm;rw[<-f]at bN av aE k;rw[m];clear f m bO B af z;generalize am.heap.size=d at*;clear C
 refine h5 H ⟨aE.c5,(av.bk.f_ 37).trans rfl⟩ λC=>?_
 clear H K;refine iP 8 C ?_
 refine h4 9 λK H=>?_
 go_simp;obtain⟨aq,bO⟩:=DO Q 56 #[i_ x.nx,.slice (j_ d) n.toNat n.toNat];have a7:=av.hG bO;have s:=aE.hG bO;have bi:=k.hG bO;have X:=bN.hG bO;clear C
 refine h5 H ⟨s.c5,(a7.bk.f_ 37).trans rfl⟩ λC=>?_
 clear H K;clear av aE k bN;obtain⟨bl,bU⟩:=nm_ (Q.alloc (.cells #[i_ x.nx,.slice (j_ d) n.toNat n.toNat] 56));rw[<-bU]at aq a7 s bi X C |-;clear bU;clear bO;generalize Q.heap.size=i at*
 (iterate 3 refine jW C ?_)
 have J:bl.cell? (c_ gx 74)=some (.slice x.e.nw.A x.e.nw.l.length x.e.nw.c):=(a7.bk.f_ 74).trans rfl;have G:=a7.bk.hH 74;have M:=(F_ [gx] bl).setCell (p:=(c_ gx 74)) (.inl s_) (.slice (j_ i) 1 1);have aO:Bk (bl.setCell (c_ gx 74) (.slice (j_ i) 1 1)) gx 186 ({x with e:={x.e with nw:=⟨some (c_ i 0),1,[⟨⟨x.nx,List.replicate n.toNat default⟩,some (c_ d 0),n.toNat⟩]⟩}}:X1).g_:=a7.bk.hW 74 (.slice (j_ i) 1 1)
 have g:Os bl (j_ i) [⟨⟨x.nx,List.replicate n.toNat default⟩,some (c_ d 0),n.toNat⟩]:=by
  have q:=AR (r:=⟨⟨x.nx,List.replicate n.toNat default⟩,some (c_ d 0),n.toNat⟩) (by
   show Bk bl i 56 #[i_ x.nx,.slice (j_ d) (List.replicate n.toNat (default:Vl)).length n.toNat]
   rw[Fa]
   exact aq)
  exact q
 have a2:oa bl [⟨⟨x.nx,List.replicate n.toNat default⟩,some (c_ d 0),n.toNat⟩]:=by
  intro r hr
  have:r=⟨⟨x.nx,List.replicate n.toNat default⟩,some (c_ d 0),n.toNat⟩:=zu hr
  subst this;exact⟨X,by show(List.replicate n.toNat (default:Vl)).length<=1000000000;rw[Fa];omega⟩
 have ag:=a7.Bc (x':=({x with e:={x.e with nw:=⟨some (c_ i 0),1,[⟨⟨x.nx,List.replicate n.toNat default⟩,some (c_ d 0),n.toNat⟩]⟩}}:X1)) M aO rfl rfl rfl rfl g a2 a7.ds a7.h7 (H_ 1) a7.rS a7.pE;have aD:=bi.iu M;have o:=s.gr M (zu t)
 refine h4 13 λK H=>?_
 go_simp;refine H.out _ _ (λh=>EK h d_) ?_;clear H K
 try simp only[a_]
 clear C a7 s bi X aq g a2 aO J G M;obtain⟨bP,I⟩:=nm_ ({x with e:={x.e with nw:=⟨some (c_ i 0),1,[⟨⟨x.nx,List.replicate n.toNat default⟩,some (c_ d 0),n.toNat⟩]⟩}}:X1);rw[<-I]at ag;have HM:Hid ((j2 x.p ⟨7,E,ak,c,n⟩)=kW bP.p E ⟨true,bP.nx⟩):=h_ (by rw[I];rfl);clear I;obtain⟨bu,bW⟩:=nm_ (bl.setCell (c_ gx 74) (.slice (j_ i) 1 1));rw[<-bW]at ag o aD |-;clear bW;refine hN k_ ?_ _
 go_upto_region 13 with fail
 refine hQ (λw'=>(w'.cell? (c_ a 0)=some (i_ 7)/\w'.cell? (c_ a 1)=some (i_ (E:Int))/\w'.cell? (c_ a 2)=some (i_ ak)/\w'.cell? (c_ a 3)=some (i_ c)/\w'.cell? (c_ a 4)=some (i_ n))/\w'.cell? (c_ gx 37)=some (i_ bP.nx)) 13 k_ ?_;have j:Gr [] bu bu.drew:=(F_ [] bu).drew;replace ag:=ag.hG j;replace o:=o.hG j;replace aD:=aD.hG j;clear j;obtain⟨bz,y⟩:=nm_ bu.drew;rw[<-y]at ag o aD |-;clear y
 refine nt ⟨o.c5,(ag.bk.f_ 37).trans rfl⟩ λC=>?_
 (iterate 13 refine jW C ?_)
 have bj:bz.cell? (c_ gx (40+E*2))=some (.bool (bP.e.r E).r):=(ag.bk.f_ _).trans (kd bP E ha).1;have bn:bz.cell? (c_ gx (40+E*2+1))=some (i_ (bP.e.r E).n):=(ag.bk.f_ _).trans (kd bP E ha).2;have br:=ag.bk.hH (40+E*2);have bH:=ag.bk.hH (40+E*2+1)
 refine h4 13 λK H=>?_
 go_simp
 have aO:Bk ((bz.setCell (c_ gx (40+E*2)) (.bool true)).setCell (c_ gx (40+E*2+1)) (i_ bP.nx)) gx 186 ({bP with e:={bP.e with r:=q2 bP.e.r E ⟨true,bP.nx⟩}}:X1).g_:=by rw[<-mm bP ⟨true,bP.nx⟩ E ha];exact(ag.bk.hW (40+E*2) (.bool true)).hW (40+E*2+1) (i_ bP.nx)
 have M:Gr [gx] bz ((bz.setCell (c_ gx (40+E*2)) (.bool true)).setCell (c_ gx (40+E*2+1)) (i_ bP.nx)):=(((F_ [gx] bz).setCell (p:=(c_ gx (40+E*2))) (.inl s_) (.bool true)).setCell (p:=(c_ gx (40+E*2+1))) (.inl s_) (i_ bP.nx));refine H.out _ _ (λh=>EK h d_) ?_;clear H K
 try simp only[a_]
 refine hN k_ ?_ _;go_wp2;refine en_ ?_;rw[HM.out];exact⟨_,rfl,ag.rP M aO rfl rfl rfl rfl rfl rfl rfl,rfl,aD.iu M⟩
end Go.Proofs.YtenbhdilndfaeaaGreat
