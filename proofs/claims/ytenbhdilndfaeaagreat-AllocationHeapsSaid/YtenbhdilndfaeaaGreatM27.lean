import Derived.Test.YtenbhdilndfaeaaGreatM25
import Derived.Test.YtenbhdilndfaeaaGreatM26
set_option maxRecDepth 100000
set_option maxHeartbeats 0
set_option linter.all false
namespace Go.Proofs.YtenbhdilndfaeaaGreat
open Go.RowKit Go.Proofs.Tryz
variable{G:Prop}(b w:World)(gx:Nat)(x:X1)(E:Nat)(X c:Int)
theorem Gh(h:G:=by
 refine kH rfl _ _ _ _ rfl _ _ _ r_ r_ r_ bD ?_;have f:Gr [] J bn:=pm o aK (G_ _);clear C
 refine hS H (ak.g_ f).c5 λC=>?_
 clear H K
 refine hQ 7 λK H=>?_
 go_simp
 refine hS H C λC=>?_
 clear H K
 refine hQ 10 λK H=>?_
 have aQ:(Instr.lookup 263 (.map (some J.heap.size)) (i_ 15) false).run prog bn=.ok (i_ 1) bn:=dx.lookup (show(Lit.int .i64 15).wf=true by decide);refine nH rfl _ _ _ _ rfl _ _ r_ r_ aQ ?_;clear aQ
 refine hS H C λC=>?_
 clear H K;have q:=B.g_ f;have y:=l.g_ f;have s:=ak.g_ f;clear C i dx bD k W aI o aK f B ak l
 refine hQ 11 λK H=>?_
 go_simp
 (go_at_call 118;((with_reducible refine(jD b _ gx ao 1 1 q bX).mono ?_);unfold mF;rintro e T⟨aq,rfl,aj,aS,af⟩;have bf:=h_ aS;clear aS;rw[aB.out]))
 exact Gm):G:=h
theorem Gi(h:G:=by
 refine kH rfl _ _ _ _ rfl _ _ _ r_ r_ r_ bD ?_;have f:Gr [] J bn:=pm o aK (G_ _);clear C
 refine hS H (ak.g_ f).c5 λC=>?_
 clear H K
 refine hQ 7 λK H=>?_
 go_simp
 refine hS H C λC=>?_
 clear H K
 refine hQ 10 λK H=>?_
 have aQ:(Instr.lookup 263 (.map (some J.heap.size)) (i_ 18) false).run prog bn=.ok (i_ 2) bn:=dx.lookup (show(Lit.int .i64 18).wf=true by decide);refine nH rfl _ _ _ _ rfl _ _ r_ r_ aQ ?_;clear aQ
 refine hS H C λC=>?_
 clear H K;have q:=B.g_ f;have y:=l.g_ f;have s:=ak.g_ f;clear C i dx bD k W aI o aK f B ak l
 refine hQ 11 λK H=>?_
 go_simp
 (go_at_call 118;((with_reducible refine(jD b _ gx ao 1 2 q bX).mono ?_);unfold mF;rintro e T⟨aq,rfl,aj,aS,af⟩;have bf:=h_ aS;clear aS;rw[aB.out]))
 exact Gm):G:=h
theorem Gm(h:G:=by
 have aw:=s.xg af t
 refine hS H aw.c5 λC=>?_
 clear H K;refine ih 16 C ?_;have bM:T.cell? (c_ gx (40+E*2))=some (.bool (aq.e.r E).r):=(aj.bk.f_ _).trans (j7 aq E ha).1;have bp:T.cell? (c_ gx (40+E*2+1))=some (i_ (aq.e.r E).n):=(aj.bk.f_ _).trans (j7 aq E ha).2;have bB:=aj.bk.hm (40+E*2);have bH:=aj.bk.hm (40+E*2+1)
 refine hQ 17 λK H=>?_
 go_simp
 have a2:Bk ((T.setCell (c_ gx (40+E*2)) (.bool v.r)).setCell (c_ gx (40+E*2+1)) (i_ v.n)) gx 186 (({aq with e:={aq.e with r:=pV aq.e.r E v}}:X1)).g8:=by rw[<-lh aq v E ha];exact(aj.bk.hJ (40+E*2) (.bool v.r)).hJ (40+E*2+1) (i_ v.n)
 have M:Gr [gx] T ((T.setCell (c_ gx (40+E*2)) (.bool v.r)).setCell (c_ gx (40+E*2+1)) (i_ v.n)):=(((D_ [gx] T).setCell (p:=(c_ gx (40+E*2))) (.inl s_) (.bool v.r)).setCell (p:=(c_ gx (40+E*2+1))) (.inl s_) (i_ v.n));refine H.out _ _ (λh=>D6 h d_) ?_;clear H K
 try simp only[a_]
 refine hA k_ ?_ _;go_wp2;refine en_ ?_;rw[aT.out,<-bf.out];exact⟨_,rfl,aj.rI M a2 rfl rfl rfl rfl rfl rfl rfl,rfl,(y.trans af).ig M⟩):G:=h
theorem Jg(h:G:=by
 have q:=(sf x.p (x.sr d) n).sr;rw[k.out]at q
 have bI:ao.p.sr=x.p.sr:=by rw[an.out];exact q
 exact bI):G:=h
theorem Lg(h:G:=by
 rw[d]at m;clear d;go_wp2;refine en_ ?_;rw[O.out];exact⟨ao,rfl,B,rfl,l⟩):G:=h
theorem Lj(h:G:=by
 go_wp2;go_ret;exact Lm):G:=h
theorem Ki(h:G:=by
 have q:=lP hs n;rw[k.out]at q;exact q.mono d_):G:=h
theorem Lm(h:G:=by
 rw[O.out];exact⟨ao,rfl,B,an.out,l⟩):G:=h
theorem mU:∀a,a<16->x.g8[4+a*2]?=some (.bool (x.sr a).r)/\x.g8[4+a*2+1]?=some (i_ (x.sr a).n)
 |0,_=>⟨rfl,rfl⟩
 |1,_=>⟨rfl,rfl⟩
 |2,_=>⟨rfl,rfl⟩
 |3,_=>⟨rfl,rfl⟩
 |4,_=>⟨rfl,rfl⟩
 |5,_=>⟨rfl,rfl⟩
 |6,_=>⟨rfl,rfl⟩
 |7,_=>⟨rfl,rfl⟩
 |8,_=>⟨rfl,rfl⟩
 |9,_=>⟨rfl,rfl⟩
 |10,_=>⟨rfl,rfl⟩
 |11,_=>⟨rfl,rfl⟩
 |12,_=>⟨rfl,rfl⟩
 |13,_=>⟨rfl,rfl⟩
 |14,_=>⟨rfl,rfl⟩
 |15,_=>⟨rfl,rfl⟩
 |n+16,h=>D6 h o_
theorem u0{w:World}{gx k:Nat}{x:X1}(h:Bk w gx 186 x.g8)(ha:k<16):w.cell? (c_ gx (4+k*2))=some (.bool (x.sr k).r)/\w.cell? (c_ gx (4+k*2+1))=some (i_ (x.sr k).n):=⟨(h.f_ _).trans (mU x k ha).1,(h.f_ _).trans (mU x k ha).2⟩
theorem rW{w:World}{a gx k:Nat}{t:TypeId}{x:X1}{y z u v q:Value}(h:Bk w a t #[y,z,u,v,q])(L:Bk w gx 186 x.g8)(ha:k<16){o:Obj}:(((w.alloc o).drew.cell? (c_ a 0)=some y/\(w.alloc o).drew.cell? (c_ a 1)=some z/\(w.alloc o).drew.cell? (c_ a 2)=some u/\(w.alloc o).drew.cell? (c_ a 3)=some v/\(w.alloc o).drew.cell? (c_ a 4)=some q)/\(w.alloc o).drew.cell? (c_ gx (4+k*2))=some (.bool (x.sr k).r)/\(w.alloc o).drew.cell? (c_ gx (4+k*2+1))=some (i_ (x.sr k).n)):=
 ⟨(h.g_ ((D_ [] w).alloc o).drew).c5,u0 (L.g_ ((D_ [] w).alloc o).drew) ha⟩
theorem yH{b w:World}{a gx:Nat}{x:X1}{w0:World}{I:Array Value}(L:ke b w gx x)(N:Bk w a 189 I)(hg:XG gx w0 w)(v:Array Value):∃W g,(w.alloc (.cells v 38)).drew=W/\w.heap.size=g/\ke b W gx x/\Bk W a 189 I/\Bk W g 38 v/\XG gx w0 W/\g≠gx:=
 have h:=((D_ [] w).alloc (.cells v 38)).drew
 ⟨_,_,rfl,rfl,L.g_ h,N.g_ h,(L_ w 38 v).drew,hg.g_ h,by have:=L.bk.lt;omega⟩
theorem AC(op ap X c:Int)(n:Int)(L:ke b w gx x)(ho:op≠8/\op≠9/\op≠10/\op≠20):
 Calls prog 120 #[q_ gx,.agg #[i_ op,i_ ap,i_ X,i_ c,i_ n]] w (k9 x.p false b gx w):=by
 obtain⟨R,a,I,A,g,N,aH,t⟩:=rJ L #[i_ op,i_ ap,i_ X,i_ c,i_ n]
 go_enter func120,ntmps120
 go_upto_region 1 with fail
 clear I A;have Z:=N.f_ 0
 have h:(op=8)=False:=by simp;omega
 have cA:(op==8)=false:=by simp;omega
 have c3:(op !=8)=true:=by simp;omega
 have j:(op=9)=False:=by simp;omega
 have cU:(op==9)=false:=by simp;omega
 have am:(op !=9)=true:=by simp;omega
 have i:(op=10)=False:=by simp;omega
 have bp:(op==10)=false:=by simp;omega
 have f:(op !=10)=true:=by simp;omega
 have e:(op=20)=False:=by simp;omega
 have d:(op==20)=false:=by simp;omega
 have k:(op !=20)=true:=by simp;omega
 clear ho;exact Ln
theorem vars_9(n:Int)(L:ke b w gx x)(ha:E<16)(hs:x.p.e.sm 800000)(h0:0<=n)(h1:n<=1000000):
 Calls prog 120 #[q_ gx,.agg #[i_ 9,i_ (E:Int),i_ X,i_ c,i_ n]] w (k9 ((kN x.p ⟨9,E,X,c,n⟩).getD x.p) true b gx w):=by
 obtain⟨P,hP⟩:=mn_ ((kN x.p ⟨9,E,X,c,n⟩).getD x.p);rw[hP];have u:=h_ hP;clear hP;obtain⟨R,a,I,A,g,N,aH,t⟩:=rJ L #[i_ 9,i_ (E:Int),i_ X,i_ c,i_ n]
 go_enter func120,ntmps120
 go_upto_region 1 with fail
 clear I A;have Z:=N.f_ 0
 go_upto_region 3 with fail
 clear Z;have ap:Gr [] R R.drew:=(D_ [] R).drew;refine hC (λw'=>(w'.cell? (c_ a 0)=some (i_ 9)/\w'.cell? (c_ a 1)=some (i_ (E:Int))/\w'.cell? (c_ a 2)=some (i_ X)/\w'.cell? (c_ a 3)=some (i_ c)/\w'.cell? (c_ a 4)=some (i_ n))/\w'.cell? (c_ gx (4+E*2))=some (.bool (x.sr E).r)/\w'.cell? (c_ gx (4+E*2+1))=some (i_ (x.sr E).n)) 10 k_ ?_;have C:=And.intro N.drew.c5 (u0 (g.bk.drew) ha)
 have e0:(0:Int)<=(E:Int):=by omega
 have aP:(E:Int)<16:=by omega
 iterate 8 refine jR C ?_
 refine hQ 8 λK H=>?_
 go_simp;clear C
 refine hS H (rW N g.bk ha) λC=>?_
 clear H K
 refine hQ 9 λK H=>?_
 go_simp;clear C
 refine hS H (rW N g.bk ha) λC=>?_
 clear H K;refine hA k_ ?_ _;obtain⟨bh,ay,bF,fo,V,aD,bK,aM,ad⟩:=yH g N aH #[.bool (x.sr E).r,i_ (x.sr E).n];rw[bF,fo];clear bF fo g N aH ap C;have aV:=aD.f_ 4;obtain⟨⟨W,f,d,ok⟩,hy⟩:∃y,ht x.p n=y:=⟨_,rfl⟩;have k:=h_ hy;clear hy
 go_upto_region 5 with(go_at_call 167;((with_reducible refine(lQ b _ gx x n V hs h0 h1).mono ?_);rw[k.out];unfold vN;rintro e ai⟨ao,rfl,B,bO,S⟩;have an:=h_ bO;clear bO))
 have ak:=aD.xg S t;have i:=bK.xg S ad;have l:=aM.trans S;have aR:W.e.sm 800010:=Ki;clear V aD bK aM S aV
 cases ok with
 |false=>
  have O:Hid (P=W):=h_ (by rw[<-u.out];show(if(ht x.p n).2.2.2=false then some (ht x.p n).1 else some (hY (ht x.p n).1 (ht x.p n).2.1 (ht x.p n).2.2.1 (x.p.sr E))).getD x.p=W;rw[k.out];rfl);exact Lj
 |true=>
  have O:Hid (P=hY W f d (x.sr E)):=h_ (by rw[<-u.out];show(if(ht x.p n).2.2.2=false then some (ht x.p n).1 else some (hY (ht x.p n).1 (ht x.p n).2.1 (ht x.p n).2.2.1 (x.p.sr E))).getD x.p=_;rw[k.out];rfl)
  have bX:ao.e.ws.l.length<=1000000:=by have q:=aR.ws;rw[<-an.out]at q;exact F_ q d_
  have Z:=ak.f_ 0;have v0:=i.f_ 0;have v1:=i.f_ 1
  go_wp2_with (go_at_call 163;((with_reducible refine(jT b _ gx ao f d (x.sr E) B bX).mono ?_);unfold kE;rintro e T⟨aq,rfl,aj,aS,af⟩;have bf:=h_ aS;clear aS))
  go_ret;rw[O.out];exact⟨aq,rfl,aj,by rw[bf.out,an.out],l.trans af⟩
theorem vars_8(n:Int)(L:ke b w gx x)(ha:E<16)(hs:x.p.e.sm 800000)(h0:0<=n)(h1:n<=1000000):
 Calls prog 120 #[q_ gx,.agg #[i_ 8,i_ (E:Int),i_ X,i_ c,i_ n]] w (k9 ((kN x.p ⟨8,E,X,c,n⟩).getD x.p) true b gx w):=by
 obtain⟨P,hP⟩:=mn_ ((kN x.p ⟨8,E,X,c,n⟩).getD x.p);rw[hP];have u:=h_ hP;clear hP;obtain⟨R,a,I,A,g,N,aH,t⟩:=rJ L #[i_ 8,i_ (E:Int),i_ X,i_ c,i_ n]
 go_enter func120,ntmps120
 go_upto_region 1 with fail
 clear I A;have Z:=N.f_ 0
 go_upto_region 3 with fail
 clear Z;have ap:Gr [] R R.drew:=(D_ [] R).drew;refine hC (λw'=>(w'.cell? (c_ a 0)=some (i_ 8)/\w'.cell? (c_ a 1)=some (i_ (E:Int))/\w'.cell? (c_ a 2)=some (i_ X)/\w'.cell? (c_ a 3)=some (i_ c)/\w'.cell? (c_ a 4)=some (i_ n))/\w'.cell? (c_ gx (4+E*2))=some (.bool (x.sr E).r)/\w'.cell? (c_ gx (4+E*2+1))=some (i_ (x.sr E).n)) 10 k_ ?_;have C:=And.intro N.drew.c5 (u0 (g.bk.drew) ha)
 have e0:(0:Int)<=(E:Int):=by omega
 have aP:(E:Int)<16:=by omega
 iterate 8 refine jR C ?_
 refine hQ 8 λK H=>?_
 go_simp;clear C
 refine hS H (rW N g.bk ha) λC=>?_
 clear H K
 refine hQ 9 λK H=>?_
 go_simp;clear C
 refine hS H (rW N g.bk ha) λC=>?_
 clear H K;refine hA k_ ?_ _;obtain⟨bh,ay,bF,fo,V,aD,bK,aM,ad⟩:=yH g N aH #[.bool (x.sr E).r,i_ (x.sr E).n];rw[bF,fo];clear bF fo g N aH ap C;have aV:=aD.f_ 4;obtain⟨⟨W,f,d,ok⟩,hy⟩:∃y,ht x.p n=y:=⟨_,rfl⟩;have k:=h_ hy;clear hy
 go_upto_region 5 with(go_at_call 167;((with_reducible refine(lQ b _ gx x n V hs h0 h1).mono ?_);rw[k.out];unfold vN;rintro e ai⟨ao,rfl,B,bO,S⟩;have an:=h_ bO;clear bO))
 have ak:=aD.xg S t;have i:=bK.xg S ad;have l:=aM.trans S;have aR:W.e.sm 800010:=Ki;clear V aD bK aM S aV
 cases ok with
 |false=>
  have O:Hid (P=W):=h_ (by rw[<-u.out];show(if(ht x.p n).2.2.2=false then some (ht x.p n).1 else some (kL (hM (ht x.p n).1 (ht x.p n).2.1 (ht x.p n).2.2.1).1 E (hM (ht x.p n).1 (ht x.p n).2.1 (ht x.p n).2.2.1).2)).getD x.p=_;rw[k.out];rfl);exact Lj
 |true=>
  obtain⟨v,hv⟩:=mn_ ((hM ao.p f d).2);have aB:=h_ hv;clear hv
  have bX:ao.e.rs.l.length<=1000000:=by have q:=aR.rs;rw[<-an.out]at q;exact F_ q d_
  have Z:=ak.f_ 0
  go_upto_region 11 with(go_at_call 118;((with_reducible refine(jD b _ gx ao f d B bX).mono ?_);unfold mF;rintro e T⟨aq,rfl,aj,aS,af⟩;have bf:=h_ aS;clear aS;rw[aB.out]))
  have O:Hid (P=kL aq.p E v):=h_ (by rw[<-u.out];show(if(ht x.p n).2.2.2=false then some (ht x.p n).1 else some (kL (hM (ht x.p n).1 (ht x.p n).2.1 (ht x.p n).2.2.1).1 E (hM (ht x.p n).1 (ht x.p n).2.1 (ht x.p n).2.2.1).2)).getD x.p=_;rw[k.out];show kL (hM W f d).1 E (hM W f d).2=_;rw[<-an.out,aB.out,bf.out]);have aw:=(ak.xg af t).alloc (.cells #[.bool v.r,i_ v.n] 38);have aZ:=aj.g_ ((D_ [] T).alloc (.cells #[.bool v.r,i_ v.n] 38));have av:=L_ T 38 #[.bool v.r,i_ v.n];have be:=(l.trans af).g_ ((D_ [] T).alloc (.cells #[.bool v.r,i_ v.n] 38));clear Z aB bf u k;obtain⟨a6,bv⟩:=nm_ (T.alloc (.cells #[.bool v.r,i_ v.n] 38));rw[<-bv]at aw aZ av be |-;clear bv;clear aj af B l ak i;generalize T.heap.size=z at*;have Z:=aw.f_ 0
  go_upto_region 13 with fail
  refine hC (λw'=>(w'.cell? (c_ a 0)=some (i_ 8)/\w'.cell? (c_ a 1)=some (i_ (E:Int))/\w'.cell? (c_ a 2)=some (i_ X)/\w'.cell? (c_ a 3)=some (i_ c)/\w'.cell? (c_ a 4)=some (i_ n))/\w'.cell? (c_ z 0)=some (.bool v.r)/\w'.cell? (c_ z 1)=some (i_ v.n)) 9 k_ ?_;have C:(a6.drew.cell? (c_ a 0)=some (i_ 8)/\a6.drew.cell? (c_ a 1)=some (i_ (E:Int))/\a6.drew.cell? (c_ a 2)=some (i_ X)/\a6.drew.cell? (c_ a 3)=some (i_ c)/\a6.drew.cell? (c_ a 4)=some (i_ n))/\a6.drew.cell? (c_ z 0)=some (.bool v.r)/\a6.drew.cell? (c_ z 1)=some (i_ v.n):=⟨aw.drew.c5,av.drew.f_ 0,av.drew.f_ 1⟩
  have e0:(0:Int)<=(E:Int):=by omega
  have aP:(E:Int)<16:=by omega
  (iterate 9 refine jR C ?_)
  have bM:a6.cell? (c_ gx (40+E*2))=some (.bool (aq.e.r E).r):=(aZ.bk.f_ _).trans (j7 aq E ha).1;have bp:a6.cell? (c_ gx (40+E*2+1))=some (i_ (aq.e.r E).n):=(aZ.bk.f_ _).trans (j7 aq E ha).2;have bB:=aZ.bk.hm (40+E*2);have bH:=aZ.bk.hm (40+E*2+1)
  refine hQ 9 λK H=>?_
  go_simp;obtain⟨a2,M⟩:=Dj aZ v ha;refine H.out _ _ (λh=>D6 h d_) ?_;clear H K
  try simp only[a_]
  refine hA k_ ?_ _;go_wp2;go_ret;rw[O.out];exact⟨_,rfl,aZ.rI M a2 rfl rfl rfl rfl rfl rfl rfl,rfl,be.ig M⟩
theorem vars_20(n:Int)(L:ke b w gx x)(ha:E<16)(hs:x.p.e.sm 800000)(h0:0<=n)(h1:n<=1000000):
 Calls prog 120 #[q_ gx,.agg #[i_ 20,i_ (E:Int),i_ X,i_ c,i_ n]] w (k9 ((kN x.p ⟨20,E,X,c,n⟩).getD x.p) true b gx w):=by
 obtain⟨P,hP⟩:=mn_ ((kN x.p ⟨20,E,X,c,n⟩).getD x.p);rw[hP];have u:=h_ hP;clear hP;obtain⟨R,a,I,A,g,N,aH,t⟩:=rJ L #[i_ 20,i_ (E:Int),i_ X,i_ c,i_ n]
 go_enter func120,ntmps120
 go_upto_region 1 with fail
 clear I A;have Z:=N.f_ 0
 go_upto_region 3 with fail
 clear Z;have ap:Gr [] R R.drew:=(D_ [] R).drew;refine hC (λw'=>(w'.cell? (c_ a 0)=some (i_ 20)/\w'.cell? (c_ a 1)=some (i_ (E:Int))/\w'.cell? (c_ a 2)=some (i_ X)/\w'.cell? (c_ a 3)=some (i_ c)/\w'.cell? (c_ a 4)=some (i_ n))/\w'.cell? (c_ gx (4+E*2))=some (.bool (x.sr E).r)/\w'.cell? (c_ gx (4+E*2+1))=some (i_ (x.sr E).n)) 10 k_ ?_;have C:=And.intro N.drew.c5 (u0 (g.bk.drew) ha)
 have e0:(0:Int)<=(E:Int):=by omega
 have aP:(E:Int)<16:=by omega
 iterate 8 refine jR C ?_
 refine hQ 8 λK H=>?_
 go_simp;clear C
 refine hS H (rW N g.bk ha) λC=>?_
 clear H K
 refine hQ 9 λK H=>?_
 go_simp;clear C
 refine hS H (rW N g.bk ha) λC=>?_
 clear H K;refine hA k_ ?_ _;obtain⟨bh,ay,bF,fo,V,aD,bK,aM,ad⟩:=yH g N aH #[.bool (x.sr E).r,i_ (x.sr E).n];rw[bF,fo];clear bF fo g N aH ap C;have aV:=aD.f_ 4;obtain⟨⟨W,f,d,ok⟩,hy⟩:∃y,ht x.p n=y:=⟨_,rfl⟩;have k:=h_ hy;clear hy
 go_upto_region 5 with(go_at_call 167;((with_reducible refine(lQ b _ gx x n V hs h0 h1).mono ?_);rw[k.out];unfold vN;rintro e ai⟨ao,rfl,B,bO,S⟩;have an:=h_ bO;clear bO))
 have ak:=aD.xg S t;have i:=bK.xg S ad;have l:=aM.trans S;have aR:W.e.sm 800010:=Ki;clear V aD bK aM S aV
 cases ok with
 |false=>
  have O:Hid (P=W):=h_ (by rw[<-u.out];show(if(ht x.p n).2.2.2=false then some (ht x.p n).1 else if(hM (ht x.p n).1 (ht x.p n).2.1 (ht x.p n).2.2.1).2.r=true then some (i9 (hM (ht x.p n).1 (ht x.p n).2.1 (ht x.p n).2.2.1).1 (-2)) else some {(hM (ht x.p n).1 (ht x.p n).2.1 (ht x.p n).2.2.1).1 with e:={(hM (ht x.p n).1 (ht x.p n).2.1 (ht x.p n).2.2.1).1.e with hT:=3,v:=(hM (ht x.p n).1 (ht x.p n).2.1 (ht x.p n).2.2.1).2,pc:=(hM (ht x.p n).1 (ht x.p n).2.1 (ht x.p n).2.2.1).1.jN,r:=(hM (ht x.p n).1 (ht x.p n).2.1 (ht x.p n).2.2.1).1.sr}}).getD x.p=_;rw[k.out];rfl);exact Lj
 |true=>
  obtain⟨v,hv⟩:=mn_ ((hM ao.p f d).2);have aB:=h_ hv;clear hv
  have bX:ao.e.rs.l.length<=1000000:=by have q:=aR.rs;rw[<-an.out]at q;exact F_ q d_
  have Z:=ak.f_ 0
  go_upto_region 11 with(go_at_call 118;((with_reducible refine(jD b _ gx ao f d B bX).mono ?_);unfold mF;rintro e T⟨aq,rfl,aj,aS,af⟩;have bf:=h_ aS;clear aS;rw[aB.out]))
  have aT:Hid (P=if v.r=true then i9 aq.p (-2) else{aq.p with e:={aq.p.e with hT:=3,v:=v,pc:=aq.p.jN,r:=aq.p.sr}}):=h_ (by rw[<-u.out];show(if(ht x.p n).2.2.2=false then some (ht x.p n).1 else if(hM (ht x.p n).1 (ht x.p n).2.1 (ht x.p n).2.2.1).2.r=true then some (i9 (hM (ht x.p n).1 (ht x.p n).2.1 (ht x.p n).2.2.1).1 (-2)) else some {(hM (ht x.p n).1 (ht x.p n).2.1 (ht x.p n).2.2.1).1 with e:={(hM (ht x.p n).1 (ht x.p n).2.1 (ht x.p n).2.2.1).1.e with hT:=3,v:=(hM (ht x.p n).1 (ht x.p n).2.1 (ht x.p n).2.2.1).2,pc:=(hM (ht x.p n).1 (ht x.p n).2.1 (ht x.p n).2.2.1).1.jN,r:=(hM (ht x.p n).1 (ht x.p n).2.1 (ht x.p n).2.2.1).1.sr}}).getD x.p=_;rw[k.out];show(if(hM W f d).2.r=true then some (i9 (hM W f d).1 (-2)) else some {(hM W f d).1 with e:={(hM W f d).1.e with hT:=3,v:=(hM W f d).2,pc:=(hM W f d).1.jN,r:=(hM W f d).1.sr}}).getD x.p=_;rw[<-an.out,aB.out,<-bf.out];split<;>rfl)
  have bB:aq.p.e.sm 900000:=by
   have q:=j6 aR f d;rw[<-an.out,<-bf.out]at q;exact q.mono d_
  have aw:=(ak.xg af t).alloc (.cells #[.bool v.r,i_ v.n] 38);have aZ:=aj.g_ ((D_ [] T).alloc (.cells #[.bool v.r,i_ v.n] 38));have av:=L_ T 38 #[.bool v.r,i_ v.n];have be:=(l.trans af).g_ ((D_ [] T).alloc (.cells #[.bool v.r,i_ v.n] 38))
  have h:T.heap.size≠gx:=by have:=aj.bk.lt;omega
  clear Z aB bf u k;obtain⟨a6,bv⟩:=nm_ (T.alloc (.cells #[.bool v.r,i_ v.n] 38));rw[<-bv]at aw aZ av be |-;clear bv;clear aj af B l ak i;generalize T.heap.size=z at*;have Z:=aw.f_ 0
  cases Y:v.r with
  |true=>
   have O:Hid (P=i9 aq.p (-2)):=h_ (by rw[aT.out,Q_ Y]);rw[Y]at av;clear Y aT;have z0:=av.f_ 0
   go_wp2_with (go_at_call 165;((with_reducible refine(kK b _ gx aq (-2) aZ bB).mono ?_);unfold kE;rintro e ag⟨ax,rfl,F,ae,G⟩;have aI:=h_ ae;clear ae))
   go_ret;rw[O.out];exact⟨ax,rfl,F,aI.out,be.trans G⟩
  |false=>
   have O:Hid (P={aq.p with e:={aq.p.e with hT:=3,v:=v,pc:=aq.p.jN,r:=aq.p.sr}}):=h_ (by rw[aT.out,P_ (by rw[Y];decide)]);have z0:a6.cell? (c_ z 0)=some (.bool false):=(av.f_ 0).trans (by rw[Y];rfl);clear Y aT
   go_upto_region 25 with fail
   clear Z z0;have s:=aZ.bk.drew;refine hC (λw'=>(∀j,j<33->w'.cell? (c_ gx (3+j))=(iz aq.jN aq.sr)[j]?)/\w'.cell? (c_ z 0)=some (.bool v.r)/\w'.cell? (c_ z 1)=some (i_ v.n)) 20 k_ ?_
   refine nc ⟨λj hj=>by rw[s.f_];exact l6 aq j hj,av.drew.f_ 0,av.drew.f_ 1⟩ λC=>?_
   (iterate 7 refine jR C ?_)
   refine ih 7 (v:=.agg (iz aq.jN aq.sr)) C ?_ (hy:=(Or.inl ⟨by rfl,λw' bA=>lB 49 _ rfl gx 3 r_ _ (λj hj=>bA.1 j hj) _ underlying49 rfl k_⟩))
   (iterate 3 refine jR C ?_)
   have bU:a6.cell? (c_ gx 38)=some (i_ aq.e.hT):=(aZ.bk.f_ 38).trans rfl;have bE:=aZ.bk.hm 38
   refine hQ 11 λK H=>?_
   go_simp;have aX:Bk ((a6.setCell (c_ gx 38) (i_ 3)).drew) gx 186 ({aq with e:={aq.e with hT:=3}}:X1).g8:=(aZ.bk).hJ 38 (i_ 3);have bC:Bk ((a6.setCell (c_ gx 38) (i_ 3)).drew) z 38 #[.bool v.r,i_ v.n]:=(av).h7 (p:=(c_ gx 38)) h (i_ 3);have aE:Gr [gx] a6 ((a6.setCell (c_ gx 38) (i_ 3)).drew):=Gr.drew <| ((D_ [gx] a6)).setCell (p:=(c_ gx 38)) (.inl s_) (i_ 3);obtain⟨J,bM⟩:=nm_ ((a6.setCell (c_ gx 38) (i_ 3)).drew);rw[<-bM]at aX bC aE |-;clear bM C
   refine hS H ⟨λj hj=>by rw[aX.f_];exact l6 ({aq with e:={aq.e with hT:=3}}:X1) j hj,bC.f_ 0,bC.f_ 1⟩ λC=>?_
   clear H K;clear bU bE
   (iterate 3 refine jR C ?_)
   have b4:J.cell? (c_ gx 79)=some (.bool aq.e.v.r):=(aX.f_ 79).trans rfl;have b6:J.cell? (c_ gx 80)=some (i_ aq.e.v.n):=(aX.f_ 80).trans rfl;have bV:=aX.hm 79;have b3:=aX.hm 80
   refine hQ 15 λK H=>?_
   go_simp;have br:Bk ((J.setCell (c_ gx 79) (.bool v.r)).setCell (c_ gx 80) (i_ v.n)) gx 186 ({aq with e:={aq.e with hT:=3,v:=v}}:X1).g8:=((aX).hJ 79 (.bool v.r)).hJ 80 (i_ v.n);have bD:Bk ((J.setCell (c_ gx 79) (.bool v.r)).setCell (c_ gx 80) (i_ v.n)) z 38 #[.bool v.r,i_ v.n]:=((bC).h7 (p:=(c_ gx 79)) h (.bool v.r)).h7 (p:=(c_ gx 80)) h (i_ v.n);have a8:Gr [gx] a6 ((J.setCell (c_ gx 79) (.bool v.r)).setCell (c_ gx 80) (i_ v.n)):=((aE).setCell (p:=(c_ gx 79)) (.inl s_) (.bool v.r)).setCell (p:=(c_ gx 80)) (.inl s_) (i_ v.n);obtain⟨bt,bR⟩:=nm_ ((J.setCell (c_ gx 79) (.bool v.r)).setCell (c_ gx 80) (i_ v.n));rw[<-bR]at br bD a8 |-;clear bR C
   refine hS H ⟨λj hj=>by rw[br.f_];exact l6 ({aq with e:={aq.e with hT:=3,v:=v}}:X1) j hj,bD.f_ 0,bD.f_ 1⟩ λC=>?_
   clear H K;clear b4 bV b6 b3
   iterate 3 refine jR C ?_
   refine hQ 19 λK H=>?_
   rw[Q_ r_];refine jq 49 _ _ rfl gx 39 r_ (iz aq.jN aq.sr) r_ 186 _ br (by show 39+33<=82;decide) k_ (nP _ _) ?_;intro ag aN G;rw[mY]at aN;have bu:=bD.gr G (by simpa using h);clear C
   refine hS H ⟨λj hj=>by rw[aN.f_];exact l6 ({aq with e:={aq.e with hT:=3,v:=v,pc:=aq.jN,r:=aq.sr}}:X1) j hj,bu.f_ 0,bu.f_ 1⟩ λC=>?_
   clear H K;refine hA k_ ?_ _;go_wp2;go_ret;rw[O.out];exact⟨_,rfl,aZ.rI (x':=({aq with e:={aq.e with hT:=3,v:=v,pc:=aq.jN,r:=aq.sr}}:X1)) (a8.trans G) aN rfl rfl rfl rfl rfl rfl rfl,rfl,be.ig (a8.trans G)⟩
theorem vars_10(n:Int)(L:ke b w gx x)(ha:E<16)(hs:x.p.e.sm 800000)(h0:0<=n)(h1:n<=1000000):
 Calls prog 120 #[q_ gx,.agg #[i_ 10,i_ (E:Int),i_ X,i_ c,i_ n]] w (k9 ((kN x.p ⟨10,E,X,c,n⟩).getD x.p) true b gx w):=by
 obtain⟨P,hP⟩:=mn_ ((kN x.p ⟨10,E,X,c,n⟩).getD x.p);rw[hP];have u:=h_ hP;clear hP;obtain⟨R,a,I,A,g,N,aH,t⟩:=rJ L #[i_ 10,i_ (E:Int),i_ X,i_ c,i_ n]
 go_enter func120,ntmps120
 go_upto_region 1 with fail
 clear I A;have Z:=N.f_ 0
 go_upto_region 3 with fail
 clear Z;have ap:Gr [] R R.drew:=(D_ [] R).drew;refine hC (λw'=>(w'.cell? (c_ a 0)=some (i_ 10)/\w'.cell? (c_ a 1)=some (i_ (E:Int))/\w'.cell? (c_ a 2)=some (i_ X)/\w'.cell? (c_ a 3)=some (i_ c)/\w'.cell? (c_ a 4)=some (i_ n))/\w'.cell? (c_ gx (4+E*2))=some (.bool (x.sr E).r)/\w'.cell? (c_ gx (4+E*2+1))=some (i_ (x.sr E).n)) 10 k_ ?_;have C:=And.intro N.drew.c5 (u0 (g.bk.drew) ha)
 have e0:(0:Int)<=(E:Int):=by omega
 have aP:(E:Int)<16:=by omega
 iterate 8 refine jR C ?_
 refine hQ 8 λK H=>?_
 go_simp;clear C
 refine hS H (rW N g.bk ha) λC=>?_
 clear H K
 refine hQ 9 λK H=>?_
 go_simp;clear C
 refine hS H (rW N g.bk ha) λC=>?_
 clear H K;refine hA k_ ?_ _;obtain⟨bh,ay,bF,fo,V,aD,bK,aM,ad⟩:=yH g N aH #[.bool (x.sr E).r,i_ (x.sr E).n];rw[bF,fo];clear bF fo g N aH ap C;have aV:=aD.f_ 4;obtain⟨⟨W,f,d,ok⟩,hy⟩:∃y,ht x.p n=y:=⟨_,rfl⟩;have k:=h_ hy;clear hy
 go_upto_region 5 with(go_at_call 167;((with_reducible refine(lQ b _ gx x n V hs h0 h1).mono ?_);rw[k.out];unfold vN;rintro e ai⟨ao,rfl,B,bO,S⟩;have an:=h_ bO;clear bO))
 have ak:=aD.xg S t;have i:=bK.xg S ad;have l:=aM.trans S;have aR:W.e.sm 800010:=Ki;clear V aD bK aM S aV
 cases ok with
 |false=>
  have O:Hid (P=W):=h_ (by rw[<-u.out];show(if(ht x.p n).2.2.2=false then some (ht x.p n).1 else(if(iy X (hM (ht x.p n).1 (ht x.p n).2.1 (ht x.p n).2.2.1).2 (x.sr E)).2≠0 then some (i9 (hM (ht x.p n).1 (ht x.p n).2.1 (ht x.p n).2.2.1).1 (iy X (hM (ht x.p n).1 (ht x.p n).2.1 (ht x.p n).2.2.1).2 (x.sr E)).2) else some {(hY (hM (ht x.p n).1 (ht x.p n).2.1 (ht x.p n).2.2.1).1 (ht x.p n).2.1 (ht x.p n).2.2.1 (iy X (hM (ht x.p n).1 (ht x.p n).2.1 (ht x.p n).2.2.1).2 (x.sr E)).1)with e:={(hY (hM (ht x.p n).1 (ht x.p n).2.1 (ht x.p n).2.2.1).1 (ht x.p n).2.1 (ht x.p n).2.2.1 (iy X (hM (ht x.p n).1 (ht x.p n).2.1 (ht x.p n).2.2.1).2 (x.sr E)).1).e with ds:=[⟨(ht x.p n).2.1,(ht x.p n).2.2.1,X,x.sr E⟩]}})).getD x.p=_;rw[k.out];rfl);exact Lj
 |true=>
  obtain⟨v,hv⟩:=mn_ ((hM ao.p f d).2);have aB:=h_ hv;clear hv
  have bX:ao.e.rs.l.length<=1000000:=by have q:=aR.rs;rw[<-an.out]at q;exact F_ q d_
  have Z:=ak.f_ 0
  go_upto_region 11 with(go_at_call 118;((with_reducible refine(jD b _ gx ao f d B bX).mono ?_);unfold mF;rintro e T⟨aq,rfl,aj,aS,af⟩;have bf:=h_ aS;clear aS;rw[aB.out]))
  obtain⟨⟨j,m⟩,aE⟩:∃q,iy X v (x.sr E)=q:=⟨_,rfl⟩;have az:=h_ aE;clear aE;have aT:Hid (P=if m≠0 then i9 aq.p m else{(hY aq.p f d j)with e:={(hY aq.p f d j).e with ds:=[⟨f,d,X,x.sr E⟩]}}):=h_ (by rw[<-u.out];show(if(ht x.p n).2.2.2=false then some (ht x.p n).1 else(if(iy X (hM (ht x.p n).1 (ht x.p n).2.1 (ht x.p n).2.2.1).2 (x.sr E)).2≠0 then some (i9 (hM (ht x.p n).1 (ht x.p n).2.1 (ht x.p n).2.2.1).1 (iy X (hM (ht x.p n).1 (ht x.p n).2.1 (ht x.p n).2.2.1).2 (x.sr E)).2) else some {(hY (hM (ht x.p n).1 (ht x.p n).2.1 (ht x.p n).2.2.1).1 (ht x.p n).2.1 (ht x.p n).2.2.1 (iy X (hM (ht x.p n).1 (ht x.p n).2.1 (ht x.p n).2.2.1).2 (x.sr E)).1)with e:={(hY (hM (ht x.p n).1 (ht x.p n).2.1 (ht x.p n).2.2.1).1 (ht x.p n).2.1 (ht x.p n).2.2.1 (iy X (hM (ht x.p n).1 (ht x.p n).2.1 (ht x.p n).2.2.1).2 (x.sr E)).1).e with ds:=[⟨(ht x.p n).2.1,(ht x.p n).2.2.1,X,x.sr E⟩]}})).getD x.p=_;rw[k.out];show((if(iy X (hM W f d).2 (x.sr E)).2≠0 then some (i9 (hM W f d).1 (iy X (hM W f d).2 (x.sr E)).2) else some {(hY (hM W f d).1 f d (iy X (hM W f d).2 (x.sr E)).1)with e:={(hY (hM W f d).1 f d (iy X (hM W f d).2 (x.sr E)).1).e with ds:=[⟨f,d,X,x.sr E⟩]}})).getD x.p=_;rw[<-an.out,aB.out,<-bf.out,az.out];show(if m≠0 then some (i9 aq.p m) else _).getD x.p=_;split<;>rfl)
  have bB:aq.p.e.sm 900000:=by
   have q:=j6 aR f d;rw[<-an.out,<-bf.out]at q;exact q.mono d_
  have aw:=(ak.xg af t).alloc (.cells #[.bool v.r,i_ v.n] 38);have J:=(i.xg af ad).alloc (.cells #[.bool v.r,i_ v.n] 38);have aZ:=aj.g_ ((D_ [] T).alloc (.cells #[.bool v.r,i_ v.n] 38));have av:=L_ T 38 #[.bool v.r,i_ v.n];have be:=(l.trans af).g_ ((D_ [] T).alloc (.cells #[.bool v.r,i_ v.n] 38));clear Z aB bf u k;obtain⟨a6,bv⟩:=nm_ (T.alloc (.cells #[.bool v.r,i_ v.n] 38));rw[<-bv]at aw J aZ av be |-;clear bv;clear aj af B l ak i;generalize T.heap.size=z at*;have Z:=aw.f_ 0;have au:=aw.f_ 2;have v0:=J.f_ 0;have v1:=J.f_ 1;have am:=av.f_ 0;have aN:=av.f_ 1
  go_upto_region 16 with(go_at_call 164;((with_reducible refine(mm X v (x.sr E) _).mono ?_);unfold qa;rintro e aF⟨rfl,aC⟩;rw[az.out]))
  have Q:=aC.alloc (.cells #[.bool j.r,i_ j.n] 38);have bi:=aZ.g_ Q;have bT:=aw.g_ Q;have a8:=J.g_ Q;have ah:=L_ aF 38 #[.bool j.r,i_ j.n];have aQ:=be.g_ Q;clear Z au v0 v1 am aN az;obtain⟨Y,aW⟩:=nm_ (aF.alloc (.cells #[.bool j.r,i_ j.n] 38));rw[<-aW]at bT a8 bi ah aQ Q |-;clear aW;clear aZ be aw J Q
  have a7:aF.heap.size≠gx:=by have:=aC.size;have:=bi.lt;have:=bi.gr.size;intro he;have aU:=Bk.lF ah bi.bk d_;exact aU he
  generalize aF.heap.size=gq at*
  by_cases hz:m=0
  .have O:Hid (P={(hY aq.p f d j)with e:={(hY aq.p f d j).e with ds:=[⟨f,d,X,x.sr E⟩]}}):=h_ (by rw[aT.out,P_ (by simp[hz])])
   have q:(m !=0)=false:=by simpa using hz
   clear hz aT;have b0:aq.e.ws.l.length<=1000000:=F_ bB.ws d_;have bM:=ah.f_ 0;have bp:=ah.f_ 1
   go_upto_region 20 with(go_at_call 163;((with_reducible refine(jT b _ gx aq f d j bi b0).mono ?_);unfold kE;rintro e aG⟨ar,rfl,aK,bA,aO⟩;have bD:=h_ bA;clear bA))
   have aX:=bT.xg aO t;have bm:=a8.xg aO ad;have h:=aQ.trans aO;have au:=aX.f_ 2;have v0:=bm.f_ 0;have v1:=bm.f_ 1;obtain⟨U,o⟩:=De aG 124 #[i_ f,i_ d,i_ X,.bool (x.sr E).r,i_ (x.sr E).n];have aJ:=aK.g_ o;have bg:(aG.alloc (.cells #[i_ f,i_ d,i_ X,.bool (x.sr E).r,i_ (x.sr E).n] 124)).cell? (c_ gx 75)=some (.slice ar.e.ds.A ar.e.ds.l.length ar.e.ds.c):=(aJ.bk.f_ 75).trans rfl;have aY:=aJ.bk.hm 75;go_wp2;go_ret;have M:=(D_ [gx] (aG.alloc (.cells #[i_ f,i_ d,i_ X,.bool (x.sr E).r,i_ (x.sr E).n] 124))).setCell (p:=(c_ gx 75)) (.inl s_) (.slice (j_ aG.heap.size) 1 1);have a2:Bk ((aG.alloc (.cells #[i_ f,i_ d,i_ X,.bool (x.sr E).r,i_ (x.sr E).n] 124)).setCell (c_ gx 75) (.slice (j_ aG.heap.size) 1 1)) gx 186 ({ar with e:={ar.e with ds:=⟨some (c_ aG.heap.size 0),1,[⟨f,d,X,x.sr E⟩]⟩}}:X1).g8:=aJ.bk.hJ 75 (.slice (j_ aG.heap.size) 1 1);have aL:Ds (aG.alloc (.cells #[i_ f,i_ d,i_ X,.bool (x.sr E).r,i_ (x.sr E).n] 124)) (j_ aG.heap.size) [⟨f,d,X,x.sr E⟩]:=kC (s:=5) U rfl;rw[O.out];exact⟨_,rfl,aJ.AD (x':=({ar with e:={ar.e with ds:=⟨some (c_ aG.heap.size 0),1,[⟨f,d,X,x.sr E⟩]⟩}}:X1)) M a2 rfl rfl rfl rfl aJ.nw aJ.nr aL aJ.hU aJ.sO (G_ 1) aJ.px,D9 (λy:XP=>({y with e:={y.e with ds:=[⟨f,d,X,x.sr E⟩]}}:XP)) bD.out,(h.g_ o).ig M⟩
  .have O:Hid (P=i9 aq.p m):=h_ (by rw[aT.out,Q_ hz])
   have q:(m !=0)=true:=by simpa using hz
   clear hz aT
   go_wp2_with (go_at_call 165;((with_reducible refine(kK b _ gx aq m bi bB).mono ?_);unfold kE;rintro e ag⟨ax,rfl,F,ae,G⟩;have aI:=h_ ae;clear ae))
   go_ret;rw[O.out];exact⟨ax,rfl,F,aI.out,aQ.trans G⟩
theorem ov{x:XP}{i:In}(h:i.op=8∨i.op=9∨i.op=10∨i.op=20):(kN x i).isSome=true:=by
 unfold kN;rw[P_ o_];dsimp only
 repeat' split
 all_goals rfl
theorem sk(i:In)(L:ke b w gx x)(hs:x.p.e.sm 800000)(Z:0<=i.a)(ah:i.a<16)(hn:i.op=8∨i.op=9∨i.op=10∨i.op=20->0<=i.n/\i.n<=1000000):
 Calls prog 120 #[q_ gx,.agg #[i_ i.op,i_ i.a,i_ i.b,i_ i.c,i_ i.n]] w (k9 ((kN x.p i).getD x.p) (kN x.p i).isSome b gx w):=by
 obtain⟨op,ap,X,c,n⟩:=i;simp only at Z ah hn |-;obtain⟨E,rfl⟩:∃k:Nat,ap=k:=⟨ap.toNat,by omega⟩
 have j:E<16:=by omega
 by_cases aU:op=8
 .subst aU;have h:=hn d_;rw[ov s_];exact vars_8 b w gx x E X c n L j hs h.1 h.2
 by_cases aJ:op=9
 .subst aJ;have h:=hn d_;rw[ov s_];exact vars_9 b w gx x E X c n L j hs h.1 h.2
 by_cases h10:op=10
 .subst h10;have h:=hn d_;rw[ov s_];exact vars_10 b w gx x E X c n L j hs h.1 h.2
 by_cases d:op=20
 .subst d;have h:=hn d_;rw[ov s_];exact vars_20 b w gx x E X c n L j hs h.1 h.2
 have e:kN x.p ⟨op,E,X,c,n⟩=none:=by
  unfold kN;exact Q_ ⟨aU,aJ,h10,d⟩
 rw[e];exact AC b w gx x op E X c n L ⟨aU,aJ,h10,d⟩
theorem rest_17(n:Int)(L:ke b w gx x)(ha:E<16)(hs:x.p.e.sm 800000):
 Calls prog 121 #[q_ gx,.agg #[i_ 17,i_ (E:Int),i_ X,i_ c,i_ n]] w (kE (.tuple #[]) (j5 x.p ⟨17,E,X,c,n⟩) b gx w):=by
 obtain⟨R,a,I,A,g,N,aH,t⟩:=rJ L #[i_ 17,i_ (E:Int),i_ X,i_ c,i_ n]
 go_enter func121,ntmps121
 go_upto_region 1 with fail
 clear I A;have Z:=N.f_ 0;have ap:Gr [] R R.drew:=(D_ [] R).drew;refine hC (λw'=>(w'.cell? (c_ a 0)=some (i_ 17)/\w'.cell? (c_ a 1)=some (i_ (E:Int))/\w'.cell? (c_ a 2)=some (i_ X)/\w'.cell? (c_ a 3)=some (i_ c)/\w'.cell? (c_ a 4)=some (i_ n))/\w'.cell? (c_ gx (4+E*2))=some (.bool (x.sr E).r)/\w'.cell? (c_ gx (4+E*2+1))=some (i_ (x.sr E).n)) 10 k_ ?_;have C:=And.intro N.drew.c5 (u0 (g.bk.drew) ha)
 have e0:(0:Int)<=(E:Int):=by omega
 have aP:(E:Int)<16:=by omega
 iterate 8 refine jR C ?_
 refine hQ 8 λK H=>?_
 go_simp;clear C
 refine hS H (rW N g.bk ha) λC=>?_
 clear H K
 refine hQ 9 λK H=>?_
 go_simp;clear C
 refine hS H (rW N g.bk ha) λC=>?_
 clear H K;refine hA k_ ?_ _;obtain⟨bh,ay,bF,fo,V,aD,bK,aM,ad⟩:=yH g N aH #[.bool (x.sr E).r,i_ (x.sr E).n];rw[bF,fo];clear bF fo g N aH ap C;have Z:=aD.f_ 0
 go_upto_region 40 with(go_at_call 161;((with_reducible refine(mB b _ gx x V (F_ hs.rs d_)).mono ?_);unfold ue;rintro e ai⟨ao,rfl,B,bO,S⟩;have an:=h_ bO;clear bO))
 obtain⟨f,bj⟩:=mn_ ((hK x.p).2.1);rw[bj];have aU:=h_ bj;clear bj;have aR:=lK hs;rw[<-an.out]at aR;have bX:ao.e.ws.l.length<=1000000:=F_ aR.ws d_;have ak:=aD.xg S t;have aV:=ak.f_ 4;clear Z
 go_wp2_with (go_at_call 163;((with_reducible refine(jT b _ gx ao f 2 ⟨false,n⟩ B bX).mono ?_);unfold kE;rintro e T⟨aq,rfl,aj,aS,af⟩;have bf:=h_ aS;clear aS))
 refine en_ ?_;exact⟨aq,rfl,aj,by rw[bf.out,an.out,<-aU.out];rfl,(aM.trans S).trans af⟩
theorem rest_5(d:Nat)(c:Int)(n:Int)(L:ke b w gx x)(ha:E<16)(hb:d<16)(hs:x.p.e.sm 800000):
 Calls prog 121 #[q_ gx,.agg #[i_ 5,i_ (E:Int),i_ (d:Int),i_ c,i_ n]] w (kE (.tuple #[]) (j5 x.p ⟨5,E,d,c,n⟩) b gx w):=by
 obtain⟨P,hP⟩:=mn_ (j5 x.p ⟨5,E,d,c,n⟩);rw[hP];have u:=h_ hP;clear hP;obtain⟨R,a,I,A,g,N,aH,t⟩:=rJ L #[i_ 5,i_ (E:Int),i_ (d:Int),i_ c,i_ n]
 go_enter func121,ntmps121
 go_upto_region 1 with fail
 clear I A;have Z:=N.f_ 0;have ap:Gr [] R R.drew:=(D_ [] R).drew;refine hC (λw'=>(w'.cell? (c_ a 0)=some (i_ 5)/\w'.cell? (c_ a 1)=some (i_ (E:Int))/\w'.cell? (c_ a 2)=some (i_ (d:Int))/\w'.cell? (c_ a 3)=some (i_ c)/\w'.cell? (c_ a 4)=some (i_ n))/\w'.cell? (c_ gx (4+E*2))=some (.bool (x.sr E).r)/\w'.cell? (c_ gx (4+E*2+1))=some (i_ (x.sr E).n)) 10 k_ ?_;have C:=And.intro N.drew.c5 (u0 (g.bk.drew) ha)
 have e0:(0:Int)<=(E:Int):=by omega
 have aP:(E:Int)<16:=by omega
 iterate 8 refine jR C ?_
 refine hQ 8 λK H=>?_
 go_simp;clear C
 refine hS H (rW N g.bk ha) λC=>?_
 clear H K
 refine hQ 9 λK H=>?_
 go_simp;clear C
 refine hS H (rW N g.bk ha) λC=>?_
 clear H K;refine hA k_ ?_ _;obtain⟨bh,ay,bF,fo,V,aD,bK,aM,ad⟩:=yH g N aH #[.bool (x.sr E).r,i_ (x.sr E).n];rw[bF,fo];clear bF fo g N aH ap C;have Z:=aD.f_ 0
 go_upto_region 4 with fail
 clear Z;obtain⟨⟨W,id,ok⟩,hy⟩:∃y,ik x.p (x.sr d) n=y:=⟨_,rfl⟩;have k:=h_ hy;clear hy;have j:Gr [] bh bh.drew:=(D_ [] bh).drew;refine hC (λw'=>(w'.cell? (c_ a 0)=some (i_ 5)/\w'.cell? (c_ a 1)=some (i_ (E:Int))/\w'.cell? (c_ a 2)=some (i_ (d:Int))/\w'.cell? (c_ a 3)=some (i_ c)/\w'.cell? (c_ a 4)=some (i_ n))/\w'.cell? (c_ gx (4+d*2))=some (.bool (x.sr d).r)/\w'.cell? (c_ gx (4+d*2+1))=some (i_ (x.sr d).n)) 17 k_ ?_;have C:=And.intro aD.drew.c5 (u0 (V.bk.drew) hb)
 have aL:(0:Int)<=(d:Int):=by omega
 have bN:(d:Int)<16:=by omega
 have f:=V.g_ j
 iterate 11 refine jR C ?_
 refine hQ 11 λK H=>?_
 go_simp
 (go_at_call 168;((with_reducible refine(qw b _ gx x (x.sr d) n f hs).mono ?_);rw[k.out];unfold An;rintro e ai⟨ao,rfl,B,bO,S⟩;have an:=h_ bO;clear bO))
 have m:ao.sr=x.sr:=Jg;have S:XG gx bh ai:=((XG.refl gx bh).g_ j).trans S;have ak:=aD.xg S t;clear C
 refine hS H ⟨ak.c5,by rw[<-m];exact(u0 (B.bk) hb)⟩ λC=>?_
 clear H K
 (iterate 5 refine jR C ?_)
 refine hA k_ ?_ _;have i:=bK.xg S ad;have l:=aM.trans S
 have aR:W.e.sm 800010:=by
  have q:=pS hs (x.sr d) n;rw[k.out]at q;exact q.mono d_
 clear f V aD bK aM S C j;replace an:Hid (ao.p=W):=an
 cases ok with
 |false=>
  have O:Hid (P=W):=h_ (by rw[<-u.out];show(if(ik x.p (x.sr d) n).2.2=true then kL (hM (ik x.p (x.sr d) n).1 (ik x.p (x.sr d) n).2.1 n).1 E (hM (ik x.p (x.sr d) n).1 (ik x.p (x.sr d) n).2.1 n).2 else(ik x.p (x.sr d) n).1)=_;rw[k.out];rfl);go_wp2;refine en_ ?_;exact Lm
 |true=>
  obtain⟨v,hv⟩:=mn_ ((hM ao.p id n).2);have aB:=h_ hv;clear hv
  have bX:ao.e.rs.l.length<=1000000:=by have q:=aR.rs;rw[<-an.out]at q;exact F_ q d_
  have aT:Hid (P=kL (hM ao.p id n).1 E v):=h_ (by rw[<-u.out];show(if(ik x.p (x.sr d) n).2.2=true then kL (hM (ik x.p (x.sr d) n).1 (ik x.p (x.sr d) n).2.1 n).1 E (hM (ik x.p (x.sr d) n).1 (ik x.p (x.sr d) n).2.1 n).2 else(ik x.p (x.sr d) n).1)=_;rw[k.out];show kL (hM W id n).1 E (hM W id n).2=_;rw[<-an.out,aB.out]);clear u k
  go_upto_region 6 with fail
  have j:Gr [] ai ai.drew:=(D_ [] ai).drew;have o:=B.g_ j;refine hC (λw'=>w'.cell? (c_ a 0)=some (i_ 5)/\w'.cell? (c_ a 1)=some (i_ (E:Int))/\w'.cell? (c_ a 2)=some (i_ (d:Int))/\w'.cell? (c_ a 3)=some (i_ c)/\w'.cell? (c_ a 4)=some (i_ n)) 13 k_ ?_
  refine nc ak.drew.c5 λC=>?_
  refine ih 0 C ?_;refine ih 1 C ?_;refine ih 2 C ?_;refine ih 3 C ?_;refine ih 4 C ?_;refine ih 5 C ?_;refine ih 6 C ?_;refine ih 8 C ?_;refine ih 9 C ?_;refine ih 10 C ?_;refine ih 11 C ?_
  refine hQ 7 λK H=>?_
  go_simp
  (go_at_call 118;((with_reducible refine(jD b _ gx ao id n o bX).mono ?_);unfold mF;rintro e T⟨aq,rfl,aj,aS,af⟩;have bf:=h_ aS;clear aS;rw[aB.out]))
  have af:XG gx ai T:=((XG.refl gx ai).g_ j).trans af;have aw:=ak.xg af t;clear C
  refine hS H aw.c5 λC=>?_
  clear H K;refine ih 12 C ?_;have bM:T.cell? (c_ gx (40+E*2))=some (.bool (aq.e.r E).r):=(aj.bk.f_ _).trans (j7 aq E ha).1;have bp:T.cell? (c_ gx (40+E*2+1))=some (i_ (aq.e.r E).n):=(aj.bk.f_ _).trans (j7 aq E ha).2;have bB:=aj.bk.hm (40+E*2);have bH:=aj.bk.hm (40+E*2+1)
  refine hQ 13 λK H=>?_
  go_simp
  have a2:Bk ((T.setCell (c_ gx (40+E*2)) (.bool v.r)).setCell (c_ gx (40+E*2+1)) (i_ v.n)) gx 186 (({aq with e:={aq.e with r:=pV aq.e.r E v}}:X1)).g8:=by rw[<-lh aq v E ha];exact(aj.bk.hJ (40+E*2) (.bool v.r)).hJ (40+E*2+1) (i_ v.n)
  have M:Gr [gx] T ((T.setCell (c_ gx (40+E*2)) (.bool v.r)).setCell (c_ gx (40+E*2+1)) (i_ v.n)):=(((D_ [gx] T).setCell (p:=(c_ gx (40+E*2))) (.inl s_) (.bool v.r)).setCell (p:=(c_ gx (40+E*2+1))) (.inl s_) (i_ v.n));refine H.out _ _ (λh=>D6 h d_) ?_;clear H K
  try simp only[a_]
  refine hA k_ ?_ _;go_wp2;refine en_ ?_;rw[aT.out,<-bf.out];exact⟨_,rfl,aj.rI M a2 rfl rfl rfl rfl rfl rfl rfl,rfl,(l.trans af).ig M⟩
theorem rest_6(d:Nat)(c:Int)(n:Int)(L:ke b w gx x)(ha:E<16)(hb:d<16)(hs:x.p.e.sm 800000):
 Calls prog 121 #[q_ gx,.agg #[i_ 6,i_ (E:Int),i_ (d:Int),i_ c,i_ n]] w (kE (.tuple #[]) (j5 x.p ⟨6,E,d,c,n⟩) b gx w):=by
 obtain⟨P,hP⟩:=mn_ (j5 x.p ⟨6,E,d,c,n⟩);rw[hP];have u:=h_ hP;clear hP;obtain⟨R,a,I,A,g,N,aH,t⟩:=rJ L #[i_ 6,i_ (E:Int),i_ (d:Int),i_ c,i_ n]
 go_enter func121,ntmps121
 go_upto_region 1 with fail
 clear I A;have Z:=N.f_ 0;have ap:Gr [] R R.drew:=(D_ [] R).drew;refine hC (λw'=>(w'.cell? (c_ a 0)=some (i_ 6)/\w'.cell? (c_ a 1)=some (i_ (E:Int))/\w'.cell? (c_ a 2)=some (i_ (d:Int))/\w'.cell? (c_ a 3)=some (i_ c)/\w'.cell? (c_ a 4)=some (i_ n))/\w'.cell? (c_ gx (4+E*2))=some (.bool (x.sr E).r)/\w'.cell? (c_ gx (4+E*2+1))=some (i_ (x.sr E).n)) 10 k_ ?_;have C:=And.intro N.drew.c5 (u0 (g.bk.drew) ha)
 have e0:(0:Int)<=(E:Int):=by omega
 have aP:(E:Int)<16:=by omega
 iterate 8 refine jR C ?_
 refine hQ 8 λK H=>?_
 go_simp;clear C
 refine hS H (rW N g.bk ha) λC=>?_
 clear H K
 refine hQ 9 λK H=>?_
 go_simp;clear C
 refine hS H (rW N g.bk ha) λC=>?_
 clear H K;refine hA k_ ?_ _;obtain⟨bh,ay,bF,fo,V,aD,bK,aM,ad⟩:=yH g N aH #[.bool (x.sr E).r,i_ (x.sr E).n];rw[bF,fo];clear bF fo g N aH ap C;have Z:=aD.f_ 0
 go_upto_region 8 with fail
 clear Z;obtain⟨⟨W,id,ok⟩,hy⟩:∃y,ik x.p (x.sr d) n=y:=⟨_,rfl⟩;have k:=h_ hy;clear hy;have j:Gr [] bh bh.drew:=(D_ [] bh).drew;refine hC (λw'=>(w'.cell? (c_ a 0)=some (i_ 6)/\w'.cell? (c_ a 1)=some (i_ (E:Int))/\w'.cell? (c_ a 2)=some (i_ (d:Int))/\w'.cell? (c_ a 3)=some (i_ c)/\w'.cell? (c_ a 4)=some (i_ n))/\w'.cell? (c_ gx (4+d*2))=some (.bool (x.sr d).r)/\w'.cell? (c_ gx (4+d*2+1))=some (i_ (x.sr d).n)) 17 k_ ?_;have C:=And.intro aD.drew.c5 (u0 (V.bk.drew) hb)
 have aL:(0:Int)<=(d:Int):=by omega
 have bN:(d:Int)<16:=by omega
 have f:=V.g_ j
 iterate 11 refine jR C ?_
 refine hQ 11 λK H=>?_
 go_simp
 (go_at_call 168;((with_reducible refine(qw b _ gx x (x.sr d) n f hs).mono ?_);rw[k.out];unfold An;rintro e ai⟨ao,rfl,B,bO,S⟩;have an:=h_ bO;clear bO))
 have m:ao.sr=x.sr:=Jg;have S:XG gx bh ai:=((XG.refl gx bh).g_ j).trans S;have ak:=aD.xg S t;clear C
 refine hS H ⟨ak.c5,by rw[<-m];exact(u0 (B.bk) hb)⟩ λC=>?_
 clear H K
 (iterate 5 refine jR C ?_)
 refine hA k_ ?_ _;have i:=bK.xg S ad;have l:=aM.trans S
 have aR:W.e.sm 800010:=by
  have q:=pS hs (x.sr d) n;rw[k.out]at q;exact q.mono d_
 clear f V aD bK aM S C j;replace an:Hid (ao.p=W):=an
 cases ok with
 |false=>
  have O:Hid (P=W):=h_ (by rw[<-u.out];show(if(ik x.p (x.sr d) n).2.2=true then hY (ik x.p (x.sr d) n).1 (ik x.p (x.sr d) n).2.1 n (x.sr E) else(ik x.p (x.sr d) n).1)=_;rw[k.out];rfl);go_wp2;refine en_ ?_;exact Lm
 |true=>
  have bX:ao.e.ws.l.length<=1000000:=by have q:=aR.ws;rw[<-an.out]at q;exact F_ q d_
  have aT:Hid (P=hY ao.p id n (x.sr E)):=h_ (by rw[<-u.out];show(if(ik x.p (x.sr d) n).2.2=true then hY (ik x.p (x.sr d) n).1 (ik x.p (x.sr d) n).2.1 n (x.sr E) else(ik x.p (x.sr d) n).1)=_;rw[k.out];show hY W id n (x.sr E)=_;rw[<-an.out]);clear u k;have v0:=i.f_ 0;have v1:=i.f_ 1;have aV:=ak.f_ 4
  go_wp2_with (go_at_call 163;((with_reducible refine(jT b _ gx ao id n (x.sr E) B bX).mono ?_);unfold kE;rintro e T⟨aq,rfl,aj,aS,af⟩;have bf:=h_ aS;clear aS))
  refine en_ ?_;rw[aT.out,<-bf.out];exact⟨aq,rfl,aj,rfl,l.trans af⟩
theorem rest_7(n:Int)(L:ke b w gx x)(ha:E<16)(h0:0<=n)(h1:n<=1000000):
 Calls prog 121 #[q_ gx,.agg #[i_ 7,i_ (E:Int),i_ X,i_ c,i_ n]] w (kE (.tuple #[]) (j5 x.p ⟨7,E,X,c,n⟩) b gx w):=by
 obtain⟨R,a,I,A,g,N,aH,t⟩:=rJ L #[i_ 7,i_ (E:Int),i_ X,i_ c,i_ n]
 go_enter func121,ntmps121
 go_upto_region 1 with fail
 clear I A;have Z:=N.f_ 0;have ap:Gr [] R R.drew:=(D_ [] R).drew;refine hC (λw'=>(w'.cell? (c_ a 0)=some (i_ 7)/\w'.cell? (c_ a 1)=some (i_ (E:Int))/\w'.cell? (c_ a 2)=some (i_ X)/\w'.cell? (c_ a 3)=some (i_ c)/\w'.cell? (c_ a 4)=some (i_ n))/\w'.cell? (c_ gx (4+E*2))=some (.bool (x.sr E).r)/\w'.cell? (c_ gx (4+E*2+1))=some (i_ (x.sr E).n)) 10 k_ ?_;have C:=And.intro N.drew.c5 (u0 (g.bk.drew) ha)
 have e0:(0:Int)<=(E:Int):=by omega
 have aP:(E:Int)<16:=by omega
 iterate 8 refine jR C ?_
 refine hQ 8 λK H=>?_
 go_simp;clear C
 refine hS H (rW N g.bk ha) λC=>?_
 clear H K
 refine hQ 9 λK H=>?_
 go_simp;clear C
 refine hS H (rW N g.bk ha) λC=>?_
 clear H K;refine hA k_ ?_ _;obtain⟨bh,ay,bF,fo,V,aD,bK,aM,ad⟩:=yH g N aH #[.bool (x.sr E).r,i_ (x.sr E).n];rw[bF,fo];clear bF fo g N aH ap C;have Z:=aD.f_ 0
 go_upto_region 12 with fail
 clear Z;obtain⟨ar,z,P,s,ax⟩:=info_parts infoVl;have j:Gr [] bh bh.drew:=(D_ [] bh).drew;refine hC (λw'=>(w'.cell? (c_ a 0)=some (i_ 7)/\w'.cell? (c_ a 1)=some (i_ (E:Int))/\w'.cell? (c_ a 2)=some (i_ X)/\w'.cell? (c_ a 3)=some (i_ c)/\w'.cell? (c_ a 4)=some (i_ n))/\w'.cell? (c_ gx 37)=some (i_ x.nx)) 13 k_ ?_;have B:=V.g_ j;have ak:=aD.g_ j;have l:=aM.g_ j;clear V aD bK aM j;obtain⟨aJ,ci⟩:=nm_ bh.drew;rw[<-ci]at B ak l |-;clear ci
 refine nc ⟨ak.c5,(B.bk.f_ 37).trans rfl⟩ λC=>?_
 iterate 7 refine jR C ?_
 refine hQ 7 λK H=>?_
 refine tN rfl _ _ _ rfl 38 ar _ 2 16 underlying54 z P s ax .i64 .i64 n r_ r_ h0 o_ o_ ?_;have bC:Gr [] aJ (aJ.alloc (.cells (madeCells #[.bool false,i_ 0] (n.toNat*2)) 38)):=(D_ [] aJ).alloc _;have bI:Vs (aJ.alloc (.cells (madeCells #[.bool false,i_ 0] (n.toNat*2)) 38)) (j_ aJ.heap.size) (List.replicate n.toNat default):=AA aJ n.toNat;have aj:=B.g_ bC;have aw:=ak.g_ bC;have k:=l.g_ bC;obtain⟨Q,f⟩:=nm_ (aJ.alloc (.cells (madeCells #[.bool false,i_ 0] (n.toNat*2)) 38));have m:aJ.alloc (.cells (madeCells (Value.cells (.agg #[.bool false,i_ 0])) (n.toNat*2)) 38)=Q:=f.symm;rw[<-f]at bI aj aw k;rw[m];clear f m bC B ak l;generalize aJ.heap.size=d at*;clear C
 refine hS H ⟨aw.c5,(aj.bk.f_ 37).trans rfl⟩ λC=>?_
 clear H K;refine ih 8 C ?_
 refine hQ 9 λK H=>?_
 go_simp;obtain⟨av,bC⟩:=De Q 56 #[i_ x.nx,.slice (j_ d) n.toNat n.toNat];have aZ:=aj.g_ bC;have y:=aw.g_ bC;have be:=k.g_ bC;have ag:=bI.g_ bC;clear C
 refine hS H ⟨y.c5,(aZ.bk.f_ 37).trans rfl⟩ λC=>?_
 clear H K;clear aj aw k bI;obtain⟨bR,bT⟩:=nm_ (Q.alloc (.cells #[i_ x.nx,.slice (j_ d) n.toNat n.toNat] 56));rw[<-bT]at av aZ y be ag C |-;clear bT;clear bC;generalize Q.heap.size=i at*
 (iterate 3 refine jR C ?_)
 have ah:bR.cell? (c_ gx 74)=some (.slice x.e.nw.A x.e.nw.l.length x.e.nw.c):=(aZ.bk.f_ 74).trans rfl;have U:=aZ.bk.hm 74;have M:=(D_ [gx] bR).setCell (p:=(c_ gx 74)) (.inl s_) (.slice (j_ i) 1 1);have a2:Bk (bR.setCell (c_ gx 74) (.slice (j_ i) 1 1)) gx 186 ({x with e:={x.e with nw:=⟨some (c_ i 0),1,[⟨⟨x.nx,List.replicate n.toNat default⟩,some (c_ d 0),n.toNat⟩]⟩}}:X1).g8:=aZ.bk.hJ 74 (.slice (j_ i) 1 1)
 have W:Os bR (j_ i) [⟨⟨x.nx,List.replicate n.toNat default⟩,some (c_ d 0),n.toNat⟩]:=by
  have q:=xw (r:=⟨⟨x.nx,List.replicate n.toNat default⟩,some (c_ d 0),n.toNat⟩) (by
   show Bk bR i 56 #[i_ x.nx,.slice (j_ d) (List.replicate n.toNat (default:Vl)).length n.toNat]
   rw[EE]
   exact av)
  exact q
 have az:mW bR [⟨⟨x.nx,List.replicate n.toNat default⟩,some (c_ d 0),n.toNat⟩]:=by
  intro r hr
  have:r=⟨⟨x.nx,List.replicate n.toNat default⟩,some (c_ d 0),n.toNat⟩:=by simpa using hr
  subst this;exact⟨ag,by show(List.replicate n.toNat (default:Vl)).length<=1000000000;rw[EE];omega⟩
 have F:=aZ.AD (x':=({x with e:={x.e with nw:=⟨some (c_ i 0),1,[⟨⟨x.nx,List.replicate n.toNat default⟩,some (c_ d 0),n.toNat⟩]⟩}}:X1)) M a2 rfl rfl rfl rfl W az aZ.ds aZ.hU (G_ 1) aZ.rL aZ.px;have aG:=be.ig M;have o:=y.gr M (by simpa using t)
 refine hQ 13 λK H=>?_
 go_simp;refine H.out _ _ (λh=>D6 h d_) ?_;clear H K
 try simp only[a_]
 clear C aZ y be ag av W az a2 ah U M;obtain⟨bQ,J⟩:=nm_ ({x with e:={x.e with nw:=⟨some (c_ i 0),1,[⟨⟨x.nx,List.replicate n.toNat default⟩,some (c_ d 0),n.toNat⟩]⟩}}:X1);rw[<-J]at F;have O:Hid ((j5 x.p ⟨7,E,X,c,n⟩)=kL bQ.p E ⟨true,bQ.nx⟩):=h_ (by rw[J];rfl);clear J;obtain⟨bl,bV⟩:=nm_ (bR.setCell (c_ gx 74) (.slice (j_ i) 1 1));rw[<-bV]at F o aG |-;clear bV;refine hA k_ ?_ _
 go_upto_region 13 with fail
 refine hC (λw'=>(w'.cell? (c_ a 0)=some (i_ 7)/\w'.cell? (c_ a 1)=some (i_ (E:Int))/\w'.cell? (c_ a 2)=some (i_ X)/\w'.cell? (c_ a 3)=some (i_ c)/\w'.cell? (c_ a 4)=some (i_ n))/\w'.cell? (c_ gx 37)=some (i_ bQ.nx)) 13 k_ ?_;have j:Gr [] bl bl.drew:=(D_ [] bl).drew;replace F:=F.g_ j;replace o:=o.g_ j;replace aG:=aG.g_ j;clear j;obtain⟨bt,G⟩:=nm_ bl.drew;rw[<-G]at F o aG |-;clear G
 refine nc ⟨o.c5,(F.bk.f_ 37).trans rfl⟩ λC=>?_
 (iterate 13 refine jR C ?_)
 have bM:bt.cell? (c_ gx (40+E*2))=some (.bool (bQ.e.r E).r):=(F.bk.f_ _).trans (j7 bQ E ha).1;have bp:bt.cell? (c_ gx (40+E*2+1))=some (i_ (bQ.e.r E).n):=(F.bk.f_ _).trans (j7 bQ E ha).2;have bB:=F.bk.hm (40+E*2);have bH:=F.bk.hm (40+E*2+1)
 refine hQ 13 λK H=>?_
 go_simp
 have a2:Bk ((bt.setCell (c_ gx (40+E*2)) (.bool true)).setCell (c_ gx (40+E*2+1)) (i_ bQ.nx)) gx 186 ({bQ with e:={bQ.e with r:=pV bQ.e.r E ⟨true,bQ.nx⟩}}:X1).g8:=by rw[<-lh bQ ⟨true,bQ.nx⟩ E ha];exact(F.bk.hJ (40+E*2) (.bool true)).hJ (40+E*2+1) (i_ bQ.nx)
 have M:Gr [gx] bt ((bt.setCell (c_ gx (40+E*2)) (.bool true)).setCell (c_ gx (40+E*2+1)) (i_ bQ.nx)):=(((D_ [gx] bt).setCell (p:=(c_ gx (40+E*2))) (.inl s_) (.bool true)).setCell (p:=(c_ gx (40+E*2+1))) (.inl s_) (i_ bQ.nx));refine H.out _ _ (λh=>D6 h d_) ?_;clear H K
 try simp only[a_]
 refine hA k_ ?_ _;go_wp2;refine en_ ?_;rw[O.out];exact⟨_,rfl,F.rI M a2 rfl rfl rfl rfl rfl rfl rfl,rfl,aG.ig M⟩
theorem qj{P:Program}{w:World}{ops:Array Oper}{o:Oper}{a:Act}{K:Act->World->Prop}{Q:Exit->Act->World->Prop}{E:Prop}(ap:o.guard=none)(t:TypeId)
 (ho:o.op=.makeMap t none) (h:K (a.put o.dst (.map (some w.heap.size))) (w.alloc (.map #[] 0))):
 if Region.wanted o (yielded ops a.tmps)=true then Oper.wp P o a w K Q else E:=by
 have aK:Region.wanted o (yielded ops a.tmps)=true:=by simp[Region.wanted,ap]
 rw[Q_ aK];have H:(Instr.makeMap t none).run P w=.ok (.map (some w.heap.size)) (w.alloc (.map #[] 0)):=rfl;unfold Oper.wp execOp;simp only[ho,Option.map_none,Sem.run_bind,Sem.run_pure,Result.andThen_ok,H];exact h
theorem pm{b:Nat}{w w':World}(hg:w.grownBy w' (some b)){a:World}(h:Gr [] a w)(hb:a.heap.size<=b):Gr [] a w':=
 h.grown hg (λk hk=>by injection hk with hk;subst hk;exact .inr hb)
theorem rest_15(n:Int)(L:ke b w gx x)(ha:E<16)(hs:x.p.e.sm 800000):
 Calls prog 121 #[q_ gx,.agg #[i_ 15,i_ (E:Int),i_ X,i_ c,i_ n]] w (kE (.tuple #[]) (j5 x.p ⟨15,E,X,c,n⟩) b gx w):=by
 obtain⟨P,hP⟩:=mn_ (j5 x.p ⟨15,E,X,c,n⟩);rw[hP];have u:=h_ hP;clear hP;obtain⟨R,a,I,A,g,N,aH,t⟩:=rJ L #[i_ 15,i_ (E:Int),i_ X,i_ c,i_ n]
 go_enter func121,ntmps121
 go_upto_region 1 with fail
 clear I A;have Z:=N.f_ 0;have ap:Gr [] R R.drew:=(D_ [] R).drew;refine hC (λw'=>(w'.cell? (c_ a 0)=some (i_ 15)/\w'.cell? (c_ a 1)=some (i_ (E:Int))/\w'.cell? (c_ a 2)=some (i_ X)/\w'.cell? (c_ a 3)=some (i_ c)/\w'.cell? (c_ a 4)=some (i_ n))/\w'.cell? (c_ gx (4+E*2))=some (.bool (x.sr E).r)/\w'.cell? (c_ gx (4+E*2+1))=some (i_ (x.sr E).n)) 10 k_ ?_;have C:=And.intro N.drew.c5 (u0 (g.bk.drew) ha)
 have e0:(0:Int)<=(E:Int):=by omega
 have aP:(E:Int)<16:=by omega
 iterate 8 refine jR C ?_
 refine hQ 8 λK H=>?_
 go_simp;clear C
 refine hS H (rW N g.bk ha) λC=>?_
 clear H K
 refine hQ 9 λK H=>?_
 go_simp;clear C
 refine hS H (rW N g.bk ha) λC=>?_
 clear H K;refine hA k_ ?_ _;obtain⟨bh,ay,bF,fo,V,aD,bK,aM,ad⟩:=yH g N aH #[.bool (x.sr E).r,i_ (x.sr E).n];rw[bF,fo];clear bF fo g N aH ap C;have Z:=aD.f_ 0
 go_upto_region 36 with(go_at_call 116;((with_reducible refine(qr b _ gx x V).mono ?_);unfold kE;rintro e ai⟨ao,rfl,B,bO,S⟩;have an:=h_ bO;clear bO))
 clear Z;have ak:=aD.xg S t;have l:=aM.trans S
 have aR:ao.p.e.sm 800010:=by rw[an.out];exact(show(iA x.p).e.sm 800010 from hs.mono d_)
 have bX:ao.e.rs.l.length<=1000000:=F_ aR.rs d_;have m:ai.cell? (c_ gx 81)=some (.bool ao.hF):=(B.bk.f_ 81).trans rfl;clear V aD aM bK S aR
 cases d:ao.hF with
 |true=>
  have O:Hid (P=ao.p):=h_ (by rw[<-u.out];show(if(iA x.p).hF=true then iA x.p else kL (hM (iA x.p) 1 1).1 E (hM (iA x.p) 1 1).2)=_;rw[<-an.out];exact Q_ d);exact Lg
 |false=>
  obtain⟨v,hv⟩:=mn_ ((hM ao.p 1 1).2);have aB:=h_ hv;clear hv;have aT:Hid (P=kL (hM ao.p 1 1).1 E v):=h_ (by rw[<-u.out];show(if(iA x.p).hF=true then iA x.p else kL (hM (iA x.p) 1 1).1 E (hM (iA x.p) 1 1).2)=_;rw[<-an.out,aB.out];exact P_ (by show ¬ao.hF=true;rw[d];decide));clear u an;rw[d]at m;clear d
  go_upto_region 37 with fail
  clear m;refine hC (λw'=>w'.cell? (c_ a 0)=some (i_ 15)/\w'.cell? (c_ a 1)=some (i_ (E:Int))/\w'.cell? (c_ a 2)=some (i_ X)/\w'.cell? (c_ a 3)=some (i_ c)/\w'.cell? (c_ a 4)=some (i_ n)) 17 k_ ?_;have j:Gr [] ai ai.drew:=(D_ [] ai).drew;replace B:=B.g_ j;replace ak:=ak.g_ j;replace l:=l.g_ j;clear j;obtain⟨J,z⟩:=nm_ ai.drew;rw[<-z]at B ak l |-;clear z
  refine nc ak.c5 λC=>?_
  refine ih 0 C ?_;refine ih 1 C ?_;refine ih 2 C ?_;refine ih 3 C ?_;refine ih 8 C ?_;refine ih 9 C ?_;refine ih 12 C ?_;refine ih 13 C ?_;refine ih 14 C ?_;refine ih 15 C ?_
  refine hQ 4 λK H=>?_
  refine qj rfl _ rfl ?_;have W:Im (J.alloc (.map #[] 0)) J.heap.size 0 (λ_=>0):=Im.made J;clear C
  refine hS H (ak.g_ ((D_ [] J).alloc _)).c5 λC=>?_
  clear H K;refine i6 5 6 rfl rfl k_ (λK H=>?_) (λK H=>?_)
  ·
   obtain⟨bS,k,i,aI⟩:=W.update d_ (show(Lit.int .i64 15).wf=true by decide) (show(Lit.int .i64 1).wf=true by decide);refine kH rfl _ _ _ _ rfl _ _ _ r_ r_ r_ k ?_;have aK:Gr [] J bS:=pm aI ((D_ [] J).alloc _) (G_ _);clear C
   refine hS H (ak.g_ aK).c5 λC=>?_
   clear H K
   refine hQ 6 λK H=>?_
   obtain⟨bn,bD,dx,o⟩:=i.update d_ (show(Lit.int .i64 18).wf=true by decide) (show(Lit.int .i64 2).wf=true by decide);exact Gh
  ·
   obtain⟨bS,k,i,aI⟩:=W.update d_ (show(Lit.int .i64 18).wf=true by decide) (show(Lit.int .i64 2).wf=true by decide);refine kH rfl _ _ _ _ rfl _ _ _ r_ r_ r_ k ?_;have aK:Gr [] J bS:=pm aI ((D_ [] J).alloc _) (G_ _);clear C
   refine hS H (ak.g_ aK).c5 λC=>?_
   clear H K
   refine hQ 5 λK H=>?_
   obtain⟨bn,bD,dx,o⟩:=i.update d_ (show(Lit.int .i64 15).wf=true by decide) (show(Lit.int .i64 1).wf=true by decide);exact Gh
theorem rest_18(n:Int)(L:ke b w gx x)(ha:E<16)(hs:x.p.e.sm 800000):
 Calls prog 121 #[q_ gx,.agg #[i_ 18,i_ (E:Int),i_ X,i_ c,i_ n]] w (kE (.tuple #[]) (j5 x.p ⟨18,E,X,c,n⟩) b gx w):=by
 obtain⟨P,hP⟩:=mn_ (j5 x.p ⟨18,E,X,c,n⟩);rw[hP];have u:=h_ hP;clear hP;obtain⟨R,a,I,A,g,N,aH,t⟩:=rJ L #[i_ 18,i_ (E:Int),i_ X,i_ c,i_ n]
 go_enter func121,ntmps121
 go_upto_region 1 with fail
 clear I A;have Z:=N.f_ 0;have ap:Gr [] R R.drew:=(D_ [] R).drew;refine hC (λw'=>(w'.cell? (c_ a 0)=some (i_ 18)/\w'.cell? (c_ a 1)=some (i_ (E:Int))/\w'.cell? (c_ a 2)=some (i_ X)/\w'.cell? (c_ a 3)=some (i_ c)/\w'.cell? (c_ a 4)=some (i_ n))/\w'.cell? (c_ gx (4+E*2))=some (.bool (x.sr E).r)/\w'.cell? (c_ gx (4+E*2+1))=some (i_ (x.sr E).n)) 10 k_ ?_;have C:=And.intro N.drew.c5 (u0 (g.bk.drew) ha)
 have e0:(0:Int)<=(E:Int):=by omega
 have aP:(E:Int)<16:=by omega
 iterate 8 refine jR C ?_
 refine hQ 8 λK H=>?_
 go_simp;clear C
 refine hS H (rW N g.bk ha) λC=>?_
 clear H K
 refine hQ 9 λK H=>?_
 go_simp;clear C
 refine hS H (rW N g.bk ha) λC=>?_
 clear H K;refine hA k_ ?_ _;obtain⟨bh,ay,bF,fo,V,aD,bK,aM,ad⟩:=yH g N aH #[.bool (x.sr E).r,i_ (x.sr E).n];rw[bF,fo];clear bF fo g N aH ap C;have Z:=aD.f_ 0
 go_upto_region 36 with(go_at_call 116;((with_reducible refine(qr b _ gx x V).mono ?_);unfold kE;rintro e ai⟨ao,rfl,B,bO,S⟩;have an:=h_ bO;clear bO))
 clear Z;have ak:=aD.xg S t;have l:=aM.trans S
 have aR:ao.p.e.sm 800010:=by rw[an.out];exact(show(iA x.p).e.sm 800010 from hs.mono d_)
 have bX:ao.e.rs.l.length<=1000000:=F_ aR.rs d_;have m:ai.cell? (c_ gx 81)=some (.bool ao.hF):=(B.bk.f_ 81).trans rfl;clear V aD aM bK S aR
 cases d:ao.hF with
 |true=>
  have O:Hid (P=ao.p):=h_ (by rw[<-u.out];show(if(iA x.p).hF=true then iA x.p else kL (hM (iA x.p) 1 2).1 E (hM (iA x.p) 1 2).2)=_;rw[<-an.out];exact Q_ d);exact Lg
 |false=>
  obtain⟨v,hv⟩:=mn_ ((hM ao.p 1 2).2);have aB:=h_ hv;clear hv;have aT:Hid (P=kL (hM ao.p 1 2).1 E v):=h_ (by rw[<-u.out];show(if(iA x.p).hF=true then iA x.p else kL (hM (iA x.p) 1 2).1 E (hM (iA x.p) 1 2).2)=_;rw[<-an.out,aB.out];exact P_ (by show ¬ao.hF=true;rw[d];decide));clear u an;rw[d]at m;clear d
  go_upto_region 37 with fail
  clear m;refine hC (λw'=>w'.cell? (c_ a 0)=some (i_ 18)/\w'.cell? (c_ a 1)=some (i_ (E:Int))/\w'.cell? (c_ a 2)=some (i_ X)/\w'.cell? (c_ a 3)=some (i_ c)/\w'.cell? (c_ a 4)=some (i_ n)) 17 k_ ?_;have j:Gr [] ai ai.drew:=(D_ [] ai).drew;replace B:=B.g_ j;replace ak:=ak.g_ j;replace l:=l.g_ j;clear j;obtain⟨J,z⟩:=nm_ ai.drew;rw[<-z]at B ak l |-;clear z
  refine nc ak.c5 λC=>?_
  refine ih 0 C ?_;refine ih 1 C ?_;refine ih 2 C ?_;refine ih 3 C ?_;refine ih 8 C ?_;refine ih 9 C ?_;refine ih 12 C ?_;refine ih 13 C ?_;refine ih 14 C ?_;refine ih 15 C ?_
  refine hQ 4 λK H=>?_
  refine qj rfl _ rfl ?_;have W:Im (J.alloc (.map #[] 0)) J.heap.size 0 (λ_=>0):=Im.made J;clear C
  refine hS H (ak.g_ ((D_ [] J).alloc _)).c5 λC=>?_
  clear H K;refine i6 5 6 rfl rfl k_ (λK H=>?_) (λK H=>?_)
  ·
   obtain⟨bS,k,i,aI⟩:=W.update d_ (show(Lit.int .i64 15).wf=true by decide) (show(Lit.int .i64 1).wf=true by decide);refine kH rfl _ _ _ _ rfl _ _ _ r_ r_ r_ k ?_;have aK:Gr [] J bS:=pm aI ((D_ [] J).alloc _) (G_ _);clear C
   refine hS H (ak.g_ aK).c5 λC=>?_
   clear H K
   refine hQ 6 λK H=>?_
   obtain⟨bn,bD,dx,o⟩:=i.update d_ (show(Lit.int .i64 18).wf=true by decide) (show(Lit.int .i64 2).wf=true by decide);exact Gi
  ·
   obtain⟨bS,k,i,aI⟩:=W.update d_ (show(Lit.int .i64 18).wf=true by decide) (show(Lit.int .i64 2).wf=true by decide);refine kH rfl _ _ _ _ rfl _ _ _ r_ r_ r_ k ?_;have aK:Gr [] J bS:=pm aI ((D_ [] J).alloc _) (G_ _);clear C
   refine hS H (ak.g_ aK).c5 λC=>?_
   clear H K
   refine hQ 5 λK H=>?_
   obtain⟨bn,bD,dx,o⟩:=i.update d_ (show(Lit.int .i64 15).wf=true by decide) (show(Lit.int .i64 1).wf=true by decide);exact Gi
end Go.Proofs.YtenbhdilndfaeaaGreat
