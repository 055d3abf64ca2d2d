import Derived.Test.YtenbhdilndfaeaaGreatM29
set_option maxRecDepth 100000
set_option maxHeartbeats 0
set_option linter.all false
namespace Go.Proofs.YtenbhdilndfaeaaGreat
open Go.RowKit Go.Proofs.Tryz
variable{G:Prop}{d:Dl}{l:List Cl}{g:Nat}{c:Cl}(rs:List Cl)(h:List Ob)(t:Tk)
theorem Je(h:G:=by
 try simp only[a_]
 refine wpList_nil ?_;go_wp2;go_meet;exact⟨iY aY.out.symm,(aI.trans o).trans ap⟩):G:=h
theorem Jf(h:G:=by
 exact lA t3.g8 (.bool false) az underlying53 (by rw[a2.out];exact⟨t3,rfl,ar,λP h=>by cases h⟩)):G:=h
def uF(o:Option jg)(w:World)(e:Ending)(w':World):Prop:=∃t:Tk,e=.returned (.tuple #[.agg t.g8,.bool o.isSome])/\Gr [] w w'/\∀P,o=some P->kY w' t/\t.p=P
theorem zx{t:jg}{rs ws:List Cl}{l:List Dl}(h:take t d=none):jK t rs ws (d::l)=jK t rs ws l:=by
 rw[jK,h]
theorem x8{t t':jg}{rs ws:List Cl}{l:List Dl}(h:take t d=some t'):jK t rs ws (d::l)=jK t' (jv rs d) (jv ws d) l:=by
 rw[jK,h]
theorem Cs.ig{w w':World}{A:Option Addr}{t:TypeId}{cs:Array Value}(h:Cs w A l)(hk:Bk w g t cs)(av:116≠t)(hg:Gr [g] w w'):Cs w' A l:=Sl.ig h hk av hg
def mQ(t:jg)(c:Cl):Bool:=decide (0<=js t.nw c.id∨0<=cat t.ws c.id c.f∨0<=cat t.rs c.id c.f)
theorem wx{view:List Ob}{t:jg}(h:mQ t c=true):kg view t (c::l)=kg view t l:=by
 have o:0<=js t.nw c.id∨0<=cat t.ws c.id c.f∨0<=cat t.rs c.id c.f:=by simpa[mQ]using h
 rw[kg,q5,Q_ o]
theorem LB{view:List Ob}{t:jg}(h:mQ t c=false)(hd:oT t.ds c.id c.f<0):q5 view t c=some {t with rs:=kk t.rs c}:=by
 have o:¬(0<=js t.nw c.id∨0<=cat t.ws c.id c.f∨0<=cat t.rs c.id c.f):=by simpa[mQ]using h
 rw[q5,P_ o,P_ o_]
theorem x7{view:List Ob}{t:jg}(h:mQ t c=false)(hd:oT t.ds c.id c.f<0):kg view t (c::l)=kg view {t with rs:=kk t.rs c} l:=by
 rw[kg,LB h hd]
theorem LA{view:List Ob}{t:jg}(h:mQ t c=false)(hd:0<=oT t.ds c.id c.f):q5 view t c=jV t view c.id c.f:=by
 have o:¬(0<=js t.nw c.id∨0<=cat t.ws c.id c.f∨0<=cat t.rs c.id c.f):=by simpa[mQ]using h
 rw[q5,P_ o,Q_ hd]
theorem zw{view:List Ob}{t:jg}(h:mQ t c=false)(hd:0<=oT t.ds c.id c.f)(hs:jV t view c.id c.f=none):kg view t (c::l)=none:=by
 rw[kg,LA h hd,hs]
theorem x6{view:List Ob}{t t':jg}(h:mQ t c=false)(hd:0<=oT t.ds c.id c.f)(hs:jV t view c.id c.f=some t'):kg view t (c::l)=kg view t' l:=by
 rw[kg,LA h hd,hs]
theorem zv{view:List Ob}{t:jg}(hs:jV t view c.id c.f=none):kP view t (c::l)=none:=by
 rw[kP,tw,hs]
 rfl
theorem x5{view:List Ob}{t t':jg}(hs:jV t view c.id c.f=some t'):kP view t (c::l)=kP view (ki t' c) l:=by
 rw[kP,tw,hs]
 rfl
theorem CR:116≠134/\56≠134/\38≠134/\124≠134/\162≠134:=by decide
theorem ww(A:Option Addr)(c:Nat)(l:List Rw)(f:Ef)(w:World)(X:kY w t)(h:l5 w A c l)(he:sd w f)(hs:t.p.sm 1000000)(hes:f.p.sm 1000)(hl:l.length<=100000000):
 Calls prog 81 #[.agg t.g8,.agg #[.slice A l.length c],.agg f.g8] w (uF (record t.p (hN l) f.p) w):=by
 obtain⟨V,z,hE,hR,J⟩:=BC w 53 t.g8 35 #[.slice A l.length c] 134 f.g8 53 lp
 go_enter func81,ntmps81
 go_upto_region 1 with fail
 obtain⟨W,I⟩:=nm_ ((((w.alloc (.cells t.g8 53)).alloc (.cells #[.slice A l.length c] 35)).alloc (.cells f.g8 134)).alloc (.cells lp 53));rw[<-I]at V z hE hR J |-;clear I;have aE:W.cell? (c_ (w.heap.size+1+1) 37)=some (.slice f.ds.A f.ds.l.length f.ds.c):=(hE.f_ 37).trans rfl;go_wp2
 go_loopw [20] (λi wr=>∃(k:Nat) (t1:Tk) (rs ws:Sv Cl),k<=f.ds.l.length/\i=i_ k/\Bk wr (w.heap.size) 53 t1.g8/\Bk wr (w.heap.size+1+1) 134 ({f with rs:=rs,ws:=ws}:Ef).g8/\Bk wr (w.heap.size+1) 35 #[.slice A l.length c]/\Bk wr (w.heap.size+1+1+1) 53 lp/\kY wr t1/\Cs wr rs.A rs.l/\Cs wr ws.A ws.l/\rs.ok/\ws.ok/\jK t.p f.rs.l f.ws.l f.ds.l=jK t1.p rs.l ws.l (f.ds.l.drop k)/\t1.p.sm (1000000+k)/\rs.l.length<=1000/\ws.l.length<=1000/\Gr [] w wr) (λi _=>f.ds.l.length-(intOf i).toNat)
 case atStart=>exact⟨0,t,f.rs,f.ws,N_ _,rfl,V,hE,z,hR,X.g_ J,(he.g_ J).rs,(he.g_ J).ws,he.la,he.uQ,rfl,hs.mono o_,hes.rs,hes.ws,J⟩
 case round=>
  clear V hE z hR J aE;obtain⟨k,t1,rs,ws,hk,rfl,V,hE,z,hR,bQ,ax,j,dh,dm,aR,ao,bh,c8,F⟩:=hrel;have aq:=h_ aR;clear aR;have cZ:=hes.ds
  by_cases aj:k<f.ds.l.length
  .have aL:(k:Int)<(f.ds.l.length:Int):=by omega
   have dt:f.ds.l.length<=1000:=cZ;have bp:t1.ds.l.length<=1000000000:=F_ ao.ds o_
   have bI:t1.nw.l.length<=1000000000:=by have:=ao.nw;rw[show t1.p.nw=hN t1.nw.l from rfl,hW]at this;omega
   have bP:t1.ws.l.length<=1000000000:=F_ ao.ws o_;have c6:t1.rs.l.length<=1000000000:=F_ ao.rs o_;obtain⟨b,off,aX,bj,be,bJ,bU,bu⟩:=((he.g_ F).ds).at_ aj;rw[aX];have aU:=h_ (show f.ds.l.drop k=f.ds.l[k]::f.ds.l.drop (k+1) from X_ aj);generalize f.ds.l[k]=d at*;have aI:=(D_ [] wr).alloc (.cells #[i_ d.id,i_ d.f,i_ d.op,.bool d.v.r,i_ d.v.n] 124);have c3:w.heap.size+1+1+1<wr.heap.size:=hR.lt;have L:=L_ wr 124 #[i_ d.id,i_ d.f,i_ d.op,.bool d.v.r,i_ d.v.n]
   go_upto_region 5 with fail
   replace V:=V.g_ aI;replace hE:=hE.g_ aI;replace z:=z.g_ aI;replace hR:=hR.g_ aI;replace bQ:=bQ.g_ aI;replace ax:=Sl.g_ ax aI;replace j:=Sl.g_ j aI;replace F:=F.trans aI;clear aI bj be bJ bU bu aX;obtain⟨a6,bv⟩:=nm_ (wr.alloc (.cells #[i_ d.id,i_ d.f,i_ d.op,.bool d.v.r,i_ d.v.n] 124));rw[<-bv]at V hE z hR L F bQ ax j |-;clear bv;generalize wr.heap.size=n at*;have Z:=L.f_ 0;have ah:=L.f_ 1;have au:=L.f_ 2;have aQ:=L.f_ 3;have aV:=L.f_ 4
   cases bN:take t1.p d with
   |none=>
    have bL:=h_ bN;clear bN
    go_wp2_with (first|(refine kJ V underlying53 ?_)|(go_at_call 126;((with_reducible refine(AG t1 d _ bQ bp bI bP c6 bL.out).mono ?_);unfold mS;rintro D ai⟨ak,rfl,E,aN,S⟩;have br:=L_ ai 53 lp;have cA:w.heap.size+1+1+1<ai.heap.size:=ER hR.lt S.size;have di:n<ai.heap.size:=ER L.lt S.size))|(refine kG (ak.g8) br (Tk.one _) ?_;intro T b8 af))
    have Q:Gr [] a6 T:=(S.alloc (.cells lp 53)).hx af (by simp;exact S.size);go_roundw
    case rel=>exact⟨k+1,t1,rs,ws,by omega,by go_num,V.g_ Q,hE.g_ Q,z.g_ Q,hR.g_ Q,bQ.g_ Q,Sl.g_ ax Q,Sl.g_ j Q,dh,dm,by rw[aq.out,aU.out,zx bL.out],ao.mono o_,bh,c8,F.trans Q⟩
    case measure=>simp[intOf];omega
   |some P=>
    have bL:=h_ bN;clear bN
    go_upto_region 7 with(first|(refine kJ V underlying53 ?_)|(go_at_call 126;((with_reducible refine(y5 t1 d P _ bQ bp bI bP c6 bL.out).mono ?_);unfold mS;rintro D ai⟨ak,rfl,E,aN,S⟩;have br:=L_ ai 53 lp;have cA:w.heap.size+1+1+1<ai.heap.size:=ER hR.lt S.size;have di:n<ai.heap.size:=ER L.lt S.size))|(refine kG (ak.g8) br (Tk.one _) ?_;intro T b8 af))
    have s:=h_ aN;clear aN;have Q:Gr [] a6 T:=(S.alloc (.cells lp 53)).hx af (by simp;exact S.size);have aw:Gr [] ai T:=((D_ [] ai).alloc (.cells lp 53)).hx af s_;replace V:=V.g_ Q;replace hE:=hE.g_ Q;replace z:=z.g_ Q;replace hR:=hR.g_ Q;replace L:=L.g_ Q;replace E:=E.g_ aw;replace ax:=ax.g_ Q;replace j:=j.g_ Q;replace F:=F.trans Q;clear S af Q aw bQ br Z ah au aQ aV;generalize ai.heap.size=dr at*
    go_upto_region 8 with(first|(refine kJ b8 underlying53 ?_)|(refine kG (ak.g8) V (Tk.one _) ?_;intro ae ci am))
    replace hE:=hE.gr am sd_;replace z:=z.gr am sd_;replace hR:=hR.gr am sd_;replace L:=L.gr am sd_;replace E:=E.ig V ss am;replace ax:=Sl.ig ax V d_ am;replace j:=Sl.ig j V d_ am;replace F:=F.hx am s_;replace V:=ci;clear ci am b8
    have cW:ae.drew.cell? (c_ (w.heap.size+1+1) 34)=some (.slice rs.A rs.l.length rs.c)/\ae.drew.cell? (c_ (w.heap.size+1+1) 35)=some (.slice ws.A ws.l.length ws.c)/\ae.drew.cell? (c_ n 0)=some (i_ d.id)/\ae.drew.cell? (c_ n 1)=some (i_ d.f)/\ae.drew.cell? (c_ n 2)=some (i_ d.op)/\ae.drew.cell? (c_ n 3)=some (.bool d.v.r)/\ae.drew.cell? (c_ n 4)=some (i_ d.v.n):=
     ⟨(hE.drew.f_ 34).trans rfl,(hE.drew.f_ 35).trans rfl,L.drew.f_ 0,L.drew.f_ 1,L.drew.f_ 2,L.drew.f_ 3,L.drew.f_ 4⟩
    have U:=h_ (And.intro hE.drew L.drew);have bt:Hid (Cs ae.drew rs.A rs.l/\Cs ae.drew ws.A ws.l):=h_ ⟨Sl.g_ ax (D_ [] ae).drew,Sl.g_ j (D_ [] ae).drew⟩;refine hC (λw'=>w'.cell? (c_ (w.heap.size+1+1) 34)=some (.slice rs.A rs.l.length rs.c)/\w'.cell? (c_ (w.heap.size+1+1) 35)=some (.slice ws.A ws.l.length ws.c)/\w'.cell? (c_ n 0)=some (i_ d.id)/\w'.cell? (c_ n 1)=some (i_ d.f)/\w'.cell? (c_ n 2)=some (i_ d.op)/\w'.cell? (c_ n 3)=some (.bool d.v.r)/\w'.cell? (c_ n 4)=some (i_ d.v.n)) 9 k_ ?_;have C:=cW;clear cW;refine ih 0 C ?_;refine ih 2 C ?_;refine ih 4 C ?_;refine ih 6 C ?_;refine ih 1 C ?_;refine ih 5 C ?_
    refine hQ 3 λK H=>?_
    go_simp
    (go_at_call 127;((with_reducible refine(rk rs.A rs.c rs.l d _ bt.out.1 o_).mono ?_);unfold rP;rintro D aF⟨aJ,cv,rfl,dg,bM,aC⟩))
    have bZ:=And.intro ((U.out.1.g_ aC).f_ 34) ((U.out.1.g_ aC).f_ 35);clear C;have C:aF.cell? (c_ (w.heap.size+1+1) 34)=some (.slice rs.A rs.l.length rs.c)/\aF.cell? (c_ (w.heap.size+1+1) 35)=some (.slice ws.A ws.l.length ws.c)/\aF.cell? (c_ n 0)=some (i_ d.id)/\aF.cell? (c_ n 1)=some (i_ d.f)/\aF.cell? (c_ n 2)=some (i_ d.op)/\aF.cell? (c_ n 3)=some (.bool d.v.r)/\aF.cell? (c_ n 4)=some (i_ d.v.n):=⟨((U.out.1.g_ aC).f_ 34).trans rfl,((U.out.1.g_ aC).f_ 35).trans rfl,(U.out.2.g_ aC).f_ 0,(U.out.2.g_ aC).f_ 1,(U.out.2.g_ aC).f_ 2,(U.out.2.g_ aC).f_ 3,(U.out.2.g_ aC).f_ 4⟩;clear bZ
    refine hS H C λC=>?_
    clear H K;refine ih 8 C ?_
    refine hQ 7 λK H=>?_
    go_simp
    (go_at_call 127;((with_reducible refine(rk ws.A ws.c ws.l d _ (Cs.g_ bt.out.2 aC) o_).mono ?_);unfold rP;rintro D aG⟨bg,cx,rfl,cg,cD,aO⟩))
    clear C;have cw:=aC.trans aO;have C:aG.cell? (c_ (w.heap.size+1+1) 34)=some (.slice rs.A rs.l.length rs.c)/\aG.cell? (c_ (w.heap.size+1+1) 35)=some (.slice ws.A ws.l.length ws.c)/\aG.cell? (c_ n 0)=some (i_ d.id)/\aG.cell? (c_ n 1)=some (i_ d.f)/\aG.cell? (c_ n 2)=some (i_ d.op)/\aG.cell? (c_ n 3)=some (.bool d.v.r)/\aG.cell? (c_ n 4)=some (i_ d.v.n):=⟨((U.out.1.g_ cw).f_ 34).trans rfl,((U.out.1.g_ cw).f_ 35).trans rfl,(U.out.2.g_ cw).f_ 0,(U.out.2.g_ cw).f_ 1,(U.out.2.g_ cw).f_ 2,(U.out.2.g_ cw).f_ 3,(U.out.2.g_ cw).f_ 4⟩;have f34:=(U.out.1.g_ cw).hm 34;have f35:=(U.out.1.g_ cw).hm 35;have du:=C.1;have z35:=C.2.1
    refine hS H C λC=>?_
    clear H K
    refine hQ 9 λK H=>?_
    go_simp;refine H.out _ _ (λh=>D6 h d_) ?_;clear H K
    try simp only[a_]
    refine hQ 10 λK H=>?_
    go_simp;refine H.out _ _ (λh=>D6 h d_) ?_;clear H K
    try simp only[a_]
    refine hQ 11 λK H=>?_
    go_simp;refine H.out _ _ (λh=>D6 h d_) ?_;clear H K
    try simp only[a_]
    refine hA k_ ?_ _;go_wp2;go_roundw
    case rel=>
     have M:=((D_ [w.heap.size+1+1] aG).setCell (p:=(c_ (w.heap.size+1+1) 34)) (.inl s_) (.slice aJ (jv rs.l d).length cv)).setCell (p:=(c_ (w.heap.size+1+1) 35)) (.inl s_) (.slice bg (jv ws.l d).length cx);have cl:=U.out.1.g_ cw;have ap:Gr [] ae aG:=((D_ [] ae).drew).trans cw;have bC:=(F.trans ap).hx M p_;exact⟨k+1,ak,⟨aJ,cv,jv rs.l d⟩,⟨bg,cx,jv ws.l d⟩,by omega,by go_num,(V.g_ ap).gr M sd_,(cl.hJ 34 _).hJ 35 _,(z.g_ ap).gr M sd_,(hR.g_ ap).gr M sd_,(E.g_ ap).ig cl CR M,Sl.ig (Sl.g_ dg aO) cl d_ M,Sl.ig cg cl d_ M,bM,cD,by rw[aq.out,aU.out,x8 bL.out,s.out],by rw[s.out];exact(w8 ao bL.out).mono o_,F_ (pT _ _) bh,F_ (pT _ _) c8,bC⟩
    case measure=>simp[intOf];omega
  .have aL:¬(k:Int)<(f.ds.l.length:Int):=by omega
   have b5:=h_ (show jK t.p f.rs.l f.ws.l f.ds.l=(t1.p,rs.l,ws.l) by rw[aq.out,El o_];rfl);clear aq;replace ao:=ao.mono (show 1000000+k<=1001000 by have:f.ds.l.length<=1000:=cZ;omega);clear aj hk;have dn:wr.cell? (c_ (w.heap.size+1+1) 34)=some (.slice rs.A rs.l.length rs.c):=(hE.f_ 34).trans rfl
   have b9:=h_ (show record t.p (hN l) f.p=(match kg (hN l) t1.p rs.l with
    |none=>none
    |some a=>match kP (hN l) {a with nw:=a.nw++hN f.nw.l} ws.l with
     |none=>none
     |some b=>some {b with hU:=b.hU++f.hU.l}) by
    show(match kg (hN l) (jK t.p f.rs.l f.ws.l f.ds.l).1 (jK t.p f.rs.l f.ws.l f.ds.l).2.1 with
     |none=>none
     |some a=>match kP (hN l) {a with nw:=a.nw++hN f.nw.l} (jK t.p f.rs.l f.ws.l f.ds.l).2.2 with
      |none=>none
      |some b=>some {b with hU:=b.hU++f.hU.l})=_
    rw[b5.out])
   clear b5;go_wp2;clear aL
   go_loopw [46] (λi wr=>∃(k:Nat) (ak:Tk),k<=rs.l.length/\i=i_ k/\Bk wr (w.heap.size) 53 ak.g8/\Bk wr (w.heap.size+1+1) 134 ({f with rs:=rs,ws:=ws}:Ef).g8/\Bk wr (w.heap.size+1) 35 #[.slice A l.length c]/\Bk wr (w.heap.size+1+1+1) 53 lp/\kY wr ak/\Cs wr rs.A rs.l/\Cs wr ws.A ws.l/\kg (hN l) t1.p rs.l=kg (hN l) ak.p (rs.l.drop k)/\ak.p.sm (1001000+2*k)/\Gr [] w wr) (λi _=>rs.l.length-(intOf i).toNat)
   case atStart=>exact⟨0,t1,N_ _,rfl,V,hE,z,hR,bQ,ax,j,rfl,ao.mono o_,F⟩
   case round=>
    clear V hE z hR bQ ax j F dn ao;obtain⟨k,ak,hk,rfl,V,hE,z,hR,E,ax,j,aR,ao,F⟩:=hrel;have aq:=h_ aR;clear aR
    by_cases aj:k<rs.l.length
    .have aL:(k:Int)<(rs.l.length:Int):=by omega
     have bp:ak.ds.l.length<=1000000000:=F_ ao.ds o_
     have bI:ak.nw.l.length<=1000000000:=by have:=ao.nw;rw[show ak.p.nw=hN ak.nw.l from rfl,hW]at this;omega
     have bP:ak.ws.l.length<=1000000000:=F_ ao.ws o_;have c6:ak.rs.l.length<=1000000000:=F_ ao.rs o_;have da:ak.p.sm 100000000:=ao.mono o_;obtain⟨b,off,aX,bj,be,bJ,bU⟩:=Cs.at_ ax aj;rw[aX];have bw:=h_ aX;have aU:=h_ (show rs.l.drop k=rs.l[k]::rs.l.drop (k+1) from X_ aj);generalize rs.l[k]=x at*;have aI:=(D_ [] wr).alloc (.cells #[i_ x.id,i_ x.f,.bool x.v.r,i_ x.v.n] 116);have c3:w.heap.size+1+1+1<wr.heap.size:=hR.lt;have L:=L_ wr 116 #[i_ x.id,i_ x.f,.bool x.v.r,i_ x.v.n]
     go_upto_region 13 with fail
     replace V:=V.g_ aI;replace hE:=hE.g_ aI;replace z:=z.g_ aI;replace hR:=hR.g_ aI;replace E:=E.g_ aI;replace ax:=Cs.g_ ax aI;replace j:=Cs.g_ j aI;replace F:=F.trans aI;clear aI bj be bJ bU aX;obtain⟨cu,cX⟩:=nm_ (wr.alloc (.cells #[i_ x.id,i_ x.f,.bool x.v.r,i_ x.v.n] 116));rw[<-cX]at V hE z hR E ax j L F |-;clear cX;generalize wr.heap.size=n at*;have Z:=L.f_ 0;have ah:=L.f_ 1;have au:=L.f_ 2;have aQ:=L.f_ 3
     go_cut [74] (λy a7=>y=.bool (mQ ak.p x)/\Gr [] cu a7)
     case first=>
      clear hE z hR ax j F aq aU b9 ao X he hs hes bw au aQ da bp;have bF:=(xo (hN ak.nw.l) x.id).1;have dY:=(rf ak.ws.l x.id x.f).1;have bD:=(rf ak.rs.l x.id x.f).1;have aH:=h_ (show mQ ak.p x=decide (0<=js (hN ak.nw.l) x.id∨0<=cat ak.ws.l x.id x.f∨0<=cat ak.rs.l x.id x.f) from rfl);have aE:cu.cell? (c_ w.heap.size 37)=some (.slice ak.rs.A ak.rs.l.length ak.rs.c):=(V.f_ 37).trans rfl;have bW:cu.cell? (c_ w.heap.size 38)=some (.slice ak.ws.A ak.ws.l.length ak.ws.c):=(V.f_ 38).trans rfl;generalize c9:js (hN ak.nw.l) x.id=ad at*;generalize cT:cat ak.ws.l x.id x.f=b4 at*;generalize db:cat ak.rs.l x.id x.f=xr at*;have ca:=h_ c9;have b6:=h_ cT;have cf:=h_ db;clear c9 cT db;clear bF dY bD
      by_cases aP:ad<0
      .by_cases av:b4<0
       .by_cases bf:xr<0
        .skip;have aY:=h_ (show mQ ak.p x=false by rw[aH.out];exact EU o_);clear aH
         have B:(0<=ad)=False:=by simp;omega
         have aB:(0<=b4)=False:=by simp;omega
         have bm:(0<=xr)=False:=by simp;omega
         clear aP av bf;refine wp_region_lit ?_;refine kJ V underlying53 ?_
         try simp only[a_]
         refine ie rfl gs_ ?_
         try simp only[a_]
         refine ie rfl gs_ ?_
         try simp only[a_]
         refine m9 rfl (λK H=>?_);go_simp
         (go_at_call 128;((with_reducible refine(oF ak x.id _ E bI).mono ?_);rintro D bS⟨rfl,aI⟩;rw[ca.out];replace V:=V.g_ aI;replace L:=L.g_ aI;replace E:=E.g_ aI;replace Z:=L.f_ 0;replace ah:=L.f_ 1;replace aE:bS.cell? (c_ w.heap.size 37)=some (.slice ak.rs.A ak.rs.l.length ak.rs.c):=(V.f_ 37).trans rfl;replace bW:bS.cell? (c_ w.heap.size 38)=some (.slice ak.ws.A ak.ws.l.length ak.ws.c):=(V.f_ 38).trans rfl))
         refine H.out _ _ ?_;clear H K
         try simp only[a_]
         refine ie (v:=.bool false) rfl gs_ ?_
         try simp only[a_]
         refine ie (v:=.bool false) rfl gs_ ?_
         try simp only[a_]
         refine h5 rfl rfl rfl rfl rfl gs_ ?_
         try simp only[a_]
         refine h5 rfl rfl rfl rfl rfl gs_ ?_
         try simp only[a_]
         refine h5 rfl rfl rfl rfl rfl gs_ ?_
         try simp only[a_]
         refine h5 rfl rfl rfl rfl rfl gs_ ?_
         try simp only[a_]
         refine h5 rfl rfl rfl rfl rfl gs_ ?_
         try simp only[a_]
         refine h5 rfl rfl rfl rfl rfl gs_ ?_
         try simp only[a_]
         refine m8 rfl rfl rfl rfl rfl (λK H=>?_);go_simp
         (go_at_call_of 129 (Value.slice ak.ws.A ak.ws.l.length ak.ws.c);((with_reducible refine(ly ak.ws.A ak.ws.c ak.ws.l x.id x.f _ E.ws bP).mono ?_);rintro D bn⟨rfl,o⟩;rw[b6.out];replace V:=V.g_ o;replace L:=L.g_ o;replace E:=E.g_ o;replace Z:=L.f_ 0;replace ah:=L.f_ 1;replace aE:bn.cell? (c_ w.heap.size 37)=some (.slice ak.rs.A ak.rs.l.length ak.rs.c):=(V.f_ 37).trans rfl;replace bW:bn.cell? (c_ w.heap.size 38)=some (.slice ak.ws.A ak.ws.l.length ak.ws.c):=(V.f_ 38).trans rfl))
         refine H.out _ _ ?_;clear H K
         try simp only[a_]
         refine h5 (v:=.bool false) rfl rfl rfl rfl rfl gs_ ?_
         try simp only[a_]
         refine ie (v:=.bool false) rfl gs_ ?_
         try simp only[a_]
         refine ie (v:=.bool false) rfl gs_ ?_
         try simp only[a_]
         refine h5 rfl rfl rfl rfl rfl gs_ ?_
         try simp only[a_]
         refine h5 rfl rfl rfl rfl rfl gs_ ?_
         try simp only[a_]
         refine h5 rfl rfl rfl rfl rfl gs_ ?_
         try simp only[a_]
         refine h5 rfl rfl rfl rfl rfl gs_ ?_
         try simp only[a_]
         refine h5 rfl rfl rfl rfl rfl gs_ ?_
         try simp only[a_]
         refine h5 rfl rfl rfl rfl rfl gs_ ?_
         try simp only[a_]
         refine m8 rfl rfl rfl rfl rfl (λK H=>?_);go_simp
         (go_at_call_of 129 (Value.slice ak.rs.A ak.rs.l.length ak.rs.c);((with_reducible refine(ly ak.rs.A ak.rs.c ak.rs.l x.id x.f _ E.rs c6).mono ?_);rintro D dJ⟨rfl,ap⟩;rw[cf.out]))
         refine H.out _ _ ?_;clear H K
         try simp only[a_]
         refine h5 (v:=.bool false) rfl rfl rfl rfl rfl gs_ ?_
         try simp only[a_]
         refine ie (v:=.bool false) rfl gs_ ?_;exact Je
        .skip;have aY:=h_ (show mQ ak.p x=true by rw[aH.out];exact Ek o_);clear aH
         have B:(0<=ad)=False:=by simp;omega
         have aB:(0<=b4)=False:=by simp;omega
         have bm:(0<=xr)=True:=by simp;omega
         clear aP av bf;refine wp_region_lit ?_;refine kJ V underlying53 ?_
         try simp only[a_]
         refine ie rfl gs_ ?_
         try simp only[a_]
         refine ie rfl gs_ ?_
         try simp only[a_]
         refine m9 rfl (λK H=>?_);go_simp
         (go_at_call 128;((with_reducible refine(oF ak x.id _ E bI).mono ?_);rintro D bS⟨rfl,aI⟩;rw[ca.out];replace V:=V.g_ aI;replace L:=L.g_ aI;replace E:=E.g_ aI;replace Z:=L.f_ 0;replace ah:=L.f_ 1;replace aE:bS.cell? (c_ w.heap.size 37)=some (.slice ak.rs.A ak.rs.l.length ak.rs.c):=(V.f_ 37).trans rfl;replace bW:bS.cell? (c_ w.heap.size 38)=some (.slice ak.ws.A ak.ws.l.length ak.ws.c):=(V.f_ 38).trans rfl))
         refine H.out _ _ ?_;clear H K
         try simp only[a_]
         refine ie (v:=.bool false) rfl gs_ ?_
         try simp only[a_]
         refine ie (v:=.bool false) rfl gs_ ?_
         try simp only[a_]
         refine h5 rfl rfl rfl rfl rfl gs_ ?_
         try simp only[a_]
         refine h5 rfl rfl rfl rfl rfl gs_ ?_
         try simp only[a_]
         refine h5 rfl rfl rfl rfl rfl gs_ ?_
         try simp only[a_]
         refine h5 rfl rfl rfl rfl rfl gs_ ?_
         try simp only[a_]
         refine h5 rfl rfl rfl rfl rfl gs_ ?_
         try simp only[a_]
         refine h5 rfl rfl rfl rfl rfl gs_ ?_
         try simp only[a_]
         refine m8 rfl rfl rfl rfl rfl (λK H=>?_);go_simp
         (go_at_call_of 129 (Value.slice ak.ws.A ak.ws.l.length ak.ws.c);((with_reducible refine(ly ak.ws.A ak.ws.c ak.ws.l x.id x.f _ E.ws bP).mono ?_);rintro D bn⟨rfl,o⟩;rw[b6.out];replace V:=V.g_ o;replace L:=L.g_ o;replace E:=E.g_ o;replace Z:=L.f_ 0;replace ah:=L.f_ 1;replace aE:bn.cell? (c_ w.heap.size 37)=some (.slice ak.rs.A ak.rs.l.length ak.rs.c):=(V.f_ 37).trans rfl;replace bW:bn.cell? (c_ w.heap.size 38)=some (.slice ak.ws.A ak.ws.l.length ak.ws.c):=(V.f_ 38).trans rfl))
         refine H.out _ _ ?_;clear H K
         try simp only[a_]
         refine h5 (v:=.bool false) rfl rfl rfl rfl rfl gs_ ?_
         try simp only[a_]
         refine ie (v:=.bool false) rfl gs_ ?_
         try simp only[a_]
         refine ie (v:=.bool false) rfl gs_ ?_
         try simp only[a_]
         refine h5 rfl rfl rfl rfl rfl gs_ ?_
         try simp only[a_]
         refine h5 rfl rfl rfl rfl rfl gs_ ?_
         try simp only[a_]
         refine h5 rfl rfl rfl rfl rfl gs_ ?_
         try simp only[a_]
         refine h5 rfl rfl rfl rfl rfl gs_ ?_
         try simp only[a_]
         refine h5 rfl rfl rfl rfl rfl gs_ ?_
         try simp only[a_]
         refine h5 rfl rfl rfl rfl rfl gs_ ?_
         try simp only[a_]
         refine m8 rfl rfl rfl rfl rfl (λK H=>?_);go_simp
         (go_at_call_of 129 (Value.slice ak.rs.A ak.rs.l.length ak.rs.c);((with_reducible refine(ly ak.rs.A ak.rs.c ak.rs.l x.id x.f _ E.rs c6).mono ?_);rintro D dJ⟨rfl,ap⟩;rw[cf.out]))
         refine H.out _ _ ?_;clear H K
         try simp only[a_]
         refine h5 (v:=.bool true) rfl rfl rfl rfl rfl gs_ ?_
         try simp only[a_]
         refine ie (v:=.bool true) rfl gs_ ?_;exact Je
       .skip;have aY:=h_ (show mQ ak.p x=true by rw[aH.out];exact Ek o_);clear aH
        have B:(0<=ad)=False:=by simp;omega
        have aB:(0<=b4)=True:=by simp;omega
        clear aP av;refine wp_region_lit ?_;refine kJ V underlying53 ?_
        try simp only[a_]
        refine ie rfl gs_ ?_
        try simp only[a_]
        refine ie rfl gs_ ?_
        try simp only[a_]
        refine m9 rfl (λK H=>?_);go_simp
        (go_at_call 128;((with_reducible refine(oF ak x.id _ E bI).mono ?_);rintro D bS⟨rfl,aI⟩;rw[ca.out];replace V:=V.g_ aI;replace L:=L.g_ aI;replace E:=E.g_ aI;replace Z:=L.f_ 0;replace ah:=L.f_ 1;replace aE:bS.cell? (c_ w.heap.size 37)=some (.slice ak.rs.A ak.rs.l.length ak.rs.c):=(V.f_ 37).trans rfl;replace bW:bS.cell? (c_ w.heap.size 38)=some (.slice ak.ws.A ak.ws.l.length ak.ws.c):=(V.f_ 38).trans rfl))
        refine H.out _ _ ?_;clear H K
        try simp only[a_]
        refine ie (v:=.bool false) rfl gs_ ?_
        try simp only[a_]
        refine ie (v:=.bool false) rfl gs_ ?_
        try simp only[a_]
        refine h5 rfl rfl rfl rfl rfl gs_ ?_
        try simp only[a_]
        refine h5 rfl rfl rfl rfl rfl gs_ ?_
        try simp only[a_]
        refine h5 rfl rfl rfl rfl rfl gs_ ?_
        try simp only[a_]
        refine h5 rfl rfl rfl rfl rfl gs_ ?_
        try simp only[a_]
        refine h5 rfl rfl rfl rfl rfl gs_ ?_
        try simp only[a_]
        refine h5 rfl rfl rfl rfl rfl gs_ ?_
        try simp only[a_]
        refine m8 rfl rfl rfl rfl rfl (λK H=>?_);go_simp
        (go_at_call_of 129 (Value.slice ak.ws.A ak.ws.l.length ak.ws.c);((with_reducible refine(ly ak.ws.A ak.ws.c ak.ws.l x.id x.f _ E.ws bP).mono ?_);rintro D bn⟨rfl,o⟩;rw[b6.out];replace V:=V.g_ o;replace L:=L.g_ o;replace E:=E.g_ o;replace Z:=L.f_ 0;replace ah:=L.f_ 1;replace aE:bn.cell? (c_ w.heap.size 37)=some (.slice ak.rs.A ak.rs.l.length ak.rs.c):=(V.f_ 37).trans rfl;replace bW:bn.cell? (c_ w.heap.size 38)=some (.slice ak.ws.A ak.ws.l.length ak.ws.c):=(V.f_ 38).trans rfl))
        refine H.out _ _ ?_;clear H K
        try simp only[a_]
        refine h5 (v:=.bool true) rfl rfl rfl rfl rfl gs_ ?_
        try simp only[a_]
        obtain⟨bz,e⟩:=nm_ (Value.bool true);refine ie (v:=bz) rfl (by(subst e;first|(go_simp;done)|(go_simp;with_reducible rfl))) ?_
        try simp only[a_]
        refine ie (v:=bz) rfl (by(subst e;first|(go_simp;done)|(go_simp;with_reducible rfl))) ?_
        try simp only[a_]
        refine iw (b':=true) rfl rfl rfl (by rw[e];rfl) rfl ?_
        try simp only[a_]
        refine iw (b':=true) rfl rfl rfl (by rw[e];rfl) rfl ?_
        try simp only[a_]
        refine iw (b':=true) rfl rfl rfl (by rw[e];rfl) rfl ?_
        try simp only[a_]
        refine iw (b':=true) rfl rfl rfl (by rw[e];rfl) rfl ?_
        try simp only[a_]
        refine iw (b':=true) rfl rfl rfl (by rw[e];rfl) rfl ?_
        try simp only[a_]
        refine iw (b':=true) rfl rfl rfl (by rw[e];rfl) rfl ?_
        try simp only[a_]
        refine iw (b':=true) rfl rfl rfl (by rw[e];rfl) rfl ?_
        try simp only[a_]
        refine iw (b':=true) rfl rfl rfl (by rw[e];rfl) rfl ?_
        try simp only[a_]
        refine ie (v:=.bool true) rfl (by(subst e;first|(go_simp;done)|(go_simp;with_reducible rfl))) ?_
        try simp only[a_]
        refine wpList_nil ?_;go_wp2;go_meet;exact⟨iY aY.out.symm,aI.trans o⟩
      .skip;have aY:=h_ (show mQ ak.p x=true by rw[aH.out];exact Ek o_);clear aH
       have B:(0<=ad)=True:=by simp;omega
       clear aP;refine wp_region_lit ?_;refine kJ V underlying53 ?_
       try simp only[a_]
       refine ie rfl gs_ ?_
       try simp only[a_]
       refine ie rfl gs_ ?_
       try simp only[a_]
       refine m9 rfl (λK H=>?_);go_simp
       (go_at_call 128;((with_reducible refine(oF ak x.id _ E bI).mono ?_);rintro D bS⟨rfl,aI⟩;rw[ca.out];replace V:=V.g_ aI;replace L:=L.g_ aI;replace E:=E.g_ aI;replace Z:=L.f_ 0;replace ah:=L.f_ 1;replace aE:bS.cell? (c_ w.heap.size 37)=some (.slice ak.rs.A ak.rs.l.length ak.rs.c):=(V.f_ 37).trans rfl;replace bW:bS.cell? (c_ w.heap.size 38)=some (.slice ak.ws.A ak.ws.l.length ak.ws.c):=(V.f_ 38).trans rfl))
       refine H.out _ _ ?_;clear H K
       try simp only[a_]
       refine ie (v:=.bool true) rfl gs_ ?_
       try simp only[a_]
       obtain⟨bz,e⟩:=nm_ (Value.bool true);refine ie (v:=bz) rfl (by(subst e;first|(go_simp;done)|(go_simp;with_reducible rfl))) ?_
       try simp only[a_]
       refine iw (b':=true) rfl rfl rfl (by rw[e];rfl) rfl ?_
       try simp only[a_]
       refine iw (b':=true) rfl rfl rfl (by rw[e];rfl) rfl ?_
       try simp only[a_]
       refine iw (b':=true) rfl rfl rfl (by rw[e];rfl) rfl ?_
       try simp only[a_]
       refine iw (b':=true) rfl rfl rfl (by rw[e];rfl) rfl ?_
       try simp only[a_]
       refine iw (b':=true) rfl rfl rfl (by rw[e];rfl) rfl ?_
       try simp only[a_]
       refine iw (b':=true) rfl rfl rfl (by rw[e];rfl) rfl ?_
       try simp only[a_]
       refine iw (b':=true) rfl rfl rfl (by rw[e];rfl) rfl ?_
       try simp only[a_]
       refine iw (b':=true) rfl rfl rfl (by rw[e];rfl) rfl ?_
       try simp only[a_]
       refine ie (v:=bz) rfl (by(subst e;first|(go_simp;done)|(go_simp;with_reducible rfl))) ?_
       try simp only[a_]
       refine ie (v:=bz) rfl (by(subst e;first|(go_simp;done)|(go_simp;with_reducible rfl))) ?_
       try simp only[a_]
       refine iw (b':=true) rfl rfl rfl (by rw[e];rfl) rfl ?_
       try simp only[a_]
       refine iw (b':=true) rfl rfl rfl (by rw[e];rfl) rfl ?_
       try simp only[a_]
       refine iw (b':=true) rfl rfl rfl (by rw[e];rfl) rfl ?_
       try simp only[a_]
       refine iw (b':=true) rfl rfl rfl (by rw[e];rfl) rfl ?_
       try simp only[a_]
       refine iw (b':=true) rfl rfl rfl (by rw[e];rfl) rfl ?_
       try simp only[a_]
       refine iw (b':=true) rfl rfl rfl (by rw[e];rfl) rfl ?_
       try simp only[a_]
       refine iw (b':=true) rfl rfl rfl (by rw[e];rfl) rfl ?_
       try simp only[a_]
       refine iw (b':=true) rfl rfl rfl (by rw[e];rfl) rfl ?_
       try simp only[a_]
       refine ie (v:=.bool true) rfl (by(subst e;first|(go_simp;done)|(go_simp;with_reducible rfl))) ?_
       try simp only[a_]
       refine wpList_nil ?_;go_wp2;go_meet;exact⟨iY aY.out.symm,aI⟩
     case rest=>
      obtain⟨rfl,aM⟩:=hcut;replace V:=V.g_ aM;replace hE:=hE.g_ aM;replace z:=z.g_ aM;replace hR:=hR.g_ aM;replace L:=L.g_ aM;replace E:=E.g_ aM;replace ax:=Cs.g_ ax aM;replace j:=Cs.g_ j aM;replace F:=F.trans aM;clear aM Z ah au aQ
      cases u:mQ ak.p x with
      |true=>
       have aH:=h_ u;clear u;go_wp2;go_roundw
       case rel=>exact⟨k+1,ak,by omega,by go_num,V,hE,z,hR,E,(by have q:=ax;rw[bw.out]at q;exact q),j,by rw[aq.out,aU.out];exact wx aH.out,ao.mono o_,F⟩
       case measure=>simp[intOf];omega
      |false=>
       have aH:=h_ u;clear u;have Z:=L.f_ 0;have ah:=L.f_ 1;have au:=L.f_ 2;have aQ:=L.f_ 3;have v0:=z.f_ 0;have bH:=wO ak.ds.l x.id x.f;obtain⟨g,bG⟩:=mn_ (oT ak.ds.l x.id x.f);rw[bG]at bH;have aD:=h_ bG;clear bG
       rcases sM g bH.1 with rfl|⟨m,rfl⟩
       .skip;have O:=h_ (x7 (view:=hN l) (l:=rs.l.drop (k+1)) aH.out (show oT ak.p.ds x.id x.f<0 by show oT ak.ds.l x.id x.f<0;rw[aD.out];decide))
        go_upto_region 18 with(first|(refine kJ V underlying53 ?_)|(go_at_call 130;((with_reducible refine(lL ak x.id x.f _ E bp).mono ?_);rintro D bS⟨rfl,aI⟩;rw[aD.out];replace V:=V.g_ aI;replace L:=L.g_ aI;replace z:=z.g_ aI;replace Z:=L.f_ 0;replace ah:=L.f_ 1;replace au:=L.f_ 2;replace aQ:=L.f_ 3;replace v0:=z.f_ 0)))
        have aE:bS.cell? (c_ w.heap.size 37)=some (.slice ak.rs.A ak.rs.l.length ak.rs.c):=(V.f_ 37).trans rfl
        go_wp2_with ((go_at_call 98;((with_reducible refine(q7 ak.rs.A ak.rs.c ak.rs.l x _ (E.g_ aI).rs c6).mono ?_);unfold rP;rintro D ai⟨a8,bB,rfl,ck,dj,S⟩;replace V:=V.g_ S;have aE:=V.f_ 37;have cK:=V.hm 37)))
        have Q:=aI.trans S;have M:=(D_ [w.heap.size] ai).setCell (p:=(c_ w.heap.size 37)) (.inl s_) (.slice a8 (kk ak.rs.l x).length bB);have cF:kY _ ({ak with rs:=⟨a8,bB,kk ak.rs.l x⟩}:Tk):=((λq:kY ai ak=>(⟨q.gs,ck,q.ws,q.nw,q.nr,q.ds,q.hU,q.xq,dj,q.uQ,q.sO,q.rL,q.px⟩:kY ai ({ak with rs:=⟨a8,bB,kk ak.rs.l x⟩}:Tk))) (E.g_ Q)).ig V ss M;go_roundw
        case rel=>exact⟨k+1,({ak with rs:=⟨a8,bB,kk ak.rs.l x⟩}:Tk),by omega,by go_num,V.hJ 37 _,(hE.g_ Q).gr M sd_,(z.g_ S).gr M sd_,(hR.g_ Q).gr M sd_,cF,(by have q:=Cs.ig (Cs.g_ ax Q) V d_ M;rw[bw.out]at q;exact q),Cs.ig (Cs.g_ j Q) V d_ M,by rw[aq.out,aU.out];exact O.out,(xf (view:=[]) ao (LB aH.out (show oT ak.p.ds x.id x.f<0 by show oT ak.ds.l x.id x.f<0;rw[aD.out];decide))).mono o_,(F.trans Q).hx M s_⟩
        case measure=>simp[intOf];omega
       .have cJ:=h_ (show 0<=oT ak.p.ds x.id x.f by show 0<=oT ak.ds.l x.id x.f;rw[aD.out];omega)
        cases bA:jV ak.p (hN l) x.id x.f with
        |none=>
         have b3:=h_ bA;clear bA;have a2:Hid (record t.p (hN l) f.p=none):=h_ (by rw[b9.out,aq.out,aU.out,zw aH.out cJ.out b3.out])
         go_upto_region 15 with(first|(refine kJ V underlying53 ?_)|(go_at_call 130;((with_reducible refine(lL ak x.id x.f _ E bp).mono ?_);rintro D bS⟨rfl,aI⟩;rw[aD.out];replace V:=V.g_ aI;replace L:=L.g_ aI;replace z:=z.g_ aI;replace Z:=L.f_ 0;replace ah:=L.f_ 1;replace au:=L.f_ 2;replace aQ:=L.f_ 3;replace v0:=z.f_ 0)))
         go_wp2_with (first|(refine kJ V underlying53 ?_)|(refine kJ z underlying35 ?_)|(go_at_call 131;((with_reducible refine(tR ak A c l x.id x.f _ (E.g_ aI) (h.g_ (F.trans aI)) da hl b3.out).mono ?_);unfold mS;rintro D ai⟨t3,rfl,cC,bO,S⟩;replace V:=V.g_ S))|(refine kG (t3.g8) V (Tk.one _) ?_;intro T bi af)|(refine kJ bi underlying53 ?_)|(refine kG (t3.g8) (((hR.g_ aI).g_ S).gr af sd_) (Tk.one _) ?_;intro ag az G))
         have ar:=(((F.trans aI).trans S).hx af s_).hx G p_;exact Jf
        |some P=>
         have b3:=h_ bA;clear bA
         go_upto_region 15 with(first|(refine kJ V underlying53 ?_)|(go_at_call 130;((with_reducible refine(lL ak x.id x.f _ E bp).mono ?_);rintro D bS⟨rfl,aI⟩;rw[aD.out];replace V:=V.g_ aI;replace L:=L.g_ aI;replace z:=z.g_ aI;replace Z:=L.f_ 0;replace ah:=L.f_ 1;replace au:=L.f_ 2;replace aQ:=L.f_ 3;replace v0:=z.f_ 0)))
         go_wp2_with (first|(refine kJ V underlying53 ?_)|(refine kJ z underlying35 ?_)|(go_at_call 131;((with_reducible refine(sB ak A c l x.id x.f P _ (E.g_ aI) (h.g_ (F.trans aI)) da hl b3.out).mono ?_);unfold mS;rintro D ai⟨t3,rfl,cC,bO,S⟩;replace V:=V.g_ S))|(refine kG (t3.g8) V (Tk.one _) ?_;intro T bi af))
         have Q:=aI.trans S;go_roundw
         case rel=>exact⟨k+1,t3,by omega,by go_num,bi,(hE.g_ Q).gr af sd_,(z.g_ S).gr af sd_,(hR.g_ Q).gr af sd_,cC.ig V ss af,(by have q:=Cs.ig (Cs.g_ ax Q) V d_ af;rw[bw.out]at q;exact q),Cs.ig (Cs.g_ j Q) V d_ af,by rw[aq.out,aU.out,x6 aH.out cJ.out b3.out,bO],by rw[bO];exact(pz ao b3.out).mono o_,(F.trans Q).hx af s_⟩
         case measure=>simp[intOf];omega
    .have aL:¬(k:Int)<(rs.l.length:Int):=by omega
     have cH:=h_ (show kg (hN l) t1.p rs.l=some ak.p by rw[aq.out,El o_];rfl);clear aq;replace ao:=ao.mono (show 1001000+2*k<=1003000 by omega);clear aj hk
     have bq:ak.nw.l.length<=1003000:=by have:=ao.nw;rwa [show ak.p.nw=hN ak.nw.l from rfl,hW]at this
     have bX:f.nw.l.length<=1000:=by have:=hes.nw;rwa [show f.p.nw=hN f.nw.l from rfl,hW]at this
     have b0:f.hU.l.length<=1000:=hes.hU
     go_wp2_with fail
     clear aL;obtain⟨df,cV,cR,cS,cU⟩:=info_parts infoOb;have ap:Gr [] wr wr.drew:=(D_ [] wr).drew;have aW:Sl wr.drew 56 2 ak.nw.A ak.nw.l.length (jy ak.nw.l):=Sl.g_ E.nw ap;have hbs:wr.heap.size<=wr.drew.heap.size:=G_ _;refine hC (λw'=>w'.cell? (c_ w.heap.size 39)=some (.slice ak.nw.A ak.nw.l.length ak.nw.c)/\w'.cell? (c_ (w.heap.size+1+1) 36)=some (.slice f.nw.A f.nw.l.length f.nw.c)) 7 k_ ?_
     refine nc ⟨((V.g_ ap).f_ 39).trans rfl,((hE.g_ ap).f_ 36).trans rfl⟩ λC=>?_
     refine ih 0 C ?_;refine ih 3 C ?_;refine ih 1 C ?_;refine ih 4 C ?_
     refine hQ 2 λK H=>?_
     refine nY rfl (.const (n_)) (.tmp 102) 33 rfl (wr.heap.size) 56 df _ 2 32 underlying33 cV cR cS cU rfl d_ d_ none 0 0 [] rfl (iJ _ _ _ _) ak.nw.A ak.nw.l.length ak.nw.c _ r_ aW (jO _) o_ hbs ?_;intro aJ aK aF cj aT;simp only[U_,Ea]at cj;rw[U_];have aC:Gr [] wr aF:=aT.gr [] wr (G_ _) ap;clear C;have C:aF.cell? (c_ w.heap.size 39)=some (.slice ak.nw.A ak.nw.l.length ak.nw.c)/\aF.cell? (c_ (w.heap.size+1+1) 36)=some (.slice f.nw.A f.nw.l.length f.nw.c):=⟨((V.g_ aC).f_ 39).trans rfl,((hE.g_ aC).f_ 36).trans rfl⟩;have bY:Sl aF 56 2 f.nw.A f.nw.l.length (jy f.nw.l):=(he.g_ (F.trans aC)).nw
     refine hS H C λC=>?_
     clear H K
     refine hQ 5 λK H=>?_
     refine nY rfl (.tmp 103) (.tmp 105) 33 rfl (wr.heap.size) 56 df _ 2 32 underlying33 cV cR cS cU rfl d_ d_ aJ ak.nw.l.length aK _ r_ cj f.nw.A f.nw.l.length f.nw.c _ r_ bY (jO _) o_ aC.size ?_;intro bg bo aG b7 R;have aO:Gr [] wr aG:=R.gr [] wr (G_ _) aC;clear C;have C:aG.cell? (c_ w.heap.size 39)=some (.slice ak.nw.A ak.nw.l.length ak.nw.c)/\aG.cell? (c_ (w.heap.size+1+1) 36)=some (.slice f.nw.A f.nw.l.length f.nw.c):=⟨((V.g_ aO).f_ 39).trans rfl,((hE.g_ aO).f_ 36).trans rfl⟩;have cG:=C.1;have cz:=(V.g_ aO).hm 39
     refine hS H C λC=>?_
     clear H K
     refine hQ 6 λK H=>?_
     go_simp
     refine hS H C λC=>?_
     clear H K
     refine hQ 7 λK H=>?_
     go_simp;refine H.out _ _ (λh=>D6 h d_) ?_;clear H K
     try simp only[a_]
     refine hA k_ ?_ _;obtain⟨tn,co⟩:=nm_ ({ak with nw:=⟨bg,bo,ak.nw.l++f.nw.l⟩});have iv:(ak.nw.l++f.nw.l).length=ak.nw.l.length+f.nw.l.length:=H_;have aZ:=V.g_ aO;have Y:=aZ.hJ 39 (.slice bg (ak.nw.l.length+f.nw.l.length) bo)
     have N:tn.g8=ak.g8.setIfInBounds 39 (.slice bg (ak.nw.l.length+f.nw.l.length) bo):=by rw[co,<-iv];rfl
     rw[<-N]at Y;have M:=(D_ [w.heap.size] aG).setCell (p:=(c_ w.heap.size 39)) (.inl s_) (.slice bg (ak.nw.l.length+f.nw.l.length) bo);have ce:=Sl.iG b7;rw[<-iv]at ce;replace hE:=(hE.g_ aO).gr M sd_;replace z:=(z.g_ aO).gr M sd_;replace hR:=(hR.g_ aO).gr M sd_;replace j:=Cs.ig (Cs.g_ j aO) aZ d_ M
     have cp:kY (aG.setCell (c_ w.heap.size 39) (.slice bg (ak.nw.l.length+f.nw.l.length) bo)) tn:=by
      have q:=E.g_ aO;have bI:=he.g_ (F.trans aO)
      have bP:Os aG bg (ak.nw.l++f.nw.l):=by unfold Os;rw[lx];exact ce
      have c6:kY aG tn:=by rw[co];exact⟨q.gs,q.rs,q.ws,bP,λr hr=>(T_.1 hr).elim (q.nr r) (bI.nr r),q.ds,q.hU,q.xq,q.la,q.uQ,(by show(ak.nw.l++f.nw.l).length<=bo;rw[iv];exact iQ b7),q.rL,q.px⟩
      exact c6.ig aZ ss M
     have ct:=h_ (show tn.p={ak.p with nw:=ak.p.nw++hN f.nw.l} by rw[co];show({ak.p with nw:=hN (ak.nw.l++f.nw.l)}:jg)=_;unfold hN;rw[Ed];rfl)
     have ay:tn.p.sm 1004000:=by
      rw[ct.out];exact⟨F_ ao.gs d_,F_ ao.rs d_,F_ ao.ws d_,(by have:=ao.nw;have:=hes.nw;show(ak.p.nw++f.p.nw).length<=_;rw[H_];omega),F_ ao.ds d_,F_ ao.hU d_⟩
     replace F:=(F.trans aO).hx M s_;obtain⟨bR,bT⟩:=nm_ (aG.setCell (c_ w.heap.size 39) (.slice bg (ak.nw.l.length+f.nw.l.length) bo));rw[<-bT]at Y cp hE z hR j F |-;clear bT;clear V aZ N M ce aC aO cj b7 aT R C cG cz aW bY hbs ap co E ax;have V:=Y;clear Y
     have cr:Hid (record t.p (hN l) f.p=(match kP (hN l) tn.p ws.l with
      |none=>none
      |some b=>some {b with hU:=b.hU++f.hU.l})):=h_ (by have q:=b9.out;rw[cH.out]at q;rw[ct.out];exact q)
     clear b9 cH ct;have cq:bR.cell? (c_ (w.heap.size+1+1) 35)=some (.slice ws.A ws.l.length ws.c):=(hE.f_ 35).trans rfl;go_wp2
     go_loopw [111] (λi wr=>∃(k:Nat) (t3:Tk),k<=ws.l.length/\i=i_ k/\Bk wr (w.heap.size) 53 t3.g8/\Bk wr (w.heap.size+1+1) 134 ({f with rs:=rs,ws:=ws}:Ef).g8/\Bk wr (w.heap.size+1) 35 #[.slice A l.length c]/\Bk wr (w.heap.size+1+1+1) 53 lp/\kY wr t3/\Cs wr ws.A ws.l/\kP (hN l) tn.p ws.l=kP (hN l) t3.p (ws.l.drop k)/\t3.p.sm (1004000+3*k)/\Gr [] w wr) (λi _=>ws.l.length-(intOf i).toNat)
     case atStart=>exact⟨0,tn,N_ _,rfl,V,hE,z,hR,cp,j,rfl,ay.mono o_,F⟩
     case round=>
      clear V hE z hR cp j F cq ay ao;obtain⟨k,ak,hk,rfl,V,hE,z,hR,E,j,aR,ao,F⟩:=hrel;have aq:=h_ aR;clear aR
      by_cases aj:k<ws.l.length
      .have aL:(k:Int)<(ws.l.length:Int):=by omega
       have bp:ak.ds.l.length<=1000000000:=F_ ao.ds o_
       have bI:ak.nw.l.length<=1000000000:=by have:=ao.nw;rw[show ak.p.nw=hN ak.nw.l from rfl,hW]at this;omega
       have bP:ak.ws.l.length<=1000000000:=F_ ao.ws o_;have c6:ak.rs.l.length<=1000000000:=F_ ao.rs o_;have da:ak.p.sm 100000000:=ao.mono o_;obtain⟨b,off,aX,bj,be,bJ,bU⟩:=Cs.at_ j aj;rw[aX];have bw:=h_ aX;have aU:=h_ (show ws.l.drop k=ws.l[k]::ws.l.drop (k+1) from X_ aj);generalize ws.l[k]=x at*;have aI:=(D_ [] wr).alloc (.cells #[i_ x.id,i_ x.f,.bool x.v.r,i_ x.v.n] 116);have c3:w.heap.size+1+1+1<wr.heap.size:=hR.lt;have L:=L_ wr 116 #[i_ x.id,i_ x.f,.bool x.v.r,i_ x.v.n]
       go_upto_region 24 with fail
       replace V:=V.g_ aI;replace hE:=hE.g_ aI;replace z:=z.g_ aI;replace hR:=hR.g_ aI;replace E:=E.g_ aI;replace j:=Cs.g_ j aI;replace F:=F.trans aI;clear aI bj be bJ bU aX;obtain⟨dq,cY⟩:=nm_ (wr.alloc (.cells #[i_ x.id,i_ x.f,.bool x.v.r,i_ x.v.n] 116));rw[<-cY]at V hE z hR E j L F |-;clear cY;generalize wr.heap.size=n at*;have Z:=L.f_ 0;have ah:=L.f_ 1;have au:=L.f_ 2;have aQ:=L.f_ 3;have v0:=z.f_ 0
       cases bA:jV ak.p (hN l) x.id x.f with
       |none=>
        have b3:=h_ bA;clear bA;have a2:Hid (record t.p (hN l) f.p=none):=h_ (by rw[cr.out,aq.out,aU.out,zv b3.out])
        go_wp2_with (first|(refine kJ V underlying53 ?_)|(refine kJ z underlying35 ?_)|(go_at_call 131;((with_reducible refine(tR ak A c l x.id x.f _ E (h.g_ F) da hl b3.out).mono ?_);unfold mS;rintro D ai⟨t3,rfl,cC,bO,S⟩;replace V:=V.g_ S))|(refine kG (t3.g8) V (Tk.one _) ?_;intro T bi af)|(refine kJ bi underlying53 ?_)|(refine kG (t3.g8) ((hR.g_ S).gr af sd_) (Tk.one _) ?_;intro ag az G))
        have ar:=((F.trans S).hx af s_).hx G p_;exact Jf
       |some P=>
        have b3:=h_ bA;clear bA
        go_upto_region 27 with(first|(refine kJ V underlying53 ?_)|(refine kJ z underlying35 ?_)|(go_at_call 131;((with_reducible refine(sB ak A c l x.id x.f P _ E (h.g_ F) da hl b3.out).mono ?_);unfold mS;rintro D ai⟨t3,rfl,cC,bO,S⟩;replace V:=V.g_ S))|(refine kG (t3.g8) V (Tk.one _) ?_;intro T bi af))
        replace hE:=(hE.g_ S).gr af sd_;replace z:=(z.g_ S).gr af sd_;replace hR:=(hR.g_ S).gr af sd_;replace L:=(L.g_ S).gr af sd_;replace j:=Cs.ig (Cs.g_ j S) V d_ af;replace cC:=cC.ig V ss af;replace F:=(F.trans S).hx af s_;have an:=h_ bO
        have cy:t3.p.sm (1004000+3*k+2):=by rw[bO];exact pz ao b3.out
        have r2:t3.nw.l.length<=1000000000:=by have:=cy.nw;rw[show t3.p.nw=hN t3.nw.l from rfl,hW]at this;omega
        have r3:t3.ws.l.length<=1000000000:=F_ cy.ws o_;clear V S af bO Z ah au aQ;have V:=bi;clear bi;have Z:=L.f_ 0;have ah:=L.f_ 1;have au:=L.f_ 2;have aQ:=L.f_ 3
        go_wp2_with (first|(refine kJ V underlying53 ?_)|(go_at_call 132;((with_reducible refine(rj t3 x _ cC r2 r3).mono ?_);unfold tg;rintro D ae⟨t4,rfl,cF,aS,am⟩;replace V:=V.g_ am))|(refine kG (t4.g8) V (Tk.one _) ?_;intro aF bE aC))
        go_roundw
        case rel=>exact⟨k+1,t4,by omega,by go_num,bE,(hE.g_ am).gr aC sd_,(z.g_ am).gr aC sd_,(hR.g_ am).gr aC sd_,cF.ig V ss aC,(by have q:=Cs.ig (Cs.g_ j am) V d_ aC;rw[bw.out]at q;exact q),by rw[aq.out,aU.out,x5 b3.out,aS,an.out],by rw[aS];exact(qX cy x).mono o_,(F.trans am).hx aC s_⟩
        case measure=>simp[intOf];omega
      .have aL:¬(k:Int)<(ws.l.length:Int):=by omega
       have cI:=h_ (show kP (hN l) tn.p ws.l=some ak.p by rw[aq.out,El o_];rfl);clear aq;replace ao:=ao.mono (show 1004000+3*k<=1007000 by omega);have dk:ak.hU.l.length<=1007000:=ao.hU;clear aj hk
       go_wp2_with fail
       clear aL;obtain⟨de,cQ,cM,cN,cO⟩:=info_parts infoAc;have ap:Gr [] wr wr.drew:=(D_ [] wr).drew;have aW:Sl wr.drew 162 3 ak.hU.A ak.hU.l.length ((ak.hU.l).flatMap Ac.E):=Sl.g_ E.hU ap;have hbs:wr.heap.size<=wr.drew.heap.size:=G_ _;refine hC (λw'=>w'.cell? (c_ w.heap.size 41)=some (.slice ak.hU.A ak.hU.l.length ak.hU.c)/\w'.cell? (c_ (w.heap.size+1+1) 38)=some (.slice f.hU.A f.hU.l.length f.hU.c)) 7 k_ ?_
       refine nc ⟨((V.g_ ap).f_ 41).trans rfl,((hE.g_ ap).f_ 38).trans rfl⟩ λC=>?_
       refine ih 0 C ?_;refine ih 3 C ?_;refine ih 1 C ?_;refine ih 4 C ?_
       refine hQ 2 λK H=>?_
       refine nY rfl (.const (n_)) (.tmp 133) 36 rfl (wr.heap.size) 162 de _ 3 24 underlying36 cQ cM cN cO rfl d_ d_ none 0 0 [] rfl (iJ _ _ _ _) ak.hU.A ak.hU.l.length ak.hU.c _ r_ aW (te _) o_ hbs ?_;intro aJ aK aF cj aT;simp only[U_,Ea]at cj;rw[U_];have aC:Gr [] wr aF:=aT.gr [] wr (G_ _) ap;clear C;have C:aF.cell? (c_ w.heap.size 41)=some (.slice ak.hU.A ak.hU.l.length ak.hU.c)/\aF.cell? (c_ (w.heap.size+1+1) 38)=some (.slice f.hU.A f.hU.l.length f.hU.c):=⟨((V.g_ aC).f_ 41).trans rfl,((hE.g_ aC).f_ 38).trans rfl⟩;have bY:Sl aF 162 3 f.hU.A f.hU.l.length ((f.hU.l).flatMap Ac.E):=(he.g_ (F.trans aC)).hU
       refine hS H C λC=>?_
       clear H K
       refine hQ 5 λK H=>?_
       refine nY rfl (.tmp 134) (.tmp 136) 36 rfl (wr.heap.size) 162 de _ 3 24 underlying36 cQ cM cN cO rfl d_ d_ aJ ak.hU.l.length aK _ r_ cj f.hU.A f.hU.l.length f.hU.c _ r_ bY (te _) o_ aC.size ?_;intro bg bo aG b7 R;have aO:Gr [] wr aG:=R.gr [] wr (G_ _) aC;clear C;have C:aG.cell? (c_ w.heap.size 41)=some (.slice ak.hU.A ak.hU.l.length ak.hU.c)/\aG.cell? (c_ (w.heap.size+1+1) 38)=some (.slice f.hU.A f.hU.l.length f.hU.c):=⟨((V.g_ aO).f_ 41).trans rfl,((hE.g_ aO).f_ 38).trans rfl⟩;have cG:=C.1;have cz:=(V.g_ aO).hm 41
       refine hS H C λC=>?_
       clear H K
       refine hQ 6 λK H=>?_
       go_simp
       refine hS H C λC=>?_
       clear H K
       refine hQ 7 λK H=>?_
       go_simp;refine H.out _ _ (λh=>D6 h d_) ?_;clear H K
       try simp only[a_]
       refine hA k_ ?_ _;obtain⟨tf,cn⟩:=nm_ ({ak with hU:=⟨bg,bo,ak.hU.l++f.hU.l⟩});have iv:(ak.hU.l++f.hU.l).length=ak.hU.l.length+f.hU.l.length:=H_;have aZ:=V.g_ aO;have Y:=aZ.hJ 41 (.slice bg (ak.hU.l.length+f.hU.l.length) bo)
       have N:tf.g8=ak.g8.setIfInBounds 41 (.slice bg (ak.hU.l.length+f.hU.l.length) bo):=by rw[cn,<-iv];rfl
       rw[<-N]at Y;have M:=(D_ [w.heap.size] aG).setCell (p:=(c_ w.heap.size 41)) (.inl s_) (.slice bg (ak.hU.l.length+f.hU.l.length) bo);have ce:=Sl.iG b7;rw[<-iv]at ce;replace hE:=(hE.g_ aO).gr M sd_;replace z:=(z.g_ aO).gr M sd_;replace hR:=(hR.g_ aO).gr M sd_;replace j:=Cs.ig (Cs.g_ j aO) aZ d_ M
       have c7:kY (aG.setCell (c_ w.heap.size 41) (.slice bg (ak.hU.l.length+f.hU.l.length) bo)) tf:=by
        have q:=E.g_ aO
        have bP:As aG bg (ak.hU.l++f.hU.l):=by unfold As;rw[Ej];exact ce
        have c6:kY aG tf:=by rw[cn];exact⟨q.gs,q.rs,q.ws,q.nw,q.nr,q.ds,bP,q.xq,q.la,q.uQ,q.sO,q.rL,(by show(ak.hU.l++f.hU.l).length<=bo;rw[iv];exact iQ b7)⟩
        exact c6.ig aZ ss M
       have bK:=h_ (show record t.p (hN l) f.p=some tf.p by rw[cr.out,cI.out,cn];rfl);replace F:=(F.trans aO).hx M s_;obtain⟨bl,bV⟩:=nm_ (aG.setCell (c_ w.heap.size 41) (.slice bg (ak.hU.l.length+f.hU.l.length) bo));rw[<-bV]at Y c7 hE z hR j F |-;clear bV;clear V aZ N M ce aC aO cj b7 aT R C cG cz aW hbs ap cn E cr cI
       go_wp2_with (first|(refine kJ Y underlying53 ?_)|(refine kG (tf.g8) hR (Tk.one _) ?_;intro ag az G))
       have ar:=F.hx G p_;exact lA tf.g8 (.bool true) az underlying53 (by rw[bK.out];exact⟨tf,rfl,ar,λP h=>by injection h with h;subst h;exact⟨c7.ig hR ss G,rfl⟩⟩)
theorem Gr.jz{a b c:World}(h:Gr [] a b)(k:Gr [g] b c)(hg:a.heap.size<=g):Gr [] a c:=h.hx k (λx I=>.inr (by rw[R_]at I;rw[I];exact hg))
theorem vH(g:Cl):(ks rs h g).length=h.length:=by
 unfold ks;split
 .exact jG _ _
 .rfl
theorem vF(gs:List Cl)(h:List Ob):(gs.foldl (ks rs) h).length=h.length:=by
 induction gs generalizing h with
 |nil=>rfl
 |cons g gs ad=>rw[Fl,ad,vH]
theorem v_(t:jg)(view:List Ob):(jk t view).length<=view.length+t.nw.length:=by
 unfold jk before;rw[nK,jG]
 have:=oA t.nw (i4 (t.gs.foldl (ks t.rs) view) t.rs)
 rw[jG,vF]at this;exact this
theorem mI:∀j,j<33->t.g8[3+j]?=(iz t.pc t.r)[j]?
 |0,_=>rfl
 |1,_=>rfl
 |2,_=>rfl
 |3,_=>rfl
 |4,_=>rfl
 |5,_=>rfl
 |6,_=>rfl
 |7,_=>rfl
 |8,_=>rfl
 |9,_=>rfl
 |10,_=>rfl
 |11,_=>rfl
 |12,_=>rfl
 |13,_=>rfl
 |14,_=>rfl
 |15,_=>rfl
 |16,_=>rfl
 |17,_=>rfl
 |18,_=>rfl
 |19,_=>rfl
 |20,_=>rfl
 |21,_=>rfl
 |22,_=>rfl
 |23,_=>rfl
 |24,_=>rfl
 |25,_=>rfl
 |26,_=>rfl
 |27,_=>rfl
 |28,_=>rfl
 |29,_=>rfl
 |30,_=>rfl
 |31,_=>rfl
 |32,_=>rfl
 |n+33,h=>D6 h o_
theorem z8(t:Ef):∀j,j<33->t.g8[1+j]?=(iz t.pc t.r)[j]?
 |0,_=>rfl
 |1,_=>rfl
 |2,_=>rfl
 |3,_=>rfl
 |4,_=>rfl
 |5,_=>rfl
 |6,_=>rfl
 |7,_=>rfl
 |8,_=>rfl
 |9,_=>rfl
 |10,_=>rfl
 |11,_=>rfl
 |12,_=>rfl
 |13,_=>rfl
 |14,_=>rfl
 |15,_=>rfl
 |16,_=>rfl
 |17,_=>rfl
 |18,_=>rfl
 |19,_=>rfl
 |20,_=>rfl
 |21,_=>rfl
 |22,_=>rfl
 |23,_=>rfl
 |24,_=>rfl
 |25,_=>rfl
 |26,_=>rfl
 |27,_=>rfl
 |28,_=>rfl
 |29,_=>rfl
 |30,_=>rfl
 |31,_=>rfl
 |32,_=>rfl
 |n+33,h=>D6 h o_
theorem tL(pc:Int)(r:Nat->Vl):ul t.g8 3 (iz pc r).toList=({t with pc:=pc,r:=r}:Tk).g8:=rfl
theorem kY.of{w:World}{t t':Tk}(h:kY w t)(h1:t'.gs=t.gs)(h2:t'.rs=t.rs)(h3:t'.ws=t.ws)(aw:t'.nw=t.nw)(ax:t'.ds=t.ds)(aY:t'.hU=t.hU):kY w t':=
 ⟨by rw[h1];exact h.gs,by rw[h2];exact h.rs,by rw[h3];exact h.ws,by rw[aw];exact h.nw,by rw[aw];exact h.nr,by rw[ax];exact h.ds,by rw[aY];exact h.hU,by rw[h1];exact h.xq,by rw[h2];exact h.la,by rw[h3];exact h.uQ,by rw[aw];exact h.sO,by rw[ax];exact h.rL,by rw[aY];exact h.px⟩
end Go.Proofs.YtenbhdilndfaeaaGreat
