import Derived.Test.YtenbhdilndfaeaaGreatM28
set_option maxRecDepth 100000
set_option maxHeartbeats 0
set_option linter.all false
namespace Go.Proofs.YtenbhdilndfaeaaGreat
open Go.RowKit Go.Proofs.Tryz
variable{G:Prop}(w:World)(x:X1)
theorem Gn(h:G:=by
 obtain⟨ax,co⟩:=nm_ bQ;rw[<-co]at F ak;clear co;obtain⟨ag,b4⟩:=nm_ ae;exact Gq):G:=h
theorem Gq(h:G:=by
 rw[<-b4]at F D aP |-;clear b4
 cases d:ax.hF with
 |true=>
  have O:Hid (P=i7):=h_ (by rw[ak.out];exact Q_ (show ax.p.hF=true from d));have m:ag.cell? (c_ gx 81)=some (.bool true):=(F.bk.f_ 81).trans (D9 (λq=>some (Value.bool q)) d);clear d
  go_wp2_with (refine kG (({Ef.zero with hT:=4}:Ef).g8) D (Ef.one _) ?_;intro bq K aw)
  rw[O.out];exact rr_ ({Ef.zero with hT:=4}:Ef).g8 K underlying134 ⟨_,rfl,sd.nil _ _ rfl rfl rfl rfl rfl,rfl,aP.hx aw p_⟩
 |false=>
  have O:Hid (P=ax.e.p):=h_ (by rw[ak.out];exact P_ (show ¬ax.p.hF=true by rw[show ax.p.hF=ax.hF from rfl,d];decide));have m:ag.cell? (c_ gx 81)=some (.bool false):=(F.bk.f_ 81).trans (D9 (λq=>some (Value.bool q)) d);clear d
  go_wp2_with (first|(refine ip rfl 134 _ rfl gx 38 r_ 186 _ ax.e.g8 F.bk (λj hj=>yV ax j hj) _ underlying134 rfl k_ ?_)|(refine kG (ax.e.g8) D (Ef.one _) ?_;intro bq K aw))
  rw[O.out];exact rr_ ax.e.g8 K underlying134 ⟨_,rfl,po F.CQ D aw,rfl,aP.hx aw p_⟩):G:=h
theorem Hw(h:G:=by
 go_wp2_with (go_at_call 92;have ak:=iI A c l hq g9 _ (N.g_ J) hn;rw[hv]at ak;refine ak.mono ?_;rintro e w1⟨rfl,hg1⟩;have p0:w1.cell? (c_ bz 0)=some (i_ pc):=((H.g_ hg1).f_ 0).trans rfl;have k0:=(u.g_ hg1).f_ 0)
 go_meet;exact⟨iY aY.out.symm,hg1⟩):G:=h
theorem AV(b w:World)(gx:Nat)(x:X1)(op:Int)(E:Nat)(X c:Int)(n:Int)(L:ke b w gx x)(ha:E<16)(ho:op≠5/\op≠6/\op≠7/\op≠13/\op≠14/\op≠15/\op≠17/\op≠18):
 Calls prog 121 #[q_ gx,.agg #[i_ op,i_ (E:Int),i_ X,i_ c,i_ n]] w (kE (.tuple #[]) (j5 x.p ⟨op,E,X,c,n⟩) b gx w):=by
 obtain⟨R,a,I,A,g,N,aH,t⟩:=rJ L #[i_ op,i_ (E:Int),i_ X,i_ c,i_ n]
 go_enter func121,ntmps121
 go_upto_region 1 with fail
 clear I A;have Z:=N.f_ 0;have ap:Gr [] R R.drew:=(D_ [] R).drew;refine hC (λw'=>(w'.cell? (c_ a 0)=some (i_ op)/\w'.cell? (c_ a 1)=some (i_ (E:Int))/\w'.cell? (c_ a 2)=some (i_ X)/\w'.cell? (c_ a 3)=some (i_ c)/\w'.cell? (c_ a 4)=some (i_ n))/\w'.cell? (c_ gx (4+E*2))=some (.bool (x.sr E).r)/\w'.cell? (c_ gx (4+E*2+1))=some (i_ (x.sr E).n)) 10 k_ ?_;have C:=And.intro N.drew.c5 (u0 (g.bk.drew) ha)
 have e0:(0:Int)<=(E:Int):=by omega
 have aP:(E:Int)<16:=by omega
 iterate 8 refine jR C ?_
 refine hQ 8 λK H=>?_
 go_simp;clear C
 refine hS H (rW N g.bk ha) λC=>?_
 clear H K
 refine hQ 9 λK H=>?_
 go_simp;clear C
 refine hS H (rW N g.bk ha) λC=>?_
 clear H K;refine hA k_ ?_ _;obtain⟨bh,ay,bF,fo,V,aD,bK,aM,ad⟩:=yH g N aH #[.bool (x.sr E).r,i_ (x.sr E).n];rw[bF,fo];clear bF fo g N aH ap C
 have d:(op=5)=False:=by simp;omega
 have c5:(op==5)=false:=by simp;omega
 have cv:(op=6)=False:=by simp;omega
 have aK:(op==6)=false:=by simp;omega
 have cx:(op=7)=False:=by simp;omega
 have bo:(op==7)=false:=by simp;omega
 have i:(op=13)=False:=by simp;omega
 have DL:(op==13)=false:=by simp;omega
 have j:(op=14)=False:=by simp;omega
 have e:(op==14)=false:=by simp;omega
 have k:(op=15)=False:=by simp;omega
 have d0:(op==15)=false:=by simp;omega
 have m:(op=17)=False:=by simp;omega
 have h:(op==17)=false:=by simp;omega
 have o:(op=18)=False:=by simp;omega
 have bu:(op==18)=false:=by simp;omega
 have O:Hid (j5 x.p ⟨op,E,X,c,n⟩=x.p):=h_ (by
  obtain⟨ax,aY,bA,h13,l,s,f,yL⟩:=ho;unfold j5
  exact(P_ ax).trans ((P_ aY).trans ((P_ bA).trans ((P_ h13).trans ((P_ l).trans ((P_ (by simp only;omega)).trans (P_ f)))))))
 clear ho;have Z:=aD.f_ 0;go_wp2;refine en_ ?_;rw[O.out];exact⟨x,rfl,V,rfl,aM⟩
theorem wv(b w:World)(gx:Nat)(x:X1)(i:In)(L:ke b w gx x)(hs:x.p.e.sm 800000)(Z:0<=i.a)(ah:i.a<16)(hb:i.op=5∨i.op=6->0<=i.b/\i.b<16)(hn:i.op=7->0<=i.n/\i.n<=1000000)
 (hc:i.op=13->0<=i.b/\i.b<=16/\i.b<=i.c/\i.c<=1000000) (b4: -1<=x.jN) (bo:x.jN<=1000000):
 Calls prog 121 #[q_ gx,.agg #[i_ i.op,i_ i.a,i_ i.b,i_ i.c,i_ i.n]] w (kE (.tuple #[]) (j5 x.p i) b gx w):=by
 obtain⟨op,ap,X,c,n⟩:=i;simp only at Z ah hb hn hc |-;obtain⟨E,rfl⟩:∃k:Nat,ap=k:=⟨ap.toNat,by omega⟩
 have j:E<16:=by omega
 by_cases ax:op=5
 .subst ax;obtain⟨B,aT⟩:=hb d_;obtain⟨d,rfl⟩:∃k:Nat,X=k:=⟨X.toNat,by omega⟩;exact rest_5 b w gx x E d c n L j o_ hs
 by_cases aY:op=6
 .subst aY;obtain⟨B,aT⟩:=hb d_;obtain⟨d,rfl⟩:∃k:Nat,X=k:=⟨X.toNat,by omega⟩;exact rest_6 b w gx x E d c n L j o_ hs
 by_cases bA:op=7
 .subst bA;obtain⟨hn0,hn1⟩:=hn rfl;exact rest_7 b w gx x E X c n L j hn0 hn1
 by_cases h13:op=13
 .subst h13;obtain⟨aI,c1,an,aN⟩:=hc rfl;obtain⟨d,rfl⟩:∃k:Nat,X=k:=⟨X.toNat,by omega⟩;obtain⟨m,rfl⟩:∃k:Nat,c=(d:Int)+(k:Int):=⟨(c-d).toNat,by omega⟩;exact rest_13 b w gx x E d m n L o_ o_ b4 bo j hs
 by_cases l:op=14
 .subst l;exact rest_14 b w gx x E X c n L j hs
 by_cases s:op=15
 .subst s;exact rest_15 b w gx x E X c n L j hs
 by_cases f:op=17
 .subst f;exact rest_17 b w gx x E X c n L j hs
 by_cases yL:op=18
 .subst yL;exact rest_18 b w gx x E X c n L j hs
 exact AV b w gx x op E X c n L j ⟨ax,aY,bA,h13,l,s,f,yL⟩
structure Fit(i:In):Prop where
 a0:0<=i.a
 a1:i.a<16
 Dt:i.op=3∨i.op=4->0<=i.b/\i.b<16
 c4:i.op=4->0<=i.c/\i.c<16
 hq:i.op=8∨i.op=9∨i.op=10∨i.op=20->0<=i.n/\i.n<=1000000
 DY:i.op=5∨i.op=6->0<=i.b/\i.b<16
 n7:i.op=7->0<=i.n/\i.n<=1000000
 DL:i.op=13->0<=i.b/\i.b<=16/\i.b<=i.c/\i.c<=1000000
theorem un{n:Int}{u:Bool}(h:lV n u=true):0<=n/\n<16:=by
 unfold lV at h;simp at h;omega
theorem vu{l:List In}{k:Nat}(h:kU l k=true):Fit (l.getD k default):=by
 unfold kU jH at h;generalize l.getD k default=x at*;obtain⟨op,a,b,c,n⟩:=x;simp only at h;split at h
 .cases h
 rename_i o;split at h
 .cases h
 rename_i hr;split at h
 .cases h
 rename_i hc
 have d:0<=op/\op<=21:=by omega
 simp only[FL,Ec,Bool.not_eq_true',bne_iff_ne,ne_eq,not_or,not_and,Bool.not_eq_false]at hr;obtain⟨⟨aJ,af⟩,z⟩:=hr;have U:=un aJ
 have hB:op≠13->op≠10->0<=b/\b<16:=λh1 h2=>un (af ⟨h1,h2⟩)
 have D:op≠13->0<=c/\c<16:=λh1=>un (z h1)
 have h13:op=13->0<=b/\b<=4/\b<=c/\c<=64:=by
  intro ho;subst ho;simp at hc;omega
 have br:op=7∨op=8∨op=9∨op=10∨op=20->0<=n/\n<=64:=by
  intro ho
  rcases ho with ho|ho|ho|ho|ho
  .subst ho;have e:(iZ.getD (7:Int).toNat default).n=4:=rfl;exact Kv
  .subst ho;have e:(iZ.getD (8:Int).toNat default).n=5:=rfl;exact Kv
  .subst ho;have e:(iZ.getD (9:Int).toNat default).n=5:=rfl;exact Kv
  .subst ho;have e:(iZ.getD (10:Int).toNat default).n=5:=rfl;exact Kv
  .subst ho;have e:(iZ.getD (20:Int).toNat default).n=5:=rfl;exact Kv
 refine⟨U.1,U.2,λho=>hB (by simp only at ho;omega) (by simp only at ho;omega),λho=>D (by simp only at ho;omega),λho=>?_,λho=>hB (by simp only at ho;omega) (by simp only at ho;omega),λho=>?_,λho=>?_⟩
 .have:=br (by simp only at ho;omega)
  simp only;omega
 .have:=br (by simp only at ho;omega)
  simp only;omega
 .have:=h13 ho
  simp only;omega
theorem wpList_build{P:Program}{ops:Array Oper}{rest:List Oper}{o:Oper}{a:Act}{w:World}{Q:Exit->Act->World->Prop}(ap:o.guard=none)(t:TypeId)(parts:Array (Nat × Operand))(ho:o.op=.build t parts)
 (vs:Array (Nat × Value)) (hv:parts.map (λp=>(p.1,a.eval p.2))=vs) (v:Value) (H:(Instr.build t vs).run P w=.ok v w)
 (h:wpList P ops Q rest (a.put o.dst v) w):wpList P ops Q (o::rest) a w:=by
 refine ie ap (v:=v) ?_ h;subst hv;unfold execOp;simp only[ho,Sem.run_bind,Sem.run_pure,Result.andThen_ok];rw[H]
 rfl
def Ef.zero:Ef:=⟨0,0,jb,.nil,.nil,.nil,.nil,.nil,0,false,default⟩
def jZ(jd:Sv In)(hq g9 pc:Int)(r:Nat->Vl)(h:Sv Rw)(nx:Int):X1:=⟨jd,hq,g9,pc,r,h,nx,Ef.zero,false⟩
theorem yA(jd:Sv In)(hq g9 pc:Int)(r:Nat->Vl)(h:Sv Rw)(nx:Int)(w:World):
 (Instr.build 186 #[(0,.agg #[.slice jd.A jd.l.length jd.c,i_ hq,i_ g9]),(1,.agg (iz pc r)),(2,.agg #[.slice h.A h.l.length h.c]),(3,i_ nx)]).run prog w=.ok (.agg (jZ jd hq g9 pc r h nx).g8) w:=by kernel_rfl
def vP(P:pQ)(w:World)(e:Ending)(w':World):Prop:=∃x:Ef,e=.returned (.agg x.g8)/\sd w' x/\x.p=P/\Gr [] w w'
theorem sd.nil(t:Ef)(h2:t.rs=.nil)(h3:t.ws=.nil)(aw:t.nw=.nil)(ax:t.ds=.nil)(aY:t.hU=.nil):sd w t:=by
 obtain⟨a1,f,a3,a4,a5,a,o,b,a9,c,d⟩:=t;simp only at h2 h3 aw ax aY;subst h2;subst h3;subst aw;subst ax;subst aY;exact⟨EM _ _ _ _,EM _ _ _ _,EM _ _ _ _,λr hr=>by simp[Sv.nil]at hr,EM _ _ _ _,EM _ _ _ _,G_ _,G_ _,G_ _,G_ _,G_ _⟩
theorem yV:∀j,j<43->x.g8[38+j]?=x.e.g8[j]?
 |0,_=>rfl
 |1,_=>rfl
 |2,_=>rfl
 |3,_=>rfl
 |4,_=>rfl
 |5,_=>rfl
 |6,_=>rfl
 |7,_=>rfl
 |8,_=>rfl
 |9,_=>rfl
 |10,_=>rfl
 |11,_=>rfl
 |12,_=>rfl
 |13,_=>rfl
 |14,_=>rfl
 |15,_=>rfl
 |16,_=>rfl
 |17,_=>rfl
 |18,_=>rfl
 |19,_=>rfl
 |20,_=>rfl
 |21,_=>rfl
 |22,_=>rfl
 |23,_=>rfl
 |24,_=>rfl
 |25,_=>rfl
 |26,_=>rfl
 |27,_=>rfl
 |28,_=>rfl
 |29,_=>rfl
 |30,_=>rfl
 |31,_=>rfl
 |32,_=>rfl
 |33,_=>rfl
 |34,_=>rfl
 |35,_=>rfl
 |36,_=>rfl
 |37,_=>rfl
 |38,_=>rfl
 |39,_=>rfl
 |40,_=>rfl
 |41,_=>rfl
 |42,_=>rfl
 |n+43,h=>D6 h o_
theorem ke.CQ{b w:World}{gx:Nat}{x:X1}(h:ke b w gx x):sd w x.e:=
 ⟨Sl.iG h.rs,Sl.iG h.ws,h.nw,h.nr,h.ds,h.hU,iQ h.rs,iQ h.ws,h.sO,h.rL,h.px⟩
theorem po{w w':World}{g:Nat}{x:Ef}{cs:Array Value}(h:sd w x)(hk:Bk w g 134 cs)(hg:Gr [g] w w'):sd w' x:=h.ig hk d_ hg
def oS(l:List In)(hq g9 pc:Int):Bool:=decide (hZ l hq g9=false∨pc< -1∨(l.length:Int)<=pc)
theorem pD(A:Option Addr)(c:Nat)(l:List In)(hq g9 pc nx:Int)(r:Nat->Vl)(U:Option Addr)(hc:Nat)(hl:List Rw)(w:World)(N:Is w A l)(hn:l.length<=1000000000)(z:l5 w U hc hl)(Q:hl.length<=1000000000)(uK:pc<=9000000000000000000):
 Calls prog 78 #[.agg #[.slice A l.length c,i_ hq,i_ g9],.agg (iz pc r),.agg #[.slice U hl.length hc],i_ nx] w (vP (lE l hq g9 pc r (hN hl) nx) w):=by
 obtain⟨P,hP⟩:=mn_ (lE l hq g9 pc r (hN hl) nx)
 have aT:Hid (P=if hZ l hq g9=false∨pc< -1∨(l.length:Int)<=pc then i7 else
  if(qb ({(jZ ⟨A,c,l⟩ hq g9 pc r ⟨U,hc,hl⟩ nx)with e:={(jZ ⟨A,c,l⟩ hq g9 pc r ⟨U,hc,hl⟩ nx).e with pc:=pc+1,r:=r}}:X1).p pc).hF=true then i7 else(qb ({(jZ ⟨A,c,l⟩ hq g9 pc r ⟨U,hc,hl⟩ nx)with e:={(jZ ⟨A,c,l⟩ hq g9 pc r ⟨U,hc,hl⟩ nx).e with pc:=pc+1,r:=r}}:X1).p pc).e):=h_ (by rw[<-hP];rfl)
 rw[hP];clear hP;obtain⟨u,H,-,-,-⟩:=BC w 26 #[.slice A l.length c,i_ hq,i_ g9] 49 (iz pc r) 35 #[.slice U hl.length hc] 134 tm
 have aX:Bk ((((w.alloc (.cells #[.slice A l.length c,i_ hq,i_ g9] 26)).alloc (.cells (iz pc r) 49)).alloc (.cells #[.slice U hl.length hc] 35)).alloc (.cells tm 134)) (w.heap.size+2) 35 #[.slice U hl.length hc]:=by simpa using(L_ ((w.alloc (.cells #[.slice A l.length c,i_ hq,i_ g9] 26)).alloc (.cells (iz pc r) 49)) 35 #[.slice U hl.length hc]).alloc (.cells tm 134)
 have aH:Bk ((((w.alloc (.cells #[.slice A l.length c,i_ hq,i_ g9] 26)).alloc (.cells (iz pc r) 49)).alloc (.cells #[.slice U hl.length hc] 35)).alloc (.cells tm 134)) (w.heap.size+3) 134 tm:=by simpa using L_ (((w.alloc (.cells #[.slice A l.length c,i_ hq,i_ g9] 26)).alloc (.cells (iz pc r) 49)).alloc (.cells #[.slice U hl.length hc] 35)) 134 tm
 obtain⟨-,-,-,-,J⟩:=BC w 26 #[.slice A l.length c,i_ hq,i_ g9] 49 (iz pc r) 35 #[.slice U hl.length hc] 134 tm
 go_enter func78,ntmps78
 go_upto_region 1 with fail
 obtain⟨bm,bN⟩:=nm_ ((((w.alloc (.cells #[.slice A l.length c,i_ hq,i_ g9] 26)).alloc (.cells (iz pc r) 49)).alloc (.cells #[.slice U hl.length hc] 35)).alloc (.cells tm 134));rw[<-bN]at u H aX aH J |-;clear bN;obtain⟨L,bF⟩:=nm_ w.heap.size;obtain⟨bz,b5⟩:=nm_ (w.heap.size+1);obtain⟨aW,a6⟩:=nm_ (w.heap.size+2);obtain⟨bt,bC⟩:=nm_ (w.heap.size+3);rw[<-a6]at aX;rw[<-bC]at aH;rw[<-b5]at H;rw[<-bF]at u;rw[<-bC,<-a6,<-b5,<-bF]
 have cj:w.heap.size<=bt:=by omega
 have ci:L≠bz/\L≠aW/\L≠bt/\bz≠aW/\bz≠bt/\aW≠bt:=by omega
 clear bF b5 a6 bC
 go_cut [26] (λy a7=>y=.bool (oS l hq g9 pc)/\Gr [] bm a7)
 case first=>
  have Z:=u.f_ 0;have ah:=u.f_ 1;have au:=u.f_ 2
  cases hv:hZ l hq g9 with
  |false=>
   have aY:=h_ (show oS l hq g9 pc=true by unfold oS;simp[hv]);exact Hw
  |true=>
   by_cases h1:pc< -1
   .have aY:=h_ (show oS l hq g9 pc=true by unfold oS;simp[h1])
    have q:(pc< -1)=True:=by simp[h1]
    exact Hw
   .have q:(pc< -1)=False:=by simp[h1]
    by_cases h2:(l.length:Int)<=pc
    .have aY:=h_ (show oS l hq g9 pc=true by unfold oS;simp[h2])
     have bI:((l.length:Int)<=pc)=True:=by simp[h2]
     exact Hw
    .have aY:=h_ (show oS l hq g9 pc=false by unfold oS;simp[hv];omega)
     have bI:((l.length:Int)<=pc)=False:=by simp;omega
     exact Hw
 case rest=>
  obtain⟨rfl,aM⟩:=hcut;replace u:=u.g_ aM;replace H:=H.g_ aM;replace aX:=aX.g_ aM;replace aH:=aH.g_ aM;replace J:=J.trans aM;clear aM
  cases bH:oS l hq g9 pc with
  |true=>
   have O:Hid (P=i7):=h_ (by rw[aT.out];unfold oS at bH;exact Q_ (of_decide_eq_true bH));clear bH aT
   go_wp2_with (refine kG (({Ef.zero with hT:=4}:Ef).g8) aH (Ef.one _) ?_;intro ag aN G)
   rw[O.out];exact rr_ ({Ef.zero with hT:=4}:Ef).g8 aN underlying134 ⟨_,rfl,sd.nil _ _ rfl rfl rfl rfl rfl,rfl,J.hx G p_⟩
  |false=>
   have bL:¬(hZ l hq g9=false∨pc< -1∨(l.length:Int)<=pc):=by unfold oS at bH;exact of_decide_eq_false bH
   have aD:Hid (P=if(qb ({(jZ ⟨A,c,l⟩ hq g9 pc r ⟨U,hc,hl⟩ nx)with e:={(jZ ⟨A,c,l⟩ hq g9 pc r ⟨U,hc,hl⟩ nx).e with pc:=pc+1,r:=r}}:X1).p pc).hF=true then i7 else(qb ({(jZ ⟨A,c,l⟩ hq g9 pc r ⟨U,hc,hl⟩ nx)with e:={(jZ ⟨A,c,l⟩ hq g9 pc r ⟨U,hc,hl⟩ nx).e with pc:=pc+1,r:=r}}:X1).p pc).e):=h_ (by rw[aT.out];exact P_ bL);clear bH aT
   have aI:hZ l hq g9=true:=by cases h:hZ l hq g9 with|true=>rfl|false=>exact D6 (.inl h) bL
   have bW: -1<=pc/\pc<(l.length:Int):=by omega
   have ay:∀k,k<l.length->kU l k=true:=by
    intro k hk;have hv:=aI;exact JM
   have cf:l.length<=2048:=JZ;clear bL aI;have Z:=u.f_ 0;have ah:=u.f_ 1;have au:=u.f_ 2;have z0:=aX.f_ 0
   have av:wc.heap.size≠bt:=by have:=aH.lt;omega
   have ca:wc.heap.size≠bz:=by have:=H.lt;omega
   have aR:wc.heap.size≠L:=by have:=u.lt;omega
   have bR:=N.g_ J;have bM:=z.g_ J
   go_upto_region 4 with(first|(refine kJ H underlying49 ?_)|(refine wpList_build rfl _ _ rfl #[(0,.agg #[.slice A l.length c,i_ hq,i_ g9]),(1,.agg (iz pc r)),(2,.agg #[.slice U hl.length hc]),(3,i_ nx)] k_ _ (yA ⟨A,c,l⟩ hq g9 pc r ⟨U,hc,hl⟩ nx _) ?_))
   have b3:w.heap.size<=wc.heap.size:=J.size;have o:Gr [] wc (wc.alloc (.cells (jZ ⟨A,c,l⟩ hq g9 pc r ⟨U,hc,hl⟩ nx).g8 186)):=(D_ [] wc).alloc _;have bg:=L_ wc 186 (jZ ⟨A,c,l⟩ hq g9 pc r ⟨U,hc,hl⟩ nx).g8;replace u:=u.g_ o;replace H:=H.g_ o;replace aH:=aH.g_ o;replace J:=J.trans o;replace bR:=bR.g_ o;replace bM:=bM.g_ o;obtain⟨b,b9⟩:=nm_ (wc.alloc (.cells (jZ ⟨A,c,l⟩ hq g9 pc r ⟨U,hc,hl⟩ nx).g8 186));rw[<-b9]at u H aH bg J bR bM |-;clear b9;clear o aX z0 Z ah au;generalize wc.heap.size=gx at*;have bP:ke b b gx (jZ ⟨A,c,l⟩ hq g9 pc r ⟨U,hc,hl⟩ nx):=⟨bg,D_ _ _,⟨_,bg⟩,bR,bM,World.ownsRow_nil _ _ _ _,World.ownsRow_nil _ _ _ _,(λg h=>by cases h),EM _ _ _ _,(λr hr=>by simp[jZ,Ef.zero,Sv.nil]at hr),EM _ _ _ _,EM _ _ _ _,G_ _,G_ _,G_ _,hn,Q⟩
   go_upto_region 5 with(first|(refine kJ H underlying49 ?_)|(refine i0 rfl 49 _ _ rfl gx 39 r_ (iz pc r) r_ 186 _ bg (by show 39+33<=82;decide) k_ (nP _ _) ?_;intro w2 bo ad))
   rw[mY]at bo;have V:ke b w2 gx ({(jZ ⟨A,c,l⟩ hq g9 pc r ⟨U,hc,hl⟩ nx)with e:={(jZ ⟨A,c,l⟩ hq g9 pc r ⟨U,hc,hl⟩ nx).e with pc:=pc,r:=r}}:X1):=bP.rI ad bo rfl rfl rfl rfl rfl rfl rfl;have b6:=u.gr ad (by simpa using aR.symm);have b8:=H.gr ad (by simpa using ca.symm);have b7:=aH.gr ad (by simpa using av.symm);have bS:w2.cell? (c_ gx 39)=some (i_ pc):=(V.bk.f_ 39).trans rfl;have bn:=V.bk.hm 39;clear bP bg bo u H aH
   go_upto_region 6 with fail
   have B:ke b (w2.setCell (c_ gx 39) (i_ (pc+1))) gx ({(jZ ⟨A,c,l⟩ hq g9 pc r ⟨U,hc,hl⟩ nx)with e:={(jZ ⟨A,c,l⟩ hq g9 pc r ⟨U,hc,hl⟩ nx).e with pc:=pc+1,r:=r}}:X1):=V.set 39 (i_ (pc+1)) rfl rfl rfl rfl rfl rfl rfl rfl;have bV:=b6.h7 (p:=(c_ gx 39)) aR.symm (i_ (pc+1));have bX:=b8.h7 (p:=(c_ gx 39)) ca.symm (i_ (pc+1));have bE:=b7.h7 (p:=(c_ gx 39)) av.symm (i_ (pc+1));clear bS bn V b6 b8 b7 ad;obtain⟨aJ,a2⟩:=nm_ (w2.setCell (c_ gx 39) (i_ (pc+1)));rw[<-a2]at B bV bX bE |-;clear a2;obtain⟨x,I⟩:=nm_ ({(jZ ⟨A,c,l⟩ hq g9 pc r ⟨U,hc,hl⟩ nx)with e:={(jZ ⟨A,c,l⟩ hq g9 pc r ⟨U,hc,hl⟩ nx).e with pc:=pc+1,r:=r}}:X1);rw[<-I]at B aD;have M:=h_ I
   have R:x.p.e.sm 0:=by rw[I];exact⟨G_ _,G_ _,G_ _,G_ _,G_ _⟩
   have br:x.jN=pc:=by rw[I];rfl
   have ce:x.jd=⟨A,c,l⟩:=by rw[I];rfl
   clear I;have p0:aJ.cell? (c_ bz 0)=some (i_ pc):=(bX.f_ 0).trans rfl
   by_cases bY:pc= -1
   ·
    have q:(pc== -1)=true:=by simp[bY]
    have aU:Hid (P=if(iA x.p).hF=true then(if(iA x.p).hF=true then i7 else(iA x.p).e) else(if(jc (hM (iA x.p) 1 2).1 (hM (iA x.p) 1 2).2).hF=true then i7 else(jc (hM (iA x.p) 1 2).1 (hM (iA x.p) 1 2).2).e)):=h_ (by
     rw[aD.out];unfold qb;rw[Q_ bY];dsimp only
     split<;>rfl)
    clear aD
    go_upto_region 8 with(go_at_call 116;((with_reducible refine(qr b _ gx x B).mono ?_);unfold kE;rintro e ai⟨ao,rfl,b0,bO,S⟩;have an:=h_ bO;clear bO;have m:ai.cell? (c_ gx 81)=some (.bool ao.hF):=(b0.bk.f_ 81).trans rfl))
    have cy:ao.p.e.sm 0:=by rw[an.out];exact R
    have bh:=bE.xg S av.symm
    cases n:ao.hF with
    |true=>
     have ak:Hid (P=if ao.p.hF=true then i7 else ao.p.e):=h_ (by rw[aU.out,<-an.out,Q_ (show ao.p.hF=true from n)]);rw[n]at m;clear n aU an
     go_upto_region 13 with fail
     have F:=b0;have D:=bh;have aP:Gr [] w ai:=J.hx F.gr p_;obtain⟨ax,co⟩:=nm_ ao;rw[<-co]at F ak;clear m co;obtain⟨ag,b4⟩:=nm_ ai;exact Gq
    |false=>
     obtain⟨v,hv⟩:=mn_ ((hM ao.p 1 2).2);have aB:=h_ hv;clear hv;have C:Hid (P=if(jc (hM ao.p 1 2).1 v).hF=true then i7 else(jc (hM ao.p 1 2).1 v).e):=h_ (by rw[aU.out,<-an.out,P_ (show ¬ao.p.hF=true by rw[show ao.p.hF=ao.hF from rfl,n];decide),aB.out]);rw[n]at m;clear n aU an;have bB:(hM ao.p 1 2).1.e.sm 900000:=(j6 cy 1 2).mono d_
     go_upto_region 13 with(first|(go_at_call 118;((with_reducible refine(jD b _ gx ao 1 2 b0 (F_ cy.rs d_)).mono ?_);unfold mF;rintro e T⟨aq,rfl,aj,aS,af⟩;have bf:=h_ aS;clear aS;rw[aB.out]))|(go_at_call 117;((with_reducible refine(o3 b _ gx aq v aj (by rw[bf.out];exact bB)).mono ?_);unfold kE;rintro e ae⟨bQ,rfl,aZ,a8,am⟩;have X:=h_ a8;clear a8)))
     have ak:Hid (P=if bQ.p.hF=true then i7 else bQ.p.e):=h_ (by rw[C.out,X.out,bf.out]);have F:=aZ;have D:=(bh.xg af av.symm).xg am av.symm;have aP:Gr [] w ae:=J.hx F.gr p_;clear C X bf aB m;exact Gn
   .have q:(pc== -1)=false:=by simp[bY]
    obtain⟨k,rfl⟩:∃k:Nat,pc=k:=⟨pc.toNat,by omega⟩
    have hk:k<l.length:=by omega
    have bZ:=B.CM;rw[ce]at bZ;obtain⟨bv,off,bp,bj,be,bJ,bU,bu⟩:=bZ.at_ hk;have bp:A=some (c_ bv off):=bp;have W:=vu (ay k hk)
    have ap:l.getD k default=l[k]:=by simp[List.getD,K_ hk]
    rw[ap]at W
    have cg:qb x.p (k:Int)=(match jS x.p l[k]with
     |some y=>y
     |none=>match kN x.p l[k]with
      |some y=>y
      |none=>j5 x.p l[k]):=by
     have e:x.p.jd.getD (k:Int).toNat default=l[k]:=by
      have aL:x.p.jd=l:=D9 (λs:Sv In=>s.l) ce;rw[aL,<-ap]
      rfl
     unfold qb;rw[P_ bY,e]
     rfl
    rw[cg]at aD;clear cg ap bZ ay;obtain⟨i,hi⟩:=nm_ (l[k]);rw[<-hi]at W aD bj be bJ bU bu;clear hi
    have k0:aJ.cell? (c_ L 0)=some (.slice (some (c_ bv off)) l.length c):=by rw[<-bp];exact bV.f_ 0
    go_upto_region 11 with fail
    have f:=L_ aJ 189 #[i_ i.op,i_ i.a,i_ i.b,i_ i.c,i_ i.n];have aj:=B.g_ ((D_ [] aJ).alloc (.cells #[i_ i.op,i_ i.a,i_ i.b,i_ i.c,i_ i.n] 189));have bK:=bE.alloc (.cells #[i_ i.op,i_ i.a,i_ i.b,i_ i.c,i_ i.n] 189)
    have t:aJ.heap.size≠gx:=by have:=B.bk.lt;omega
    obtain⟨bG,aE⟩:=nm_ (aJ.alloc (.cells #[i_ i.op,i_ i.a,i_ i.b,i_ i.c,i_ i.n] 189));rw[<-aE]at f aj bK |-;clear aE;generalize aJ.heap.size=a at*;clear B bE bV bX p0 k0 bj be bJ bU bu;have Z:=f.f_ 0;have ah:=f.f_ 1;have au:=f.f_ 2;have aQ:=f.f_ 3;have aV:=f.f_ 4
    cases bW:jS x.p i with
    |some y=>
     have aU:Hid (P=if y.hF=true then i7 else y.e):=h_ (by rw[aD.out,bW]);clear aD
     go_upto_region 13 with(go_at_call 119;have C:=pe b _ gx x i aj (R.mono d_) W.a0 W.a1 W.Dt W.c4;rw[bW]at C;refine C.mono ?_;unfold k9;rintro e ae⟨bQ,E,aZ,a8,am⟩;have E:e=.returned (.bool true):=E;subst E;have X:Hid (bQ.p=y):=h_ a8;clear a8 C;replace Z:=(f.xg am t).f_ 0;replace ah:=(f.xg am t).f_ 1;replace au:=(f.xg am t).f_ 2;replace aQ:=(f.xg am t).f_ 3;replace aV:=(f.xg am t).f_ 4)
     have ak:Hid (P=if bQ.p.hF=true then i7 else bQ.p.e):=h_ (by rw[aU.out,X.out]);have F:=aZ;have D:=bK.xg am av.symm;clear aU X Z ah au aQ aV bW;have aP:Gr [] w ae:=J.hx F.gr p_;exact Gn
    |none=>
     cases Y:kN x.p i with
     |some y=>
      have aU:Hid (P=if y.hF=true then i7 else y.e):=h_ (by rw[aD.out,bW];simp only[Y]);clear aD
      go_upto_region 13 with(first|(go_at_call 119;have C:=pe b _ gx x i aj (R.mono d_) W.a0 W.a1 W.Dt W.c4;rw[bW]at C;refine C.mono ?_;unfold k9;rintro e ae⟨bQ,E,aZ,a8,am⟩;have E:e=.returned (.bool false):=E;subst E;have X:Hid (bQ.p=x.p):=h_ a8;clear a8 C;replace Z:=(f.xg am t).f_ 0;replace ah:=(f.xg am t).f_ 1;replace au:=(f.xg am t).f_ 2;replace aQ:=(f.xg am t).f_ 3;replace aV:=(f.xg am t).f_ 4)|(go_at_call 120;have C:=sk b _ gx bQ i aZ (by rw[X.out];exact R.mono d_) W.a0 W.a1 W.hq;rw[X.out,Y]at C;refine C.mono ?_;unfold k9;rintro e aF⟨bl,az,bi,bT,aC⟩;have az:e=.returned (.bool true):=az;subst az;have bw:Hid (bl.p=y):=h_ bT;clear bT C;replace Z:=((f.xg am t).xg aC t).f_ 0;replace ah:=((f.xg am t).xg aC t).f_ 1;replace au:=((f.xg am t).xg aC t).f_ 2;replace aQ:=((f.xg am t).xg aC t).f_ 3;replace aV:=((f.xg am t).xg aC t).f_ 4))
      have ak:Hid (P=if bl.p.hF=true then i7 else bl.p.e):=h_ (by rw[aU.out,bw.out]);have F:=bi;have D:=(bK.xg am av.symm).xg aC av.symm;clear aU X bw Z ah au aQ aV bW Y;have aP:Gr [] w aF:=J.hx F.gr p_;obtain⟨ax,co⟩:=nm_ bl;rw[<-co]at F ak;clear co;obtain⟨ag,b4⟩:=nm_ aF;exact Gq
     |none=>
      have aU:Hid (P=if(j5 x.p i).hF=true then i7 else(j5 x.p i).e):=h_ (by rw[aD.out,bW];simp only[Y]);clear aD
      go_upto_region 13 with(first|(go_at_call 119;have C:=pe b _ gx x i aj (R.mono d_) W.a0 W.a1 W.Dt W.c4;rw[bW]at C;refine C.mono ?_;unfold k9;rintro e ae⟨bQ,E,aZ,a8,am⟩;have E:e=.returned (.bool false):=E;subst E;have X:Hid (bQ.p=x.p):=h_ a8;clear a8 C;replace Z:=(f.xg am t).f_ 0;replace ah:=(f.xg am t).f_ 1;replace au:=(f.xg am t).f_ 2;replace aQ:=(f.xg am t).f_ 3;replace aV:=(f.xg am t).f_ 4)|(go_at_call 120;have C:=sk b _ gx bQ i aZ (by rw[X.out];exact R.mono d_) W.a0 W.a1 W.hq;rw[X.out,Y]at C;refine C.mono ?_;unfold k9;rintro e aF⟨bl,az,bi,bT,aC⟩;have az:e=.returned (.bool false):=az;subst az;have bw:Hid (bl.p=x.p):=h_ bT;clear bT C;replace Z:=((f.xg am t).xg aC t).f_ 0;replace ah:=((f.xg am t).xg aC t).f_ 1;replace au:=((f.xg am t).xg aC t).f_ 2;replace aQ:=((f.xg am t).xg aC t).f_ 3;replace aV:=((f.xg am t).xg aC t).f_ 4)|(go_at_call 121;have C:=wv b _ gx bl i bi (by rw[bw.out];exact R.mono d_) W.a0 W.a1 W.DY W.n7 W.DL (by show -1<=bl.p.jN;rw[bw.out];show -1<=x.jN;rw[br];omega) (by show bl.p.jN<=1000000;rw[bw.out];show x.jN<=1000000;rw[br];omega);refine C.mono ?_;unfold kE;rintro e aG⟨ar,rfl,aK,bA,aO⟩;have bD:=h_ bA;clear bA C))
      have ak:Hid (P=if ar.p.hF=true then i7 else ar.p.e):=h_ (by rw[aU.out,bD.out,bw.out]);have F:=aK;have D:=((bK.xg am av.symm).xg aC av.symm).xg aO av.symm;clear aU X bw bD Z ah au aQ aV bW Y;have aP:Gr [] w aG:=J.hx F.gr p_;obtain⟨ax,co⟩:=nm_ ar;rw[<-co]at F ak;clear co;obtain⟨ag,b4⟩:=nm_ aG;exact Gq
end Go.Proofs.YtenbhdilndfaeaaGreat
