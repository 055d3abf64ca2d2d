import Derived.Test.YtenbhdilndfaeaaGreatR25
set_option maxRecDepth 100000
set_option maxHeartbeats 0
set_option linter.all false
namespace Go.Proofs.YtenbhdilndfaeaaGreat
open Go.RowKit Go.Proofs.Tryz
variable{G:Prop}{w:World}{c:Cl}{l:List Cl}{t:TypeId}{g:Nat}{cs:Array Value}{d:Dl}(A:OA)(rs:List Cl)(h:List Ob)(x:X1)
def Il(h:G:=by
 obtain⟨au,ce⟩:=nm_ bK;rw[<-ce]at aj ag;clear ce;obtain⟨ae,b4⟩:=nm_ ad;exact Ip):G:=h
def Ip(h:G:=by
 rw[<-b4]at aj E aC |-;clear b4
 cases F:au.hH with
 |true=>
  have ap:Hid (P=jl):=O (by rw[ag.out];exact O_ (show au.p.hH=true from F));have d:ae.cell? (Z gx 81)=some (.bool true):=(aj.bk.f_ 81).trans (FN (λq=>some (Value.bool q)) F);clear F
  go_wp2_with (refine kZ (({Ef.zero with hS:=4}:Ef).g8) E (Ef.one _) ?_;intro bo K av)
  rw[ap.out];exact rr_ ({Ef.zero with hS:=4}:Ef).g8 K underlying134 ⟨_,rfl,td.nil _ _ rfl rfl rfl rfl rfl,rfl,aC.hA av p_⟩
 |false=>
  have ap:Hid (P=au.e.p):=O (by rw[ag.out];exact I_ (show ¬au.p.hH=true by rw[show au.p.hH=au.hH from rfl,F];decide));have d:ae.cell? (Z gx 81)=some (.bool false):=(aj.bk.f_ 81).trans (FN (λq=>some (Value.bool q)) F);clear F
  go_wp2_with (first|(refine iv rfl 134 _ rfl gx 38 r_ 186 _ au.e.g8 aj.bk (λj hj=>An au j hj) _ underlying134 rfl k_ ?_)|(refine kZ (au.e.g8) E (Ef.one _) ?_;intro bo K av))
  rw[ap.out];exact rr_ au.e.g8 K underlying134 ⟨_,rfl,p7 aj.Ed E av,rfl,aC.hA av p_⟩):G:=h
def Jf(h:G:=by
 go_wp2_with (go_at_call 92;have ag:=iP A c l hq g9 (N.g_ MR) hn;rw[hv]at ag;refine ag.mono ?_;rintro e w1⟨rfl,hg1⟩;have p0:w1.cell? (Z bN 0)=some (Y pc):=((MT.g_ hg1).f_ 0).trans rfl;have k0:=(u.g_ hg1).f_ 0)
 go_meet;exact⟨i9 aV.out.symm,hg1⟩):G:=h
def K4(h:G:=by
 try simp only[a_]
 refine wpList_nil ?_;go_wp2;go_meet;exact⟨i9 aV.out.symm,(aE.trans o).trans aq⟩):G:=h
def K5(h:G:=by
 exact l5 t3.g8 (.bool false) ax underlying53 (by rw[aW.out];exact⟨t3,rfl,V,λP h=>by cases h⟩)):G:=h
def Ck(b w:World)(k:Nat)(x:X1)(op:Int)(E:Nat)(f c:Int)(n:Int)(L:ks b w k x)(p:E<16)(v:op≠5/\op≠6/\op≠7/\op≠13/\op≠14/\op≠15/\op≠17/\op≠18):
 Calls prog 121 #[q_ k,.agg #[Y op,Y (E:Int),Y f,Y c,Y n]] w (kW (.tuple #[]) (jH x.p ⟨op,E,f,c,n⟩) b k w):=by
 obtain⟨o,j,C,A,g,e,q,t⟩:=sH L #[Y op,Y (E:Int),Y f,Y c,Y n]
 go_enter func121,ntmps121
 go_upto_region 1 with fail
 clear C A;have z:=e.f_ 0;have M:J [] o o.drew:=(H [] o).drew;refine hI (λw'=>(w'.cell? (Z j 0)=some (Y op)/\w'.cell? (Z j 1)=some (Y (E:Int))/\w'.cell? (Z j 2)=some (Y f)/\w'.cell? (Z j 3)=some (Y c)/\w'.cell? (Z j 4)=some (Y n))/\w'.cell? (Z k (4+E*2))=some (.bool (x.sr E).r)/\w'.cell? (Z k (4+E*2+1))=some (Y (x.sr E).n)) 10 k_ ?_;have a:=And.intro e.drew.c5 (vL (g.bk.drew) p);have e0:(0:Int)<=(E:Int):=X;have V:(E:Int)<16:=X
 iterate 8 refine jW a ?_
 refine hV 8 λm i=>?_
 go_simp;clear a
 refine hX i (sk e g.bk p) λa=>?_
 clear i m
 refine hV 9 λm i=>?_
 go_simp;clear a
 refine hX i (sk e g.bk p) λa=>?_
 clear i m;refine hC k_ ?_ _;obtain⟨bf,aS,u,s,B,F,bu,D,U⟩:=zv g e q #[.bool (x.sr E).r,Y (x.sr E).n];rw[u,s];clear u s g e q M a;have d:(op=5)=False:=p_;have c5:(op==5)=false:=p_;have cz:(op=6)=False:=p_;have W:(op==6)=false:=p_;have cA:(op=7)=False:=p_;have bl:(op==7)=false:=p_;have ad:(op=13)=False:=p_;have T:(op==13)=false:=p_;have ae:(op=14)=False:=p_;have af:(op==14)=false:=p_;have ag:(op=15)=False:=p_;have d0:(op==15)=false:=p_;have l:(op=17)=False:=p_;have ah:(op==17)=false:=p_;have ai:(op=18)=False:=p_;have h:(op==18)=false:=p_
 have K:Hid (jH x.p ⟨op,E,f,c,n⟩=x.p):=O (by
  obtain⟨N,I,bq,P,Q,S,y,R⟩:=v;unfold jH
  exact(I_ N).trans ((I_ I).trans ((I_ bq).trans ((I_ P).trans ((I_ Q).trans ((I_ (by simp only;omega)).trans (I_ y)))))))
 clear v;have z:=F.f_ 0;go_wp2;refine en_ ?_;rw[K.out];exact⟨x,rfl,B,rfl,D⟩
def xP(b:World)(e:Nat)(x:X1)(i:In)(L:ks b w e x)(o:x.p.e.sm 800000)(F:0<=i.a)(J:i.a<16)(p:i.op=5∨i.op=6->0<=i.b/\i.b<16)(D:i.op=7->0<=i.n/\i.n<=1000000)(C:i.op=13->0<=i.b/\i.b<=16/\i.b<=i.c/\i.c<=1000000)(K: -1<=x.js)(M:x.js<=1000000):
 Calls prog 121 #[q_ e,.agg #[Y i.op,Y i.a,Y i.b,Y i.c,Y i.n]] w (kW (.tuple #[]) (jH x.p i) b e w):=by
 obtain⟨n,u,a,c,m⟩:=i;simp only at F J p D C |-;obtain⟨f,rfl⟩:∃k:Nat,u=k:=⟨u.toNat,X⟩;have j:f<16:=X
 by_cases y:n=5
 .subst y;obtain⟨G,H⟩:=p I;obtain⟨d,rfl⟩:∃k:Nat,a=k:=⟨a.toNat,X⟩;exact rest_5 b w e x f d c m L j X o
 by_cases v:n=6
 .subst v;obtain⟨G,H⟩:=p I;obtain⟨d,rfl⟩:∃k:Nat,a=k:=⟨a.toNat,X⟩;exact rest_6 b w e x f d c m L j X o
 by_cases z:n=7
 .subst z;obtain⟨N,O⟩:=D rfl;exact rest_7 b w e x f a c m L j N O
 by_cases B:n=13
 .subst B;obtain⟨Q,R,P,O⟩:=C rfl;obtain⟨d,rfl⟩:∃k:Nat,a=k:=⟨a.toNat,X⟩;obtain⟨N,rfl⟩:∃k:Nat,c=(d:Int)+(k:Int):=⟨(c-d).toNat,X⟩;exact rest_13 b w e x f d N m L X X K M j o
 by_cases E:n=14
 .subst E;exact rest_14 b w e x f a c m L j o
 by_cases s:n=15
 .subst s;exact rest_15 b w e x f a c m L j o
 by_cases q:n=17
 .subst q;exact rest_17 b w e x f a c m L j o
 by_cases r:n=18
 .subst r;exact rest_18 b w e x f a c m L j o
 exact Ck b w e x n f a c m L j ⟨y,v,z,B,E,s,q,r⟩
structure Fit(i:In):Prop where
 a0:0<=i.a
 a1:i.a<16
 E0:i.op=3∨i.op=4->0<=i.b/\i.b<16
 c4:i.op=4->0<=i.c/\i.c<16
 hq:i.op=8∨i.op=9∨i.op=10∨i.op=20->0<=i.n/\i.n<=1000000
 Fy:i.op=5∨i.op=6->0<=i.b/\i.b<16
 n7:i.op=7->0<=i.n/\i.n<=1000000
 Fi:i.op=13->0<=i.b/\i.b<=16/\i.b<=i.c/\i.c<=1000000
def vq{n:Int}{u:Bool}(h:mj n u=true):0<=n/\n<16:=by
 unfold mj at h;simp at h;omega
def wP{l:List In}{k:Nat}(h:kD l k=true):Fit (l.getD k default):=by
 unfold kD jF at h;generalize l.getD k default=x at*;obtain⟨b,B,f,c,n⟩:=x;simp only at h;split at h
 .cases h
 rename_i C;split at h
 .cases h
 rename_i p;split at h
 .cases h
 rename_i z;have d:0<=b/\b<=21:=X;simp only[Hw,FP,Bool.not_eq_true',bne_iff_ne,ne_eq,not_or,not_and,Bool.not_eq_false]at p;obtain⟨⟨s,r⟩,u⟩:=p;have j:=vq s
 have o:b≠13->b≠10->0<=f/\f<16:=λi y=>vq (r ⟨i,y⟩)
 have q:b≠13->0<=c/\c<16:=λi=>vq (u i)
 have v:b=13->0<=f/\f<=4/\f<=c/\c<=64:=by
  intro a;subst a;simp at z;omega
 have m:b=7∨b=8∨b=9∨b=10∨b=20->0<=n/\n<=64:=by
  intro a
  rcases a with a|a|a|a|a
  .subst a;have e:(iK.getD (7:Int).toNat default).n=4:=rfl;exact MJ
  .subst a;exact L3
  .subst a;exact LZ
  .subst a;exact LV
  .subst a;exact LU
 refine⟨j.1,j.2,λa=>o (by simp only at a;omega) (by simp only at a;omega),λa=>q (by simp only at a;omega),λa=>?_,λa=>o (by simp only at a;omega) (by simp only at a;omega),λa=>?_,λa=>?_⟩
 .have:=m (by simp only at a;omega)
  simp only;omega
 .have:=m (by simp only at a;omega)
  simp only;omega
 .have:=v a
  simp only;omega
def wpList_build{P:Program}{ops:Array Oper}{rest:List Oper}{b:Oper}{a:Act}{Q:Exit->Act->World->Prop}(i:b.guard=none){e:Array (Nat × Operand)}(j:b.op=.build t e)(vs:Array (Nat × Value))(k:e.map (λp=>(p.1,a.eval p.2))=vs){v:Value}(f:(Instr.build t vs).run P w=.ok v w)(h:wpList P ops Q rest (a.put b.dst v) w):wpList P ops Q (b::rest) a w:=by
 refine ip i (v:=v) ?_ h;subst k;unfold execOp;simp only[j,Sem.run_bind,Sem.run_pure,Result.andThen_ok];rw[f]
 rfl
def Ef.zero:Ef:=⟨0,0,i5,.nil,.nil,.nil,.nil,.nil,0,false,default⟩
def j4(i3:Sv In)(hq g9 pc:Int)(r:Nat->Vl)(h:Sv Rw)(nx:Int):X1:=⟨i3,hq,g9,pc,r,h,nx,Ef.zero,false⟩
def zZ(a:Sv In)(hq g9 pc:Int)(r:Nat->Vl)(h:Sv Rw)(nx:Int):
 (Instr.build 186 #[(0,.agg #[.slice a.A a.l.length a.c,Y hq,Y g9]),(1,.agg (iE pc r)),(2,.agg #[.slice h.A h.l.length h.c]),(3,Y nx)]).run prog w=.ok (.agg (j4 a hq g9 pc r h nx).g8) w:=by kernel_rfl
def xf(P:qr)(w:World)(e:Ending)(w':World):Prop:=∃x:Ef,e=.returned (.agg x.g8)/\td w' x/\x.p=P/\J [] w w'
def td.nil(w:World)(t:Ef)(f:t.rs=.nil)(i:t.ws=.nil)(b:t.nw=.nil)(e:t.ds=.nil)(a:t.hW=.nil):td w t:=by
 obtain⟨m,G,n,o,p,k,s,r,q,c,d⟩:=t;simp only at f i b e a;subst f;subst i;subst b;subst e;subst a;exact⟨Gz _ _ _ _,Gz _ _ _ _,Gz _ _ _ _,λu j=>by simp[Sv.nil]at j,Gz _ _ _ _,Gz _ _ _ _,H_ _,H_ _,H_ _,H_ _,H_ _⟩
def An:∀a,a<43->x.g8[38+a]?=x.e.g8[a]?
 |0,_=>rfl
 |1,_=>rfl
 |2,_=>rfl
 |3,_=>rfl
 |4,_=>rfl
 |5,_=>rfl
 |6,_=>rfl
 |7,_=>rfl
 |8,_=>rfl
 |9,_=>rfl
 |10,_=>rfl
 |11,_=>rfl
 |12,_=>rfl
 |13,_=>rfl
 |14,_=>rfl
 |15,_=>rfl
 |16,_=>rfl
 |17,_=>rfl
 |18,_=>rfl
 |19,_=>rfl
 |20,_=>rfl
 |21,_=>rfl
 |22,_=>rfl
 |23,_=>rfl
 |24,_=>rfl
 |25,_=>rfl
 |26,_=>rfl
 |27,_=>rfl
 |28,_=>rfl
 |29,_=>rfl
 |30,_=>rfl
 |31,_=>rfl
 |32,_=>rfl
 |33,_=>rfl
 |34,_=>rfl
 |35,_=>rfl
 |36,_=>rfl
 |37,_=>rfl
 |38,_=>rfl
 |39,_=>rfl
 |40,_=>rfl
 |41,_=>rfl
 |42,_=>rfl
 |n+43,h=>U_ h X
def ks.Ed{b:World}{a:Nat}{x:X1}(h:ks b w a x):td w x.e:=
 ⟨Sl.iQ h.rs,Sl.iQ h.ws,h.nw,h.nr,h.ds,h.hW,jk h.rs,jk h.ws,h.tN,h.sJ,h.qc⟩
def p7{w':World}{x:Ef}(h:td w x)(b:Bk w g 134 cs)(a:J [g] w w'):td w' x:=h.ir b I a
def pq(l:List In)(hq g9 pc:Int):Bool:=decide (hY l hq g9=false∨pc< -1∨(l.length:Int)<=pc)
def qj(c:Nat)(l:List In)(hq g9 pc nx:Int)(r:Nat->Vl)(i:OA)(m:Nat)(a:List Rw)(N:Is w A l)(hn:l.length<=1000000000)(al:mB w i m a)(ax:a.length<=1000000000)(s4:pc<=9000000000000000000):
 Calls prog 78 #[.agg #[.slice A l.length c,Y hq,Y g9],.agg (iE pc r),.agg #[.slice i a.length m],Y nx] w (xf (j8 l hq g9 pc r (hU a) nx) w):=by
 obtain⟨P,hP⟩:=mn_ (j8 l hq g9 pc r (hU a) nx)
 have aQ:Hid (P=if hY l hq g9=false∨pc< -1∨(l.length:Int)<=pc then jl else
  if(mx ({(j4 ⟨A,c,l⟩ hq g9 pc r ⟨i,m,a⟩ nx)with e:={(j4 ⟨A,c,l⟩ hq g9 pc r ⟨i,m,a⟩ nx).e with pc:=pc+1,r:=r}}:X1).p pc).hH=true then jl else(mx ({(j4 ⟨A,c,l⟩ hq g9 pc r ⟨i,m,a⟩ nx)with e:={(j4 ⟨A,c,l⟩ hq g9 pc r ⟨i,m,a⟩ nx).e with pc:=pc+1,r:=r}}:X1).p pc).e):=O (by rw[<-hP];rfl)
 rw[hP];clear hP;obtain⟨u,MT,-,-,-⟩:=C6 w 26 #[.slice A l.length c,Y hq,Y g9] 49 (iE pc r) 35 #[.slice i a.length m] 134 un;have bi:Bk ((((w.alloc (.cells #[.slice A l.length c,Y hq,Y g9] 26)).alloc (.cells (iE pc r) 49)).alloc (.cells #[.slice i a.length m] 35)).alloc (.cells un 134)) (w.heap.size+2) 35 #[.slice i a.length m]:=zu ((Q_ ((w.alloc (.cells #[.slice A l.length c,Y hq,Y g9] 26)).alloc (.cells (iE pc r) 49)) 35 #[.slice i a.length m]).alloc (.cells un 134));have D:Bk ((((w.alloc (.cells #[.slice A l.length c,Y hq,Y g9] 26)).alloc (.cells (iE pc r) 49)).alloc (.cells #[.slice i a.length m] 35)).alloc (.cells un 134)) (w.heap.size+3) 134 un:=zu (Q_ (((w.alloc (.cells #[.slice A l.length c,Y hq,Y g9] 26)).alloc (.cells (iE pc r) 49)).alloc (.cells #[.slice i a.length m] 35)) 134 un);obtain⟨-,-,-,-,MR⟩:=C6 w 26 #[.slice A l.length c,Y hq,Y g9] 49 (iE pc r) 35 #[.slice i a.length m] 134 un
 go_enter func78,ntmps78
 go_upto_region 1 with fail
 obtain⟨bj,bh⟩:=nm_ ((((w.alloc (.cells #[.slice A l.length c,Y hq,Y g9] 26)).alloc (.cells (iE pc r) 49)).alloc (.cells #[.slice i a.length m] 35)).alloc (.cells un 134));rw[<-bh]at u MT bi D MR |-;clear bh;obtain⟨an,bD⟩:=nm_ w.heap.size;obtain⟨bN,b5⟩:=nm_ (w.heap.size+1);obtain⟨aU,bC⟩:=nm_ (w.heap.size+2);obtain⟨a2,bt⟩:=nm_ (w.heap.size+3);rw[<-bC]at bi;rw[<-bt]at D;rw[<-b5]at MT;rw[<-bD]at u;rw[<-bt,<-bC,<-b5,<-bD];have cn:w.heap.size<=a2:=X;have ck:an≠bN/\an≠aU/\an≠a2/\bN≠aU/\bN≠a2/\aU≠a2:=X;clear bD b5 bC bt
 go_cut [26] (λC a6=>C=.bool (pq l hq g9 pc)/\J [] bj a6)
 case first=>
  have L:=u.f_ 0;have T:=u.f_ 1;have Q:=u.f_ 2
  cases hv:hY l hq g9 with
  |false=>
   have aV:=O (show pq l hq g9 pc=true by unfold pq;simp[hv]);exact Jf
  |true=>
   by_cases b:pc< -1
   .have aV:=O (show pq l hq g9 pc=true by unfold pq;simp[b])
    have q:(pc< -1)=True:=by simp[b]
    exact Jf
   .have q:(pc< -1)=False:=by simp[b]
    by_cases f:(l.length:Int)<=pc
    .have aV:=O (show pq l hq g9 pc=true by unfold pq;simp[f])
     have n:((l.length:Int)<=pc)=True:=by simp[f]
     exact Jf
    .have aV:=O (show pq l hq g9 pc=false by unfold pq;simp[hv];omega);have n:((l.length:Int)<=pc)=False:=p_;exact Jf
 case rest=>
  obtain⟨rfl,aM⟩:=hcut;replace u:=u.g_ aM;replace MT:=MT.g_ aM;replace bi:=bi.g_ aM;replace D:=D.g_ aM;replace MR:=MR.trans aM;clear aM
  cases bO:pq l hq g9 pc with
  |true=>
   have ap:Hid (P=jl):=O (by rw[aQ.out];unfold pq at bO;exact O_ (of_decide_eq_true bO));clear bO aQ
   go_wp2_with (refine kZ (({Ef.zero with hS:=4}:Ef).g8) D (Ef.one _) ?_;intro ae b G)
   rw[ap.out];exact rr_ ({Ef.zero with hS:=4}:Ef).g8 b underlying134 ⟨_,rfl,td.nil _ _ rfl rfl rfl rfl rfl,rfl,MR.hA G p_⟩
  |false=>
   have bF:¬(hY l hq g9=false∨pc< -1∨(l.length:Int)<=pc):=by unfold pq at bO;exact H6 bO
   have R:Hid (P=if(mx ({(j4 ⟨A,c,l⟩ hq g9 pc r ⟨i,m,a⟩ nx)with e:={(j4 ⟨A,c,l⟩ hq g9 pc r ⟨i,m,a⟩ nx).e with pc:=pc+1,r:=r}}:X1).p pc).hH=true then jl else(mx ({(j4 ⟨A,c,l⟩ hq g9 pc r ⟨i,m,a⟩ nx)with e:={(j4 ⟨A,c,l⟩ hq g9 pc r ⟨i,m,a⟩ nx).e with pc:=pc+1,r:=r}}:X1).p pc).e):=O (by rw[aQ.out];exact I_ bF);clear bO aQ
   have aR:hY l hq g9=true:=by cases h:hY l hq g9 with|true=>rfl|false=>exact U_ (.inl h) bF
   have V: -1<=pc/\pc<(l.length:Int):=X
   have aG:∀k,k<l.length->kD l k=true:=by
    intro k hk;have hv:=aR;exact Mh
   have cj:l.length<=2048:=LW;clear bF aR;have L:=u.f_ 0;have T:=u.f_ 1;have Q:=u.f_ 2;have z0:=bi.f_ 0;have S:wc.heap.size≠a2:=ov D.lt;have cf:wc.heap.size≠bN:=ov MT.lt;have aW:wc.heap.size≠an:=ov u.lt;have bS:=N.g_ MR;have bR:=al.g_ MR
   go_upto_region 4 with(first|(refine k5 MT underlying49 ?_)|(refine wpList_build rfl rfl #[(0,.agg #[.slice A l.length c,Y hq,Y g9]),(1,.agg (iE pc r)),(2,.agg #[.slice i a.length m]),(3,Y nx)] k_ (zZ ⟨A,c,l⟩ hq g9 pc r ⟨i,m,a⟩ nx) ?_))
   have bQ:w.heap.size<=wc.heap.size:=MR.size;have aA:J [] wc (wc.alloc (.cells (j4 ⟨A,c,l⟩ hq g9 pc r ⟨i,m,a⟩ nx).g8 186)):=(H [] wc).alloc _;have bw:=Q_ wc 186 (j4 ⟨A,c,l⟩ hq g9 pc r ⟨i,m,a⟩ nx).g8;replace u:=u.g_ aA;replace MT:=MT.g_ aA;replace D:=D.g_ aA;replace MR:=MR.trans aA;replace bS:=bS.g_ aA;replace bR:=bR.g_ aA;obtain⟨B,ca⟩:=nm_ (wc.alloc (.cells (j4 ⟨A,c,l⟩ hq g9 pc r ⟨i,m,a⟩ nx).g8 186));rw[<-ca]at u MT D bw MR bS bR |-;clear ca;clear aA bi z0 L T Q;generalize wc.heap.size=gx at*;have bV:ks B B gx (j4 ⟨A,c,l⟩ hq g9 pc r ⟨i,m,a⟩ nx):=⟨bw,H _ _,⟨_,bw⟩,bS,bR,World.ownsRow_nil _ _ _ _,World.ownsRow_nil _ _ _ _,(λg h=>by cases h),Gz _ _ _ _,(λr hr=>by simp[j4,Ef.zero,Sv.nil]at hr),Gz _ _ _ _,Gz _ _ _ _,H_ _,H_ _,H_ _,hn,ax⟩
   go_upto_region 5 with(first|(refine k5 MT underlying49 ?_)|(refine jc rfl 49 _ _ rfl gx 39 r_ (iE pc r) r_ 186 _ bw (by show 39+33<=82;decide) k_ (oi) ?_;intro w2 bE MS))
   rw[ny]at bE;have bd:ks B w2 gx ({(j4 ⟨A,c,l⟩ hq g9 pc r ⟨i,m,a⟩ nx)with e:={(j4 ⟨A,c,l⟩ hq g9 pc r ⟨i,m,a⟩ nx).e with pc:=pc,r:=r}}:X1):=bV.sG MS bE rfl rfl rfl rfl rfl rfl rfl;have b7:=u.gr MS (zu aW.symm);have b9:=MT.gr MS (zu cf.symm);have b8:=D.gr MS (zu S.symm);have bT:w2.cell? (Z gx 39)=some (Y pc):=(bd.bk.f_ 39).trans rfl;have bU:=bd.bk.hm 39;clear bV bw bE u MT D
   go_upto_region 6 with fail
   have bk:ks B (w2.setCell (Z gx 39) (Y (pc+1))) gx ({(j4 ⟨A,c,l⟩ hq g9 pc r ⟨i,m,a⟩ nx)with e:={(j4 ⟨A,c,l⟩ hq g9 pc r ⟨i,m,a⟩ nx).e with pc:=pc+1,r:=r}}:X1):=bd.set 39 (Y (pc+1)) rfl rfl rfl rfl rfl rfl rfl rfl;have bY:=b7.ib (p:=(Z gx 39)) aW.symm (Y (pc+1));have bZ:=b9.ib (p:=(Z gx 39)) cf.symm (Y (pc+1));have bJ:=b8.ib (p:=(Z gx 39)) S.symm (Y (pc+1));clear bT bU bd b7 b9 b8 MS;obtain⟨aK,aJ⟩:=nm_ (w2.setCell (Z gx 39) (Y (pc+1)));rw[<-aJ]at bk bY bZ bJ |-;clear aJ;obtain⟨x,hx⟩:=nm_ ({(j4 ⟨A,c,l⟩ hq g9 pc r ⟨i,m,a⟩ nx)with e:={(j4 ⟨A,c,l⟩ hq g9 pc r ⟨i,m,a⟩ nx).e with pc:=pc+1,r:=r}}:X1);rw[<-hx]at bk R;have br:=O hx
   have bx:x.p.e.sm 0:=by rw[hx];exact⟨H_ _,H_ _,H_ _,H_ _,H_ _⟩
   have bp:x.js=pc:=by rw[hx];rfl
   have cg:x.i3=⟨A,c,l⟩:=by rw[hx];rfl
   clear hx;have p0:aK.cell? (Z bN 0)=some (Y pc):=(bZ.f_ 0).trans rfl
   by_cases bW:pc= -1
   ·
    have q:(pc== -1)=true:=by simp[bW]
    have y:Hid (P=if(iB x.p).hH=true then(if(iB x.p).hH=true then jl else(iB x.p).e) else(if(iX (hJ (iB x.p) 1 2).1 (hJ (iB x.p) 1 2).2).hH=true then jl else(iX (hJ (iB x.p) 1 2).1 (hJ (iB x.p) 1 2).2).e)):=O (by
     rw[R.out];unfold mx;rw[O_ bW];dsimp only
     split<;>rfl)
    clear R
    go_upto_region 8 with(go_at_call 116;((with_reducible refine(q6 B gx x bk).mono ?_);unfold kW;rintro e M⟨f,rfl,W,bA,cb⟩;have s:=O bA;clear bA;have d:M.cell? (Z gx 81)=some (.bool f.hH):=(W.bk.f_ 81).trans rfl))
    have cp:f.p.e.sm 0:=by rw[s.out];exact bx
    have ar:=bJ.xg cb S.symm
    cases n:f.hH with
    |true=>
     have ag:Hid (P=if f.p.hH=true then jl else f.p.e):=O (by rw[y.out,<-s.out,O_ (show f.p.hH=true from n)]);rw[n]at d;clear n y s
     go_upto_region 13 with fail
     have aj:=W;have E:=ar;have aC:J [] w M:=MR.hA aj.gr p_;obtain⟨au,ce⟩:=nm_ f;rw[<-ce]at aj ag;clear d ce;obtain⟨ae,b4⟩:=nm_ M;exact Ip
    |false=>
     obtain⟨cc,hv⟩:=mn_ ((hJ f.p 1 2).2);have z:=O hv;clear hv;have o:Hid (P=if(iX (hJ f.p 1 2).1 cc).hH=true then jl else(iX (hJ f.p 1 2).1 cc).e):=O (by rw[y.out,<-s.out,I_ (show ¬f.p.hH=true by rw[show f.p.hH=f.hH from rfl,n];decide),z.out]);rw[n]at d;clear n y s;have bz:(hJ f.p 1 2).1.e.sm 900000:=(kb cp 1 2).mono I
     go_upto_region 13 with(first|(go_at_call 118;((with_reducible refine(jL B gx f 1 2 W (G_ cp.rs I)).mono ?_);unfold m8;rintro e ch⟨MP,rfl,aD,aZ,af⟩;have be:=O aZ;clear aZ;rw[z.out]))|(go_at_call 117;((with_reducible refine(pE B gx MP cc aD (by rw[be.out];exact bz)).mono ?_);unfold kW;rintro e ad⟨bK,rfl,a8,U,b⟩;have v:=O U;clear U)))
     have ag:Hid (P=if bK.p.hH=true then jl else bK.p.e):=O (by rw[o.out,v.out,be.out]);have aj:=a8;have E:=(ar.xg af S.symm).xg b S.symm;have aC:J [] w ad:=MR.hA aj.gr p_;clear o v be z d;exact Il
   .have q:(pc== -1)=false:=by simp[bW]
    obtain⟨k,rfl⟩:∃k:Nat,pc=k:=⟨pc.toNat,X⟩;have hk:k<l.length:=X;have b0:=bk.D8;rw[cg]at b0;obtain⟨bn,off,bl,bm,bu,bH,bM,aY⟩:=b0.at_ hk;have bl:A=some (Z bn off):=bl;have s:=wP (aG k hk)
    have aq:l.getD k default=l[k]:=by simp[List.getD,L_ hk]
    rw[aq]at s
    have b6:mx x.p (k:Int)=(match jb x.p l[k]with
     |some C=>C
     |none=>match ki x.p l[k]with
      |some C=>C
      |none=>jH x.p l[k]):=by
     have e:x.p.i3.getD (k:Int).toNat default=l[k]:=by
      have aw:x.p.i3=l:=FN (λci:Sv In=>ci.l) cg;rw[aw,<-aq]
      rfl
     unfold mx;rw[I_ bW,e]
     rfl
    rw[b6]at R;clear b6 aq b0 aG;obtain⟨n,hi⟩:=nm_ (l[k]);rw[<-hi]at s R bm bu bH bM aY;clear hi
    have k0:aK.cell? (Z an 0)=some (.slice (some (Z bn off)) l.length c):=by rw[<-bl];exact bY.f_ 0
    go_upto_region 11 with fail
    have f:=Q_ aK 189 #[Y n.op,Y n.a,Y n.b,Y n.c,Y n.n];have aD:=bk.g_ ((H [] aK).alloc (.cells #[Y n.op,Y n.a,Y n.b,Y n.c,Y n.n] 189));have bP:=bJ.alloc (.cells #[Y n.op,Y n.a,Y n.b,Y n.c,Y n.n] 189);have t:aK.heap.size≠gx:=ov bk.bk.lt;obtain⟨bI,aF⟩:=nm_ (aK.alloc (.cells #[Y n.op,Y n.a,Y n.b,Y n.c,Y n.n] 189));rw[<-aF]at f aD bP |-;clear aF;generalize aK.heap.size=cl at*;clear bk bJ bY bZ p0 k0 bm bu bH bM aY;have L:=f.f_ 0;have T:=f.f_ 1;have Q:=f.f_ 2;have aS:=f.f_ 3;have aX:=f.f_ 4
    cases V:jb x.p n with
    |some C=>
     have y:Hid (P=if C.hH=true then jl else C.e):=O (by rw[R.out,V]);clear R
     go_upto_region 13 with(go_at_call 119;have o:=pS B gx x n aD (bx.mono I) s.a0 s.a1 s.E0 s.c4;rw[V]at o;refine o.mono ?_;unfold lC;rintro e ad⟨bK,M,a8,U,b⟩;have M:e=.returned (.bool true):=M;subst M;have v:Hid (bK.p=C):=O U;clear U o;replace L:=(f.xg b t).f_ 0;replace T:=(f.xg b t).f_ 1;replace Q:=(f.xg b t).f_ 2;replace aS:=(f.xg b t).f_ 3;replace aX:=(f.xg b t).f_ 4)
     have ag:Hid (P=if bK.p.hH=true then jl else bK.p.e):=O (by rw[y.out,v.out]);have aj:=a8;have E:=bP.xg b S.symm;clear y v L T Q aS aX V;have aC:J [] w ad:=MR.hA aj.gr p_;exact Il
    |none=>
     cases MM:ki x.p n with
     |some C=>
      have y:Hid (P=if C.hH=true then jl else C.e):=O (by rw[R.out,V];simp only[MM]);clear R
      go_upto_region 13 with(first|(go_at_call 119;have o:=pS B gx x n aD (bx.mono I) s.a0 s.a1 s.E0 s.c4;rw[V]at o;refine o.mono ?_;unfold lC;rintro e ad⟨bK,M,a8,U,b⟩;have M:e=.returned (.bool false):=M;subst M;have v:Hid (bK.p=x.p):=O U;clear U o;replace L:=(f.xg b t).f_ 0;replace T:=(f.xg b t).f_ 1;replace Q:=(f.xg b t).f_ 2;replace aS:=(f.xg b t).f_ 3;replace aX:=(f.xg b t).f_ 4)|(go_at_call 120;have o:=tp B gx bK n a8 (by rw[v.out];exact bx.mono I) s.a0 s.a1 s.hq;rw[v.out,MM]at o;refine o.mono ?_;unfold lC;rintro e ay⟨W,a7,bv,bg,z⟩;have a7:e=.returned (.bool true):=a7;subst a7;have bB:Hid (W.p=C):=O bg;clear bg o;replace L:=((f.xg b t).xg z t).f_ 0;replace T:=((f.xg b t).xg z t).f_ 1;replace Q:=((f.xg b t).xg z t).f_ 2;replace aS:=((f.xg b t).xg z t).f_ 3;replace aX:=((f.xg b t).xg z t).f_ 4))
      have ag:Hid (P=if W.p.hH=true then jl else W.p.e):=O (by rw[y.out,bB.out]);have aj:=bv;have E:=(bP.xg b S.symm).xg z S.symm;clear y v bB L T Q aS aX V MM;have aC:J [] w ay:=MR.hA aj.gr p_;obtain⟨au,ce⟩:=nm_ W;rw[<-ce]at aj ag;clear ce;obtain⟨ae,b4⟩:=nm_ ay;exact Ip
     |none=>
      have y:Hid (P=if(jH x.p n).hH=true then jl else(jH x.p n).e):=O (by rw[R.out,V];simp only[MM]);clear R
      go_upto_region 13 with(first|(go_at_call 119;have o:=pS B gx x n aD (bx.mono I) s.a0 s.a1 s.E0 s.c4;rw[V]at o;refine o.mono ?_;unfold lC;rintro e ad⟨bK,M,a8,U,b⟩;have M:e=.returned (.bool false):=M;subst M;have v:Hid (bK.p=x.p):=O U;clear U o;replace L:=(f.xg b t).f_ 0;replace T:=(f.xg b t).f_ 1;replace Q:=(f.xg b t).f_ 2;replace aS:=(f.xg b t).f_ 3;replace aX:=(f.xg b t).f_ 4)|(go_at_call 120;have o:=tp B gx bK n a8 (by rw[v.out];exact bx.mono I) s.a0 s.a1 s.hq;rw[v.out,MM]at o;refine o.mono ?_;unfold lC;rintro e ay⟨W,a7,bv,bg,z⟩;have a7:e=.returned (.bool false):=a7;subst a7;have bB:Hid (W.p=x.p):=O bg;clear bg o;replace L:=((f.xg b t).xg z t).f_ 0;replace T:=((f.xg b t).xg z t).f_ 1;replace Q:=((f.xg b t).xg z t).f_ 2;replace aS:=((f.xg b t).xg z t).f_ 3;replace aX:=((f.xg b t).xg z t).f_ 4)|(go_at_call 121;have o:=xP B gx W n bv (by rw[bB.out];exact bx.mono I) s.a0 s.a1 s.Fy s.n7 s.Fi (by show -1<=W.p.js;rw[bB.out];show -1<=x.js;rw[bp];omega) (by show W.p.js<=1000000;rw[bB.out];show x.js<=1000000;rw[bp];omega);refine o.mono ?_;unfold kW;rintro e aH⟨cm,rfl,aE,bX,aN⟩;have bq:=O bX;clear bX o))
      have ag:Hid (P=if cm.p.hH=true then jl else cm.p.e):=O (by rw[y.out,bq.out,bB.out]);have aj:=aE;have E:=((bP.xg b S.symm).xg z S.symm).xg aN S.symm;clear y v bB bq L T Q aS aX V MM;have aC:J [] w aH:=MR.hA aj.gr p_;obtain⟨au,ce⟩:=nm_ cm;rw[<-ce]at aj ag;clear ce;obtain⟨ae,b4⟩:=nm_ aH;exact Ip
def vI(o:Option i6)(w:World)(e:Ending)(w':World):Prop:=∃t:Tk,e=.returned (.tuple #[.agg t.g8,.bool o.isSome])/\J [] w w'/\∀P,o=some P->ln w' t/\t.p=P
def A8{t:i6}{rs ws:List Cl}{l:List Dl}(h:take t d=none):jK t rs ws (d::l)=jK t rs ws l:=by
 rw[jK,h]
def zt{t t':i6}{rs ws:List Cl}{l:List Dl}(h:take t d=some t'):jK t rs ws (d::l)=jK t' (jB rs d) (jB ws d) l:=by
 rw[jK,h]
def Cs.ir{w':World}{A:OA}(h:Cs w A l)(e:Bk w g t cs)(a:116≠t)(b:J [g] w w'):Cs w' A l:=Sl.ir h e a b
def nn(t:i6)(c:Cl):Bool:=decide (0<=jn t.nw c.id∨0<=cat t.ws c.id c.f∨0<=cat t.rs c.id c.f)
def xT{view:List Ob}{t:i6}(h:nn t c=true):kj view t (c::l)=kj view t l:=by
 have a:0<=jn t.nw c.id∨0<=cat t.ws c.id c.f∨0<=cat t.rs c.id c.f:=by simpa[nn]using h
 rw[kj,q9,O_ a]
def wo{view:List Ob}{t:i6}(h:nn t c=false)(b:pu t.ds c.id c.f<0):q9 view t c=some {t with rs:=ka t.rs c}:=by
 have a:¬(0<=jn t.nw c.id∨0<=cat t.ws c.id c.f∨0<=cat t.rs c.id c.f):=by simpa[nn]using h
 rw[q9,I_ a,I_ X]
def zr{view:List Ob}{t:i6}(h:nn t c=false)(a:pu t.ds c.id c.f<0):kj view t (c::l)=kj view {t with rs:=ka t.rs c} l:=by
 rw[kj,wo h a]
def wn{view:List Ob}{t:i6}(h:nn t c=false)(a:0<=pu t.ds c.id c.f):q9 view t c=jO t view c.id c.f:=by
 have b:¬(0<=jn t.nw c.id∨0<=cat t.ws c.id c.f∨0<=cat t.rs c.id c.f):=by simpa[nn]using h
 rw[q9,I_ b,O_ a]
def A7{view:List Ob}{t:i6}(h:nn t c=false)(a:0<=pu t.ds c.id c.f)(b:jO t view c.id c.f=none):kj view t (c::l)=none:=by
 rw[kj,wn h a,b]
def zq{view:List Ob}{t t':i6}(h:nn t c=false)(a:0<=pu t.ds c.id c.f)(b:jO t view c.id c.f=some t'):kj view t (c::l)=kj view t' l:=by
 rw[kj,wn h a,b]
def A6{view:List Ob}{t:i6}(a:jO t view c.id c.f=none):kO view t (c::l)=none:=by
 rw[kO,tH,a]
 rfl
def zp{view:List Ob}{t t':i6}(a:jO t view c.id c.f=some t'):kO view t (c::l)=kO view (iO t' c) l:=by
 rw[kO,tH,a]
 rfl
def Ee:116≠134/\56≠134/\38≠134/\124≠134/\162≠134:=by decide
def xS(t:Tk)(A:OA)(c:Nat)(l:List Rw)(f:Ef)(w:World)(MO:ln w t)(h:mB w A c l)(he:td w f)(hs:t.p.sm 1000000)(hes:f.p.sm 1000)(hl:l.length<=100000000):
 Calls prog 81 #[.agg t.g8,.agg #[.slice A l.length c],.agg f.g8] w (vI (record t.p (hU l) f.p) w):=by
 obtain⟨b,k,q,s,MR⟩:=C6 w 53 t.g8 35 #[.slice A l.length c] 134 f.g8 53 lK
 go_enter func81,ntmps81
 go_upto_region 1 with fail
 obtain⟨al,aI⟩:=nm_ ((((w.alloc (.cells t.g8 53)).alloc (.cells #[.slice A l.length c] 35)).alloc (.cells f.g8 134)).alloc (.cells lK 53));rw[<-aI]at b k q s MR |-;clear aI;have an:al.cell? (Z (w.heap.size+1+1) 37)=some (.slice f.ds.A f.ds.l.length f.ds.c):=(q.f_ 37).trans rfl;go_wp2
 go_loopw [20] (λaA wr=>∃(u:Nat) (U:Tk) (rs ws:Sv Cl),u<=f.ds.l.length/\aA=Y u/\Bk wr (w.heap.size) 53 U.g8/\Bk wr (w.heap.size+1+1) 134 ({f with rs:=rs,ws:=ws}:Ef).g8/\Bk wr (w.heap.size+1) 35 #[.slice A l.length c]/\Bk wr (w.heap.size+1+1+1) 53 lK/\ln wr U/\Cs wr rs.A rs.l/\Cs wr ws.A ws.l/\rs.ok/\ws.ok/\jK t.p f.rs.l f.ws.l f.ds.l=jK U.p rs.l ws.l (f.ds.l.drop u)/\U.p.sm (1000000+u)/\rs.l.length<=1000/\ws.l.length<=1000/\J [] w wr) (λaA _=>f.ds.l.length-(intOf aA).toNat)
 case atStart=>exact⟨0,t,f.rs,f.ws,P_ _,rfl,b,q,k,s,MO.g_ MR,(he.g_ MR).rs,(he.g_ MR).ws,he.lD,he.vU,rfl,hs.mono X,hes.rs,hes.ws,MR⟩
 case round=>
  clear b q k s MR an;obtain⟨u,U,rs,ws,hk,rfl,b,q,k,s,bS,S,C,dj,dm,aR,B,aU,da,y⟩:=hrel;have MS:=O aR;clear aR;have c6:=hes.ds
  by_cases aj:u<f.ds.l.length
  .have aP:(u:Int)<(f.ds.l.length:Int):=X;have du:f.ds.l.length<=1000:=c6;have q1:U.ds.l.length<=1000000000:=G_ B.ds X
   have q2:U.nw.l.length<=1000000000:=by have:=B.nw;rw[show U.p.nw=hU U.nw.l from rfl,hZ]at this;omega
   have q3:U.ws.l.length<=1000000000:=G_ B.ws X;have cY:U.rs.l.length<=1000000000:=G_ B.rs X;obtain⟨bd,off,aG,bm,bu,bH,bM,aY⟩:=((he.g_ y).ds).at_ aj;rw[aG];have aC:=O (show f.ds.l.drop u=f.ds.l[u]::f.ds.l.drop (u+1) from Y_ aj);generalize f.ds.l[u]=d at*;have aE:=(H [] wr).alloc (.cells #[Y d.id,Y d.f,Y d.op,.bool d.v.r,Y d.v.n] 124);have c7:w.heap.size+1+1+1<wr.heap.size:=s.lt;have e:=Q_ wr 124 #[Y d.id,Y d.f,Y d.op,.bool d.v.r,Y d.v.n]
   go_upto_region 5 with fail
   replace b:=b.g_ aE;replace q:=q.g_ aE;replace k:=k.g_ aE;replace s:=s.g_ aE;replace bS:=bS.g_ aE;replace S:=Sl.g_ S aE;replace C:=Sl.g_ C aE;replace y:=y.trans aE;clear aE bm bu bH bM aY aG;obtain⟨a7,bE⟩:=nm_ (wr.alloc (.cells #[Y d.id,Y d.f,Y d.op,.bool d.v.r,Y d.v.n] 124));rw[<-bE]at b q k s e y bS S C |-;clear bE;generalize wr.heap.size=R at*;have MN:=e.f_ 0;have ai:=e.f_ 1;have aB:=e.f_ 2;have aS:=e.f_ 3;have aX:=e.f_ 4
   cases bP:take U.p d with
   |none=>
    have bK:=O bP;clear bP
    go_wp2_with (first|(refine k5 b underlying53 ?_)|(go_at_call 126;((with_reducible refine(Ca U d bS q1 q2 q3 cY bK.out).mono ?_);unfold ns;rintro T ah⟨a,rfl,j,bk,D⟩;have bv:=Q_ ah 53 lK;have cD:w.heap.size+1+1+1<ah.heap.size:=GC s.lt D.size;have dk:R<ah.heap.size:=GC e.lt D.size))|(refine kZ (a.g8) bv (Tk.one _) ?_;intro br b7 M))
    have L:J [] a7 br:=(D.alloc (.cells lK 53)).hA M (by simp;exact D.size);go_roundw
    case rel=>exact⟨u+1,U,rs,ws,X,gn,b.g_ L,q.g_ L,k.g_ L,s.g_ L,bS.g_ L,Sl.g_ S L,Sl.g_ C L,dj,dm,by rw[MS.out,aC.out,A8 bK.out],B.mono X,aU,da,y.trans L⟩
    case measure=>exact mz
   |some P=>
    have bK:=O bP;clear bP
    go_upto_region 7 with(first|(refine k5 b underlying53 ?_)|(go_at_call 126;((with_reducible refine(AA U d P bS q1 q2 q3 cY bK.out).mono ?_);unfold ns;rintro T ah⟨a,rfl,j,bk,D⟩;have bv:=Q_ ah 53 lK;have cD:w.heap.size+1+1+1<ah.heap.size:=GC s.lt D.size;have dk:R<ah.heap.size:=GC e.lt D.size))|(refine kZ (a.g8) bv (Tk.one _) ?_;intro br b7 M))
    have au:=O bk;clear bk;have L:J [] a7 br:=(D.alloc (.cells lK 53)).hA M (by simp;exact D.size);have av:J [] ah br:=((H [] ah).alloc (.cells lK 53)).hA M s_;replace b:=b.g_ L;replace q:=q.g_ L;replace k:=k.g_ L;replace s:=s.g_ L;replace e:=e.g_ L;replace j:=j.g_ av;replace S:=S.g_ L;replace C:=C.g_ L;replace y:=y.trans L;clear D M L av bS bv MN ai aB aS aX;generalize ah.heap.size=dt at*
    go_upto_region 8 with(first|(refine k5 b7 underlying53 ?_)|(refine kZ (a.g8) b (Tk.one _) ?_;intro ad b5 ak))
    replace q:=q.gr ak sd_;replace k:=k.gr ak sd_;replace s:=s.gr ak sd_;replace e:=e.gr ak sd_;replace j:=j.ir b tx ak;replace S:=Sl.ir S b I ak;replace C:=Sl.ir C b I ak;replace y:=y.hA ak s_;replace b:=b5;clear b5 ak b7
    have cX:ad.drew.cell? (Z (w.heap.size+1+1) 34)=some (.slice rs.A rs.l.length rs.c)/\ad.drew.cell? (Z (w.heap.size+1+1) 35)=some (.slice ws.A ws.l.length ws.c)/\ad.drew.cell? (Z R 0)=some (Y d.id)/\ad.drew.cell? (Z R 1)=some (Y d.f)/\ad.drew.cell? (Z R 2)=some (Y d.op)/\ad.drew.cell? (Z R 3)=some (.bool d.v.r)/\ad.drew.cell? (Z R 4)=some (Y d.v.n):=
     ⟨(q.drew.f_ 34).trans rfl,(q.drew.f_ 35).trans rfl,e.drew.f_ 0,e.drew.f_ 1,e.drew.f_ 2,e.drew.f_ 3,e.drew.f_ 4⟩
    have r:=O (And.intro q.drew e.drew);have bG:Hid (Cs ad.drew rs.A rs.l/\Cs ad.drew ws.A ws.l):=O ⟨Sl.g_ S (H [] ad).drew,Sl.g_ C (H [] ad).drew⟩;refine hI (λw'=>w'.cell? (Z (w.heap.size+1+1) 34)=some (.slice rs.A rs.l.length rs.c)/\w'.cell? (Z (w.heap.size+1+1) 35)=some (.slice ws.A ws.l.length ws.c)/\w'.cell? (Z R 0)=some (Y d.id)/\w'.cell? (Z R 1)=some (Y d.f)/\w'.cell? (Z R 2)=some (Y d.op)/\w'.cell? (Z R 3)=some (.bool d.v.r)/\w'.cell? (Z R 4)=some (Y d.v.n)) 9 k_ ?_;have n:=cX;clear cX;refine iH 0 n ?_;refine iH 2 n ?_;refine iH 4 n ?_;refine iH 6 n ?_;refine iH 1 n ?_;refine iH 5 n ?_
    refine hV 3 λz i=>?_
    go_simp
    (go_at_call 127;((with_reducible refine(sd rs.A rs.c rs.l d bG.out.1 X).mono ?_);unfold sO;rintro T ay⟨aK,cz,rfl,di,cF,E⟩))
    have bY:=And.intro ((r.out.1.g_ E).f_ 34) ((r.out.1.g_ E).f_ 35);clear n;have n:ay.cell? (Z (w.heap.size+1+1) 34)=some (.slice rs.A rs.l.length rs.c)/\ay.cell? (Z (w.heap.size+1+1) 35)=some (.slice ws.A ws.l.length ws.c)/\ay.cell? (Z R 0)=some (Y d.id)/\ay.cell? (Z R 1)=some (Y d.f)/\ay.cell? (Z R 2)=some (Y d.op)/\ay.cell? (Z R 3)=some (.bool d.v.r)/\ay.cell? (Z R 4)=some (Y d.v.n):=⟨((r.out.1.g_ E).f_ 34).trans rfl,((r.out.1.g_ E).f_ 35).trans rfl,(r.out.2.g_ E).f_ 0,(r.out.2.g_ E).f_ 1,(r.out.2.g_ E).f_ 2,(r.out.2.g_ E).f_ 3,(r.out.2.g_ E).f_ 4⟩;clear bY
    refine hX i n λn=>?_
    clear i z;refine iH 8 n ?_
    refine hV 7 λz i=>?_
    go_simp
    (go_at_call 127;((with_reducible refine(sd ws.A ws.c ws.l d (Cs.g_ bG.out.2 E) X).mono ?_);unfold sO;rintro T N⟨W,cA,rfl,cf,dq,Q⟩))
    clear n;have F:=E.trans Q;have n:N.cell? (Z (w.heap.size+1+1) 34)=some (.slice rs.A rs.l.length rs.c)/\N.cell? (Z (w.heap.size+1+1) 35)=some (.slice ws.A ws.l.length ws.c)/\N.cell? (Z R 0)=some (Y d.id)/\N.cell? (Z R 1)=some (Y d.f)/\N.cell? (Z R 2)=some (Y d.op)/\N.cell? (Z R 3)=some (.bool d.v.r)/\N.cell? (Z R 4)=some (Y d.v.n):=⟨((r.out.1.g_ F).f_ 34).trans rfl,((r.out.1.g_ F).f_ 35).trans rfl,(r.out.2.g_ F).f_ 0,(r.out.2.g_ F).f_ 1,(r.out.2.g_ F).f_ 2,(r.out.2.g_ F).f_ 3,(r.out.2.g_ F).f_ 4⟩;have f34:=(r.out.1.g_ F).hm 34;have f35:=(r.out.1.g_ F).hm 35;have dw:=n.1;have z35:=n.2.1
    refine hX i n λn=>?_
    clear i z
    refine hV 9 λz i=>?_
    go_simp;refine i.out _ _ (λh=>U_ h I) ?_;clear i z
    try simp only[a_]
    refine hV 10 λz i=>?_
    go_simp;refine i.out _ _ (λh=>U_ h I) ?_;clear i z
    try simp only[a_]
    refine hV 11 λz i=>?_
    go_simp;refine i.out _ _ (λh=>U_ h I) ?_;clear i z
    try simp only[a_]
    refine hC k_ ?_ _;go_wp2;go_roundw
    case rel=>
     have K:=((H [w.heap.size+1+1] N).setCell (p:=(Z (w.heap.size+1+1) 34)) (.inl s_) (.slice aK (jB rs.l d).length cz)).setCell (p:=(Z (w.heap.size+1+1) 35)) (.inl s_) (.slice W (jB ws.l d).length cA);have cj:=r.out.1.g_ F;have aq:J [] ad N:=((H [] ad).drew).trans F;have bt:=(y.trans aq).hA K p_;exact⟨u+1,a,⟨aK,cz,jB rs.l d⟩,⟨W,cA,jB ws.l d⟩,X,gn,(b.g_ aq).gr K sd_,(cj.hN 34 _).hN 35 _,(k.g_ aq).gr K sd_,(s.g_ aq).gr K sd_,(j.g_ aq).ir cj Ee K,Sl.ir (Sl.g_ di Q) cj I K,Sl.ir cf cj I K,cF,dq,by rw[MS.out,aC.out,zt bK.out,au.out],by rw[au.out];exact(yv B bK.out).mono X,G_ (qC _ _) aU,G_ (qC _ _) da,bt⟩
    case measure=>exact mz
  .have aP:¬(u:Int)<(f.ds.l.length:Int):=X;have b6:=O (show jK t.p f.rs.l f.ws.l f.ds.l=(U.p,rs.l,ws.l) by rw[MS.out,F3 X];rfl);clear MS;replace B:=B.mono (show 1000000+u<=1001000 by have:f.ds.l.length<=1000:=c6;omega);clear aj hk;have dn:wr.cell? (Z (w.heap.size+1+1) 34)=some (.slice rs.A rs.l.length rs.c):=(q.f_ 34).trans rfl
   have b9:=O (show record t.p (hU l) f.p=(match kj (hU l) U.p rs.l with
    |none=>none
    |some bx=>match kO (hU l) {bx with nw:=bx.nw++hU f.nw.l} ws.l with
     |none=>none
     |some bd=>some {bd with hW:=bd.hW++f.hW.l}) by
    show(match kj (hU l) (jK t.p f.rs.l f.ws.l f.ds.l).1 (jK t.p f.rs.l f.ws.l f.ds.l).2.1 with
     |none=>none
     |some bx=>match kO (hU l) {bx with nw:=bx.nw++hU f.nw.l} (jK t.p f.rs.l f.ws.l f.ds.l).2.2 with
      |none=>none
      |some bd=>some {bd with hW:=bd.hW++f.hW.l})=_
    rw[b6.out])
   clear b6;go_wp2;clear aP
   go_loopw [46] (λaA wr=>∃(u:Nat) (a:Tk),u<=rs.l.length/\aA=Y u/\Bk wr (w.heap.size) 53 a.g8/\Bk wr (w.heap.size+1+1) 134 ({f with rs:=rs,ws:=ws}:Ef).g8/\Bk wr (w.heap.size+1) 35 #[.slice A l.length c]/\Bk wr (w.heap.size+1+1+1) 53 lK/\ln wr a/\Cs wr rs.A rs.l/\Cs wr ws.A ws.l/\kj (hU l) U.p rs.l=kj (hU l) a.p (rs.l.drop u)/\a.p.sm (1001000+2*u)/\J [] w wr) (λaA _=>rs.l.length-(intOf aA).toNat)
   case atStart=>exact⟨0,U,P_ _,rfl,b,q,k,s,bS,S,C,rfl,B.mono X,y⟩
   case round=>
    clear b q k s bS S C y dn B;obtain⟨u,a,hk,rfl,b,q,k,s,j,S,C,aR,B,y⟩:=hrel;have MS:=O aR;clear aR
    by_cases aj:u<rs.l.length
    .have aP:(u:Int)<(rs.l.length:Int):=X;have q1:a.ds.l.length<=1000000000:=G_ B.ds X
     have q2:a.nw.l.length<=1000000000:=by have:=B.nw;rw[show a.p.nw=hU a.nw.l from rfl,hZ]at this;omega
     have q3:a.ws.l.length<=1000000000:=G_ B.ws X;have cY:a.rs.l.length<=1000000000:=G_ B.rs X;have c8:a.p.sm 100000000:=B.mono X;obtain⟨bd,off,aG,bm,bu,bH,bM⟩:=Cs.at_ S aj;rw[aG];have bC:=O aG;have aC:=O (show rs.l.drop u=rs.l[u]::rs.l.drop (u+1) from Y_ aj);generalize rs.l[u]=x at*;have aE:=(H [] wr).alloc (.cells #[Y x.id,Y x.f,.bool x.v.r,Y x.v.n] 116);have c7:w.heap.size+1+1+1<wr.heap.size:=s.lt;have e:=Q_ wr 116 #[Y x.id,Y x.f,.bool x.v.r,Y x.v.n]
     go_upto_region 13 with fail
     replace b:=b.g_ aE;replace q:=q.g_ aE;replace k:=k.g_ aE;replace s:=s.g_ aE;replace j:=j.g_ aE;replace S:=Cs.g_ S aE;replace C:=Cs.g_ C aE;replace y:=y.trans aE;clear aE bm bu bH bM aG;obtain⟨cy,cZ⟩:=nm_ (wr.alloc (.cells #[Y x.id,Y x.f,.bool x.v.r,Y x.v.n] 116));rw[<-cZ]at b q k s j S C e y |-;clear cZ;generalize wr.heap.size=R at*;have MN:=e.f_ 0;have ai:=e.f_ 1;have aB:=e.f_ 2;have aS:=e.f_ 3
     go_cut [74] (λcb a6=>cb=.bool (nn a.p x)/\J [] cy a6)
     case first=>
      clear q k s S C y MS aC b9 B MO he hs hes bC aB aS c8 q1;have bD:=(yJ (hU a.nw.l) x.id).1;have dQ:=(rZ a.ws.l x.id x.f).1;have bo:=(rZ a.rs.l x.id x.f).1;have aT:=O (show nn a.p x=decide (0<=jn (hU a.nw.l) x.id∨0<=cat a.ws.l x.id x.f∨0<=cat a.rs.l x.id x.f) from rfl);have an:cy.cell? (Z w.heap.size 37)=some (.slice a.rs.A a.rs.l.length a.rs.c):=(b.f_ 37).trans rfl;have bU:cy.cell? (Z w.heap.size 38)=some (.slice a.ws.A a.ws.l.length a.ws.c):=(b.f_ 38).trans rfl;generalize de:jn (hU a.nw.l) x.id=aD at*;generalize cK:cat a.ws.l x.id x.f=b4 at*;generalize df:cat a.rs.l x.id x.f=xr at*;have ca:=O de;have cx:=O cK;have ce:=O df;clear de cK df;clear bD dQ bo
      by_cases bw:aD<0
      .by_cases aL:b4<0
       .by_cases aQ:xr<0
        .skip;have aV:=O (show nn a.p x=false by rw[aT.out];exact GH X);clear aT;have a2:(0<=aD)=False:=p_;have bp:(0<=b4)=False:=p_;have bT:(0<=xr)=False:=p_;clear bw aL aQ;refine wp_region_lit ?_;refine k5 b underlying53 ?_
         try simp only[a_]
         refine ip rfl gs_ ?_
         try simp only[a_]
         refine ip rfl gs_ ?_
         try simp only[a_]
         refine nC rfl (λz i=>?_);go_simp
         (go_at_call 128;((with_reducible refine(o7 a x.id _ j q2).mono ?_);rintro T bB⟨rfl,aE⟩;rw[ca.out];replace b:=b.g_ aE;replace e:=e.g_ aE;replace j:=j.g_ aE;replace MN:=e.f_ 0;replace ai:=e.f_ 1;replace an:bB.cell? (Z w.heap.size 37)=some (.slice a.rs.A a.rs.l.length a.rs.c):=(b.f_ 37).trans rfl;replace bU:bB.cell? (Z w.heap.size 38)=some (.slice a.ws.A a.ws.l.length a.ws.c):=(b.f_ 38).trans rfl))
         refine i.out _ _ ?_;clear i z
         try simp only[a_]
         refine ip (v:=.bool false) rfl gs_ ?_
         try simp only[a_]
         refine ip (v:=.bool false) rfl gs_ ?_
         try simp only[a_]
         refine h9 rfl rfl rfl rfl rfl gs_ ?_
         try simp only[a_]
         refine h9 rfl rfl rfl rfl rfl gs_ ?_
         try simp only[a_]
         refine h9 rfl rfl rfl rfl rfl gs_ ?_
         try simp only[a_]
         refine h9 rfl rfl rfl rfl rfl gs_ ?_
         try simp only[a_]
         refine h9 rfl rfl rfl rfl rfl gs_ ?_
         try simp only[a_]
         refine h9 rfl rfl rfl rfl rfl gs_ ?_
         try simp only[a_]
         refine nB rfl rfl rfl rfl rfl (λz i=>?_);go_simp
         (go_at_call_of 129 (Value.slice a.ws.A a.ws.l.length a.ws.c);((with_reducible refine(lT a.ws.A a.ws.c a.ws.l x.id x.f _ j.ws q3).mono ?_);rintro T bi⟨rfl,o⟩;rw[cx.out];replace b:=b.g_ o;replace e:=e.g_ o;replace j:=j.g_ o;replace MN:=e.f_ 0;replace ai:=e.f_ 1;replace an:bi.cell? (Z w.heap.size 37)=some (.slice a.rs.A a.rs.l.length a.rs.c):=(b.f_ 37).trans rfl;replace bU:bi.cell? (Z w.heap.size 38)=some (.slice a.ws.A a.ws.l.length a.ws.c):=(b.f_ 38).trans rfl))
         refine i.out _ _ ?_;clear i z
         try simp only[a_]
         refine h9 (v:=.bool false) rfl rfl rfl rfl rfl gs_ ?_
         try simp only[a_]
         refine ip (v:=.bool false) rfl gs_ ?_
         try simp only[a_]
         refine ip (v:=.bool false) rfl gs_ ?_
         try simp only[a_]
         refine h9 rfl rfl rfl rfl rfl gs_ ?_
         try simp only[a_]
         refine h9 rfl rfl rfl rfl rfl gs_ ?_
         try simp only[a_]
         refine h9 rfl rfl rfl rfl rfl gs_ ?_
         try simp only[a_]
         refine h9 rfl rfl rfl rfl rfl gs_ ?_
         try simp only[a_]
         refine h9 rfl rfl rfl rfl rfl gs_ ?_
         try simp only[a_]
         refine h9 rfl rfl rfl rfl rfl gs_ ?_
         try simp only[a_]
         refine nB rfl rfl rfl rfl rfl (λz i=>?_);go_simp
         (go_at_call_of 129 (Value.slice a.rs.A a.rs.l.length a.rs.c);((with_reducible refine(lT a.rs.A a.rs.c a.rs.l x.id x.f _ j.rs cY).mono ?_);rintro T dG⟨rfl,aq⟩;rw[ce.out]))
         refine i.out _ _ ?_;clear i z
         try simp only[a_]
         refine h9 (v:=.bool false) rfl rfl rfl rfl rfl gs_ ?_
         try simp only[a_]
         refine ip (v:=.bool false) rfl gs_ ?_;exact K4
        .skip;have aV:=O (show nn a.p x=true by rw[aT.out];exact FX X);clear aT;have a2:(0<=aD)=False:=p_;have bp:(0<=b4)=False:=p_;have bT:(0<=xr)=True:=p_;clear bw aL aQ;refine wp_region_lit ?_;refine k5 b underlying53 ?_
         try simp only[a_]
         refine ip rfl gs_ ?_
         try simp only[a_]
         refine ip rfl gs_ ?_
         try simp only[a_]
         refine nC rfl (λz i=>?_);go_simp
         (go_at_call 128;((with_reducible refine(o7 a x.id _ j q2).mono ?_);rintro T bB⟨rfl,aE⟩;rw[ca.out];replace b:=b.g_ aE;replace e:=e.g_ aE;replace j:=j.g_ aE;replace MN:=e.f_ 0;replace ai:=e.f_ 1;replace an:bB.cell? (Z w.heap.size 37)=some (.slice a.rs.A a.rs.l.length a.rs.c):=(b.f_ 37).trans rfl;replace bU:bB.cell? (Z w.heap.size 38)=some (.slice a.ws.A a.ws.l.length a.ws.c):=(b.f_ 38).trans rfl))
         refine i.out _ _ ?_;clear i z
         try simp only[a_]
         refine ip (v:=.bool false) rfl gs_ ?_
         try simp only[a_]
         refine ip (v:=.bool false) rfl gs_ ?_
         try simp only[a_]
         refine h9 rfl rfl rfl rfl rfl gs_ ?_
         try simp only[a_]
         refine h9 rfl rfl rfl rfl rfl gs_ ?_
         try simp only[a_]
         refine h9 rfl rfl rfl rfl rfl gs_ ?_
         try simp only[a_]
         refine h9 rfl rfl rfl rfl rfl gs_ ?_
         try simp only[a_]
         refine h9 rfl rfl rfl rfl rfl gs_ ?_
         try simp only[a_]
         refine h9 rfl rfl rfl rfl rfl gs_ ?_
         try simp only[a_]
         refine nB rfl rfl rfl rfl rfl (λz i=>?_);go_simp
         (go_at_call_of 129 (Value.slice a.ws.A a.ws.l.length a.ws.c);((with_reducible refine(lT a.ws.A a.ws.c a.ws.l x.id x.f _ j.ws q3).mono ?_);rintro T bi⟨rfl,o⟩;rw[cx.out];replace b:=b.g_ o;replace e:=e.g_ o;replace j:=j.g_ o;replace MN:=e.f_ 0;replace ai:=e.f_ 1;replace an:bi.cell? (Z w.heap.size 37)=some (.slice a.rs.A a.rs.l.length a.rs.c):=(b.f_ 37).trans rfl;replace bU:bi.cell? (Z w.heap.size 38)=some (.slice a.ws.A a.ws.l.length a.ws.c):=(b.f_ 38).trans rfl))
         refine i.out _ _ ?_;clear i z
         try simp only[a_]
         refine h9 (v:=.bool false) rfl rfl rfl rfl rfl gs_ ?_
         try simp only[a_]
         refine ip (v:=.bool false) rfl gs_ ?_
         try simp only[a_]
         refine ip (v:=.bool false) rfl gs_ ?_
         try simp only[a_]
         refine h9 rfl rfl rfl rfl rfl gs_ ?_
         try simp only[a_]
         refine h9 rfl rfl rfl rfl rfl gs_ ?_
         try simp only[a_]
         refine h9 rfl rfl rfl rfl rfl gs_ ?_
         try simp only[a_]
         refine h9 rfl rfl rfl rfl rfl gs_ ?_
         try simp only[a_]
         refine h9 rfl rfl rfl rfl rfl gs_ ?_
         try simp only[a_]
         refine h9 rfl rfl rfl rfl rfl gs_ ?_
         try simp only[a_]
         refine nB rfl rfl rfl rfl rfl (λz i=>?_);go_simp
         (go_at_call_of 129 (Value.slice a.rs.A a.rs.l.length a.rs.c);((with_reducible refine(lT a.rs.A a.rs.c a.rs.l x.id x.f _ j.rs cY).mono ?_);rintro T dG⟨rfl,aq⟩;rw[ce.out]))
         refine i.out _ _ ?_;clear i z
         try simp only[a_]
         refine h9 (v:=.bool true) rfl rfl rfl rfl rfl gs_ ?_
         try simp only[a_]
         refine ip (v:=.bool true) rfl gs_ ?_;exact K4
       .skip;have aV:=O (show nn a.p x=true by rw[aT.out];exact FX X);clear aT;have a2:(0<=aD)=False:=p_;have bp:(0<=b4)=True:=p_;clear bw aL;refine wp_region_lit ?_;refine k5 b underlying53 ?_
        try simp only[a_]
        refine ip rfl gs_ ?_
        try simp only[a_]
        refine ip rfl gs_ ?_
        try simp only[a_]
        refine nC rfl (λz i=>?_);go_simp
        (go_at_call 128;((with_reducible refine(o7 a x.id _ j q2).mono ?_);rintro T bB⟨rfl,aE⟩;rw[ca.out];replace b:=b.g_ aE;replace e:=e.g_ aE;replace j:=j.g_ aE;replace MN:=e.f_ 0;replace ai:=e.f_ 1;replace an:bB.cell? (Z w.heap.size 37)=some (.slice a.rs.A a.rs.l.length a.rs.c):=(b.f_ 37).trans rfl;replace bU:bB.cell? (Z w.heap.size 38)=some (.slice a.ws.A a.ws.l.length a.ws.c):=(b.f_ 38).trans rfl))
        refine i.out _ _ ?_;clear i z
        try simp only[a_]
        refine ip (v:=.bool false) rfl gs_ ?_
        try simp only[a_]
        refine ip (v:=.bool false) rfl gs_ ?_
        try simp only[a_]
        refine h9 rfl rfl rfl rfl rfl gs_ ?_
        try simp only[a_]
        refine h9 rfl rfl rfl rfl rfl gs_ ?_
        try simp only[a_]
        refine h9 rfl rfl rfl rfl rfl gs_ ?_
        try simp only[a_]
        refine h9 rfl rfl rfl rfl rfl gs_ ?_
        try simp only[a_]
        refine h9 rfl rfl rfl rfl rfl gs_ ?_
        try simp only[a_]
        refine h9 rfl rfl rfl rfl rfl gs_ ?_
        try simp only[a_]
        refine nB rfl rfl rfl rfl rfl (λz i=>?_);go_simp
        (go_at_call_of 129 (Value.slice a.ws.A a.ws.l.length a.ws.c);((with_reducible refine(lT a.ws.A a.ws.c a.ws.l x.id x.f _ j.ws q3).mono ?_);rintro T bi⟨rfl,o⟩;rw[cx.out];replace b:=b.g_ o;replace e:=e.g_ o;replace j:=j.g_ o;replace MN:=e.f_ 0;replace ai:=e.f_ 1;replace an:bi.cell? (Z w.heap.size 37)=some (.slice a.rs.A a.rs.l.length a.rs.c):=(b.f_ 37).trans rfl;replace bU:bi.cell? (Z w.heap.size 38)=some (.slice a.ws.A a.ws.l.length a.ws.c):=(b.f_ 38).trans rfl))
        refine i.out _ _ ?_;clear i z
        try simp only[a_]
        refine h9 (v:=.bool true) rfl rfl rfl rfl rfl gs_ ?_
        try simp only[a_]
        obtain⟨bI,F⟩:=nm_ (Value.bool true);refine ip (v:=bI) rfl (by(subst F;first|(go_simp;done)|(go_simp;with_reducible rfl))) ?_
        try simp only[a_]
        refine ip (v:=bI) rfl (by(subst F;first|(go_simp;done)|(go_simp;with_reducible rfl))) ?_
        try simp only[a_]
        refine iD (b':=true) rfl rfl rfl (by rw[F];rfl) rfl ?_
        try simp only[a_]
        refine iD (b':=true) rfl rfl rfl (by rw[F];rfl) rfl ?_
        try simp only[a_]
        refine iD (b':=true) rfl rfl rfl (by rw[F];rfl) rfl ?_
        try simp only[a_]
        refine iD (b':=true) rfl rfl rfl (by rw[F];rfl) rfl ?_
        try simp only[a_]
        refine iD (b':=true) rfl rfl rfl (by rw[F];rfl) rfl ?_
        try simp only[a_]
        refine iD (b':=true) rfl rfl rfl (by rw[F];rfl) rfl ?_
        try simp only[a_]
        refine iD (b':=true) rfl rfl rfl (by rw[F];rfl) rfl ?_
        try simp only[a_]
        refine iD (b':=true) rfl rfl rfl (by rw[F];rfl) rfl ?_
        try simp only[a_]
        refine ip (v:=.bool true) rfl (by(subst F;first|(go_simp;done)|(go_simp;with_reducible rfl))) ?_
        try simp only[a_]
        refine wpList_nil ?_;go_wp2;go_meet;exact⟨i9 aV.out.symm,aE.trans o⟩
      .skip;have aV:=O (show nn a.p x=true by rw[aT.out];exact FX X);clear aT;have a2:(0<=aD)=True:=p_;clear bw;refine wp_region_lit ?_;refine k5 b underlying53 ?_
       try simp only[a_]
       refine ip rfl gs_ ?_
       try simp only[a_]
       refine ip rfl gs_ ?_
       try simp only[a_]
       refine nC rfl (λz i=>?_);go_simp
       (go_at_call 128;((with_reducible refine(o7 a x.id _ j q2).mono ?_);rintro T bB⟨rfl,aE⟩;rw[ca.out];replace b:=b.g_ aE;replace e:=e.g_ aE;replace j:=j.g_ aE;replace MN:=e.f_ 0;replace ai:=e.f_ 1;replace an:bB.cell? (Z w.heap.size 37)=some (.slice a.rs.A a.rs.l.length a.rs.c):=(b.f_ 37).trans rfl;replace bU:bB.cell? (Z w.heap.size 38)=some (.slice a.ws.A a.ws.l.length a.ws.c):=(b.f_ 38).trans rfl))
       refine i.out _ _ ?_;clear i z
       try simp only[a_]
       refine ip (v:=.bool true) rfl gs_ ?_
       try simp only[a_]
       obtain⟨bI,F⟩:=nm_ (Value.bool true);refine ip (v:=bI) rfl (by(subst F;first|(go_simp;done)|(go_simp;with_reducible rfl))) ?_
       try simp only[a_]
       refine iD (b':=true) rfl rfl rfl (by rw[F];rfl) rfl ?_
       try simp only[a_]
       refine iD (b':=true) rfl rfl rfl (by rw[F];rfl) rfl ?_
       try simp only[a_]
       refine iD (b':=true) rfl rfl rfl (by rw[F];rfl) rfl ?_
       try simp only[a_]
       refine iD (b':=true) rfl rfl rfl (by rw[F];rfl) rfl ?_
       try simp only[a_]
       refine iD (b':=true) rfl rfl rfl (by rw[F];rfl) rfl ?_
       try simp only[a_]
       refine iD (b':=true) rfl rfl rfl (by rw[F];rfl) rfl ?_
       try simp only[a_]
       refine iD (b':=true) rfl rfl rfl (by rw[F];rfl) rfl ?_
       try simp only[a_]
       refine iD (b':=true) rfl rfl rfl (by rw[F];rfl) rfl ?_
       try simp only[a_]
       refine ip (v:=bI) rfl (by(subst F;first|(go_simp;done)|(go_simp;with_reducible rfl))) ?_
       try simp only[a_]
       refine ip (v:=bI) rfl (by(subst F;first|(go_simp;done)|(go_simp;with_reducible rfl))) ?_
       try simp only[a_]
       refine iD (b':=true) rfl rfl rfl (by rw[F];rfl) rfl ?_
       try simp only[a_]
       refine iD (b':=true) rfl rfl rfl (by rw[F];rfl) rfl ?_
       try simp only[a_]
       refine iD (b':=true) rfl rfl rfl (by rw[F];rfl) rfl ?_
       try simp only[a_]
       refine iD (b':=true) rfl rfl rfl (by rw[F];rfl) rfl ?_
       try simp only[a_]
       refine iD (b':=true) rfl rfl rfl (by rw[F];rfl) rfl ?_
       try simp only[a_]
       refine iD (b':=true) rfl rfl rfl (by rw[F];rfl) rfl ?_
       try simp only[a_]
       refine iD (b':=true) rfl rfl rfl (by rw[F];rfl) rfl ?_
       try simp only[a_]
       refine iD (b':=true) rfl rfl rfl (by rw[F];rfl) rfl ?_
       try simp only[a_]
       refine ip (v:=.bool true) rfl (by(subst F;first|(go_simp;done)|(go_simp;with_reducible rfl))) ?_
       try simp only[a_]
       refine wpList_nil ?_;go_wp2;go_meet;exact⟨i9 aV.out.symm,aE⟩
     case rest=>
      obtain⟨rfl,F⟩:=hcut;replace b:=b.g_ F;replace q:=q.g_ F;replace k:=k.g_ F;replace s:=s.g_ F;replace e:=e.g_ F;replace j:=j.g_ F;replace S:=Cs.g_ S F;replace C:=Cs.g_ C F;replace y:=y.trans F;clear F MN ai aB aS
      cases cc:nn a.p x with
      |true=>
       have aT:=O cc;clear cc;go_wp2;go_roundw
       case rel=>exact⟨u+1,a,X,gn,b,q,k,s,j,(by have r:=S;rw[bC.out]at r;exact r),C,by rw[MS.out,aC.out];exact xT aT.out,B.mono X,y⟩
       case measure=>exact mz
      |false=>
       have aT:=O cc;clear cc;have MN:=e.f_ 0;have ai:=e.f_ 1;have aB:=e.f_ 2;have aS:=e.f_ 3;have v0:=k.f_ 0;have bO:=yc a.ds.l x.id x.f;obtain⟨g,bV⟩:=mn_ (pu a.ds.l x.id x.f);rw[bV]at bO;have be:=O bV;clear bV
       rcases tK g bO.1 with rfl|⟨m,rfl⟩
       .skip;have ap:=O (zr (view:=hU l) (l:=rs.l.drop (u+1)) aT.out (show pu a.p.ds x.id x.f<0 by show pu a.ds.l x.id x.f<0;rw[be.out];decide))
        go_upto_region 18 with(first|(refine k5 b underlying53 ?_)|(go_at_call 130;((with_reducible refine(l6 a x.id x.f j q1).mono ?_);rintro T bB⟨rfl,aE⟩;rw[be.out];replace b:=b.g_ aE;replace e:=e.g_ aE;replace k:=k.g_ aE;replace MN:=e.f_ 0;replace ai:=e.f_ 1;replace aB:=e.f_ 2;replace aS:=e.f_ 3;replace v0:=k.f_ 0)))
        have an:bB.cell? (Z w.heap.size 37)=some (.slice a.rs.A a.rs.l.length a.rs.c):=(b.f_ 37).trans rfl
        go_wp2_with ((go_at_call 98;((with_reducible refine(rR a.rs.A a.rs.c a.rs.l x (j.g_ aE).rs cY).mono ?_);unfold sO;rintro T ah⟨aw,bQ,rfl,cg,ea,D⟩;replace b:=b.g_ D;have an:=b.f_ 37;have cN:=b.hm 37)))
        have L:=aE.trans D;have K:=(H [w.heap.size] ah).setCell (p:=(Z w.heap.size 37)) (.inl s_) (.slice aw (ka a.rs.l x).length bQ);have cG:ln _ ({a with rs:=⟨aw,bQ,ka a.rs.l x⟩}:Tk):=((λr:ln ah a=>(⟨r.gs,cg,r.ws,r.nw,r.nr,r.ds,r.hW,r.yK,ea,r.vU,r.tN,r.sJ,r.qc⟩:ln ah ({a with rs:=⟨aw,bQ,ka a.rs.l x⟩}:Tk))) (j.g_ L)).ir b tx K;go_roundw
        case rel=>exact⟨u+1,({a with rs:=⟨aw,bQ,ka a.rs.l x⟩}:Tk),X,gn,b.hN 37 _,(q.g_ L).gr K sd_,(k.g_ D).gr K sd_,(s.g_ L).gr K sd_,cG,(by have r:=Cs.ir (Cs.g_ S L) b I K;rw[bC.out]at r;exact r),Cs.ir (Cs.g_ C L) b I K,by rw[MS.out,aC.out];exact ap.out,(yB (view:=[]) B (wo aT.out (show pu a.p.ds x.id x.f<0 by show pu a.ds.l x.id x.f<0;rw[be.out];decide))).mono X,(y.trans L).hA K s_⟩
        case measure=>exact mz
       .have cM:=O (show 0<=pu a.p.ds x.id x.f by show 0<=pu a.ds.l x.id x.f;rw[be.out];omega)
        cases bq:jO a.p (hU l) x.id x.f with
        |none=>
         have bN:=O bq;clear bq;have aW:Hid (record t.p (hU l) f.p=none):=O (by rw[b9.out,MS.out,aC.out,A7 aT.out cM.out bN.out])
         go_upto_region 15 with(first|(refine k5 b underlying53 ?_)|(go_at_call 130;((with_reducible refine(l6 a x.id x.f j q1).mono ?_);rintro T bB⟨rfl,aE⟩;rw[be.out];replace b:=b.g_ aE;replace e:=e.g_ aE;replace k:=k.g_ aE;replace MN:=e.f_ 0;replace ai:=e.f_ 1;replace aB:=e.f_ 2;replace aS:=e.f_ 3;replace v0:=k.f_ 0)))
         go_wp2_with (first|(refine k5 b underlying53 ?_)|(refine k5 k underlying35 ?_)|(go_at_call 131;((with_reducible refine(uP a A c l x.id x.f (j.g_ aE) (h.g_ (y.trans aE)) c8 hl bN.out).mono ?_);unfold ns;rintro T ah⟨t3,rfl,cu,bA,D⟩;replace b:=b.g_ D))|(refine kZ (t3.g8) b (Tk.one _) ?_;intro br bg M)|(refine k5 bg underlying53 ?_)|(refine kZ (t3.g8) (((s.g_ aE).g_ D).gr M sd_) (Tk.one _) ?_;intro ae ax G))
         have V:=(((y.trans aE).trans D).hA M s_).hA G p_;exact K5
        |some P=>
         have bN:=O bq;clear bq
         go_upto_region 15 with(first|(refine k5 b underlying53 ?_)|(go_at_call 130;((with_reducible refine(l6 a x.id x.f j q1).mono ?_);rintro T bB⟨rfl,aE⟩;rw[be.out];replace b:=b.g_ aE;replace e:=e.g_ aE;replace k:=k.g_ aE;replace MN:=e.f_ 0;replace ai:=e.f_ 1;replace aB:=e.f_ 2;replace aS:=e.f_ 3;replace v0:=k.f_ 0)))
         go_wp2_with (first|(refine k5 b underlying53 ?_)|(refine k5 k underlying35 ?_)|(go_at_call 131;((with_reducible refine(tF a A c l x.id x.f P (j.g_ aE) (h.g_ (y.trans aE)) c8 hl bN.out).mono ?_);unfold ns;rintro T ah⟨t3,rfl,cu,bA,D⟩;replace b:=b.g_ D))|(refine kZ (t3.g8) b (Tk.one _) ?_;intro br bg M))
         have L:=aE.trans D;go_roundw
         case rel=>exact⟨u+1,t3,X,gn,bg,(q.g_ L).gr M sd_,(k.g_ D).gr M sd_,(s.g_ L).gr M sd_,cu.ir b tx M,(by have r:=Cs.ir (Cs.g_ S L) b I M;rw[bC.out]at r;exact r),Cs.ir (Cs.g_ C L) b I M,by rw[MS.out,aC.out,zq aT.out cM.out bN.out,bA],by rw[bA];exact(qe B bN.out).mono X,(y.trans L).hA M s_⟩
         case measure=>exact mz
    .have aP:¬(u:Int)<(rs.l.length:Int):=X;have cI:=O (show kj (hU l) U.p rs.l=some a.p by rw[MS.out,F3 X];rfl);clear MS;replace B:=B.mono (show 1001000+2*u<=1003000 by omega);clear aj hk
     have bj:a.nw.l.length<=1003000:=by have:=B.nw;rwa [show a.p.nw=hU a.nw.l from rfl,hZ]at this
     have bR:f.nw.l.length<=1000:=by have:=hes.nw;rwa [show f.p.nw=hU f.nw.l from rfl,hZ]at this
     have b0:f.hW.l.length<=1000:=hes.hW
     go_wp2_with fail
     clear aP;obtain⟨dh,cW,cT,cU,cV⟩:=info_parts infoOb;have aq:J [] wr wr.drew:=(H [] wr).drew;have bh:Sl wr.drew 56 2 a.nw.A a.nw.l.length (jP a.nw.l):=Sl.g_ j.nw aq;have hbs:wr.heap.size<=wr.drew.heap.size:=H_ _;refine hI (λw'=>w'.cell? (Z w.heap.size 39)=some (.slice a.nw.A a.nw.l.length a.nw.c)/\w'.cell? (Z (w.heap.size+1+1) 36)=some (.slice f.nw.A f.nw.l.length f.nw.c)) 7 k_ ?_
     refine nZ ⟨((b.g_ aq).f_ 39).trans rfl,((q.g_ aq).f_ 36).trans rfl⟩ λn=>?_
     refine iH 0 n ?_;refine iH 3 n ?_;refine iH 1 n ?_;refine iH 4 n ?_
     refine hV 2 λz i=>?_
     refine qd rfl (.const (n_)) (.tmp 102) 33 rfl (wr.heap.size) 56 dh _ 2 32 underlying33 cW cT cU cV rfl I I none 0 0 [] rfl (iY _ _ _ _) a.nw.A a.nw.l.length a.nw.c _ r_ bh (j7 _) X hbs ?_;intro aK aJ ay b3 ch;simp only[W_,FU]at b3;rw[W_];have E:J [] wr ay:=ch.gr [] wr (H_ _) aq;clear n;have n:ay.cell? (Z w.heap.size 39)=some (.slice a.nw.A a.nw.l.length a.nw.c)/\ay.cell? (Z (w.heap.size+1+1) 36)=some (.slice f.nw.A f.nw.l.length f.nw.c):=⟨((b.g_ E).f_ 39).trans rfl,((q.g_ E).f_ 36).trans rfl⟩;have bW:Sl ay 56 2 f.nw.A f.nw.l.length (jP f.nw.l):=(he.g_ (y.trans E)).nw
     refine hX i n λn=>?_
     clear i z
     refine hV 5 λz i=>?_
     refine qd rfl (.tmp 103) (.tmp 105) 33 rfl (wr.heap.size) 56 dh _ 2 32 underlying33 cW cT cU cV rfl I I aK a.nw.l.length aJ _ r_ b3 f.nw.A f.nw.l.length f.nw.c _ r_ bW (j7 _) X E.size ?_;intro W F N bX ci;have Q:J [] wr N:=ci.gr [] wr (H_ _) E;clear n;have n:N.cell? (Z w.heap.size 39)=some (.slice a.nw.A a.nw.l.length a.nw.c)/\N.cell? (Z (w.heap.size+1+1) 36)=some (.slice f.nw.A f.nw.l.length f.nw.c):=⟨((b.g_ Q).f_ 39).trans rfl,((q.g_ Q).f_ 36).trans rfl⟩;have cH:=n.1;have cC:=(b.g_ Q).hm 39
     refine hX i n λn=>?_
     clear i z
     refine hV 6 λz i=>?_
     go_simp
     refine hX i n λn=>?_
     clear i z
     refine hV 7 λz i=>?_
     go_simp;refine i.out _ _ (λh=>U_ h I) ?_;clear i z
     try simp only[a_]
     refine hC k_ ?_ _;obtain⟨tn,cr⟩:=nm_ ({a with nw:=⟨W,F,a.nw.l++f.nw.l⟩});have iG:(a.nw.l++f.nw.l).length=a.nw.l.length+f.nw.l.length:=K_;have a8:=b.g_ Q;have aF:=a8.hN 39 (.slice W (a.nw.l.length+f.nw.l.length) F)
     have cl:tn.g8=a.g8.setIfInBounds 39 (.slice W (a.nw.l.length+f.nw.l.length) F):=by rw[cr,<-iG];rfl
     rw[<-cl]at aF;have K:=(H [w.heap.size] N).setCell (p:=(Z w.heap.size 39)) (.inl s_) (.slice W (a.nw.l.length+f.nw.l.length) F);have b8:=Sl.iQ bX;rw[<-iG]at b8;replace q:=(q.g_ Q).gr K sd_;replace k:=(k.g_ Q).gr K sd_;replace s:=(s.g_ Q).gr K sd_;replace C:=Cs.ir (Cs.g_ C Q) a8 I K
     have co:ln (N.setCell (Z w.heap.size 39) (.slice W (a.nw.l.length+f.nw.l.length) F)) tn:=by
      have r:=j.g_ Q;have q2:=he.g_ (y.trans Q)
      have q3:Os N W (a.nw.l++f.nw.l):=by unfold Os;rw[mV];exact b8
      have cY:ln N tn:=by rw[cr];exact⟨r.gs,r.rs,r.ws,q3,λcm hr=>(T_.1 hr).elim (r.nr cm) (q2.nr cm),r.ds,r.hW,r.yK,r.lD,r.vU,(by show(a.nw.l++f.nw.l).length<=F;rw[iG];exact jk bX),r.sJ,r.qc⟩
      exact cY.ir a8 tx K
     have cw:=O (show tn.p={a.p with nw:=a.p.nw++hU f.nw.l} by rw[cr];show({a.p with nw:=hU (a.nw.l++f.nw.l)}:i6)=_;unfold hU;rw[FI];rfl)
     have bf:tn.p.sm 1004000:=by
      rw[cw.out];exact⟨G_ B.gs I,G_ B.rs I,G_ B.ws I,(by have:=B.nw;have:=hes.nw;show(a.p.nw++f.p.nw).length<=_;rw[K_];omega),G_ B.ds I,G_ B.hW I⟩
     replace y:=(y.trans Q).hA K s_;obtain⟨bn,bJ⟩:=nm_ (N.setCell (Z w.heap.size 39) (.slice W (a.nw.l.length+f.nw.l.length) F));rw[<-bJ]at aF co q k s C y |-;clear bJ;clear b a8 cl K b8 E Q b3 bX ch ci n cH cC bh bW hbs aq cr j S;have b:=aF;clear aF
     have cv:Hid (record t.p (hU l) f.p=(match kO (hU l) tn.p ws.l with
      |none=>none
      |some bd=>some {bd with hW:=bd.hW++f.hW.l})):=O (by have r:=b9.out;rw[cI.out]at r;rw[cw.out];exact r)
     clear b9 cI cw;have ct:bn.cell? (Z (w.heap.size+1+1) 35)=some (.slice ws.A ws.l.length ws.c):=(q.f_ 35).trans rfl;go_wp2
     go_loopw [111] (λaA wr=>∃(u:Nat) (t3:Tk),u<=ws.l.length/\aA=Y u/\Bk wr (w.heap.size) 53 t3.g8/\Bk wr (w.heap.size+1+1) 134 ({f with rs:=rs,ws:=ws}:Ef).g8/\Bk wr (w.heap.size+1) 35 #[.slice A l.length c]/\Bk wr (w.heap.size+1+1+1) 53 lK/\ln wr t3/\Cs wr ws.A ws.l/\kO (hU l) tn.p ws.l=kO (hU l) t3.p (ws.l.drop u)/\t3.p.sm (1004000+3*u)/\J [] w wr) (λaA _=>ws.l.length-(intOf aA).toNat)
     case atStart=>exact⟨0,tn,P_ _,rfl,b,q,k,s,co,C,rfl,bf.mono X,y⟩
     case round=>
      clear b q k s co C y ct bf B;obtain⟨u,a,hk,rfl,b,q,k,s,j,C,aR,B,y⟩:=hrel;have MS:=O aR;clear aR
      by_cases aj:u<ws.l.length
      .have aP:(u:Int)<(ws.l.length:Int):=X;have q1:a.ds.l.length<=1000000000:=G_ B.ds X
       have q2:a.nw.l.length<=1000000000:=by have:=B.nw;rw[show a.p.nw=hU a.nw.l from rfl,hZ]at this;omega
       have q3:a.ws.l.length<=1000000000:=G_ B.ws X;have cY:a.rs.l.length<=1000000000:=G_ B.rs X;have c8:a.p.sm 100000000:=B.mono X;obtain⟨bd,off,aG,bm,bu,bH,bM⟩:=Cs.at_ C aj;rw[aG];have bC:=O aG;have aC:=O (show ws.l.drop u=ws.l[u]::ws.l.drop (u+1) from Y_ aj);generalize ws.l[u]=x at*;have aE:=(H [] wr).alloc (.cells #[Y x.id,Y x.f,.bool x.v.r,Y x.v.n] 116);have c7:w.heap.size+1+1+1<wr.heap.size:=s.lt;have e:=Q_ wr 116 #[Y x.id,Y x.f,.bool x.v.r,Y x.v.n]
       go_upto_region 24 with fail
       replace b:=b.g_ aE;replace q:=q.g_ aE;replace k:=k.g_ aE;replace s:=s.g_ aE;replace j:=j.g_ aE;replace C:=Cs.g_ C aE;replace y:=y.trans aE;clear aE bm bu bH bM aG;obtain⟨dr,c3⟩:=nm_ (wr.alloc (.cells #[Y x.id,Y x.f,.bool x.v.r,Y x.v.n] 116));rw[<-c3]at b q k s j C e y |-;clear c3;generalize wr.heap.size=R at*;have MN:=e.f_ 0;have ai:=e.f_ 1;have aB:=e.f_ 2;have aS:=e.f_ 3;have v0:=k.f_ 0
       cases bq:jO a.p (hU l) x.id x.f with
       |none=>
        have bN:=O bq;clear bq;have aW:Hid (record t.p (hU l) f.p=none):=O (by rw[cv.out,MS.out,aC.out,A6 bN.out])
        go_wp2_with (first|(refine k5 b underlying53 ?_)|(refine k5 k underlying35 ?_)|(go_at_call 131;((with_reducible refine(uP a A c l x.id x.f j (h.g_ y) c8 hl bN.out).mono ?_);unfold ns;rintro T ah⟨t3,rfl,cu,bA,D⟩;replace b:=b.g_ D))|(refine kZ (t3.g8) b (Tk.one _) ?_;intro br bg M)|(refine k5 bg underlying53 ?_)|(refine kZ (t3.g8) ((s.g_ D).gr M sd_) (Tk.one _) ?_;intro ae ax G))
        have V:=((y.trans D).hA M s_).hA G p_;exact K5
       |some P=>
        have bN:=O bq;clear bq
        go_upto_region 27 with(first|(refine k5 b underlying53 ?_)|(refine k5 k underlying35 ?_)|(go_at_call 131;((with_reducible refine(tF a A c l x.id x.f P j (h.g_ y) c8 hl bN.out).mono ?_);unfold ns;rintro T ah⟨t3,rfl,cu,bA,D⟩;replace b:=b.g_ D))|(refine kZ (t3.g8) b (Tk.one _) ?_;intro br bg M))
        replace q:=(q.g_ D).gr M sd_;replace k:=(k.g_ D).gr M sd_;replace s:=(s.g_ D).gr M sd_;replace e:=(e.g_ D).gr M sd_;replace C:=Cs.ir (Cs.g_ C D) b I M;replace cu:=cu.ir b tx M;replace y:=(y.trans D).hA M s_;have am:=O bA
        have cp:t3.p.sm (1004000+3*u+2):=by rw[bA];exact qe B bN.out
        have r2:t3.nw.l.length<=1000000000:=by have:=cp.nw;rw[show t3.p.nw=hU t3.nw.l from rfl,hZ]at this;omega
        have r3:t3.ws.l.length<=1000000000:=G_ cp.ws X;clear b D M bA MN ai aB aS;have b:=bg;clear bg;have MN:=e.f_ 0;have ai:=e.f_ 1;have aB:=e.f_ 2;have aS:=e.f_ 3
        go_wp2_with (first|(refine k5 b underlying53 ?_)|(go_at_call 132;((with_reducible refine(sa t3 x cu r2 r3).mono ?_);unfold ui;rintro T ad⟨t4,rfl,cG,aZ,ak⟩;replace b:=b.g_ ak))|(refine kZ (t4.g8) b (Tk.one _) ?_;intro ay bz E))
        go_roundw
        case rel=>exact⟨u+1,t4,X,gn,bz,(q.g_ ak).gr E sd_,(k.g_ ak).gr E sd_,(s.g_ ak).gr E sd_,cG.ir b tx E,(by have r:=Cs.ir (Cs.g_ C ak) b I E;rw[bC.out]at r;exact r),by rw[MS.out,aC.out,zp bN.out,aZ,am.out],by rw[aZ];exact(rM cp x).mono X,(y.trans ak).hA E s_⟩
        case measure=>exact mz
      .have aP:¬(u:Int)<(ws.l.length:Int):=X;have cJ:=O (show kO (hU l) tn.p ws.l=some a.p by rw[MS.out,F3 X];rfl);clear MS;replace B:=B.mono (show 1004000+3*u<=1007000 by omega);have db:a.hW.l.length<=1007000:=B.hW;clear aj hk
       go_wp2_with fail
       clear aP;obtain⟨dg,cS,cO,cQ,cR⟩:=info_parts infoAc;have aq:J [] wr wr.drew:=(H [] wr).drew;have bh:Sl wr.drew 162 3 a.hW.A a.hW.l.length ((a.hW.l).flatMap Ac.E):=Sl.g_ j.hW aq;have hbs:wr.heap.size<=wr.drew.heap.size:=H_ _;refine hI (λw'=>w'.cell? (Z w.heap.size 41)=some (.slice a.hW.A a.hW.l.length a.hW.c)/\w'.cell? (Z (w.heap.size+1+1) 38)=some (.slice f.hW.A f.hW.l.length f.hW.c)) 7 k_ ?_
       refine nZ ⟨((b.g_ aq).f_ 41).trans rfl,((q.g_ aq).f_ 38).trans rfl⟩ λn=>?_
       refine iH 0 n ?_;refine iH 3 n ?_;refine iH 1 n ?_;refine iH 4 n ?_
       refine hV 2 λz i=>?_
       refine qd rfl (.const (n_)) (.tmp 133) 36 rfl (wr.heap.size) 162 dg _ 3 24 underlying36 cS cO cQ cR rfl I I none 0 0 [] rfl (iY _ _ _ _) a.hW.A a.hW.l.length a.hW.c _ r_ bh (uh) X hbs ?_;intro aK aJ ay b3 ch;simp only[W_,FU]at b3;rw[W_];have E:J [] wr ay:=ch.gr [] wr (H_ _) aq;clear n;have n:ay.cell? (Z w.heap.size 41)=some (.slice a.hW.A a.hW.l.length a.hW.c)/\ay.cell? (Z (w.heap.size+1+1) 38)=some (.slice f.hW.A f.hW.l.length f.hW.c):=⟨((b.g_ E).f_ 41).trans rfl,((q.g_ E).f_ 38).trans rfl⟩;have bW:Sl ay 162 3 f.hW.A f.hW.l.length ((f.hW.l).flatMap Ac.E):=(he.g_ (y.trans E)).hW
       refine hX i n λn=>?_
       clear i z
       refine hV 5 λz i=>?_
       refine qd rfl (.tmp 134) (.tmp 136) 36 rfl (wr.heap.size) 162 dg _ 3 24 underlying36 cS cO cQ cR rfl I I aK a.hW.l.length aJ _ r_ b3 f.hW.A f.hW.l.length f.hW.c _ r_ bW (uh) X E.size ?_;intro W F N bX ci;have Q:J [] wr N:=ci.gr [] wr (H_ _) E;clear n;have n:N.cell? (Z w.heap.size 41)=some (.slice a.hW.A a.hW.l.length a.hW.c)/\N.cell? (Z (w.heap.size+1+1) 38)=some (.slice f.hW.A f.hW.l.length f.hW.c):=⟨((b.g_ Q).f_ 41).trans rfl,((q.g_ Q).f_ 38).trans rfl⟩;have cH:=n.1;have cC:=(b.g_ Q).hm 41
       refine hX i n λn=>?_
       clear i z
       refine hV 6 λz i=>?_
       go_simp
       refine hX i n λn=>?_
       clear i z
       refine hV 7 λz i=>?_
       go_simp;refine i.out _ _ (λh=>U_ h I) ?_;clear i z
       try simp only[a_]
       refine hC k_ ?_ _;obtain⟨tf,cn⟩:=nm_ ({a with hW:=⟨W,F,a.hW.l++f.hW.l⟩});have iG:(a.hW.l++f.hW.l).length=a.hW.l.length+f.hW.l.length:=K_;have a8:=b.g_ Q;have aF:=a8.hN 41 (.slice W (a.hW.l.length+f.hW.l.length) F)
       have cl:tf.g8=a.g8.setIfInBounds 41 (.slice W (a.hW.l.length+f.hW.l.length) F):=by rw[cn,<-iG];rfl
       rw[<-cl]at aF;have K:=(H [w.heap.size] N).setCell (p:=(Z w.heap.size 41)) (.inl s_) (.slice W (a.hW.l.length+f.hW.l.length) F);have b8:=Sl.iQ bX;rw[<-iG]at b8;replace q:=(q.g_ Q).gr K sd_;replace k:=(k.g_ Q).gr K sd_;replace s:=(s.g_ Q).gr K sd_;replace C:=Cs.ir (Cs.g_ C Q) a8 I K
       have c9:ln (N.setCell (Z w.heap.size 41) (.slice W (a.hW.l.length+f.hW.l.length) F)) tf:=by
        have r:=j.g_ Q
        have q3:As N W (a.hW.l++f.hW.l):=by unfold As;rw[F2];exact b8
        have cY:ln N tf:=by rw[cn];exact⟨r.gs,r.rs,r.ws,r.nw,r.nr,r.ds,q3,r.yK,r.lD,r.vU,r.tN,r.sJ,(by show(a.hW.l++f.hW.l).length<=F;rw[iG];exact jk bX)⟩
        exact cY.ir a8 tx K
       have bZ:=O (show record t.p (hU l) f.p=some tf.p by rw[cv.out,cJ.out,cn];rfl);replace y:=(y.trans Q).hA K s_;obtain⟨bF,bL⟩:=nm_ (N.setCell (Z w.heap.size 41) (.slice W (a.hW.l.length+f.hW.l.length) F));rw[<-bL]at aF c9 q k s C y |-;clear bL;clear b a8 cl K b8 E Q b3 bX ch ci n cH cC bh hbs aq cn j cv cJ
       go_wp2_with (first|(refine k5 aF underlying53 ?_)|(refine kZ (tf.g8) s (Tk.one _) ?_;intro ae ax G))
       have V:=y.hA G p_;exact l5 tf.g8 (.bool true) ax underlying53 (by rw[bZ.out];exact⟨tf,rfl,V,λP h=>by injection h with h;subst h;exact⟨c9.ir s tx G,rfl⟩⟩)
def J.jE{a b c:World}(h:J [] a b)(k:J [g] b c)(f:a.heap.size<=g):J [] a c:=h.hA k (λx e=>.inr (by rw[R_]at e;rw[e];exact f))
def w6(g:Cl):(kG rs h g).length=h.length:=by
 unfold kG;split
 .exact jN _ _
 .rfl
def w4(a:List Cl)(h:List Ob):(a.foldl (kG rs) h).length=h.length:=by
 induction a generalizing h with
 |nil=>rfl
 |cons g a b=>rw[GT,b,w6]
def xA(t:i6)(view:List Ob):(iu t view).length<=view.length+t.nw.length:=by
 unfold iu before;rw[n9,jN]
 have:=oZ t.nw (it (t.gs.foldl (kG t.rs) view) t.rs)
 rw[jN,w4]at this;exact this
def m_(t:Tk):∀a,a<33->t.g8[3+a]?=(iE t.pc t.r)[a]?
 |0,_=>rfl
 |1,_=>rfl
 |2,_=>rfl
 |3,_=>rfl
 |4,_=>rfl
 |5,_=>rfl
 |6,_=>rfl
 |7,_=>rfl
 |8,_=>rfl
 |9,_=>rfl
 |10,_=>rfl
 |11,_=>rfl
 |12,_=>rfl
 |13,_=>rfl
 |14,_=>rfl
 |15,_=>rfl
 |16,_=>rfl
 |17,_=>rfl
 |18,_=>rfl
 |19,_=>rfl
 |20,_=>rfl
 |21,_=>rfl
 |22,_=>rfl
 |23,_=>rfl
 |24,_=>rfl
 |25,_=>rfl
 |26,_=>rfl
 |27,_=>rfl
 |28,_=>rfl
 |29,_=>rfl
 |30,_=>rfl
 |31,_=>rfl
 |32,_=>rfl
 |n+33,h=>U_ h X
def BL(t:Ef):∀a,a<33->t.g8[1+a]?=(iE t.pc t.r)[a]?
 |0,_=>rfl
 |1,_=>rfl
 |2,_=>rfl
 |3,_=>rfl
 |4,_=>rfl
 |5,_=>rfl
 |6,_=>rfl
 |7,_=>rfl
 |8,_=>rfl
 |9,_=>rfl
 |10,_=>rfl
 |11,_=>rfl
 |12,_=>rfl
 |13,_=>rfl
 |14,_=>rfl
 |15,_=>rfl
 |16,_=>rfl
 |17,_=>rfl
 |18,_=>rfl
 |19,_=>rfl
 |20,_=>rfl
 |21,_=>rfl
 |22,_=>rfl
 |23,_=>rfl
 |24,_=>rfl
 |25,_=>rfl
 |26,_=>rfl
 |27,_=>rfl
 |28,_=>rfl
 |29,_=>rfl
 |30,_=>rfl
 |31,_=>rfl
 |32,_=>rfl
 |n+33,h=>U_ h X
def uK(t:Tk)(pc:Int)(r:Nat->Vl):vn t.g8 3 (iE pc r).toList=({t with pc:=pc,r:=r}:Tk).g8:=rfl
def ln.of{t t':Tk}(h:ln w t)(f:t'.gs=t.gs)(i:t'.rs=t.rs)(j:t'.ws=t.ws)(a:t'.nw=t.nw)(e:t'.ds=t.ds)(b:t'.hW=t.hW):ln w t':=
 ⟨by rw[f];exact h.gs,by rw[i];exact h.rs,by rw[j];exact h.ws,by rw[a];exact h.nw,by rw[a];exact h.nr,by rw[e];exact h.ds,by rw[b];exact h.hW,by rw[f];exact h.yK,by rw[i];exact h.lD,by rw[j];exact h.vU,by rw[a];exact h.tN,by rw[e];exact h.sJ,by rw[b];exact h.qc⟩
