import Derived.Test.YtenbhdilndfaeaaGreatM17
set_option maxRecDepth 100000
set_option maxHeartbeats 0
set_option linter.all false
namespace Go.Proofs.YtenbhdilndfaeaaGreat
open Go.RowKit Go.Proofs.Tryz
variable{G:Prop}{w:World}{c:Cl}{l:List Cl}{t:TypeId}{g:Nat}{cs:Array Value}{d:Dl}(A:OA)(rs:List Cl)(h:List Ob)(x:X1)
def ID(h:G:=by
 obtain⟨aw,cv⟩:=nm_ bR;rw[<-cv]at W R;clear cv;obtain⟨ae,cu⟩:=nm_ MT;exact IF):G:=h
def IF(h:G:=by
 rw[<-cu]at W D aN |-;clear cu
 cases F:aw.hO with
 |true=>
  have HM:Hid (P=jg):=U (by rw[R.out];exact U_ (show aw.p.hO=true from F));have d:ae.cell? (Z gx 81)=some (.bool true):=(W.bk.f_ 81).trans (Z_ (λq=>some (Value.bool q)) F);clear F
  go_wp2_with (refine kS (({Ef.zero with h6:=4}:Ef).g_) D (Ef.one _) ?_;intro bu MY V)
  rw[HM.out];exact rr_ ({Ef.zero with h6:=4}:Ef).g_ MY underlying134 ⟨_,rfl,sE.nil _ _ rfl rfl rfl rfl rfl,rfl,aN.hJ V p_⟩
 |false=>
  have HM:Hid (P=aw.e.p):=U (by rw[R.out];exact R_ (show ¬aw.p.hO=true by rw[show aw.p.hO=aw.hO from rfl,F];decide));have d:ae.cell? (Z gx 81)=some (.bool false):=(W.bk.f_ 81).trans (Z_ (λq=>some (Value.bool q)) F);clear F
  go_wp2_with (first|(refine iD rfl 134 _ rfl gx 38 r_ 186 _ aw.e.g_ W.bk (λj hj=>z6 aw j hj) _ underlying134 rfl k_ ?_)|(refine kS (aw.e.g_) D (Ef.one _) ?_;intro bu MY V))
  rw[HM.out];exact rr_ aw.e.g_ MY underlying134 ⟨_,rfl,pF W.Ej D V,rfl,aN.hJ V p_⟩):G:=h
def JC(h:G:=by
 go_wp2_with (go_at_call 92;have R:=iU A c l hH hC (N.hF MZ) hn;rw[hv]at R;refine R.mono ?_;rintro e w1⟨rfl,hg1⟩;have p0:w1.cell? (Z bD 0)=some (Y pc):=((E.hF hg1).f_ 0).trans rfl;have k0:=(o.hF hg1).f_ 0)
 go_meet;exact⟨jc bi.out.symm,hg1⟩):G:=h
def Ll(h:G:=by
 try simp only[a_]
 refine wpList_nil ?_;go_wp2;go_meet;exact⟨jc bi.out.symm,(aC.trans aM).trans L⟩):G:=h
def Lq(h:G:=by
 exact lO t3.g_ (.bool false) aB underlying53 (by rw[a2.out];exact⟨t3,rfl,Q,λP h=>by cases h⟩)):G:=h
def Cn(b w:World)(k:Nat)(x:X1)(a:Int)(E:Nat)(V c:Int)(n:Int)(M:kw b w k x)(p:E<16)(v:a≠5/\a≠6/\a≠7/\a≠13/\a≠14/\a≠15/\a≠17/\a≠18):
 Calls prog 121 #[q_ k,.agg #[Y a,Y (E:Int),Y V,Y c,Y n]] w (kR (.tuple #[]) (j5 x.p ⟨a,E,V,c,n⟩) b k w):=by
 obtain⟨o,j,C,A,g,f,s,t⟩:=r7 M #[Y a,Y (E:Int),Y V,Y c,Y n]
 go_enter func121,ntmps121
 go_upto_region 1 with fail
 clear C A;have z:=f.f_ 0;have y:I [] o o.drew:=(H [] o).drew;refine hN (λw'=>(w'.cell? (Z j 0)=some (Y a)/\w'.cell? (Z j 1)=some (Y (E:Int))/\w'.cell? (Z j 2)=some (Y V)/\w'.cell? (Z j 3)=some (Y c)/\w'.cell? (Z j 4)=some (Y n))/\w'.cell? (Z k (4+E*2))=some (.bool (x.sr E).r)/\w'.cell? (Z k (4+E*2+1))=some (Y (x.sr E).n)) 10 k_ ?_;have e:=And.intro f.drew.c5 (vh (g.bk.drew) p);have W:(0:Int)<=(E:Int):=X;have S:(E:Int)<16:=X
 iterate 8 refine jQ e ?_
 refine hZ 8 λm i=>?_
 go_simp;clear e
 refine h4 i (rK f g.bk p) λe=>?_
 clear i m
 refine hZ 9 λm i=>?_
 go_simp;clear e
 refine h4 i (rK f g.bk p) λe=>?_
 clear i m;refine hM k_ ?_ _;obtain⟨aX,T,u,q,B,F,bL,D,aW⟩:=y_ g f s #[.bool (x.sr E).r,Y (x.sr E).n];rw[u,q];clear u q g f s y e;have d:(a=5)=False:=p_;have c5:(a==5)=false:=p_;have ce:(a=6)=False:=p_;have R:(a==6)=false:=p_;have cI:(a=7)=False:=p_;have br:(a==7)=false:=p_;have ad:(a=13)=False:=p_;have Q:(a==13)=false:=p_;have ae:(a=14)=False:=p_;have af:(a==14)=false:=p_;have ag:(a=15)=False:=p_;have ed:(a==15)=false:=p_;have ah:(a=17)=False:=p_;have ai:(a==17)=false:=p_;have aj:(a=18)=False:=p_;have h:(a==18)=false:=p_
 have HM:Hid (j5 x.p ⟨a,E,V,c,n⟩=x.p):=U (by
  obtain⟨K,J,L,N,l,ak,O,P⟩:=v;unfold j5
  exact(R_ K).trans ((R_ J).trans ((R_ L).trans ((R_ N).trans ((R_ l).trans ((R_ (by simp only;omega)).trans (R_ O)))))))
 clear v;have z:=F.f_ 0;go_wp2;refine en_ ?_;rw[HM.out];exact⟨x,rfl,B,rfl,D⟩
def xd(b:World)(e:Nat)(x:X1)(i:In)(M:kw b w e x)(o:x.p.e.sm 800000)(E:0<=i.a)(H:i.a<16)(p:i.op=5∨i.op=6->0<=i.b/\i.b<16)(z:i.op=7->0<=i.n/\i.n<=1000000)(hc:i.op=13->0<=i.b/\i.b<=16/\i.b<=i.c/\i.c<=1000000)(F: -1<=x.j2)(I:x.j2<=1000000):
 Calls prog 121 #[q_ e,.agg #[Y i.op,Y i.a,Y i.b,Y i.c,Y i.n]] w (kR (.tuple #[]) (j5 x.p i) b e w):=by
 obtain⟨n,s,a,c,m⟩:=i;simp only at E H p z hc |-;obtain⟨f,rfl⟩:∃k:Nat,s=k:=⟨s.toNat,X⟩;have j:f<16:=X
 by_cases u:n=5
 .subst u;obtain⟨L,D⟩:=p O;obtain⟨d,rfl⟩:∃k:Nat,a=k:=⟨a.toNat,X⟩;exact rest_5 b w e x f d c m M j X o
 by_cases r:n=6
 .subst r;obtain⟨L,D⟩:=p O;obtain⟨d,rfl⟩:∃k:Nat,a=k:=⟨a.toNat,X⟩;exact rest_6 b w e x f d c m M j X o
 by_cases v:n=7
 .subst v;obtain⟨J,K⟩:=z rfl;exact rest_7 b w e x f a c m M j J K
 by_cases y:n=13
 .subst y;obtain⟨K,Q,P,N⟩:=hc rfl;obtain⟨d,rfl⟩:∃k:Nat,a=k:=⟨a.toNat,X⟩;obtain⟨J,rfl⟩:∃k:Nat,c=(d:Int)+(k:Int):=⟨(c-d).toNat,X⟩;exact rest_13 b w e x f d J m M X X F I j o
 by_cases l:n=14
 .subst l;exact rest_14 b w e x f a c m M j o
 by_cases B:n=15
 .subst B;exact rest_15 b w e x f a c m M j o
 by_cases C:n=17
 .subst C;exact rest_17 b w e x f a c m M j o
 by_cases q:n=18
 .subst q;exact rest_18 b w e x f a c m M j o
 exact Cn b w e x n f a c m M j ⟨u,r,v,y,l,B,C,q⟩
structure Fit(i:In):Prop where
 a0:0<=i.a
 a1:i.a<16
 E1:i.op=3∨i.op=4->0<=i.b/\i.b<16
 c4:i.op=4->0<=i.c/\i.c<16
 hH:i.op=8∨i.op=9∨i.op=10∨i.op=20->0<=i.n/\i.n<=1000000
 FF:i.op=5∨i.op=6->0<=i.b/\i.b<16
 n7:i.op=7->0<=i.n/\i.n<=1000000
 Fk:i.op=13->0<=i.b/\i.b<=16/\i.b<=i.c/\i.c<=1000000
def uW{n:Int}{u:Bool}(h:mi n u=true):0<=n/\n<16:=by
 unfold mi at h;simp at h;omega
def wa{l:List In}{k:Nat}(h:kW l k=true):Fit (l.getD k default):=by
 unfold kW jV at h;generalize l.getD k default=x at*;obtain⟨b,B,f,c,n⟩:=x;simp only at h;split at h
 .cases h
 rename_i C;split at h
 .cases h
 rename_i p;split at h
 .cases h
 rename_i y;have d:0<=b/\b<=21:=X;simp only[HF,F0,Bool.not_eq_true',bne_iff_ne,ne_eq,not_or,not_and,Bool.not_eq_false]at p;obtain⟨⟨s,z⟩,r⟩:=p;have m:=uW s
 have o:b≠13->b≠10->0<=f/\f<16:=λi v=>uW (z ⟨i,v⟩)
 have q:b≠13->0<=c/\c<16:=λi=>uW (r i)
 have u:b=13->0<=f/\f<=4/\f<=c/\c<=64:=by
  intro a;subst a;simp at y;omega
 have j:b=7∨b=8∨b=9∨b=10∨b=20->0<=n/\n<=64:=by
  intro a
  rcases a with a|a|a|a|a
  .subst a;have e:(i7.getD (7:Int).toNat default).n=4:=rfl;exact MN
  .subst a;have e:(i7.getD (8:Int).toNat default).n=5:=rfl;exact MN
  .subst a;have e:(i7.getD (9:Int).toNat default).n=5:=rfl;exact MN
  .subst a;have e:(i7.getD (10:Int).toNat default).n=5:=rfl;exact MN
  .subst a;have e:(i7.getD (20:Int).toNat default).n=5:=rfl;exact MN
 refine⟨m.1,m.2,λa=>o (by simp only at a;omega) (by simp only at a;omega),λa=>q (by simp only at a;omega),λa=>?_,λa=>o (by simp only at a;omega) (by simp only at a;omega),λa=>?_,λa=>?_⟩
 .have:=j (by simp only at a;omega)
  simp only;omega
 .have:=j (by simp only at a;omega)
  simp only;omega
 .have:=u a
  simp only;omega
def wpList_build{P:Program}{ops:Array Oper}{rest:List Oper}{o:Oper}{a:Act}{Q:Exit->Act->World->Prop}(L:o.guard=none){b:Array (Nat × Operand)}(f:o.op=.build t b)(vs:Array (Nat × Value))(i:b.map (λp=>(p.1,a.eval p.2))=vs){v:Value}(e:(Instr.build t vs).run P w=.ok v w)(h:wpList P ops Q rest (a.put o.dst v) w):wpList P ops Q (o::rest) a w:=by
 refine ir L (v:=v) ?_ h;subst i;unfold execOp;simp only[f,Sem.run_bind,Sem.run_pure,Result.andThen_ok];rw[e]
 rfl
def Ef.zero:Ef:=⟨0,0,jp,.nil,.nil,.nil,.nil,.nil,0,false,default⟩
def kc(jt:Sv In)(hH hC pc:Int)(r:Nat->Vl)(h:Sv Rw)(nx:Int):X1:=⟨jt,hH,hC,pc,r,h,nx,Ef.zero,false⟩
def zF(a:Sv In)(hH hC pc:Int)(r:Nat->Vl)(h:Sv Rw)(b:Int):
 (Instr.build 186 #[(0,.agg #[.slice a.A a.l.length a.c,Y hH,Y hC]),(1,.agg (iM pc r)),(2,.agg #[.slice h.A h.l.length h.c]),(3,Y b)]).run prog w=.ok (.agg (kc a hH hC pc r h b).g_) w:=by kernel_rfl
def wH(P:p8)(w:World)(e:Ending)(w':World):Prop:=∃x:Ef,e=.returned (.agg x.g_)/\sE w' x/\x.p=P/\I [] w w'
def sE.nil(w:World)(t:Ef)(f:t.rs=.nil)(i:t.ws=.nil)(e:t.nw=.nil)(b:t.ds=.nil)(a:t.h8=.nil):sE w t:=by
 obtain⟨m,G,n,o,p,k,s,r,q,c,d⟩:=t;simp only at f i e b a;subst f;subst i;subst e;subst b;subst a;exact⟨Gw _ _ _ _,Gw _ _ _ _,Gw _ _ _ _,λu j=>by simp[Sv.nil]at j,Gw _ _ _ _,Gw _ _ _ _,H_ _,H_ _,H_ _,H_ _,H_ _⟩
def z6:∀a,a<43->x.g_[38+a]?=x.e.g_[a]?
 |0,_=>rfl
 |1,_=>rfl
 |2,_=>rfl
 |3,_=>rfl
 |4,_=>rfl
 |5,_=>rfl
 |6,_=>rfl
 |7,_=>rfl
 |8,_=>rfl
 |9,_=>rfl
 |10,_=>rfl
 |11,_=>rfl
 |12,_=>rfl
 |13,_=>rfl
 |14,_=>rfl
 |15,_=>rfl
 |16,_=>rfl
 |17,_=>rfl
 |18,_=>rfl
 |19,_=>rfl
 |20,_=>rfl
 |21,_=>rfl
 |22,_=>rfl
 |23,_=>rfl
 |24,_=>rfl
 |25,_=>rfl
 |26,_=>rfl
 |27,_=>rfl
 |28,_=>rfl
 |29,_=>rfl
 |30,_=>rfl
 |31,_=>rfl
 |32,_=>rfl
 |33,_=>rfl
 |34,_=>rfl
 |35,_=>rfl
 |36,_=>rfl
 |37,_=>rfl
 |38,_=>rfl
 |39,_=>rfl
 |40,_=>rfl
 |41,_=>rfl
 |42,_=>rfl
 |n+43,h=>FU h X
def kw.Ej{b:World}{a:Nat}{x:X1}(h:kw b w a x):sE w x.e:=
 ⟨Sl.iR h.rs,Sl.iR h.ws,h.nw,h.nr,h.ds,h.h8,iY h.rs,iY h.ws,h.td,h.r8,h.pN⟩
def pF{w':World}{x:Ef}(h:sE w x)(b:Bk w g 134 cs)(a:I [g] w w'):sE w' x:=h.it b O a
def o8(l:List In)(hH hC pc:Int):Bool:=decide (ic l hH hC=false∨pc< -1∨(l.length:Int)<=pc)
def pT(c:Nat)(l:List In)(hH hC pc u:Int)(r:Nat->Vl)(i:OA)(hc:Nat)(a:List Rw)(N:Is w A l)(hn:l.length<=1000000000)(al:my w i hc a)(aH:a.length<=1000000000)(vj:pc<=9000000000000000000):
 Calls prog 78 #[.agg #[.slice A l.length c,Y hH,Y hC],.agg (iM pc r),.agg #[.slice i a.length hc],Y u] w (wH (lq l hH hC pc r (hX a) u) w):=by
 obtain⟨P,hP⟩:=mn_ (lq l hH hC pc r (hX a) u)
 have aS:Hid (P=if ic l hH hC=false∨pc< -1∨(l.length:Int)<=pc then jg else
  if(qb ({(kc ⟨A,c,l⟩ hH hC pc r ⟨i,hc,a⟩ u)with e:={(kc ⟨A,c,l⟩ hH hC pc r ⟨i,hc,a⟩ u).e with pc:=pc+1,r:=r}}:X1).p pc).hO=true then jg else(qb ({(kc ⟨A,c,l⟩ hH hC pc r ⟨i,hc,a⟩ u)with e:={(kc ⟨A,c,l⟩ hH hC pc r ⟨i,hc,a⟩ u).e with pc:=pc+1,r:=r}}:X1).p pc).e):=U (by rw[<-hP];rfl)
 rw[hP];clear hP;obtain⟨o,E,-,-,-⟩:=Da w 26 #[.slice A l.length c,Y hH,Y hC] 49 (iM pc r) 35 #[.slice i a.length hc] 134 tT;have aZ:Bk ((((w.alloc (.cells #[.slice A l.length c,Y hH,Y hC] 26)).alloc (.cells (iM pc r) 49)).alloc (.cells #[.slice i a.length hc] 35)).alloc (.cells tT 134)) (w.heap.size+2) 35 #[.slice i a.length hc]:=zu ((P_ ((w.alloc (.cells #[.slice A l.length c,Y hH,Y hC] 26)).alloc (.cells (iM pc r) 49)) 35 #[.slice i a.length hc]).alloc (.cells tT 134));have M:Bk ((((w.alloc (.cells #[.slice A l.length c,Y hH,Y hC] 26)).alloc (.cells (iM pc r) 49)).alloc (.cells #[.slice i a.length hc] 35)).alloc (.cells tT 134)) (w.heap.size+3) 134 tT:=zu (P_ (((w.alloc (.cells #[.slice A l.length c,Y hH,Y hC] 26)).alloc (.cells (iM pc r) 49)).alloc (.cells #[.slice i a.length hc] 35)) 134 tT);obtain⟨-,-,-,-,MZ⟩:=Da w 26 #[.slice A l.length c,Y hH,Y hC] 49 (iM pc r) 35 #[.slice i a.length hc] 134 tT
 go_enter func78,ntmps78
 go_upto_region 1 with fail
 obtain⟨bw,aG⟩:=nm_ ((((w.alloc (.cells #[.slice A l.length c,Y hH,Y hC] 26)).alloc (.cells (iM pc r) 49)).alloc (.cells #[.slice i a.length hc] 35)).alloc (.cells tT 134));rw[<-aG]at o E aZ M MZ |-;clear aG;obtain⟨bT,a8⟩:=nm_ w.heap.size;obtain⟨bD,bJ⟩:=nm_ (w.heap.size+1);obtain⟨ah,a2⟩:=nm_ (w.heap.size+2);obtain⟨bt,bF⟩:=nm_ (w.heap.size+3);rw[<-a2]at aZ;rw[<-bF]at M;rw[<-bJ]at E;rw[<-a8]at o;rw[<-bF,<-a2,<-bJ,<-a8];have cn:w.heap.size<=bt:=X;have ck:bT≠bD/\bT≠ah/\bT≠bt/\bD≠ah/\bD≠bt/\ah≠bt:=X;clear a8 bJ a2 bF
 go_cut [26] (λC a7=>C=.bool (o8 l hH hC pc)/\I [] bw a7)
 case first=>
  have L:=o.f_ 0;have K:=o.f_ 1;have au:=o.f_ 2
  cases hv:ic l hH hC with
  |false=>
   have bi:=U (show o8 l hH hC pc=true by unfold o8;simp[hv]);exact JC
  |true=>
   by_cases b:pc< -1
   .have bi:=U (show o8 l hH hC pc=true by unfold o8;simp[b])
    have q:(pc< -1)=True:=by simp[b]
    exact JC
   .have q:(pc< -1)=False:=by simp[b]
    by_cases f:(l.length:Int)<=pc
    .have bi:=U (show o8 l hH hC pc=true by unfold o8;simp[f])
     have m:((l.length:Int)<=pc)=True:=by simp[f]
     exact JC
    .have bi:=U (show o8 l hH hC pc=false by unfold o8;simp[hv];omega);have m:((l.length:Int)<=pc)=False:=p_;exact JC
 case rest=>
  obtain⟨rfl,aL⟩:=hcut;replace o:=o.hF aL;replace E:=E.hF aL;replace aZ:=aZ.hF aL;replace M:=M.hF aL;replace MZ:=MZ.trans aL;clear aL
  cases bB:o8 l hH hC pc with
  |true=>
   have HM:Hid (P=jg):=U (by rw[aS.out];unfold o8 at bB;exact U_ (H0 bB));clear bB aS
   go_wp2_with (refine kS (({Ef.zero with h6:=4}:Ef).g_) M (Ef.one _) ?_;intro ae b G)
   rw[HM.out];exact rr_ ({Ef.zero with h6:=4}:Ef).g_ b underlying134 ⟨_,rfl,sE.nil _ _ rfl rfl rfl rfl rfl,rfl,MZ.hJ G p_⟩
  |false=>
   have bH:¬(ic l hH hC=false∨pc< -1∨(l.length:Int)<=pc):=by unfold o8 at bB;exact Ii bB
   have T:Hid (P=if(qb ({(kc ⟨A,c,l⟩ hH hC pc r ⟨i,hc,a⟩ u)with e:={(kc ⟨A,c,l⟩ hH hC pc r ⟨i,hc,a⟩ u).e with pc:=pc+1,r:=r}}:X1).p pc).hO=true then jg else(qb ({(kc ⟨A,c,l⟩ hH hC pc r ⟨i,hc,a⟩ u)with e:={(kc ⟨A,c,l⟩ hH hC pc r ⟨i,hc,a⟩ u).e with pc:=pc+1,r:=r}}:X1).p pc).e):=U (by rw[aS.out];exact R_ bH);clear bB aS
   have aD:ic l hH hC=true:=by cases h:ic l hH hC with|true=>rfl|false=>exact FU (.inl h) bH
   have bZ: -1<=pc/\pc<(l.length:Int):=X
   have aV:∀k,k<l.length->kW l k=true:=by
    intro k hk;have hv:=aD;exact Mn
   have cj:l.length<=2048:=L8;clear bH aD;have L:=o.f_ 0;have K:=o.f_ 1;have au:=o.f_ 2;have z0:=aZ.f_ 0;have S:wc.heap.size≠bt:=ov M.lt;have cf:wc.heap.size≠bD:=ov E.lt;have aC:wc.heap.size≠bT:=ov o.lt;have bY:=N.hF MZ;have bX:=al.hF MZ
   go_upto_region 4 with(first|(refine kV E underlying49 ?_)|(refine wpList_build rfl rfl #[(0,.agg #[.slice A l.length c,Y hH,Y hC]),(1,.agg (iM pc r)),(2,.agg #[.slice i a.length hc]),(3,Y u)] k_ (zF ⟨A,c,l⟩ hH hC pc r ⟨i,hc,a⟩ u) ?_))
   have bE:w.heap.size<=wc.heap.size:=MZ.size;have aM:I [] wc (wc.alloc (.cells (kc ⟨A,c,l⟩ hH hC pc r ⟨i,hc,a⟩ u).g_ 186)):=(H [] wc).alloc _;have an:=P_ wc 186 (kc ⟨A,c,l⟩ hH hC pc r ⟨i,hc,a⟩ u).g_;replace o:=o.hF aM;replace E:=E.hF aM;replace M:=M.hF aM;replace MZ:=MZ.trans aM;replace bY:=bY.hF aM;replace bX:=bX.hF aM;obtain⟨z,ce⟩:=nm_ (wc.alloc (.cells (kc ⟨A,c,l⟩ hH hC pc r ⟨i,hc,a⟩ u).g_ 186));rw[<-ce]at o E M an MZ bY bX |-;clear ce;clear aM aZ z0 L K au;generalize wc.heap.size=gx at*;have aU:kw z z gx (kc ⟨A,c,l⟩ hH hC pc r ⟨i,hc,a⟩ u):=⟨an,H _ _,⟨_,an⟩,bY,bX,World.ownsRow_nil _ _ _ _,World.ownsRow_nil _ _ _ _,(λg h=>by cases h),Gw _ _ _ _,(λr hr=>by simp[kc,Ef.zero,Sv.nil]at hr),Gw _ _ _ _,Gw _ _ _ _,H_ _,H_ _,H_ _,hn,aH⟩
   go_upto_region 5 with(first|(refine kV E underlying49 ?_)|(refine je rfl 49 _ _ rfl gx 39 r_ (iM pc r) r_ 186 _ an (by show 39+33<=82;decide) k_ (n9) ?_;intro w2 br M0))
   rw[nu]at br;have MX:kw z w2 gx ({(kc ⟨A,c,l⟩ hH hC pc r ⟨i,hc,a⟩ u)with e:={(kc ⟨A,c,l⟩ hH hC pc r ⟨i,hc,a⟩ u).e with pc:=pc,r:=r}}:X1):=aU.r5 M0 br rfl rfl rfl rfl rfl rfl rfl;have b8:=o.gr M0 (zu aC.symm);have ca:=E.gr M0 (zu cf.symm);have b9:=M.gr M0 (zu S.symm);have bU:w2.cell? (Z gx 39)=some (Y pc):=(MX.bk.f_ 39).trans rfl;have bM:=MX.bk.hG 39;clear aU an br o E M
   go_upto_region 6 with fail
   have aA:kw z (w2.setCell (Z gx 39) (Y (pc+1))) gx ({(kc ⟨A,c,l⟩ hH hC pc r ⟨i,hc,a⟩ u)with e:={(kc ⟨A,c,l⟩ hH hC pc r ⟨i,hc,a⟩ u).e with pc:=pc+1,r:=r}}:X1):=MX.set 39 (Y (pc+1)) rfl rfl rfl rfl rfl rfl rfl rfl;have b0:=b8.ih (p:=(Z gx 39)) aC.symm (Y (pc+1));have b5:=ca.ih (p:=(Z gx 39)) cf.symm (Y (pc+1));have bL:=b9.ih (p:=(Z gx 39)) S.symm (Y (pc+1));clear bU bM MX b8 ca b9 M0;obtain⟨aI,a6⟩:=nm_ (w2.setCell (Z gx 39) (Y (pc+1)));rw[<-a6]at aA b0 b5 bL |-;clear a6;obtain⟨x,hx⟩:=nm_ ({(kc ⟨A,c,l⟩ hH hC pc r ⟨i,hc,a⟩ u)with e:={(kc ⟨A,c,l⟩ hH hC pc r ⟨i,hc,a⟩ u).e with pc:=pc+1,r:=r}}:X1);rw[<-hx]at aA T;have bd:=U hx
   have aE:x.p.e.sm 0:=by rw[hx];exact⟨H_ _,H_ _,H_ _,H_ _,H_ _⟩
   have bG:x.j2=pc:=by rw[hx];rfl
   have cg:x.jt=⟨A,c,l⟩:=by rw[hx];rfl
   clear hx;have p0:aI.cell? (Z bD 0)=some (Y pc):=(b5.f_ 0).trans rfl
   by_cases aF:pc= -1
   ·
    have q:(pc== -1)=true:=by simp[aF]
    have B:Hid (P=if(iL x.p).hO=true then(if(iL x.p).hO=true then jg else(iL x.p).e) else(if(jm (hW (iL x.p) 1 2).1 (hW (iL x.p) 1 2).2).hO=true then jg else(jm (hW (iL x.p) 1 2).1 (hW (iL x.p) 1 2).2).e)):=U (by
     rw[T.out];unfold qb;rw[U_ aF];dsimp only
     split<;>rfl)
    clear T
    go_upto_region 8 with(go_at_call 116;((with_reducible refine(qG z gx x aA).mono ?_);unfold kR;rintro e J⟨f,rfl,b7,bO,bf⟩;have s:=U bO;clear bO;have d:J.cell? (Z gx 81)=some (.bool f.hO):=(b7.bk.f_ 81).trans rfl))
    have cH:f.p.e.sm 0:=by rw[s.out];exact aE
    have bg:=bL.xg bf S.symm
    cases m:f.hO with
    |true=>
     have R:Hid (P=if f.p.hO=true then jg else f.p.e):=U (by rw[B.out,<-s.out,U_ (show f.p.hO=true from m)]);rw[m]at d;clear m B s
     go_upto_region 13 with fail
     have W:=b7;have D:=bg;have aN:I [] w J:=MZ.hJ W.gr p_;obtain⟨aw,cv⟩:=nm_ f;rw[<-cv]at W R;clear d cv;obtain⟨ae,cu⟩:=nm_ J;exact IF
    |false=>
     obtain⟨bh,hv⟩:=mn_ ((hW f.p 1 2).2);have az:=U hv;clear hv;have n:Hid (P=if(jm (hW f.p 1 2).1 bh).hO=true then jg else(jm (hW f.p 1 2).1 bh).e):=U (by rw[B.out,<-s.out,R_ (show ¬f.p.hO=true by rw[show f.p.hO=f.hO from rfl,m];decide),az.out]);rw[m]at d;clear m B s;have bI:(hW f.p 1 2).1.e.sm 900000:=(kg cH 1 2).mono O
     go_upto_region 13 with(first|(go_at_call 118;((with_reducible refine(jS z gx f 1 2 b7 (G_ cH.rs O)).mono ?_);unfold mZ;rintro e ad⟨ao,rfl,ap,aR,MS⟩;have y:=U aR;clear aR;rw[az.out]))|(go_at_call 117;((with_reducible refine(pl z gx ao bh ap (by rw[y.out];exact bI)).mono ?_);unfold kR;rintro e MT⟨bR,rfl,bn,Q,b⟩;have v:=U Q;clear Q)))
     have R:Hid (P=if bR.p.hO=true then jg else bR.p.e):=U (by rw[n.out,v.out,y.out]);have W:=bn;have D:=(bg.xg MS S.symm).xg b S.symm;have aN:I [] w MT:=MZ.hJ W.gr p_;clear n v y az d;exact ID
   .have q:(pc== -1)=false:=by simp[aF]
    obtain⟨k,rfl⟩:∃k:Nat,pc=k:=⟨pc.toNat,X⟩;have hk:k<l.length:=X;have b6:=aA.Ed;rw[cg]at b6;obtain⟨bC,off,aT,bj,bz,bP,bQ,be⟩:=b6.at_ hk;have aT:A=some (Z bC off):=aT;have s:=wa (aV k hk)
    have bk:l.getD k default=l[k]:=by simp[List.getD,K_ hk]
    rw[bk]at s
    have cr:qb x.p (k:Int)=(match jX x.p l[k]with
     |some C=>C
     |none=>match kM x.p l[k]with
      |some C=>C
      |none=>j5 x.p l[k]):=by
     have e:x.p.jt.getD (k:Int).toNat default=l[k]:=by
      have aK:x.p.jt=l:=Z_ (λbm:Sv In=>bm.l) cg;rw[aK,<-bk]
      rfl
     unfold qb;rw[R_ aF,e]
     rfl
    rw[cr]at T;clear cr bk b6 aV;obtain⟨m,hi⟩:=nm_ (l[k]);rw[<-hi]at s T bj bz bP bQ be;clear hi
    have k0:aI.cell? (Z bT 0)=some (.slice (some (Z bC off)) l.length c):=by rw[<-aT];exact b0.f_ 0
    go_upto_region 11 with fail
    have f:=P_ aI 189 #[Y m.op,Y m.a,Y m.b,Y m.c,Y m.n];have ap:=aA.hF ((H [] aI).alloc (.cells #[Y m.op,Y m.a,Y m.b,Y m.c,Y m.n] 189));have bW:=bL.alloc (.cells #[Y m.op,Y m.a,Y m.b,Y m.c,Y m.n] 189);have t:aI.heap.size≠gx:=ov aA.bk.lt;obtain⟨bK,aW⟩:=nm_ (aI.alloc (.cells #[Y m.op,Y m.a,Y m.b,Y m.c,Y m.n] 189));rw[<-aW]at f ap bW |-;clear aW;generalize aI.heap.size=bv at*;clear aA bL b0 b5 p0 k0 bj bz bP bQ be;have L:=f.f_ 0;have K:=f.f_ 1;have au:=f.f_ 2;have aP:=f.f_ 3;have ar:=f.f_ 4
    cases bZ:jX x.p m with
    |some C=>
     have B:Hid (P=if C.hO=true then jg else C.e):=U (by rw[T.out,bZ]);clear T
     go_upto_region 13 with(go_at_call 119;have n:=py z gx x m ap (aE.mono O) s.a0 s.a1 s.E1 s.c4;rw[bZ]at n;refine n.mono ?_;unfold ly;rintro e MT⟨bR,J,bn,Q,b⟩;have J:e=.returned (.bool true):=J;subst J;have v:Hid (bR.p=C):=U Q;clear Q n;replace L:=(f.xg b t).f_ 0;replace K:=(f.xg b t).f_ 1;replace au:=(f.xg b t).f_ 2;replace aP:=(f.xg b t).f_ 3;replace ar:=(f.xg b t).f_ 4)
     have R:Hid (P=if bR.p.hO=true then jg else bR.p.e):=U (by rw[B.out,v.out]);have W:=bn;have D:=bW.xg b S.symm;clear B v L K au aP ar bZ;have aN:I [] w MT:=MZ.hJ W.gr p_;exact ID
    |none=>
     cases aB:kM x.p m with
     |some C=>
      have B:Hid (P=if C.hO=true then jg else C.e):=U (by rw[T.out,bZ];simp only[aB]);clear T
      go_upto_region 13 with(first|(go_at_call 119;have n:=py z gx x m ap (aE.mono O) s.a0 s.a1 s.E1 s.c4;rw[bZ]at n;refine n.mono ?_;unfold ly;rintro e MT⟨bR,J,bn,Q,b⟩;have J:e=.returned (.bool false):=J;subst J;have v:Hid (bR.p=x.p):=U Q;clear Q n;replace L:=(f.xg b t).f_ 0;replace K:=(f.xg b t).f_ 1;replace au:=(f.xg b t).f_ 2;replace aP:=(f.xg b t).f_ 3;replace ar:=(f.xg b t).f_ 4)|(go_at_call 120;have n:=sM z gx bR m bn (by rw[v.out];exact aE.mono O) s.a0 s.a1 s.hH;rw[v.out,aB]at n;refine n.mono ?_;unfold ly;rintro e ax⟨bp,aO,bl,bq,y⟩;have aO:e=.returned (.bool true):=aO;subst aO;have bA:Hid (bp.p=C):=U bq;clear bq n;replace L:=((f.xg b t).xg y t).f_ 0;replace K:=((f.xg b t).xg y t).f_ 1;replace au:=((f.xg b t).xg y t).f_ 2;replace aP:=((f.xg b t).xg y t).f_ 3;replace ar:=((f.xg b t).xg y t).f_ 4))
      have R:Hid (P=if bp.p.hO=true then jg else bp.p.e):=U (by rw[B.out,bA.out]);have W:=bl;have D:=(bW.xg b S.symm).xg y S.symm;clear B v bA L K au aP ar bZ aB;have aN:I [] w ax:=MZ.hJ W.gr p_;obtain⟨aw,cv⟩:=nm_ bp;rw[<-cv]at W R;clear cv;obtain⟨ae,cu⟩:=nm_ ax;exact IF
     |none=>
      have B:Hid (P=if(j5 x.p m).hO=true then jg else(j5 x.p m).e):=U (by rw[T.out,bZ];simp only[aB]);clear T
      go_upto_region 13 with(first|(go_at_call 119;have n:=py z gx x m ap (aE.mono O) s.a0 s.a1 s.E1 s.c4;rw[bZ]at n;refine n.mono ?_;unfold ly;rintro e MT⟨bR,J,bn,Q,b⟩;have J:e=.returned (.bool false):=J;subst J;have v:Hid (bR.p=x.p):=U Q;clear Q n;replace L:=(f.xg b t).f_ 0;replace K:=(f.xg b t).f_ 1;replace au:=(f.xg b t).f_ 2;replace aP:=(f.xg b t).f_ 3;replace ar:=(f.xg b t).f_ 4)|(go_at_call 120;have n:=sM z gx bR m bn (by rw[v.out];exact aE.mono O) s.a0 s.a1 s.hH;rw[v.out,aB]at n;refine n.mono ?_;unfold ly;rintro e ax⟨bp,aO,bl,bq,y⟩;have aO:e=.returned (.bool false):=aO;subst aO;have bA:Hid (bp.p=x.p):=U bq;clear bq n;replace L:=((f.xg b t).xg y t).f_ 0;replace K:=((f.xg b t).xg y t).f_ 1;replace au:=((f.xg b t).xg y t).f_ 2;replace aP:=((f.xg b t).xg y t).f_ 3;replace ar:=((f.xg b t).xg y t).f_ 4)|(go_at_call 121;have n:=xd z gx bp m bl (by rw[bA.out];exact aE.mono O) s.a0 s.a1 s.FF s.n7 s.Fk (by show -1<=bp.p.j2;rw[bA.out];show -1<=x.j2;rw[bG];omega) (by show bp.p.j2<=1000000;rw[bA.out];show x.j2<=1000000;rw[bG];omega);refine n.mono ?_;unfold kR;rintro e aJ⟨bx,rfl,cb,bS,aQ⟩;have bV:=U bS;clear bS n))
      have R:Hid (P=if bx.p.hO=true then jg else bx.p.e):=U (by rw[B.out,bV.out,bA.out]);have W:=cb;have D:=((bW.xg b S.symm).xg y S.symm).xg aQ S.symm;clear B v bA bV L K au aP ar bZ aB;have aN:I [] w aJ:=MZ.hJ W.gr p_;obtain⟨aw,cv⟩:=nm_ bx;rw[<-cv]at W R;clear cv;obtain⟨ae,cu⟩:=nm_ aJ;exact IF
def vd(o:Option i3)(w:World)(e:Ending)(w':World):Prop:=∃t:Tk,e=.returned (.tuple #[.agg t.g_,.bool o.isSome])/\I [] w w'/\∀P,o=some P->lh w' t/\t.p=P
def AO{t:i3}{rs ws:List Cl}{l:List Dl}(h:take t d=none):jN t rs ws (d::l)=jN t rs ws l:=by
 rw[jN,h]
def y8{t t':i3}{rs ws:List Cl}{l:List Dl}(h:take t d=some t'):jN t rs ws (d::l)=jN t' (jJ rs d) (jJ ws d) l:=by
 rw[jN,h]
def Cs.it{w':World}{A:OA}(h:Cs w A l)(e:Bk w g t cs)(a:116≠t)(b:I [g] w w'):Cs w' A l:=Sl.it h e a b
def nh(t:i3)(c:Cl):Bool:=decide (0<=jr t.nw c.id∨0<=cat t.ws c.id c.f∨0<=cat t.rs c.id c.f)
def xm{view:List Ob}{t:i3}(h:nh t c=true):j4 view t (c::l)=j4 view t l:=by
 have a:0<=jr t.nw c.id∨0<=cat t.ws c.id c.f∨0<=cat t.rs c.id c.f:=by simpa[nh]using h
 rw[j4,qi,U_ a]
def vK{view:List Ob}{t:i3}(h:nh t c=false)(b:pe t.ds c.id c.f<0):qi view t c=some {t with rs:=kz t.rs c}:=by
 have a:¬(0<=jr t.nw c.id∨0<=cat t.ws c.id c.f∨0<=cat t.rs c.id c.f):=by simpa[nh]using h
 rw[qi,R_ a,R_ X]
def y7{view:List Ob}{t:i3}(h:nh t c=false)(a:pe t.ds c.id c.f<0):j4 view t (c::l)=j4 view {t with rs:=kz t.rs c} l:=by
 rw[j4,vK h a]
def vJ{view:List Ob}{t:i3}(h:nh t c=false)(a:0<=pe t.ds c.id c.f):qi view t c=jw t view c.id c.f:=by
 have b:¬(0<=jr t.nw c.id∨0<=cat t.ws c.id c.f∨0<=cat t.rs c.id c.f):=by simpa[nh]using h
 rw[qi,R_ b,U_ a]
def AN{view:List Ob}{t:i3}(h:nh t c=false)(a:0<=pe t.ds c.id c.f)(b:jw t view c.id c.f=none):j4 view t (c::l)=none:=by
 rw[j4,vJ h a,b]
def y6{view:List Ob}{t t':i3}(h:nh t c=false)(a:0<=pe t.ds c.id c.f)(b:jw t view c.id c.f=some t'):j4 view t (c::l)=j4 view t' l:=by
 rw[j4,vJ h a,b]
def AM{view:List Ob}{t:i3}(a:jw t view c.id c.f=none):kt view t (c::l)=none:=by
 rw[kt,r6,a]
 rfl
def y5{view:List Ob}{t t':i3}(a:jw t view c.id c.f=some t'):kt view t (c::l)=kt view (j1 t' c) l:=by
 rw[kt,r6,a]
 rfl
def Ek:116≠134/\56≠134/\38≠134/\124≠134/\162≠134:=by decide
def xl(t:Tk)(A:OA)(c:Nat)(l:List Rw)(f:Ef)(w:World)(ht:lh w t)(h:my w A c l)(he:sE w f)(hs:t.p.sm 1000000)(hes:f.p.sm 1000)(hl:l.length<=100000000):
 Calls prog 81 #[.agg t.g_,.agg #[.slice A l.length c],.agg f.g_] w (vd (record t.p (hX l) f.p) w):=by
 obtain⟨b,k,o,r,MZ⟩:=Da w 53 t.g_ 35 #[.slice A l.length c] 134 f.g_ 53 lA
 go_enter func81,ntmps81
 go_upto_region 1 with fail
 obtain⟨al,aG⟩:=nm_ ((((w.alloc (.cells t.g_ 53)).alloc (.cells #[.slice A l.length c] 35)).alloc (.cells f.g_ 134)).alloc (.cells lA 53));rw[<-aG]at b k o r MZ |-;clear aG;have bq:al.cell? (Z (w.heap.size+1+1) 37)=some (.slice f.ds.A f.ds.l.length f.ds.c):=(o.f_ 37).trans rfl;go_wp2
 go_loopw [20] (λan wr=>∃(s:Nat) (W:Tk) (rs ws:Sv Cl),s<=f.ds.l.length/\an=Y s/\Bk wr (w.heap.size) 53 W.g_/\Bk wr (w.heap.size+1+1) 134 ({f with rs:=rs,ws:=ws}:Ef).g_/\Bk wr (w.heap.size+1) 35 #[.slice A l.length c]/\Bk wr (w.heap.size+1+1+1) 53 lA/\lh wr W/\Cs wr rs.A rs.l/\Cs wr ws.A ws.l/\rs.ok/\ws.ok/\jN t.p f.rs.l f.ws.l f.ds.l=jN W.p rs.l ws.l (f.ds.l.drop s)/\W.p.sm (1000000+s)/\rs.l.length<=1000/\ws.l.length<=1000/\I [] w wr) (λan _=>f.ds.l.length-(intOf an).toNat)
 case atStart=>exact⟨0,t,f.rs,f.ws,N_ _,rfl,b,o,k,r,ht.hF MZ,(he.hF MZ).rs,(he.hF MZ).ws,he.k5,he.vp,rfl,hs.mono X,hes.rs,hes.ws,MZ⟩
 case round=>
  clear b o k r MZ bq;obtain⟨s,W,rs,ws,hk,rfl,b,o,k,r,b0,T,B,cg,dt,aW,z,bJ,di,u⟩:=hrel;have aA:=U aW;clear aW;have db:=hes.ds
  by_cases af:s<f.ds.l.length
  .have aw:(s:Int)<(f.ds.l.length:Int):=X;have dB:f.ds.l.length<=1000:=db;have bo:W.ds.l.length<=1000000000:=G_ z.ds X
   have bN:W.nw.l.length<=1000000000:=by have:=z.nw;rw[show W.p.nw=hX W.nw.l from rfl,h7]at this;omega
   have bU:W.ws.l.length<=1000000000:=G_ z.ws X;have dh:W.rs.l.length<=1000000000:=G_ z.rs X;obtain⟨bd,off,aZ,bj,bz,bP,bQ,be⟩:=((he.hF u).ds).at_ af;rw[aZ];have aK:=U (show f.ds.l.drop s=f.ds.l[s]::f.ds.l.drop (s+1) from Q_ af);generalize f.ds.l[s]=d at*;have aC:=(H [] wr).alloc (.cells #[Y d.id,Y d.f,Y d.op,.bool d.v.r,Y d.v.n] 124);have de:w.heap.size+1+1+1<wr.heap.size:=r.lt;have e:=P_ wr 124 #[Y d.id,Y d.f,Y d.op,.bool d.v.r,Y d.v.n]
   go_upto_region 5 with fail
   replace b:=b.hF aC;replace o:=o.hF aC;replace k:=k.hF aC;replace r:=r.hF aC;replace b0:=b0.hF aC;replace T:=Sl.hF T aC;replace B:=Sl.hF B aC;replace u:=u.trans aC;clear aC bj bz bP bQ be aZ;obtain⟨bf,bR⟩:=nm_ (wr.alloc (.cells #[Y d.id,Y d.f,Y d.op,.bool d.v.r,Y d.v.n] 124));rw[<-bR]at b o k r e u b0 T B |-;clear bR;generalize wr.heap.size=S at*;have MV:=e.f_ 0;have MU:=e.f_ 1;have au:=e.f_ 2;have aP:=e.f_ 3;have ar:=e.f_ 4
   cases aU:take W.p d with
   |none=>
    have bn:=U aU;clear aU
    go_wp2_with (first|(refine kV b underlying53 ?_)|(go_at_call 126;((with_reducible refine(B_ W d b0 bo bN bU dh bn.out).mono ?_);unfold nj;rintro V ag⟨a,rfl,j,aN,C⟩;have bA:=P_ ag 53 lA;have cO:w.heap.size+1+1+1<ag.heap.size:=GN r.lt C.size;have dr:S<ag.heap.size:=GN e.lt C.size))|(refine kS (a.g_) bA (Tk.one _) ?_;intro ad cN M))
    have K:I [] bf ad:=(C.alloc (.cells lA 53)).hJ M (by simp;exact C.size);go_roundw
    case rel=>exact⟨s+1,W,rs,ws,X,gn,b.hF K,o.hF K,k.hF K,r.hF K,b0.hF K,Sl.hF T K,Sl.hF B K,cg,dt,by rw[aA.out,aK.out,AO bn.out],z.mono X,bJ,di,u.trans K⟩
    case measure=>exact mz
   |some P=>
    have bn:=U aU;clear aU
    go_upto_region 7 with(first|(refine kV b underlying53 ?_)|(go_at_call 126;((with_reducible refine(Ai W d P b0 bo bN bU dh bn.out).mono ?_);unfold nj;rintro V ag⟨a,rfl,j,aN,C⟩;have bA:=P_ ag 53 lA;have cO:w.heap.size+1+1+1<ag.heap.size:=GN r.lt C.size;have dr:S<ag.heap.size:=GN e.lt C.size))|(refine kS (a.g_) bA (Tk.one _) ?_;intro ad cN M))
    have bh:=U aN;clear aN;have K:I [] bf ad:=(C.alloc (.cells lA 53)).hJ M (by simp;exact C.size);have bk:I [] ag ad:=((H [] ag).alloc (.cells lA 53)).hJ M J;replace b:=b.hF K;replace o:=o.hF K;replace k:=k.hF K;replace r:=r.hF K;replace e:=e.hF K;replace j:=j.hF bk;replace T:=T.hF K;replace B:=B.hF K;replace u:=u.trans K;clear C M K bk b0 bA MV MU au aP ar;generalize ag.heap.size=dy at*
    go_upto_region 8 with(first|(refine kV cN underlying53 ?_)|(refine kS (a.g_) b (Tk.one _) ?_;intro MT bp aj))
    replace o:=o.gr aj sd_;replace k:=k.gr aj sd_;replace r:=r.gr aj sd_;replace e:=e.gr aj sd_;replace j:=j.it b sS aj;replace T:=Sl.it T b O aj;replace B:=Sl.it B b O aj;replace u:=u.hJ aj J;replace b:=bp;clear bp aj cN
    have c8:MT.drew.cell? (Z (w.heap.size+1+1) 34)=some (.slice rs.A rs.l.length rs.c)/\MT.drew.cell? (Z (w.heap.size+1+1) 35)=some (.slice ws.A ws.l.length ws.c)/\MT.drew.cell? (Z S 0)=some (Y d.id)/\MT.drew.cell? (Z S 1)=some (Y d.f)/\MT.drew.cell? (Z S 2)=some (Y d.op)/\MT.drew.cell? (Z S 3)=some (.bool d.v.r)/\MT.drew.cell? (Z S 4)=some (Y d.v.n):=
     ⟨(o.drew.f_ 34).trans rfl,(o.drew.f_ 35).trans rfl,e.drew.f_ 0,e.drew.f_ 1,e.drew.f_ 2,e.drew.f_ 3,e.drew.f_ 4⟩
    have q:=U (And.intro o.drew e.drew);have a6:Hid (Cs MT.drew rs.A rs.l/\Cs MT.drew ws.A ws.l):=U ⟨Sl.hF T (H [] MT).drew,Sl.hF B (H [] MT).drew⟩;refine hN (λw'=>w'.cell? (Z (w.heap.size+1+1) 34)=some (.slice rs.A rs.l.length rs.c)/\w'.cell? (Z (w.heap.size+1+1) 35)=some (.slice ws.A ws.l.length ws.c)/\w'.cell? (Z S 0)=some (Y d.id)/\w'.cell? (Z S 1)=some (Y d.f)/\w'.cell? (Z S 2)=some (Y d.op)/\w'.cell? (Z S 3)=some (.bool d.v.r)/\w'.cell? (Z S 4)=some (Y d.v.n)) 9 k_ ?_;have n:=c8;clear c8;refine iv 0 n ?_;refine iv 2 n ?_;refine iv 4 n ?_;refine iv 6 n ?_;refine iv 1 n ?_;refine iv 5 n ?_
    refine hZ 3 λy i=>?_
    go_simp
    (go_at_call 127;((with_reducible refine(rE rs.A rs.c rs.l d a6.out.1 X).mono ?_);unfold se;rintro V ax⟨aH,ce,rfl,dq,cM,D⟩))
    have bY:=And.intro ((q.out.1.hF D).f_ 34) ((q.out.1.hF D).f_ 35);clear n;have n:ax.cell? (Z (w.heap.size+1+1) 34)=some (.slice rs.A rs.l.length rs.c)/\ax.cell? (Z (w.heap.size+1+1) 35)=some (.slice ws.A ws.l.length ws.c)/\ax.cell? (Z S 0)=some (Y d.id)/\ax.cell? (Z S 1)=some (Y d.f)/\ax.cell? (Z S 2)=some (Y d.op)/\ax.cell? (Z S 3)=some (.bool d.v.r)/\ax.cell? (Z S 4)=some (Y d.v.n):=⟨((q.out.1.hF D).f_ 34).trans rfl,((q.out.1.hF D).f_ 35).trans rfl,(q.out.2.hF D).f_ 0,(q.out.2.hF D).f_ 1,(q.out.2.hF D).f_ 2,(q.out.2.hF D).f_ 3,(q.out.2.hF D).f_ 4⟩;clear bY
    refine h4 i n λn=>?_
    clear i y;refine iv 8 n ?_
    refine hZ 7 λy i=>?_
    go_simp
    (go_at_call 127;((with_reducible refine(rE ws.A ws.c ws.l d (Cs.hF a6.out.2 D) X).mono ?_);unfold se;rintro V N⟨aX,cI,rfl,cr,dz,R⟩))
    clear n;have E:=D.trans R;have n:N.cell? (Z (w.heap.size+1+1) 34)=some (.slice rs.A rs.l.length rs.c)/\N.cell? (Z (w.heap.size+1+1) 35)=some (.slice ws.A ws.l.length ws.c)/\N.cell? (Z S 0)=some (Y d.id)/\N.cell? (Z S 1)=some (Y d.f)/\N.cell? (Z S 2)=some (Y d.op)/\N.cell? (Z S 3)=some (.bool d.v.r)/\N.cell? (Z S 4)=some (Y d.v.n):=⟨((q.out.1.hF E).f_ 34).trans rfl,((q.out.1.hF E).f_ 35).trans rfl,(q.out.2.hF E).f_ 0,(q.out.2.hF E).f_ 1,(q.out.2.hF E).f_ 2,(q.out.2.hF E).f_ 3,(q.out.2.hF E).f_ 4⟩;have f34:=(q.out.1.hF E).hG 34;have f35:=(q.out.1.hF E).hG 35;have dC:=n.1;have z35:=n.2.1
    refine h4 i n λn=>?_
    clear i y
    refine hZ 9 λy i=>?_
    go_simp;refine i.out _ _ (λh=>FU h O) ?_;clear i y
    try simp only[a_]
    refine hZ 10 λy i=>?_
    go_simp;refine i.out _ _ (λh=>FU h O) ?_;clear i y
    try simp only[a_]
    refine hZ 11 λy i=>?_
    go_simp;refine i.out _ _ (λh=>FU h O) ?_;clear i y
    try simp only[a_]
    refine hM k_ ?_ _;go_wp2;go_roundw
    case rel=>
     have F:=((H [w.heap.size+1+1] N).setCell (p:=(Z (w.heap.size+1+1) 34)) (.inl J) (.slice aH (jJ rs.l d).length ce)).setCell (p:=(Z (w.heap.size+1+1) 35)) (.inl J) (.slice aX (jJ ws.l d).length cI);have ct:=q.out.1.hF E;have L:I [] MT N:=((H [] MT).drew).trans E;have bF:=(u.trans L).hJ F p_;exact⟨s+1,a,⟨aH,ce,jJ rs.l d⟩,⟨aX,cI,jJ ws.l d⟩,X,gn,(b.hF L).gr F sd_,(ct.hV 34 _).hV 35 _,(k.hF L).gr F sd_,(r.hF L).gr F sd_,(j.hF L).it ct Ek F,Sl.it (Sl.hF dq R) ct O F,Sl.it cr ct O F,cM,dz,by rw[aA.out,aK.out,y8 bn.out,bh.out],by rw[bh.out];exact(x0 z bn.out).mono X,G_ (qd _ _) bJ,G_ (qd _ _) di,bF⟩
    case measure=>exact mz
  .have aw:¬(s:Int)<(f.ds.l.length:Int):=X;have cj:=U (show jN t.p f.rs.l f.ws.l f.ds.l=(W.p,rs.l,ws.l) by rw[aA.out,Gb X];rfl);clear aA;replace z:=z.mono (show 1000000+s<=1001000 by have:f.ds.l.length<=1000:=db;omega);clear af hk;have du:wr.cell? (Z (w.heap.size+1+1) 34)=some (.slice rs.A rs.l.length rs.c):=(o.f_ 34).trans rfl
   have ck:=U (show record t.p (hX l) f.p=(match j4 (hX l) W.p rs.l with
    |none=>none
    |some bm=>match kt (hX l) {bm with nw:=bm.nw++hX f.nw.l} ws.l with
     |none=>none
     |some bd=>some {bd with h8:=bd.h8++f.h8.l}) by
    show(match j4 (hX l) (jN t.p f.rs.l f.ws.l f.ds.l).1 (jN t.p f.rs.l f.ws.l f.ds.l).2.1 with
     |none=>none
     |some bm=>match kt (hX l) {bm with nw:=bm.nw++hX f.nw.l} (jN t.p f.rs.l f.ws.l f.ds.l).2.2 with
      |none=>none
      |some bd=>some {bd with h8:=bd.h8++f.h8.l})=_
    rw[cj.out])
   clear cj;go_wp2;clear aw
   go_loopw [46] (λan wr=>∃(s:Nat) (a:Tk),s<=rs.l.length/\an=Y s/\Bk wr (w.heap.size) 53 a.g_/\Bk wr (w.heap.size+1+1) 134 ({f with rs:=rs,ws:=ws}:Ef).g_/\Bk wr (w.heap.size+1) 35 #[.slice A l.length c]/\Bk wr (w.heap.size+1+1+1) 53 lA/\lh wr a/\Cs wr rs.A rs.l/\Cs wr ws.A ws.l/\j4 (hX l) W.p rs.l=j4 (hX l) a.p (rs.l.drop s)/\a.p.sm (1001000+2*s)/\I [] w wr) (λan _=>rs.l.length-(intOf an).toNat)
   case atStart=>exact⟨0,W,N_ _,rfl,b,o,k,r,b0,T,B,rfl,z.mono X,u⟩
   case round=>
    clear b o k r b0 T B u du z;obtain⟨s,a,hk,rfl,b,o,k,r,j,T,B,aW,z,u⟩:=hrel;have aA:=U aW;clear aW
    by_cases af:s<rs.l.length
    .have aw:(s:Int)<(rs.l.length:Int):=X;have bo:a.ds.l.length<=1000000000:=G_ z.ds X
     have bN:a.nw.l.length<=1000000000:=by have:=z.nw;rw[show a.p.nw=hX a.nw.l from rfl,h7]at this;omega
     have bU:a.ws.l.length<=1000000000:=G_ z.ws X;have dh:a.rs.l.length<=1000000000:=G_ z.rs X;have dk:a.p.sm 100000000:=z.mono X;obtain⟨bd,off,aZ,bj,bz,bP,bQ⟩:=Cs.at_ T af;rw[aZ];have bu:=U aZ;have aK:=U (show rs.l.drop s=rs.l[s]::rs.l.drop (s+1) from Q_ af);generalize rs.l[s]=x at*;have aC:=(H [] wr).alloc (.cells #[Y x.id,Y x.f,.bool x.v.r,Y x.v.n] 116);have de:w.heap.size+1+1+1<wr.heap.size:=r.lt;have e:=P_ wr 116 #[Y x.id,Y x.f,.bool x.v.r,Y x.v.n]
     go_upto_region 13 with fail
     replace b:=b.hF aC;replace o:=o.hF aC;replace k:=k.hF aC;replace r:=r.hF aC;replace j:=j.hF aC;replace T:=Cs.hF T aC;replace B:=Cs.hF B aC;replace u:=u.trans aC;clear aC bj bz bP bQ aZ;obtain⟨cG,c9⟩:=nm_ (wr.alloc (.cells #[Y x.id,Y x.f,.bool x.v.r,Y x.v.n] 116));rw[<-c9]at b o k r j T B e u |-;clear c9;generalize wr.heap.size=S at*;have MV:=e.f_ 0;have MU:=e.f_ 1;have au:=e.f_ 2;have aP:=e.f_ 3
     go_cut [74] (λbv a7=>bv=.bool (nh a.p x)/\I [] cG a7)
     case first=>
      clear o k r T B u aA aK ck z ht he hs hes bu au aP dk bo;have bD:=(yg (hX a.nw.l) x.id).1;have df:=(ry a.ws.l x.id x.f).1;have bl:=(ry a.rs.l x.id x.f).1;have aO:=U (show nh a.p x=decide (0<=jr (hX a.nw.l) x.id∨0<=cat a.ws.l x.id x.f∨0<=cat a.rs.l x.id x.f) from rfl);have bq:cG.cell? (Z w.heap.size 37)=some (.slice a.rs.A a.rs.l.length a.rs.c):=(b.f_ 37).trans rfl;have bW:cG.cell? (Z w.heap.size 38)=some (.slice a.ws.A a.ws.l.length a.ws.c):=(b.f_ 38).trans rfl;generalize dj:jr (hX a.nw.l) x.id=am at*;generalize cS:cat a.ws.l x.id x.f=b7 at*;generalize cy:cat a.rs.l x.id x.f=xr at*;have cn:=U dj;have cF:=U cS;have co:=U cy;clear dj cS cy;clear bD df bl
      by_cases bG:am<0
      .by_cases aT:b7<0
       .by_cases aF:xr<0
        .skip;have bi:=U (show nh a.p x=false by rw[aO.out];exact GX X);clear aO;have aI:(0<=am)=False:=p_;have bL:(0<=b7)=False:=p_;have bt:(0<=xr)=False:=p_;clear bG aT aF;refine wp_region_lit ?_;refine kV b underlying53 ?_
         try simp only[a_]
         refine ir rfl gs_ ?_
         try simp only[a_]
         refine ir rfl gs_ ?_
         try simp only[a_]
         refine nA rfl (λy i=>?_);go_simp
         (go_at_call 128;((with_reducible refine(oV a x.id _ j bN).mono ?_);rintro V bX⟨rfl,aC⟩;rw[cn.out];replace b:=b.hF aC;replace e:=e.hF aC;replace j:=j.hF aC;replace MV:=e.f_ 0;replace MU:=e.f_ 1;replace bq:bX.cell? (Z w.heap.size 37)=some (.slice a.rs.A a.rs.l.length a.rs.c):=(b.f_ 37).trans rfl;replace bW:bX.cell? (Z w.heap.size 38)=some (.slice a.ws.A a.ws.l.length a.ws.c):=(b.f_ 38).trans rfl))
         refine i.out _ _ ?_;clear i y
         try simp only[a_]
         refine ir (v:=.bool false) rfl gs_ ?_
         try simp only[a_]
         refine ir (v:=.bool false) rfl gs_ ?_
         try simp only[a_]
         refine ie rfl rfl rfl rfl rfl gs_ ?_
         try simp only[a_]
         refine ie rfl rfl rfl rfl rfl gs_ ?_
         try simp only[a_]
         refine ie rfl rfl rfl rfl rfl gs_ ?_
         try simp only[a_]
         refine ie rfl rfl rfl rfl rfl gs_ ?_
         try simp only[a_]
         refine ie rfl rfl rfl rfl rfl gs_ ?_
         try simp only[a_]
         refine ie rfl rfl rfl rfl rfl gs_ ?_
         try simp only[a_]
         refine nz rfl rfl rfl rfl rfl (λy i=>?_);go_simp
         (go_at_call_of 129 (Value.slice a.ws.A a.ws.l.length a.ws.c);((with_reducible refine(lQ a.ws.A a.ws.c a.ws.l x.id x.f _ j.ws bU).mono ?_);rintro V aS⟨rfl,aM⟩;rw[cF.out];replace b:=b.hF aM;replace e:=e.hF aM;replace j:=j.hF aM;replace MV:=e.f_ 0;replace MU:=e.f_ 1;replace bq:aS.cell? (Z w.heap.size 37)=some (.slice a.rs.A a.rs.l.length a.rs.c):=(b.f_ 37).trans rfl;replace bW:aS.cell? (Z w.heap.size 38)=some (.slice a.ws.A a.ws.l.length a.ws.c):=(b.f_ 38).trans rfl))
         refine i.out _ _ ?_;clear i y
         try simp only[a_]
         refine ie (v:=.bool false) rfl rfl rfl rfl rfl gs_ ?_
         try simp only[a_]
         refine ir (v:=.bool false) rfl gs_ ?_
         try simp only[a_]
         refine ir (v:=.bool false) rfl gs_ ?_
         try simp only[a_]
         refine ie rfl rfl rfl rfl rfl gs_ ?_
         try simp only[a_]
         refine ie rfl rfl rfl rfl rfl gs_ ?_
         try simp only[a_]
         refine ie rfl rfl rfl rfl rfl gs_ ?_
         try simp only[a_]
         refine ie rfl rfl rfl rfl rfl gs_ ?_
         try simp only[a_]
         refine ie rfl rfl rfl rfl rfl gs_ ?_
         try simp only[a_]
         refine ie rfl rfl rfl rfl rfl gs_ ?_
         try simp only[a_]
         refine nz rfl rfl rfl rfl rfl (λy i=>?_);go_simp
         (go_at_call_of 129 (Value.slice a.rs.A a.rs.l.length a.rs.c);((with_reducible refine(lQ a.rs.A a.rs.c a.rs.l x.id x.f _ j.rs dh).mono ?_);rintro V dR⟨rfl,L⟩;rw[co.out]))
         refine i.out _ _ ?_;clear i y
         try simp only[a_]
         refine ie (v:=.bool false) rfl rfl rfl rfl rfl gs_ ?_
         try simp only[a_]
         refine ir (v:=.bool false) rfl gs_ ?_;exact Ll
        .skip;have bi:=U (show nh a.p x=true by rw[aO.out];exact Gd X);clear aO;have aI:(0<=am)=False:=p_;have bL:(0<=b7)=False:=p_;have bt:(0<=xr)=True:=p_;clear bG aT aF;refine wp_region_lit ?_;refine kV b underlying53 ?_
         try simp only[a_]
         refine ir rfl gs_ ?_
         try simp only[a_]
         refine ir rfl gs_ ?_
         try simp only[a_]
         refine nA rfl (λy i=>?_);go_simp
         (go_at_call 128;((with_reducible refine(oV a x.id _ j bN).mono ?_);rintro V bX⟨rfl,aC⟩;rw[cn.out];replace b:=b.hF aC;replace e:=e.hF aC;replace j:=j.hF aC;replace MV:=e.f_ 0;replace MU:=e.f_ 1;replace bq:bX.cell? (Z w.heap.size 37)=some (.slice a.rs.A a.rs.l.length a.rs.c):=(b.f_ 37).trans rfl;replace bW:bX.cell? (Z w.heap.size 38)=some (.slice a.ws.A a.ws.l.length a.ws.c):=(b.f_ 38).trans rfl))
         refine i.out _ _ ?_;clear i y
         try simp only[a_]
         refine ir (v:=.bool false) rfl gs_ ?_
         try simp only[a_]
         refine ir (v:=.bool false) rfl gs_ ?_
         try simp only[a_]
         refine ie rfl rfl rfl rfl rfl gs_ ?_
         try simp only[a_]
         refine ie rfl rfl rfl rfl rfl gs_ ?_
         try simp only[a_]
         refine ie rfl rfl rfl rfl rfl gs_ ?_
         try simp only[a_]
         refine ie rfl rfl rfl rfl rfl gs_ ?_
         try simp only[a_]
         refine ie rfl rfl rfl rfl rfl gs_ ?_
         try simp only[a_]
         refine ie rfl rfl rfl rfl rfl gs_ ?_
         try simp only[a_]
         refine nz rfl rfl rfl rfl rfl (λy i=>?_);go_simp
         (go_at_call_of 129 (Value.slice a.ws.A a.ws.l.length a.ws.c);((with_reducible refine(lQ a.ws.A a.ws.c a.ws.l x.id x.f _ j.ws bU).mono ?_);rintro V aS⟨rfl,aM⟩;rw[cF.out];replace b:=b.hF aM;replace e:=e.hF aM;replace j:=j.hF aM;replace MV:=e.f_ 0;replace MU:=e.f_ 1;replace bq:aS.cell? (Z w.heap.size 37)=some (.slice a.rs.A a.rs.l.length a.rs.c):=(b.f_ 37).trans rfl;replace bW:aS.cell? (Z w.heap.size 38)=some (.slice a.ws.A a.ws.l.length a.ws.c):=(b.f_ 38).trans rfl))
         refine i.out _ _ ?_;clear i y
         try simp only[a_]
         refine ie (v:=.bool false) rfl rfl rfl rfl rfl gs_ ?_
         try simp only[a_]
         refine ir (v:=.bool false) rfl gs_ ?_
         try simp only[a_]
         refine ir (v:=.bool false) rfl gs_ ?_
         try simp only[a_]
         refine ie rfl rfl rfl rfl rfl gs_ ?_
         try simp only[a_]
         refine ie rfl rfl rfl rfl rfl gs_ ?_
         try simp only[a_]
         refine ie rfl rfl rfl rfl rfl gs_ ?_
         try simp only[a_]
         refine ie rfl rfl rfl rfl rfl gs_ ?_
         try simp only[a_]
         refine ie rfl rfl rfl rfl rfl gs_ ?_
         try simp only[a_]
         refine ie rfl rfl rfl rfl rfl gs_ ?_
         try simp only[a_]
         refine nz rfl rfl rfl rfl rfl (λy i=>?_);go_simp
         (go_at_call_of 129 (Value.slice a.rs.A a.rs.l.length a.rs.c);((with_reducible refine(lQ a.rs.A a.rs.c a.rs.l x.id x.f _ j.rs dh).mono ?_);rintro V dR⟨rfl,L⟩;rw[co.out]))
         refine i.out _ _ ?_;clear i y
         try simp only[a_]
         refine ie (v:=.bool true) rfl rfl rfl rfl rfl gs_ ?_
         try simp only[a_]
         refine ir (v:=.bool true) rfl gs_ ?_;exact Ll
       .skip;have bi:=U (show nh a.p x=true by rw[aO.out];exact Gd X);clear aO;have aI:(0<=am)=False:=p_;have bL:(0<=b7)=True:=p_;clear bG aT;refine wp_region_lit ?_;refine kV b underlying53 ?_
        try simp only[a_]
        refine ir rfl gs_ ?_
        try simp only[a_]
        refine ir rfl gs_ ?_
        try simp only[a_]
        refine nA rfl (λy i=>?_);go_simp
        (go_at_call 128;((with_reducible refine(oV a x.id _ j bN).mono ?_);rintro V bX⟨rfl,aC⟩;rw[cn.out];replace b:=b.hF aC;replace e:=e.hF aC;replace j:=j.hF aC;replace MV:=e.f_ 0;replace MU:=e.f_ 1;replace bq:bX.cell? (Z w.heap.size 37)=some (.slice a.rs.A a.rs.l.length a.rs.c):=(b.f_ 37).trans rfl;replace bW:bX.cell? (Z w.heap.size 38)=some (.slice a.ws.A a.ws.l.length a.ws.c):=(b.f_ 38).trans rfl))
        refine i.out _ _ ?_;clear i y
        try simp only[a_]
        refine ir (v:=.bool false) rfl gs_ ?_
        try simp only[a_]
        refine ir (v:=.bool false) rfl gs_ ?_
        try simp only[a_]
        refine ie rfl rfl rfl rfl rfl gs_ ?_
        try simp only[a_]
        refine ie rfl rfl rfl rfl rfl gs_ ?_
        try simp only[a_]
        refine ie rfl rfl rfl rfl rfl gs_ ?_
        try simp only[a_]
        refine ie rfl rfl rfl rfl rfl gs_ ?_
        try simp only[a_]
        refine ie rfl rfl rfl rfl rfl gs_ ?_
        try simp only[a_]
        refine ie rfl rfl rfl rfl rfl gs_ ?_
        try simp only[a_]
        refine nz rfl rfl rfl rfl rfl (λy i=>?_);go_simp
        (go_at_call_of 129 (Value.slice a.ws.A a.ws.l.length a.ws.c);((with_reducible refine(lQ a.ws.A a.ws.c a.ws.l x.id x.f _ j.ws bU).mono ?_);rintro V aS⟨rfl,aM⟩;rw[cF.out];replace b:=b.hF aM;replace e:=e.hF aM;replace j:=j.hF aM;replace MV:=e.f_ 0;replace MU:=e.f_ 1;replace bq:aS.cell? (Z w.heap.size 37)=some (.slice a.rs.A a.rs.l.length a.rs.c):=(b.f_ 37).trans rfl;replace bW:aS.cell? (Z w.heap.size 38)=some (.slice a.ws.A a.ws.l.length a.ws.c):=(b.f_ 38).trans rfl))
        refine i.out _ _ ?_;clear i y
        try simp only[a_]
        refine ie (v:=.bool true) rfl rfl rfl rfl rfl gs_ ?_
        try simp only[a_]
        obtain⟨bZ,E⟩:=nm_ (Value.bool true);refine ir (v:=bZ) rfl (by(subst E;first|(go_simp;done)|(go_simp;with_reducible rfl))) ?_
        try simp only[a_]
        refine ir (v:=bZ) rfl (by(subst E;first|(go_simp;done)|(go_simp;with_reducible rfl))) ?_
        try simp only[a_]
        refine iI (b':=true) rfl rfl rfl (by rw[E];rfl) rfl ?_
        try simp only[a_]
        refine iI (b':=true) rfl rfl rfl (by rw[E];rfl) rfl ?_
        try simp only[a_]
        refine iI (b':=true) rfl rfl rfl (by rw[E];rfl) rfl ?_
        try simp only[a_]
        refine iI (b':=true) rfl rfl rfl (by rw[E];rfl) rfl ?_
        try simp only[a_]
        refine iI (b':=true) rfl rfl rfl (by rw[E];rfl) rfl ?_
        try simp only[a_]
        refine iI (b':=true) rfl rfl rfl (by rw[E];rfl) rfl ?_
        try simp only[a_]
        refine iI (b':=true) rfl rfl rfl (by rw[E];rfl) rfl ?_
        try simp only[a_]
        refine iI (b':=true) rfl rfl rfl (by rw[E];rfl) rfl ?_
        try simp only[a_]
        refine ir (v:=.bool true) rfl (by(subst E;first|(go_simp;done)|(go_simp;with_reducible rfl))) ?_
        try simp only[a_]
        refine wpList_nil ?_;go_wp2;go_meet;exact⟨jc bi.out.symm,aC.trans aM⟩
      .skip;have bi:=U (show nh a.p x=true by rw[aO.out];exact Gd X);clear aO;have aI:(0<=am)=True:=p_;clear bG;refine wp_region_lit ?_;refine kV b underlying53 ?_
       try simp only[a_]
       refine ir rfl gs_ ?_
       try simp only[a_]
       refine ir rfl gs_ ?_
       try simp only[a_]
       refine nA rfl (λy i=>?_);go_simp
       (go_at_call 128;((with_reducible refine(oV a x.id _ j bN).mono ?_);rintro V bX⟨rfl,aC⟩;rw[cn.out];replace b:=b.hF aC;replace e:=e.hF aC;replace j:=j.hF aC;replace MV:=e.f_ 0;replace MU:=e.f_ 1;replace bq:bX.cell? (Z w.heap.size 37)=some (.slice a.rs.A a.rs.l.length a.rs.c):=(b.f_ 37).trans rfl;replace bW:bX.cell? (Z w.heap.size 38)=some (.slice a.ws.A a.ws.l.length a.ws.c):=(b.f_ 38).trans rfl))
       refine i.out _ _ ?_;clear i y
       try simp only[a_]
       refine ir (v:=.bool true) rfl gs_ ?_
       try simp only[a_]
       obtain⟨bZ,E⟩:=nm_ (Value.bool true);refine ir (v:=bZ) rfl (by(subst E;first|(go_simp;done)|(go_simp;with_reducible rfl))) ?_
       try simp only[a_]
       refine iI (b':=true) rfl rfl rfl (by rw[E];rfl) rfl ?_
       try simp only[a_]
       refine iI (b':=true) rfl rfl rfl (by rw[E];rfl) rfl ?_
       try simp only[a_]
       refine iI (b':=true) rfl rfl rfl (by rw[E];rfl) rfl ?_
       try simp only[a_]
       refine iI (b':=true) rfl rfl rfl (by rw[E];rfl) rfl ?_
       try simp only[a_]
       refine iI (b':=true) rfl rfl rfl (by rw[E];rfl) rfl ?_
       try simp only[a_]
       refine iI (b':=true) rfl rfl rfl (by rw[E];rfl) rfl ?_
       try simp only[a_]
       refine iI (b':=true) rfl rfl rfl (by rw[E];rfl) rfl ?_
       try simp only[a_]
       refine iI (b':=true) rfl rfl rfl (by rw[E];rfl) rfl ?_
       try simp only[a_]
       refine ir (v:=bZ) rfl (by(subst E;first|(go_simp;done)|(go_simp;with_reducible rfl))) ?_
       try simp only[a_]
       refine ir (v:=bZ) rfl (by(subst E;first|(go_simp;done)|(go_simp;with_reducible rfl))) ?_
       try simp only[a_]
       refine iI (b':=true) rfl rfl rfl (by rw[E];rfl) rfl ?_
       try simp only[a_]
       refine iI (b':=true) rfl rfl rfl (by rw[E];rfl) rfl ?_
       try simp only[a_]
       refine iI (b':=true) rfl rfl rfl (by rw[E];rfl) rfl ?_
       try simp only[a_]
       refine iI (b':=true) rfl rfl rfl (by rw[E];rfl) rfl ?_
       try simp only[a_]
       refine iI (b':=true) rfl rfl rfl (by rw[E];rfl) rfl ?_
       try simp only[a_]
       refine iI (b':=true) rfl rfl rfl (by rw[E];rfl) rfl ?_
       try simp only[a_]
       refine iI (b':=true) rfl rfl rfl (by rw[E];rfl) rfl ?_
       try simp only[a_]
       refine iI (b':=true) rfl rfl rfl (by rw[E];rfl) rfl ?_
       try simp only[a_]
       refine ir (v:=.bool true) rfl (by(subst E;first|(go_simp;done)|(go_simp;with_reducible rfl))) ?_
       try simp only[a_]
       refine wpList_nil ?_;go_wp2;go_meet;exact⟨jc bi.out.symm,aC⟩
     case rest=>
      obtain⟨rfl,E⟩:=hcut;replace b:=b.hF E;replace o:=o.hF E;replace k:=k.hF E;replace r:=r.hF E;replace e:=e.hF E;replace j:=j.hF E;replace T:=Cs.hF T E;replace B:=Cs.hF B E;replace u:=u.trans E;clear E MV MU au aP
      cases bx:nh a.p x with
      |true=>
       have aO:=U bx;clear bx;go_wp2;go_roundw
       case rel=>exact⟨s+1,a,X,gn,b,o,k,r,j,(by have q:=T;rw[bu.out]at q;exact q),B,by rw[aA.out,aK.out];exact xm aO.out,z.mono X,u⟩
       case measure=>exact mz
      |false=>
       have aO:=U bx;clear bx;have MV:=e.f_ 0;have MU:=e.f_ 1;have au:=e.f_ 2;have aP:=e.f_ 3;have v0:=k.f_ 0;have bB:=xJ a.ds.l x.id x.f;obtain⟨g,aY⟩:=mn_ (pe a.ds.l x.id x.f);rw[aY]at bB;have av:=U aY;clear aY
       rcases s9 g bB.1 with rfl|⟨m,rfl⟩
       .skip;have HM:=U (y7 (view:=hX l) (l:=rs.l.drop (s+1)) aO.out (show pe a.p.ds x.id x.f<0 by show pe a.ds.l x.id x.f<0;rw[av.out];decide))
        go_upto_region 18 with(first|(refine kV b underlying53 ?_)|(go_at_call 130;((with_reducible refine(l0 a x.id x.f j bo).mono ?_);rintro V bX⟨rfl,aC⟩;rw[av.out];replace b:=b.hF aC;replace e:=e.hF aC;replace k:=k.hF aC;replace MV:=e.f_ 0;replace MU:=e.f_ 1;replace au:=e.f_ 2;replace aP:=e.f_ 3;replace v0:=k.f_ 0)))
        have bq:bX.cell? (Z w.heap.size 37)=some (.slice a.rs.A a.rs.l.length a.rs.c):=(b.f_ 37).trans rfl
        go_wp2_with ((go_at_call 98;((with_reducible refine(ri a.rs.A a.rs.c a.rs.l x (j.hF aC).rs dh).mono ?_);unfold se;rintro V ag⟨bg,bM,rfl,cp,et,C⟩;replace b:=b.hF C;have bq:=b.f_ 37;have cU:=b.hG 37)))
        have K:=aC.trans C;have F:=(H [w.heap.size] ag).setCell (p:=(Z w.heap.size 37)) (.inl J) (.slice bg (kz a.rs.l x).length bM);have cQ:lh _ ({a with rs:=⟨bg,bM,kz a.rs.l x⟩}:Tk):=((λq:lh ag a=>(⟨q.gs,cp,q.ws,q.nw,q.nr,q.ds,q.h8,q.yi,et,q.vp,q.td,q.r8,q.pN⟩:lh ag ({a with rs:=⟨bg,bM,kz a.rs.l x⟩}:Tk))) (j.hF K)).it b sS F;go_roundw
        case rel=>exact⟨s+1,({a with rs:=⟨bg,bM,kz a.rs.l x⟩}:Tk),X,gn,b.hV 37 _,(o.hF K).gr F sd_,(k.hF C).gr F sd_,(r.hF K).gr F sd_,cQ,(by have q:=Cs.it (Cs.hF T K) b O F;rw[bu.out]at q;exact q),Cs.it (Cs.hF B K) b O F,by rw[aA.out,aK.out];exact HM.out,(x8 (view:=[]) z (vK aO.out (show pe a.p.ds x.id x.f<0 by show pe a.ds.l x.id x.f<0;rw[av.out];decide))).mono X,(u.trans K).hJ F J⟩
        case measure=>exact mz
       .have cT:=U (show 0<=pe a.p.ds x.id x.f by show 0<=pe a.ds.l x.id x.f;rw[av.out];omega)
        cases bI:jw a.p (hX l) x.id x.f with
        |none=>
         have bE:=U bI;clear bI;have a2:Hid (record t.p (hX l) f.p=none):=U (by rw[ck.out,aA.out,aK.out,AN aO.out cT.out bE.out])
         go_upto_region 15 with(first|(refine kV b underlying53 ?_)|(go_at_call 130;((with_reducible refine(l0 a x.id x.f j bo).mono ?_);rintro V bX⟨rfl,aC⟩;rw[av.out];replace b:=b.hF aC;replace e:=e.hF aC;replace k:=k.hF aC;replace MV:=e.f_ 0;replace MU:=e.f_ 1;replace au:=e.f_ 2;replace aP:=e.f_ 3;replace v0:=k.f_ 0)))
         go_wp2_with (first|(refine kV b underlying53 ?_)|(refine kV k underlying35 ?_)|(go_at_call 131;((with_reducible refine(uo a A c l x.id x.f (j.hF aC) (h.hF (u.trans aC)) dk hl bE.out).mono ?_);unfold nj;rintro V ag⟨t3,rfl,cJ,bO,C⟩;replace b:=b.hF C))|(refine kS (t3.g_) b (Tk.one _) ?_;intro ad a8 M)|(refine kV a8 underlying53 ?_)|(refine kS (t3.g_) (((r.hF aC).hF C).gr M sd_) (Tk.one _) ?_;intro ae aB G))
         have Q:=(((u.trans aC).trans C).hJ M J).hJ G p_;exact Lq
        |some P=>
         have bE:=U bI;clear bI
         go_upto_region 15 with(first|(refine kV b underlying53 ?_)|(go_at_call 130;((with_reducible refine(l0 a x.id x.f j bo).mono ?_);rintro V bX⟨rfl,aC⟩;rw[av.out];replace b:=b.hF aC;replace e:=e.hF aC;replace k:=k.hF aC;replace MV:=e.f_ 0;replace MU:=e.f_ 1;replace au:=e.f_ 2;replace aP:=e.f_ 3;replace v0:=k.f_ 0)))
         go_wp2_with (first|(refine kV b underlying53 ?_)|(refine kV k underlying35 ?_)|(go_at_call 131;((with_reducible refine(sY a A c l x.id x.f P (j.hF aC) (h.hF (u.trans aC)) dk hl bE.out).mono ?_);unfold nj;rintro V ag⟨t3,rfl,cJ,bO,C⟩;replace b:=b.hF C))|(refine kS (t3.g_) b (Tk.one _) ?_;intro ad a8 M))
         have K:=aC.trans C;go_roundw
         case rel=>exact⟨s+1,t3,X,gn,a8,(o.hF K).gr M sd_,(k.hF C).gr M sd_,(r.hF K).gr M sd_,cJ.it b sS M,(by have q:=Cs.it (Cs.hF T K) b O M;rw[bu.out]at q;exact q),Cs.it (Cs.hF B K) b O M,by rw[aA.out,aK.out,y6 aO.out cT.out bE.out,bO],by rw[bO];exact(pQ z bE.out).mono X,(u.trans K).hJ M J⟩
         case measure=>exact mz
    .have aw:¬(s:Int)<(rs.l.length:Int):=X;have b8:=U (show j4 (hX l) W.p rs.l=some a.p by rw[aA.out,Gb X];rfl);clear aA;replace z:=z.mono (show 1001000+2*s<=1003000 by omega);clear af hk
     have ca:a.nw.l.length<=1003000:=by have:=z.nw;rwa [show a.p.nw=hX a.nw.l from rfl,h7]at this
     have b6:f.nw.l.length<=1000:=by have:=hes.nw;rwa [show f.p.nw=hX f.nw.l from rfl,h7]at this
     have b5:f.h8.l.length<=1000:=hes.h8
     go_wp2_with fail
     clear aw;obtain⟨dn,c7,cZ,c3,c6⟩:=info_parts infoOb;have L:I [] wr wr.drew:=(H [] wr).drew;have bK:Sl wr.drew 56 2 a.nw.A a.nw.l.length (iV a.nw.l):=Sl.hF j.nw L;have hbs:wr.heap.size<=wr.drew.heap.size:=H_ _;refine hN (λw'=>w'.cell? (Z w.heap.size 39)=some (.slice a.nw.A a.nw.l.length a.nw.c)/\w'.cell? (Z (w.heap.size+1+1) 36)=some (.slice f.nw.A f.nw.l.length f.nw.c)) 7 k_ ?_
     refine m5 ⟨((b.hF L).f_ 39).trans rfl,((o.hF L).f_ 36).trans rfl⟩ λn=>?_
     refine iv 0 n ?_;refine iv 3 n ?_;refine iv 1 n ?_;refine iv 4 n ?_
     refine hZ 2 λy i=>?_
     refine oo rfl (.const (n_)) (.tmp 102) 33 rfl (wr.heap.size) 56 dn _ 2 32 underlying33 c7 cZ c3 c6 rfl O O none 0 0 [] rfl (iT _ _ _ _) a.nw.A a.nw.l.length a.nw.c _ r_ bK (jT _) X hbs ?_;intro aH aE ax cw aV;simp only[W_,FY]at cw;rw[W_];have D:I [] wr ax:=aV.gr [] wr (H_ _) L;clear n;have n:ax.cell? (Z w.heap.size 39)=some (.slice a.nw.A a.nw.l.length a.nw.c)/\ax.cell? (Z (w.heap.size+1+1) 36)=some (.slice f.nw.A f.nw.l.length f.nw.c):=⟨((b.hF D).f_ 39).trans rfl,((o.hF D).f_ 36).trans rfl⟩;have bT:Sl ax 56 2 f.nw.A f.nw.l.length (iV f.nw.l):=(he.hF (u.trans D)).nw
     refine h4 i n λn=>?_
     clear i y
     refine hZ 5 λy i=>?_
     refine oo rfl (.tmp 103) (.tmp 105) 33 rfl (wr.heap.size) 56 dn _ 2 32 underlying33 c7 cZ c3 c6 rfl O O aH a.nw.l.length aE _ r_ cw f.nw.A f.nw.l.length f.nw.c _ r_ bT (jT _) X D.size ?_;intro aX E N b9 ap;have R:I [] wr N:=ap.gr [] wr (H_ _) D;clear n;have n:N.cell? (Z w.heap.size 39)=some (.slice a.nw.A a.nw.l.length a.nw.c)/\N.cell? (Z (w.heap.size+1+1) 36)=some (.slice f.nw.A f.nw.l.length f.nw.c):=⟨((b.hF R).f_ 39).trans rfl,((o.hF R).f_ 36).trans rfl⟩;have cR:=n.1;have cK:=(b.hF R).hG 39
     refine h4 i n λn=>?_
     clear i y
     refine hZ 6 λy i=>?_
     go_simp
     refine h4 i n λn=>?_
     clear i y
     refine hZ 7 λy i=>?_
     go_simp;refine i.out _ _ (λh=>FU h O) ?_;clear i y
     try simp only[a_]
     refine hM k_ ?_ _;obtain⟨tn,cv⟩:=nm_ ({a with nw:=⟨aX,E,a.nw.l++f.nw.l⟩});have iN:(a.nw.l++f.nw.l).length=a.nw.l.length+f.nw.l.length:=J_;have az:=b.hF R;have ao:=az.hV 39 (.slice aX (a.nw.l.length+f.nw.l.length) E)
     have cb:tn.g_=a.g_.setIfInBounds 39 (.slice aX (a.nw.l.length+f.nw.l.length) E):=by rw[cv,<-iN];rfl
     rw[<-cb]at ao;have F:=(H [w.heap.size] N).setCell (p:=(Z w.heap.size 39)) (.inl J) (.slice aX (a.nw.l.length+f.nw.l.length) E);have cq:=Sl.iR b9;rw[<-iN]at cq;replace o:=(o.hF R).gr F sd_;replace k:=(k.hF R).gr F sd_;replace r:=(r.hF R).gr F sd_;replace B:=Cs.it (Cs.hF B R) az O F
     have cx:lh (N.setCell (Z w.heap.size 39) (.slice aX (a.nw.l.length+f.nw.l.length) E)) tn:=by
      have q:=j.hF R;have bN:=he.hF (u.trans R)
      have bU:Os N aX (a.nw.l++f.nw.l):=by unfold Os;rw[lP];exact cq
      have dh:lh N tn:=by rw[cv];exact⟨q.gs,q.rs,q.ws,bU,λcc hr=>(X_.1 hr).elim (q.nr cc) (bN.nr cc),q.ds,q.h8,q.yi,q.k5,q.vp,(by show(a.nw.l++f.nw.l).length<=E;rw[iN];exact iY b9),q.r8,q.pN⟩
      exact dh.it az sS F
     have cD:=U (show tn.p={a.p with nw:=a.p.nw++hX f.nw.l} by rw[cv];show({a.p with nw:=hX (a.nw.l++f.nw.l)}:i3)=_;unfold hX;rw[FV];rfl)
     have ch:tn.p.sm 1004000:=by
      rw[cD.out];exact⟨G_ z.gs O,G_ z.rs O,G_ z.ws O,(by have:=z.nw;have:=hes.nw;show(a.p.nw++f.p.nw).length<=_;rw[J_];omega),G_ z.ds O,G_ z.h8 O⟩
     replace u:=(u.trans R).hJ F J;obtain⟨bC,bV⟩:=nm_ (N.setCell (Z w.heap.size 39) (.slice aX (a.nw.l.length+f.nw.l.length) E));rw[<-bV]at ao cx o k r B u |-;clear bV;clear b az cb F cq D R cw b9 aV ap n cR cK bK bT hbs L cv j T;have b:=ao;clear ao
     have cC:Hid (record t.p (hX l) f.p=(match kt (hX l) tn.p ws.l with
      |none=>none
      |some bd=>some {bd with h8:=bd.h8++f.h8.l})):=U (by have q:=ck.out;rw[b8.out]at q;rw[cD.out];exact q)
     clear ck b8 cD;have cA:bC.cell? (Z (w.heap.size+1+1) 35)=some (.slice ws.A ws.l.length ws.c):=(o.f_ 35).trans rfl;go_wp2
     go_loopw [111] (λan wr=>∃(s:Nat) (t3:Tk),s<=ws.l.length/\an=Y s/\Bk wr (w.heap.size) 53 t3.g_/\Bk wr (w.heap.size+1+1) 134 ({f with rs:=rs,ws:=ws}:Ef).g_/\Bk wr (w.heap.size+1) 35 #[.slice A l.length c]/\Bk wr (w.heap.size+1+1+1) 53 lA/\lh wr t3/\Cs wr ws.A ws.l/\kt (hX l) tn.p ws.l=kt (hX l) t3.p (ws.l.drop s)/\t3.p.sm (1004000+3*s)/\I [] w wr) (λan _=>ws.l.length-(intOf an).toNat)
     case atStart=>exact⟨0,tn,N_ _,rfl,b,o,k,r,cx,B,rfl,ch.mono X,u⟩
     case round=>
      clear b o k r cx B u cA ch z;obtain⟨s,a,hk,rfl,b,o,k,r,j,B,aW,z,u⟩:=hrel;have aA:=U aW;clear aW
      by_cases af:s<ws.l.length
      .have aw:(s:Int)<(ws.l.length:Int):=X;have bo:a.ds.l.length<=1000000000:=G_ z.ds X
       have bN:a.nw.l.length<=1000000000:=by have:=z.nw;rw[show a.p.nw=hX a.nw.l from rfl,h7]at this;omega
       have bU:a.ws.l.length<=1000000000:=G_ z.ws X;have dh:a.rs.l.length<=1000000000:=G_ z.rs X;have dk:a.p.sm 100000000:=z.mono X;obtain⟨bd,off,aZ,bj,bz,bP,bQ⟩:=Cs.at_ B af;rw[aZ];have bu:=U aZ;have aK:=U (show ws.l.drop s=ws.l[s]::ws.l.drop (s+1) from Q_ af);generalize ws.l[s]=x at*;have aC:=(H [] wr).alloc (.cells #[Y x.id,Y x.f,.bool x.v.r,Y x.v.n] 116);have de:w.heap.size+1+1+1<wr.heap.size:=r.lt;have e:=P_ wr 116 #[Y x.id,Y x.f,.bool x.v.r,Y x.v.n]
       go_upto_region 24 with fail
       replace b:=b.hF aC;replace o:=o.hF aC;replace k:=k.hF aC;replace r:=r.hF aC;replace j:=j.hF aC;replace B:=Cs.hF B aC;replace u:=u.trans aC;clear aC bj bz bP bQ aZ;obtain⟨dw,da⟩:=nm_ (wr.alloc (.cells #[Y x.id,Y x.f,.bool x.v.r,Y x.v.n] 116));rw[<-da]at b o k r j B e u |-;clear da;generalize wr.heap.size=S at*;have MV:=e.f_ 0;have MU:=e.f_ 1;have au:=e.f_ 2;have aP:=e.f_ 3;have v0:=k.f_ 0
       cases bI:jw a.p (hX l) x.id x.f with
       |none=>
        have bE:=U bI;clear bI;have a2:Hid (record t.p (hX l) f.p=none):=U (by rw[cC.out,aA.out,aK.out,AM bE.out])
        go_wp2_with (first|(refine kV b underlying53 ?_)|(refine kV k underlying35 ?_)|(go_at_call 131;((with_reducible refine(uo a A c l x.id x.f j (h.hF u) dk hl bE.out).mono ?_);unfold nj;rintro V ag⟨t3,rfl,cJ,bO,C⟩;replace b:=b.hF C))|(refine kS (t3.g_) b (Tk.one _) ?_;intro ad a8 M)|(refine kV a8 underlying53 ?_)|(refine kS (t3.g_) ((r.hF C).gr M sd_) (Tk.one _) ?_;intro ae aB G))
        have Q:=((u.trans C).hJ M J).hJ G p_;exact Lq
       |some P=>
        have bE:=U bI;clear bI
        go_upto_region 27 with(first|(refine kV b underlying53 ?_)|(refine kV k underlying35 ?_)|(go_at_call 131;((with_reducible refine(sY a A c l x.id x.f P j (h.hF u) dk hl bE.out).mono ?_);unfold nj;rintro V ag⟨t3,rfl,cJ,bO,C⟩;replace b:=b.hF C))|(refine kS (t3.g_) b (Tk.one _) ?_;intro ad a8 M))
        replace o:=(o.hF C).gr M sd_;replace k:=(k.hF C).gr M sd_;replace r:=(r.hF C).gr M sd_;replace e:=(e.hF C).gr M sd_;replace B:=Cs.it (Cs.hF B C) b O M;replace cJ:=cJ.it b sS M;replace u:=(u.trans C).hJ M J;have ai:=U bO
        have cH:t3.p.sm (1004000+3*s+2):=by rw[bO];exact pQ z bE.out
        have r2:t3.nw.l.length<=1000000000:=by have:=cH.nw;rw[show t3.p.nw=hX t3.nw.l from rfl,h7]at this;omega
        have r3:t3.ws.l.length<=1000000000:=G_ cH.ws X;clear b C M bO MV MU au aP;have b:=a8;clear a8;have MV:=e.f_ 0;have MU:=e.f_ 1;have au:=e.f_ 2;have aP:=e.f_ 3
        go_wp2_with (first|(refine kV b underlying53 ?_)|(go_at_call 132;((with_reducible refine(rD t3 x cJ r2 r3).mono ?_);unfold tO;rintro V MT⟨t4,rfl,cQ,aR,aj⟩;replace b:=b.hF aj))|(refine kS (t4.g_) b (Tk.one _) ?_;intro ax bw D))
        go_roundw
        case rel=>exact⟨s+1,t4,X,gn,bw,(o.hF aj).gr D sd_,(k.hF aj).gr D sd_,(r.hF aj).gr D sd_,cQ.it b sS D,(by have q:=Cs.it (Cs.hF B aj) b O D;rw[bu.out]at q;exact q),by rw[aA.out,aK.out,y5 bE.out,aR,ai.out],by rw[aR];exact(ra cH x).mono X,(u.trans aj).hJ D J⟩
        case measure=>exact mz
      .have aw:¬(s:Int)<(ws.l.length:Int):=X;have cf:=U (show kt (hX l) tn.p ws.l=some a.p by rw[aA.out,Gb X];rfl);clear aA;replace z:=z.mono (show 1004000+3*s<=1007000 by omega);have dx:a.h8.l.length<=1007000:=z.h8;clear af hk
       go_wp2_with fail
       clear aw;obtain⟨dm,cY,cV,cW,cX⟩:=info_parts infoAc;have L:I [] wr wr.drew:=(H [] wr).drew;have bK:Sl wr.drew 162 3 a.h8.A a.h8.l.length ((a.h8.l).flatMap Ac.E):=Sl.hF j.h8 L;have hbs:wr.heap.size<=wr.drew.heap.size:=H_ _;refine hN (λw'=>w'.cell? (Z w.heap.size 41)=some (.slice a.h8.A a.h8.l.length a.h8.c)/\w'.cell? (Z (w.heap.size+1+1) 38)=some (.slice f.h8.A f.h8.l.length f.h8.c)) 7 k_ ?_
       refine m5 ⟨((b.hF L).f_ 41).trans rfl,((o.hF L).f_ 38).trans rfl⟩ λn=>?_
       refine iv 0 n ?_;refine iv 3 n ?_;refine iv 1 n ?_;refine iv 4 n ?_
       refine hZ 2 λy i=>?_
       refine oo rfl (.const (n_)) (.tmp 133) 36 rfl (wr.heap.size) 162 dm _ 3 24 underlying36 cY cV cW cX rfl O O none 0 0 [] rfl (iT _ _ _ _) a.h8.A a.h8.l.length a.h8.c _ r_ bK (tN) X hbs ?_;intro aH aE ax cw aV;simp only[W_,FY]at cw;rw[W_];have D:I [] wr ax:=aV.gr [] wr (H_ _) L;clear n;have n:ax.cell? (Z w.heap.size 41)=some (.slice a.h8.A a.h8.l.length a.h8.c)/\ax.cell? (Z (w.heap.size+1+1) 38)=some (.slice f.h8.A f.h8.l.length f.h8.c):=⟨((b.hF D).f_ 41).trans rfl,((o.hF D).f_ 38).trans rfl⟩;have bT:Sl ax 162 3 f.h8.A f.h8.l.length ((f.h8.l).flatMap Ac.E):=(he.hF (u.trans D)).h8
       refine h4 i n λn=>?_
       clear i y
       refine hZ 5 λy i=>?_
       refine oo rfl (.tmp 134) (.tmp 136) 36 rfl (wr.heap.size) 162 dm _ 3 24 underlying36 cY cV cW cX rfl O O aH a.h8.l.length aE _ r_ cw f.h8.A f.h8.l.length f.h8.c _ r_ bT (tN) X D.size ?_;intro aX E N b9 ap;have R:I [] wr N:=ap.gr [] wr (H_ _) D;clear n;have n:N.cell? (Z w.heap.size 41)=some (.slice a.h8.A a.h8.l.length a.h8.c)/\N.cell? (Z (w.heap.size+1+1) 38)=some (.slice f.h8.A f.h8.l.length f.h8.c):=⟨((b.hF R).f_ 41).trans rfl,((o.hF R).f_ 38).trans rfl⟩;have cR:=n.1;have cK:=(b.hF R).hG 41
       refine h4 i n λn=>?_
       clear i y
       refine hZ 6 λy i=>?_
       go_simp
       refine h4 i n λn=>?_
       clear i y
       refine hZ 7 λy i=>?_
       go_simp;refine i.out _ _ (λh=>FU h O) ?_;clear i y
       try simp only[a_]
       refine hM k_ ?_ _;obtain⟨tf,cu⟩:=nm_ ({a with h8:=⟨aX,E,a.h8.l++f.h8.l⟩});have iN:(a.h8.l++f.h8.l).length=a.h8.l.length+f.h8.l.length:=J_;have az:=b.hF R;have ao:=az.hV 41 (.slice aX (a.h8.l.length+f.h8.l.length) E)
       have cb:tf.g_=a.g_.setIfInBounds 41 (.slice aX (a.h8.l.length+f.h8.l.length) E):=by rw[cu,<-iN];rfl
       rw[<-cb]at ao;have F:=(H [w.heap.size] N).setCell (p:=(Z w.heap.size 41)) (.inl J) (.slice aX (a.h8.l.length+f.h8.l.length) E);have cq:=Sl.iR b9;rw[<-iN]at cq;replace o:=(o.hF R).gr F sd_;replace k:=(k.hF R).gr F sd_;replace r:=(r.hF R).gr F sd_;replace B:=Cs.it (Cs.hF B R) az O F
       have dg:lh (N.setCell (Z w.heap.size 41) (.slice aX (a.h8.l.length+f.h8.l.length) E)) tf:=by
        have q:=j.hF R
        have bU:As N aX (a.h8.l++f.h8.l):=by unfold As;rw[F8];exact cq
        have dh:lh N tf:=by rw[cu];exact⟨q.gs,q.rs,q.ws,q.nw,q.nr,q.ds,bU,q.yi,q.k5,q.vp,q.td,q.r8,(by show(a.h8.l++f.h8.l).length<=E;rw[iN];exact iY b9)⟩
        exact dh.it az sS F
       have bS:=U (show record t.p (hX l) f.p=some tf.p by rw[cC.out,cf.out,cu];rfl);replace u:=(u.trans R).hJ F J;obtain⟨bH,b4⟩:=nm_ (N.setCell (Z w.heap.size 41) (.slice aX (a.h8.l.length+f.h8.l.length) E));rw[<-b4]at ao dg o k r B u |-;clear b4;clear b az cb F cq D R cw b9 aV ap n cR cK bK hbs L cu j cC cf
       go_wp2_with (first|(refine kV ao underlying53 ?_)|(refine kS (tf.g_) r (Tk.one _) ?_;intro ae aB G))
       have Q:=u.hJ G p_;exact lO tf.g_ (.bool true) aB underlying53 (by rw[bS.out];exact⟨tf,rfl,Q,λP h=>by injection h with h;subst h;exact⟨dg.it r sS G,rfl⟩⟩)
def I.jM{a b c:World}(h:I [] a b)(k:I [g] b c)(f:a.heap.size<=g):I [] a c:=h.hJ k (λx e=>.inr (by rw[I_]at e;rw[e];exact f))
def wy(g:Cl):(kG rs h g).length=h.length:=by
 unfold kG;split
 .exact jW _ _
 .rfl
def ww(a:List Cl)(h:List Ob):(a.foldl (kG rs) h).length=h.length:=by
 induction a generalizing h with
 |nil=>rfl
 |cons g a b=>rw[Hf,b,wy]
def wV(t:i3)(view:List Ob):(jq t view).length<=view.length+t.nw.length:=by
 unfold jq before;rw[nX,jW]
 have:=oQ t.nw (ja (t.gs.foldl (kG t.rs) view) t.rs)
 rw[jW,ww]at this;exact this
def m7(t:Tk):∀a,a<33->t.g_[3+a]?=(iM t.pc t.r)[a]?
 |0,_=>rfl
 |1,_=>rfl
 |2,_=>rfl
 |3,_=>rfl
 |4,_=>rfl
 |5,_=>rfl
 |6,_=>rfl
 |7,_=>rfl
 |8,_=>rfl
 |9,_=>rfl
 |10,_=>rfl
 |11,_=>rfl
 |12,_=>rfl
 |13,_=>rfl
 |14,_=>rfl
 |15,_=>rfl
 |16,_=>rfl
 |17,_=>rfl
 |18,_=>rfl
 |19,_=>rfl
 |20,_=>rfl
 |21,_=>rfl
 |22,_=>rfl
 |23,_=>rfl
 |24,_=>rfl
 |25,_=>rfl
 |26,_=>rfl
 |27,_=>rfl
 |28,_=>rfl
 |29,_=>rfl
 |30,_=>rfl
 |31,_=>rfl
 |32,_=>rfl
 |n+33,h=>FU h X
def By(t:Ef):∀a,a<33->t.g_[1+a]?=(iM t.pc t.r)[a]?
 |0,_=>rfl
 |1,_=>rfl
 |2,_=>rfl
 |3,_=>rfl
 |4,_=>rfl
 |5,_=>rfl
 |6,_=>rfl
 |7,_=>rfl
 |8,_=>rfl
 |9,_=>rfl
 |10,_=>rfl
 |11,_=>rfl
 |12,_=>rfl
 |13,_=>rfl
 |14,_=>rfl
 |15,_=>rfl
 |16,_=>rfl
 |17,_=>rfl
 |18,_=>rfl
 |19,_=>rfl
 |20,_=>rfl
 |21,_=>rfl
 |22,_=>rfl
 |23,_=>rfl
 |24,_=>rfl
 |25,_=>rfl
 |26,_=>rfl
 |27,_=>rfl
 |28,_=>rfl
 |29,_=>rfl
 |30,_=>rfl
 |31,_=>rfl
 |32,_=>rfl
 |n+33,h=>FU h X
def ui(t:Tk)(pc:Int)(r:Nat->Vl):uU t.g_ 3 (iM pc r).toList=({t with pc:=pc,r:=r}:Tk).g_:=rfl
def lh.of{t t':Tk}(h:lh w t)(f:t'.gs=t.gs)(i:t'.rs=t.rs)(j:t'.ws=t.ws)(a:t'.nw=t.nw)(e:t'.ds=t.ds)(b:t'.h8=t.h8):lh w t':=
 ⟨by rw[f];exact h.gs,by rw[i];exact h.rs,by rw[j];exact h.ws,by rw[a];exact h.nw,by rw[a];exact h.nr,by rw[e];exact h.ds,by rw[b];exact h.h8,by rw[f];exact h.yi,by rw[i];exact h.k5,by rw[j];exact h.vp,by rw[a];exact h.td,by rw[e];exact h.r8,by rw[b];exact h.pN⟩
