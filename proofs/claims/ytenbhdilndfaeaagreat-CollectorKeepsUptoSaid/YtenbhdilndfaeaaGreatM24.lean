import Derived.Test.YtenbhdilndfaeaaGreatM23
set_option maxRecDepth 100000
set_option maxHeartbeats 0
set_option linter.all false
namespace Go.Proofs.YtenbhdilndfaeaaGreat
open Go.RowKit Go.Proofs.Tryz
variable{G:Prop}{w:World}{c:Cl}{l:QX}{t:TypeId}{g:Nat}{cs:Array Value}{d:Dl}(A:OA)(rs:QX)(h:QQ)(x:X1)
def IZ(h:G:=by
 obtain⟨D,cC⟩:=nm_ bV;rw[<-cC]at F ap;clear cC;obtain⟨Nr,cv⟩:=nm_ Nq;exact I1):G:=h
def I1(h:G:=by
 rw[<-cv]at F o aJ |-;clear cv
 cases aj:D.hO with
 |true=>
  have HM:Hid (P=ji):=O (by rw[ap.out];exact U_ (show D.p.hO=true from aj));have d:Nr.cell? (Z gx 81)=some (.bool true):=(F.bk.f_ 81).trans (Z_ (λq=>some (Value.bool q)) aj);clear aj;go_wp2_with (refine kP (({Ef.zero with h7:=4}:Ef).g_) o (Ef.one _) ?_;intro bw Nu am);rw[HM.out];exact rr_ ({Ef.zero with h7:=4}:Ef).g_ Nu underlying134 ⟨_,rfl,sE.nil _ _ rfl rfl rfl rfl rfl,rfl,aJ.hI am p_⟩
 |false=>
  have HM:Hid (P=D.e.p):=O (by rw[ap.out];exact T_ (show ¬D.p.hO=true by rw[show D.p.hO=D.hO from rfl,aj];decide));have d:Nr.cell? (Z gx 81)=some (.bool false):=(F.bk.f_ 81).trans (Z_ (λq=>some (Value.bool q)) aj);clear aj;go_wp2_with (first|(refine iC rfl 134 _ rfl gx 38 r_ 186 _ D.e.g_ F.bk (λj hj=>Ad D j hj) _ underlying134 rfl k_ ?_)|(refine kP (D.e.g_) o (Ef.one _) ?_;intro bw Nu am));rw[HM.out];exact rr_ D.e.g_ Nu underlying134 ⟨_,rfl,pJ F.Eq o am,rfl,aJ.hI am p_⟩):G:=h
def JS(h:G:=by
 go_wp2_with (go_at_call 92;have ap:=iW A c l hH hC (N.hF Nv) hn;rw[hv]at ap;refine ap.mono ?_;rintro e w1⟨rfl,hg1⟩;have p0:w1.cell? (Z bB 0)=some (Y pc):=((C.hF hg1).f_ 0).trans rfl;have k0:=(u.hF hg1).f_ 0);go_meet;exact⟨jd HB.out.symm,hg1⟩):G:=h
def LO(h:G:=by
 exact lW t3.g_ (.bool false) aB underlying53 (by rw[aX.out];exact⟨t3,rfl,V,λP h=>by cases h⟩)):G:=h
def LP(h:G:=by
 try simp only[a_]
 refine wpList_nil ?_;go_wp2;go_meet;exact⟨jd HB.out.symm,(M.trans aD).trans Nw⟩):G:=h
def Co(b w:World)(m:Nat)(x:X1)(a:Int)(E:Nat)(k c:Int)(n:Int)(G:kA b w m x)(q:E<16)(v:a≠5/\a≠6/\a≠7/\a≠13/\a≠14/\a≠15/\a≠17/\a≠18):
 Calls prog 121 #[q_ m,.agg #[Y a,Y (E:Int),Y k,Y c,Y n]] w (kY (.tuple #[]) (ka x.p ⟨a,E,k,c,n⟩) b m w):=by
 obtain⟨p,j,H,A,g,f,s,t⟩:=r8 G #[Y a,Y (E:Int),Y k,Y c,Y n];go_enter func121,ntmps121;go_upto_region 1 with fail;clear H A;have C:=f.f_ 0;have B:J [] p p.drew:=(F_ [] p).drew;refine hN (λw'=>(w'.cell? (Z j 0)=some (Y a)/\w'.cell? (Z j 1)=some (Y (E:Int))/\w'.cell? (Z j 2)=some (Y k)/\w'.cell? (Z j 3)=some (Y c)/\w'.cell? (Z j 4)=some (Y n))/\w'.cell? (Z m (4+E*2))=some (.bool (x.sr E).r)/\w'.cell? (Z m (4+E*2+1))=some (Y (x.sr E).n)) 10 k_ ?_;have e:=And.intro f.drew.c5 (vH (g.bk.drew) q);have W:(0:Int)<=(E:Int):=X;have V:(E:Int)<16:=X;iterate 8 refine j2 e ?_
 refine hY 8 λo i=>?_;go_simp;clear e;refine h4 i (rL f g.bk q) λe=>?_;clear i o;refine hY 9 λo i=>?_;go_simp;clear e;refine h4 i (rL f g.bk q) λe=>?_;clear i o;refine hM k_ ?_ _;obtain⟨T,aw,u,y,D,I,bH,F,S⟩:=zl g f s #[.bool (x.sr E).r,Y (x.sr E).n];rw[u,y];clear u y g f s B e;have ad:(a=5)=False:=p_;have c5:(a==5)=false:=p_;have cj:(a=6)=False:=p_;have U:(a==6)=false:=p_;have ck:(a=7)=False:=p_;have bi:(a==7)=false:=p_;have ae:(a=13)=False:=p_;have R:(a==13)=false:=p_;have af:(a=14)=False:=p_;have d:(a==14)=false:=p_;have ag:(a=15)=False:=p_;have ef:(a==15)=false:=p_;have ah:(a=17)=False:=p_;have ai:(a==17)=false:=p_;have aj:(a=18)=False:=p_;have h:(a==18)=false:=p_;have HM:Hid (ka x.p ⟨a,E,k,c,n⟩=x.p):=O (by
  obtain⟨K,M,L,N,z,l,P,Q⟩:=v;unfold ka;exact(T_ K).trans ((T_ M).trans ((T_ L).trans ((T_ N).trans ((T_ z).trans ((T_ (by simp only;omega)).trans (T_ P)))))))
 clear v;have C:=I.f_ 0;go_wp2;refine en_ ?_;rw[HM.out];exact⟨x,rfl,D,rfl,F⟩
def xA(b:World)(e:Nat)(x:X1)(i:In)(G:kA b w e x)(o:x.p.e.sm 800000)(D:0<=i.a)(F:i.a<16)(p:i.op=5∨i.op=6->0<=i.b/\i.b<16)(B:i.op=7->0<=i.n/\i.n<=1000000)(hc:i.op=13->0<=i.b/\i.b<=16/\i.b<=i.c/\i.c<=1000000)(J: -1<=x.j6)(H:x.j6<=1000000):
 Calls prog 121 #[q_ e,.agg #[Y i.op,Y i.a,Y i.b,Y i.c,Y i.n]] w (kY (.tuple #[]) (ka x.p i) b e w):=by
 obtain⟨n,s,a,c,m⟩:=i;simp only at D F p B hc |-;obtain⟨f,rfl⟩:∃k:Nat,s=k:=⟨s.toNat,X⟩;have j:f<16:=X
 by_cases u:n=5
 .subst u;obtain⟨M,E⟩:=p I;obtain⟨d,rfl⟩:∃k:Nat,a=k:=⟨a.toNat,X⟩;exact rest_5 b w e x f d c m G j X o
 by_cases y:n=6
 .subst y;obtain⟨M,E⟩:=p I;obtain⟨d,rfl⟩:∃k:Nat,a=k:=⟨a.toNat,X⟩;exact rest_6 b w e x f d c m G j X o
 by_cases v:n=7
 .subst v;obtain⟨K,L⟩:=B rfl;exact rest_7 b w e x f a c m G j K L
 by_cases z:n=13
 .subst z;obtain⟨L,c1,N,c3⟩:=hc rfl;obtain⟨d,rfl⟩:∃k:Nat,a=k:=⟨a.toNat,X⟩;obtain⟨K,rfl⟩:∃k:Nat,c=(d:Int)+(k:Int):=⟨(c-d).toNat,X⟩;exact rest_13 b w e x f d K m G X X J H j o
 by_cases q:n=14
 .subst q;exact rest_14 b w e x f a c m G j o
 by_cases l:n=15
 .subst l;exact rest_15 b w e x f a c m G j o
 by_cases C:n=17
 .subst C;exact rest_17 b w e x f a c m G j o
 by_cases r:n=18
 .subst r;exact rest_18 b w e x f a c m G j o
 exact Co b w e x n f a c m G j ⟨u,y,v,z,q,l,C,r⟩
structure Fit(i:In):Prop where
 a0:0<=i.a
 a1:i.a<16
 Fd:i.op=3∨i.op=4->0<=i.b/\i.b<16
 c4:i.op=4->0<=i.c/\i.c<16
 hH:i.op=8∨i.op=9∨i.op=10∨i.op=20->0<=i.n/\i.n<=1000000
 F2:i.op=5∨i.op=6->0<=i.b/\i.b<16
 n7:i.op=7->0<=i.n/\i.n<=1000000
 FD:i.op=13->0<=i.b/\i.b<=16/\i.b<=i.c/\i.c<=1000000
def vh{n:Int}{u:Bool}(h:mr n u=true):0<=n/\n<16:=by
 unfold mr at h;simp at h;omega
def wC{l:QS}{k:Nat}(h:k4 l k=true):Fit (l.getD k default):=by
 unfold k4 jX at h;generalize l.getD k default=x at*;obtain⟨b,B,f,c,n⟩:=x;simp only at h;split at h
 .cases h
 rename_i C;split at h
 .cases h
 rename_i p;split at h
 .cases h
 rename_i y;have d:0<=b/\b<=21:=X;simp only[H7,Gq,Bool.not_eq_true',bne_iff_ne,ne_eq,not_or,not_and,Bool.not_eq_false]at p;obtain⟨⟨r,z⟩,s⟩:=p;have m:=vh r;have o:b≠13->b≠10->0<=f/\f<16:=λi v=>vh (z ⟨i,v⟩);have q:b≠13->0<=c/\c<16:=λi=>vh (s i);have u:b=13->0<=f/\f<=4/\f<=c/\c<=64:=by
  intro a;subst a;simp at y;omega
 have j:b=7∨b=8∨b=9∨b=10∨b=20->0<=n/\n<=64:=by
  intro a;rcases a with a|a|a|a|a
  subst a;have e:(i7.getD (7:Int).toNat default).n=4:=rfl;exact Nk;subst a;have e:(i7.getD (8:Int).toNat default).n=5:=rfl;exact Nk;subst a;have e:(i7.getD (9:Int).toNat default).n=5:=rfl;exact Nk;subst a;have e:(i7.getD (10:Int).toNat default).n=5:=rfl;exact Nk;subst a;have e:(i7.getD (20:Int).toNat default).n=5:=rfl;exact Nk
 refine⟨m.1,m.2,λa=>o (by simp only at a;omega) (by simp only at a;omega),λa=>q (by simp only at a;omega),λa=>?_,λa=>o (by simp only at a;omega) (by simp only at a;omega),λa=>?_,λa=>?_⟩;have:=j (by simp only at a;omega);simp only;omega;have:=j (by simp only at a;omega);simp only;omega;have:=u a;simp only;omega
def wpList_build{P:Program}{ops:Array Oper}{rest:QZ}{o:Oper}{a:Act}{Q:Exit->Act->World->Prop}(e:o.guard=none){b:Array (Nat × Operand)}(f:o.op=.build t b)(vs:Array (Nat × Value))(i:b.map (λp=>(p.1,a.eval p.2))=vs){v:Value}(L:(Instr.build t vs).run P w=.ok v w)(h:wpList P ops Q rest (a.put o.dst v) w):wpList P ops Q (o::rest) a w:=by
 refine iv e (v:=v) ?_ h;subst i;unfold execOp;simp only[f,Sem.run_bind,Sem.run_pure,Result.andThen_ok];rw[L];rfl
def Ef.zero:Ef:=⟨0,0,jp,.nil,.nil,.nil,.nil,.nil,0,false,default⟩
def kg(jo:Sv In)(hH hC pc:Int)(r:Nat->Vl)(h:Sv Rw)(nx:Int):X1:=⟨jo,hH,hC,pc,r,h,nx,Ef.zero,false⟩
def zN(jo:Sv In)(hH hC pc:Int)(r:Nat->Vl)(h:Sv Rw)(a:Int):
 (Instr.build 186 #[(0,.agg #[.slice jo.A jo.l.length jo.c,Y hH,Y hC]),(1,.agg (iK pc r)),(2,.agg #[.slice h.A h.l.length h.c]),(3,Y a)]).run prog w=.ok (.agg (kg jo hH hC pc r h a).g_) w:=by kernel_rfl
def w5(P:p7)(w:World)(e:Ending)(w':World):Prop:=∃x:Ef,e=.returned (.agg x.g_)/\sE w' x/\x.p=P/\J [] w w'
def sE.nil(w:World)(t:Ef)(f:t.rs=.nil)(i:t.ws=.nil)(a:t.nw=.nil)(b:t.ds=.nil)(e:t.h8=.nil):sE w t:=by
 obtain⟨n,k,o,p,q,m,u,s,r,c,d⟩:=t;simp only at f i a b e;subst f;subst i;subst a;subst b;subst e;exact⟨GU _ _ _ _,GU _ _ _ _,GU _ _ _ _,λv j=>by simp[Sv.nil]at j,GU _ _ _ _,GU _ _ _ _,H_ _,H_ _,H_ _,H_ _,H_ _⟩
def Ad:∀a,a<43->x.g_[38+a]?=x.e.g_[a]?
 |0,_=>rfl
 |1,_=>rfl
 |2,_=>rfl
 |3,_=>rfl
 |4,_=>rfl
 |5,_=>rfl
 |6,_=>rfl
 |7,_=>rfl
 |8,_=>rfl
 |9,_=>rfl
 |10,_=>rfl
 |11,_=>rfl
 |12,_=>rfl
 |13,_=>rfl
 |14,_=>rfl
 |15,_=>rfl
 |16,_=>rfl
 |17,_=>rfl
 |18,_=>rfl
 |19,_=>rfl
 |20,_=>rfl
 |21,_=>rfl
 |22,_=>rfl
 |23,_=>rfl
 |24,_=>rfl
 |25,_=>rfl
 |26,_=>rfl
 |27,_=>rfl
 |28,_=>rfl
 |29,_=>rfl
 |30,_=>rfl
 |31,_=>rfl
 |32,_=>rfl
 |33,_=>rfl
 |34,_=>rfl
 |35,_=>rfl
 |36,_=>rfl
 |37,_=>rfl
 |38,_=>rfl
 |39,_=>rfl
 |40,_=>rfl
 |41,_=>rfl
 |42,_=>rfl
 |n+43,h=>Gc h X
def kA.Eq{b:World}{a:Nat}{x:X1}(h:kA b w a x):sE w x.e:=
 ⟨Sl.iP h.rs,Sl.iP h.ws,h.nw,h.nr,h.ds,h.h8,iY h.rs,iY h.ws,h.tj,h.r9,h.pP⟩
def pJ{w':World}{x:Ef}(h:sE w x)(b:Bk w g 134 cs)(a:J [g] w w'):sE w' x:=h.iq b I a
def pd(l:QS)(hH hC pc:Int):Bool:=decide (ia l hH hC=false∨pc< -1∨(l.length:Int)<=pc)
def pW(c:Nat)(l:QS)(hH hC pc s:Int)(r:Nat->Vl)(i:OA)(hc:Nat)(a:QT)(N:Is w A l)(hn:l.length<=1000000000)(al:mE w i hc a)(aq:a.length<=1000000000)(vJ:pc<=9000000000000000000):
 Calls prog 78 #[.agg #[.slice A l.length c,Y hH,Y hC],.agg (iK pc r),.agg #[.slice i a.length hc],Y s] w (w5 (lx l hH hC pc r (hX a) s) w):=by
 obtain⟨P,hP⟩:=mn_ (lx l hH hC pc r (hX a) s);have aU:Hid (P=if ia l hH hC=false∨pc< -1∨(l.length:Int)<=pc then ji else
  if(qd ({(kg ⟨A,c,l⟩ hH hC pc r ⟨i,hc,a⟩ s)with e:={(kg ⟨A,c,l⟩ hH hC pc r ⟨i,hc,a⟩ s).e with pc:=pc+1,r:=r}}:X1).p pc).hO=true then ji else(qd ({(kg ⟨A,c,l⟩ hH hC pc r ⟨i,hc,a⟩ s)with e:={(kg ⟨A,c,l⟩ hH hC pc r ⟨i,hc,a⟩ s).e with pc:=pc+1,r:=r}}:X1).p pc).e):=O (by rw[<-hP];rfl)
 rw[hP];clear hP;obtain⟨u,C,-,-,-⟩:=Df w 26 #[.slice A l.length c,Y hH,Y hC] 49 (iK pc r) 35 #[.slice i a.length hc] 134 tY;have aV:Bk ((((w.alloc (.cells #[.slice A l.length c,Y hH,Y hC] 26)).alloc (.cells (iK pc r) 49)).alloc (.cells #[.slice i a.length hc] 35)).alloc (.cells tY 134)) (w.heap.size+2) 35 #[.slice i a.length hc]:=zu ((P_ ((w.alloc (.cells #[.slice A l.length c,Y hH,Y hC] 26)).alloc (.cells (iK pc r) 49)) 35 #[.slice i a.length hc]).alloc (.cells tY 134));have L:Bk ((((w.alloc (.cells #[.slice A l.length c,Y hH,Y hC] 26)).alloc (.cells (iK pc r) 49)).alloc (.cells #[.slice i a.length hc] 35)).alloc (.cells tY 134)) (w.heap.size+3) 134 tY:=zu (P_ (((w.alloc (.cells #[.slice A l.length c,Y hH,Y hC] 26)).alloc (.cells (iK pc r) 49)).alloc (.cells #[.slice i a.length hc] 35)) 134 tY);obtain⟨-,-,-,-,Nv⟩:=Df w 26 #[.slice A l.length c,Y hH,Y hC] 49 (iK pc r) 35 #[.slice i a.length hc] 134 tY;go_enter func78,ntmps78;go_upto_region 1 with fail;obtain⟨bo,bg⟩:=nm_ ((((w.alloc (.cells #[.slice A l.length c,Y hH,Y hC] 26)).alloc (.cells (iK pc r) 49)).alloc (.cells #[.slice i a.length hc] 35)).alloc (.cells tY 134));rw[<-bg]at u C aV L Nv |-;clear bg;obtain⟨aK,bI⟩:=nm_ w.heap.size;obtain⟨bB,bT⟩:=nm_ (w.heap.size+1);obtain⟨aZ,bQ⟩:=nm_ (w.heap.size+2);obtain⟨bz,bK⟩:=nm_ (w.heap.size+3);rw[<-bQ]at aV;rw[<-bK]at L;rw[<-bT]at C;rw[<-bI]at u;rw[<-bK,<-bQ,<-bT,<-bI];have cn:w.heap.size<=bz:=X;have ck:aK≠bB/\aK≠aZ/\aK≠bz/\bB≠aZ/\bB≠bz/\aZ≠bz:=X;clear bI bT bQ bK
 go_cut [26] (λE a8=>E=.bool (pd l hH hC pc)/\J [] bo a8)
 case first=>
  have M:=u.f_ 0;have R:=u.f_ 1;have T:=u.f_ 2;cases hv:ia l hH hC with
  |false=>
   have HB:=O (show pd l hH hC pc=true by unfold pd;simp[hv]);exact JS
  |true=>
   by_cases b:pc< -1;have HB:=O (show pd l hH hC pc=true by unfold pd;simp[b]);have q:(pc< -1)=True:=by simp[b]
   exact JS;have q:(pc< -1)=False:=by simp[b]
   by_cases f:(l.length:Int)<=pc;have HB:=O (show pd l hH hC pc=true by unfold pd;simp[f]);have m:((l.length:Int)<=pc)=True:=by simp[f]
   exact JS;have HB:=O (show pd l hH hC pc=false by unfold pd;simp[hv];omega);have m:((l.length:Int)<=pc)=False:=p_;exact JS
 obtain⟨rfl,aH⟩:=hcut;replace u:=u.hF aH;replace C:=C.hF aH;replace aV:=aV.hF aH;replace L:=L.hF aH;replace Nv:=Nv.trans aH;clear aH;cases bA:pd l hH hC pc with
 |true=>
  have HM:Hid (P=ji):=O (by rw[aU.out];unfold pd at bA;exact U_ (HW bA));clear bA aU;go_wp2_with (refine kP (({Ef.zero with h7:=4}:Ef).g_) L (Ef.one _) ?_;intro Nr f b);rw[HM.out];exact rr_ ({Ef.zero with h7:=4}:Ef).g_ f underlying134 ⟨_,rfl,sE.nil _ _ rfl rfl rfl rfl rfl,rfl,Nv.hI b p_⟩
 |false=>
  have an:¬(ia l hH hC=false∨pc< -1∨(l.length:Int)<=pc):=by unfold pd at bA;exact IH bA
  have S:Hid (P=if(qd ({(kg ⟨A,c,l⟩ hH hC pc r ⟨i,hc,a⟩ s)with e:={(kg ⟨A,c,l⟩ hH hC pc r ⟨i,hc,a⟩ s).e with pc:=pc+1,r:=r}}:X1).p pc).hO=true then ji else(qd ({(kg ⟨A,c,l⟩ hH hC pc r ⟨i,hc,a⟩ s)with e:={(kg ⟨A,c,l⟩ hH hC pc r ⟨i,hc,a⟩ s).e with pc:=pc+1,r:=r}}:X1).p pc).e):=O (by rw[aU.out];exact T_ an);clear bA aU;have aY:ia l hH hC=true:=by cases h:ia l hH hC with|true=>rfl|false=>exact Gc (.inl h) an
  have U: -1<=pc/\pc<(l.length:Int):=X;have aw:∀k,k<l.length->k4 l k=true:=by
   intro k hk;have hv:=aY;exact MR
  have cj:l.length<=2048:=MA;clear an aY;have M:=u.f_ 0;have R:=u.f_ 1;have T:=u.f_ 2;have z0:=aV.f_ 0;have K:wc.heap.size≠bz:=ov L.lt;have cf:wc.heap.size≠bB:=ov C.lt;have aE:wc.heap.size≠aK:=ov u.lt;have bX:=N.hF Nv;have bW:=al.hF Nv;go_upto_region 4 with(first|(refine k2 C underlying49 ?_)|(refine wpList_build rfl rfl #[(0,.agg #[.slice A l.length c,Y hH,Y hC]),(1,.agg (iK pc r)),(2,.agg #[.slice i a.length hc]),(3,Y s)] k_ (zN ⟨A,c,l⟩ hH hC pc r ⟨i,hc,a⟩ s) ?_));have bD:w.heap.size<=wc.heap.size:=Nv.size;have aD:J [] wc (wc.alloc (.cells (kg ⟨A,c,l⟩ hH hC pc r ⟨i,hc,a⟩ s).g_ 186)):=(F_ [] wc).alloc _;have a7:=P_ wc 186 (kg ⟨A,c,l⟩ hH hC pc r ⟨i,hc,a⟩ s).g_;replace u:=u.hF aD;replace C:=C.hF aD;replace L:=L.hF aD;replace Nv:=Nv.trans aD;replace bX:=bX.hF aD;replace bW:=bW.hF aD;obtain⟨z,ce⟩:=nm_ (wc.alloc (.cells (kg ⟨A,c,l⟩ hH hC pc r ⟨i,hc,a⟩ s).g_ 186));rw[<-ce]at u C L a7 Nv bX bW |-;clear ce;clear aD aV z0 M R T;generalize wc.heap.size=gx at*;have aW:kA z z gx (kg ⟨A,c,l⟩ hH hC pc r ⟨i,hc,a⟩ s):=⟨a7,F_ _ _,⟨_,a7⟩,bX,bW,World.ownsRow_nil _ _ _ _,World.ownsRow_nil _ _ _ _,(λg h=>by cases h),GU _ _ _ _,(λr hr=>by simp[kg,Ef.zero,Sv.nil]at hr),GU _ _ _ _,GU _ _ _ _,H_ _,H_ _,H_ _,hn,aq⟩
  go_upto_region 5 with(first|(refine k2 C underlying49 ?_)|(refine jf rfl 49 _ _ rfl gx 39 r_ (iK pc r) r_ 186 _ a7 (by show 39+33<=82;decide) k_ (od) ?_;intro w2 bH Np));rw[nz]at bH;have aA:kA z w2 gx ({(kg ⟨A,c,l⟩ hH hC pc r ⟨i,hc,a⟩ s)with e:={(kg ⟨A,c,l⟩ hH hC pc r ⟨i,hc,a⟩ s).e with pc:=pc,r:=r}}:X1):=aW.r6 Np bH rfl rfl rfl rfl rfl rfl rfl;have b7:=u.gr Np (zu aE.symm);have ca:=C.gr Np (zu cf.symm);have b8:=L.gr Np (zu K.symm);have bM:w2.cell? (Z gx 39)=some (Y pc):=(aA.bk.f_ 39).trans rfl;have bU:=aA.bk.hG 39;clear aW a7 bH u C L;go_upto_region 6 with fail;have bd:kA z (w2.setCell (Z gx 39) (Y (pc+1))) gx ({(kg ⟨A,c,l⟩ hH hC pc r ⟨i,hc,a⟩ s)with e:={(kg ⟨A,c,l⟩ hH hC pc r ⟨i,hc,a⟩ s).e with pc:=pc+1,r:=r}}:X1):=aA.set 39 (Y (pc+1)) rfl rfl rfl rfl rfl rfl rfl rfl;have b0:=b7.ih (p:=(Z gx 39)) aE.symm (Y (pc+1));have b4:=ca.ih (p:=(Z gx 39)) cf.symm (Y (pc+1));have aX:=b8.ih (p:=(Z gx 39)) K.symm (Y (pc+1));clear bM bU aA b7 ca b8 Np;obtain⟨ar,bi⟩:=nm_ (w2.setCell (Z gx 39) (Y (pc+1)));rw[<-bi]at bd b0 b4 aX |-;clear bi;obtain⟨x,hx⟩:=nm_ ({(kg ⟨A,c,l⟩ hH hC pc r ⟨i,hc,a⟩ s)with e:={(kg ⟨A,c,l⟩ hH hC pc r ⟨i,hc,a⟩ s).e with pc:=pc+1,r:=r}}:X1);rw[<-hx]at bd S;have be:=O hx
  have bf:x.p.e.sm 0:=by rw[hx];exact⟨H_ _,H_ _,H_ _,H_ _,H_ _⟩
  have bC:x.j6=pc:=by rw[hx];rfl
  have cg:x.jo=⟨A,c,l⟩:=by rw[hx];rfl
  clear hx;have p0:ar.cell? (Z bB 0)=some (Y pc):=(b4.f_ 0).trans rfl;by_cases aM:pc= -1
  ·
   have q:(pc== -1)=true:=by simp[aM]
   have B:Hid (P=if(iJ x.p).hO=true then(if(iJ x.p).hO=true then ji else(iJ x.p).e) else(if(jl (hW (iJ x.p) 1 2).1 (hW (iJ x.p) 1 2).2).hO=true then ji else(jl (hW (iJ x.p) 1 2).1 (hW (iJ x.p) 1 2).2).e)):=O (by
    rw[S.out];unfold qd;rw[U_ aM];dsimp only;split<;>rfl)
   clear S;go_upto_region 8 with(go_at_call 116;((with_reducible refine(qG z gx x bd).mono ?_);unfold kY;rintro e H⟨f,rfl,W,bJ,bh⟩;have y:=O bJ;clear bJ;have d:H.cell? (Z gx 81)=some (.bool f.hO):=(W.bk.f_ 81).trans rfl));have cJ:f.p.e.sm 0:=by rw[y.out];exact bf
   have aN:=aX.xg bh K.symm;cases m:f.hO with
   |true=>
    have ap:Hid (P=if f.p.hO=true then ji else f.p.e):=O (by rw[B.out,<-y.out,U_ (show f.p.hO=true from m)]);rw[m]at d;clear m B y;go_upto_region 13 with fail;have F:=W;have o:=aN;have aJ:J [] w H:=Nv.hI F.gr p_;obtain⟨D,cC⟩:=nm_ f;rw[<-cC]at F ap;clear d cC;obtain⟨Nr,cv⟩:=nm_ H;exact I1
   |false=>
    obtain⟨bk,hv⟩:=mn_ ((hW f.p 1 2).2);have V:=O hv;clear hv;have n:Hid (P=if(jl (hW f.p 1 2).1 bk).hO=true then ji else(jl (hW f.p 1 2).1 bk).e):=O (by rw[B.out,<-y.out,T_ (show ¬f.p.hO=true by rw[show f.p.hO=f.hO from rfl,m];decide),V.out]);rw[m]at d;clear m B y;have bP:(hW f.p 1 2).1.e.sm 900000:=(km cJ 1 2).mono I;go_upto_region 13 with(first|(go_at_call 118;((with_reducible refine(jV z gx f 1 2 W (G_ cJ.rs I)).mono ?_);unfold na;rintro e ae⟨Nt,rfl,ag,aT,ad⟩;have bl:=O aT;clear aT;rw[V.out]))|(go_at_call 117;((with_reducible refine(pp z gx Nt bk ag (by rw[bl.out];exact bP)).mono ?_);unfold kY;rintro e Nq⟨bV,rfl,aO,Q,b⟩;have v:=O Q;clear Q)));have ap:Hid (P=if bV.p.hO=true then ji else bV.p.e):=O (by rw[n.out,v.out,bl.out]);have F:=aO;have o:=(aN.xg ad K.symm).xg b K.symm;have aJ:J [] w Nq:=Nv.hI F.gr p_;clear n v bl V d;exact IZ
  have q:(pc== -1)=false:=by simp[aM]
  obtain⟨k,rfl⟩:∃k:Nat,pc=k:=⟨pc.toNat,X⟩;have hk:k<l.length:=X;have b5:=bd.Em;rw[cg]at b5;obtain⟨bE,off,aQ,bj,bn,bN,bR,a6⟩:=b5.at_ hk;have aQ:A=some (Z bE off):=aQ;have G:=wC (aw k hk);have Nw:l.getD k default=l[k]:=by simp[List.getD,K_ hk]
  rw[Nw]at G;have b9:qd x.p (k:Int)=(match j0 x.p l[k]with
   |some E=>E
   |none=>match kT x.p l[k]with
    |some E=>E
    |none=>ka x.p l[k]):=by
   have e:x.p.jo.getD (k:Int).toNat default=l[k]:=by
    have aG:x.p.jo=l:=Z_ (λbm:Sv In=>bm.l) cg;rw[aG,<-Nw];rfl
   unfold qd;rw[T_ aM,e];rfl
  rw[b9]at S;clear b9 Nw b5 aw;obtain⟨m,hi⟩:=nm_ (l[k]);rw[<-hi]at G S bj bn bN bR a6;clear hi;have k0:ar.cell? (Z aK 0)=some (.slice (some (Z bE off)) l.length c):=by rw[<-aQ];exact b0.f_ 0
  go_upto_region 11 with fail;have f:=P_ ar 189 #[Y m.op,Y m.a,Y m.b,Y m.c,Y m.n];have ag:=bd.hF ((F_ [] ar).alloc (.cells #[Y m.op,Y m.a,Y m.b,Y m.c,Y m.n] 189));have bS:=aX.alloc (.cells #[Y m.op,Y m.a,Y m.b,Y m.c,Y m.n] 189);have t:ar.heap.size≠gx:=ov bd.bk.lt;obtain⟨bO,bq⟩:=nm_ (ar.alloc (.cells #[Y m.op,Y m.a,Y m.b,Y m.c,Y m.n] 189));rw[<-bq]at f ag bS |-;clear bq;generalize ar.heap.size=bv at*;clear bd aX b0 b4 p0 k0 bj bn bN bR a6;have M:=f.f_ 0;have R:=f.f_ 1;have T:=f.f_ 2;have W:=f.f_ 3;have ax:=f.f_ 4
  cases U:j0 x.p m with
  |some E=>
   have B:Hid (P=if E.hO=true then ji else E.e):=O (by rw[S.out,U]);clear S;go_upto_region 13 with(go_at_call 119;have n:=pC z gx x m ag (bf.mono I) G.a0 G.a1 G.Fd G.c4;rw[U]at n;refine n.mono ?_;unfold lD;rintro e Nq⟨bV,H,aO,Q,b⟩;have H:e=.returned (.bool true):=H;subst H;have v:Hid (bV.p=E):=O Q;clear Q n;replace M:=(f.xg b t).f_ 0;replace R:=(f.xg b t).f_ 1;replace T:=(f.xg b t).f_ 2;replace W:=(f.xg b t).f_ 3;replace ax:=(f.xg b t).f_ 4);have ap:Hid (P=if bV.p.hO=true then ji else bV.p.e):=O (by rw[B.out,v.out]);have F:=aO;have o:=bS.xg b K.symm;clear B v M R T W ax U;have aJ:J [] w Nq:=Nv.hI F.gr p_;exact IZ
  |none=>
   cases aB:kT x.p m with
   |some E=>
    have B:Hid (P=if E.hO=true then ji else E.e):=O (by rw[S.out,U];simp only[aB]);clear S;go_upto_region 13 with(first|(go_at_call 119;have n:=pC z gx x m ag (bf.mono I) G.a0 G.a1 G.Fd G.c4;rw[U]at n;refine n.mono ?_;unfold lD;rintro e Nq⟨bV,H,aO,Q,b⟩;have H:e=.returned (.bool false):=H;subst H;have v:Hid (bV.p=x.p):=O Q;clear Q n;replace M:=(f.xg b t).f_ 0;replace R:=(f.xg b t).f_ 1;replace T:=(f.xg b t).f_ 2;replace W:=(f.xg b t).f_ 3;replace ax:=(f.xg b t).f_ 4)|(go_at_call 120;have n:=sN z gx bV m aO (by rw[v.out];exact bf.mono I) G.a0 G.a1 G.hH;rw[v.out,aB]at n;refine n.mono ?_;unfold lD;rintro e az⟨V,aR,bt,bp,y⟩;have aR:e=.returned (.bool true):=aR;subst aR;have bu:Hid (V.p=E):=O bp;clear bp n;replace M:=((f.xg b t).xg y t).f_ 0;replace R:=((f.xg b t).xg y t).f_ 1;replace T:=((f.xg b t).xg y t).f_ 2;replace W:=((f.xg b t).xg y t).f_ 3;replace ax:=((f.xg b t).xg y t).f_ 4));have ap:Hid (P=if V.p.hO=true then ji else V.p.e):=O (by rw[B.out,bu.out]);have F:=bt;have o:=(bS.xg b K.symm).xg y K.symm;clear B v bu M R T W ax U aB;have aJ:J [] w az:=Nv.hI F.gr p_;obtain⟨D,cC⟩:=nm_ V;rw[<-cC]at F ap;clear cC;obtain⟨Nr,cv⟩:=nm_ az;exact I1
   |none=>
    have B:Hid (P=if(ka x.p m).hO=true then ji else(ka x.p m).e):=O (by rw[S.out,U];simp only[aB]);clear S;go_upto_region 13 with(first|(go_at_call 119;have n:=pC z gx x m ag (bf.mono I) G.a0 G.a1 G.Fd G.c4;rw[U]at n;refine n.mono ?_;unfold lD;rintro e Nq⟨bV,H,aO,Q,b⟩;have H:e=.returned (.bool false):=H;subst H;have v:Hid (bV.p=x.p):=O Q;clear Q n;replace M:=(f.xg b t).f_ 0;replace R:=(f.xg b t).f_ 1;replace T:=(f.xg b t).f_ 2;replace W:=(f.xg b t).f_ 3;replace ax:=(f.xg b t).f_ 4)|(go_at_call 120;have n:=sN z gx bV m aO (by rw[v.out];exact bf.mono I) G.a0 G.a1 G.hH;rw[v.out,aB]at n;refine n.mono ?_;unfold lD;rintro e az⟨V,aR,bt,bp,y⟩;have aR:e=.returned (.bool false):=aR;subst aR;have bu:Hid (V.p=x.p):=O bp;clear bp n;replace M:=((f.xg b t).xg y t).f_ 0;replace R:=((f.xg b t).xg y t).f_ 1;replace T:=((f.xg b t).xg y t).f_ 2;replace W:=((f.xg b t).xg y t).f_ 3;replace ax:=((f.xg b t).xg y t).f_ 4)|(go_at_call 121;have n:=xA z gx V m bt (by rw[bu.out];exact bf.mono I) G.a0 G.a1 G.F2 G.n7 G.FD (by show -1<=V.p.j6;rw[bu.out];show -1<=x.j6;rw[bC];omega) (by show V.p.j6<=1000000;rw[bu.out];show x.j6<=1000000;rw[bC];omega);refine n.mono ?_;unfold kY;rintro e aF⟨bx,rfl,aI,bY,aP⟩;have bF:=O bY;clear bY n));have ap:Hid (P=if bx.p.hO=true then ji else bx.p.e):=O (by rw[B.out,bF.out,bu.out]);have F:=aI;have o:=((bS.xg b K.symm).xg y K.symm).xg aP K.symm;clear B v bu bF M R T W ax U aB;have aJ:J [] w aF:=Nv.hI F.gr p_;obtain⟨D,cC⟩:=nm_ bx;rw[<-cC]at F ap;clear cC;obtain⟨Nr,cv⟩:=nm_ aF;exact I1
def vD(o:Option jb)(w:World)(e:Ending)(w':World):Prop:=∃t:Tk,e=.returned (.tuple #[.agg t.g_,.bool o.isSome])/\J [] w w'/\∀P,o=some P->lm w' t/\t.p=P
def AY{t:jb}{rs ws:QX}{l:QD}(h:take t d=none):jP t rs ws (d::l)=jP t rs ws l:=by
 rw[jP,h]
def zj{t t':jb}{rs ws:QX}{l:QD}(h:take t d=some t'):jP t rs ws (d::l)=jP t' (jJ rs d) (jJ ws d) l:=by
 rw[jP,h]
def Cs.iq{w':World}{A:OA}(h:Cs w A l)(e:Bk w g t cs)(a:116≠t)(b:J [g] w w'):Cs w' A l:=Sl.iq h e a b
def np(t:jb)(c:Cl):Bool:=decide (0<=js t.nw c.id∨0<=cat t.ws c.id c.f∨0<=cat t.rs c.id c.f)
def xF{view:QQ}{t:jb}(h:np t c=true):j8 view t (c::l)=j8 view t l:=by
 have a:0<=js t.nw c.id∨0<=cat t.ws c.id c.f∨0<=cat t.rs c.id c.f:=by simpa[np]using h
 rw[j8,qk,U_ a]
def wi{view:QQ}{t:jb}(h:np t c=false)(b:pj t.ds c.id c.f<0):qk view t c=some {t with rs:=kE t.rs c}:=by
 have a:¬(0<=js t.nw c.id∨0<=cat t.ws c.id c.f∨0<=cat t.rs c.id c.f):=by simpa[np]using h
 rw[qk,T_ a,T_ X]
def zi{view:QQ}{t:jb}(h:np t c=false)(a:pj t.ds c.id c.f<0):j8 view t (c::l)=j8 view {t with rs:=kE t.rs c} l:=by
 rw[j8,wi h a]
def wh{view:QQ}{t:jb}(h:np t c=false)(a:0<=pj t.ds c.id c.f):qk view t c=jv t view c.id c.f:=by
 have b:¬(0<=js t.nw c.id∨0<=cat t.ws c.id c.f∨0<=cat t.rs c.id c.f):=by simpa[np]using h
 rw[qk,T_ b,U_ a]
def AX{view:QQ}{t:jb}(h:np t c=false)(a:0<=pj t.ds c.id c.f)(b:jv t view c.id c.f=none):j8 view t (c::l)=none:=by
 rw[j8,wh h a,b]
def zh{view:QQ}{t t':jb}(h:np t c=false)(a:0<=pj t.ds c.id c.f)(b:jv t view c.id c.f=some t'):j8 view t (c::l)=j8 view t' l:=by
 rw[j8,wh h a,b]
def AW{view:QQ}{t:jb}(a:jv t view c.id c.f=none):kx view t (c::l)=none:=by
 rw[kx,r7,a];rfl
def zg{view:QQ}{t t':jb}(a:jv t view c.id c.f=some t'):kx view t (c::l)=kx view (j5 t' c) l:=by
 rw[kx,r7,a];rfl
def Er:116≠134/\56≠134/\38≠134/\124≠134/\162≠134:=by decide
def xE(t:Tk)(A:OA)(c:Nat)(l:QT)(f:Ef)(w:World)(ht:lm w t)(h:mE w A c l)(he:sE w f)(hs:t.p.sm 1000000)(hes:f.p.sm 1000)(hl:l.length<=100000000):
 Calls prog 81 #[.agg t.g_,.agg #[.slice A l.length c],.agg f.g_] w (vD (record t.p (hX l) f.p) w):=by
 obtain⟨b,j,n,q,Nv⟩:=Df w 53 t.g_ 35 #[.slice A l.length c] 134 f.g_ 53 lE;go_enter func81,ntmps81;go_upto_region 1 with fail;obtain⟨al,aK⟩:=nm_ ((((w.alloc (.cells t.g_ 53)).alloc (.cells #[.slice A l.length c] 35)).alloc (.cells f.g_ 134)).alloc (.cells lE 53));rw[<-aK]at b j n q Nv |-;clear aK;have Np:al.cell? (Z (w.heap.size+1+1) 37)=some (.slice f.ds.A f.ds.l.length f.ds.c):=(n.f_ 37).trans rfl;go_wp2
 go_loopw [20] (λan wr=>∃(r:Nat) (T:Tk) (rs ws:Sv Cl),r<=f.ds.l.length/\an=Y r/\Bk wr (w.heap.size) 53 T.g_/\Bk wr (w.heap.size+1+1) 134 ({f with rs:=rs,ws:=ws}:Ef).g_/\Bk wr (w.heap.size+1) 35 #[.slice A l.length c]/\Bk wr (w.heap.size+1+1+1) 53 lE/\lm wr T/\Cs wr rs.A rs.l/\Cs wr ws.A ws.l/\rs.ok/\ws.ok/\jP t.p f.rs.l f.ws.l f.ds.l=jP T.p rs.l ws.l (f.ds.l.drop r)/\T.p.sm (1000000+r)/\rs.l.length<=1000/\ws.l.length<=1000/\J [] w wr) (λan _=>f.ds.l.length-(intOf an).toNat)
 case atStart=>exact⟨0,t,f.rs,f.ws,L_ _,rfl,b,n,j,q,ht.hF Nv,(he.hF Nv).rs,(he.hF Nv).ws,he.k8,he.vQ,rfl,hs.mono X,hes.rs,hes.ws,Nv⟩
 clear b n j q Nv Np;obtain⟨r,T,rs,ws,hk,rfl,b,n,j,q,bU,R,z,cx,dw,aO,y,b9,di,s⟩:=hrel;have aj:=O aO;clear aO;have df:=hes.ds;by_cases ag:r<f.ds.l.length
 .have aG:(r:Int)<(f.ds.l.length:Int):=X;have dB:f.ds.l.length<=1000:=df;have br:T.ds.l.length<=1000000000:=G_ y.ds X;have bG:T.nw.l.length<=1000000000:=by have:=y.nw;rw[show T.p.nw=hX T.nw.l from rfl,h5]at this;omega
  have bP:T.ws.l.length<=1000000000:=G_ y.ws X;have cU:T.rs.l.length<=1000000000:=G_ y.rs X;obtain⟨aA,off,aV,bj,bn,bN,bR,a6⟩:=((he.hF s).ds).at_ ag;rw[aV];have ar:=O (show f.ds.l.drop r=f.ds.l[r]::f.ds.l.drop (r+1) from R_ ag);generalize f.ds.l[r]=d at*;have M:=(F_ [] wr).alloc (.cells #[Y d.id,Y d.f,Y d.op,.bool d.v.r,Y d.v.n] 124);have dg:w.heap.size+1+1+1<wr.heap.size:=q.lt;have G:=P_ wr 124 #[Y d.id,Y d.f,Y d.op,.bool d.v.r,Y d.v.n];go_upto_region 5 with fail;replace b:=b.hF M;replace n:=n.hF M;replace j:=j.hF M;replace q:=q.hF M;replace bU:=bU.hF M;replace R:=Sl.hF R M;replace z:=Sl.hF z M;replace s:=s.trans M;clear M bj bn bN bR a6 aV;obtain⟨be,aW⟩:=nm_ (wr.alloc (.cells #[Y d.id,Y d.f,Y d.op,.bool d.v.r,Y d.v.n] 124));rw[<-aW]at b n j q G s bU R z |-;clear aW;generalize wr.heap.size=Q at*;have bd:=G.f_ 0;have ah:=G.f_ 1;have ay:=G.f_ 2;have aS:=G.f_ 3;have ax:=G.f_ 4
  cases bw:take T.p d with
  |none=>
   have aw:=O bw;clear bw;go_wp2_with (first|(refine k2 b underlying53 ?_)|(go_at_call 126;((with_reducible refine(Ca T d bU br bG bP cU aw.out).mono ?_);unfold nt;rintro S U⟨a,rfl,i,aN,B⟩;have bt:=P_ U 53 lE;have cN:w.heap.size+1+1+1<U.heap.size:=Hg q.lt B.size;have du:Q<U.heap.size:=Hg G.lt B.size))|(refine kP (a.g_) bt (Tk.one _) ?_;intro ae cM K));have F:J [] be ae:=(B.alloc (.cells lE 53)).hI K (by simp;exact B.size);go_roundw;exact⟨r+1,T,rs,ws,X,gn,b.hF F,n.hF F,j.hF F,q.hF F,bU.hF F,Sl.hF R F,Sl.hF z F,cx,dw,by rw[aj.out,ar.out,AY aw.out],y.mono X,b9,di,s.trans F⟩;exact mz
  |some P=>
   have aw:=O bw;clear bw;go_upto_region 7 with(first|(refine k2 b underlying53 ?_)|(go_at_call 126;((with_reducible refine(Ap T d P bU br bG bP cU aw.out).mono ?_);unfold nt;rintro S U⟨a,rfl,i,aN,B⟩;have bt:=P_ U 53 lE;have cN:w.heap.size+1+1+1<U.heap.size:=Hg q.lt B.size;have du:Q<U.heap.size:=Hg G.lt B.size))|(refine kP (a.g_) bt (Tk.one _) ?_;intro ae cM K));have aQ:=O aN;clear aN;have F:J [] be ae:=(B.alloc (.cells lE 53)).hI K (by simp;exact B.size);have am:J [] U ae:=((F_ [] U).alloc (.cells lE 53)).hI K H;replace b:=b.hF F;replace n:=n.hF F;replace j:=j.hF F;replace q:=q.hF F;replace G:=G.hF F;replace i:=i.hF am;replace R:=R.hF F;replace z:=z.hF F;replace s:=s.trans F;clear B K F am bU bt bd ah ay aS ax;generalize U.heap.size=dz at*
   go_upto_region 8 with(first|(refine k2 cM underlying53 ?_)|(refine kP (a.g_) b (Tk.one _) ?_;intro Nq ce ai));replace n:=n.gr ai sd_;replace j:=j.gr ai sd_;replace q:=q.gr ai sd_;replace G:=G.gr ai sd_;replace i:=i.iq b sS ai;replace R:=Sl.iq R b I ai;replace z:=Sl.iq z b I ai;replace s:=s.hI ai H;replace b:=ce;clear ce ai cM;have a7:Nq.drew.cell? (Z (w.heap.size+1+1) 34)=some (.slice rs.A rs.l.length rs.c)/\Nq.drew.cell? (Z (w.heap.size+1+1) 35)=some (.slice ws.A ws.l.length ws.c)/\Nq.drew.cell? (Z Q 0)=some (Y d.id)/\Nq.drew.cell? (Z Q 1)=some (Y d.f)/\Nq.drew.cell? (Z Q 2)=some (Y d.op)/\Nq.drew.cell? (Z Q 3)=some (.bool d.v.r)/\Nq.drew.cell? (Z Q 4)=some (Y d.v.n):=
    ⟨(n.drew.f_ 34).trans rfl,(n.drew.f_ 35).trans rfl,G.drew.f_ 0,G.drew.f_ 1,G.drew.f_ 2,G.drew.f_ 3,G.drew.f_ 4⟩
   have o:=O (And.intro n.drew G.drew);have bz:Hid (Cs Nq.drew rs.A rs.l/\Cs Nq.drew ws.A ws.l):=O ⟨Sl.hF R (F_ [] Nq).drew,Sl.hF z (F_ [] Nq).drew⟩;refine hN (λw'=>w'.cell? (Z (w.heap.size+1+1) 34)=some (.slice rs.A rs.l.length rs.c)/\w'.cell? (Z (w.heap.size+1+1) 35)=some (.slice ws.A ws.l.length ws.c)/\w'.cell? (Z Q 0)=some (Y d.id)/\w'.cell? (Z Q 1)=some (Y d.f)/\w'.cell? (Z Q 2)=some (Y d.op)/\w'.cell? (Z Q 3)=some (.bool d.v.r)/\w'.cell? (Z Q 4)=some (Y d.v.n)) 9 k_ ?_;have k:=a7;clear a7;refine ir 0 k ?_;refine ir 2 k ?_;refine ir 4 k ?_;refine ir 6 k ?_;refine ir 1 k ?_;refine ir 5 k ?_;refine hY 3 λu e=>?_;go_simp;(go_at_call 127;((with_reducible refine(rF rs.A rs.c rs.l d bz.out.1 X).mono ?_);unfold sf;rintro S W⟨aL,cj,rfl,dt,cv,C⟩));have bZ:=And.intro ((o.out.1.hF C).f_ 34) ((o.out.1.hF C).f_ 35);clear k;have k:W.cell? (Z (w.heap.size+1+1) 34)=some (.slice rs.A rs.l.length rs.c)/\W.cell? (Z (w.heap.size+1+1) 35)=some (.slice ws.A ws.l.length ws.c)/\W.cell? (Z Q 0)=some (Y d.id)/\W.cell? (Z Q 1)=some (Y d.f)/\W.cell? (Z Q 2)=some (Y d.op)/\W.cell? (Z Q 3)=some (.bool d.v.r)/\W.cell? (Z Q 4)=some (Y d.v.n):=⟨((o.out.1.hF C).f_ 34).trans rfl,((o.out.1.hF C).f_ 35).trans rfl,(o.out.2.hF C).f_ 0,(o.out.2.hF C).f_ 1,(o.out.2.hF C).f_ 2,(o.out.2.hF C).f_ 3,(o.out.2.hF C).f_ 4⟩;clear bZ;refine h4 e k λk=>?_;clear e u;refine ir 8 k ?_;refine hY 7 λu e=>?_;go_simp;(go_at_call 127;((with_reducible refine(rF ws.A ws.c ws.l d (Cs.hF bz.out.2 C) X).mono ?_);unfold sf;rintro S L⟨bp,ck,rfl,ct,cQ,N⟩));clear k;have D:=C.trans N;have k:L.cell? (Z (w.heap.size+1+1) 34)=some (.slice rs.A rs.l.length rs.c)/\L.cell? (Z (w.heap.size+1+1) 35)=some (.slice ws.A ws.l.length ws.c)/\L.cell? (Z Q 0)=some (Y d.id)/\L.cell? (Z Q 1)=some (Y d.f)/\L.cell? (Z Q 2)=some (Y d.op)/\L.cell? (Z Q 3)=some (.bool d.v.r)/\L.cell? (Z Q 4)=some (Y d.v.n):=⟨((o.out.1.hF D).f_ 34).trans rfl,((o.out.1.hF D).f_ 35).trans rfl,(o.out.2.hF D).f_ 0,(o.out.2.hF D).f_ 1,(o.out.2.hF D).f_ 2,(o.out.2.hF D).f_ 3,(o.out.2.hF D).f_ 4⟩;have f34:=(o.out.1.hF D).hG 34;have f35:=(o.out.1.hF D).hG 35;have dC:=k.1;have z35:=k.2.1;refine h4 e k λk=>?_;clear e u;refine hY 9 λu e=>?_;go_simp;refine e.out _ _ (λh=>Gc h I) ?_;clear e u;try simp only[a_]
   refine hY 10 λu e=>?_;go_simp;refine e.out _ _ (λh=>Gc h I) ?_;clear e u;try simp only[a_]
   refine hY 11 λu e=>?_;go_simp;refine e.out _ _ (λh=>Gc h I) ?_;clear e u;try simp only[a_]
   refine hM k_ ?_ _;go_wp2;go_roundw
   case rel=>
    have E:=((F_ [w.heap.size+1+1] L).setCell (p:=(Z (w.heap.size+1+1) 34)) (.inl H) (.slice aL (jJ rs.l d).length cj)).setCell (p:=(Z (w.heap.size+1+1) 35)) (.inl H) (.slice bp (jJ ws.l d).length ck);have cr:=o.out.1.hF D;have Nw:J [] Nq L:=((F_ [] Nq).drew).trans D;have bK:=(s.trans Nw).hI E p_;exact⟨r+1,a,⟨aL,cj,jJ rs.l d⟩,⟨bp,ck,jJ ws.l d⟩,X,gn,(b.hF Nw).gr E sd_,(cr.hU 34 _).hU 35 _,(j.hF Nw).gr E sd_,(q.hF Nw).gr E sd_,(i.hF Nw).iq cr Er E,Sl.iq (Sl.hF dt N) cr I E,Sl.iq ct cr I E,cv,cQ,by rw[aj.out,ar.out,zj aw.out,aQ.out],by rw[aQ.out];exact(yf y aw.out).mono X,G_ (qf _ _) b9,G_ (qf _ _) di,bK⟩
   case measure=>exact mz
 have aG:¬(r:Int)<(f.ds.l.length:Int):=X;have cg:=O (show jP t.p f.rs.l f.ws.l f.ds.l=(T.p,rs.l,ws.l) by rw[aj.out,GD X];rfl);clear aj;replace y:=y.mono (show 1000000+r<=1001000 by have:f.ds.l.length<=1000:=df;omega);clear ag hk;have dx:wr.cell? (Z (w.heap.size+1+1) 34)=some (.slice rs.A rs.l.length rs.c):=(n.f_ 34).trans rfl;have bB:=O (show record t.p (hX l) f.p=(match j8 (hX l) T.p rs.l with
  |none=>none
  |some bf=>match kx (hX l) {bf with nw:=bf.nw++hX f.nw.l} ws.l with
   |none=>none
   |some aA=>some {aA with h8:=aA.h8++f.h8.l}) by
  show(match j8 (hX l) (jP t.p f.rs.l f.ws.l f.ds.l).1 (jP t.p f.rs.l f.ws.l f.ds.l).2.1 with
   |none=>none
   |some bf=>match kx (hX l) {bf with nw:=bf.nw++hX f.nw.l} (jP t.p f.rs.l f.ws.l f.ds.l).2.2 with
    |none=>none
    |some aA=>some {aA with h8:=aA.h8++f.h8.l})=_
  rw[cg.out])
 clear cg;go_wp2;clear aG;go_loopw [46] (λan wr=>∃(r:Nat) (a:Tk),r<=rs.l.length/\an=Y r/\Bk wr (w.heap.size) 53 a.g_/\Bk wr (w.heap.size+1+1) 134 ({f with rs:=rs,ws:=ws}:Ef).g_/\Bk wr (w.heap.size+1) 35 #[.slice A l.length c]/\Bk wr (w.heap.size+1+1+1) 53 lE/\lm wr a/\Cs wr rs.A rs.l/\Cs wr ws.A ws.l/\j8 (hX l) T.p rs.l=j8 (hX l) a.p (rs.l.drop r)/\a.p.sm (1001000+2*r)/\J [] w wr) (λan _=>rs.l.length-(intOf an).toNat)
 case atStart=>exact⟨0,T,L_ _,rfl,b,n,j,q,bU,R,z,rfl,y.mono X,s⟩
 clear b n j q bU R z s dx y;obtain⟨r,a,hk,rfl,b,n,j,q,i,R,z,aO,y,s⟩:=hrel;have aj:=O aO;clear aO;by_cases ag:r<rs.l.length
 .have aG:(r:Int)<(rs.l.length:Int):=X;have br:a.ds.l.length<=1000000000:=G_ y.ds X;have bG:a.nw.l.length<=1000000000:=by have:=y.nw;rw[show a.p.nw=hX a.nw.l from rfl,h5]at this;omega
  have bP:a.ws.l.length<=1000000000:=G_ y.ws X;have cU:a.rs.l.length<=1000000000:=G_ y.rs X;have cZ:a.p.sm 100000000:=y.mono X;obtain⟨aA,off,aV,bj,bn,bN,bR⟩:=Cs.at_ R ag;rw[aV];have bD:=O aV;have ar:=O (show rs.l.drop r=rs.l[r]::rs.l.drop (r+1) from R_ ag);generalize rs.l[r]=x at*;have M:=(F_ [] wr).alloc (.cells #[Y x.id,Y x.f,.bool x.v.r,Y x.v.n] 116);have dg:w.heap.size+1+1+1<wr.heap.size:=q.lt;have G:=P_ wr 116 #[Y x.id,Y x.f,.bool x.v.r,Y x.v.n];go_upto_region 13 with fail;replace b:=b.hF M;replace n:=n.hF M;replace j:=j.hF M;replace q:=q.hF M;replace i:=i.hF M;replace R:=Cs.hF R M;replace z:=Cs.hF z M;replace s:=s.trans M;clear M bj bn bN bR aV;obtain⟨cH,db⟩:=nm_ (wr.alloc (.cells #[Y x.id,Y x.f,.bool x.v.r,Y x.v.n] 116));rw[<-db]at b n j q i R z G s |-;clear db;generalize wr.heap.size=Q at*;have bd:=G.f_ 0;have ah:=G.f_ 1;have ay:=G.f_ 2;have aS:=G.f_ 3
  go_cut [74] (λbh a8=>bh=.bool (np a.p x)/\J [] cH a8)
  case first=>
   clear n j q R z s aj ar bB y ht he hs hes bD ay aS cZ br;have bO:=(yx (hX a.nw.l) x.id).1;have dr:=(ry a.ws.l x.id x.f).1;have bo:=(ry a.rs.l x.id x.f).1;have aR:=O (show np a.p x=decide (0<=js (hX a.nw.l) x.id∨0<=cat a.ws.l x.id x.f∨0<=cat a.rs.l x.id x.f) from rfl);have Np:cH.cell? (Z w.heap.size 37)=some (.slice a.rs.A a.rs.l.length a.rs.c):=(b.f_ 37).trans rfl;have bH:cH.cell? (Z w.heap.size 38)=some (.slice a.ws.A a.ws.l.length a.ws.c):=(b.f_ 38).trans rfl;generalize dj:js (hX a.nw.l) x.id=bk at*;generalize cX:cat a.ws.l x.id x.f=ca at*;generalize dm:cat a.rs.l x.id x.f=xr at*;have co:=O dj;have cG:=O cX;have cp:=O dm;clear dj cX dm;clear bO dr bo;by_cases aJ:bk<0
   .by_cases bg:ca<0
    .by_cases aM:xr<0
     .skip;have HB:=O (show np a.p x=false by rw[aR.out];exact G6 X);clear aR;have bm:(0<=bk)=False:=p_;have bC:(0<=ca)=False:=p_;have bM:(0<=xr)=False:=p_;clear aJ bg aM;refine wp_region_lit ?_;refine k2 b underlying53 ?_;iterate 2 ((try simp only[a_]);refine iv rfl gs_ ?_)
      try simp only[a_]
      refine nF rfl (λu e=>?_);go_simp;(go_at_call 128;((with_reducible refine(oX a x.id _ i bG).mono ?_);rintro S bQ⟨rfl,M⟩;rw[co.out];replace b:=b.hF M;replace G:=G.hF M;replace i:=i.hF M;replace bd:=G.f_ 0;replace ah:=G.f_ 1;replace Np:bQ.cell? (Z w.heap.size 37)=some (.slice a.rs.A a.rs.l.length a.rs.c):=(b.f_ 37).trans rfl;replace bH:bQ.cell? (Z w.heap.size 38)=some (.slice a.ws.A a.ws.l.length a.ws.c):=(b.f_ 38).trans rfl));refine e.out _ _ ?_;clear e u;iterate 2 ((try simp only[a_]);refine iv (v:=.bool false) rfl gs_ ?_)
      iterate 6 ((try simp only[a_]);refine ie rfl rfl rfl rfl rfl gs_ ?_)
      try simp only[a_]
      refine nE rfl rfl rfl rfl rfl (λu e=>?_);go_simp;(go_at_call_of 129 (Value.slice a.ws.A a.ws.l.length a.ws.c);((with_reducible refine(lU a.ws.A a.ws.c a.ws.l x.id x.f _ i.ws bP).mono ?_);rintro S aU⟨rfl,aD⟩;rw[cG.out];replace b:=b.hF aD;replace G:=G.hF aD;replace i:=i.hF aD;replace bd:=G.f_ 0;replace ah:=G.f_ 1;replace Np:aU.cell? (Z w.heap.size 37)=some (.slice a.rs.A a.rs.l.length a.rs.c):=(b.f_ 37).trans rfl;replace bH:aU.cell? (Z w.heap.size 38)=some (.slice a.ws.A a.ws.l.length a.ws.c):=(b.f_ 38).trans rfl));refine e.out _ _ ?_;clear e u;try simp only[a_]
      refine ie (v:=.bool false) rfl rfl rfl rfl rfl gs_ ?_;iterate 2 ((try simp only[a_]);refine iv (v:=.bool false) rfl gs_ ?_)
      iterate 6 ((try simp only[a_]);refine ie rfl rfl rfl rfl rfl gs_ ?_)
      try simp only[a_]
      refine nE rfl rfl rfl rfl rfl (λu e=>?_);go_simp;(go_at_call_of 129 (Value.slice a.rs.A a.rs.l.length a.rs.c);((with_reducible refine(lU a.rs.A a.rs.c a.rs.l x.id x.f _ i.rs cU).mono ?_);rintro S dQ⟨rfl,Nw⟩;rw[cp.out]));refine e.out _ _ ?_;clear e u;try simp only[a_]
      refine ie (v:=.bool false) rfl rfl rfl rfl rfl gs_ ?_;try simp only[a_]
      refine iv (v:=.bool false) rfl gs_ ?_;exact LP
     skip;have HB:=O (show np a.p x=true by rw[aR.out];exact Gv X);clear aR;have bm:(0<=bk)=False:=p_;have bC:(0<=ca)=False:=p_;have bM:(0<=xr)=True:=p_;clear aJ bg aM;refine wp_region_lit ?_;refine k2 b underlying53 ?_;iterate 2 ((try simp only[a_]);refine iv rfl gs_ ?_)
     try simp only[a_]
     refine nF rfl (λu e=>?_);go_simp;(go_at_call 128;((with_reducible refine(oX a x.id _ i bG).mono ?_);rintro S bQ⟨rfl,M⟩;rw[co.out];replace b:=b.hF M;replace G:=G.hF M;replace i:=i.hF M;replace bd:=G.f_ 0;replace ah:=G.f_ 1;replace Np:bQ.cell? (Z w.heap.size 37)=some (.slice a.rs.A a.rs.l.length a.rs.c):=(b.f_ 37).trans rfl;replace bH:bQ.cell? (Z w.heap.size 38)=some (.slice a.ws.A a.ws.l.length a.ws.c):=(b.f_ 38).trans rfl));refine e.out _ _ ?_;clear e u;iterate 2 ((try simp only[a_]);refine iv (v:=.bool false) rfl gs_ ?_)
     iterate 6 ((try simp only[a_]);refine ie rfl rfl rfl rfl rfl gs_ ?_)
     try simp only[a_]
     refine nE rfl rfl rfl rfl rfl (λu e=>?_);go_simp;(go_at_call_of 129 (Value.slice a.ws.A a.ws.l.length a.ws.c);((with_reducible refine(lU a.ws.A a.ws.c a.ws.l x.id x.f _ i.ws bP).mono ?_);rintro S aU⟨rfl,aD⟩;rw[cG.out];replace b:=b.hF aD;replace G:=G.hF aD;replace i:=i.hF aD;replace bd:=G.f_ 0;replace ah:=G.f_ 1;replace Np:aU.cell? (Z w.heap.size 37)=some (.slice a.rs.A a.rs.l.length a.rs.c):=(b.f_ 37).trans rfl;replace bH:aU.cell? (Z w.heap.size 38)=some (.slice a.ws.A a.ws.l.length a.ws.c):=(b.f_ 38).trans rfl));refine e.out _ _ ?_;clear e u;try simp only[a_]
     refine ie (v:=.bool false) rfl rfl rfl rfl rfl gs_ ?_;iterate 2 ((try simp only[a_]);refine iv (v:=.bool false) rfl gs_ ?_)
     iterate 6 ((try simp only[a_]);refine ie rfl rfl rfl rfl rfl gs_ ?_)
     try simp only[a_]
     refine nE rfl rfl rfl rfl rfl (λu e=>?_);go_simp;(go_at_call_of 129 (Value.slice a.rs.A a.rs.l.length a.rs.c);((with_reducible refine(lU a.rs.A a.rs.c a.rs.l x.id x.f _ i.rs cU).mono ?_);rintro S dQ⟨rfl,Nw⟩;rw[cp.out]));refine e.out _ _ ?_;clear e u;try simp only[a_]
     refine ie (v:=.bool true) rfl rfl rfl rfl rfl gs_ ?_;try simp only[a_]
     refine iv (v:=.bool true) rfl gs_ ?_;exact LP
    skip;have HB:=O (show np a.p x=true by rw[aR.out];exact Gv X);clear aR;have bm:(0<=bk)=False:=p_;have bC:(0<=ca)=True:=p_;clear aJ bg;refine wp_region_lit ?_;refine k2 b underlying53 ?_;iterate 2 ((try simp only[a_]);refine iv rfl gs_ ?_)
    try simp only[a_]
    refine nF rfl (λu e=>?_);go_simp;(go_at_call 128;((with_reducible refine(oX a x.id _ i bG).mono ?_);rintro S bQ⟨rfl,M⟩;rw[co.out];replace b:=b.hF M;replace G:=G.hF M;replace i:=i.hF M;replace bd:=G.f_ 0;replace ah:=G.f_ 1;replace Np:bQ.cell? (Z w.heap.size 37)=some (.slice a.rs.A a.rs.l.length a.rs.c):=(b.f_ 37).trans rfl;replace bH:bQ.cell? (Z w.heap.size 38)=some (.slice a.ws.A a.ws.l.length a.ws.c):=(b.f_ 38).trans rfl));refine e.out _ _ ?_;clear e u;iterate 2 ((try simp only[a_]);refine iv (v:=.bool false) rfl gs_ ?_)
    iterate 6 ((try simp only[a_]);refine ie rfl rfl rfl rfl rfl gs_ ?_)
    try simp only[a_]
    refine nE rfl rfl rfl rfl rfl (λu e=>?_);go_simp;(go_at_call_of 129 (Value.slice a.ws.A a.ws.l.length a.ws.c);((with_reducible refine(lU a.ws.A a.ws.c a.ws.l x.id x.f _ i.ws bP).mono ?_);rintro S aU⟨rfl,aD⟩;rw[cG.out];replace b:=b.hF aD;replace G:=G.hF aD;replace i:=i.hF aD;replace bd:=G.f_ 0;replace ah:=G.f_ 1;replace Np:aU.cell? (Z w.heap.size 37)=some (.slice a.rs.A a.rs.l.length a.rs.c):=(b.f_ 37).trans rfl;replace bH:aU.cell? (Z w.heap.size 38)=some (.slice a.ws.A a.ws.l.length a.ws.c):=(b.f_ 38).trans rfl));refine e.out _ _ ?_;clear e u;try simp only[a_]
    refine ie (v:=.bool true) rfl rfl rfl rfl rfl gs_ ?_;try simp only[a_]
    obtain⟨b0,D⟩:=nm_ (Value.bool true);refine iv (v:=b0) rfl (by(subst D;first|(go_simp;done)|(go_simp;with_reducible rfl))) ?_;try simp only[a_]
    refine iv (v:=b0) rfl (by(subst D;first|(go_simp;done)|(go_simp;with_reducible rfl))) ?_;try simp only[a_]
    refine iH (b':=true) rfl rfl rfl (by rw[D];rfl) rfl ?_;try simp only[a_]
    refine iH (b':=true) rfl rfl rfl (by rw[D];rfl) rfl ?_;try simp only[a_]
    refine iH (b':=true) rfl rfl rfl (by rw[D];rfl) rfl ?_;try simp only[a_]
    refine iH (b':=true) rfl rfl rfl (by rw[D];rfl) rfl ?_;try simp only[a_]
    refine iH (b':=true) rfl rfl rfl (by rw[D];rfl) rfl ?_;try simp only[a_]
    refine iH (b':=true) rfl rfl rfl (by rw[D];rfl) rfl ?_;try simp only[a_]
    refine iH (b':=true) rfl rfl rfl (by rw[D];rfl) rfl ?_;try simp only[a_]
    refine iH (b':=true) rfl rfl rfl (by rw[D];rfl) rfl ?_;try simp only[a_]
    refine iv (v:=.bool true) rfl (by(subst D;first|(go_simp;done)|(go_simp;with_reducible rfl))) ?_;try simp only[a_]
    refine wpList_nil ?_;go_wp2;go_meet;exact⟨jd HB.out.symm,M.trans aD⟩
   skip;have HB:=O (show np a.p x=true by rw[aR.out];exact Gv X);clear aR;have bm:(0<=bk)=True:=p_;clear aJ;refine wp_region_lit ?_;refine k2 b underlying53 ?_;iterate 2 ((try simp only[a_]);refine iv rfl gs_ ?_)
   try simp only[a_]
   refine nF rfl (λu e=>?_);go_simp;(go_at_call 128;((with_reducible refine(oX a x.id _ i bG).mono ?_);rintro S bQ⟨rfl,M⟩;rw[co.out];replace b:=b.hF M;replace G:=G.hF M;replace i:=i.hF M;replace bd:=G.f_ 0;replace ah:=G.f_ 1;replace Np:bQ.cell? (Z w.heap.size 37)=some (.slice a.rs.A a.rs.l.length a.rs.c):=(b.f_ 37).trans rfl;replace bH:bQ.cell? (Z w.heap.size 38)=some (.slice a.ws.A a.ws.l.length a.ws.c):=(b.f_ 38).trans rfl));refine e.out _ _ ?_;clear e u;try simp only[a_]
   refine iv (v:=.bool true) rfl gs_ ?_;try simp only[a_]
   obtain⟨b0,D⟩:=nm_ (Value.bool true);refine iv (v:=b0) rfl (by(subst D;first|(go_simp;done)|(go_simp;with_reducible rfl))) ?_;try simp only[a_]
   refine iH (b':=true) rfl rfl rfl (by rw[D];rfl) rfl ?_;try simp only[a_]
   refine iH (b':=true) rfl rfl rfl (by rw[D];rfl) rfl ?_;try simp only[a_]
   refine iH (b':=true) rfl rfl rfl (by rw[D];rfl) rfl ?_;try simp only[a_]
   refine iH (b':=true) rfl rfl rfl (by rw[D];rfl) rfl ?_;try simp only[a_]
   refine iH (b':=true) rfl rfl rfl (by rw[D];rfl) rfl ?_;try simp only[a_]
   refine iH (b':=true) rfl rfl rfl (by rw[D];rfl) rfl ?_;try simp only[a_]
   refine iH (b':=true) rfl rfl rfl (by rw[D];rfl) rfl ?_;try simp only[a_]
   refine iH (b':=true) rfl rfl rfl (by rw[D];rfl) rfl ?_;try simp only[a_]
   refine iv (v:=b0) rfl (by(subst D;first|(go_simp;done)|(go_simp;with_reducible rfl))) ?_;try simp only[a_]
   refine iv (v:=b0) rfl (by(subst D;first|(go_simp;done)|(go_simp;with_reducible rfl))) ?_;try simp only[a_]
   refine iH (b':=true) rfl rfl rfl (by rw[D];rfl) rfl ?_;try simp only[a_]
   refine iH (b':=true) rfl rfl rfl (by rw[D];rfl) rfl ?_;try simp only[a_]
   refine iH (b':=true) rfl rfl rfl (by rw[D];rfl) rfl ?_;try simp only[a_]
   refine iH (b':=true) rfl rfl rfl (by rw[D];rfl) rfl ?_;try simp only[a_]
   refine iH (b':=true) rfl rfl rfl (by rw[D];rfl) rfl ?_;try simp only[a_]
   refine iH (b':=true) rfl rfl rfl (by rw[D];rfl) rfl ?_;try simp only[a_]
   refine iH (b':=true) rfl rfl rfl (by rw[D];rfl) rfl ?_;try simp only[a_]
   refine iH (b':=true) rfl rfl rfl (by rw[D];rfl) rfl ?_;try simp only[a_]
   refine iv (v:=.bool true) rfl (by(subst D;first|(go_simp;done)|(go_simp;with_reducible rfl))) ?_;try simp only[a_]
   refine wpList_nil ?_;go_wp2;go_meet;exact⟨jd HB.out.symm,M⟩
  obtain⟨rfl,D⟩:=hcut;replace b:=b.hF D;replace n:=n.hF D;replace j:=j.hF D;replace q:=q.hF D;replace G:=G.hF D;replace i:=i.hF D;replace R:=Cs.hF R D;replace z:=Cs.hF z D;replace s:=s.trans D;clear D bd ah ay aS;cases bv:np a.p x with
  |true=>
   have aR:=O bv;clear bv;go_wp2;go_roundw;exact⟨r+1,a,X,gn,b,n,j,q,i,(by have o:=R;rw[bD.out]at o;exact o),z,by rw[aj.out,ar.out];exact xF aR.out,y.mono X,s⟩;exact mz
  |false=>
   have aR:=O bv;clear bv;have bd:=G.f_ 0;have ah:=G.f_ 1;have ay:=G.f_ 2;have aS:=G.f_ 3;have v0:=j.f_ 0;have bA:=xY a.ds.l x.id x.f;obtain⟨g,bl⟩:=mn_ (pj a.ds.l x.id x.f);rw[bl]at bA;have a2:=O bl;clear bl;rcases th g bA.1 with rfl|⟨m,rfl⟩
   .skip;have HM:=O (zi (view:=hX l) (l:=rs.l.drop (r+1)) aR.out (show pj a.p.ds x.id x.f<0 by show pj a.ds.l x.id x.f<0;rw[a2.out];decide));go_upto_region 18 with(first|(refine k2 b underlying53 ?_)|(go_at_call 130;((with_reducible refine(l9 a x.id x.f i br).mono ?_);rintro S bQ⟨rfl,M⟩;rw[a2.out];replace b:=b.hF M;replace G:=G.hF M;replace j:=j.hF M;replace bd:=G.f_ 0;replace ah:=G.f_ 1;replace ay:=G.f_ 2;replace aS:=G.f_ 3;replace v0:=j.f_ 0)));have Np:bQ.cell? (Z w.heap.size 37)=some (.slice a.rs.A a.rs.l.length a.rs.c):=(b.f_ 37).trans rfl;go_wp2_with ((go_at_call 98;((with_reducible refine(rk a.rs.A a.rs.c a.rs.l x (i.hF M).rs cU).mono ?_);unfold sf;rintro S U⟨aY,bL,rfl,cq,dD,B⟩;replace b:=b.hF B;have Np:=b.f_ 37;have cT:=b.hG 37)));have F:=M.trans B;have E:=(F_ [w.heap.size] U).setCell (p:=(Z w.heap.size 37)) (.inl H) (.slice aY (kE a.rs.l x).length bL);have cO:lm _ ({a with rs:=⟨aY,bL,kE a.rs.l x⟩}:Tk):=((λo:lm U a=>(⟨o.gs,cq,o.ws,o.nw,o.nr,o.ds,o.h8,o.yy,dD,o.vQ,o.tj,o.r9,o.pP⟩:lm U ({a with rs:=⟨aY,bL,kE a.rs.l x⟩}:Tk))) (i.hF F)).iq b sS E;go_roundw;exact⟨r+1,({a with rs:=⟨aY,bL,kE a.rs.l x⟩}:Tk),X,gn,b.hU 37 _,(n.hF F).gr E sd_,(j.hF B).gr E sd_,(q.hF F).gr E sd_,cO,(by have o:=Cs.iq (Cs.hF R F) b I E;rw[bD.out]at o;exact o),Cs.iq (Cs.hF z F) b I E,by rw[aj.out,ar.out];exact HM.out,(yn (view:=[]) y (wi aR.out (show pj a.p.ds x.id x.f<0 by show pj a.ds.l x.id x.f<0;rw[a2.out];decide))).mono X,(s.trans F).hI E H⟩;exact mz
   have cS:=O (show 0<=pj a.p.ds x.id x.f by show 0<=pj a.ds.l x.id x.f;rw[a2.out];omega);cases bF:jv a.p (hX l) x.id x.f with
   |none=>
    have bT:=O bF;clear bF;have aX:Hid (record t.p (hX l) f.p=none):=O (by rw[bB.out,aj.out,ar.out,AX aR.out cS.out bT.out]);go_upto_region 15 with(first|(refine k2 b underlying53 ?_)|(go_at_call 130;((with_reducible refine(l9 a x.id x.f i br).mono ?_);rintro S bQ⟨rfl,M⟩;rw[a2.out];replace b:=b.hF M;replace G:=G.hF M;replace j:=j.hF M;replace bd:=G.f_ 0;replace ah:=G.f_ 1;replace ay:=G.f_ 2;replace aS:=G.f_ 3;replace v0:=j.f_ 0)));go_wp2_with (first|(refine k2 b underlying53 ?_)|(refine k2 j underlying35 ?_)|(go_at_call 131;((with_reducible refine(uu a A c l x.id x.f (i.hF M) (h.hF (s.trans M)) cZ hl bT.out).mono ?_);unfold nt;rintro S U⟨t3,rfl,cK,bJ,B⟩;replace b:=b.hF B))|(refine kP (t3.g_) b (Tk.one _) ?_;intro ae bu K)|(refine k2 bu underlying53 ?_)|(refine kP (t3.g_) (((q.hF M).hF B).gr K sd_) (Tk.one _) ?_;intro Nr aB bx));have V:=(((s.trans M).trans B).hI K H).hI bx p_;exact LO
   |some P=>
    have bT:=O bF;clear bF;go_upto_region 15 with(first|(refine k2 b underlying53 ?_)|(go_at_call 130;((with_reducible refine(l9 a x.id x.f i br).mono ?_);rintro S bQ⟨rfl,M⟩;rw[a2.out];replace b:=b.hF M;replace G:=G.hF M;replace j:=j.hF M;replace bd:=G.f_ 0;replace ah:=G.f_ 1;replace ay:=G.f_ 2;replace aS:=G.f_ 3;replace v0:=j.f_ 0)));go_wp2_with (first|(refine k2 b underlying53 ?_)|(refine k2 j underlying35 ?_)|(go_at_call 131;((with_reducible refine(sY a A c l x.id x.f P (i.hF M) (h.hF (s.trans M)) cZ hl bT.out).mono ?_);unfold nt;rintro S U⟨t3,rfl,cK,bJ,B⟩;replace b:=b.hF B))|(refine kP (t3.g_) b (Tk.one _) ?_;intro ae bu K));have F:=M.trans B;go_roundw;exact⟨r+1,t3,X,gn,bu,(n.hF F).gr K sd_,(j.hF B).gr K sd_,(q.hF F).gr K sd_,cK.iq b sS K,(by have o:=Cs.iq (Cs.hF R F) b I K;rw[bD.out]at o;exact o),Cs.iq (Cs.hF z F) b I K,by rw[aj.out,ar.out,zh aR.out cS.out bT.out,bJ],by rw[bJ];exact(pS y bT.out).mono X,(s.trans F).hI K H⟩;exact mz
 have aG:¬(r:Int)<(rs.l.length:Int):=X;have cf:=O (show j8 (hX l) T.p rs.l=some a.p by rw[aj.out,GD X];rfl);clear aj;replace y:=y.mono (show 1001000+2*r<=1003000 by omega);clear ag hk;have bI:a.nw.l.length<=1003000:=by have:=y.nw;rwa [show a.p.nw=hX a.nw.l from rfl,h5]at this
 have b4:f.nw.l.length<=1000:=by have:=hes.nw;rwa [show f.p.nw=hX f.nw.l from rfl,h5]at this
 have b8:f.h8.l.length<=1000:=hes.h8;go_wp2_with fail;clear aG;obtain⟨dq,da,c7,c8,c9⟩:=info_parts infoOb;have Nw:J [] wr wr.drew:=(F_ [] wr).drew;have bV:Sl wr.drew 56 2 a.nw.A a.nw.l.length (iT a.nw.l):=Sl.hF i.nw Nw;have hbs:wr.heap.size<=wr.drew.heap.size:=H_ _;refine hN (λw'=>w'.cell? (Z w.heap.size 39)=some (.slice a.nw.A a.nw.l.length a.nw.c)/\w'.cell? (Z (w.heap.size+1+1) 36)=some (.slice f.nw.A f.nw.l.length f.nw.c)) 7 k_ ?_;refine mC ⟨((b.hF Nw).f_ 39).trans rfl,((n.hF Nw).f_ 36).trans rfl⟩ λk=>?_;refine ir 0 k ?_;refine ir 3 k ?_;refine ir 1 k ?_;refine ir 4 k ?_;refine hY 2 λu e=>?_;refine nA rfl (.const (n_)) (.tmp 102) 33 rfl (wr.heap.size) 56 dq _ 2 32 underlying33 da c7 c8 c9 rfl I I none 0 0 [] rfl (iS _ _ _ _) a.nw.A a.nw.l.length a.nw.c _ r_ bV (jA _) X hbs ?_;intro aL aI W cw ap;simp only[X_,Gf]at cw;rw[X_];have C:J [] wr W:=ap.gr [] wr (H_ _) Nw;clear k;have k:W.cell? (Z w.heap.size 39)=some (.slice a.nw.A a.nw.l.length a.nw.c)/\W.cell? (Z (w.heap.size+1+1) 36)=some (.slice f.nw.A f.nw.l.length f.nw.c):=⟨((b.hF C).f_ 39).trans rfl,((n.hF C).f_ 36).trans rfl⟩;have bX:Sl W 56 2 f.nw.A f.nw.l.length (iT f.nw.l):=(he.hF (s.trans C)).nw;refine h4 e k λk=>?_;clear e u;refine hY 5 λu e=>?_;refine nA rfl (.tmp 103) (.tmp 105) 33 rfl (wr.heap.size) 56 dq _ 2 32 underlying33 da c7 c8 c9 rfl I I aL a.nw.l.length aI _ r_ cw f.nw.A f.nw.l.length f.nw.c _ r_ bX (jA _) X C.size ?_;intro bp D L bY cb;have N:J [] wr L:=cb.gr [] wr (H_ _) C;clear k;have k:L.cell? (Z w.heap.size 39)=some (.slice a.nw.A a.nw.l.length a.nw.c)/\L.cell? (Z (w.heap.size+1+1) 36)=some (.slice f.nw.A f.nw.l.length f.nw.c):=⟨((b.hF N).f_ 39).trans rfl,((n.hF N).f_ 36).trans rfl⟩;have cR:=k.1;have cI:=(b.hF N).hG 39;refine h4 e k λk=>?_;clear e u;refine hY 6 λu e=>?_;go_simp;refine h4 e k λk=>?_;clear e u;refine hY 7 λu e=>?_;go_simp;refine e.out _ _ (λh=>Gc h I) ?_;clear e u;try simp only[a_]
 refine hM k_ ?_ _;obtain⟨tn,cA⟩:=nm_ ({a with nw:=⟨bp,D,a.nw.l++f.nw.l⟩});have iF:(a.nw.l++f.nw.l).length=a.nw.l.length+f.nw.l.length:=I_;have ao:=b.hF N;have cc:=ao.hU 39 (.slice bp (a.nw.l.length+f.nw.l.length) D);have bE:tn.g_=a.g_.setIfInBounds 39 (.slice bp (a.nw.l.length+f.nw.l.length) D):=by rw[cA,<-iF];rfl
 rw[<-bE]at cc;have E:=(F_ [w.heap.size] L).setCell (p:=(Z w.heap.size 39)) (.inl H) (.slice bp (a.nw.l.length+f.nw.l.length) D);have cu:=Sl.iP bY;rw[<-iF]at cu;replace n:=(n.hF N).gr E sd_;replace j:=(j.hF N).gr E sd_;replace q:=(q.hF N).gr E sd_;replace z:=Cs.iq (Cs.hF z N) ao I E;have cz:lm (L.setCell (Z w.heap.size 39) (.slice bp (a.nw.l.length+f.nw.l.length) D)) tn:=by
  have o:=i.hF N;have bG:=he.hF (s.trans N);have bP:Os L bp (a.nw.l++f.nw.l):=by unfold Os;rw[ld];exact cu
  have cU:lm L tn:=by rw[cA];exact⟨o.gs,o.rs,o.ws,bP,λch hr=>(W_.1 hr).elim (o.nr ch) (bG.nr ch),o.ds,o.h8,o.yy,o.k8,o.vQ,(by show(a.nw.l++f.nw.l).length<=D;rw[iF];exact iY bY),o.r9,o.pP⟩
  exact cU.iq ao sS E
 have cD:=O (show tn.p={a.p with nw:=a.p.nw++hX f.nw.l} by rw[cA];show({a.p with nw:=hX (a.nw.l++f.nw.l)}:jb)=_;unfold hX;rw[Gd];rfl);have ci:tn.p.sm 1004000:=by
  rw[cD.out];exact⟨G_ y.gs I,G_ y.rs I,G_ y.ws I,(by have:=y.nw;have:=hes.nw;show(a.p.nw++f.p.nw).length<=_;rw[I_];omega),G_ y.ds I,G_ y.h8 I⟩
 replace s:=(s.trans N).hI E H;obtain⟨bq,b5⟩:=nm_ (L.setCell (Z w.heap.size 39) (.slice bp (a.nw.l.length+f.nw.l.length) D));rw[<-b5]at cc cz n j q z s |-;clear b5;clear b ao bE E cu C N cw bY ap cb k cR cI bV bX hbs Nw cA i R;have b:=cc;clear cc
 have b7:Hid (record t.p (hX l) f.p=(match kx (hX l) tn.p ws.l with
  |none=>none
  |some aA=>some {aA with h8:=aA.h8++f.h8.l})):=O (by have o:=bB.out;rw[cf.out]at o;rw[cD.out];exact o)
 clear bB cf cD;have cC:bq.cell? (Z (w.heap.size+1+1) 35)=some (.slice ws.A ws.l.length ws.c):=(n.f_ 35).trans rfl;go_wp2;go_loopw [111] (λan wr=>∃(r:Nat) (t3:Tk),r<=ws.l.length/\an=Y r/\Bk wr (w.heap.size) 53 t3.g_/\Bk wr (w.heap.size+1+1) 134 ({f with rs:=rs,ws:=ws}:Ef).g_/\Bk wr (w.heap.size+1) 35 #[.slice A l.length c]/\Bk wr (w.heap.size+1+1+1) 53 lE/\lm wr t3/\Cs wr ws.A ws.l/\kx (hX l) tn.p ws.l=kx (hX l) t3.p (ws.l.drop r)/\t3.p.sm (1004000+3*r)/\J [] w wr) (λan _=>ws.l.length-(intOf an).toNat)
 case atStart=>exact⟨0,tn,L_ _,rfl,b,n,j,q,cz,z,rfl,ci.mono X,s⟩
 clear b n j q cz z s cC ci y;obtain⟨r,a,hk,rfl,b,n,j,q,i,z,aO,y,s⟩:=hrel;have aj:=O aO;clear aO;by_cases ag:r<ws.l.length
 .have aG:(r:Int)<(ws.l.length:Int):=X;have br:a.ds.l.length<=1000000000:=G_ y.ds X;have bG:a.nw.l.length<=1000000000:=by have:=y.nw;rw[show a.p.nw=hX a.nw.l from rfl,h5]at this;omega
  have bP:a.ws.l.length<=1000000000:=G_ y.ws X;have cU:a.rs.l.length<=1000000000:=G_ y.rs X;have cZ:a.p.sm 100000000:=y.mono X;obtain⟨aA,off,aV,bj,bn,bN,bR⟩:=Cs.at_ z ag;rw[aV];have bD:=O aV;have ar:=O (show ws.l.drop r=ws.l[r]::ws.l.drop (r+1) from R_ ag);generalize ws.l[r]=x at*;have M:=(F_ [] wr).alloc (.cells #[Y x.id,Y x.f,.bool x.v.r,Y x.v.n] 116);have dg:w.heap.size+1+1+1<wr.heap.size:=q.lt;have G:=P_ wr 116 #[Y x.id,Y x.f,.bool x.v.r,Y x.v.n];go_upto_region 24 with fail;replace b:=b.hF M;replace n:=n.hF M;replace j:=j.hF M;replace q:=q.hF M;replace i:=i.hF M;replace z:=Cs.hF z M;replace s:=s.trans M;clear M bj bn bN bR aV;obtain⟨dy,de⟩:=nm_ (wr.alloc (.cells #[Y x.id,Y x.f,.bool x.v.r,Y x.v.n] 116));rw[<-de]at b n j q i z G s |-;clear de;generalize wr.heap.size=Q at*;have bd:=G.f_ 0;have ah:=G.f_ 1;have ay:=G.f_ 2;have aS:=G.f_ 3;have v0:=j.f_ 0
  cases bF:jv a.p (hX l) x.id x.f with
  |none=>
   have bT:=O bF;clear bF;have aX:Hid (record t.p (hX l) f.p=none):=O (by rw[b7.out,aj.out,ar.out,AW bT.out]);go_wp2_with (first|(refine k2 b underlying53 ?_)|(refine k2 j underlying35 ?_)|(go_at_call 131;((with_reducible refine(uu a A c l x.id x.f i (h.hF s) cZ hl bT.out).mono ?_);unfold nt;rintro S U⟨t3,rfl,cK,bJ,B⟩;replace b:=b.hF B))|(refine kP (t3.g_) b (Tk.one _) ?_;intro ae bu K)|(refine k2 bu underlying53 ?_)|(refine kP (t3.g_) ((q.hF B).gr K sd_) (Tk.one _) ?_;intro Nr aB bx));have V:=((s.trans B).hI K H).hI bx p_;exact LO
  |some P=>
   have bT:=O bF;clear bF;go_upto_region 27 with(first|(refine k2 b underlying53 ?_)|(refine k2 j underlying35 ?_)|(go_at_call 131;((with_reducible refine(sY a A c l x.id x.f P i (h.hF s) cZ hl bT.out).mono ?_);unfold nt;rintro S U⟨t3,rfl,cK,bJ,B⟩;replace b:=b.hF B))|(refine kP (t3.g_) b (Tk.one _) ?_;intro ae bu K));replace n:=(n.hF B).gr K sd_;replace j:=(j.hF B).gr K sd_;replace q:=(q.hF B).gr K sd_;replace G:=(G.hF B).gr K sd_;replace z:=Cs.iq (Cs.hF z B) b I K;replace cK:=cK.iq b sS K;replace s:=(s.trans B).hI K H;have au:=O bJ;have cJ:t3.p.sm (1004000+3*r+2):=by rw[bJ];exact pS y bT.out
   have r2:t3.nw.l.length<=1000000000:=by have:=cJ.nw;rw[show t3.p.nw=hX t3.nw.l from rfl,h5]at this;omega
   have r3:t3.ws.l.length<=1000000000:=G_ cJ.ws X;clear b B K bJ bd ah ay aS;have b:=bu;clear bu;have bd:=G.f_ 0;have ah:=G.f_ 1;have ay:=G.f_ 2;have aS:=G.f_ 3;go_wp2_with (first|(refine k2 b underlying53 ?_)|(go_at_call 132;((with_reducible refine(rE t3 x cK r2 r3).mono ?_);unfold tU;rintro S Nq⟨t4,rfl,cO,aT,ai⟩;replace b:=b.hF ai))|(refine kP (t4.g_) b (Tk.one _) ?_;intro W bW C));go_roundw;exact⟨r+1,t4,X,gn,bW,(n.hF ai).gr C sd_,(j.hF ai).gr C sd_,(q.hF ai).gr C sd_,cO.iq b sS C,(by have o:=Cs.iq (Cs.hF z ai) b I C;rw[bD.out]at o;exact o),by rw[aj.out,ar.out,zg bT.out,aT,au.out],by rw[aT];exact(rc cJ x).mono X,(s.trans ai).hI C H⟩;exact mz
 have aG:¬(r:Int)<(ws.l.length:Int):=X;have cn:=O (show kx (hX l) tn.p ws.l=some a.p by rw[aj.out,GD X];rfl);clear aj;replace y:=y.mono (show 1004000+3*r<=1007000 by omega);have dk:a.h8.l.length<=1007000:=y.h8;clear ag hk;go_wp2_with fail;clear aG;obtain⟨dn,c6,cV,cW,cY⟩:=info_parts infoAc;have Nw:J [] wr wr.drew:=(F_ [] wr).drew;have bV:Sl wr.drew 162 3 a.h8.A a.h8.l.length ((a.h8.l).flatMap Ac.E):=Sl.hF i.h8 Nw;have hbs:wr.heap.size<=wr.drew.heap.size:=H_ _;refine hN (λw'=>w'.cell? (Z w.heap.size 41)=some (.slice a.h8.A a.h8.l.length a.h8.c)/\w'.cell? (Z (w.heap.size+1+1) 38)=some (.slice f.h8.A f.h8.l.length f.h8.c)) 7 k_ ?_;refine mC ⟨((b.hF Nw).f_ 41).trans rfl,((n.hF Nw).f_ 38).trans rfl⟩ λk=>?_;refine ir 0 k ?_;refine ir 3 k ?_;refine ir 1 k ?_;refine ir 4 k ?_;refine hY 2 λu e=>?_;refine nA rfl (.const (n_)) (.tmp 133) 36 rfl (wr.heap.size) 162 dn _ 3 24 underlying36 c6 cV cW cY rfl I I none 0 0 [] rfl (iS _ _ _ _) a.h8.A a.h8.l.length a.h8.c _ r_ bV (tT) X hbs ?_;intro aL aI W cw ap;simp only[X_,Gf]at cw;rw[X_];have C:J [] wr W:=ap.gr [] wr (H_ _) Nw;clear k;have k:W.cell? (Z w.heap.size 41)=some (.slice a.h8.A a.h8.l.length a.h8.c)/\W.cell? (Z (w.heap.size+1+1) 38)=some (.slice f.h8.A f.h8.l.length f.h8.c):=⟨((b.hF C).f_ 41).trans rfl,((n.hF C).f_ 38).trans rfl⟩;have bX:Sl W 162 3 f.h8.A f.h8.l.length ((f.h8.l).flatMap Ac.E):=(he.hF (s.trans C)).h8;refine h4 e k λk=>?_;clear e u;refine hY 5 λu e=>?_;refine nA rfl (.tmp 134) (.tmp 136) 36 rfl (wr.heap.size) 162 dn _ 3 24 underlying36 c6 cV cW cY rfl I I aL a.h8.l.length aI _ r_ cw f.h8.A f.h8.l.length f.h8.c _ r_ bX (tT) X C.size ?_;intro bp D L bY cb;have N:J [] wr L:=cb.gr [] wr (H_ _) C;clear k;have k:L.cell? (Z w.heap.size 41)=some (.slice a.h8.A a.h8.l.length a.h8.c)/\L.cell? (Z (w.heap.size+1+1) 38)=some (.slice f.h8.A f.h8.l.length f.h8.c):=⟨((b.hF N).f_ 41).trans rfl,((n.hF N).f_ 38).trans rfl⟩;have cR:=k.1;have cI:=(b.hF N).hG 41;refine h4 e k λk=>?_;clear e u;refine hY 6 λu e=>?_;go_simp;refine h4 e k λk=>?_;clear e u;refine hY 7 λu e=>?_;go_simp;refine e.out _ _ (λh=>Gc h I) ?_;clear e u;try simp only[a_]
 refine hM k_ ?_ _;obtain⟨tf,cy⟩:=nm_ ({a with h8:=⟨bp,D,a.h8.l++f.h8.l⟩});have iF:(a.h8.l++f.h8.l).length=a.h8.l.length+f.h8.l.length:=I_;have ao:=b.hF N;have cc:=ao.hU 41 (.slice bp (a.h8.l.length+f.h8.l.length) D);have bE:tf.g_=a.g_.setIfInBounds 41 (.slice bp (a.h8.l.length+f.h8.l.length) D):=by rw[cy,<-iF];rfl
 rw[<-bE]at cc;have E:=(F_ [w.heap.size] L).setCell (p:=(Z w.heap.size 41)) (.inl H) (.slice bp (a.h8.l.length+f.h8.l.length) D);have cu:=Sl.iP bY;rw[<-iF]at cu;replace n:=(n.hF N).gr E sd_;replace j:=(j.hF N).gr E sd_;replace q:=(q.hF N).gr E sd_;replace z:=Cs.iq (Cs.hF z N) ao I E;have dh:lm (L.setCell (Z w.heap.size 41) (.slice bp (a.h8.l.length+f.h8.l.length) D)) tf:=by
  have o:=i.hF N;have bP:As L bp (a.h8.l++f.h8.l):=by unfold As;rw[Gs];exact cu
  have cU:lm L tf:=by rw[cy];exact⟨o.gs,o.rs,o.ws,o.nw,o.nr,o.ds,bP,o.yy,o.k8,o.vQ,o.tj,o.r9,(by show(a.h8.l++f.h8.l).length<=D;rw[iF];exact iY bY)⟩
  exact cU.iq ao sS E
 have b6:=O (show record t.p (hX l) f.p=some tf.p by rw[b7.out,cn.out,cy];rfl);replace s:=(s.trans N).hI E H;obtain⟨aZ,bS⟩:=nm_ (L.setCell (Z w.heap.size 41) (.slice bp (a.h8.l.length+f.h8.l.length) D));rw[<-bS]at cc dh n j q z s |-;clear bS;clear b ao bE E cu C N cw bY ap cb k cR cI bV hbs Nw cy i b7 cn
 go_wp2_with (first|(refine k2 cc underlying53 ?_)|(refine kP (tf.g_) q (Tk.one _) ?_;intro Nr aB bx));have V:=s.hI bx p_;exact lW tf.g_ (.bool true) aB underlying53 (by rw[b6.out];exact⟨tf,rfl,V,λP h=>by injection h with h;subst h;exact⟨dh.iq q sS bx,rfl⟩⟩)
def J.jN{a b c:World}(h:J [] a b)(k:J [g] b c)(f:a.heap.size<=g):J [] a c:=h.hI k (λx e=>.inr (by rw[J_]at e;rw[e];exact f))
def wU(g:Cl):(kM rs h g).length=h.length:=by
 unfold kM;split;exact jY _ _;rfl
def wS(a:QX)(h:QQ):(a.foldl (kM rs) h).length=h.length:=by
 induction a generalizing h with
 |nil=>rfl
 |cons g a b=>rw[HN,b,wU]
def xk(t:jb)(view:QQ):(jq t view).length<=view.length+t.nw.length:=by
 unfold jq before;rw[nZ,jY];have:=oS t.nw (iV (t.gs.foldl (kM t.rs) view) t.rs);rw[jY,wS]at this;exact this
def nf(t:Tk):∀a,a<33->t.g_[3+a]?=(iK t.pc t.r)[a]?
 |0,_=>rfl
 |1,_=>rfl
 |2,_=>rfl
 |3,_=>rfl
 |4,_=>rfl
 |5,_=>rfl
 |6,_=>rfl
 |7,_=>rfl
 |8,_=>rfl
 |9,_=>rfl
 |10,_=>rfl
 |11,_=>rfl
 |12,_=>rfl
 |13,_=>rfl
 |14,_=>rfl
 |15,_=>rfl
 |16,_=>rfl
 |17,_=>rfl
 |18,_=>rfl
 |19,_=>rfl
 |20,_=>rfl
 |21,_=>rfl
 |22,_=>rfl
 |23,_=>rfl
 |24,_=>rfl
 |25,_=>rfl
 |26,_=>rfl
 |27,_=>rfl
 |28,_=>rfl
 |29,_=>rfl
 |30,_=>rfl
 |31,_=>rfl
 |32,_=>rfl
 |n+33,h=>Gc h X
def BA(t:Ef):∀a,a<33->t.g_[1+a]?=(iK t.pc t.r)[a]?
 |0,_=>rfl
 |1,_=>rfl
 |2,_=>rfl
 |3,_=>rfl
 |4,_=>rfl
 |5,_=>rfl
 |6,_=>rfl
 |7,_=>rfl
 |8,_=>rfl
 |9,_=>rfl
 |10,_=>rfl
 |11,_=>rfl
 |12,_=>rfl
 |13,_=>rfl
 |14,_=>rfl
 |15,_=>rfl
 |16,_=>rfl
 |17,_=>rfl
 |18,_=>rfl
 |19,_=>rfl
 |20,_=>rfl
 |21,_=>rfl
 |22,_=>rfl
 |23,_=>rfl
 |24,_=>rfl
 |25,_=>rfl
 |26,_=>rfl
 |27,_=>rfl
 |28,_=>rfl
 |29,_=>rfl
 |30,_=>rfl
 |31,_=>rfl
 |32,_=>rfl
 |n+33,h=>Gc h X
def um(t:Tk)(pc:Int)(r:Nat->Vl):ve t.g_ 3 (iK pc r).toList=({t with pc:=pc,r:=r}:Tk).g_:=rfl
def lm.of{t t':Tk}(h:lm w t)(f:t'.gs=t.gs)(i:t'.rs=t.rs)(j:t'.ws=t.ws)(a:t'.nw=t.nw)(b:t'.ds=t.ds)(e:t'.h8=t.h8):lm w t':=
 ⟨by rw[f];exact h.gs,by rw[i];exact h.rs,by rw[j];exact h.ws,by rw[a];exact h.nw,by rw[a];exact h.nr,by rw[b];exact h.ds,by rw[e];exact h.h8,by rw[f];exact h.yy,by rw[i];exact h.k8,by rw[j];exact h.vQ,by rw[a];exact h.tj,by rw[b];exact h.r9,by rw[e];exact h.pP⟩
