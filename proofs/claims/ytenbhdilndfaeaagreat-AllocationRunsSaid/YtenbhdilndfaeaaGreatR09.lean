import Derived.Test.YtenbhdilndfaeaaGreatR04
set_option maxRecDepth 100000
set_option maxHeartbeats 0
set_option linter.all false
namespace Go.Proofs.YtenbhdilndfaeaaGreat
open Go.RowKit Go.Proofs.Tryz
variable{G:Prop}{w:World}{k:Nat}(l:List In)(A:OA)(hq g9:Int)
def IV(h:G:=by
 go_wp2_with ((go_at_call 147;have ag:=rr c l hq g9 k g (h.g_ hg1) (C.g_ hg1) aF X;rw[hL,hf]at ag;refine ag.mono ?_;rintro e ad⟨rfl,hg⟩;replace t:=t.g_ hg;have MN:=t.f_ 0;have aX:=t.f_ 4;replace hg1:=hg1.trans hg;replace au:=hB.g_ hg1;clear z0 aR aU;have z0:=au.f_ 0;have aR:=au.f_ 1;have aU:=au.f_ 2;clear hg))
 go_ret;exact⟨iw D.out.symm,MR.trans hg1⟩):G:=h
def I2(h:G:=by
 go_enter func97,ntmps97
 go_wp2_with (go_at_call 133;refine(qJ A c l hq g9 _ (h.g_ hg1) hn).mono ?_;rintro e ad⟨rfl,hg⟩;replace hg1:=hg1.trans hg;replace hB:=hB.g_ hg;have z0:=hB.f_ 0;have aR:=hB.f_ 1;have aU:=hB.f_ 2;clear hg)
 exact K9):G:=h
def JP(h:G:=by
 have aL:((n:Int)<1)=False:=p_;have aQ:(2048<(n:Int))=False:=p_;have y:(hq<0)=False:=p_;have z:(64<hq)=False:=p_;exact Mm):G:=h
def JV(h:G:=by
 have M:=O (show ru l hq g9 d=false by unfold ru;rw[E.out,pm (p:=bad d g9) a (by rw[Hn];exact aQ.out)];rfl);clear E aQ;go_wp2;go_ret;exact⟨iw M.out.symm,MR.trans F⟩):G:=h
def K9(h:G:=by
 go_ret;exact⟨iw (by first|exact D.out.symm|(rw[D.out];simp[a,d,e])|(rw[D.out];simp[a])),hg1⟩):G:=h
def LY(h:G:=by
 go_enter func147,ntmps147
 go_wp2;go_ret;exact⟨iw ag.out.symm,MR.alloc _⟩):G:=h
def Mm(h:G:=by
 go_enter func92,ntmps92
 go_wp2;go_ret;exact⟨iw D.out.symm,MR⟩):G:=h
def DY{g:Nat}(h:Sl w 274 4 (j_ g) 22 qY)(s:k<22):
 w.cell? (Z g (k*4))=some (.bool (iK.getD k default).a)/\w.cell? (Z g (k*4+1))=some (.bool (iK.getD k default).b)/\w.cell? (Z g (k*4+2))=some (.bool (iK.getD k default).c)/\w.cell? (Z g (k*4+3))=some (Y (iK.getD k default).n):=by
 obtain⟨b,u,f,q⟩:=Sl.f_ h X;injection f with f;injection f with o p;subst o;subst p;have i:k<iK.length:=s
 have m:iK.getD k default=iK[k]:=by simp[List.getD,L_ i]
 rw[m]
 have g:=λd r=>jg Sh.E 4 (λ_=>rfl) iK k d i r
 have e:=λd j(t:qY[d]?=some j)=>by have:=q d j t;rwa [W_]at this
 exact⟨e (k*4+0) _ (g 0 X),e (k*4+1) _ (g 1 X),e (k*4+2) _ (g 2 X),e (k*4+3) _ (g 3 X)⟩
def BF(c:Nat)(l:List In)(hq g9:Int)(i g:Nat)(w:World)(h:Is w A l)(b:i<l.length)(v:l.length<=1000000000)(a:l[i].op<0∨21<l[i].op):
 Calls prog 147 #[.agg #[.slice A l.length c,Y hq,Y g9],Y i,.slice (j_ g) 22 22] w λe w'=>e=.returned (.bool (kD l i))/\J [] w w':=by
 have ag:=O (show kD l i=false by
  unfold kD jF
  have e:l.getD i default=l[i]:=by simp[List.getD,L_ b]
  rw[e,O_ a])
 have MR:=(H [] w).alloc (.cells #[.slice A l.length c,Y hq,Y g9] 26);obtain⟨t,y,rfl,m,n,f,j,d⟩:=(h.g_ MR).at_ b;have r:(i:Int)<(l.length:Int):=X;generalize l[i]=p at*;obtain⟨op,q,s,u,x⟩:=p;simp only at a m n f j d
 rcases a with o|o
 .exact LY
 .exact LY
def Dz(h:G:=by first|(simp[r1];done)|(simp[r1,r2,e13,e10,h13,h10];done)|(simp[r1,r2,r3,e13,e10,h13,h10];done)|(simp[r1,r2,r3,e13,e10,h13,h10,m0];done)|(simp[r1,r2,r3,e13,e10,h13,h10,m1];done)|(simp[r1,r2,r3,e13,e10,h13,h10,mb];done)|(simp[r1,r2,r3,e13,e10,h13,h10,mb,m1];done)|(simp[r1,r2,r3,e13,e10,h13,h10,mb,m1,m2];done)|(simp[r1,r2,r3,e13,e10,h13,h10,m1,m2];done)|(simp[r1,r2,r3,e13,e10,h13,h10,m1,m2,m3];done)|(simp[r1,r2,r3,e13,e10,h13,h10,m1,m2,m3,m4];done)|(simp[r1,r2,r3,e13,e10,h13,h10,m0,m1];done)|(simp[r1,e13,e10,n1];done)|(simp[r1,e13,e10,n1,n2];done)|(simp[r1,e13,e10,n1,n2,n3];done)|(simp[r1,e13,e10,n1,n2,n3,n4];done)|(simp[r1,e13,e10,n1,n2,n3,n4,n5];done)|(simp[r1,e13,e10,n1,n2,n3,n4,n5,m1];done)|(simp[r1,r3,e13,e10];done)|(simp[r1,r3,e13,e10,r4];done)|(simp[r1,r3,e13,e10,r4,m1];done)|(simp[r1,r3,e13,e10,r4,m1,m2];done)|fail):G:=h
def kt(h:G:=by
 first|(have aO:Hid (MN=false):=O (by rw[<-HZ.out];unfold jF;dsimp only;rw[I_ X];exact Dz))|(have aO:Hid (MN=true):=O (by rw[<-HZ.out];unfold jF;dsimp only;rw[I_ X];exact Dz))
 go_wp2_with (first
  |(go_at_call 178;refine(vp).mono ?_;rintro e w2⟨rfl,rfl⟩)
  |(go_at_call 133;refine(qJ _ c l hq g9 _ (h.g_ f) hn).mono ?_;rintro e w2⟨rfl,hg⟩;have f:=f.trans hg;have q3:=q3.g_ hg;have cz:=cz.g_ hg;have cN:=cN.g_ hg;have o:=q3.f_ 0;have q:=q3.f_ 1;have r:=q3.f_ 2;have u:=cz.f_ 0;have v:=cz.f_ 1;have y:=cz.f_ 2;have z:=cz.f_ 3;have B:=cz.f_ 4;have D:=cN.f_ 0;have E:=cN.f_ 1;have F:=cN.f_ 2;have MR:=cN.f_ 3)
  |(go_at_call 179;refine(vd _ _).mono ?_;rintro e w2⟨rfl,rfl⟩)
  |(go_at_call 180;refine(ri _).mono ?_;rintro e w2⟨⟨st,rfl⟩,hg⟩;have f:=f.trans hg;have q3:=q3.g_ hg;have cz:=cz.g_ hg;have cN:=cN.g_ hg;have o:=q3.f_ 0;have q:=q3.f_ 1;have r:=q3.f_ 2;have u:=cz.f_ 0;have v:=cz.f_ 1;have y:=cz.f_ 2;have z:=cz.f_ 3;have B:=cz.f_ 4;have D:=cN.f_ 0;have E:=cN.f_ 1;have F:=cN.f_ 2;have MR:=cN.f_ 3))
 go_ret
 exact⟨iw (by first|exact aO.out.symm|(rw[aO.out];exact Dz)),f⟩):G:=h
def Dy(A:Option Addr)(c:Nat)(l:List In)(hq g9:Int)(i g:Nat)(w:World)(h:Is w A l)(C:Sl w 274 4 (j_ g) 22 qY)(V:i<l.length)(hn:l.length<=1000000000)(h0:0<=l[i].op)(t:l[i].op<=21):
 Calls prog 147 #[.agg #[.slice A l.length c,Y hq,Y g9],Y i,.slice (j_ g) 22 22] w λe w'=>e=.returned (.bool (kD l i))/\J [] w w':=by
 have T:kD l i=jF l i l[i] (iK.getD l[i].op.toNat default):=by
  unfold kD
  have e:l.getD i default=l[i]:=by simp[List.getD,L_ V]
  rw[e]
 rw[T];clear T;have Q:=(((H [] w).alloc (.cells #[.slice A l.length c,Y hq,Y g9] 26)));obtain⟨x,I,rfl,bm,bu,bH,bM,aY⟩:=(h.g_ Q).at_ V;have aj:(i:Int)<(l.length:Int):=X;have R:=Cf l[i].op.toNat X;have P:=Q.alloc (.cells #[Y l[i].op,Y l[i].a,Y l[i].b,Y l[i].c,Y l[i].n] 189);obtain⟨MT,bQ,bY,cp⟩:=DY (C.g_ P) (k:=l[i].op.toNat) X
 have N:l[i].op=13->iK.getD l[i].op.toNat default=⟨false,false,false,7⟩:=λh=>by rw[h];rfl
 have M:l[i].op=10->iK.getD l[i].op.toNat default=⟨true,false,false,5⟩:=λh=>by rw[h];rfl
 generalize iK.getD l[i].op.toNat default=ad at*;obtain⟨m,p,s,d⟩:=ad;generalize l[i]=ae at*;obtain⟨op,a,b,j,n⟩:=ae;obtain⟨k,hk⟩:∃k:Nat,op=k:=⟨op.toNat,(GF h0).symm⟩;simp only at*;subst hk;simp only[F0]at*;have de:(k:Int)<22:=X;obtain⟨MN,S⟩:=mn_ (jF l i ⟨k,a,b,j,n⟩ ⟨m,p,s,d⟩);rw[S];have HZ:=O S;clear S
 go_enter func147,ntmps147
 go_wp2_with fail
 go_quiet (fail)
 have U:=P.alloc (.cells #[.bool m,.bool p,.bool s,Y d] 274);have r3:Bk _ w.heap.size 26 #[.slice (some (Z x I)) l.length c,Y hq,Y g9]:=((Q_ w 26 #[.slice (some (Z x I)) l.length c,Y hq,Y g9]).alloc (.cells #[Y (k:Int),Y a,Y b,Y j,Y n] 189)).alloc (.cells #[.bool m,.bool p,.bool s,Y d] 274);have W:Bk _ (w.heap.size+1) 189 #[Y (k:Int),Y a,Y b,Y j,Y n]:=(by simpa using(Q_ (w.alloc (.cells #[.slice (some (Z x I)) l.length c,Y hq,Y g9] 26)) 189 #[Y (k:Int),Y a,Y b,Y j,Y n]).alloc (.cells #[.bool m,.bool p,.bool s,Y d] 274):Bk (((w.alloc (.cells #[.slice (some (Z x I)) l.length c,Y hq,Y g9] 26)).alloc (.cells #[Y (k:Int),Y a,Y b,Y j,Y n] 189)).alloc (.cells #[.bool m,.bool p,.bool s,Y d] 274)) (w.heap.size+1) 189 #[Y (k:Int),Y a,Y b,Y j,Y n]);obtain⟨-,-,G,-⟩:=xj w 26 #[.slice (some (Z x I)) l.length c,Y hq,Y g9] 189 #[Y (k:Int),Y a,Y b,Y j,Y n] 274 #[.bool m,.bool p,.bool s,Y d];have f:=U.drewN nq;have q3:=r3.drewN nq;have cz:=W.drewN nq;have cN:=G.drewN nq;clear MT bQ bY cp bm bu bH bM aY C P Q U r3 W G;generalize (((w.alloc (.cells #[.slice (some (Z x I)) l.length c,Y hq,Y g9] 26)).alloc (.cells #[Y (k:Int),Y a,Y b,Y j,Y n] 189)).alloc (.cells #[.bool m,.bool p,.bool s,Y d] 274)).drewN nq=w1 at*;have o:=q3.f_ 0;have q:=q3.f_ 1;have r:=q3.f_ 2;have u:=cz.f_ 0;have v:=cz.f_ 1;have y:=cz.f_ 2;have z:=cz.f_ 3;have B:=cz.f_ 4;have D:=cN.f_ 0;have E:=cN.f_ 1;have F:=cN.f_ 2;have MR:=cN.f_ 3
 by_cases h13:(k:Int)=13
 .have K:=N h13;simp only[Sh.mk.injEq]at K;obtain⟨rfl,rfl,rfl,rfl⟩:=K;clear N M R;obtain rfl:k=13:=X;simp only[Int.cast_ofNat_Int]at*;have e13:((13:Int)==13)=true:=rfl;have e10:((13:Int)==10)=false:=rfl
  cases r1:mj a false with
  |false=>exact kt
  |true=>
   by_cases n1:b<0
   .exact kt
   .by_cases n2:4<b
    .exact kt
    .by_cases n3:j<b
     .exact kt
     .by_cases n4:64<j
      .exact kt
      .by_cases n5:h5 l ((i:Int)+1)=21
       .by_cases m1:h5 l n=21
        .exact kt
        .exact kt
       .exact kt
 have e13:((k:Int)==13)=false:=zu h13
 by_cases h10:(k:Int)=10
 .have K:=M h10;simp only[Sh.mk.injEq]at K;obtain⟨rfl,rfl,rfl,rfl⟩:=K;clear N M R;obtain rfl:k=10:=X;simp only[Int.cast_ofNat_Int]at*;replace e13:((10:Int)==13)=false:=rfl;have e10:((10:Int)==10)=true:=rfl
  cases r1:mj a true with
  |false=>exact kt
  |true=>
   cases r3:mj j false with
   |false=>exact kt
   |true=>
    cases r4:r9 b with
    |false=>exact kt
    |true=>
     by_cases m1:0<=n
     .by_cases m2:n<64
      .exact kt
      .exact kt
     .exact kt
 have e10:((k:Int)==10)=false:=zu h10;clear N M;have L:d=0∨d=1∨d=2∨d=3∨d=4∨d=5∨d=6∨d=7∨d=8∨d=9:=X;clear R
 cases r1:mj a m with
 |false=>rcases L with rfl|rfl|rfl|rfl|rfl|rfl|rfl|rfl|rfl|rfl<;>exact kt
 |true=>
 cases r2:mj b p with
 |false=>rcases L with rfl|rfl|rfl|rfl|rfl|rfl|rfl|rfl|rfl|rfl<;>exact kt
 |true=>
 cases r3:mj j s with
 |false=>rcases L with rfl|rfl|rfl|rfl|rfl|rfl|rfl|rfl|rfl|rfl<;>exact kt
 |true=>
 rcases L with rfl|rfl|rfl|rfl|rfl|rfl|rfl|rfl|rfl|rfl
 .by_cases m0:n=0
  .exact kt
  exact kt
 .exact kt
 .cases mb:pW n with
  |false=>exact kt
  |true=>
  by_cases m1:0<=n
  .by_cases m2:n<100
   .exact kt
   exact kt
  exact kt
 .by_cases m1:0<=n
  .by_cases m2:n<16
   .exact kt
   exact kt
  exact kt
 .by_cases m1:0<=n
  .by_cases m2:n<=16
   .exact kt
   exact kt
  exact kt
 .by_cases m1:0<=n
  .by_cases m2:n<64
   .by_cases m3:(k:Int)=20
    .by_cases m4:h5 l ((i:Int)-1)=21
     .exact kt
     exact kt
    exact kt
   exact kt
  exact kt
 .by_cases m1:0<=h5 l n
  .by_cases m2:h5 l n=20
   .exact kt
   by_cases m3:(i:Int)<n
   .exact kt
   by_cases m4:h5 l n=21
   .exact kt
   exact kt
  exact kt
 .by_cases m1:h5 l n=21
  .exact kt
  exact kt
 .by_cases m0:n=0
  .exact kt
  by_cases m1:h5 l n=21
  .exact kt
  exact kt
 exact kt
def rr{A:OA}(c:Nat)(l:List In)(hq g9:Int)(i g:Nat)(h:Is w A l)(C:Sl w 274 4 (j_ g) 22 qY)(a:i<l.length)(b:l.length<=1000000000):
 Calls prog 147 #[.agg #[.slice A l.length c,Y hq,Y g9],Y i,.slice (j_ g) 22 22] w λe w'=>e=.returned (.bool (kD l i))/\J [] w w':=by
 by_cases d:l[i].op<0∨21<l[i].op
 .exact BF A c l hq g9 i g w h a b d
 exact Dy A c l hq g9 i g w h C a b X X
def nD(l:List In)(g9:Int):List In->Nat->Int->Bool
 |[],_,m=>g9==m
 |x::t,k,m=>kD l k&&(if x.op=21 then(x.n==m)&&nD l g9 t (k+1) (m+1) else nD l g9 t (k+1) m)
def Ax(t:List In):∀(k:Nat) (a:Int),
 ((List.range' k t.length).all (kD l)&&kh t a&&(g9==a+jA t))=nD l g9 t k a:=by
 induction t with
 |nil=>intro k a;simp[nD,kh,jA]
 |cons b t e=>
  intro k a
  have f:List.range' k (b::t).length=k::List.range' (k+1) t.length:=by simp[List.range'_succ]
  rw[f]
  by_cases c:b.op=21
  .have d:a+jA (b::t)=(a+1)+jA t:=by simp[jA,c];omega
   rw[d];simp only[nD,kh,c,if_true,List.all_cons,<-e]
   cases kD l k<;>cases(b.n==a)<;>simp
  .have d:jA (b::t)=jA t:=by simp[jA,c]
   rw[d];simp only[nD,kh,c,if_false,List.all_cons,<-e]
   cases kD l k<;>simp
def y7{l:List In}{g9:Int}{a:Int}(h:l.length<=k):nD l g9 (l.drop k) k a=(g9==a):=by
 rw[F3 h]
 rfl
def xB(k:Nat)(a:Int)(h:k<l.length):
 nD l g9 (l.drop k) k a=(kD l k&&(if l[k].op=21 then(l[k].n==a)&&nD l g9 (l.drop (k+1)) (k+1) (a+1) else nD l g9 (l.drop (k+1)) (k+1) a)):=by
 rw[Y_ h]
 rfl
def Ay:hY l hq g9=(decide (1<=l.length)&&decide (l.length<=2048)&&decide (0<=hq)&&decide (hq<=64)&&(h5 l 0==21)&&
 (h5 l ((l.length:Int)-1)==14||h5 l ((l.length:Int)-1)==16||h5 l ((l.length:Int)-1)==11)&&nD l g9 (l.drop 0) 0 0):=by
 rw[List.drop_zero,<-Ax,<-List.range_eq_range',Int.zero_add];unfold hY og;simp only[Bool.and_assoc]
def iP(c:Nat)(l:List In)(hq g9:Int)(h:Is w A l)(W:l.length<=1000000000):
 Calls prog 92 #[.agg #[.slice A l.length c,Y hq,Y g9]] w λe w'=>e=.returned (.bool (hY l hq g9))/\J [] w w':=by
 have a:=O (Ay l hq g9);have MR:=(H [] w).alloc (.cells #[.slice A l.length c,Y hq,Y g9] 26);replace h:=h.g_ MR;have hB:=Q_ w 26 #[.slice A l.length c,Y hq,Y g9];have z0:=hB.f_ 0;have aR:=hB.f_ 1;have aU:=hB.f_ 2
 by_cases h1:l.length<1
 .have D:=O (show hY l hq g9=false by rw[a.out];simp[show ¬(1<=l.length) by omega]);exact Mm
 by_cases h2:2048<l.length
 .have D:=O (show hY l hq g9=false by rw[a.out];simp[show ¬(l.length<=2048) by omega]);exact Mm
 by_cases h3:hq<0
 .have D:=O (show hY l hq g9=false by rw[a.out];simp[show ¬(0<=hq) by omega]);exact Mm
 by_cases ar:64<hq
 .have D:=O (show hY l hq g9=false by rw[a.out];simp[show ¬(hq<=64) by omega]);exact Mm
 obtain⟨b,L⟩:∃b,l.length=b+1:=⟨l.length-1,X⟩;have T:0<l.length:=X;have E:b<l.length:=X;have p:=O (show h5 l 0=l[0].op by unfold h5;rw[I_ X];simp[List.getD,L_ T])
 have x:=O (show h5 l ((l.length:Int)-1)=l[b].op by
  have e:(l.length:Int)-1=b:=X;unfold h5;rw[e,I_ X]
  simp[List.getD,L_ E])
 obtain⟨bn,off,rfl,U, -, -, -, -⟩:=h.at_ T;obtain⟨ae,Z,m,af, -, -, -, -⟩:=h.at_ E;injection m with m;injection m with F I;subst F;subst I;rw[Ht,G0]at U;generalize l[b].op=q at*;generalize l[0].op=s at*
 by_cases o:¬s=21
 .have j:(s==21)=false:=zu o;have D:=O (show hY l hq g9=false by rw[a.out,p.out,j];simp);clear a p x;generalize hL:l.length=n at*;clear E af j W hL h L;exact JP
 replace o:=Classical.not_not.mp o;have j:(s==21)=true:=zu o
 by_cases K:q=14∨q=16∨q=11
 .have v:(q==14||q==16||q==11)=true:=by rcases K with rfl|rfl|rfl<;>rfl
  have Q:=O (show hY l hq g9=nD l g9 (l.drop 0) 0 (0:Nat) by rw[a.out,p.out,x.out,j,v];simp[show 1<=l.length by omega,show l.length<=2048 by omega,show 0<=hq by omega,show hq<=64 by omega]);clear a p x;generalize hL:l.length=n at*;have a:=Q;clear Q;have MM:(n:Int)-1=b:=X;clear L v j;subst o;have aL:((n:Int)<1)=False:=p_;have aQ:(2048<(n:Int))=False:=p_;have y:(hq<0)=False:=p_;have z:(64<hq)=False:=p_
  rcases K with rfl|rfl|rfl
  all_goals
   go_enter func92,ntmps92
   go_wp2_with (first
    |(go_at_call 146;refine(xJ).mono ?_;rintro e P⟨g,rfl,C,hg⟩;replace MR:=MR.trans hg;replace h:=h.g_ hg;replace hB:=hB.g_ hg;have z0:=hB.f_ 0;have aR:=hB.f_ 1;have aU:=hB.f_ 2;clear hg))
   go_loopw [57,5] (λM ah w'=>∃(k:Nat) (d:Nat),k<=n/\d<=k/\M=Y k/\ah=Y d/\hY l hq g9=nD l g9 (l.drop k) k d/\J [] P w') (λM _ _=>n-(intOf M).toNat)
   case atStart=>exact⟨0,0,P_ _,H_ _,rfl,rfl,a.out,H _ _⟩
   case round=>
    obtain⟨k,d,hk,hj,rfl,rfl,G,r⟩:=hrel;have f:=O G;clear G a;clear z0 aR aU;have B:=hB.g_ r;have z0:=B.f_ 0;have aR:=B.f_ 1;have aU:=B.f_ 2
    by_cases aj:k<n
    .have aF:k<l.length:=X;have i:=O (xB l g9 k d aF);obtain⟨b',Z,m,U,bu,bH,bM,aY⟩:=(h.g_ r).at_ aF;injection m with m;injection m with F I;subst F;subst I;generalize l[k]=ai at*;obtain⟨op,R,S,V,u⟩:=ai;simp only at*;have hg1:=r.alloc (.cells #[Y op,Y R,Y S,Y V,Y u] 189);clear z0 aR aU B;have au:=hB.g_ hg1;have z0:=au.f_ 0;have aR:=au.f_ 1;have aU:=au.f_ 2;have t:=(λ{P w':World}(_:J [] P w')=>Q_ w' 189 #[Y op,Y R,Y S,Y V,Y u]) r
     cases hf:kD l k with
     |false=>
      have D:=O (show hY l hq g9=false by rw[f.out,i.out,hf];rfl);clear f i;exact IV
     |true=>
      by_cases q:op=21
      .have s:(op==21)=true:=zu q
       by_cases b:u=d
       .have N:(u==(d:Int))=true:=zu b;have D:=O (show hY l hq g9=nD l g9 (l.drop (k+1)) (k+1) ((d+1:Nat):Int) by rw[f.out,i.out,hf,O_ q,N];rfl);clear f i b q
        go_wp2_with ((go_at_call 147;have ag:=rr c l hq g9 k g (h.g_ hg1) (C.g_ hg1) aF X;rw[hL,hf]at ag;refine ag.mono ?_;rintro e ad⟨rfl,hg⟩;replace t:=t.g_ hg;have MN:=t.f_ 0;have aX:=t.f_ 4;replace hg1:=hg1.trans hg;replace au:=hB.g_ hg1;clear z0 aR aU;have z0:=au.f_ 0;have aR:=au.f_ 1;have aU:=au.f_ 2;clear hg))
        go_roundw
        case rel=>exact⟨k+1,d+1,X,X,gn,gn,D.out,hg1⟩
        case measure=>exact mz
       .have N:(u==(d:Int))=false:=zu b;have D:=O (show hY l hq g9=false by rw[f.out,i.out,hf,O_ q,N];rfl);clear f i b q;exact IV
      .have s:(op==21)=false:=zu q;have D:=O (show hY l hq g9=nD l g9 (l.drop (k+1)) (k+1) (d:Int) by rw[f.out,i.out,hf,I_ q];rfl);clear f i q
       go_wp2_with ((go_at_call 147;have ag:=rr c l hq g9 k g (h.g_ hg1) (C.g_ hg1) aF X;rw[hL,hf]at ag;refine ag.mono ?_;rintro e ad⟨rfl,hg⟩;replace t:=t.g_ hg;have MN:=t.f_ 0;have aX:=t.f_ 4;replace hg1:=hg1.trans hg;replace au:=hB.g_ hg1;clear z0 aR aU;have z0:=au.f_ 0;have aR:=au.f_ 1;have aU:=au.f_ 2;clear hg))
       go_roundw
       case rel=>exact⟨k+1,d,X,X,gn,rfl,D.out,hg1⟩
       case measure=>exact mz
    .go_wp2;go_ret;exact⟨iw (by rw[f.out,y7 X]),MR.trans r⟩
 .have v:(q==14||q==16||q==11)=false:=p_;have D:=O (show hY l hq g9=false by rw[a.out,p.out,x.out,j,v];simp);have f:¬q=14:=X;have i:¬q=16:=X;have d:¬q=11:=X;have r:(q !=14)=true:=zu f;have B:(q !=16)=true:=zu i;have u:(q !=11)=true:=zu d;clear f i d;clear a p x v K;generalize hL:l.length=n at*;have MM:(n:Int)-1=b:=X;clear hL L h W j;subst o;exact JP
def jm(l:List In)(hq g9 pc:Int):Bool:=hY l hq g9&&(h5 l pc==20)
def kN(l:List In)(pc:Int):Bool:=
 (pc== -1)||(h5 l pc==21)||(decide (0<=h5 l pc)&&(h5 l (pc-1)==21||h5 l (pc-1)==20))
def lA(c:Nat)(l:List In)(hq g9 pc:Int)(h:Is w A l)(j:l.length<=1000000000):
 Calls prog 83 #[.agg #[.slice A l.length c,Y hq,Y g9],Y pc] w λe w'=>e=.returned (.bool (jm l hq g9 pc))/\J [] w w':=by
 have a:=(H [] w).alloc (.cells #[.slice A l.length c,Y hq,Y g9] 26);have d:=Q_ w 26 #[.slice A l.length c,Y hq,Y g9];have p:=d.f_ 0;have n:=d.f_ 1;have o:=d.f_ 2
 cases g:hY l hq g9 with
 |false=>
  have i:=O (show jm l hq g9 pc=false by unfold jm;rw[g];rfl)
  go_enter func83,ntmps83
  go_wp2_with (go_at_call 92;have f:=iP A c l hq g9 (h.g_ a) j;rw[g]at f;refine f.mono ?_;rintro e m⟨rfl,b⟩;replace a:=a.trans b;clear b)
  go_ret;exact⟨iw i.out.symm,a⟩
 |true=>
  have i:=O (show jm l hq g9 pc=(h5 l pc==20) by unfold jm;rw[g];rfl)
  go_enter func83,ntmps83
  go_wp2_with (first
   |(go_at_call 92;have f:=iP A c l hq g9 (h.g_ a) j;rw[g]at f;refine f.mono ?_;rintro e m⟨rfl,b⟩;replace a:=a.trans b;replace d:=d.g_ b;have p:=d.f_ 0;have n:=d.f_ 1;have o:=d.f_ 2;clear b)
   |(go_at_call 133;refine(qJ A c l hq g9 pc (h.g_ a) j).mono ?_;rintro e m⟨rfl,b⟩;replace a:=a.trans b;clear b))
  go_ret;exact⟨iw i.out.symm,a⟩
def l7(c:Nat)(l:List In)(hq g9 pc:Int)(h:Is w A l)(hn:l.length<=1000000000)(g: -1000000000<=pc)(i:pc<=1000000000):
 Calls prog 97 #[.agg #[.slice A l.length c,Y hq,Y g9],Y pc] w λe w'=>e=.returned (.bool (kN l pc))/\J [] w w':=by
 have hg1:=(H [] w).alloc (.cells #[.slice A l.length c,Y hq,Y g9] 26);have hB:=Q_ w 26 #[.slice A l.length c,Y hq,Y g9];have z0:=hB.f_ 0;have aR:=hB.f_ 1;have aU:=hB.f_ 2
 by_cases f:pc= -1
 .have D:=O (show kN l pc=true by unfold kN;simp[f])
  go_enter func97,ntmps97
  go_wp2;exact K9
 by_cases a:h5 l pc=21
 .skip;have D:=O (show kN l pc=true by unfold kN;simp[a]);exact I2
 by_cases b:0<=h5 l pc
 .by_cases d:h5 l (pc-1)=21
  .skip;have D:=O (show kN l pc=true by unfold kN;simp[b,d]);exact I2
  by_cases e:h5 l (pc-1)=20
  .skip;have D:=O (show kN l pc=true by unfold kN;simp[b,e]);exact I2
  .skip;have D:=O (show kN l pc=false by unfold kN;simp[f,a,b,d,e]);exact I2
 .skip;have D:=O (show kN l pc=false by unfold kN;simp[f,a,b]);exact I2
def bad(l:List Int)(g9:Int)(k:Nat):Bool:=
 decide (l.getD k 0<0)||decide (g9<l.getD k 0)||(decide (0<k)&&decide (l.getD k 0<=l.getD (k-1) 0))
def ru(c:List In)(hq g9:Int)(d:List Int):Bool:= !(iS (bad d g9) (List.range d.length))&&hY c hq g9
def vX(A B:Option Addr)(c f:Nat)(l:List In)(hq g9:Int)(d:List Int)(n:Is w A l)(Q:l.length<=1000000000)(h:Ns w 3 B d)(hd:d.length<=1000000000):
 Calls prog 77 #[.agg #[.slice A l.length c,Y hq,Y g9],.agg #[.slice B d.length f]] w λe w'=>e=.returned (.bool (ru l hq g9 d))/\J [] w w':=by
 have MR:=((H [] w).alloc (.cells #[.slice A l.length c,Y hq,Y g9] 26)).alloc (.cells #[.slice B d.length f] 32);have i:=(Q_ w 26 #[.slice A l.length c,Y hq,Y g9]).alloc (.cells #[.slice B d.length f] 32);have z:Bk _ (w.heap.size+1) 32 #[.slice B d.length f]:=(by simpa using Q_ (w.alloc (.cells #[.slice A l.length c,Y hq,Y g9] 26)) 32 #[.slice B d.length f]:Bk ((w.alloc (.cells #[.slice A l.length c,Y hq,Y g9] 26)).alloc (.cells #[.slice B d.length f] 32)) (w.heap.size+1) 32 #[.slice B d.length f]);replace h:=h.g_ MR;replace n:=n.g_ MR;have T:=i.f_ 0;have D:=i.f_ 1;have K:=i.f_ 2;have I:=z.f_ 0;generalize hD:d.length=j at*
 go_enter func77,ntmps77
 go_wp2;generalize (w.alloc (.cells #[.slice A l.length c,Y hq,Y g9] 26)).alloc (.cells #[.slice B j f] 32)=R at*
 go_loopw [10] (λs w'=>∃k:Nat,k<=j/\s=Y k/\iS (bad d g9) (List.range d.length)=iS (bad d g9) ((List.range d.length).drop k)/\J [] R w') (λs _=>j-(intOf s).toNat)
 case atStart=>exact⟨0,P_ _,rfl,rfl,H _ _⟩
 case round=>
  obtain⟨k,hk,rfl,G,F⟩:=hrel;have E:=O G;clear G;have t:=i.g_ F;have L:=z.g_ F;have T:=t.f_ 0;have D:=t.f_ 1;have K:=t.f_ 2;have I:=L.f_ 0
  by_cases Z:k<j
  .have o:k<d.length:=X;have a:k<(List.range d.length).length:=zu o;have g:=O (show d.getD k 0=d[k] by simp[List.getD,L_ o]);obtain⟨ae,off,rfl,P⟩:=(h.g_ F).at_ o;generalize d[k]=v at*
   by_cases m:v<0
   .have aQ:=O (show bad d g9 k=true by unfold bad;rw[g.out];simp[m]);exact JV
   by_cases u:g9<v
   .have aQ:=O (show bad d g9 k=true by unfold bad;rw[g.out];simp[m,u]);exact JV
   cases k with
   |zero=>
    rw[G0]at P;have aQ:=O (show bad d g9 0=false by unfold bad;rw[g.out];simp[m,u]);have M:=O (show iS (bad d g9) (List.range d.length)=iS (bad d g9) ((List.range d.length).drop (0+1)) by rw[E.out];exact oO (p:=bad d g9) a (by rw[Hn];exact aQ.out));clear E aQ;go_wp2;go_roundw
    case rel=>exact⟨0+1,X,rfl,M.out,F⟩
    case measure=>exact mz
   |succ b=>
    obtain⟨b',U,r,V⟩:=(h.g_ F).at_ (k:=b) X;injection r with r;injection r with C N;subst C;subst N;have x:=O (show d.getD b 0=d[b] by simp[List.getD,L_ (show b<d.length by omega)]);generalize d[b]=S at*;have W:((b:Int)+1-1)=b:=X
    by_cases y:v<=S
    .have aQ:=O (show bad d g9 (b+1)=true by unfold bad;rw[g.out,Nat.add_sub_cancel,x.out];simp[y]);exact JV
    .have aQ:=O (show bad d g9 (b+1)=false by unfold bad;rw[g.out,Nat.add_sub_cancel,x.out];simp[m,u,y]);have M:=O (show iS (bad d g9) (List.range d.length)=iS (bad d g9) ((List.range d.length).drop (b+1+1)) by rw[E.out];exact oO (p:=bad d g9) a (by rw[Hn];exact aQ.out));clear E aQ;go_wp2;go_roundw
     case rel=>exact⟨b+1+1,X,gn,M.out,F⟩
     case measure=>exact mz
  .have M:=O (show ru l hq g9 d=hY l hq g9 by unfold ru;rw[E.out,rA (p:=bad d g9) p_];rfl);clear E
   go_wp2_with (go_at_call 92;refine(iP A c l hq g9 (n.g_ F) Q).mono ?_;rintro e g⟨rfl,b⟩;replace F:=F.trans b;clear b)
   go_ret;exact⟨iw M.out.symm,MR.trans F⟩
