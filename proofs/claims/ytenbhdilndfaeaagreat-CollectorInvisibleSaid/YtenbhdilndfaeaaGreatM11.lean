import Derived.Test.YtenbhdilndfaeaaGreatM04
set_option maxRecDepth 100000
set_option maxHeartbeats 0
set_option linter.all false
namespace Go.Proofs.YtenbhdilndfaeaaGreat
open Go.RowKit Go.Proofs.Tryz
variable{G:Prop}{w:World}{k:Nat}(l:List In)(A:OA)(hH hC:Int)
def Jg(h:G:=by
 go_wp2_with ((go_at_call 147;have R:=qS c l hH hC k g (h.hF hg1) (C.hF hg1) aD X;rw[hL,hf]at R;refine R.mono ?_;rintro e MT⟨rfl,hg⟩;replace t:=t.hF hg;have MV:=t.f_ 0;have ar:=t.f_ 4;replace hg1:=hg1.trans hg;replace P:=hB.hF hg1;clear z0 aR aZ;have z0:=P.f_ 0;have aR:=P.f_ 1;have aZ:=P.f_ 2;clear hg))
 go_ret;exact⟨iH aU.out.symm,MZ.trans hg1⟩):G:=h
def Jm(h:G:=by
 go_enter func97,ntmps97
 go_wp2_with (go_at_call 133;refine(qn A c l hH hC _ (h.hF hg1) hn).mono ?_;rintro e MT⟨rfl,hg⟩;replace hg1:=hg1.trans hg;replace hB:=hB.hF hg;have z0:=hB.f_ 0;have aR:=hB.f_ 1;have aZ:=hB.f_ 2;clear hg)
 exact Lk):G:=h
def J6(h:G:=by
 have aT:((n:Int)<1)=False:=p_;have aF:(2048<(n:Int))=False:=p_;have y:(hH<0)=False:=p_;have M:(64<hH)=False:=p_;exact Ms):G:=h
def Kg(h:G:=by
 have T:=U (show qT l hH hC d=false by unfold qT;rw[E.out,o2 (p:=bad d hC) a (by rw[Ht];exact aS.out)];rfl);clear E aS;go_wp2;go_ret;exact⟨iH T.out.symm,MZ.trans F⟩):G:=h
def Lk(h:G:=by
 go_ret;exact⟨iH (by first|exact aU.out.symm|(rw[aU.out];simp[a,d,e])|(rw[aU.out];simp[a])),hg1⟩):G:=h
def Mb(h:G:=by
 go_enter func147,ntmps147
 go_wp2;go_ret;exact⟨iH R.out.symm,MZ.alloc _⟩):G:=h
def Ms(h:G:=by
 go_enter func92,ntmps92
 go_wp2;go_ret;exact⟨iH aU.out.symm,MZ⟩):G:=h
def D4{g:Nat}(h:Sl w 274 4 (j_ g) 22 qC)(s:k<22):
 w.cell? (Z g (k*4))=some (.bool (i7.getD k default).a)/\w.cell? (Z g (k*4+1))=some (.bool (i7.getD k default).b)/\w.cell? (Z g (k*4+2))=some (.bool (i7.getD k default).c)/\w.cell? (Z g (k*4+3))=some (Y (i7.getD k default).n):=by
 obtain⟨b,u,f,q⟩:=Sl.f_ h X;injection f with f;injection f with o p;subst o;subst p;have i:k<i7.length:=s
 have m:i7.getD k default=i7[k]:=by simp[List.getD,K_ i]
 rw[m]
 have g:=λd r=>jh Sh.E 4 (λ_=>rfl) i7 k d i r
 have e:=λd j(t:qC[d]?=some j)=>by have:=q d j t;rwa [W_]at this
 exact⟨e (k*4+0) _ (g 0 X),e (k*4+1) _ (g 1 X),e (k*4+2) _ (g 2 X),e (k*4+3) _ (g 3 X)⟩
def Bq(c:Nat)(l:List In)(hH hC:Int)(i g:Nat)(w:World)(h:Is w A l)(b:i<l.length)(v:l.length<=1000000000)(a:l[i].op<0∨21<l[i].op):
 Calls prog 147 #[.agg #[.slice A l.length c,Y hH,Y hC],Y i,.slice (j_ g) 22 22] w λe w'=>e=.returned (.bool (kW l i))/\I [] w w':=by
 have R:=U (show kW l i=false by
  unfold kW jV
  have e:l.getD i default=l[i]:=by simp[List.getD,K_ b]
  rw[e,U_ a])
 have MZ:=(H [] w).alloc (.cells #[.slice A l.length c,Y hH,Y hC] 26);obtain⟨t,y,rfl,m,n,d,f,j⟩:=(h.hF MZ).at_ b;have r:(i:Int)<(l.length:Int):=X;generalize l[i]=p at*;obtain⟨op,q,s,u,x⟩:=p;simp only at a m n d f j
 rcases a with o|o
 .exact Mb
 .exact Mb
def DG(h:G:=by first|(simp[r1];done)|(simp[r1,r2,e13,e10,h13,h10];done)|(simp[r1,r2,r3,e13,e10,h13,h10];done)|(simp[r1,r2,r3,e13,e10,h13,h10,m0];done)|(simp[r1,r2,r3,e13,e10,h13,h10,m1];done)|(simp[r1,r2,r3,e13,e10,h13,h10,mb];done)|(simp[r1,r2,r3,e13,e10,h13,h10,mb,m1];done)|(simp[r1,r2,r3,e13,e10,h13,h10,mb,m1,m2];done)|(simp[r1,r2,r3,e13,e10,h13,h10,m1,m2];done)|(simp[r1,r2,r3,e13,e10,h13,h10,m1,m2,m3];done)|(simp[r1,r2,r3,e13,e10,h13,h10,m1,m2,m3,m4];done)|(simp[r1,r2,r3,e13,e10,h13,h10,m0,m1];done)|(simp[r1,e13,e10,n1];done)|(simp[r1,e13,e10,n1,n2];done)|(simp[r1,e13,e10,n1,n2,n3];done)|(simp[r1,e13,e10,n1,n2,n3,n4];done)|(simp[r1,e13,e10,n1,n2,n3,n4,n5];done)|(simp[r1,e13,e10,n1,n2,n3,n4,n5,m1];done)|(simp[r1,r3,e13,e10];done)|(simp[r1,r3,e13,e10,r4];done)|(simp[r1,r3,e13,e10,r4,m1];done)|(simp[r1,r3,e13,e10,r4,m1,m2];done)|fail):G:=h
def kx(h:G:=by
 first|(have az:Hid (MT=false):=U (by rw[<-HZ.out];unfold jV;dsimp only;rw[R_ X];exact DG))|(have az:Hid (MT=true):=U (by rw[<-HZ.out];unfold jV;dsimp only;rw[R_ X];exact DG))
 go_wp2_with (first
  |(go_at_call 178;refine(uV).mono ?_;rintro e w2⟨rfl,rfl⟩)
  |(go_at_call 133;refine(qn _ c l hH hC _ (h.hF f) hn).mono ?_;rintro e w2⟨rfl,hg⟩;have f:=f.trans hg;have bU:=bU.hF hg;have cO:=cO.hF hg;have cZ:=cZ.hF hg;have m:=bU.f_ 0;have o:=bU.f_ 1;have q:=bU.f_ 2;have r:=cO.f_ 0;have t:=cO.f_ 1;have u:=cO.f_ 2;have v:=cO.f_ 3;have y:=cO.f_ 4;have z:=cZ.f_ 0;have D:=cZ.f_ 1;have E:=cZ.f_ 2;have F:=cZ.f_ 3)
  |(go_at_call 179;refine(uJ _ _).mono ?_;rintro e w2⟨rfl,rfl⟩)
  |(go_at_call 180;refine(qM _).mono ?_;rintro e w2⟨⟨st,rfl⟩,hg⟩;have f:=f.trans hg;have bU:=bU.hF hg;have cO:=cO.hF hg;have cZ:=cZ.hF hg;have m:=bU.f_ 0;have o:=bU.f_ 1;have q:=bU.f_ 2;have r:=cO.f_ 0;have t:=cO.f_ 1;have u:=cO.f_ 2;have v:=cO.f_ 3;have y:=cO.f_ 4;have z:=cZ.f_ 0;have D:=cZ.f_ 1;have E:=cZ.f_ 2;have F:=cZ.f_ 3))
 go_ret
 exact⟨iH (by first|exact az.out.symm|(rw[az.out];exact DG)),f⟩):G:=h
def DF(A:Option Addr)(c:Nat)(l:List In)(hH hC:Int)(i g:Nat)(w:World)(h:Is w A l)(C:Sl w 274 4 (j_ g) 22 qC)(T:i<l.length)(hn:l.length<=1000000000)(h0:0<=l[i].op)(ad:l[i].op<=21):
 Calls prog 147 #[.agg #[.slice A l.length c,Y hH,Y hC],Y i,.slice (j_ g) 22 22] w λe w'=>e=.returned (.bool (kW l i))/\I [] w w':=by
 have Q:kW l i=jV l i l[i] (i7.getD l[i].op.toNat default):=by
  unfold kW
  have e:l.getD i default=l[i]:=by simp[List.getD,K_ T]
  rw[e]
 rw[Q];clear Q;have P:=(((H [] w).alloc (.cells #[.slice A l.length c,Y hH,Y hC] 26)));obtain⟨B,J,rfl,bj,bz,bP,bQ,be⟩:=(h.hF P).at_ T;have af:(i:Int)<(l.length:Int):=X;have N:=Cf l[i].op.toNat X;have O:=P.alloc (.cells #[Y l[i].op,Y l[i].a,Y l[i].b,Y l[i].c,Y l[i].n] 189);obtain⟨W,bV,b4,cH⟩:=D4 (C.hF O) (k:=l[i].op.toNat) X
 have M:l[i].op=13->i7.getD l[i].op.toNat default=⟨false,false,false,7⟩:=λh=>by rw[h];rfl
 have L:l[i].op=10->i7.getD l[i].op.toNat default=⟨true,false,false,5⟩:=λh=>by rw[h];rfl
 generalize i7.getD l[i].op.toNat default=ae at*;obtain⟨p,s,x,d⟩:=ae;generalize l[i]=ag at*;obtain⟨op,a,b,j,n⟩:=ag;obtain⟨k,hk⟩:∃k:Nat,op=k:=⟨op.toNat,(GM h0).symm⟩;simp only at*;subst hk;simp only[Gs]at*;have dg:(k:Int)<22:=X;obtain⟨MT,G⟩:=mn_ (jV l i ⟨k,a,b,j,n⟩ ⟨p,s,x,d⟩);rw[G];have HZ:=U G;clear G
 go_enter func147,ntmps147
 go_wp2_with fail
 go_quiet (fail)
 have S:=O.alloc (.cells #[.bool p,.bool s,.bool x,Y d] 274);have r3:Bk _ w.heap.size 26 #[.slice (some (Z B J)) l.length c,Y hH,Y hC]:=((P_ w 26 #[.slice (some (Z B J)) l.length c,Y hH,Y hC]).alloc (.cells #[Y (k:Int),Y a,Y b,Y j,Y n] 189)).alloc (.cells #[.bool p,.bool s,.bool x,Y d] 274);have V:Bk _ (w.heap.size+1) 189 #[Y (k:Int),Y a,Y b,Y j,Y n]:=(by simpa using(P_ (w.alloc (.cells #[.slice (some (Z B J)) l.length c,Y hH,Y hC] 26)) 189 #[Y (k:Int),Y a,Y b,Y j,Y n]).alloc (.cells #[.bool p,.bool s,.bool x,Y d] 274):Bk (((w.alloc (.cells #[.slice (some (Z B J)) l.length c,Y hH,Y hC] 26)).alloc (.cells #[Y (k:Int),Y a,Y b,Y j,Y n] 189)).alloc (.cells #[.bool p,.bool s,.bool x,Y d] 274)) (w.heap.size+1) 189 #[Y (k:Int),Y a,Y b,Y j,Y n]);obtain⟨-,-,R,-⟩:=wI w 26 #[.slice (some (Z B J)) l.length c,Y hH,Y hC] 189 #[Y (k:Int),Y a,Y b,Y j,Y n] 274 #[.bool p,.bool s,.bool x,Y d];have f:=S.drewN nq;have bU:=r3.drewN nq;have cO:=V.drewN nq;have cZ:=R.drewN nq;clear W bV b4 cH bj bz bP bQ be C O P S r3 V R;generalize (((w.alloc (.cells #[.slice (some (Z B J)) l.length c,Y hH,Y hC] 26)).alloc (.cells #[Y (k:Int),Y a,Y b,Y j,Y n] 189)).alloc (.cells #[.bool p,.bool s,.bool x,Y d] 274)).drewN nq=w1 at*;have m:=bU.f_ 0;have o:=bU.f_ 1;have q:=bU.f_ 2;have r:=cO.f_ 0;have t:=cO.f_ 1;have u:=cO.f_ 2;have v:=cO.f_ 3;have y:=cO.f_ 4;have z:=cZ.f_ 0;have D:=cZ.f_ 1;have E:=cZ.f_ 2;have F:=cZ.f_ 3
 by_cases h13:(k:Int)=13
 .have az:=M h13;simp only[Sh.mk.injEq]at az;obtain⟨rfl,rfl,rfl,rfl⟩:=az;clear M L N;obtain rfl:k=13:=X;simp only[Int.cast_ofNat_Int]at*;have e13:((13:Int)==13)=true:=rfl;have e10:((13:Int)==10)=false:=rfl
  cases r1:mi a false with
  |false=>exact kx
  |true=>
   by_cases n1:b<0
   .exact kx
   .by_cases n2:4<b
    .exact kx
    .by_cases n3:j<b
     .exact kx
     .by_cases n4:64<j
      .exact kx
      .by_cases n5:iB l ((i:Int)+1)=21
       .by_cases m1:iB l n=21
        .exact kx
        .exact kx
       .exact kx
 have e13:((k:Int)==13)=false:=zu h13
 by_cases h10:(k:Int)=10
 .have az:=L h10;simp only[Sh.mk.injEq]at az;obtain⟨rfl,rfl,rfl,rfl⟩:=az;clear M L N;obtain rfl:k=10:=X;simp only[Int.cast_ofNat_Int]at*;replace e13:((10:Int)==13)=false:=rfl;have e10:((10:Int)==10)=true:=rfl
  cases r1:mi a true with
  |false=>exact kx
  |true=>
   cases r3:mi j false with
   |false=>exact kx
   |true=>
    cases r4:rB b with
    |false=>exact kx
    |true=>
     by_cases m1:0<=n
     .by_cases m2:n<64
      .exact kx
      .exact kx
     .exact kx
 have e10:((k:Int)==10)=false:=zu h10;clear M L;have K:d=0∨d=1∨d=2∨d=3∨d=4∨d=5∨d=6∨d=7∨d=8∨d=9:=X;clear N
 cases r1:mi a p with
 |false=>rcases K with rfl|rfl|rfl|rfl|rfl|rfl|rfl|rfl|rfl|rfl<;>exact kx
 |true=>
 cases r2:mi b s with
 |false=>rcases K with rfl|rfl|rfl|rfl|rfl|rfl|rfl|rfl|rfl|rfl<;>exact kx
 |true=>
 cases r3:mi j x with
 |false=>rcases K with rfl|rfl|rfl|rfl|rfl|rfl|rfl|rfl|rfl|rfl<;>exact kx
 |true=>
 rcases K with rfl|rfl|rfl|rfl|rfl|rfl|rfl|rfl|rfl|rfl
 .by_cases m0:n=0
  .exact kx
  exact kx
 .exact kx
 .cases mb:pA n with
  |false=>exact kx
  |true=>
  by_cases m1:0<=n
  .by_cases m2:n<100
   .exact kx
   exact kx
  exact kx
 .by_cases m1:0<=n
  .by_cases m2:n<16
   .exact kx
   exact kx
  exact kx
 .by_cases m1:0<=n
  .by_cases m2:n<=16
   .exact kx
   exact kx
  exact kx
 .by_cases m1:0<=n
  .by_cases m2:n<64
   .by_cases m3:(k:Int)=20
    .by_cases m4:iB l ((i:Int)-1)=21
     .exact kx
     exact kx
    exact kx
   exact kx
  exact kx
 .by_cases m1:0<=iB l n
  .by_cases m2:iB l n=20
   .exact kx
   by_cases m3:(i:Int)<n
   .exact kx
   by_cases m4:iB l n=21
   .exact kx
   exact kx
  exact kx
 .by_cases m1:iB l n=21
  .exact kx
  exact kx
 .by_cases m0:n=0
  .exact kx
  by_cases m1:iB l n=21
  .exact kx
  exact kx
 exact kx
def qS{A:OA}(c:Nat)(l:List In)(hH hC:Int)(i g:Nat)(h:Is w A l)(C:Sl w 274 4 (j_ g) 22 qC)(a:i<l.length)(b:l.length<=1000000000):
 Calls prog 147 #[.agg #[.slice A l.length c,Y hH,Y hC],Y i,.slice (j_ g) 22 22] w λe w'=>e=.returned (.bool (kW l i))/\I [] w w':=by
 by_cases d:l[i].op<0∨21<l[i].op
 .exact Bq A c l hH hC i g w h a b d
 exact DF A c l hH hC i g w h C a b X X
def nC(l:List In)(hC:Int):List In->Nat->Int->Bool
 |[],_,m=>hC==m
 |x::t,k,m=>kW l k&&(if x.op=21 then(x.n==m)&&nC l hC t (k+1) (m+1) else nC l hC t (k+1) m)
def Af(t:List In):∀(k:Nat) (m:Int),
 ((List.range' k t.length).all (kW l)&&kl t m&&(hC==m+jF t))=nC l hC t k m:=by
 induction t with
 |nil=>intro k m;simp[nC,kl,jF]
 |cons a t d=>
  intro k m
  have e:List.range' k (a::t).length=k::List.range' (k+1) t.length:=by simp[List.range'_succ]
  rw[e]
  by_cases b:a.op=21
  .have c:m+jF (a::t)=(m+1)+jF t:=by simp[jF,b];omega
   rw[c];simp only[nC,kl,b,if_true,List.all_cons,<-d]
   cases kW l k<;>cases(a.n==m)<;>simp
  .have c:jF (a::t)=jF t:=by simp[jF,b]
   rw[c];simp only[nC,kl,b,if_false,List.all_cons,<-d]
   cases kW l k<;>simp
def yH{l:List In}{hC:Int}{m:Int}(h:l.length<=k):nC l hC (l.drop k) k m=(hC==m):=by
 rw[Gb h]
 rfl
def wW(k:Nat)(m:Int)(h:k<l.length):
 nC l hC (l.drop k) k m=(kW l k&&(if l[k].op=21 then(l[k].n==m)&&nC l hC (l.drop (k+1)) (k+1) (m+1) else nC l hC (l.drop (k+1)) (k+1) m)):=by
 rw[Q_ h]
 rfl
def Ag:ic l hH hC=(decide (1<=l.length)&&decide (l.length<=2048)&&decide (0<=hH)&&decide (hH<=64)&&(iB l 0==21)&&
 (iB l ((l.length:Int)-1)==14||iB l ((l.length:Int)-1)==16||iB l ((l.length:Int)-1)==11)&&nC l hC (l.drop 0) 0 0):=by
 rw[List.drop_zero,<-Af,<-List.range_eq_range',Int.zero_add];unfold ic n6;simp only[Bool.and_assoc]
def iU(c:Nat)(l:List In)(hH hC:Int)(h:Is w A l)(Z:l.length<=1000000000):
 Calls prog 92 #[.agg #[.slice A l.length c,Y hH,Y hC]] w λe w'=>e=.returned (.bool (ic l hH hC))/\I [] w w':=by
 have a:=U (Ag l hH hC);have MZ:=(H [] w).alloc (.cells #[.slice A l.length c,Y hH,Y hC] 26);replace h:=h.hF MZ;have hB:=P_ w 26 #[.slice A l.length c,Y hH,Y hC];have z0:=hB.f_ 0;have aR:=hB.f_ 1;have aZ:=hB.f_ 2
 by_cases h1:l.length<1
 .have aU:=U (show ic l hH hC=false by rw[a.out];simp[show ¬(1<=l.length) by omega]);exact Ms
 by_cases h2:2048<l.length
 .have aU:=U (show ic l hH hC=false by rw[a.out];simp[show ¬(l.length<=2048) by omega]);exact Ms
 by_cases h3:hH<0
 .have aU:=U (show ic l hH hC=false by rw[a.out];simp[show ¬(0<=hH) by omega]);exact Ms
 by_cases aw:64<hH
 .have aU:=U (show ic l hH hC=false by rw[a.out];simp[show ¬(hH<=64) by omega]);exact Ms
 obtain⟨b,J⟩:∃b,l.length=b+1:=⟨l.length-1,X⟩;have W:0<l.length:=X;have E:b<l.length:=X;have o:=U (show iB l 0=l[0].op by unfold iB;rw[R_ X];simp[List.getD,K_ W])
 have u:=U (show iB l ((l.length:Int)-1)=l[b].op by
  have e:(l.length:Int)-1=b:=X;unfold iB;rw[e,R_ X]
  simp[List.getD,K_ E])
 obtain⟨bC,off,rfl,T, -, -, -, -⟩:=h.at_ W;obtain⟨ad,ae,m,ai, -, -, -, -⟩:=h.at_ E;injection m with m;injection m with D B;subst D;subst B;rw[HB,Hb]at T;generalize l[b].op=q at*;generalize l[0].op=s at*
 by_cases p:¬s=21
 .have j:(s==21)=false:=zu p;have aU:=U (show ic l hH hC=false by rw[a.out,o.out,j];simp);clear a o u;generalize hL:l.length=n at*;clear E ai j Z hL h J;exact J6
 replace p:=Classical.not_not.mp p;have j:(s==21)=true:=zu p
 by_cases F:q=14∨q=16∨q=11
 .have x:(q==14||q==16||q==11)=true:=by rcases F with rfl|rfl|rfl<;>rfl
  have O:=U (show ic l hH hC=nC l hC (l.drop 0) 0 (0:Nat) by rw[a.out,o.out,u.out,j,x];simp[show 1<=l.length by omega,show l.length<=2048 by omega,show 0<=hH by omega,show hH<=64 by omega]);clear a o u;generalize hL:l.length=n at*;have a:=O;clear O;have hm:(n:Int)-1=b:=X;clear J x j;subst p;have aT:((n:Int)<1)=False:=p_;have aF:(2048<(n:Int))=False:=p_;have y:(hH<0)=False:=p_;have M:(64<hH)=False:=p_
  rcases F with rfl|rfl|rfl
  all_goals
   go_enter func92,ntmps92
   go_wp2_with (first
    |(go_at_call 146;refine(w6).mono ?_;rintro e N⟨g,rfl,C,hg⟩;replace MZ:=MZ.trans hg;replace h:=h.hF hg;replace hB:=hB.hF hg;have z0:=hB.f_ 0;have aR:=hB.f_ 1;have aZ:=hB.f_ 2;clear hg))
   go_loopw [57,5] (λK ag w'=>∃(k:Nat) (d:Nat),k<=n/\d<=k/\K=Y k/\ag=Y d/\ic l hH hC=nC l hC (l.drop k) k d/\I [] N w') (λK _ _=>n-(intOf K).toNat)
   case atStart=>exact⟨0,0,N_ _,H_ _,rfl,rfl,a.out,H _ _⟩
   case round=>
    obtain⟨k,d,hk,hj,rfl,rfl,G,r⟩:=hrel;have f:=U G;clear G a;clear z0 aR aZ;have z:=hB.hF r;have z0:=z.f_ 0;have aR:=z.f_ 1;have aZ:=z.f_ 2
    by_cases af:k<n
    .have aD:k<l.length:=X;have i:=U (wW l hC k d aD);obtain⟨b',ae,m,T,bz,bP,bQ,be⟩:=(h.hF r).at_ aD;injection m with m;injection m with D B;subst D;subst B;generalize l[k]=ah at*;obtain⟨op,Q,S,V,v⟩:=ah;simp only at*;have hg1:=r.alloc (.cells #[Y op,Y Q,Y S,Y V,Y v] 189);clear z0 aR aZ z;have P:=hB.hF hg1;have z0:=P.f_ 0;have aR:=P.f_ 1;have aZ:=P.f_ 2;have t:=(λ{N w':World}(_:I [] N w')=>P_ w' 189 #[Y op,Y Q,Y S,Y V,Y v]) r
     cases hf:kW l k with
     |false=>
      have aU:=U (show ic l hH hC=false by rw[f.out,i.out,hf];rfl);clear f i;exact Jg
     |true=>
      by_cases q:op=21
      .have s:(op==21)=true:=zu q
       by_cases b:v=d
       .have L:(v==(d:Int))=true:=zu b;have aU:=U (show ic l hH hC=nC l hC (l.drop (k+1)) (k+1) ((d+1:Nat):Int) by rw[f.out,i.out,hf,U_ q,L];rfl);clear f i b q
        go_wp2_with ((go_at_call 147;have R:=qS c l hH hC k g (h.hF hg1) (C.hF hg1) aD X;rw[hL,hf]at R;refine R.mono ?_;rintro e MT⟨rfl,hg⟩;replace t:=t.hF hg;have MV:=t.f_ 0;have ar:=t.f_ 4;replace hg1:=hg1.trans hg;replace P:=hB.hF hg1;clear z0 aR aZ;have z0:=P.f_ 0;have aR:=P.f_ 1;have aZ:=P.f_ 2;clear hg))
        go_roundw
        case rel=>exact⟨k+1,d+1,X,X,gn,gn,aU.out,hg1⟩
        case measure=>exact mz
       .have L:(v==(d:Int))=false:=zu b;have aU:=U (show ic l hH hC=false by rw[f.out,i.out,hf,U_ q,L];rfl);clear f i b q;exact Jg
      .have s:(op==21)=false:=zu q;have aU:=U (show ic l hH hC=nC l hC (l.drop (k+1)) (k+1) (d:Int) by rw[f.out,i.out,hf,R_ q];rfl);clear f i q
       go_wp2_with ((go_at_call 147;have R:=qS c l hH hC k g (h.hF hg1) (C.hF hg1) aD X;rw[hL,hf]at R;refine R.mono ?_;rintro e MT⟨rfl,hg⟩;replace t:=t.hF hg;have MV:=t.f_ 0;have ar:=t.f_ 4;replace hg1:=hg1.trans hg;replace P:=hB.hF hg1;clear z0 aR aZ;have z0:=P.f_ 0;have aR:=P.f_ 1;have aZ:=P.f_ 2;clear hg))
       go_roundw
       case rel=>exact⟨k+1,d,X,X,gn,rfl,aU.out,hg1⟩
       case measure=>exact mz
    .go_wp2;go_ret;exact⟨iH (by rw[f.out,yH X]),MZ.trans r⟩
 .have x:(q==14||q==16||q==11)=false:=p_;have aU:=U (show ic l hH hC=false by rw[a.out,o.out,u.out,j,x];simp);have f:¬q=14:=X;have i:¬q=16:=X;have d:¬q=11:=X;have v:(q !=14)=true:=zu f;have z:(q !=16)=true:=zu i;have r:(q !=11)=true:=zu d;clear f i d;clear a o u x F;generalize hL:l.length=n at*;have hm:(n:Int)-1=b:=X;clear hL J h Z j;subst p;exact J6
def jB(l:List In)(hH hC pc:Int):Bool:=ic l hH hC&&(iB l pc==20)
def mX(l:List In)(pc:Int):Bool:=
 (pc== -1)||(iB l pc==21)||(decide (0<=iB l pc)&&(iB l (pc-1)==21||iB l (pc-1)==20))
def lx(c:Nat)(l:List In)(hH hC pc:Int)(h:Is w A l)(j:l.length<=1000000000):
 Calls prog 83 #[.agg #[.slice A l.length c,Y hH,Y hC],Y pc] w λe w'=>e=.returned (.bool (jB l hH hC pc))/\I [] w w':=by
 have a:=(H [] w).alloc (.cells #[.slice A l.length c,Y hH,Y hC] 26);have d:=P_ w 26 #[.slice A l.length c,Y hH,Y hC];have p:=d.f_ 0;have n:=d.f_ 1;have o:=d.f_ 2
 cases g:ic l hH hC with
 |false=>
  have i:=U (show jB l hH hC pc=false by unfold jB;rw[g];rfl)
  go_enter func83,ntmps83
  go_wp2_with (go_at_call 92;have f:=iU A c l hH hC (h.hF a) j;rw[g]at f;refine f.mono ?_;rintro e m⟨rfl,b⟩;replace a:=a.trans b;clear b)
  go_ret;exact⟨iH i.out.symm,a⟩
 |true=>
  have i:=U (show jB l hH hC pc=(iB l pc==20) by unfold jB;rw[g];rfl)
  go_enter func83,ntmps83
  go_wp2_with (first
   |(go_at_call 92;have f:=iU A c l hH hC (h.hF a) j;rw[g]at f;refine f.mono ?_;rintro e m⟨rfl,b⟩;replace a:=a.trans b;replace d:=d.hF b;have p:=d.f_ 0;have n:=d.f_ 1;have o:=d.f_ 2;clear b)
   |(go_at_call 133;refine(qn A c l hH hC pc (h.hF a) j).mono ?_;rintro e m⟨rfl,b⟩;replace a:=a.trans b;clear b))
  go_ret;exact⟨iH i.out.symm,a⟩
def l4(c:Nat)(l:List In)(hH hC pc:Int)(h:Is w A l)(hn:l.length<=1000000000)(g: -1000000000<=pc)(i:pc<=1000000000):
 Calls prog 97 #[.agg #[.slice A l.length c,Y hH,Y hC],Y pc] w λe w'=>e=.returned (.bool (mX l pc))/\I [] w w':=by
 have hg1:=(H [] w).alloc (.cells #[.slice A l.length c,Y hH,Y hC] 26);have hB:=P_ w 26 #[.slice A l.length c,Y hH,Y hC];have z0:=hB.f_ 0;have aR:=hB.f_ 1;have aZ:=hB.f_ 2
 by_cases f:pc= -1
 .have aU:=U (show mX l pc=true by unfold mX;simp[f])
  go_enter func97,ntmps97
  go_wp2;exact Lk
 by_cases a:iB l pc=21
 .skip;have aU:=U (show mX l pc=true by unfold mX;simp[a]);exact Jm
 by_cases b:0<=iB l pc
 .by_cases d:iB l (pc-1)=21
  .skip;have aU:=U (show mX l pc=true by unfold mX;simp[b,d]);exact Jm
  by_cases e:iB l (pc-1)=20
  .skip;have aU:=U (show mX l pc=true by unfold mX;simp[b,e]);exact Jm
  .skip;have aU:=U (show mX l pc=false by unfold mX;simp[f,a,b,d,e]);exact Jm
 .skip;have aU:=U (show mX l pc=false by unfold mX;simp[f,a,b]);exact Jm
def bad(l:List Int)(hC:Int)(k:Nat):Bool:=
 decide (l.getD k 0<0)||decide (hC<l.getD k 0)||(decide (0<k)&&decide (l.getD k 0<=l.getD (k-1) 0))
def qT(c:List In)(hH hC:Int)(d:List Int):Bool:= !(i0 (bad d hC) (List.range d.length))&&ic c hH hC
def vt(A f:Option Addr)(c g:Nat)(l:List In)(hH hC:Int)(d:List Int)(r:Is w A l)(O:l.length<=1000000000)(h:Ns w 3 f d)(hd:d.length<=1000000000):
 Calls prog 77 #[.agg #[.slice A l.length c,Y hH,Y hC],.agg #[.slice f d.length g]] w λe w'=>e=.returned (.bool (qT l hH hC d))/\I [] w w':=by
 have MZ:=((H [] w).alloc (.cells #[.slice A l.length c,Y hH,Y hC] 26)).alloc (.cells #[.slice f d.length g] 32);have j:=(P_ w 26 #[.slice A l.length c,Y hH,Y hC]).alloc (.cells #[.slice f d.length g] 32);have B:Bk _ (w.heap.size+1) 32 #[.slice f d.length g]:=(by simpa using P_ (w.alloc (.cells #[.slice A l.length c,Y hH,Y hC] 26)) 32 #[.slice f d.length g]:Bk ((w.alloc (.cells #[.slice A l.length c,Y hH,Y hC] 26)).alloc (.cells #[.slice f d.length g] 32)) (w.heap.size+1) 32 #[.slice f d.length g]);replace h:=h.hF MZ;replace r:=r.hF MZ;have R:=j.f_ 0;have K:=j.f_ 1;have M:=j.f_ 2;have L:=B.f_ 0;generalize hD:d.length=m at*
 go_enter func77,ntmps77
 go_wp2;generalize (w.alloc (.cells #[.slice A l.length c,Y hH,Y hC] 26)).alloc (.cells #[.slice f m g] 32)=P at*
 go_loopw [10] (λu w'=>∃k:Nat,k<=m/\u=Y k/\i0 (bad d hC) (List.range d.length)=i0 (bad d hC) ((List.range d.length).drop k)/\I [] P w') (λu _=>m-(intOf u).toNat)
 case atStart=>exact⟨0,N_ _,rfl,rfl,H _ _⟩
 case round=>
  obtain⟨k,hk,rfl,G,F⟩:=hrel;have E:=U G;clear G;have o:=j.hF F;have C:=B.hF F;have R:=o.f_ 0;have K:=o.f_ 1;have M:=o.f_ 2;have L:=C.f_ 0
  by_cases S:k<m
  .have s:k<d.length:=X;have a:k<(List.range d.length).length:=zu s;have i:=U (show d.getD k 0=d[k] by simp[List.getD,K_ s]);obtain⟨W,off,rfl,N⟩:=(h.hF F).at_ s;generalize d[k]=x at*
   by_cases n:x<0
   .have aS:=U (show bad d hC k=true by unfold bad;rw[i.out];simp[n]);exact Kg
   by_cases v:hC<x
   .have aS:=U (show bad d hC k=true by unfold bad;rw[i.out];simp[n,v]);exact Kg
   cases k with
   |zero=>
    rw[Hb]at N;have aS:=U (show bad d hC 0=false by unfold bad;rw[i.out];simp[n,v]);have T:=U (show i0 (bad d hC) (List.range d.length)=i0 (bad d hC) ((List.range d.length).drop (0+1)) by rw[E.out];exact oI (p:=bad d hC) a (by rw[Ht];exact aS.out));clear E aS;go_wp2;go_roundw
    case rel=>exact⟨0+1,X,rfl,T.out,F⟩
    case measure=>exact mz
   |succ b=>
    obtain⟨Z,ad,t,V⟩:=(h.hF F).at_ (k:=b) X;injection t with t;injection t with J D;subst J;subst D;have z:=U (show d.getD b 0=d[b] by simp[List.getD,K_ (show b<d.length by omega)]);generalize d[b]=Q at*;have hm:((b:Int)+1-1)=b:=X
    by_cases y:x<=Q
    .have aS:=U (show bad d hC (b+1)=true by unfold bad;rw[i.out,Nat.add_sub_cancel,z.out];simp[y]);exact Kg
    .have aS:=U (show bad d hC (b+1)=false by unfold bad;rw[i.out,Nat.add_sub_cancel,z.out];simp[n,v,y]);have T:=U (show i0 (bad d hC) (List.range d.length)=i0 (bad d hC) ((List.range d.length).drop (b+1+1)) by rw[E.out];exact oI (p:=bad d hC) a (by rw[Ht];exact aS.out));clear E aS;go_wp2;go_roundw
     case rel=>exact⟨b+1+1,X,gn,T.out,F⟩
     case measure=>exact mz
  .have T:=U (show qT l hH hC d=ic l hH hC by unfold qT;rw[E.out,qX (p:=bad d hC) p_];rfl);clear E
   go_wp2_with (go_at_call 92;refine(iU A c l hH hC (r.hF F) O).mono ?_;rintro e i⟨rfl,b⟩;replace F:=F.trans b;clear b)
   go_ret;exact⟨iH T.out.symm,MZ.trans F⟩
