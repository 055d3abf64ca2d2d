import Derived.Test.YtenbhdilndfaeaaGreatM04
set_option maxRecDepth 100000
set_option maxHeartbeats 0
set_option linter.all false
namespace Go.Proofs.YtenbhdilndfaeaaGreat
open Go.RowKit Go.Proofs.Tryz
variable{G:Prop}{w:World}{k:Nat}(l:QS)(A:OA)(hH hC:Int)
def Jx(h:G:=by
 go_wp2_with ((go_at_call 147;have ap:=qR c l hH hC k g (h.hF hg1) (C.hF hg1) aE X;rw[hL,hf]at ap;refine ap.mono ?_;rintro e Nq⟨rfl,hg⟩;replace o:=o.hF hg;have U:=o.f_ 0;have ax:=o.f_ 4;replace hg1:=hg1.trans hg;replace P:=hB.hF hg1;clear z0 aR aZ;have z0:=P.f_ 0;have aR:=P.f_ 1;have aZ:=P.f_ 2;clear hg));go_ret;exact⟨iG bi.out.symm,Nv.trans hg1⟩):G:=h
def JC(h:G:=by
 go_enter func97,ntmps97;go_wp2_with (go_at_call 133;refine(qn A c l hH hC _ (h.hF hg1) hn).mono ?_;rintro e Nq⟨rfl,hg⟩;replace hg1:=hg1.trans hg;replace hB:=hB.hF hg;have z0:=hB.f_ 0;have aR:=hB.f_ 1;have aZ:=hB.f_ 2;clear hg);exact LL):G:=h
def Ks(h:G:=by
 have bg:((n:Int)<1)=False:=p_;have aM:(2048<(n:Int))=False:=p_;have d:(hH<0)=False:=p_;have D:(64<hH)=False:=p_;exact MY):G:=h
def Ky(h:G:=by
 have be:=O (show qS l hH hC d=false by unfold qS;rw[aN.out,o7 (p:=bad d hC) a (by rw[HF];exact aU.out)];rfl);clear aN aU;go_wp2;go_ret;exact⟨iG be.out.symm,Nv.trans F⟩):G:=h
def LL(h:G:=by
 go_ret;exact⟨iG (by first|exact bi.out.symm|(rw[bi.out];simp[a,d,e])|(rw[bi.out];simp[a])),hg1⟩):G:=h
def MC(h:G:=by
 go_enter func147,ntmps147;go_wp2;go_ret;exact⟨iG ap.out.symm,Nv.alloc _⟩):G:=h
def MY(h:G:=by
 go_enter func92,ntmps92;go_wp2;go_ret;exact⟨iG bi.out.symm,Nv⟩):G:=h
def Eb{g:Nat}(h:Sl w 274 4 (j_ g) 22 qC)(s:k<22):
 w.cell? (Z g (k*4))=some (.bool (i7.getD k default).a)/\w.cell? (Z g (k*4+1))=some (.bool (i7.getD k default).b)/\w.cell? (Z g (k*4+2))=some (.bool (i7.getD k default).c)/\w.cell? (Z g (k*4+3))=some (Y (i7.getD k default).n):=by
 obtain⟨b,u,f,q⟩:=Sl.f_ h X;injection f with f;injection f with o p;subst o;subst p;have i:k<i7.length:=s;have m:i7.getD k default=i7[k]:=by simp[List.getD,K_ i]
 rw[m];have g:=λd r=>ja Sh.E 4 (λ_=>rfl) i7 k d i r;have e:=λd j(t:qC[d]?=some j)=>by have:=q d j t;rwa [X_]at this
 exact⟨e (k*4+0) _ (g 0 X),e (k*4+1) _ (g 1 X),e (k*4+2) _ (g 2 X),e (k*4+3) _ (g 3 X)⟩
def Br(c:Nat)(l:QS)(hH hC:Int)(i g:Nat)(w:World)(h:Is w A l)(a:i<l.length)(v:l.length<=1000000000)(o:l[i].op<0∨21<l[i].op):
 Calls prog 147 #[.agg #[.slice A l.length c,Y hH,Y hC],Y i,.slice (j_ g) 22 22] w λe w'=>e=.returned (.bool (k4 l i))/\J [] w w':=by
 have ap:=O (show k4 l i=false by
  unfold k4 jX;have e:l.getD i default=l[i]:=by simp[List.getD,K_ a]
  rw[e,U_ o])
 have Nv:=(F_ [] w).alloc (.cells #[.slice A l.length c,Y hH,Y hC] 26);obtain⟨t,y,rfl,j,m,d,f,b⟩:=(h.hF Nv).at_ a;have r:(i:Int)<(l.length:Int):=X;generalize l[i]=p at*;obtain⟨op,q,s,u,x⟩:=p;simp only at o j m d f b;rcases o with n|n
 exact MC;exact MC
def DM(h:G:=by first|(simp[r1];done)|(simp[r1,r2,e13,e10,h13,h10];done)|(simp[r1,r2,r3,e13,e10,h13,h10];done)|(simp[r1,r2,r3,e13,e10,h13,h10,m0];done)|(simp[r1,r2,r3,e13,e10,h13,h10,m1];done)|(simp[r1,r2,r3,e13,e10,h13,h10,mb];done)|(simp[r1,r2,r3,e13,e10,h13,h10,mb,m1];done)|(simp[r1,r2,r3,e13,e10,h13,h10,mb,m1,m2];done)|(simp[r1,r2,r3,e13,e10,h13,h10,m1,m2];done)|(simp[r1,r2,r3,e13,e10,h13,h10,m1,m2,m3];done)|(simp[r1,r2,r3,e13,e10,h13,h10,m1,m2,m3,m4];done)|(simp[r1,r2,r3,e13,e10,h13,h10,m0,m1];done)|(simp[r1,e13,e10,n1];done)|(simp[r1,e13,e10,n1,n2];done)|(simp[r1,e13,e10,n1,n2,n3];done)|(simp[r1,e13,e10,n1,n2,n3,n4];done)|(simp[r1,e13,e10,n1,n2,n3,n4,n5];done)|(simp[r1,e13,e10,n1,n2,n3,n4,n5,m1];done)|(simp[r1,r3,e13,e10];done)|(simp[r1,r3,e13,e10,r4];done)|(simp[r1,r3,e13,e10,r4,m1];done)|(simp[r1,r3,e13,e10,r4,m1,m2];done)|fail):G:=h
def kB(h:G:=by
 first|(have av:Hid (Nq=false):=O (by rw[<-HZ.out];unfold jX;dsimp only;rw[T_ X];exact DM))|(have av:Hid (Nq=true):=O (by rw[<-HZ.out];unfold jX;dsimp only;rw[T_ X];exact DM))
 go_wp2_with (first
  |(go_at_call 178;refine(vg).mono ?_;rintro e w2⟨rfl,rfl⟩)
  |(go_at_call 133;refine(qn _ c l hH hC _ (h.hF f) hn).mono ?_;rintro e w2⟨rfl,hg⟩;have f:=f.trans hg;have bP:=bP.hF hg;have aK:=aK.hF hg;have de:=de.hF hg;have m:=bP.f_ 0;have q:=bP.f_ 1;have r:=bP.f_ 2;have u:=aK.f_ 0;have v:=aK.f_ 1;have y:=aK.f_ 2;have z:=aK.f_ 3;have D:=aK.f_ 4;have E:=de.f_ 0;have F:=de.f_ 1;have Nw:=de.f_ 2;have Nv:=de.f_ 3)
  |(go_at_call 179;refine(uQ _ _).mono ?_;rintro e w2⟨rfl,rfl⟩)
  |(go_at_call 180;refine(qM _).mono ?_;rintro e w2⟨⟨st,rfl⟩,hg⟩;have f:=f.trans hg;have bP:=bP.hF hg;have aK:=aK.hF hg;have de:=de.hF hg;have m:=bP.f_ 0;have q:=bP.f_ 1;have r:=bP.f_ 2;have u:=aK.f_ 0;have v:=aK.f_ 1;have y:=aK.f_ 2;have z:=aK.f_ 3;have D:=aK.f_ 4;have E:=de.f_ 0;have F:=de.f_ 1;have Nw:=de.f_ 2;have Nv:=de.f_ 3))
 go_ret;exact⟨iG (by first|exact av.out.symm|(rw[av.out];exact DM)),f⟩):G:=h
def DL(A:Option Addr)(c:Nat)(l:QS)(hH hC:Int)(i g:Nat)(w:World)(h:Is w A l)(C:Sl w 274 4 (j_ g) 22 qC)(S:i<l.length)(hn:l.length<=1000000000)(h0:0<=l[i].op)(t:l[i].op<=21):
 Calls prog 147 #[.agg #[.slice A l.length c,Y hH,Y hC],Y i,.slice (j_ g) 22 22] w λe w'=>e=.returned (.bool (k4 l i))/\J [] w w':=by
 have G:k4 l i=jX l i l[i] (i7.getD l[i].op.toNat default):=by
  unfold k4;have e:l.getD i default=l[i]:=by simp[List.getD,K_ S]
  rw[e]
 rw[G];clear G;have N:=(((F_ [] w).alloc (.cells #[.slice A l.length c,Y hH,Y hC] 26)));obtain⟨x,B,rfl,bj,bn,bN,bR,V⟩:=(h.hF N).at_ S;have ag:(i:Int)<(l.length:Int):=X;have L:=Cg l[i].op.toNat X;have M:=N.alloc (.cells #[Y l[i].op,Y l[i].a,Y l[i].b,Y l[i].c,Y l[i].n] 189);obtain⟨U,W,ca,cJ⟩:=Eb (C.hF M) (k:=l[i].op.toNat) X;have K:l[i].op=13->i7.getD l[i].op.toNat default=⟨false,false,false,7⟩:=λh=>by rw[h];rfl
 have I:l[i].op=10->i7.getD l[i].op.toNat default=⟨true,false,false,5⟩:=λh=>by rw[h];rfl
 generalize i7.getD l[i].op.toNat default=ad at*;obtain⟨o,p,s,d⟩:=ad;generalize l[i]=ae at*;obtain⟨op,a,b,j,n⟩:=ae;obtain⟨k,hk⟩:∃k:Nat,op=k:=⟨op.toNat,(Hd h0).symm⟩;simp only at*;subst hk;simp only[GZ]at*;have dj:(k:Int)<22:=X;obtain⟨Nq,P⟩:=mn_ (jX l i ⟨k,a,b,j,n⟩ ⟨o,p,s,d⟩);rw[P];have HZ:=O P;clear P;go_enter func147,ntmps147;go_wp2_with fail;go_quiet (fail);have R:=M.alloc (.cells #[.bool o,.bool p,.bool s,Y d] 274);have r3:Bk _ w.heap.size 26 #[.slice (some (Z x B)) l.length c,Y hH,Y hC]:=((P_ w 26 #[.slice (some (Z x B)) l.length c,Y hH,Y hC]).alloc (.cells #[Y (k:Int),Y a,Y b,Y j,Y n] 189)).alloc (.cells #[.bool o,.bool p,.bool s,Y d] 274);have T:Bk _ (w.heap.size+1) 189 #[Y (k:Int),Y a,Y b,Y j,Y n]:=(by simpa using(P_ (w.alloc (.cells #[.slice (some (Z x B)) l.length c,Y hH,Y hC] 26)) 189 #[Y (k:Int),Y a,Y b,Y j,Y n]).alloc (.cells #[.bool o,.bool p,.bool s,Y d] 274):Bk (((w.alloc (.cells #[.slice (some (Z x B)) l.length c,Y hH,Y hC] 26)).alloc (.cells #[Y (k:Int),Y a,Y b,Y j,Y n] 189)).alloc (.cells #[.bool o,.bool p,.bool s,Y d] 274)) (w.heap.size+1) 189 #[Y (k:Int),Y a,Y b,Y j,Y n]);obtain⟨-,-,Q,-⟩:=w6 w 26 #[.slice (some (Z x B)) l.length c,Y hH,Y hC] 189 #[Y (k:Int),Y a,Y b,Y j,Y n] 274 #[.bool o,.bool p,.bool s,Y d];have f:=R.drewN nq;have bP:=r3.drewN nq;have aK:=T.drewN nq;have de:=Q.drewN nq;clear U W ca cJ bj bn bN bR V C M N R r3 T Q;generalize (((w.alloc (.cells #[.slice (some (Z x B)) l.length c,Y hH,Y hC] 26)).alloc (.cells #[Y (k:Int),Y a,Y b,Y j,Y n] 189)).alloc (.cells #[.bool o,.bool p,.bool s,Y d] 274)).drewN nq=w1 at*;have m:=bP.f_ 0;have q:=bP.f_ 1;have r:=bP.f_ 2;have u:=aK.f_ 0;have v:=aK.f_ 1;have y:=aK.f_ 2;have z:=aK.f_ 3;have D:=aK.f_ 4;have E:=de.f_ 0;have F:=de.f_ 1;have Nw:=de.f_ 2;have Nv:=de.f_ 3;by_cases h13:(k:Int)=13
 .have av:=K h13;simp only[Sh.mk.injEq]at av;obtain⟨rfl,rfl,rfl,rfl⟩:=av;clear K I L;obtain rfl:k=13:=X;simp only[Int.cast_ofNat_Int]at*;have e13:((13:Int)==13)=true:=rfl;have e10:((13:Int)==10)=false:=rfl;cases r1:mr a false with
  |false=>exact kB
  |true=>
   by_cases n1:b<0;exact kB;by_cases n2:4<b
   .exact kB
   by_cases n3:j<b
   .exact kB
   by_cases n4:64<j
   .exact kB
   by_cases n5:iB l ((i:Int)+1)=21
   .by_cases m1:iB l n=21
    .exact kB
    exact kB
   exact kB
 have e13:((k:Int)==13)=false:=zu h13;by_cases h10:(k:Int)=10
 .have av:=I h10;simp only[Sh.mk.injEq]at av;obtain⟨rfl,rfl,rfl,rfl⟩:=av;clear K I L;obtain rfl:k=10:=X;simp only[Int.cast_ofNat_Int]at*;replace e13:((10:Int)==13)=false:=rfl;have e10:((10:Int)==10)=true:=rfl;cases r1:mr a true with
  |false=>exact kB
  |true=>
   cases r3:mr j false with
   |false=>exact kB
   |true=>
    cases r4:rB b with
    |false=>exact kB
    |true=>
     by_cases m1:0<=n;by_cases m2:n<64
     .exact kB
     exact kB;exact kB
 have e10:((k:Int)==10)=false:=zu h10;clear K I;have H:d=0∨d=1∨d=2∨d=3∨d=4∨d=5∨d=6∨d=7∨d=8∨d=9:=X;clear L;cases r1:mr a o with
 |false=>rcases H with rfl|rfl|rfl|rfl|rfl|rfl|rfl|rfl|rfl|rfl<;>exact kB
 |true=>
 cases r2:mr b p with
 |false=>rcases H with rfl|rfl|rfl|rfl|rfl|rfl|rfl|rfl|rfl|rfl<;>exact kB
 |true=>
 cases r3:mr j s with
 |false=>rcases H with rfl|rfl|rfl|rfl|rfl|rfl|rfl|rfl|rfl|rfl<;>exact kB
 |true=>
 rcases H with rfl|rfl|rfl|rfl|rfl|rfl|rfl|rfl|rfl|rfl
 by_cases m0:n=0
 .exact kB
 exact kB;exact kB
 .cases mb:pE n with
  |false=>exact kB
  |true=>
  by_cases m1:0<=n
  .by_cases m2:n<100
   .exact kB
   exact kB
  exact kB
 by_cases m1:0<=n
 .by_cases m2:n<16
  .exact kB
  exact kB
 exact kB;by_cases m1:0<=n
 .by_cases m2:n<=16
  .exact kB
  exact kB
 exact kB;by_cases m1:0<=n
 .by_cases m2:n<64
  .by_cases m3:(k:Int)=20
   .by_cases m4:iB l ((i:Int)-1)=21
    .exact kB
    exact kB
   exact kB
  exact kB
 exact kB;by_cases m1:0<=iB l n
 .by_cases m2:iB l n=20
  .exact kB
  by_cases m3:(i:Int)<n
  .exact kB
  by_cases m4:iB l n=21
  .exact kB
  exact kB
 exact kB;by_cases m1:iB l n=21
 .exact kB
 exact kB
 .by_cases m0:n=0
  .exact kB
  by_cases m1:iB l n=21
  .exact kB
  exact kB
 exact kB
def qR{A:OA}(c:Nat)(l:QS)(hH hC:Int)(i g:Nat)(h:Is w A l)(C:Sl w 274 4 (j_ g) 22 qC)(a:i<l.length)(b:l.length<=1000000000):
 Calls prog 147 #[.agg #[.slice A l.length c,Y hH,Y hC],Y i,.slice (j_ g) 22 22] w λe w'=>e=.returned (.bool (k4 l i))/\J [] w w':=by
 by_cases d:l[i].op<0∨21<l[i].op
 .exact Br A c l hH hC i g w h a b d
 exact DL A c l hH hC i g w h C a b X X
def nH(l:QS)(hC:Int):List In->Nat->Int->Bool
 |[],_,m=>hC==m
 |x::t,k,m=>k4 l k&&(if x.op=21 then(x.n==m)&&nH l hC t (k+1) (m+1) else nH l hC t (k+1) m)
def Al(t:QS):∀(k:Nat) (m:Int),
 ((List.range' k t.length).all (k4 l)&&ks t m&&(hC==m+jG t))=nH l hC t k m:=by
 induction t with
 |nil=>intro k m;simp[nH,ks,jG]
 |cons a t d=>
  intro k m;have e:List.range' k (a::t).length=k::List.range' (k+1) t.length:=by simp[List.range'_succ]
  rw[e];by_cases b:a.op=21;have c:m+jG (a::t)=(m+1)+jG t:=by simp[jG,b];omega
  rw[c];simp only[nH,ks,b,if_true,List.all_cons,<-d];cases k4 l k<;>cases(a.n==m)<;>simp
  have c:jG (a::t)=jG t:=by simp[jG,b]
  rw[c];simp only[nH,ks,b,if_false,List.all_cons,<-d];cases k4 l k<;>simp
def yT{l:QS}{hC:Int}{m:Int}(h:l.length<=k):nH l hC (l.drop k) k m=(hC==m):=by
 rw[GD h];rfl
def xl(k:Nat)(m:Int)(h:k<l.length):
 nH l hC (l.drop k) k m=(k4 l k&&(if l[k].op=21 then(l[k].n==m)&&nH l hC (l.drop (k+1)) (k+1) (m+1) else nH l hC (l.drop (k+1)) (k+1) m)):=by
 rw[R_ h];rfl
def Am:ia l hH hC=(decide (1<=l.length)&&decide (l.length<=2048)&&decide (0<=hH)&&decide (hH<=64)&&(iB l 0==21)&&
 (iB l ((l.length:Int)-1)==14||iB l ((l.length:Int)-1)==16||iB l ((l.length:Int)-1)==11)&&nH l hC (l.drop 0) 0 0):=by
 rw[List.drop_zero,<-Al,<-List.range_eq_range',Int.zero_add];unfold ia oa;simp only[Bool.and_assoc]
def iW(c:Nat)(l:QS)(hH hC:Int)(h:Is w A l)(Z:l.length<=1000000000):
 Calls prog 92 #[.agg #[.slice A l.length c,Y hH,Y hC]] w λe w'=>e=.returned (.bool (ia l hH hC))/\J [] w w':=by
 have a:=O (Am l hH hC);have Nv:=(F_ [] w).alloc (.cells #[.slice A l.length c,Y hH,Y hC] 26);replace h:=h.hF Nv;have hB:=P_ w 26 #[.slice A l.length c,Y hH,Y hC];have z0:=hB.f_ 0;have aR:=hB.f_ 1;have aZ:=hB.f_ 2;by_cases h1:l.length<1
 .have bi:=O (show ia l hH hC=false by rw[a.out];simp[show ¬(1<=l.length) by omega]);exact MY
 by_cases h2:2048<l.length
 .have bi:=O (show ia l hH hC=false by rw[a.out];simp[show ¬(l.length<=2048) by omega]);exact MY
 by_cases h3:hH<0
 .have bi:=O (show ia l hH hC=false by rw[a.out];simp[show ¬(0<=hH) by omega]);exact MY
 by_cases am:64<hH
 .have bi:=O (show ia l hH hC=false by rw[a.out];simp[show ¬(hH<=64) by omega]);exact MY
 obtain⟨b,I⟩:∃b,l.length=b+1:=⟨l.length-1,X⟩;have W:0<l.length:=X;have F:b<l.length:=X;have r:=O (show iB l 0=l[0].op by unfold iB;rw[T_ X];simp[List.getD,K_ W]);have u:=O (show iB l ((l.length:Int)-1)=l[b].op by
  have e:(l.length:Int)-1=b:=X;unfold iB;rw[e,T_ X];simp[List.getD,K_ F])
 obtain⟨bE,off,rfl,T, -, -, -, -⟩:=h.at_ W;obtain⟨G,ad,p,aQ, -, -, -, -⟩:=h.at_ F;injection p with p;injection p with E B;subst E;subst B;rw[H1,HC]at T;generalize l[b].op=q at*;generalize l[0].op=v at*
 by_cases s:¬v=21
 .have m:(v==21)=false:=zu s;have bi:=O (show ia l hH hC=false by rw[a.out,r.out,m];simp);clear a r u;generalize hL:l.length=n at*;clear F aQ m Z hL h I;exact Ks
 replace s:=Classical.not_not.mp s;have m:(v==21)=true:=zu s;by_cases H:q=14∨q=16∨q=11
 .have y:(q==14||q==16||q==11)=true:=by rcases H with rfl|rfl|rfl<;>rfl
  have S:=O (show ia l hH hC=nH l hC (l.drop 0) 0 (0:Nat) by rw[a.out,r.out,u.out,m,y];simp[show 1<=l.length by omega,show l.length<=2048 by omega,show 0<=hH by omega,show hH<=64 by omega]);clear a r u;generalize hL:l.length=n at*;have a:=S;clear S;have hm:(n:Int)-1=b:=X;clear I y m;subst s;have bg:((n:Int)<1)=False:=p_;have aM:(2048<(n:Int))=False:=p_;have d:(hH<0)=False:=p_;have D:(64<hH)=False:=p_;rcases H with rfl|rfl|rfl
  all_goals
   go_enter func92,ntmps92;go_wp2_with (first
    |(go_at_call 146;refine(xv).mono ?_;rintro e M⟨g,rfl,C,hg⟩;replace Nv:=Nv.trans hg;replace h:=h.hF hg;replace hB:=hB.hF hg;have z0:=hB.f_ 0;have aR:=hB.f_ 1;have aZ:=hB.f_ 2;clear hg))
   go_loopw [57,5] (λK ae w'=>∃(k:Nat) (f:Nat),k<=n/\f<=k/\K=Y k/\ae=Y f/\ia l hH hC=nH l hC (l.drop k) k f/\J [] M w') (λK _ _=>n-(intOf K).toNat)
   case atStart=>exact⟨0,0,L_ _,H_ _,rfl,rfl,a.out,F_ _ _⟩
   obtain⟨k,f,hk,hj,rfl,rfl,N,t⟩:=hrel;have i:=O N;clear N a;clear z0 aR aZ;have z:=hB.hF t;have z0:=z.f_ 0;have aR:=z.f_ 1;have aZ:=z.f_ 2;by_cases ag:k<n
   .have aE:k<l.length:=X;have j:=O (xl l hC k f aE);obtain⟨b',ad,p,T,bn,bN,bR,a6⟩:=(h.hF t).at_ aE;injection p with p;injection p with E B;subst E;subst B;generalize l[k]=af at*;obtain⟨op,Q,R,V,x⟩:=af;simp only at*;have hg1:=t.alloc (.cells #[Y op,Y Q,Y R,Y V,Y x] 189);clear z0 aR aZ z;have P:=hB.hF hg1;have z0:=P.f_ 0;have aR:=P.f_ 1;have aZ:=P.f_ 2;have o:=(λ{M w':World}(_:J [] M w')=>P_ w' 189 #[Y op,Y Q,Y R,Y V,Y x]) t;cases hf:k4 l k with
    |false=>
     have bi:=O (show ia l hH hC=false by rw[i.out,j.out,hf];rfl);clear i j;exact Jx
    |true=>
     by_cases q:op=21
     .have v:(op==21)=true:=zu q;by_cases b:x=f
      .have L:(x==(f:Int))=true:=zu b;have bi:=O (show ia l hH hC=nH l hC (l.drop (k+1)) (k+1) ((f+1:Nat):Int) by rw[i.out,j.out,hf,U_ q,L];rfl);clear i j b q;go_wp2_with ((go_at_call 147;have ap:=qR c l hH hC k g (h.hF hg1) (C.hF hg1) aE X;rw[hL,hf]at ap;refine ap.mono ?_;rintro e Nq⟨rfl,hg⟩;replace o:=o.hF hg;have U:=o.f_ 0;have ax:=o.f_ 4;replace hg1:=hg1.trans hg;replace P:=hB.hF hg1;clear z0 aR aZ;have z0:=P.f_ 0;have aR:=P.f_ 1;have aZ:=P.f_ 2;clear hg));go_roundw;exact⟨k+1,f+1,X,X,gn,gn,bi.out,hg1⟩;exact mz
      have L:(x==(f:Int))=false:=zu b;have bi:=O (show ia l hH hC=false by rw[i.out,j.out,hf,U_ q,L];rfl);clear i j b q;exact Jx
     have v:(op==21)=false:=zu q;have bi:=O (show ia l hH hC=nH l hC (l.drop (k+1)) (k+1) (f:Int) by rw[i.out,j.out,hf,T_ q];rfl);clear i j q;go_wp2_with ((go_at_call 147;have ap:=qR c l hH hC k g (h.hF hg1) (C.hF hg1) aE X;rw[hL,hf]at ap;refine ap.mono ?_;rintro e Nq⟨rfl,hg⟩;replace o:=o.hF hg;have U:=o.f_ 0;have ax:=o.f_ 4;replace hg1:=hg1.trans hg;replace P:=hB.hF hg1;clear z0 aR aZ;have z0:=P.f_ 0;have aR:=P.f_ 1;have aZ:=P.f_ 2;clear hg));go_roundw;exact⟨k+1,f,X,X,gn,rfl,bi.out,hg1⟩;exact mz
   go_wp2;go_ret;exact⟨iG (by rw[i.out,yT X]),Nv.trans t⟩
 have y:(q==14||q==16||q==11)=false:=p_;have bi:=O (show ia l hH hC=false by rw[a.out,r.out,u.out,m,y];simp);have i:¬q=14:=X;have j:¬q=16:=X;have f:¬q=11:=X;have x:(q !=14)=true:=zu i;have z:(q !=16)=true:=zu j;have t:(q !=11)=true:=zu f;clear i j f;clear a r u y H;generalize hL:l.length=n at*;have hm:(n:Int)-1=b:=X;clear hL I h Z m;subst s;exact Ks
def jz(l:QS)(hH hC pc:Int):Bool:=ia l hH hC&&(iB l pc==20)
def m8(l:QS)(pc:Int):Bool:=
 (pc== -1)||(iB l pc==21)||(decide (0<=iB l pc)&&(iB l (pc-1)==21||iB l (pc-1)==20))
def lC(c:Nat)(l:QS)(hH hC pc:Int)(h:Is w A l)(j:l.length<=1000000000):
 Calls prog 83 #[.agg #[.slice A l.length c,Y hH,Y hC],Y pc] w λe w'=>e=.returned (.bool (jz l hH hC pc))/\J [] w w':=by
 have a:=(F_ [] w).alloc (.cells #[.slice A l.length c,Y hH,Y hC] 26);have d:=P_ w 26 #[.slice A l.length c,Y hH,Y hC];have p:=d.f_ 0;have n:=d.f_ 1;have o:=d.f_ 2;cases g:ia l hH hC with
 |false=>
  have i:=O (show jz l hH hC pc=false by unfold jz;rw[g];rfl);go_enter func83,ntmps83;go_wp2_with (go_at_call 92;have f:=iW A c l hH hC (h.hF a) j;rw[g]at f;refine f.mono ?_;rintro e m⟨rfl,b⟩;replace a:=a.trans b;clear b);go_ret;exact⟨iG i.out.symm,a⟩
 |true=>
  have i:=O (show jz l hH hC pc=(iB l pc==20) by unfold jz;rw[g];rfl);go_enter func83,ntmps83;go_wp2_with (first
   |(go_at_call 92;have f:=iW A c l hH hC (h.hF a) j;rw[g]at f;refine f.mono ?_;rintro e m⟨rfl,b⟩;replace a:=a.trans b;replace d:=d.hF b;have p:=d.f_ 0;have n:=d.f_ 1;have o:=d.f_ 2;clear b)
   |(go_at_call 133;refine(qn A c l hH hC pc (h.hF a) j).mono ?_;rintro e m⟨rfl,b⟩;replace a:=a.trans b;clear b))
  go_ret;exact⟨iG i.out.symm,a⟩
def l_(c:Nat)(l:QS)(hH hC pc:Int)(h:Is w A l)(hn:l.length<=1000000000)(i: -1000000000<=pc)(g:pc<=1000000000):
 Calls prog 97 #[.agg #[.slice A l.length c,Y hH,Y hC],Y pc] w λe w'=>e=.returned (.bool (m8 l pc))/\J [] w w':=by
 have hg1:=(F_ [] w).alloc (.cells #[.slice A l.length c,Y hH,Y hC] 26);have hB:=P_ w 26 #[.slice A l.length c,Y hH,Y hC];have z0:=hB.f_ 0;have aR:=hB.f_ 1;have aZ:=hB.f_ 2;by_cases f:pc= -1
 .have bi:=O (show m8 l pc=true by unfold m8;simp[f]);go_enter func97,ntmps97;go_wp2;exact LL
 by_cases a:iB l pc=21
 .skip;have bi:=O (show m8 l pc=true by unfold m8;simp[a]);exact JC
 by_cases b:0<=iB l pc;by_cases d:iB l (pc-1)=21
 .skip;have bi:=O (show m8 l pc=true by unfold m8;simp[b,d]);exact JC
 by_cases e:iB l (pc-1)=20;skip;have bi:=O (show m8 l pc=true by unfold m8;simp[b,e]);exact JC;skip;have bi:=O (show m8 l pc=false by unfold m8;simp[f,a,b,d,e]);exact JC;skip;have bi:=O (show m8 l pc=false by unfold m8;simp[f,a,b]);exact JC
def bad(l:QR)(hC:Int)(k:Nat):Bool:=
 decide (l.getD k 0<0)||decide (hC<l.getD k 0)||(decide (0<k)&&decide (l.getD k 0<=l.getD (k-1) 0))
def qS(c:QS)(hH hC:Int)(d:QR):Bool:= !(i0 (bad d hC) (List.range d.length))&&ia c hH hC
def vT(A f:Option Addr)(c g:Nat)(l:QS)(hH hC:Int)(d:QR)(o:Is w A l)(N:l.length<=1000000000)(h:Ns w 3 f d)(Z:d.length<=1000000000):
 Calls prog 77 #[.agg #[.slice A l.length c,Y hH,Y hC],.agg #[.slice f d.length g]] w λe w'=>e=.returned (.bool (qS l hH hC d))/\J [] w w':=by
 have Nv:=((F_ [] w).alloc (.cells #[.slice A l.length c,Y hH,Y hC] 26)).alloc (.cells #[.slice f d.length g] 32);have j:=(P_ w 26 #[.slice A l.length c,Y hH,Y hC]).alloc (.cells #[.slice f d.length g] 32);have C:Bk _ (w.heap.size+1) 32 #[.slice f d.length g]:=(by simpa using P_ (w.alloc (.cells #[.slice A l.length c,Y hH,Y hC] 26)) 32 #[.slice f d.length g]:Bk ((w.alloc (.cells #[.slice A l.length c,Y hH,Y hC] 26)).alloc (.cells #[.slice f d.length g] 32)) (w.heap.size+1) 32 #[.slice f d.length g]);replace h:=h.hF Nv;replace o:=o.hF Nv;have R:=j.f_ 0;have I:=j.f_ 1;have L:=j.f_ 2;have K:=C.f_ 0;generalize W:d.length=m at*
 go_enter func77,ntmps77;go_wp2;generalize (w.alloc (.cells #[.slice A l.length c,Y hH,Y hC] 26)).alloc (.cells #[.slice f m g] 32)=P at*
 go_loopw [10] (λt w'=>∃k:Nat,k<=m/\t=Y k/\i0 (bad d hC) (List.range d.length)=i0 (bad d hC) ((List.range d.length).drop k)/\J [] P w') (λt _=>m-(intOf t).toNat)
 case atStart=>exact⟨0,L_ _,rfl,rfl,F_ _ _⟩
 obtain⟨k,hk,rfl,B,F⟩:=hrel;have aN:=O B;clear B;have u:=j.hF F;have D:=C.hF F;have R:=u.f_ 0;have I:=u.f_ 1;have L:=u.f_ 2;have K:=D.f_ 0;by_cases T:k<m
 .have r:k<d.length:=X;have a:k<(List.range d.length).length:=zu r;have i:=O (show d.getD k 0=d[k] by simp[List.getD,K_ r]);obtain⟨U,off,rfl,M⟩:=(h.hF F).at_ r;generalize d[k]=x at*
  by_cases n:x<0
  .have aU:=O (show bad d hC k=true by unfold bad;rw[i.out];simp[n]);exact Ky
  by_cases v:hC<x
  .have aU:=O (show bad d hC k=true by unfold bad;rw[i.out];simp[n,v]);exact Ky
  cases k with
  |zero=>
   rw[HC]at M;have aU:=O (show bad d hC 0=false by unfold bad;rw[i.out];simp[n,v]);have be:=O (show i0 (bad d hC) (List.range d.length)=i0 (bad d hC) ((List.range d.length).drop (0+1)) by rw[aN.out];exact oI (p:=bad d hC) a (by rw[HF];exact aU.out));clear aN aU;go_wp2;go_roundw;exact⟨0+1,X,rfl,be.out,F⟩;exact mz
  |succ b=>
   obtain⟨V,ad,s,S⟩:=(h.hF F).at_ (k:=b) X;injection s with s;injection s with H E;subst H;subst E;have y:=O (show d.getD b 0=d[b] by simp[List.getD,K_ (show b<d.length by omega)]);generalize d[b]=Q at*;have hm:((b:Int)+1-1)=b:=X;by_cases z:x<=Q;have aU:=O (show bad d hC (b+1)=true by unfold bad;rw[i.out,Nat.add_sub_cancel,y.out];simp[z]);exact Ky;have aU:=O (show bad d hC (b+1)=false by unfold bad;rw[i.out,Nat.add_sub_cancel,y.out];simp[n,v,z]);have be:=O (show i0 (bad d hC) (List.range d.length)=i0 (bad d hC) ((List.range d.length).drop (b+1+1)) by rw[aN.out];exact oI (p:=bad d hC) a (by rw[HF];exact aU.out));clear aN aU;go_wp2;go_roundw;exact⟨b+1+1,X,gn,be.out,F⟩;exact mz
 have be:=O (show qS l hH hC d=ia l hH hC by unfold qS;rw[aN.out,qX (p:=bad d hC) p_];rfl);clear aN;go_wp2_with (go_at_call 92;refine(iW A c l hH hC (o.hF F) N).mono ?_;rintro e i⟨rfl,b⟩;replace F:=F.trans b;clear b);go_ret;exact⟨iG be.out.symm,Nv.trans F⟩
