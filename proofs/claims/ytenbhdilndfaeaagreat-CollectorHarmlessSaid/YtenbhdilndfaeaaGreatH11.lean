import Derived.Test.YtenbhdilndfaeaaGreatH09
set_option maxRecDepth 100000
set_option maxHeartbeats 0
set_option linter.all false
namespace Go.Proofs.YtenbhdilndfaeaaGreat
open Go.RowKit Go.Proofs.Tryz
variable{G:Prop}{l:QR}{c:Cl}{view:QQ}{d:Dl}{x:XP}{i:In}{p:Int}
def KH(h:G:=by
 refine⟨aj.ju,aj.j4,?_,?_,(by decide:(0:Int)<=2),(by decide:(2:Int)<=3),λh=>GR h (by decide:¬(2:Int)=0)⟩;show -1<=XP.j4 _;rw[aj.j4];exact hp;show XP.j4 _<=(l.length:Int);rw[aj.j4];exact hl):G:=h
def Ld(h:G:=by
 rw[e]at h;simp at h;have:=hb x.n (by first|exact h.2.1.1|exact h.2.2.1.1|omega);refine⟨X,X,?_⟩;first
  |exact h.2.2.imp id m_
  |exact h.2.2.2.imp id m_):G:=h
def LO(h:G:=by
 have aC:(x.hK+1).toNat=t.hK.toNat+1:=X;show iP.sm (128*(x.hK+1).toNat) _;rw[aC];exact⟨R.gs,R.rs,R.ws,R.nw,R.ds,R.ia⟩):G:=h
def L5(h:G:=by
 injection hy with hy;subst hy;have q:=z.mono (show n+6+1<=n+13 by omega);exact NL):G:=h
def MI(h:G:=by
 injection hs with hs;subst hs;exact⟨rfl,rfl,rfl,rfl,rfl,rfl,rfl,rfl,rfl,rfl,rfl⟩):G:=h
def MM(h:G:=by
 injection hy with hy;subst hy;exact pC.sm.mono (lq z) (show n+6+1+5<=n+13 by omega)):G:=h
def MU(h:G:=by
 have q:=p.mono (show n+1+1+1<=n+5 by omega);exact NL):G:=h
def ND(h:G:=by
 exact⟨au.rs,au.ws,au.nw,au.ds,au.ia⟩):G:=h
def NL(h:G:=by
 exact⟨q.rs,q.ws,q.nw,q.ds,q.ia⟩):G:=h
def NO(h:G:=by
 exact h.pB ⟨rfl,rfl,rfl,rfl⟩):G:=h
def iP.sm.mono{n m:Nat}{t:iP}(h:t.sm n)(a:n<=m):t.sm m:=
 ⟨H_ h.gs a,H_ h.rs a,H_ h.ws a,H_ h.nw a,H_ h.ds a,H_ h.ia a⟩
def v7(l:QV)(c:Cl):(kc l c).length<=l.length+1:=by
 unfold kc;split;simp;have:=pY (oS c.id c.f) l;simp only[M_,Hj,Ib,GI,Hb];unfold qS;omega
def rR{n:Nat}{t:iP}(h:t.sm n)(c:Cl):(jt t c).sm (n+1):=by
 obtain⟨f,g,j,b,e,a⟩:=h;unfold jt;split;exact⟨by simp only;omega,by simp only;omega,by have:=v7 t.ws c;simp only;omega,by simp only;omega,by simp only;omega,by simp only;omega⟩;exact⟨by simp only;omega,by simp only;omega,by simp only;omega,by simp only[IE];omega,by simp only;omega,by simp only;omega⟩
def qm{n:Nat}{t t':iP}{id f:Int}(h:t.sm n)(a:jb t view id f=some t'):t'.sm (n+2):=by
 unfold jb at a;split at a;injection a with a;subst a;exact h.mono X;split at a
 .cases a
 split at a
 .cases a
 injection a with a;subst a;refine rR (n:=n+1) ?_ _;obtain⟨j,k,m,e,g,b⟩:=h;refine⟨by simp only;omega,?_,by simp only;omega,by simp only;omega,?_,by simp only;omega⟩
 .exact H_ (v7 _ _) X
 have:=List.length_eraseIdx_le t.ds (pk t.ds id f).toNat;simp only;omega
def y1{n:Nat}{t t':iP}(h:t.sm n)(a:take t d=some t'):t'.sm (n+1):=by
 unfold take at a;obtain⟨g,j,k,e,f,b⟩:=h;split at a;cases a
 split at a
 .injection a with a;subst a
  have:=pY (om d.id d.f) t.ds;exact⟨by simp only;omega,by simp only;omega,by simp only;omega,by simp only;omega,by simp only[M_,Hj,Ib,GI,Hb];unfold r8;omega,by simp only;omega⟩
 split at a
 .cases a
 injection a with a;subst a;exact⟨by simp only;omega,by simp only;omega,by simp only;omega,by simp only;omega,by simp only[IE];omega,by simp only;omega⟩
def tO:∀(l:QC) (t:iP) (rs ws:QV) (n:Nat),t.sm n->(jf t rs ws l).1.sm (n+l.length)/\(jf t rs ws l).2.1.length<=rs.length/\(jf t rs ws l).2.2.length<=ws.length
 |[],_,_,_,_,h=>⟨h,I_ _,I_ _⟩
 |d::l,t,rs,ws,n,h=>by
  unfold jf;cases g:take t d with
  |none=>
   obtain⟨a,b,c⟩:=tO l t rs ws n h;exact⟨a.mono s_,b,c⟩
  |some j=>
   obtain⟨a,b,c⟩:=tO l j (jj rs d) (jj ws d) (n+1)<|y1 h g;have e:(jj rs d).length<=rs.length:=Hw _ _;have f:(jj ws d).length<=ws.length:=Hw _ _;exact⟨a.mono p_,H_ b e,H_ c f⟩
def za{n:Nat}{t t':iP}(h:t.sm n)(a:m8 view t c=some t'):t'.sm (n+2):=by
 unfold m8 at a;split at a;injection a with a;subst a;exact h.mono X;split at a
 .exact qm h a
 injection a with a;subst a;obtain⟨g,j,k,e,f,b⟩:=h;exact⟨by simp only;omega,by have:=v7 t.rs c;simp only;omega,by simp only;omega,by simp only;omega,by simp only;omega,by simp only;omega⟩
def wP{view:QQ}:∀(l:QV) (t t':iP) (n:Nat),t.sm n->jB view t l=some t'->t'.sm (n+2*l.length)
 |[],t,t',n,h,a=>by injection a with a;subst a;exact h.mono X
 |c::l,t,t',n,h,a=>by
  unfold jB at a;cases b:m8 view t c with
  |none=>rw[b]at a;cases a
  |some e=>
   rw[b]at a;exact(wP l e t' (n+2) (za h b) a).mono (by simp only[GI];omega)
def Dc{n:Nat}{t t':iP}(h:t.sm n)(a:pw view t c=some t'):t'.sm (n+3):=by
 unfold pw at a;cases b:jb t view c.id c.f with
 |none=>rw[b]at a;cases a
 |some e=>
  rw[b]at a;injection a with a;subst a;exact rR (qm h b) c
def wN{view:QQ}:∀(l:QV) (t t':iP) (n:Nat),t.sm n->j6 view t l=some t'->t'.sm (n+3*l.length)
 |[],t,t',n,h,a=>by injection a with a;subst a;exact h.mono X
 |c::l,t,t',n,h,a=>by
  unfold j6 at a;cases b:pw view t c with
  |none=>rw[b]at a;cases a
  |some e=>
   rw[b]at a;exact(wN l e t' (n+3) (Dc h b) a).mono (by simp only[GI];omega)
structure pC.sm(n:Nat)(e:pC):Prop where
 rs:e.rs.length<=n
 ws:e.ws.length<=n
 nw:e.nw.length<=n
 ds:e.ds.length<=n
 ia:e.ia.length<=n
def pC.sm.mono{n m:Nat}{t:pC}(h:t.sm n)(a:n<=m):t.sm m:=
 ⟨H_ h.rs a,H_ h.ws a,H_ h.nw a,H_ h.ds a,H_ h.ia a⟩
def z1{n k:Nat}{t t':iP}{e:pC}(h:t.sm n)(w:e.sm k)(a:record t view e=some t'):t'.sm (n+8*k):=by
 unfold record at a;obtain⟨z,B,E,F,D⟩:=w;obtain⟨j,C,c⟩:=tO e.ds t e.rs e.ws n h;simp only at a;cases f:jB view (jf t e.rs e.ws e.ds).1 (jf t e.rs e.ws e.ds).2.1 with
 |none=>rw[f]at a;cases a
 |some b=>
  rw[f]at a;simp only at a;have y:=(wP _ _ _ _ j f).mono (show _<=n+3*k by omega);cases g:j6 view {b with nw:=b.nw++e.nw} (jf t e.rs e.ws e.ds).2.2 with
  |none=>rw[g]at a;cases a
  |some A=>
   rw[g]at a;injection a with a;subst a;have q:({b with nw:=b.nw++e.nw}:iP).sm (n+4*k):=by
    obtain⟨m,s,o,r,v,u⟩:=y;exact⟨by simp only;omega,by simp only;omega,by simp only;omega,by simp only[M_];omega,by simp only;omega,by simp only;omega⟩
   obtain⟨m,s,o,r,v,u⟩:=(wN _ _ _ _ q g).mono (show _<=n+7*k by omega);exact⟨by simp only;omega,by simp only;omega,by simp only;omega,by simp only;omega,by simp only;omega,by simp only[M_];omega⟩
def ko{n:Nat}(h:x.e.sm n)(id f:Int):(hQ x id f).1.e.sm (n+1):=by
 unfold hQ;split;exact h.mono X;split
 .exact h.mono X
 obtain⟨a,j,b,g,k⟩:=h;exact⟨by simp only[M_,GI,Hb];omega,by simp only;omega,by simp only;omega,by simp only;omega,by simp only;omega⟩
def kZ{n:Nat}(h:x.e.sm n)(id f:Int)(v:Vl):(h6 x id f v).e.sm (n+1):=by
 unfold h6;obtain⟨a,j,b,g,k⟩:=h;exact⟨by simp only;omega,by simp only[M_,GI,Hb];omega,by simp only;omega,by simp only;omega,by simp only;omega⟩
def l9{n:Nat}(h:x.e.sm n):(hO x).1.e.sm (n+1):=by
 unfold hO;simp only;split;exact h.mono X;exact ko (x:=iv x) h 1 0
def lq{n:Nat}(h:x.e.sm n){v:Vl}:(iX x v).e.sm (n+5):=by
 have b:=l9 h;have a:=ko b (hO x).2.1 2;have p:=ko a (hO x).2.1 0;unfold iX;simp only;split;exact b.mono X;split
 .exact a.mono X
 split
 .have q:=(kZ (kZ a (hO x).2.1 2 default) 1 2 v).mono (show n+1+1+1+1<=n+5 by omega);exact NL
 split
 .exact MU
 split
 .exact MU
 have q:=kZ (kZ p 1 0 (hQ (hQ (hO x).1 (hO x).2.1 2).1 (hO x).2.1 0).2) 1 2 v;exact NL
def qD{n:Nat}(h:x.e.sm n)(v:Vl)(f:Int):(ik x v f).1.e.sm (n+5):=by
 unfold ik;split;exact lq h;split
 .exact lq h
 split
 .exact h.mono X
 split
 .exact lq h
 exact h.mono X
def mq{n:Nat}(h:x.e.sm n)(f:Int):(hI x f).1.e.sm (n+6):=by
 have a:=l9 h;unfold hI;simp only;split;exact a.mono X;split
 .exact(lq a).mono X
 exact a.mono X
def ic{e:Type}{p:Prop}[Decidable p]{f y:e}{b:Option e}{R:e->Prop}(h:(if p then some f else b)=some y)(g:p->R f)(j:¬p->b=some y->R y):R y:=by
 split at h;injection h with h;subst h;rename_i a;exact g a;rename_i a;exact j a h
def zx{n:Nat}{y:XP}(h:x.e.sm n)(h0:1<=n)(hy:ji x i=some y):y.e.sm (n+5):=by
 have au:x.e.sm (n+5):=h.mono X;unfold ji at hy;iterate 4 (refine ic (R:=λy=>y.e.sm<|n+5) hy (λ_=>⟨au.rs,au.ws,au.nw,au.ds,au.ia⟩) λ_ hy=>?_)
 refine ic (R:=λy=>y.e.sm<|n+5) hy (λ_=>?_) λ_ hy=>?_
 .split
  .exact lq h
  exact ND
 refine ic (R:=λy=>y.e.sm<|n+5) hy (λ_=>⟨au.rs,au.ws,au.nw,au.ds,au.ia⟩) λ_ hy=>?_;refine ic (R:=λy=>y.e.sm<|n+5) hy (λ_=>?_) λ_ hy=>?_
 .split
  .exact ND
  exact ND
 refine ic (R:=λy=>y.e.sm<|n+5) hy (λ_=>⟨au.rs,au.ws,au.nw,au.ds,au.ia⟩) λ_ hy=>?_;refine ic (R:=λy=>y.e.sm<|n+5) hy (λ_=>lq h) λ_ hy=>?_;refine ic (R:=λy=>y.e.sm<|n+5) hy (λ_=>?_) λ_ hy=>by cases hy
 split;exact lq h;exact⟨au.rs,au.ws,au.nw,au.ds,by simp only[GI,Hb];omega⟩
def A0{n:Nat}{y:XP}(h:x.e.sm n)(hy:kb x i=some y):y.e.sm (n+13):=by
 have a:=mq h i.n;have z:=ko a (hI x i.n).2.1 (hI x i.n).2.2.1;unfold kb at hy;simp only at hy;split at hy
 .cases hy
 split at hy
 .injection hy with hy;subst hy;exact a.mono (show n+6<=n+13 by omega)
 split at hy
 .injection hy with hy;subst hy;exact pC.sm.mono (kZ a _ _ _) (show n+6+1<=n+13 by omega)
 split at hy
 .exact L5
 split at hy
 .split at hy
  .exact MM
  injection hy with hy;subst hy;have q:=(kZ z (hI x i.n).2.1 (hI x i.n).2.2.1 (iA i.b (hQ (hI x i.n).1 (hI x i.n).2.1 (hI x i.n).2.2.1).2<|x.sr i.a.toNat).1).mono (show n+6+1+1<=n+13 by omega);exact⟨q.rs,q.ws,q.nw,by simp only[GI,Hb];omega,q.ia⟩
 split at hy;exact MM;exact L5
def A3{n:Nat}(h:x.e.sm n)(h0:1<=n):(jH x i).e.sm (n+7):=by
 have j:x.e.sm (n+7):=h.mono X;have b:=l9 h;have f:=qD h (x.sr i.b.toNat) i.n;have p:=ko b (hO x).2.1 0;have k:=ko p (hO x).2.1 1;unfold jH;simp only;split
 .split
  .have q:=(ko f (ik x (x.sr i.b.toNat) i.n).2.1 i.n).mono (show n+5+1<=n+7 by omega);exact NL
  exact f.mono X
 split
 .split
  .exact pC.sm.mono (kZ f _ _ _) (show n+5+1<=n+7 by omega)
  exact f.mono X
 split
 .obtain⟨g,a,m,o,r⟩:=h;exact⟨by simp only[kJ];omega,by simp only[kJ];omega,by simp only[kJ,GI,Hb];omega,by simp only[kJ];omega,by simp only[kJ];omega⟩
 split
 .have q:=b.mono (show n+1<=n+6 by omega);have g:({(hO x).1 with e:={(hO x).1.e with nw:=[⟨(hO x).1.nx,[⟨true,(hO x).2.1⟩,⟨false,(hO x).1.j4+1⟩,default]++((List.range i.b.toNat).map (hO x).1.sr++List.replicate (i.c-i.b).toNat default)⟩]}}:XP).e.sm (n+6):=⟨q.rs,q.ws,by simp only[GI,Hb];omega,q.ds,q.ia⟩;have a:=kZ g 1 0 ⟨true,(hO x).1.nx⟩;exact⟨a.rs,a.ws,a.nw,a.ds,a.ia⟩
 split
 .split
  .exact b.mono X
  split
  .have q:=p.mono (show n+1+1<=n+7 by omega);exact NL
  split
  .have q:=k.mono (show n+1+1+1<=n+7 by omega);exact NL
  have q:=(kZ (kZ k 1 0 (hQ (hO x).1 (hO x).2.1 0).2) 1 1<|x.sr i.a.toNat).mono (show n+1+1+1+1+1<=n+7 by omega);exact NL
 split
 .split
  .exact j
  have q:=(ko (x:=iv x) h 1 (if i.op=15 then 1 else 2)).mono (show n+1<=n+7 by omega);exact NL
 split;exact pC.sm.mono (kZ b _ _ _) (show n+1+1<=n+7 by omega);exact j
def s7(c:QR)(hH hC pc:Int)(r:Nat->Vl)(h:QQ)(f:Int):(kR c hH hC pc r h f).sm 16:=by
 have k:({lm with pc:=pc+1,r:=r}:pC).sm 1:=⟨by simp[lm],by simp[lm],by simp[lm],by simp[lm],by simp[lm]⟩;have e:jl.sm 16:=⟨by simp[jl,lm],by simp[jl,lm],by simp[jl,lm],by simp[jl,lm],by simp[jl,lm]⟩;unfold kR;split;exact e;simp only;split
 .exact e
 generalize g:(⟨c,hH,hC,pc,r,h,f,{lm with pc:=pc+1,r:=r},false⟩:XP)=x;have a:x.e.sm 1:=by rw[<-g];exact k
 unfold nk;split;simp only;split
 .exact a.mono X
 exact(lq<|ko (x:=iv x) a _ _).mono X;simp only;split
 .rename_i j b;exact(zx a X b).mono X
 split
 .rename_i j b;exact(A0 a b).mono X
 exact(A3 a X).mono X
def iT(c:QR)(hH hC:Int)(d:QS)(t:iP)(view:QQ):iP:=
 let e:=kR c hH hC t.pc t.r (iR t view)<|(t.run+1)*1048576+t.nw.length
 if e.h7=4 then nE t else
 if e.h7=3 then{t with h5:=1,next:=t.pc+1} else
 match record t view e with
 |none=>nE t
 |some x=>
  if e.h7=2 then{x with pc:=e.pc,r:=e.r,hK:=x.hK+1,h5:=3,hX:=e.hX,v:=e.v}
  else if e.h7=1/\(i7 (λz=>z==e.kw) d=true\/64<=x.hK+1\/jI c hH hC e.pc=true) then{x with pc:=e.pc,r:=e.r,hK:=x.hK+1,h5:=2,next:=e.pc}
  else{x with pc:=e.pc,r:=e.r,hK:=x.hK+1}
structure lY(t t':iP):Prop where
 hT:t'.hT=t.hT
 run:t'.run=t.run
 ip:t'.ip=t.ip
 pc:t'.pc=t.pc
 r:t'.r=t.r
 gs:t'.gs=t.gs
 h5:t'.h5=t.h5
 next:t'.next=t.next
 hX:t'.hX=t.hX
 v:t'.v=t.v
 hK:t'.hK=t.hK
def lY.refl(t:iP):lY t t:=⟨rfl,rfl,rfl,rfl,rfl,rfl,rfl,rfl,rfl,rfl,rfl⟩
def lY.trans{a b c:iP}(h:lY a b)(k:lY b c):lY a c:=
 ⟨k.hT.trans h.hT,k.run.trans h.run,k.ip.trans h.ip,k.pc.trans h.pc,k.r.trans h.r,k.gs.trans h.gs,k.h5.trans h.h5,k.next.trans h.next,k.hX.trans h.hX,k.v.trans h.v,k.hK.trans h.hK⟩
def o2(t:iP)(c:Cl):lY t (jt t c):=by
 unfold jt;split<;>exact⟨rfl,rfl,rfl,rfl,rfl,rfl,rfl,rfl,rfl,rfl,rfl⟩
def o6{t t':iP}{id f:Int}(a:jb t view id f=some t'):lY t t':=by
 unfold jb at a;split at a;injection a with a;subst a;exact lY.refl _;split at a
 .cases a
 split at a
 .cases a
 injection a with a;subst a;obtain⟨j,b,r,k,m,n,h,o,e,q,g⟩:=o2 {t with rs:=kc t.rs ⟨id,f,_⟩,ds:=t.ds.eraseIdx (pk t.ds id f).toNat} ⟨id,f,(iw (iR t view) id f).getD default⟩;exact⟨j,b,r,k,m,n,h,o,e,q,g⟩
def x5{t t':iP}(hs:take t d=some t'):lY t t':=by
 unfold take at hs;split at hs;cases hs
 split at hs
 .exact MI
 split at hs
 .cases hs
 exact MI
def pS:∀(l:QC) (t:iP) (rs ws:QV),lY t (jf t rs ws l).1
 |[],t,_,_=>lY.refl t
 |d::l,t,rs,ws=>by
  unfold jf;cases a:take t d with
  |none=>exact pS l t rs ws
  |some t'=>exact(x5 a).trans<|pS l t' _ _
def sB{view:QQ}:∀(l:QV) (t t':iP),jB view t l=some t'->lY t t'
 |[],t,t',b=>by injection b with b;subst b;exact lY.refl _
 |c::l,t,t',b=>by
  unfold jB at b;cases a:m8 view t c with
  |none=>rw[a]at b;cases b
  |some e=>
   rw[a]at b;refine lY.trans ?_<|sB l e t' b;unfold m8 at a;split at a;injection a with a;subst a;exact lY.refl _;split at a
   .exact o6 a
   injection a with a;subst a;exact⟨rfl,rfl,rfl,rfl,rfl,rfl,rfl,rfl,rfl,rfl,rfl⟩
def sz{view:QQ}:∀(l:QV) (t t':iP),j6 view t l=some t'->lY t t'
 |[],t,t',b=>by injection b with b;subst b;exact lY.refl _
 |c::l,t,t',b=>by
  unfold j6 at b;cases a:pw view t c with
  |none=>rw[a]at b;cases b
  |some f=>
   rw[a]at b;refine lY.trans ?_<|sz l f t' b;unfold pw at a;cases e:jb t view c.id c.f with
   |none=>rw[e]at a;cases a
   |some g=>rw[e]at a;injection a with a;subst a;exact(o6 e).trans<|o2 _ _
def li{t t':iP}{e:pC}(a:record t view e=some t'):lY t t':=by
 unfold record at a;simp only at a;cases g:jB view (jf t e.rs e.ws e.ds).1 (jf t e.rs e.ws e.ds).2.1 with
 |none=>rw[g]at a;cases a
 |some f=>
  rw[g]at a;simp only at a;cases h:j6 view {f with nw:=f.nw++e.nw} (jf t e.rs e.ws e.ds).2.2 with
  |none=>rw[h]at a;cases a
  |some m=>
   rw[h]at a;injection a with a;subst a;have k:=(pS e.ds t e.rs e.ws).trans<|sB _ _ _ g;have j:=k.trans<|lY.trans (b:={f with nw:=f.nw++e.nw}) ⟨rfl,rfl,rfl,rfl,rfl,rfl,rfl,rfl,rfl,rfl,rfl⟩<|sz _ _ _ h;exact j.trans ⟨rfl,rfl,rfl,rfl,rfl,rfl,rfl,rfl,rfl,rfl,rfl⟩
structure rH(l:QR)(p:Int)(x:XP):Prop where
 ju:x.ju=l
 j4:x.j4=p
 lo: -1<=x.e.pc
 hi:x.e.pc<=l.length
 k0:0<=x.e.h7
 k3:x.e.h7<=3
 nx:x.e.h7=0->p<x.e.pc\/i0 l x.e.pc=true
structure CL(x y:XP):Prop where
 ju:y.ju=x.ju
 j4:y.j4=x.j4
 pc:y.e.pc=x.e.pc
 h7:y.e.h7=x.e.h7
def CL.refl(x:XP):CL x x:=⟨rfl,rfl,rfl,rfl⟩
def CL.trans{y z:XP}(h:CL x y)(k:CL y z):CL x z:=⟨k.ju.trans h.ju,k.j4.trans h.j4,k.pc.trans h.pc,k.h7.trans h.h7⟩
def rH.pB{y:XP}(h:rH l p x)(k:CL x y):rH l p y:=by
 obtain⟨f,g,c,d,m,n,o⟩:=h;obtain⟨j,e,b,a⟩:=k;exact⟨j.trans f,e.trans g,by rw[b];exact c,by rw[b];exact d,by rw[a];exact m,by rw[a];exact n,by rw[b,a];exact o⟩
def lJ(x:XP)(id f:Int):CL x (hQ x id f).1:=by
 unfold hQ;split;exact⟨rfl,rfl,rfl,rfl⟩;split<;>exact⟨rfl,rfl,rfl,rfl⟩
def qC{id f:Int}{v:Vl}:CL x (h6 x id f v):=⟨rfl,rfl,rfl,rfl⟩
def nJ(x:XP):CL x (hO x).1:=by
 unfold hO;simp only;split;exact⟨rfl,rfl,rfl,rfl⟩;obtain⟨a,b,c,d⟩:=lJ (iv x) 1 0;exact⟨a,b,c,d⟩
def vq{n:Int}(h:i0 l n=true):0<=n/\n<(l.length:Int):=by
 unfold i0 at h;simp only[G4,HH]at h;exact⟨h.1,h.2.1⟩
def kQ(h:rH l p x)(hp: -1<=p)(hl:p<=l.length){v:Vl}:rH l p (iX x v):=by
 have e:=nJ x;have d:=e.trans<|lJ (hO x).1 (hO x).2.1 2;have j:=d.trans<|lJ (hQ (hO x).1 (hO x).2.1 2).1 (hO x).2.1 0;have a:=h.pB d;have aj:=h.pB j;unfold iX;simp only;split;exact h.pB e;split
 .exact a.pB ⟨rfl,rfl,rfl,rfl⟩
 rename_i g;split
 .rename_i f;have b:i0 l (hQ (hO x).1 (hO x).2.1 2).2.n=true:=by
   rw[<-a.ju];cases b:i0 (hQ (hO x).1 (hO x).2.1 2).1.ju (hQ (hO x).1 (hO x).2.1 2).2.n with
   |true=>rfl
   |false=>exact GR (Or.inr ⟨f,b⟩) g
  have k:=vq b;exact⟨a.ju,a.j4,(by omega: -1<=(hQ (hO x).1 (hO x).2.1 2).2.n),(by omega:(hQ (hO x).1 (hO x).2.1 2).2.n<=(l.length:Int)),a.k0,a.k3,λ_=>.inr b⟩
 split
 .exact aj.pB ⟨rfl,rfl,rfl,rfl⟩
 split
 .exact KH
 exact⟨aj.ju,aj.j4,by show(-1:Int)<= -1;omega,by show(-1:Int)<=(l.length:Int);omega,(by decide:(0:Int)<=1),(by decide:(1:Int)<=3),λh=>GR h (by decide:¬(1:Int)=0)⟩
def wv(h:rH l p x)(b: -1<=p)(a:p<=l.length)(v:Vl)(f:Int):rH l p (ik x v f).1:=by
 unfold ik;split;exact kQ h b a;split
 .exact kQ h b a
 split
 .exact NO
 split
 .exact kQ h b a
 exact h
def uz(h:rH l p x)(b: -1<=p)(a:p<=l.length)(f:Int):rH l p (hI x f).1:=by
 unfold hI;simp only;split;exact h.pB<|nJ x;split
 .exact kQ (h.pB<|nJ x) b a
 exact h.pB<|nJ x
def Goal(l:QR)(p n:Int):Prop:= -1<=n/\n<=l.length/\(p<n\/i0 l n=true)
def sX(h:rH l p x){n:Int}(a:Goal l p n):rH l p (rM x n):=
 ⟨h.ju,h.j4,a.1,a.2.1,h.k0,h.k3,λ_=>a.2.2⟩
def xQ{y:XP}(h:rH l p x)(e: -1<=p)(a:p<=l.length)(f:i.op=11\/i.op=12->Goal l p i.n)(hy:ji x i=some y):rH l p y:=by
 unfold ji at hy;refine ic (R:=rH l p) hy (λ_=>h) λ_ hy=>?_;iterate 3 (refine ic (R:=rH l p) hy (λ_=>h.pB ⟨rfl,rfl,rfl,rfl⟩) λ_ hy=>?_)
 refine ic (R:=rH l p) hy (λ_=>?_) λ_ hy=>?_
 .split
  .exact kQ h e a
  exact NO
 refine ic (R:=rH l p) hy (λb=>sX h<|f<|.inl b) λ_ hy=>?_;refine ic (R:=rH l p) hy (λb=>?_) λ_ hy=>?_
 .split
  .exact h
  exact sX h<|f<|.inr b
 refine ic (R:=rH l p) hy (λ_=>⟨h.ju,h.j4,h.lo,h.hi,(by decide:(0:Int)<=1),(by decide:(1:Int)<=3),λh=>GR h (by decide:¬(1:Int)=0)⟩) λ_ hy=>?_;refine ic (R:=rH l p) hy (λ_=>kQ h e a) λ_ hy=>?_;refine ic (R:=rH l p) hy (λ_=>?_) λ_ hy=>by cases hy
 split;exact kQ h e a;exact NO
def zr{y:XP}(h:rH l p x)(e: -1<=p)(b:p<=l.length)(hy:kb x i=some y):rH l p y:=by
 have f:=uz h e b i.n;have a:=f.pB<|lJ (hI x i.n).1 (hI x i.n).2.1 (hI x i.n).2.2.1;unfold kb at hy;simp only at hy;split at hy
 .cases hy
 split at hy
 .injection hy with hy;subst hy;exact f
 split at hy
 .injection hy with hy;subst hy;exact f.pB<|qC
 split at hy
 .injection hy with hy;subst hy;exact a.pB ⟨rfl,rfl,rfl,rfl⟩
 split at hy
 .split at hy
  .injection hy with hy;subst hy;exact kQ a e b
  injection hy with hy;subst hy;exact a.pB ⟨rfl,rfl,rfl,rfl⟩
 split at hy;injection hy with hy;subst hy;exact kQ a e b;injection hy with hy;subst hy;refine⟨a.ju,a.j4,?_,?_,(by decide:(0:Int)<=3),(by decide:(3:Int)<=3),λh=>GR h (by decide:¬(3:Int)=0)⟩
 .show -1<=XP.j4 _;rw[a.j4];exact e
 show XP.j4 _<=(l.length:Int);rw[a.j4];exact b
def zv(h:rH l p x)(hp: -1<=p)(hl:p<=l.length)(j:i.op=13->Goal l p i.n):rH l p (jH x i):=by
 have f:=wv h hp hl (x.sr i.b.toNat) i.n;have b:=nJ x;have g:=b.trans<|lJ (hO x).1 (hO x).2.1 0;have m:=g.trans<|lJ (hQ (hO x).1 (hO x).2.1 0).1 (hO x).2.1 1;have aj:=h.pB g;have a:=h.pB m;unfold jH;simp only;split
 .split
  .exact(f.pB<|lJ _ _ _).pB ⟨rfl,rfl,rfl,rfl⟩
  exact f
 split
 .split
  .exact f.pB<|qC
  exact f
 split
 .exact NO
 split
 .rename_i e;refine sX ?_<|j e;exact(h.pB b).pB ⟨rfl,rfl,rfl,rfl⟩
 split
 .split
  .exact h.pB b
  split
  .exact KH
  split
  .exact a.pB ⟨rfl,rfl,rfl,rfl⟩
  rename_i k;have e:i0 l (hQ (hQ (hO x).1 (hO x).2.1 0).1 (hO x).2.1 1).2.n=true:=by
   rw[<-a.ju];cases e:i0 (hQ (hQ (hO x).1 (hO x).2.1 0).1 (hO x).2.1 1).1.ju (hQ (hQ (hO x).1 (hO x).2.1 0).1 (hO x).2.1 1).2.n with
   |true=>rfl
   |false=>exact GR (.inr<|.inr e) k
  have o:=vq e;refine sX ?_ ⟨X,X,.inr e⟩;exact⟨a.ju,a.j4,a.lo,a.hi,a.k0,a.k3,a.nx⟩
 split
 .split
  .exact NO
  have e:=h.pB (y:=iv x) ⟨rfl,rfl,rfl,rfl⟩;have G:=e.pB<|lJ (iv x) 1 (if i.op=15 then 1 else 2);exact⟨G.ju,G.j4,G.lo,G.hi,G.k0,G.k3,G.nx⟩
 split;exact(h.pB b).pB<|qC;exact h
def m_{n:Int}:iG l n=21->i0 l n=true:=by
 intro a;unfold iG at a;split at a;omega;rename_i f;unfold i0;have b:0<=n:=X;have e:n<(l.length:Int):=X;rw[Hn b,Hn e,a];rfl
def Ax{k:Nat}(h:kU l k=true)(a:(l.getD k default).op=11\/(l.getD k default).op=12\/(l.getD k default).op=13):Goal l k (l.getD k default).n:=by
 have hb:∀n,0<=iG l n->0<=n/\n<(l.length:Int):=by
  intro n b;unfold iG at b;split at b;omega;omega
 unfold kU jU at h;generalize l.getD k default=x at*
 rcases a with a|a|a
 rw[a]at h;have e:(je.getD (11:Int).toNat default).n=6:=rfl;exact Ld;rw[a]at h;have e:(je.getD (12:Int).toNat default).n=6:=rfl;exact Ld;rw[a]at h;have e:(je.getD (13:Int).toNat default).n=7:=rfl;rw[e]at h;simp at h;have f:iG l x.n=21:=by first|exact h.2|exact h.2.2
 have:=hb x.n X;exact⟨X,X,.inr<|m_ f⟩
def vn{hH hC pc:Int}(r:Nat->Vl)(h:QQ)(a:Int)(hv:ih l hH hC=true)(h0: -1<=pc)(A:pc<l.length):
 (kR l hH hC pc r h a).h7=4\/(0<=(kR l hH hC pc r h a).h7/\(kR l hH hC pc r h a).h7<=3/\ -1<=(kR l hH hC pc r h a).pc/\(kR l hH hC pc r h a).pc<=l.length/\
   ((kR l hH hC pc r h a).h7=0->i0 l pc=false/\(pc<(kR l hH hC pc r h a).pc\/i0 l (kR l hH hC pc r h a).pc=true))):=by
 have v:∀k,k<l.length->kU l k=true:=by
  intro k hk;exact Nj
 unfold kR;rw[K_<|by rw[hv];simp;omega];simp only;split;exact .inl rfl;right;generalize z:(⟨l,hH,hC,pc,r,h,a,{lm with pc:=pc+1,r:=r},false⟩:XP)=x;have f:rH l pc x:=by rw[<-z];exact⟨rfl,rfl,by show -1<=pc+1;omega,by show pc+1<=(l.length:Int);omega,(by decide:(0:Int)<=0),(by decide:(0:Int)<=3),λ_=>.inl<|by show pc<pc+1;omega⟩
 have g:∀y:XP,rH l pc y->(y.e.h7=0->i0 l pc=false)->0<=y.e.h7/\y.e.h7<=3/\ -1<=y.e.pc/\y.e.pc<=l.length/\(y.e.h7=0->i0 l pc=false/\(pc<y.e.pc\/i0 l y.e.pc=true)):=
  λy j m=>⟨j.k0,j.k3,j.lo,j.hi,λhk=>⟨m hk,j.nx hk⟩⟩
 unfold nk;split;rename_i t;have m:i0 l pc=false:=by rw[t];unfold i0;simp
 simp only;split;exact g _ (f.pB ⟨rfl,rfl,rfl,rfl⟩) λ_=>m;exact g _ (kQ ((f.pB (y:=iv x) ⟨rfl,rfl,rfl,rfl⟩).pB<|lJ _ _ _) h0 X) λ_=>m;rename_i t;have u:x.ju=l:=f.ju;obtain⟨k,rfl⟩:∃k:Nat,pc=k:=⟨pc.toNat,X⟩;have hk:k<l.length:=X;have s:=Ax<|v k hk;have o:i0 l (k:Int)=((l.getD k default).op==21):=by unfold i0;simp[hk]
 simp only[u,Hh];cases b:ji x (l.getD k default)with
 |some y=>
  simp only;refine g _ (xQ f h0 X (λe=>s<|e.elim .inl λh=>.inr<|.inl h) b) λn=>?_;rw[o];cases e:((l.getD k default).op==21)with
  |false=>rfl
  |true=>
   exfalso;have i:(l.getD k default).op=21:=zu e;unfold ji at b;rw[i]at b;simp at b;rw[<-b]at n;exact GR n (by show ¬(1:Int)=0;decide)
 |none=>
  have n:i0 l (k:Int)=false:=by
   rw[o];cases e:((l.getD k default).op==21)with
   |false=>rfl
   |true=>
    exfalso;have i:(l.getD k default).op=21:=zu e;unfold ji at b;rw[i]at b;simp at b
  simp only;cases w:kb x (l.getD k default)with
  |some y=>exact g _ (zr f h0 X w) λ_=>n
  |none=>exact g _ (zv f h0 X λe=>s<|.inr<|.inr e) λ_=>n
def px(l:QR)(pc:Int):Nat:=if i0 l pc=true then 0 else((l.length:Int)-pc).toNat
def s4{pc:Int}(h: -1<=pc):px l pc<=l.length+1:=by
 unfold px;split<;>omega
def todo(l:QR)(t:iP):Nat:=(64-t.hK).toNat*(l.length+3)+px l t.pc
structure Way(l:QR)(t:iP):Prop where
 lo: -1<=t.pc
 hi:t.pc<=l.length
 s0:0<=t.hK
 s1:t.hK+px l t.pc<=64+(l.length+1)
 sm:t.sm<|128*t.hK.toNat
def vb{hH hC:Int}{d:QS}{t:iP}(A:ih l hH hC=true)(h:Way l t)(O:t.h5=0):
 (iT l hH hC d t view).sm (128*(t.hK.toNat+1))/\0<=(iT l hH hC d t view).hK/\(iT l hH hC d t view).hK<=t.hK+1/\ -1<=(iT l hH hC d t view).pc/\(iT l hH hC d t view).pc<=l.length/\
 ((iT l hH hC d t view).h5=0->Way l (iT l hH hC d t view)/\todo l (iT l hH hC d t view)<todo l t):=by
 obtain⟨f,j,w,H,n⟩:=h;have a:t.sm (128*(t.hK.toNat+1)):=n.mono X;unfold iT;simp only;have y:=s7 l hH hC t.pc t.r (iR t view)<|(t.run+1)*1048576+t.nw.length;by_cases C:t.pc<l.length
 case neg=>
  have e:(kR l hH hC t.pc t.r (iR t view)<|(t.run+1)*1048576+t.nw.length).h7=4:=by
   unfold kR;rw[L_<|.inr<|.inr X];rfl
  rw[L_ e];refine⟨⟨a.gs,a.rs,a.ws,a.nw,a.ds,a.ia⟩,by show 0<=t.hK+1;omega,by show t.hK+1<=_;omega,f,j,λh=>GR h<|by show ¬(4:Int)=0;decide⟩
 case pos=>
 have m:=vn t.r (iR t view) ((t.run+1)*1048576+t.nw.length) A f C;generalize kR l hH hC t.pc t.r (iR t view) ((t.run+1)*1048576+t.nw.length)=b at*;split;exact⟨⟨a.gs,a.rs,a.ws,a.nw,a.ds,a.ia⟩,by show 0<=t.hK+1;omega,by show t.hK+1<=_;omega,f,j,λh=>GR h<|by show ¬(4:Int)=0;decide⟩;rename_i q;rcases m with m|⟨E,J,e,g,u⟩
 .exact GR m q
 split;exact⟨⟨a.gs,a.rs,a.ws,a.nw,a.ds,a.ia⟩,w,by show t.hK<=_;omega,f,j,λh=>GR h<|by show ¬(1:Int)=0;decide⟩;cases o:record t view b with
 |none=>exact⟨⟨a.gs,a.rs,a.ws,a.nw,a.ds,a.ia⟩,by show 0<=t.hK+1;omega,by show t.hK+1<=_;omega,f,j,λh=>GR h<|by show ¬(4:Int)=0;decide⟩
 |some x=>
  have B:=li o;have R:=(z1 n y o).mono (show _<=128*(t.hK.toNat+1) by omega);simp only;have K:=B.hK;split;exact⟨⟨R.gs,R.rs,R.ws,R.nw,R.ds,R.ia⟩,by show 0<=x.hK+1;omega,by show x.hK+1<=_;omega,e,g,λh=>GR h<|by show ¬(3:Int)=0;decide⟩;rename_i L;split
  .exact⟨⟨R.gs,R.rs,R.ws,R.nw,R.ds,R.ia⟩,by show 0<=x.hK+1;omega,by show x.hK+1<=_;omega,e,g,λh=>GR h<|by show ¬(2:Int)=0;decide⟩
  rename_i r;refine⟨⟨R.gs,R.rs,R.ws,R.nw,R.ds,R.ia⟩,by show 0<=x.hK+1;omega,by show x.hK+1<=_;omega,e,g,λ_=>?_⟩;have N:=s4 (l:=l) e;have D:=s4 (l:=l) f;by_cases M:t.hK+1<64;refine⟨⟨e,g,by show 0<=x.hK+1;omega,by show x.hK+1+((px l b.pc:Nat):Int)<=_;omega,?_⟩,?_⟩
  .exact LO
  show(64-(x.hK+1)).toNat*(l.length+3)+px l b.pc<(64-t.hK).toNat*(l.length+3)+px l t.pc;have aC:(64-t.hK).toNat=(64-(x.hK+1)).toNat+1:=X;rw[aC,HY];omega;have s:b.h7=0:=by
   by_cases v:b.h7=0;exact v;exact GR ⟨X,.inr<|.inl X⟩ r
  obtain⟨z,k⟩:=u s;have F:px l b.pc<px l t.pc:=by
   have:px l t.pc=((l.length:Int)-t.pc).toNat:=by unfold px;rw[z];simp
   rw[this];rcases k with k|k
   unfold px;split<;>omega;unfold px;rw[L_ k];omega
  refine⟨⟨e,g,by show 0<=x.hK+1;omega,by show x.hK+1+((px l b.pc:Nat):Int)<=_;omega,?_⟩,?_⟩;exact LO;show(64-(x.hK+1)).toNat*(l.length+3)+px l b.pc<(64-t.hK).toNat*(l.length+3)+px l t.pc;have aC:(64-(x.hK+1)).toNat=0:=X;rw[aC];by_cases I:t.hK=63;have:(64-t.hK).toNat=1:=X;rw[this];omega;omega
