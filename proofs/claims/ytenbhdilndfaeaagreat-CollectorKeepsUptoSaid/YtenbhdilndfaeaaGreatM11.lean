import Derived.Test.YtenbhdilndfaeaaGreatM08
import Derived.Test.YtenbhdilndfaeaaGreatM09
set_option maxRecDepth 100000
set_option maxHeartbeats 0
set_option linter.all false
namespace Go.Proofs.YtenbhdilndfaeaaGreat
open Go.RowKit Go.Proofs.Tryz
variable{G:Prop}{l:QS}{c:Cl}{view:QQ}{d:Dl}{x:XP}{i:In}{p:Int}
def Kb(h:G:=by
 refine⟨ar.jo,ar.j6,?_,?_,(by decide:(0:Int)<=2),(by decide:(2:Int)<=3),λh=>Gc h (by decide:¬(2:Int)=0)⟩;show -1<=XP.j6 _;rw[ar.j6];exact hp;show XP.j6 _<=(l.length:Int);rw[ar.j6];exact hl):G:=h
def KH(h:G:=by
 rw[e]at h;simp at h;have:=hb x.n (by first|exact h.2.1.1|exact h.2.2.1.1|omega);refine⟨X,X,?_⟩;first
  |exact h.2.2.imp id mZ
  |exact h.2.2.2.imp id mZ):G:=h
def Li(h:G:=by
 have aJ:(x.hK+1).toNat=t.hK.toNat+1:=X;show jb.sm (128*(x.hK+1).toNat) _;rw[aJ];exact⟨R.gs,R.rs,R.ws,R.nw,R.ds,R.h8⟩):G:=h
def Lz(h:G:=by
 injection hy with hy;subst hy;have q:=z.mono (show n+6+1<=n+13 by omega);exact Nd):G:=h
def Me(h:G:=by
 injection hs with hs;subst hs;exact⟨rfl,rfl,rfl,rfl,rfl,rfl,rfl,rfl,rfl,rfl,rfl⟩):G:=h
def Mk(h:G:=by
 injection hy with hy;subst hy;exact p7.sm.mono (la z) (show n+6+1+5<=n+13 by omega)):G:=h
def Ms(h:G:=by
 have q:=p.mono (show n+1+1+1<=n+5 by omega);exact Nd):G:=h
def M7(h:G:=by
 exact⟨au.rs,au.ws,au.nw,au.ds,au.h8⟩):G:=h
def Nd(h:G:=by
 exact⟨q.rs,q.ws,q.nw,q.ds,q.h8⟩):G:=h
def Ng(h:G:=by
 exact h.pl ⟨rfl,rfl,rfl,rfl⟩):G:=h
def jb.sm.mono{n m:Nat}{t:jb}(h:t.sm n)(a:n<=m):t.sm m:=
 ⟨G_ h.gs a,G_ h.rs a,G_ h.ws a,G_ h.nw a,G_ h.ds a,G_ h.h8 a⟩
def vv(l:QX)(c:Cl):(kE l c).length<=l.length+1:=by
 unfold kE;split;simp;have:=pF (oH c.id c.f) l;simp only[I_,Gp,GQ,Y_,Gz];unfold tL;omega
def rc{n:Nat}{t:jb}(h:t.sm n)(c:Cl):(j5 t c).sm (n+1):=by
 obtain⟨f,g,j,a,b,e⟩:=h;unfold j5;split;exact⟨by simp only;omega,by simp only;omega,by have:=vv t.ws c;simp only;omega,by simp only;omega,by simp only;omega,by simp only;omega⟩;exact⟨by simp only;omega,by simp only;omega,by simp only;omega,by simp only[H5];omega,by simp only;omega,by simp only;omega⟩
def pS{n:Nat}{t t':jb}{id f:Int}(h:t.sm n)(a:jv t view id f=some t'):t'.sm (n+2):=by
 unfold jv at a;split at a;injection a with a;subst a;exact h.mono X;split at a
 .cases a
 split at a
 .cases a
 injection a with a;subst a;refine rc (n:=n+1) ?_ _;obtain⟨j,k,m,b,e,g⟩:=h;refine⟨by simp only;omega,?_,by simp only;omega,by simp only;omega,?_,by simp only;omega⟩
 .exact G_ (vv _ _) X
 have:=List.length_eraseIdx_le t.ds (pj t.ds id f).toNat;simp only;omega
def yf{n:Nat}{t t':jb}(h:t.sm n)(a:take t d=some t'):t'.sm (n+1):=by
 unfold take at a;obtain⟨g,j,k,b,e,f⟩:=h;split at a;cases a
 split at a
 .injection a with a;subst a
  have:=pF (ob d.id d.f) t.ds;exact⟨by simp only;omega,by simp only;omega,by simp only;omega,by simp only;omega,by simp only[I_,Gp,GQ,Y_,Gz];unfold rr;omega,by simp only;omega⟩
 split at a
 .cases a
 injection a with a;subst a;exact⟨by simp only;omega,by simp only;omega,by simp only;omega,by simp only;omega,by simp only[H5];omega,by simp only;omega⟩
def s6:∀(l:QD) (t:jb) (rs ws:QX) (n:Nat),t.sm n->(jP t rs ws l).1.sm (n+l.length)/\(jP t rs ws l).2.1.length<=rs.length/\(jP t rs ws l).2.2.length<=ws.length
 |[],_,_,_,_,h=>⟨h,H_ _,H_ _⟩
 |d::l,t,rs,ws,n,h=>by
  unfold jP;cases g:take t d with
  |none=>
   obtain⟨a,b,c⟩:=s6 l t rs ws n h;exact⟨a.mono H,b,c⟩
  |some j=>
   obtain⟨a,b,c⟩:=s6 l j (jJ rs d) (jJ ws d) (n+1) (yf h g);have e:(jJ rs d).length<=rs.length:=GC _ _;have f:(jJ ws d).length<=ws.length:=GC _ _;exact⟨a.mono p_,G_ b e,G_ c f⟩
def yn{n:Nat}{t t':jb}(h:t.sm n)(a:qk view t c=some t'):t'.sm (n+2):=by
 unfold qk at a;split at a;injection a with a;subst a;exact h.mono X;split at a
 .exact pS h a
 injection a with a;subst a;obtain⟨g,j,k,b,e,f⟩:=h;exact⟨by simp only;omega,by have:=vv t.rs c;simp only;omega,by simp only;omega,by simp only;omega,by simp only;omega,by simp only;omega⟩
def we{view:QQ}:∀(l:QX) (t t':jb) (n:Nat),t.sm n->j8 view t l=some t'->t'.sm (n+2*l.length)
 |[],t,t',n,h,a=>by injection a with a;subst a;exact h.mono X
 |c::l,t,t',n,h,a=>by
  unfold j8 at a;cases b:qk view t c with
  |none=>rw[b]at a;cases a
  |some e=>
   rw[b]at a;exact(we l e t' (n+2) (yn h b) a).mono (by simp only[Y_];omega)
def Cq{n:Nat}{t t':jb}(h:t.sm n)(a:r7 view t c=some t'):t'.sm (n+3):=by
 unfold r7 at a;cases b:jv t view c.id c.f with
 |none=>rw[b]at a;cases a
 |some e=>
  rw[b]at a;injection a with a;subst a;exact rc (pS h b) c
def wd{view:QQ}:∀(l:QX) (t t':jb) (n:Nat),t.sm n->kx view t l=some t'->t'.sm (n+3*l.length)
 |[],t,t',n,h,a=>by injection a with a;subst a;exact h.mono X
 |c::l,t,t',n,h,a=>by
  unfold kx at a;cases b:r7 view t c with
  |none=>rw[b]at a;cases a
  |some e=>
   rw[b]at a;exact(wd l e t' (n+3) (Cq h b) a).mono (by simp only[Y_];omega)
structure p7.sm(n:Nat)(e:p7):Prop where
 rs:e.rs.length<=n
 ws:e.ws.length<=n
 nw:e.nw.length<=n
 ds:e.ds.length<=n
 h8:e.h8.length<=n
def p7.sm.mono{n m:Nat}{t:p7}(h:t.sm n)(a:n<=m):t.sm m:=
 ⟨G_ h.rs a,G_ h.ws a,G_ h.nw a,G_ h.ds a,G_ h.h8 a⟩
def zf{n k:Nat}{t t':jb}{e:p7}(h:t.sm n)(w:e.sm k)(a:record t view e=some t'):t'.sm (n+8*k):=by
 unfold record at a;obtain⟨B,A,E,D,F⟩:=w;obtain⟨j,C,c⟩:=s6 e.ds t e.rs e.ws n h;simp only at a;cases f:j8 view (jP t e.rs e.ws e.ds).1 (jP t e.rs e.ws e.ds).2.1 with
 |none=>rw[f]at a;cases a
 |some b=>
  rw[f]at a;simp only at a;have y:=(we _ _ _ _ j f).mono (show _<=n+3*k by omega);cases g:kx view {b with nw:=b.nw++e.nw} (jP t e.rs e.ws e.ds).2.2 with
  |none=>rw[g]at a;cases a
  |some z=>
   rw[g]at a;injection a with a;subst a;have m:({b with nw:=b.nw++e.nw}:jb).sm (n+4*k):=by
    obtain⟨r,o,q,s,u,v⟩:=y;exact⟨by simp only;omega,by simp only;omega,by simp only;omega,by simp only[I_];omega,by simp only;omega,by simp only;omega⟩
   obtain⟨r,o,q,s,u,v⟩:=(wd _ _ _ _ m g).mono (show _<=n+7*k by omega);exact⟨by simp only;omega,by simp only;omega,by simp only;omega,by simp only;omega,by simp only;omega,by simp only[I_];omega⟩
def km{n:Nat}(h:x.e.sm n)(id f:Int):(hW x id f).1.e.sm (n+1):=by
 unfold hW;split;exact h.mono X;split
 .exact h.mono X
 obtain⟨g,a,b,j,k⟩:=h;exact⟨by simp only[I_,Y_,Gz];omega,by simp only;omega,by simp only;omega,by simp only;omega,by simp only;omega⟩
def kS{n:Nat}(h:x.e.sm n)(id f:Int)(v:Vl):(ib x id f v).e.sm (n+1):=by
 unfold ib;obtain⟨g,a,b,j,k⟩:=h;exact⟨by simp only;omega,by simp only[I_,Y_,Gz];omega,by simp only;omega,by simp only;omega,by simp only;omega⟩
def l6{n:Nat}(h:x.e.sm n):(hT x).1.e.sm (n+1):=by
 unfold hT;simp only;split;exact h.mono X;exact km (x:=iJ x) h 1 0
def la{n:Nat}(h:x.e.sm n){v:Vl}:(jl x v).e.sm (n+5):=by
 have b:=l6 h;have a:=km b (hT x).2.1 2;have p:=km a (hT x).2.1 0;unfold jl;simp only;split;exact b.mono X;split
 .exact a.mono X
 split
 .have q:=(kS (kS a (hT x).2.1 2 default) 1 2 v).mono (show n+1+1+1+1<=n+5 by omega);exact Nd
 split
 .exact Ms
 split
 .exact Ms
 have q:=kS (kS p 1 0 (hW (hW (hT x).1 (hT x).2.1 2).1 (hT x).2.1 0).2) 1 2 v;exact Nd
def qe{n:Nat}(h:x.e.sm n)(v:Vl)(f:Int):(iz x v f).1.e.sm (n+5):=by
 unfold iz;split;exact la h;split
 .exact la h
 split
 .exact h.mono X
 split
 .exact la h
 exact h.mono X
def mh{n:Nat}(h:x.e.sm n)(f:Int):(hJ x f).1.e.sm (n+6):=by
 have a:=l6 h;unfold hJ;simp only;split;exact a.mono X;split
 .exact(la a).mono X
 exact a.mono X
def iw{e:Type}{p:Prop}[Decidable p]{f y:e}{b:Option e}{R:e->Prop}(h:(if p then some f else b)=some y)(g:p->R f)(j:¬p->b=some y->R y):R y:=by
 split at h;injection h with h;subst h;rename_i a;exact g a;rename_i a;exact j a h
def yL{n:Nat}{y:XP}(h:x.e.sm n)(h0:1<=n)(hy:j0 x i=some y):y.e.sm (n+5):=by
 have au:x.e.sm (n+5):=h.mono X;unfold j0 at hy;iterate 4 (refine iw (R:=λy=>y.e.sm (n+5)) hy (λ_=>⟨au.rs,au.ws,au.nw,au.ds,au.h8⟩) λ_ hy=>?_)
 refine iw (R:=λy=>y.e.sm (n+5)) hy (λ_=>?_) λ_ hy=>?_
 .split
  .exact la h
  exact M7
 refine iw (R:=λy=>y.e.sm (n+5)) hy (λ_=>⟨au.rs,au.ws,au.nw,au.ds,au.h8⟩) λ_ hy=>?_;refine iw (R:=λy=>y.e.sm (n+5)) hy (λ_=>?_) λ_ hy=>?_
 .split
  .exact M7
  exact M7
 refine iw (R:=λy=>y.e.sm (n+5)) hy (λ_=>⟨au.rs,au.ws,au.nw,au.ds,au.h8⟩) λ_ hy=>?_;refine iw (R:=λy=>y.e.sm (n+5)) hy (λ_=>la h) λ_ hy=>?_;refine iw (R:=λy=>y.e.sm (n+5)) hy (λ_=>?_) λ_ hy=>by cases hy
 split;exact la h;exact⟨au.rs,au.ws,au.nw,au.ds,by simp only[Y_,Gz];omega⟩
def z7{n:Nat}{y:XP}(h:x.e.sm n)(hy:kT x i=some y):y.e.sm (n+13):=by
 have a:=mh h i.n;have z:=km a (hJ x i.n).2.1 (hJ x i.n).2.2.1;unfold kT at hy;simp only at hy;split at hy
 .cases hy
 split at hy
 .injection hy with hy;subst hy;exact a.mono (show n+6<=n+13 by omega)
 split at hy
 .injection hy with hy;subst hy;exact p7.sm.mono (kS a _ _ _) (show n+6+1<=n+13 by omega)
 split at hy
 .exact Lz
 split at hy
 .split at hy
  .exact Mk
  injection hy with hy;subst hy;have q:=(kS z (hJ x i.n).2.1 (hJ x i.n).2.2.1 (iI i.b (hW (hJ x i.n).1 (hJ x i.n).2.1 (hJ x i.n).2.2.1).2 (x.sr i.a.toNat)).1).mono (show n+6+1+1<=n+13 by omega);exact⟨q.rs,q.ws,q.nw,by simp only[Y_,Gz];omega,q.h8⟩
 split at hy;exact Mk;exact Lz
def z_{n:Nat}(h:x.e.sm n)(h0:1<=n):(ka x i).e.sm (n+7):=by
 have g:x.e.sm (n+7):=h.mono X;have b:=l6 h;have f:=qe h (x.sr i.b.toNat) i.n;have p:=km b (hT x).2.1 0;have k:=km p (hT x).2.1 1;unfold ka;simp only;split
 .split
  .have q:=(km f (iz x (x.sr i.b.toNat) i.n).2.1 i.n).mono (show n+5+1<=n+7 by omega);exact Nd
  exact f.mono X
 split
 .split
  .exact p7.sm.mono (kS f _ _ _) (show n+5+1<=n+7 by omega)
  exact f.mono X
 split
 .obtain⟨j,a,m,o,r⟩:=h;exact⟨by simp only[k6];omega,by simp only[k6];omega,by simp only[k6,Y_,Gz];omega,by simp only[k6];omega,by simp only[k6];omega⟩
 split
 .have q:=b.mono (show n+1<=n+6 by omega);have j:({(hT x).1 with e:={(hT x).1.e with nw:=[⟨(hT x).1.nx,[⟨true,(hT x).2.1⟩,⟨false,(hT x).1.j6+1⟩,default]++((List.range i.b.toNat).map (hT x).1.sr++List.replicate (i.c-i.b).toNat default)⟩]}}:XP).e.sm (n+6):=⟨q.rs,q.ws,by simp only[Y_,Gz];omega,q.ds,q.h8⟩;have a:=kS j 1 0 ⟨true,(hT x).1.nx⟩;exact⟨a.rs,a.ws,a.nw,a.ds,a.h8⟩
 split
 .split
  .exact b.mono X
  split
  .have q:=p.mono (show n+1+1<=n+7 by omega);exact Nd
  split
  .have q:=k.mono (show n+1+1+1<=n+7 by omega);exact Nd
  have q:=(kS (kS k 1 0 (hW (hT x).1 (hT x).2.1 0).2) 1 1 (x.sr i.a.toNat)).mono (show n+1+1+1+1+1<=n+7 by omega);exact Nd
 split
 .split
  .exact g
  have q:=(km (x:=iJ x) h 1 (if i.op=15 then 1 else 2)).mono (show n+1<=n+7 by omega);exact Nd
 split;exact p7.sm.mono (kS b _ _ _) (show n+1+1<=n+7 by omega);exact g
def sv(c:QS)(hH hC pc:Int)(r:Nat->Vl)(h:QQ)(f:Int):(lx c hH hC pc r h f).sm 16:=by
 have k:({mg with pc:=pc+1,r:=r}:p7).sm 1:=⟨by simp[mg],by simp[mg],by simp[mg],by simp[mg],by simp[mg]⟩;have e:ji.sm 16:=⟨by simp[ji,mg],by simp[ji,mg],by simp[ji,mg],by simp[ji,mg],by simp[ji,mg]⟩;unfold lx;split;exact e;simp only;split
 .exact e
 generalize g:(⟨c,hH,hC,pc,r,h,f,{mg with pc:=pc+1,r:=r},false⟩:XP)=x;have a:x.e.sm 1:=by rw[<-g];exact k
 unfold qd;split;simp only;split
 .exact a.mono X
 exact(la (km (x:=iJ x) a _ _)).mono X;simp only;split
 .rename_i j b;exact(yL a X b).mono X
 split
 .rename_i j b;exact(z7 a b).mono X
 exact(z_ a X).mono X
def je(c:QS)(hH hC:Int)(d:QR)(t:jb)(view:QQ):jb:=
 let e:=lx c hH hC t.pc t.r (jq t view) ((t.run+1)*1048576+t.nw.length)
 if e.h7=4 then nv t else
 if e.h7=3 then{t with h9:=1,next:=t.pc+1} else
 match record t view e with
 |none=>nv t
 |some x=>
  if e.h7=2 then{x with pc:=e.pc,r:=e.r,hK:=x.hK+1,h9:=3,hZ:=e.hZ,v:=e.v}
  else if e.h7=1/\(i0 (λz=>z==e.kF) d=true∨64<=x.hK+1∨jz c hH hC e.pc=true) then{x with pc:=e.pc,r:=e.r,hK:=x.hK+1,h9:=2,next:=e.pc}
  else{x with pc:=e.pc,r:=e.r,hK:=x.hK+1}
structure lV(t t':jb):Prop where
 hQ:t'.hQ=t.hQ
 run:t'.run=t.run
 ip:t'.ip=t.ip
 pc:t'.pc=t.pc
 r:t'.r=t.r
 gs:t'.gs=t.gs
 h9:t'.h9=t.h9
 next:t'.next=t.next
 hZ:t'.hZ=t.hZ
 v:t'.v=t.v
 hK:t'.hK=t.hK
def lV.refl(t:jb):lV t t:=⟨rfl,rfl,rfl,rfl,rfl,rfl,rfl,rfl,rfl,rfl,rfl⟩
def lV.trans{a b c:jb}(h:lV a b)(k:lV b c):lV a c:=
 ⟨k.hQ.trans h.hQ,k.run.trans h.run,k.ip.trans h.ip,k.pc.trans h.pc,k.r.trans h.r,k.gs.trans h.gs,k.h9.trans h.h9,k.next.trans h.next,k.hZ.trans h.hZ,k.v.trans h.v,k.hK.trans h.hK⟩
def qx(t:jb)(c:Cl):lV t (j5 t c):=by
 unfold j5;split<;>exact⟨rfl,rfl,rfl,rfl,rfl,rfl,rfl,rfl,rfl,rfl,rfl⟩
def qD{t t':jb}{id f:Int}(a:jv t view id f=some t'):lV t t':=by
 unfold jv at a;split at a;injection a with a;subst a;exact lV.refl _;split at a
 .cases a
 split at a
 .cases a
 injection a with a;subst a;obtain⟨e,g,o,k,h,j,b,n,c,m,q⟩:=qx {t with rs:=kE t.rs ⟨id,f,_⟩,ds:=t.ds.eraseIdx (pj t.ds id f).toNat} ⟨id,f,(jw (jq t view) id f).getD default⟩;exact⟨e,g,o,k,h,j,b,n,c,m,q⟩
def xm{t t':jb}(hs:take t d=some t'):lV t t':=by
 unfold take at hs;split at hs;cases hs
 split at hs
 .exact Me
 split at hs
 .cases hs
 exact Me
def py:∀(l:QD) (t:jb) (rs ws:QX),lV t (jP t rs ws l).1
 |[],t,_,_=>lV.refl t
 |d::l,t,rs,ws=>by
  unfold jP;cases a:take t d with
  |none=>exact py l t rs ws
  |some t'=>exact(xm a).trans (py l t' _ _)
def rQ{view:QQ}:∀(l:QX) (t t':jb),j8 view t l=some t'->lV t t'
 |[],t,t',b=>by injection b with b;subst b;exact lV.refl _
 |c::l,t,t',b=>by
  unfold j8 at b;cases a:qk view t c with
  |none=>rw[a]at b;cases b
  |some e=>
   rw[a]at b;refine lV.trans ?_ (rQ l e t' b);unfold qk at a;split at a;injection a with a;subst a;exact lV.refl _;split at a
   .exact qD a
   injection a with a;subst a;exact⟨rfl,rfl,rfl,rfl,rfl,rfl,rfl,rfl,rfl,rfl,rfl⟩
def rP{view:QQ}:∀(l:QX) (t t':jb),kx view t l=some t'->lV t t'
 |[],t,t',b=>by injection b with b;subst b;exact lV.refl _
 |c::l,t,t',b=>by
  unfold kx at b;cases a:r7 view t c with
  |none=>rw[a]at b;cases b
  |some f=>
   rw[a]at b;refine lV.trans ?_ (rP l f t' b);unfold r7 at a;cases e:jv t view c.id c.f with
   |none=>rw[e]at a;cases a
   |some Q=>rw[e]at a;injection a with a;subst a;exact(qD e).trans (qx _ _)
def lK{t t':jb}{e:p7}(a:record t view e=some t'):lV t t':=by
 unfold record at a;simp only at a;cases g:j8 view (jP t e.rs e.ws e.ds).1 (jP t e.rs e.ws e.ds).2.1 with
 |none=>rw[g]at a;cases a
 |some f=>
  rw[g]at a;simp only at a;cases h:kx view {f with nw:=f.nw++e.nw} (jP t e.rs e.ws e.ds).2.2 with
  |none=>rw[h]at a;cases a
  |some m=>
   rw[h]at a;injection a with a;subst a;have j:=(py e.ds t e.rs e.ws).trans (rQ _ _ _ g);have k:=j.trans (lV.trans (b:={f with nw:=f.nw++e.nw}) ⟨rfl,rfl,rfl,rfl,rfl,rfl,rfl,rfl,rfl,rfl,rfl⟩ (rP _ _ _ h));exact k.trans ⟨rfl,rfl,rfl,rfl,rfl,rfl,rfl,rfl,rfl,rfl,rfl⟩
structure q3(l:QS)(p:Int)(x:XP):Prop where
 jo:x.jo=l
 j6:x.j6=p
 lo: -1<=x.e.pc
 hi:x.e.pc<=l.length
 k0:0<=x.e.h7
 k3:x.e.h7<=3
 nx:x.e.h7=0->p<x.e.pc∨jc l x.e.pc=true
structure Dp(x y:XP):Prop where
 jo:y.jo=x.jo
 j6:y.j6=x.j6
 pc:y.e.pc=x.e.pc
 h7:y.e.h7=x.e.h7
def Dp.trans{y a:XP}(h:Dp x y)(k:Dp y a):Dp x a:=⟨k.jo.trans h.jo,k.j6.trans h.j6,k.pc.trans h.pc,k.h7.trans h.h7⟩
def q3.pl{y:XP}(h:q3 l p x)(k:Dp x y):q3 l p y:=by
 obtain⟨e,f,c,d,m,n,o⟩:=h;obtain⟨g,j,b,a⟩:=k;exact⟨g.trans e,j.trans f,by rw[b];exact c,by rw[b];exact d,by rw[a];exact m,by rw[a];exact n,by rw[b,a];exact o⟩
def lF(x:XP)(id f:Int):Dp x (hW x id f).1:=by
 unfold hW;split;exact⟨rfl,rfl,rfl,rfl⟩;split<;>exact⟨rfl,rfl,rfl,rfl⟩
def qc{id f:Int}{v:Vl}:Dp x (ib x id f v):=⟨rfl,rfl,rfl,rfl⟩
def nD(x:XP):Dp x (hT x).1:=by
 unfold hT;simp only;split;exact⟨rfl,rfl,rfl,rfl⟩;obtain⟨a,b,c,d⟩:=lF (iJ x) 1 0;exact⟨a,b,c,d⟩
def uF{n:Int}(h:jc l n=true):0<=n/\n<(l.length:Int):=by
 unfold jc at h;simp only[Gq,He]at h;exact⟨h.1,h.2.1⟩
def kN(h:q3 l p x)(hp: -1<=p)(hl:p<=l.length){v:Vl}:q3 l p (jl x v):=by
 have e:=nD x;have d:=e.trans (lF (hT x).1 (hT x).2.1 2);have j:=d.trans (lF (hW (hT x).1 (hT x).2.1 2).1 (hT x).2.1 0);have a:=h.pl d;have ar:=h.pl j;unfold jl;simp only;split;exact h.pl e;split
 .exact a.pl ⟨rfl,rfl,rfl,rfl⟩
 rename_i g;split
 .rename_i f;have b:jc l (hW (hT x).1 (hT x).2.1 2).2.n=true:=by
   rw[<-a.jo];cases b:jc (hW (hT x).1 (hT x).2.1 2).1.jo (hW (hT x).1 (hT x).2.1 2).2.n with
   |true=>rfl
   |false=>exact Gc (Or.inr ⟨f,b⟩) g
  have k:=uF b;exact⟨a.jo,a.j6,(by omega: -1<=(hW (hT x).1 (hT x).2.1 2).2.n),(by omega:(hW (hT x).1 (hT x).2.1 2).2.n<=(l.length:Int)),a.k0,a.k3,λ_=>.inr b⟩
 split
 .exact ar.pl ⟨rfl,rfl,rfl,rfl⟩
 split
 .exact Kb
 exact⟨ar.jo,ar.j6,by show(-1:Int)<= -1;omega,by show(-1:Int)<=(l.length:Int);omega,(by decide:(0:Int)<=1),(by decide:(1:Int)<=3),λh=>Gc h (by decide:¬(1:Int)=0)⟩
def vN(h:q3 l p x)(b: -1<=p)(a:p<=l.length)(v:Vl)(f:Int):q3 l p (iz x v f).1:=by
 unfold iz;split;exact kN h b a;split
 .exact kN h b a
 split
 .exact Ng
 split
 .exact kN h b a
 exact h
def tZ(h:q3 l p x)(b: -1<=p)(a:p<=l.length)(f:Int):q3 l p (hJ x f).1:=by
 unfold hJ;simp only;split;exact h.pl (nD x);split
 .exact kN (h.pl (nD x)) b a
 exact h.pl (nD x)
def Goal(l:QS)(p n:Int):Prop:= -1<=n/\n<=l.length/\(p<n∨jc l n=true)
def sj(h:q3 l p x){n:Int}(a:Goal l p n):q3 l p (tV x n):=
 ⟨h.jo,h.j6,a.1,a.2.1,h.k0,h.k3,λ_=>a.2.2⟩
def w_{y:XP}(h:q3 l p x)(e: -1<=p)(a:p<=l.length)(f:i.op=11∨i.op=12->Goal l p i.n)(hy:j0 x i=some y):q3 l p y:=by
 unfold j0 at hy;refine iw (R:=q3 l p) hy (λ_=>h) λ_ hy=>?_;iterate 3 (refine iw (R:=q3 l p) hy (λ_=>h.pl ⟨rfl,rfl,rfl,rfl⟩) λ_ hy=>?_)
 refine iw (R:=q3 l p) hy (λ_=>?_) λ_ hy=>?_
 .split
  .exact kN h e a
  exact Ng
 refine iw (R:=q3 l p) hy (λb=>sj h (f (.inl b))) λ_ hy=>?_;refine iw (R:=q3 l p) hy (λb=>?_) λ_ hy=>?_
 .split
  .exact h
  exact sj h (f (.inr b))
 refine iw (R:=q3 l p) hy (λ_=>⟨h.jo,h.j6,h.lo,h.hi,(by decide:(0:Int)<=1),(by decide:(1:Int)<=3),λh=>Gc h (by decide:¬(1:Int)=0)⟩) λ_ hy=>?_;refine iw (R:=q3 l p) hy (λ_=>kN h e a) λ_ hy=>?_;refine iw (R:=q3 l p) hy (λ_=>?_) λ_ hy=>by cases hy
 split;exact kN h e a;exact Ng
def yH{y:XP}(h:q3 l p x)(e: -1<=p)(b:p<=l.length)(hy:kT x i=some y):q3 l p y:=by
 have f:=tZ h e b i.n;have a:=f.pl (lF (hJ x i.n).1 (hJ x i.n).2.1 (hJ x i.n).2.2.1);unfold kT at hy;simp only at hy;split at hy
 .cases hy
 split at hy
 .injection hy with hy;subst hy;exact f
 split at hy
 .injection hy with hy;subst hy;exact f.pl (qc)
 split at hy
 .injection hy with hy;subst hy;exact a.pl ⟨rfl,rfl,rfl,rfl⟩
 split at hy
 .split at hy
  .injection hy with hy;subst hy;exact kN a e b
  injection hy with hy;subst hy;exact a.pl ⟨rfl,rfl,rfl,rfl⟩
 split at hy;injection hy with hy;subst hy;exact kN a e b;injection hy with hy;subst hy;refine⟨a.jo,a.j6,?_,?_,(by decide:(0:Int)<=3),(by decide:(3:Int)<=3),λh=>Gc h (by decide:¬(3:Int)=0)⟩
 .show -1<=XP.j6 _;rw[a.j6];exact e
 show XP.j6 _<=(l.length:Int);rw[a.j6];exact b
def yJ(h:q3 l p x)(hp: -1<=p)(hl:p<=l.length)(k:i.op=13->Goal l p i.n):q3 l p (ka x i):=by
 have f:=vN h hp hl (x.sr i.b.toNat) i.n;have e:=nD x;have g:=e.trans (lF (hT x).1 (hT x).2.1 0);have m:=g.trans (lF (hW (hT x).1 (hT x).2.1 0).1 (hT x).2.1 1);have ar:=h.pl g;have a:=h.pl m;unfold ka;simp only;split
 .split
  .exact(f.pl (lF _ _ _)).pl ⟨rfl,rfl,rfl,rfl⟩
  exact f
 split
 .split
  .exact f.pl (qc)
  exact f
 split
 .exact Ng
 split
 .rename_i b;refine sj ?_ (k b);exact(h.pl e).pl ⟨rfl,rfl,rfl,rfl⟩
 split
 .split
  .exact h.pl e
  split
  .exact Kb
  split
  .exact a.pl ⟨rfl,rfl,rfl,rfl⟩
  rename_i j;have b:jc l (hW (hW (hT x).1 (hT x).2.1 0).1 (hT x).2.1 1).2.n=true:=by
   rw[<-a.jo];cases b:jc (hW (hW (hT x).1 (hT x).2.1 0).1 (hT x).2.1 1).1.jo (hW (hW (hT x).1 (hT x).2.1 0).1 (hT x).2.1 1).2.n with
   |true=>rfl
   |false=>exact Gc (.inr (.inr b)) j
  have o:=uF b;refine sj ?_ ⟨X,X,.inr b⟩;exact⟨a.jo,a.j6,a.lo,a.hi,a.k0,a.k3,a.nx⟩
 split
 .split
  .exact Ng
  have j:=h.pl (y:=iJ x) ⟨rfl,rfl,rfl,rfl⟩;have b:=j.pl (lF (iJ x) 1 (if i.op=15 then 1 else 2));exact⟨b.jo,b.j6,b.lo,b.hi,b.k0,b.k3,b.nx⟩
 split;exact(h.pl e).pl (qc);exact h
def mZ{n:Int}:iB l n=21->jc l n=true:=by
 intro a;unfold iB at a;split at a;omega;rename_i f;unfold jc;have b:0<=n:=X;have e:n<(l.length:Int):=X;rw[Gv b,Gv e,a];rfl
def zG{k:Nat}(h:k4 l k=true)(a:(l.getD k default).op=11∨(l.getD k default).op=12∨(l.getD k default).op=13):Goal l k (l.getD k default).n:=by
 have hb:∀n,0<=iB l n->0<=n/\n<(l.length:Int):=by
  intro n b;unfold iB at b;split at b;omega;omega
 unfold k4 jX at h;generalize l.getD k default=x at*
 rcases a with a|a|a
 rw[a]at h;have e:(i7.getD (11:Int).toNat default).n=6:=rfl;exact KH;rw[a]at h;have e:(i7.getD (12:Int).toNat default).n=6:=rfl;exact KH;rw[a]at h;have e:(i7.getD (13:Int).toNat default).n=7:=rfl;rw[e]at h;simp at h;have f:iB l x.n=21:=by first|exact h.2|exact h.2.2
 have:=hb x.n X;exact⟨X,X,.inr (mZ f)⟩
def uA{hH hC pc:Int}(r:Nat->Vl)(h:QQ)(a:Int)(hv:ia l hH hC=true)(h0: -1<=pc)(A:pc<l.length):
 (lx l hH hC pc r h a).h7=4∨(0<=(lx l hH hC pc r h a).h7/\(lx l hH hC pc r h a).h7<=3/\ -1<=(lx l hH hC pc r h a).pc/\(lx l hH hC pc r h a).pc<=l.length/\
   ((lx l hH hC pc r h a).h7=0->jc l pc=false/\(pc<(lx l hH hC pc r h a).pc∨jc l (lx l hH hC pc r h a).pc=true))):=by
 have w:∀k,k<l.length->k4 l k=true:=by
  intro k hk;exact MR
 unfold lx;rw[T_ (by rw[hv];simp;omega)];simp only;split;exact .inl rfl;right;generalize z:(⟨l,hH,hC,pc,r,h,a,{mg with pc:=pc+1,r:=r},false⟩:XP)=x;have f:q3 l pc x:=by rw[<-z];exact⟨rfl,rfl,by show -1<=pc+1;omega,by show pc+1<=(l.length:Int);omega,(by decide:(0:Int)<=0),(by decide:(0:Int)<=3),λ_=>.inl (by show pc<pc+1;omega)⟩
 have g:∀y:XP,q3 l pc y->(y.e.h7=0->jc l pc=false)->0<=y.e.h7/\y.e.h7<=3/\ -1<=y.e.pc/\y.e.pc<=l.length/\(y.e.h7=0->jc l pc=false/\(pc<y.e.pc∨jc l y.e.pc=true)):=
  λy j m=>⟨j.k0,j.k3,j.lo,j.hi,λhk=>⟨m hk,j.nx hk⟩⟩
 unfold qd;split;rename_i t;have m:jc l pc=false:=by rw[t];unfold jc;simp
 simp only;split;exact g _ (f.pl ⟨rfl,rfl,rfl,rfl⟩) λ_=>m;exact g _ (kN ((f.pl (y:=iJ x) ⟨rfl,rfl,rfl,rfl⟩).pl (lF _ _ _)) h0 X) λ_=>m;rename_i t;have u:x.jo=l:=f.jo;obtain⟨k,rfl⟩:∃k:Nat,pc=k:=⟨pc.toNat,X⟩;have hk:k<l.length:=X;have s:=zG (w k hk);have o:jc l (k:Int)=((l.getD k default).op==21):=by unfold jc;simp[hk]
 simp only[u,GZ];cases b:j0 x (l.getD k default)with
 |some y=>
  simp only;refine g _ (w_ f h0 X (λe=>s (e.elim .inl λh=>.inr (.inl h))) b) λn=>?_;rw[o];cases e:((l.getD k default).op==21)with
  |false=>rfl
  |true=>
   exfalso;have i:(l.getD k default).op=21:=zu e;unfold j0 at b;rw[i]at b;simp at b;rw[<-b]at n;exact Gc n (by show ¬(1:Int)=0;decide)
 |none=>
  have n:jc l (k:Int)=false:=by
   rw[o];cases e:((l.getD k default).op==21)with
   |false=>rfl
   |true=>
    exfalso;have i:(l.getD k default).op=21:=zu e;unfold j0 at b;rw[i]at b;simp at b
  simp only;cases v:kT x (l.getD k default)with
  |some y=>exact g _ (yH f h0 X v) λ_=>n
  |none=>exact g _ (yJ f h0 X λe=>s (.inr (.inr e))) λ_=>n
def pf(l:QS)(pc:Int):Nat:=if jc l pc=true then 0 else((l.length:Int)-pc).toNat
def sq{pc:Int}(h: -1<=pc):pf l pc<=l.length+1:=by
 unfold pf;split<;>omega
def todo(l:QS)(t:jb):Nat:=(64-t.hK).toNat*(l.length+3)+pf l t.pc
structure Way(l:QS)(t:jb):Prop where
 lo: -1<=t.pc
 hi:t.pc<=l.length
 s0:0<=t.hK
 s1:t.hK+pf l t.pc<=64+(l.length+1)
 sm:t.sm (128*t.hK.toNat)
def ur{hH hC:Int}{d:QR}{t:jb}(A:ia l hH hC=true)(h:Way l t)(O:t.h9=0):
 (je l hH hC d t view).sm (128*(t.hK.toNat+1))/\0<=(je l hH hC d t view).hK/\(je l hH hC d t view).hK<=t.hK+1/\ -1<=(je l hH hC d t view).pc/\(je l hH hC d t view).pc<=l.length/\
 ((je l hH hC d t view).h9=0->Way l (je l hH hC d t view)/\todo l (je l hH hC d t view)<todo l t):=by
 obtain⟨f,j,w,I,n⟩:=h;have a:t.sm (128*(t.hK.toNat+1)):=n.mono X;unfold je;simp only;have y:=sv l hH hC t.pc t.r (jq t view) ((t.run+1)*1048576+t.nw.length);by_cases C:t.pc<l.length
 case neg=>
  have e:(lx l hH hC t.pc t.r (jq t view) ((t.run+1)*1048576+t.nw.length)).h7=4:=by
   unfold lx;rw[U_ (.inr (.inr X))];rfl
  rw[U_ e];refine⟨⟨a.gs,a.rs,a.ws,a.nw,a.ds,a.h8⟩,by show 0<=t.hK+1;omega,by show t.hK+1<=_;omega,f,j,λh=>Gc h (by show ¬(4:Int)=0;decide)⟩
 case pos=>
 have m:=uA t.r (jq t view) ((t.run+1)*1048576+t.nw.length) A f C;generalize lx l hH hC t.pc t.r (jq t view) ((t.run+1)*1048576+t.nw.length)=b at*;split;exact⟨⟨a.gs,a.rs,a.ws,a.nw,a.ds,a.h8⟩,by show 0<=t.hK+1;omega,by show t.hK+1<=_;omega,f,j,λh=>Gc h (by show ¬(4:Int)=0;decide)⟩;rename_i q;rcases m with m|⟨F,L,e,g,u⟩
 .exact Gc m q
 split;exact⟨⟨a.gs,a.rs,a.ws,a.nw,a.ds,a.h8⟩,w,by show t.hK<=_;omega,f,j,λh=>Gc h (by show ¬(1:Int)=0;decide)⟩;cases o:record t view b with
 |none=>exact⟨⟨a.gs,a.rs,a.ws,a.nw,a.ds,a.h8⟩,by show 0<=t.hK+1;omega,by show t.hK+1<=_;omega,f,j,λh=>Gc h (by show ¬(4:Int)=0;decide)⟩
 |some x=>
  have B:=lK o;have R:=(zf n y o).mono (show _<=128*(t.hK.toNat+1) by omega);simp only;have M:=B.hK;split;exact⟨⟨R.gs,R.rs,R.ws,R.nw,R.ds,R.h8⟩,by show 0<=x.hK+1;omega,by show x.hK+1<=_;omega,e,g,λh=>Gc h (by show ¬(3:Int)=0;decide)⟩;rename_i N;split
  .exact⟨⟨R.gs,R.rs,R.ws,R.nw,R.ds,R.h8⟩,by show 0<=x.hK+1;omega,by show x.hK+1<=_;omega,e,g,λh=>Gc h (by show ¬(2:Int)=0;decide)⟩
  rename_i r;refine⟨⟨R.gs,R.rs,R.ws,R.nw,R.ds,R.h8⟩,by show 0<=x.hK+1;omega,by show x.hK+1<=_;omega,e,g,λ_=>?_⟩;have K:=sq (l:=l) e;have D:=sq (l:=l) f;by_cases J:t.hK+1<64;refine⟨⟨e,g,by show 0<=x.hK+1;omega,by show x.hK+1+((pf l b.pc:Nat):Int)<=_;omega,?_⟩,?_⟩
  .exact Li
  show(64-(x.hK+1)).toNat*(l.length+3)+pf l b.pc<(64-t.hK).toNat*(l.length+3)+pf l t.pc;have aJ:(64-t.hK).toNat=(64-(x.hK+1)).toNat+1:=X;rw[aJ,Hp];omega;have s:b.h7=0:=by
   by_cases v:b.h7=0;exact v;exact Gc ⟨X,.inr (.inl X)⟩ r
  obtain⟨z,k⟩:=u s;have H:pf l b.pc<pf l t.pc:=by
   have:pf l t.pc=((l.length:Int)-t.pc).toNat:=by unfold pf;rw[z];simp
   rw[this];rcases k with k|k
   unfold pf;split<;>omega;unfold pf;rw[U_ k];omega
  refine⟨⟨e,g,by show 0<=x.hK+1;omega,by show x.hK+1+((pf l b.pc:Nat):Int)<=_;omega,?_⟩,?_⟩;exact Li;show(64-(x.hK+1)).toNat*(l.length+3)+pf l b.pc<(64-t.hK).toNat*(l.length+3)+pf l t.pc;have aJ:(64-(x.hK+1)).toNat=0:=X;rw[aJ];by_cases E:t.hK=63;have:(64-t.hK).toNat=1:=X;rw[this];omega;omega
