import Derived.Test.YtenbhdilndfaeaaGreatM05
import Derived.Test.YtenbhdilndfaeaaGreatM08
set_option maxRecDepth 100000
set_option maxHeartbeats 0
set_option linter.all false
namespace Go.Proofs.YtenbhdilndfaeaaGreat
open Go.RowKit Go.Proofs.Tryz
variable{G:Prop}{l:List In}{c:Cl}{view:List Ob}{d:Dl}{x:XP}{i:In}{p:Int}
theorem IN(h:G:=by
 refine⟨am.js,am.jY,?_,?_,(by decide:(0:Int)<=2),(by decide:(2:Int)<=3),λh=>EK h (by decide:¬(2:Int)=0)⟩
 .show -1<=XP.jY _
  rw[am.jY];exact hp
 .show XP.jY _<=(l.length:Int)
  rw[am.jY];exact hl):G:=h
theorem Jj(h:G:=by
 rw[e]at h;simp at h
 have:=hb x.n (by first|exact h.2.1.1|exact h.2.2.1.1|omega)
 refine⟨o_,o_,?_⟩
 first
  |exact h.2.2.imp id mM
  |exact h.2.2.2.imp id mM):G:=h
theorem JO(h:G:=by
 have aJ:(x.hM+1).toNat=t.hM.toNat+1:=o_
 show i3.sm (128*(x.hM+1).toNat) _
 rw[aJ];exact⟨R.gs,R.rs,R.ws,R.nw,R.ds,R.h7⟩):G:=h
theorem J4(h:G:=by
 injection hy with hy;subst hy;have q:=z.mono (show n+6+1<=n+13 by omega);exact LE):G:=h
theorem KE(h:G:=by
 injection hy with hy;subst hy;exact pX.sm.mono (k4 z _) (show n+6+1+5<=n+13 by omega)):G:=h
theorem KF(h:G:=by
 injection hs with hs;subst hs;exact⟨rfl,rfl,rfl,rfl,rfl,rfl,rfl,rfl,rfl,rfl,rfl⟩):G:=h
theorem KP(h:G:=by
 have q:=p.mono (show n+1+1+1<=n+5 by omega);exact LE):G:=h
theorem Ly(h:G:=by
 exact⟨aq.rs,aq.ws,aq.nw,aq.ds,aq.h7⟩):G:=h
theorem LE(h:G:=by
 exact⟨q.rs,q.ws,q.nw,q.ds,q.h7⟩):G:=h
theorem LI(h:G:=by
 exact h.o4 ⟨rfl,rfl,rfl,rfl⟩):G:=h
theorem i3.sm.mono{n m:Nat}{t:i3}(h:t.sm n)(hm:n<=m):t.sm m:=
 ⟨G_ h.gs hm,G_ h.rs hm,G_ h.ws hm,G_ h.nw hm,G_ h.ds hm,G_ h.h7 hm⟩
theorem uO(l:List Cl)(c:Cl):(kw l c).length<=l.length+1:=by
 unfold kw;split
 .simp
 .have:=po (ou c.id c.f) l
  simp only[J_,E1,FQ,Z_,EY];unfold tq;omega
theorem qZ{n:Nat}{t:i3}(h:t.sm n)(c:Cl):(jX t c).sm (n+1):=by
 obtain⟨h1,h2,h3,au,aq,aU⟩:=h;unfold jX;split
 .exact⟨by simp only;omega,by simp only;omega,by have:=uO t.ws c;simp only;omega,by simp only;omega,by simp only;omega,by simp only;omega⟩
 .exact⟨by simp only;omega,by simp only;omega,by simp only;omega,by simp only[GI];omega,by simp only;omega,by simp only;omega⟩
theorem pJ{n:Nat}{t t':i3}{id f:Int}(h:t.sm n)(hs:jw t view id f=some t'):t'.sm (n+2):=by
 unfold jw at hs;split at hs
 .injection hs with hs;subst hs;exact h.mono o_
 .split at hs
  .cases hs
  .split at hs
   .cases hs
   .injection hs with hs;subst hs;refine qZ (n:=n+1) ?_ _;obtain⟨h1,h2,h3,au,aq,aU⟩:=h;refine⟨by simp only;omega,?_,by simp only;omega,by simp only;omega,?_,by simp only;omega⟩
    .exact G_ (uO _ _) o_
    .have:=List.length_eraseIdx_le t.ds (o2 t.ds id f).toNat
     simp only;omega
theorem xI{n:Nat}{t t':i3}(h:t.sm n)(hs:take t d=some t'):t'.sm (n+1):=by
 unfold take at hs;obtain⟨h1,h2,h3,au,aq,aU⟩:=h;split at hs
 .cases hs
 .split at hs
  .injection hs with hs;subst hs
   have:=po (nT d.id d.f) t.ds
   exact⟨by simp only;omega,by simp only;omega,by simp only;omega,by simp only;omega,by simp only[J_,E1,FQ,Z_,EY];unfold ra;omega,by simp only;omega⟩
  .split at hs
   .cases hs
   .injection hs with hs;subst hs;exact⟨by simp only;omega,by simp only;omega,by simp only;omega,by simp only;omega,by simp only[GI];omega,by simp only;omega⟩
theorem sQ:∀(l:List Dl) (t:i3) (rs ws:List Cl) (n:Nat),t.sm n->(jM t rs ws l).1.sm (n+l.length)/\(jM t rs ws l).2.1.length<=rs.length/\(jM t rs ws l).2.2.length<=ws.length
 |[],_,_,_,_,h=>⟨h,H_ _,H_ _⟩
 |d::l,t,rs,ws,n,h=>by
  unfold jM
  cases ht:take t d with
  |none=>
   obtain⟨a,b,c⟩:=sQ l t rs ws n h;exact⟨a.mono s_,b,c⟩
  |some t'=>
   obtain⟨a,b,c⟩:=sQ l t' (jI rs d) (jI ws d) (n+1) (xI h ht);have h1:(jI rs d).length<=rs.length:=Fl _ _;have h2:(jI ws d).length<=ws.length:=Fl _ _;exact⟨a.mono p_,G_ b h1,G_ c h2⟩
theorem xQ{n:Nat}{t t':i3}(h:t.sm n)(hs:p8 view t c=some t'):t'.sm (n+2):=by
 unfold p8 at hs;split at hs
 .injection hs with hs;subst hs;exact h.mono o_
 .split at hs
  .exact pJ h hs
  .injection hs with hs;subst hs;obtain⟨h1,h2,h3,au,aq,aU⟩:=h;exact⟨by simp only;omega,by have:=uO t.rs c;simp only;omega,by simp only;omega,by simp only;omega,by simp only;omega,by simp only;omega⟩
theorem vt{view:List Ob}:∀(l:List Cl) (t t':i3) (n:Nat),t.sm n->j1 view t l=some t'->t'.sm (n+2*l.length)
 |[],t,t',n,h,hs=>by injection hs with hs;subst hs;exact h.mono o_
 |c::l,t,t',n,h,hs=>by
  unfold j1 at hs
  cases hr:p8 view t c with
  |none=>rw[hr]at hs;cases hs
  |some t1=>
   rw[hr]at hs;exact(vt l t1 t' (n+2) (xQ h hr) hs).mono (by simp only[Z_];omega)
theorem Bu{n:Nat}{t t':i3}(h:t.sm n)(hs:rQ view t c=some t'):t'.sm (n+3):=by
 unfold rQ at hs
 cases hr:jw t view c.id c.f with
 |none=>rw[hr]at hs;cases hs
 |some t1=>
  rw[hr]at hs;injection hs with hs;subst hs;exact qZ (pJ h hr) c
theorem vr{view:List Ob}:∀(l:List Cl) (t t':i3) (n:Nat),t.sm n->km view t l=some t'->t'.sm (n+3*l.length)
 |[],t,t',n,h,hs=>by injection hs with hs;subst hs;exact h.mono o_
 |c::l,t,t',n,h,hs=>by
  unfold km at hs
  cases hr:rQ view t c with
  |none=>rw[hr]at hs;cases hs
  |some t1=>
   rw[hr]at hs;exact(vr l t1 t' (n+3) (Bu h hr) hs).mono (by simp only[Z_];omega)
structure pX.sm(n:Nat)(e:pX):Prop where
 rs:e.rs.length<=n
 ws:e.ws.length<=n
 nw:e.nw.length<=n
 ds:e.ds.length<=n
 h7:e.h7.length<=n
theorem pX.sm.mono{n m:Nat}{t:pX}(h:t.sm n)(hm:n<=m):t.sm m:=
 ⟨G_ h.rs hm,G_ h.ws hm,G_ h.nw hm,G_ h.ds hm,G_ h.h7 hm⟩
theorem yA{n k:Nat}{t t':i3}{e:pX}(h:t.sm n)(he:e.sm k)(hs:record t view e=some t'):t'.sm (n+8*k):=by
 unfold record at hs;obtain⟨aJ,aG,bQ,b4,bS⟩:=he;obtain⟨a,b,c⟩:=sQ e.ds t e.rs e.ws n h;simp only at hs
 cases h1:j1 view (jM t e.rs e.ws e.ds).1 (jM t e.rs e.ws e.ds).2.1 with
 |none=>rw[h1]at hs;cases hs
 |some t1=>
  rw[h1]at hs;simp only at hs;have s1:=(vt _ _ _ _ a h1).mono (show _<=n+3*k by omega)
  cases h2:km view {t1 with nw:=t1.nw++e.nw} (jM t e.rs e.ws e.ds).2.2 with
  |none=>rw[h2]at hs;cases hs
  |some af=>
   rw[h2]at hs;injection hs with hs;subst hs
   have b0:({t1 with nw:=t1.nw++e.nw}:i3).sm (n+4*k):=by
    obtain⟨bn,bI,bN,df,dj,d5⟩:=s1;exact⟨by simp only;omega,by simp only;omega,by simp only;omega,by simp only[J_];omega,by simp only;omega,by simp only;omega⟩
   obtain⟨bn,bI,bN,df,dj,d5⟩:=(vr _ _ _ _ b0 h2).mono (show _<=n+7*k by omega);exact⟨by simp only;omega,by simp only;omega,by simp only;omega,by simp only;omega,by simp only;omega,by simp only[J_];omega⟩
theorem kc{n:Nat}(h:x.e.sm n)(id f:Int):(hX x id f).1.e.sm (n+1):=by
 unfold hX;split
 .exact h.mono o_
 .split
  .exact h.mono o_
  .obtain⟨bn,bI,bN,df,dj⟩:=h;exact⟨by simp only[J_,Z_,EY];omega,by simp only;omega,by simp only;omega,by simp only;omega,by simp only;omega⟩
theorem kJ{n:Nat}(h:x.e.sm n)(id f:Int)(v:Vl):(ib x id f v).e.sm (n+1):=by
 unfold ib;obtain⟨bn,bI,bN,df,dj⟩:=h;exact⟨by simp only;omega,by simp only[J_,Z_,EY];omega,by simp only;omega,by simp only;omega,by simp only;omega⟩
theorem lS{n:Nat}(h:x.e.sm n):(hU x).1.e.sm (n+1):=by
 unfold hU;simp only;split
 .exact h.mono o_
 .exact kc (x:=iI x) h 1 0
theorem k4{n:Nat}(h:x.e.sm n)(v:Vl):(jm x v).e.sm (n+5):=by
 have a:=lS h;have b:=kc a (hU x).2.1 2;have p:=kc b (hU x).2.1 0;unfold jm;simp only;split
 .exact a.mono o_
 .split
  .exact b.mono o_
  .split
   .have q:=(kJ (kJ b (hU x).2.1 2 default) 1 2 v).mono (show n+1+1+1+1<=n+5 by omega);exact LE
   .split
    .exact KP
    .split
     .exact KP
     .have q:=kJ (kJ p 1 0 (hX (hX (hU x).1 (hU x).2.1 2).1 (hU x).2.1 0).2) 1 2 v;exact LE
theorem p3{n:Nat}(h:x.e.sm n)(v:Vl)(f:Int):(iz x v f).1.e.sm (n+5):=by
 unfold iz;split
 .exact k4 h _
 .split
  .exact k4 h _
  .split
   .exact h.mono o_
   .split
    .exact k4 h _
    .exact h.mono o_
theorem l3{n:Nat}(h:x.e.sm n)(f:Int):(hJ x f).1.e.sm (n+6):=by
 have a:=lS h;unfold hJ;simp only;split
 .exact a.mono o_
 .split
  .exact(k4 a _).mono o_
  .exact a.mono o_
theorem iv{α:Type}{p:Prop}[Decidable p]{a y:α}{b:Option α}{R:α->Prop}(h:(if p then some a else b)=some y)(h1:p->R a)(h2:¬p->b=some y->R y):R y:=by
 split at h
 .injection h with h;subst h;rename_i hp;exact h1 hp
 .rename_i hp;exact h2 hp h
theorem yb{n:Nat}{y:XP}(h:x.e.sm n)(h0:1<=n)(hy:jU x i=some y):y.e.sm (n+5):=by
 have aq:x.e.sm (n+5):=h.mono o_;unfold jU at hy
 refine iv (R:=λy=>y.e.sm (n+5)) hy (λ_=>⟨aq.rs,aq.ws,aq.nw,aq.ds,aq.h7⟩) λ_ hy=>?_
 refine iv (R:=λy=>y.e.sm (n+5)) hy (λ_=>⟨aq.rs,aq.ws,aq.nw,aq.ds,aq.h7⟩) λ_ hy=>?_
 refine iv (R:=λy=>y.e.sm (n+5)) hy (λ_=>⟨aq.rs,aq.ws,aq.nw,aq.ds,aq.h7⟩) λ_ hy=>?_
 refine iv (R:=λy=>y.e.sm (n+5)) hy (λ_=>⟨aq.rs,aq.ws,aq.nw,aq.ds,aq.h7⟩) λ_ hy=>?_
 refine iv (R:=λy=>y.e.sm (n+5)) hy (λ_=>?_) λ_ hy=>?_
 .split
  .exact k4 h _
  .exact Ly
 refine iv (R:=λy=>y.e.sm (n+5)) hy (λ_=>⟨aq.rs,aq.ws,aq.nw,aq.ds,aq.h7⟩) λ_ hy=>?_
 refine iv (R:=λy=>y.e.sm (n+5)) hy (λ_=>?_) λ_ hy=>?_
 .split
  .exact Ly
  .exact Ly
 refine iv (R:=λy=>y.e.sm (n+5)) hy (λ_=>⟨aq.rs,aq.ws,aq.nw,aq.ds,aq.h7⟩) λ_ hy=>?_
 refine iv (R:=λy=>y.e.sm (n+5)) hy (λ_=>k4 h _) λ_ hy=>?_
 refine iv (R:=λy=>y.e.sm (n+5)) hy (λ_=>?_) λ_ hy=>by cases hy
 split
 .exact k4 h _
 .exact⟨aq.rs,aq.ws,aq.nw,aq.ds,by simp only[Z_,EY];omega⟩
theorem zl{n:Nat}{y:XP}(h:x.e.sm n)(hy:kK x i=some y):y.e.sm (n+13):=by
 have a:=l3 h i.n;have z:=kc a (hJ x i.n).2.1 (hJ x i.n).2.2.1;unfold kK at hy;simp only at hy;split at hy
 .cases hy
 split at hy
 .injection hy with hy;subst hy;exact a.mono (show n+6<=n+13 by omega)
 split at hy
 .injection hy with hy;subst hy;exact pX.sm.mono (kJ a _ _ _) (show n+6+1<=n+13 by omega)
 split at hy
 .exact J4
 split at hy
 .split at hy
  .exact KE
  .injection hy with hy;subst hy;have q:=(kJ z (hJ x i.n).2.1 (hJ x i.n).2.2.1 (iF i.b (hX (hJ x i.n).1 (hJ x i.n).2.1 (hJ x i.n).2.2.1).2 (x.sr i.a.toNat)).1).mono (show n+6+1+1<=n+13 by omega);exact⟨q.rs,q.ws,q.nw,by simp only[Z_,EY];omega,q.h7⟩
 split at hy
 .exact KE
 .exact J4
theorem zn{n:Nat}(i:In)(h:x.e.sm n)(h0:1<=n):(j2 x i).e.sm (n+7):=by
 have bG:x.e.sm (n+7):=h.mono o_;have a:=lS h;have o:=p3 h (x.sr i.b.toNat) i.n;have p:=kc a (hU x).2.1 0;have r:=kc p (hU x).2.1 1;unfold j2;simp only;split
 .split
  .have q:=(kc o (iz x (x.sr i.b.toNat) i.n).2.1 i.n).mono (show n+5+1<=n+7 by omega);exact LE
  .exact o.mono o_
 split
 .split
  .exact pX.sm.mono (kJ o _ _ _) (show n+5+1<=n+7 by omega)
  .exact o.mono o_
 split
 .obtain⟨bn,bI,bN,df,dj⟩:=h;exact⟨by simp only[kW];omega,by simp only[kW];omega,by simp only[kW,Z_,EY];omega,by simp only[kW];omega,by simp only[kW];omega⟩
 split
 .have q:=a.mono (show n+1<=n+6 by omega);have bn:({(hU x).1 with e:={(hU x).1.e with nw:=[⟨(hU x).1.nx,[⟨true,(hU x).2.1⟩,⟨false,(hU x).1.jY+1⟩,default]++((List.range i.b.toNat).map (hU x).1.sr++List.replicate (i.c-i.b).toNat default)⟩]}}:XP).e.sm (n+6):=⟨q.rs,q.ws,by simp only[Z_,EY];omega,q.ds,q.h7⟩;have bI:=kJ bn 1 0 ⟨true,(hU x).1.nx⟩;exact⟨bI.rs,bI.ws,bI.nw,bI.ds,bI.h7⟩
 split
 .split
  .exact a.mono o_
  .split
   .have q:=p.mono (show n+1+1<=n+7 by omega);exact LE
   .split
    .have q:=r.mono (show n+1+1+1<=n+7 by omega);exact LE
    .have q:=(kJ (kJ r 1 0 (hX (hU x).1 (hU x).2.1 0).2) 1 1 (x.sr i.a.toNat)).mono (show n+1+1+1+1+1<=n+7 by omega);exact LE
 split
 .split
  .exact bG
  .have q:=(kc (x:=iI x) h 1 (if i.op=15 then 1 else 2)).mono (show n+1<=n+7 by omega);exact LE
 split
 .exact pX.sm.mono (kJ a _ _ _) (show n+1+1<=n+7 by omega)
 .exact bG
theorem sd(c:List In)(hI hF pc:Int)(r:Nat->Vl)(h:List Ob)(nx:Int):(lm c hI hF pc r h nx).sm 16:=by
 have z:({l0 with pc:=pc+1,r:=r}:pX).sm 1:=⟨by simp[l0],by simp[l0],by simp[l0],by simp[l0],by simp[l0]⟩;have a:jg.sm 16:=⟨by simp[jg,l0],by simp[jg,l0],by simp[jg,l0],by simp[jg,l0],by simp[jg,l0]⟩;unfold lm;split
 .exact a
 .simp only;split
  .exact a
  .generalize hx:(⟨c,hI,hF,pc,r,h,nx,{l0 with pc:=pc+1,r:=r},false⟩:XP)=x
   have v:x.e.sm 1:=by rw[<-hx];exact z
   unfold p2;split
   .simp only;split
    .exact v.mono o_
    .exact(k4 (kc (x:=iI x) v _ _) _).mono o_
   .simp only;split
    .rename_i y hy;exact(yb v o_ hy).mono o_
    .split
     .rename_i y hy;exact(zl v hy).mono o_
     .exact(zn _ v o_).mono o_
def jb(c:List In)(hI hF:Int)(d:List Int)(t:i3)(view:List Ob):i3:=
 let e:=lm c hI hF t.pc t.r (jr t view) ((t.run+1)*1048576+t.nw.length)
 if e.h6=4 then m_ t else
 if e.h6=3 then{t with h8:=1,next:=t.pc+1} else
 match record t view e with
 |none=>m_ t
 |some x=>
  if e.h6=2 then{x with pc:=e.pc,r:=e.r,hM:=x.hM+1,h8:=3,hZ:=e.hZ,v:=e.v}
  else if e.h6=1/\(iY (λz=>z==e.kx) d=true∨64<=x.hM+1∨jB c hI hF e.pc=true) then{x with pc:=e.pc,r:=e.r,hM:=x.hM+1,h8:=2,next:=e.pc}
  else{x with pc:=e.pc,r:=e.r,hM:=x.hM+1}
structure lK(t t':i3):Prop where
 hS:t'.hS=t.hS
 run:t'.run=t.run
 ik:t'.ik=t.ik
 pc:t'.pc=t.pc
 r:t'.r=t.r
 gs:t'.gs=t.gs
 h8:t'.h8=t.h8
 next:t'.next=t.next
 hZ:t'.hZ=t.hZ
 v:t'.v=t.v
 hM:t'.hM=t.hM
theorem lK.refl(t:i3):lK t t:=⟨rfl,rfl,rfl,rfl,rfl,rfl,rfl,rfl,rfl,rfl,rfl⟩
theorem lK.trans{a b c:i3}(h:lK a b)(k:lK b c):lK a c:=
 ⟨k.hS.trans h.hS,k.run.trans h.run,k.ik.trans h.ik,k.pc.trans h.pc,k.r.trans h.r,k.gs.trans h.gs,k.h8.trans h.h8,k.next.trans h.next,k.hZ.trans h.hZ,k.v.trans h.v,k.hM.trans h.hM⟩
theorem qm(t:i3)(c:Cl):lK t (jX t c):=by
 unfold jX;split<;>exact⟨rfl,rfl,rfl,rfl,rfl,rfl,rfl,rfl,rfl,rfl,rfl⟩
theorem qs{t t':i3}{id f:Int}(hs:jw t view id f=some t'):lK t t':=by
 unfold jw at hs;split at hs
 .injection hs with hs;subst hs;exact lK.refl _
 .split at hs
  .cases hs
  .split at hs
   .cases hs
   .injection hs with hs;subst hs;obtain⟨bV,bz,k3,dU,dL,dM,E,dN,l,fk,a⟩:=qm {t with rs:=kw t.rs ⟨id,f,_⟩,ds:=t.ds.eraseIdx (o2 t.ds id f).toNat} ⟨id,f,(jx (jr t view) id f).getD default⟩;exact⟨bV,bz,k3,dU,dL,dM,E,dN,l,fk,a⟩
theorem wJ{t t':i3}(hs:take t d=some t'):lK t t':=by
 unfold take at hs;split at hs
 .cases hs
 .split at hs
  .exact KF
  .split at hs
   .cases hs
   .exact KF
theorem pi:∀(l:List Dl) (t:i3) (rs ws:List Cl),lK t (jM t rs ws l).1
 |[],t,_,_=>lK.refl t
 |d::l,t,rs,ws=>by
  unfold jM
  cases ht:take t d with
  |none=>exact pi l t rs ws
  |some t'=>exact(wJ ht).trans (pi l t' _ _)
theorem rD{view:List Ob}:∀(l:List Cl) (t t':i3),j1 view t l=some t'->lK t t'
 |[],t,t',hs=>by injection hs with hs;subst hs;exact lK.refl _
 |c::l,t,t',hs=>by
  unfold j1 at hs
  cases hr:p8 view t c with
  |none=>rw[hr]at hs;cases hs
  |some t1=>
   rw[hr]at hs;refine lK.trans ?_ (rD l t1 t' hs);unfold p8 at hr;split at hr
   .injection hr with hr;subst hr;exact lK.refl _
   .split at hr
    .exact qs hr
    .injection hr with hr;subst hr;exact⟨rfl,rfl,rfl,rfl,rfl,rfl,rfl,rfl,rfl,rfl,rfl⟩
theorem rC{view:List Ob}:∀(l:List Cl) (t t':i3),km view t l=some t'->lK t t'
 |[],t,t',hs=>by injection hs with hs;subst hs;exact lK.refl _
 |c::l,t,t',hs=>by
  unfold km at hs
  cases hr:rQ view t c with
  |none=>rw[hr]at hs;cases hs
  |some t1=>
   rw[hr]at hs;refine lK.trans ?_ (rC l t1 t' hs);unfold rQ at hr
   cases am:jw t view c.id c.f with
   |none=>rw[am]at hr;cases hr
   |some af=>rw[am]at hr;injection hr with hr;subst hr;exact(qs am).trans (qm _ _)
theorem lB{t t':i3}{e:pX}(hs:record t view e=some t'):lK t t':=by
 unfold record at hs;simp only at hs
 cases h1:j1 view (jM t e.rs e.ws e.ds).1 (jM t e.rs e.ws e.ds).2.1 with
 |none=>rw[h1]at hs;cases hs
 |some t1=>
  rw[h1]at hs;simp only at hs
  cases h2:km view {t1 with nw:=t1.nw++e.nw} (jM t e.rs e.ws e.ds).2.2 with
  |none=>rw[h2]at hs;cases hs
  |some af=>
   rw[h2]at hs;injection hs with hs;subst hs;have bV:=(pi e.ds t e.rs e.ws).trans (rD _ _ _ h1);have bz:=bV.trans (lK.trans (b:={t1 with nw:=t1.nw++e.nw}) ⟨rfl,rfl,rfl,rfl,rfl,rfl,rfl,rfl,rfl,rfl,rfl⟩ (rC _ _ _ h2));exact bz.trans ⟨rfl,rfl,rfl,rfl,rfl,rfl,rfl,rfl,rfl,rfl,rfl⟩
structure qR(l:List In)(p:Int)(x:XP):Prop where
 js:x.js=l
 jY:x.jY=p
 lo: -1<=x.e.pc
 hi:x.e.pc<=l.length
 k0:0<=x.e.h6
 k3:x.e.h6<=3
 nx:x.e.h6=0->p<x.e.pc∨i9 l x.e.pc=true
structure Cf(x y:XP):Prop where
 js:y.js=x.js
 jY:y.jY=x.jY
 pc:y.e.pc=x.e.pc
 h6:y.e.h6=x.e.h6
theorem Cf.trans{y z:XP}(h:Cf x y)(k:Cf y z):Cf x z:=⟨k.js.trans h.js,k.jY.trans h.jY,k.pc.trans h.pc,k.h6.trans h.h6⟩
theorem qR.o4{y:XP}(h:qR l p x)(k:Cf x y):qR l p y:=by
 obtain⟨a,b,c,d,e,f,g⟩:=h;obtain⟨bV,bz,k3,dU⟩:=k;exact⟨bV.trans a,bz.trans b,by rw[k3];exact c,by rw[k3];exact d,by rw[dU];exact e,by rw[dU];exact f,by rw[k3,dU];exact g⟩
theorem lw(x:XP)(id f:Int):Cf x (hX x id f).1:=by
 unfold hX;split
 .exact⟨rfl,rfl,rfl,rfl⟩
 .split<;>exact⟨rfl,rfl,rfl,rfl⟩
theorem pZ(x:XP)(id f:Int)(v:Vl):Cf x (ib x id f v):=⟨rfl,rfl,rfl,rfl⟩
theorem ng(x:XP):Cf x (hU x).1:=by
 unfold hU;simp only;split
 .exact⟨rfl,rfl,rfl,rfl⟩
 .obtain⟨a,b,c,d⟩:=lw (iI x) 1 0;exact⟨a,b,c,d⟩
theorem ui{n:Int}(h:i9 l n=true):0<=n/\n<(l.length:Int):=by
 unfold i9 at h;simp only[ES,Fr]at h;exact⟨h.1,h.2.1⟩
theorem kE(h:qR l p x)(hp: -1<=p)(hl:p<=l.length)(v:Vl):qR l p (jm x v):=by
 have E:=ng x;have d:=E.trans (lw (hU x).1 (hU x).2.1 2);have kp:=d.trans (lw (hX (hU x).1 (hU x).2.1 2).1 (hU x).2.1 0);have hb:=h.o4 d;have am:=h.o4 kp;unfold jm;simp only;split
 .exact h.o4 E
 .split
  .exact hb.o4 ⟨rfl,rfl,rfl,rfl⟩
  .rename_i hx;split
   .rename_i hn
    have hm:i9 l (hX (hU x).1 (hU x).2.1 2).2.n=true:=by
     rw[<-hb.js]
     cases hm:i9 (hX (hU x).1 (hU x).2.1 2).1.js (hX (hU x).1 (hU x).2.1 2).2.n with
     |true=>rfl
     |false=>exact EK (Or.inr ⟨hn,hm⟩) hx
    have U:=ui hm;exact⟨hb.js,hb.jY,(by omega: -1<=(hX (hU x).1 (hU x).2.1 2).2.n),(by omega:(hX (hU x).1 (hU x).2.1 2).2.n<=(l.length:Int)),hb.k0,hb.k3,λ_=>.inr hm⟩
   .split
    .exact am.o4 ⟨rfl,rfl,rfl,rfl⟩
    .split
     .exact IN
     .exact⟨am.js,am.jY,by show(-1:Int)<= -1;omega,by show(-1:Int)<=(l.length:Int);omega,(by decide:(0:Int)<=1),(by decide:(1:Int)<=3),λh=>EK h (by decide:¬(1:Int)=0)⟩
theorem u6(h:qR l p x)(hp: -1<=p)(hl:p<=l.length)(v:Vl)(f:Int):qR l p (iz x v f).1:=by
 unfold iz;split
 .exact kE h hp hl _
 .split
  .exact kE h hp hl _
  .split
   .exact LI
   .split
    .exact kE h hp hl _
    .exact h
theorem tH(h:qR l p x)(hp: -1<=p)(hl:p<=l.length)(f:Int):qR l p (hJ x f).1:=by
 unfold hJ;simp only;split
 .exact h.o4 (ng x)
 .split
  .exact kE (h.o4 (ng x)) hp hl _
  .exact h.o4 (ng x)
def Goal(l:List In)(p n:Int):Prop:= -1<=n/\n<=l.length/\(p<n∨i9 l n=true)
theorem r0(h:qR l p x){n:Int}(hn:Goal l p n):qR l p (tD x n):=
 ⟨h.js,h.jY,hn.1,hn.2.1,h.k0,h.k3,λ_=>hn.2.2⟩
theorem ww{y:XP}(h:qR l p x)(hp: -1<=p)(hl:p<=l.length)(hj:i.op=11∨i.op=12->Goal l p i.n)(hy:jU x i=some y):qR l p y:=by
 unfold jU at hy
 refine iv (R:=qR l p) hy (λ_=>h) λ_ hy=>?_
 refine iv (R:=qR l p) hy (λ_=>h.o4 ⟨rfl,rfl,rfl,rfl⟩) λ_ hy=>?_
 refine iv (R:=qR l p) hy (λ_=>h.o4 ⟨rfl,rfl,rfl,rfl⟩) λ_ hy=>?_
 refine iv (R:=qR l p) hy (λ_=>h.o4 ⟨rfl,rfl,rfl,rfl⟩) λ_ hy=>?_
 refine iv (R:=qR l p) hy (λ_=>?_) λ_ hy=>?_
 .split
  .exact kE h hp hl _
  .exact LI
 refine iv (R:=qR l p) hy (λho=>r0 h (hj (.inl ho))) λ_ hy=>?_
 refine iv (R:=qR l p) hy (λho=>?_) λ_ hy=>?_
 .split
  .exact h
  .exact r0 h (hj (.inr ho))
 refine iv (R:=qR l p) hy (λ_=>⟨h.js,h.jY,h.lo,h.hi,(by decide:(0:Int)<=1),(by decide:(1:Int)<=3),λh=>EK h (by decide:¬(1:Int)=0)⟩) λ_ hy=>?_
 refine iv (R:=qR l p) hy (λ_=>kE h hp hl _) λ_ hy=>?_
 refine iv (R:=qR l p) hy (λ_=>?_) λ_ hy=>by cases hy
 split
 .exact kE h hp hl _
 .exact LI
theorem x8{y:XP}(h:qR l p x)(hp: -1<=p)(hl:p<=l.length)(hy:kK x i=some y):qR l p y:=by
 have a:=tH h hp hl i.n;have z:=a.o4 (lw (hJ x i.n).1 (hJ x i.n).2.1 (hJ x i.n).2.2.1);unfold kK at hy;simp only at hy;split at hy
 .cases hy
 split at hy
 .injection hy with hy;subst hy;exact a
 split at hy
 .injection hy with hy;subst hy;exact a.o4 (pZ _ _ _ _)
 split at hy
 .injection hy with hy;subst hy;exact z.o4 ⟨rfl,rfl,rfl,rfl⟩
 split at hy
 .split at hy
  .injection hy with hy;subst hy;exact kE z hp hl _
  .injection hy with hy;subst hy;exact z.o4 ⟨rfl,rfl,rfl,rfl⟩
 split at hy
 .injection hy with hy;subst hy;exact kE z hp hl _
 .injection hy with hy;subst hy;refine⟨z.js,z.jY,?_,?_,(by decide:(0:Int)<=3),(by decide:(3:Int)<=3),λh=>EK h (by decide:¬(3:Int)=0)⟩
  .show -1<=XP.jY _
   rw[z.jY];exact hp
  .show XP.jY _<=(l.length:Int)
   rw[z.jY];exact hl
theorem x_(h:qR l p x)(hp: -1<=p)(hl:p<=l.length)(hj:i.op=13->Goal l p i.n):qR l p (j2 x i):=by
 have o:=u6 h hp hl (x.sr i.b.toNat) i.n;have E:=ng x;have kp:=E.trans (lw (hU x).1 (hU x).2.1 0);have kr:=kp.trans (lw (hX (hU x).1 (hU x).2.1 0).1 (hU x).2.1 1);have am:=h.o4 kp;have hr:=h.o4 kr;unfold j2;simp only;split
 .split
  .exact(o.o4 (lw _ _ _)).o4 ⟨rfl,rfl,rfl,rfl⟩
  .exact o
 split
 .split
  .exact o.o4 (pZ _ _ _ _)
  .exact o
 split
 .exact LI
 split
 .rename_i ho;refine r0 ?_ (hj ho);exact(h.o4 E).o4 ⟨rfl,rfl,rfl,rfl⟩
 split
 .split
  .exact h.o4 E
  .split
   .exact IN
   .split
    .exact hr.o4 ⟨rfl,rfl,rfl,rfl⟩
    .rename_i hx
     have hm:i9 l (hX (hX (hU x).1 (hU x).2.1 0).1 (hU x).2.1 1).2.n=true:=by
      rw[<-hr.js]
      cases hm:i9 (hX (hX (hU x).1 (hU x).2.1 0).1 (hU x).2.1 1).1.js (hX (hX (hU x).1 (hU x).2.1 0).1 (hU x).2.1 1).2.n with
      |true=>rfl
      |false=>exact EK (.inr (.inr hm)) hx
     have U:=ui hm;refine r0 ?_ ⟨o_,o_,.inr hm⟩;exact⟨hr.js,hr.jY,hr.lo,hr.hi,hr.k0,hr.k3,hr.nx⟩
 split
 .split
  .exact LI
  .have a1:=h.o4 (y:=iI x) ⟨rfl,rfl,rfl,rfl⟩;have G:=a1.o4 (lw (iI x) 1 (if i.op=15 then 1 else 2));exact⟨G.js,G.jY,G.lo,G.hi,G.k0,G.k3,G.nx⟩
 split
 .exact(h.o4 E).o4 (pZ _ _ _ _)
 .exact h
theorem mM{n:Int}:iA l n=21->i9 l n=true:=by
 intro h;unfold iA at h;split at h
 .omega
 .rename_i hb;unfold i9;have h0:0<=n:=o_;have h1:n<(l.length:Int):=o_;rw[E8 h0,E8 h1,h]
  rfl
theorem yZ{k:Nat}(h:kU l k=true)(ho:(l.getD k default).op=11∨(l.getD k default).op=12∨(l.getD k default).op=13):Goal l k (l.getD k default).n:=by
 have hb:∀n,0<=iA l n->0<=n/\n<(l.length:Int):=by
  intro n hn;unfold iA at hn;split at hn
  .omega
  .omega
 unfold kU jS at h;generalize l.getD k default=x at*
 rcases ho with ho|ho|ho
 .rw[ho]at h;have e:(i5.getD (11:Int).toNat default).n=6:=rfl;exact Jj
 .rw[ho]at h;have e:(i5.getD (12:Int).toNat default).n=6:=rfl;exact Jj
 .rw[ho]at h;have e:(i5.getD (13:Int).toNat default).n=7:=rfl;rw[e]at h;simp at h
  have hm:iA l x.n=21:=by first|exact h.2|exact h.2.2
  have:=hb x.n o_
  exact⟨o_,o_,.inr (mM hm)⟩
theorem ue{hI hF pc:Int}(r:Nat->Vl)(h:List Ob)(nx:Int)(hv:ic l hI hF=true)(h0: -1<=pc)(h1:pc<l.length):
 (lm l hI hF pc r h nx).h6=4∨(0<=(lm l hI hF pc r h nx).h6/\(lm l hI hF pc r h nx).h6<=3/\ -1<=(lm l hI hF pc r h nx).pc/\(lm l hI hF pc r h nx).pc<=l.length/\
   ((lm l hI hF pc r h nx).h6=0->i9 l pc=false/\(pc<(lm l hI hF pc r h nx).pc∨i9 l (lm l hI hF pc r h nx).pc=true))):=by
 have aM:∀k,k<l.length->kU l k=true:=by
  intro k hk;exact Lg
 unfold lm;rw[Q_ (by rw[hv];simp;omega)];simp only;split
 .exact .inl rfl
 .right;generalize hx:(⟨l,hI,hF,pc,r,h,nx,{l0 with pc:=pc+1,r:=r},false⟩:XP)=x
  have v:qR l pc x:=by rw[<-hx];exact⟨rfl,rfl,by show -1<=pc+1;omega,by show pc+1<=(l.length:Int);omega,(by decide:(0:Int)<=0),(by decide:(0:Int)<=3),λ_=>.inl (by show pc<pc+1;omega)⟩
  have fin:∀y:XP,qR l pc y->(y.e.h6=0->i9 l pc=false)->0<=y.e.h6/\y.e.h6<=3/\ -1<=y.e.pc/\y.e.pc<=l.length/\(y.e.h6=0->i9 l pc=false/\(pc<y.e.pc∨i9 l y.e.pc=true)):=
   λy hy hm=>⟨hy.k0,hy.k3,hy.lo,hy.hi,λhk=>⟨hm hk,hy.nx hk⟩⟩
  unfold p2;split
  .rename_i u1
   have hm:i9 l pc=false:=by rw[u1];unfold i9;simp
   simp only;split
   .exact fin _ (v.o4 ⟨rfl,rfl,rfl,rfl⟩) λ_=>hm
   .exact fin _ (kE ((v.o4 (y:=iI x) ⟨rfl,rfl,rfl,rfl⟩).o4 (lw _ _ _)) h0 o_ _) λ_=>hm
  .rename_i u1;have q:x.js=l:=v.js;obtain⟨k,rfl⟩:∃k:Nat,pc=k:=⟨pc.toNat,o_⟩;have hk:k<l.length:=o_;have hg:=yZ (aM k hk)
   have cx:i9 l (k:Int)=((l.getD k default).op==21):=by unfold i9;simp[hk]
   simp only[q,Fi]
   cases hp:jU x (l.getD k default)with
   |some y=>
    simp only
    refine fin _ (ww v h0 o_ (λho=>hg (ho.elim .inl λh=>.inr (.inl h))) hp) λb9=>?_
    rw[cx]
    cases ho:((l.getD k default).op==21)with
    |false=>rfl
    |true=>
     exfalso
     have i:(l.getD k default).op=21:=zu ho;unfold jU at hp;rw[i]at hp;simp at hp;rw[<-hp]at b9;exact EK b9 (by show ¬(1:Int)=0;decide)
   |none=>
    have a:i9 l (k:Int)=false:=by
     rw[cx]
     cases ho:((l.getD k default).op==21)with
     |false=>rfl
     |true=>
      exfalso
      have i:(l.getD k default).op=21:=zu ho;unfold jU at hp;rw[i]at hp;simp at hp
    simp only
    cases am:kK x (l.getD k default)with
    |some y=>exact fin _ (x8 v h0 o_ am) λ_=>a
    |none=>exact fin _ (x_ v h0 o_ λho=>hg (.inr (.inr ho))) λ_=>a
def oY(l:List In)(pc:Int):Nat:=if i9 l pc=true then 0 else((l.length:Int)-pc).toNat
theorem r9{pc:Int}(h: -1<=pc):oY l pc<=l.length+1:=by
 unfold oY;split<;>omega
def todo(l:List In)(t:i3):Nat:=(64-t.hM).toNat*(l.length+3)+oY l t.pc
structure Way(l:List In)(t:i3):Prop where
 lo: -1<=t.pc
 hi:t.pc<=l.length
 s0:0<=t.hM
 s1:t.hM+oY l t.pc<=64+(l.length+1)
 sm:t.sm (128*t.hM.toNat)
theorem t7{hI hF:Int}{d:List Int}{t:i3}(hv:ic l hI hF=true)(h:Way l t)(hs:t.h8=0):
 (jb l hI hF d t view).sm (128*(t.hM.toNat+1))/\0<=(jb l hI hF d t view).hM/\(jb l hI hF d t view).hM<=t.hM+1/\ -1<=(jb l hI hF d t view).pc/\(jb l hI hF d t view).pc<=l.length/\
 ((jb l hI hF d t view).h8=0->Way l (jb l hI hF d t view)/\todo l (jb l hI hF d t view)<todo l t):=by
 obtain⟨h1,h2,h3,au,aq⟩:=h;have m0:t.sm (128*(t.hM.toNat+1)):=aq.mono o_;unfold jb;simp only;have hE:=sd l hI hF t.pc t.r (jr t view) ((t.run+1)*1048576+t.nw.length)
 by_cases u1:t.pc<l.length
 case neg=>
  have hk:(lm l hI hF t.pc t.r (jr t view) ((t.run+1)*1048576+t.nw.length)).h6=4:=by
   unfold lm;rw[T_ (.inr (.inr o_))]
   rfl
  rw[T_ hk];refine⟨⟨m0.gs,m0.rs,m0.ws,m0.nw,m0.ds,m0.h7⟩,by show 0<=t.hM+1;omega,by show t.hM+1<=_;omega,h1,h2,λh=>EK h (by show ¬(4:Int)=0;decide)⟩
 case pos=>
 have bt:=ue t.r (jr t view) ((t.run+1)*1048576+t.nw.length) hv h1 u1;generalize lm l hI hF t.pc t.r (jr t view) ((t.run+1)*1048576+t.nw.length)=e at*;split
 .exact⟨⟨m0.gs,m0.rs,m0.ws,m0.nw,m0.ds,m0.h7⟩,by show 0<=t.hM+1;omega,by show t.hM+1<=_;omega,h1,h2,λh=>EK h (by show ¬(4:Int)=0;decide)⟩
 .rename_i aM
  rcases bt with bt|⟨aS,bQ,el,d7,en⟩
  .exact EK bt aM
  split
  .exact⟨⟨m0.gs,m0.rs,m0.ws,m0.nw,m0.ds,m0.h7⟩,h3,by show t.hM<=_;omega,h1,h2,λh=>EK h (by show ¬(1:Int)=0;decide)⟩
  .cases hr:record t view e with
   |none=>exact⟨⟨m0.gs,m0.rs,m0.ws,m0.nw,m0.ds,m0.h7⟩,by show 0<=t.hM+1;omega,by show t.hM+1<=_;omega,h1,h2,λh=>EK h (by show ¬(4:Int)=0;decide)⟩
   |some x=>
    have hx:=lB hr;have R:=(yA aq hE hr).mono (show _<=128*(t.hM.toNat+1) by omega);simp only;have bz:=hx.hM;split
    .exact⟨⟨R.gs,R.rs,R.ws,R.nw,R.ds,R.h7⟩,by show 0<=x.hM+1;omega,by show x.hM+1<=_;omega,el,d7,λh=>EK h (by show ¬(3:Int)=0;decide)⟩
    .rename_i aj;split
     .exact⟨⟨R.gs,R.rs,R.ws,R.nw,R.ds,R.h7⟩,by show 0<=x.hM+1;omega,by show x.hM+1<=_;omega,el,d7,λh=>EK h (by show ¬(2:Int)=0;decide)⟩
     .rename_i bV;refine⟨⟨R.gs,R.rs,R.ws,R.nw,R.ds,R.h7⟩,by show 0<=x.hM+1;omega,by show x.hM+1<=_;omega,el,d7,λ_=>?_⟩;have ct:=r9 (l:=l) el;have M:=r9 (l:=l) h1
      by_cases b7:t.hM+1<64
      .refine⟨⟨el,d7,by show 0<=x.hM+1;omega,by show x.hM+1+((oY l e.pc:Nat):Int)<=_;omega,?_⟩,?_⟩
       .exact JO
       .show(64-(x.hM+1)).toNat*(l.length+3)+oY l e.pc<(64-t.hM).toNat*(l.length+3)+oY l t.pc
        have aJ:(64-t.hM).toNat=(64-(x.hM+1)).toNat+1:=o_;rw[aJ,FJ];omega
      .have b9:e.h6=0:=by
        by_cases h0:e.h6=0
        .exact h0
        .exact EK ⟨o_,.inr (.inl o_)⟩ bV
       obtain⟨hm,hg⟩:=en b9
       have ag:oY l e.pc<oY l t.pc:=by
        have:oY l t.pc=((l.length:Int)-t.pc).toNat:=by unfold oY;rw[hm];simp
        rw[this]
        rcases hg with hg|hg
        .unfold oY;split<;>omega
        .unfold oY;rw[T_ hg];omega
       refine⟨⟨el,d7,by show 0<=x.hM+1;omega,by show x.hM+1+((oY l e.pc:Nat):Int)<=_;omega,?_⟩,?_⟩
       .exact JO
       .show(64-(x.hM+1)).toNat*(l.length+3)+oY l e.pc<(64-t.hM).toNat*(l.length+3)+oY l t.pc
        have aJ:(64-(x.hM+1)).toNat=0:=o_;rw[aJ]
        by_cases aG:t.hM=63
        .have:(64-t.hM).toNat=1:=o_
         rw[this];omega
        .omega
end Go.Proofs.YtenbhdilndfaeaaGreat
