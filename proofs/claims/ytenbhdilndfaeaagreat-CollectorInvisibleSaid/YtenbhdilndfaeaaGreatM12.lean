import Derived.Test.YtenbhdilndfaeaaGreatM10
import Derived.Test.YtenbhdilndfaeaaGreatM11
set_option maxRecDepth 100000
set_option maxHeartbeats 0
set_option linter.all false
namespace Go.Proofs.YtenbhdilndfaeaaGreat
open Go.RowKit Go.Proofs.Tryz
variable{G:Prop}{l:List In}{c:Cl}{view:List Ob}{d:Dl}{x:XP}{i:In}{p:Int}
def JR(h:G:=by
 refine⟨ao.jt,ao.j2,?_,?_,(by decide:(0:Int)<=2),(by decide:(2:Int)<=3),λh=>FU h (by decide:¬(2:Int)=0)⟩
 .show -1<=XP.j2 _
  rw[ao.j2];exact hp
 .show XP.j2 _<=(l.length:Int)
  rw[ao.j2];exact hl):G:=h
def Kn(h:G:=by
 rw[e]at h;simp at h
 have:=hb x.n (by first|exact h.2.1.1|exact h.2.2.1.1|omega)
 refine⟨X,X,?_⟩
 first
  |exact h.2.2.imp id mT
  |exact h.2.2.2.imp id mT):G:=h
def KO(h:G:=by
 have aN:(x.hK+1).toNat=t.hK.toNat+1:=X
 show i3.sm (128*(x.hK+1).toNat) _
 rw[aN];exact⟨aE.gs,aE.rs,aE.ws,aE.nw,aE.ds,aE.h8⟩):G:=h
def La(h:G:=by
 injection hy with hy;subst hy;have q:=z.mono (show n+6+1<=n+13 by omega);exact MH):G:=h
def LM(h:G:=by
 injection hs with hs;subst hs;exact⟨rfl,rfl,rfl,rfl,rfl,rfl,rfl,rfl,rfl,rfl,rfl⟩):G:=h
def LO(h:G:=by
 injection hy with hy;subst hy;exact p8.sm.mono (k8 z) (show n+6+1+5<=n+13 by omega)):G:=h
def LX(h:G:=by
 have q:=p.mono (show n+1+1+1<=n+5 by omega);exact MH):G:=h
def MC(h:G:=by
 exact⟨av.rs,av.ws,av.nw,av.ds,av.h8⟩):G:=h
def MH(h:G:=by
 exact⟨q.rs,q.ws,q.nw,q.ds,q.h8⟩):G:=h
def MK(h:G:=by
 exact h.ph ⟨rfl,rfl,rfl,rfl⟩):G:=h
def i3.sm.mono{n m:Nat}{t:i3}(h:t.sm n)(a:n<=m):t.sm m:=
 ⟨G_ h.gs a,G_ h.rs a,G_ h.ws a,G_ h.nw a,G_ h.ds a,G_ h.h8 a⟩
def u5(l:List Cl)(c:Cl):(kz l c).length<=l.length+1:=by
 unfold kz;split
 .simp
 .have:=pB (oG c.id c.f) l
  simp only[J_,Gj,G7,FK,F7];unfold tF;omega
def ra{n:Nat}{t:i3}(h:t.sm n)(c:Cl):(j1 t c).sm (n+1):=by
 obtain⟨f,g,j,e,b,a⟩:=h;unfold j1;split
 .exact⟨by simp only;omega,by simp only;omega,by have:=u5 t.ws c;simp only;omega,by simp only;omega,by simp only;omega,by simp only;omega⟩
 .exact⟨by simp only;omega,by simp only;omega,by simp only;omega,by simp only[HW];omega,by simp only;omega,by simp only;omega⟩
def pQ{n:Nat}{t t':i3}{id f:Int}(h:t.sm n)(a:jw t view id f=some t'):t'.sm (n+2):=by
 unfold jw at a;split at a
 .injection a with a;subst a;exact h.mono X
 .split at a
  .cases a
  .split at a
   .cases a
   .injection a with a;subst a;refine ra (n:=n+1) ?_ _;obtain⟨j,k,m,g,e,b⟩:=h;refine⟨by simp only;omega,?_,by simp only;omega,by simp only;omega,?_,by simp only;omega⟩
    .exact G_ (u5 _ _) X
    .have:=List.length_eraseIdx_le t.ds (pe t.ds id f).toNat
     simp only;omega
def x0{n:Nat}{t t':i3}(h:t.sm n)(a:take t d=some t'):t'.sm (n+1):=by
 unfold take at a;obtain⟨g,j,k,f,e,b⟩:=h;split at a
 .cases a
 .split at a
  .injection a with a;subst a
   have:=pB (n8 d.id d.f) t.ds
   exact⟨by simp only;omega,by simp only;omega,by simp only;omega,by simp only;omega,by simp only[J_,Gj,G7,FK,F7];unfold rq;omega,by simp only;omega⟩
  .split at a
   .cases a
   .injection a with a;subst a;exact⟨by simp only;omega,by simp only;omega,by simp only;omega,by simp only;omega,by simp only[HW];omega,by simp only;omega⟩
def s4:∀(l:List Dl) (t:i3) (rs ws:List Cl) (n:Nat),t.sm n->(jN t rs ws l).1.sm (n+l.length)/\(jN t rs ws l).2.1.length<=rs.length/\(jN t rs ws l).2.2.length<=ws.length
 |[],_,_,_,_,h=>⟨h,H_ _,H_ _⟩
 |d::l,t,rs,ws,n,h=>by
  unfold jN
  cases g:take t d with
  |none=>
   obtain⟨a,b,c⟩:=s4 l t rs ws n h;exact⟨a.mono J,b,c⟩
  |some j=>
   obtain⟨a,b,c⟩:=s4 l j (jJ rs d) (jJ ws d) (n+1) (x0 h g);have e:(jJ rs d).length<=rs.length:=Gx _ _;have f:(jJ ws d).length<=ws.length:=Gx _ _;exact⟨a.mono p_,G_ b e,G_ c f⟩
def x8{n:Nat}{t t':i3}(h:t.sm n)(a:qi view t c=some t'):t'.sm (n+2):=by
 unfold qi at a;split at a
 .injection a with a;subst a;exact h.mono X
 .split at a
  .exact pQ h a
  .injection a with a;subst a;obtain⟨g,j,k,f,e,b⟩:=h;exact⟨by simp only;omega,by have:=u5 t.rs c;simp only;omega,by simp only;omega,by simp only;omega,by simp only;omega,by simp only;omega⟩
def vI{view:List Ob}:∀(l:List Cl) (t t':i3) (n:Nat),t.sm n->j4 view t l=some t'->t'.sm (n+2*l.length)
 |[],t,t',n,h,a=>by injection a with a;subst a;exact h.mono X
 |c::l,t,t',n,h,a=>by
  unfold j4 at a
  cases b:qi view t c with
  |none=>rw[b]at a;cases a
  |some e=>
   rw[b]at a;exact(vI l e t' (n+2) (x8 h b) a).mono (by simp only[FK];omega)
def Cp{n:Nat}{t t':i3}(h:t.sm n)(a:r6 view t c=some t'):t'.sm (n+3):=by
 unfold r6 at a
 cases b:jw t view c.id c.f with
 |none=>rw[b]at a;cases a
 |some e=>
  rw[b]at a;injection a with a;subst a;exact ra (pQ h b) c
def vH{view:List Ob}:∀(l:List Cl) (t t':i3) (n:Nat),t.sm n->kt view t l=some t'->t'.sm (n+3*l.length)
 |[],t,t',n,h,a=>by injection a with a;subst a;exact h.mono X
 |c::l,t,t',n,h,a=>by
  unfold kt at a
  cases b:r6 view t c with
  |none=>rw[b]at a;cases a
  |some e=>
   rw[b]at a;exact(vH l e t' (n+3) (Cp h b) a).mono (by simp only[FK];omega)
structure p8.sm(n:Nat)(e:p8):Prop where
 rs:e.rs.length<=n
 ws:e.ws.length<=n
 nw:e.nw.length<=n
 ds:e.ds.length<=n
 h8:e.h8.length<=n
def p8.sm.mono{n m:Nat}{t:p8}(h:t.sm n)(a:n<=m):t.sm m:=
 ⟨G_ h.rs a,G_ h.ws a,G_ h.nw a,G_ h.ds a,G_ h.h8 a⟩
def y4{n k:Nat}{t t':i3}{e:p8}(h:t.sm n)(w:e.sm k)(a:record t view e=some t'):t'.sm (n+8*k):=by
 unfold record at a;obtain⟨A,z,E,D,F⟩:=w;obtain⟨j,C,c⟩:=s4 e.ds t e.rs e.ws n h;simp only at a
 cases f:j4 view (jN t e.rs e.ws e.ds).1 (jN t e.rs e.ws e.ds).2.1 with
 |none=>rw[f]at a;cases a
 |some b=>
  rw[f]at a;simp only at a;have y:=(vI _ _ _ _ j f).mono (show _<=n+3*k by omega)
  cases g:kt view {b with nw:=b.nw++e.nw} (jN t e.rs e.ws e.ds).2.2 with
  |none=>rw[g]at a;cases a
  |some B=>
   rw[g]at a;injection a with a;subst a
   have m:({b with nw:=b.nw++e.nw}:i3).sm (n+4*k):=by
    obtain⟨r,o,q,u,v,s⟩:=y;exact⟨by simp only;omega,by simp only;omega,by simp only;omega,by simp only[J_];omega,by simp only;omega,by simp only;omega⟩
   obtain⟨r,o,q,u,v,s⟩:=(vH _ _ _ _ m g).mono (show _<=n+7*k by omega);exact⟨by simp only;omega,by simp only;omega,by simp only;omega,by simp only;omega,by simp only;omega,by simp only[J_];omega⟩
def kg{n:Nat}(h:x.e.sm n)(id f:Int):(hW x id f).1.e.sm (n+1):=by
 unfold hW;split
 .exact h.mono X
 .split
  .exact h.mono X
  .obtain⟨g,a,b,j,k⟩:=h;exact⟨by simp only[J_,FK,F7];omega,by simp only;omega,by simp only;omega,by simp only;omega,by simp only;omega⟩
def kL{n:Nat}(h:x.e.sm n)(id f:Int)(v:Vl):(ib x id f v).e.sm (n+1):=by
 unfold ib;obtain⟨g,a,b,j,k⟩:=h;exact⟨by simp only;omega,by simp only[J_,FK,F7];omega,by simp only;omega,by simp only;omega,by simp only;omega⟩
def lY{n:Nat}(h:x.e.sm n):(hT x).1.e.sm (n+1):=by
 unfold hT;simp only;split
 .exact h.mono X
 .exact kg (x:=iL x) h 1 0
def k8{n:Nat}(h:x.e.sm n){v:Vl}:(jm x v).e.sm (n+5):=by
 have b:=lY h;have a:=kg b (hT x).2.1 2;have p:=kg a (hT x).2.1 0;unfold jm;simp only;split
 .exact b.mono X
 .split
  .exact a.mono X
  .split
   .have q:=(kL (kL a (hT x).2.1 2 default) 1 2 v).mono (show n+1+1+1+1<=n+5 by omega);exact MH
   .split
    .exact LX
    .split
     .exact LX
     .have q:=kL (kL p 1 0 (hW (hW (hT x).1 (hT x).2.1 2).1 (hT x).2.1 0).2) 1 2 v;exact MH
def qc{n:Nat}(h:x.e.sm n)(v:Vl)(f:Int):(iA x v f).1.e.sm (n+5):=by
 unfold iA;split
 .exact k8 h
 .split
  .exact k8 h
  .split
   .exact h.mono X
   .split
    .exact k8 h
    .exact h.mono X
def l_{n:Nat}(h:x.e.sm n)(f:Int):(hI x f).1.e.sm (n+6):=by
 have a:=lY h;unfold hI;simp only;split
 .exact a.mono X
 .split
  .exact(k8 a).mono X
  .exact a.mono X
def iu{e:Type}{p:Prop}[Decidable p]{f y:e}{b:Option e}{R:e->Prop}(h:(if p then some f else b)=some y)(g:p->R f)(j:¬p->b=some y->R y):R y:=by
 split at h
 .injection h with h;subst h;rename_i a;exact g a
 .rename_i a;exact j a h
def yz{n:Nat}{y:XP}(h:x.e.sm n)(h0:1<=n)(hy:jX x i=some y):y.e.sm (n+5):=by
 have av:x.e.sm (n+5):=h.mono X;unfold jX at hy
 refine iu (R:=λy=>y.e.sm (n+5)) hy (λ_=>⟨av.rs,av.ws,av.nw,av.ds,av.h8⟩) λ_ hy=>?_
 refine iu (R:=λy=>y.e.sm (n+5)) hy (λ_=>⟨av.rs,av.ws,av.nw,av.ds,av.h8⟩) λ_ hy=>?_
 refine iu (R:=λy=>y.e.sm (n+5)) hy (λ_=>⟨av.rs,av.ws,av.nw,av.ds,av.h8⟩) λ_ hy=>?_
 refine iu (R:=λy=>y.e.sm (n+5)) hy (λ_=>⟨av.rs,av.ws,av.nw,av.ds,av.h8⟩) λ_ hy=>?_
 refine iu (R:=λy=>y.e.sm (n+5)) hy (λ_=>?_) λ_ hy=>?_
 .split
  .exact k8 h
  .exact MC
 refine iu (R:=λy=>y.e.sm (n+5)) hy (λ_=>⟨av.rs,av.ws,av.nw,av.ds,av.h8⟩) λ_ hy=>?_
 refine iu (R:=λy=>y.e.sm (n+5)) hy (λ_=>?_) λ_ hy=>?_
 .split
  .exact MC
  .exact MC
 refine iu (R:=λy=>y.e.sm (n+5)) hy (λ_=>⟨av.rs,av.ws,av.nw,av.ds,av.h8⟩) λ_ hy=>?_
 refine iu (R:=λy=>y.e.sm (n+5)) hy (λ_=>k8 h) λ_ hy=>?_
 refine iu (R:=λy=>y.e.sm (n+5)) hy (λ_=>?_) λ_ hy=>by cases hy
 split
 .exact k8 h
 .exact⟨av.rs,av.ws,av.nw,av.ds,by simp only[FK,F7];omega⟩
def zX{n:Nat}{y:XP}(h:x.e.sm n)(hy:kM x i=some y):y.e.sm (n+13):=by
 have a:=l_ h i.n;have z:=kg a (hI x i.n).2.1 (hI x i.n).2.2.1;unfold kM at hy;simp only at hy;split at hy
 .cases hy
 split at hy
 .injection hy with hy;subst hy;exact a.mono (show n+6<=n+13 by omega)
 split at hy
 .injection hy with hy;subst hy;exact p8.sm.mono (kL a _ _ _) (show n+6+1<=n+13 by omega)
 split at hy
 .exact La
 split at hy
 .split at hy
  .exact LO
  .injection hy with hy;subst hy;have q:=(kL z (hI x i.n).2.1 (hI x i.n).2.2.1 (iK i.b (hW (hI x i.n).1 (hI x i.n).2.1 (hI x i.n).2.2.1).2 (x.sr i.a.toNat)).1).mono (show n+6+1+1<=n+13 by omega);exact⟨q.rs,q.ws,q.nw,by simp only[FK,F7];omega,q.h8⟩
 split at hy
 .exact LO
 .exact La
def zZ{n:Nat}(h:x.e.sm n)(h0:1<=n):(j5 x i).e.sm (n+7):=by
 have g:x.e.sm (n+7):=h.mono X;have b:=lY h;have f:=qc h (x.sr i.b.toNat) i.n;have p:=kg b (hT x).2.1 0;have k:=kg p (hT x).2.1 1;unfold j5;simp only;split
 .split
  .have q:=(kg f (iA x (x.sr i.b.toNat) i.n).2.1 i.n).mono (show n+5+1<=n+7 by omega);exact MH
  .exact f.mono X
 split
 .split
  .exact p8.sm.mono (kL f _ _ _) (show n+5+1<=n+7 by omega)
  .exact f.mono X
 split
 .obtain⟨j,a,m,o,r⟩:=h;exact⟨by simp only[kY];omega,by simp only[kY];omega,by simp only[kY,FK,F7];omega,by simp only[kY];omega,by simp only[kY];omega⟩
 split
 .have q:=b.mono (show n+1<=n+6 by omega);have j:({(hT x).1 with e:={(hT x).1.e with nw:=[⟨(hT x).1.nx,[⟨true,(hT x).2.1⟩,⟨false,(hT x).1.j2+1⟩,default]++((List.range i.b.toNat).map (hT x).1.sr++List.replicate (i.c-i.b).toNat default)⟩]}}:XP).e.sm (n+6):=⟨q.rs,q.ws,by simp only[FK,F7];omega,q.ds,q.h8⟩;have a:=kL j 1 0 ⟨true,(hT x).1.nx⟩;exact⟨a.rs,a.ws,a.nw,a.ds,a.h8⟩
 split
 .split
  .exact b.mono X
  .split
   .have q:=p.mono (show n+1+1<=n+7 by omega);exact MH
   .split
    .have q:=k.mono (show n+1+1+1<=n+7 by omega);exact MH
    .have q:=(kL (kL k 1 0 (hW (hT x).1 (hT x).2.1 0).2) 1 1 (x.sr i.a.toNat)).mono (show n+1+1+1+1+1<=n+7 by omega);exact MH
 split
 .split
  .exact g
  .have q:=(kg (x:=iL x) h 1 (if i.op=15 then 1 else 2)).mono (show n+1<=n+7 by omega);exact MH
 split
 .exact p8.sm.mono (kL b _ _ _) (show n+1+1<=n+7 by omega)
 .exact g
def su(c:List In)(hH hC pc:Int)(r:Nat->Vl)(h:List Ob)(f:Int):(lq c hH hC pc r h f).sm 16:=by
 have k:({l9 with pc:=pc+1,r:=r}:p8).sm 1:=⟨by simp[l9],by simp[l9],by simp[l9],by simp[l9],by simp[l9]⟩;have e:jg.sm 16:=⟨by simp[jg,l9],by simp[jg,l9],by simp[jg,l9],by simp[jg,l9],by simp[jg,l9]⟩;unfold lq;split
 .exact e
 .simp only;split
  .exact e
  .generalize g:(⟨c,hH,hC,pc,r,h,f,{l9 with pc:=pc+1,r:=r},false⟩:XP)=x
   have a:x.e.sm 1:=by rw[<-g];exact k
   unfold qb;split
   .simp only;split
    .exact a.mono X
    .exact(k8 (kg (x:=iL x) a _ _)).mono X
   .simp only;split
    .rename_i j b;exact(yz a X b).mono X
    .split
     .rename_i j b;exact(zX a b).mono X
     .exact(zZ a X).mono X
def jd(c:List In)(hH hC:Int)(d:List Int)(t:i3)(view:List Ob):i3:=
 let e:=lq c hH hC t.pc t.r (jq t view) ((t.run+1)*1048576+t.nw.length)
 if e.h6=4 then np t else
 if e.h6=3 then{t with h9:=1,next:=t.pc+1} else
 match record t view e with
 |none=>np t
 |some x=>
  if e.h6=2 then{x with pc:=e.pc,r:=e.r,hK:=x.hK+1,h9:=3,hY:=e.hY,v:=e.v}
  else if e.h6=1/\(i0 (λz=>z==e.kA) d=true∨64<=x.hK+1∨jB c hH hC e.pc=true) then{x with pc:=e.pc,r:=e.r,hK:=x.hK+1,h9:=2,next:=e.pc}
  else{x with pc:=e.pc,r:=e.r,hK:=x.hK+1}
structure lR(t t':i3):Prop where
 hQ:t'.hQ=t.hQ
 run:t'.run=t.run
 ik:t'.ik=t.ik
 pc:t'.pc=t.pc
 r:t'.r=t.r
 gs:t'.gs=t.gs
 h9:t'.h9=t.h9
 next:t'.next=t.next
 hY:t'.hY=t.hY
 v:t'.v=t.v
 hK:t'.hK=t.hK
def lR.refl(t:i3):lR t t:=⟨rfl,rfl,rfl,rfl,rfl,rfl,rfl,rfl,rfl,rfl,rfl⟩
def lR.trans{a b c:i3}(h:lR a b)(k:lR b c):lR a c:=
 ⟨k.hQ.trans h.hQ,k.run.trans h.run,k.ik.trans h.ik,k.pc.trans h.pc,k.r.trans h.r,k.gs.trans h.gs,k.h9.trans h.h9,k.next.trans h.next,k.hY.trans h.hY,k.v.trans h.v,k.hK.trans h.hK⟩
def qx(t:i3)(c:Cl):lR t (j1 t c):=by
 unfold j1;split<;>exact⟨rfl,rfl,rfl,rfl,rfl,rfl,rfl,rfl,rfl,rfl,rfl⟩
def qD{t t':i3}{id f:Int}(a:jw t view id f=some t'):lR t t':=by
 unfold jw at a;split at a
 .injection a with a;subst a;exact lR.refl _
 .split at a
  .cases a
  .split at a
   .cases a
   .injection a with a;subst a;obtain⟨h,e,q,m,j,k,g,n,l,o,b⟩:=qx {t with rs:=kz t.rs ⟨id,f,_⟩,ds:=t.ds.eraseIdx (pe t.ds id f).toNat} ⟨id,f,(jy (jq t view) id f).getD default⟩;exact⟨h,e,q,m,j,k,g,n,l,o,b⟩
def wX{t t':i3}(hs:take t d=some t'):lR t t':=by
 unfold take at hs;split at hs
 .cases hs
 .split at hs
  .exact LM
  .split at hs
   .cases hs
   .exact LM
def pu:∀(l:List Dl) (t:i3) (rs ws:List Cl),lR t (jN t rs ws l).1
 |[],t,_,_=>lR.refl t
 |d::l,t,rs,ws=>by
  unfold jN
  cases a:take t d with
  |none=>exact pu l t rs ws
  |some t'=>exact(wX a).trans (pu l t' _ _)
def rO{view:List Ob}:∀(l:List Cl) (t t':i3),j4 view t l=some t'->lR t t'
 |[],t,t',b=>by injection b with b;subst b;exact lR.refl _
 |c::l,t,t',b=>by
  unfold j4 at b
  cases a:qi view t c with
  |none=>rw[a]at b;cases b
  |some e=>
   rw[a]at b;refine lR.trans ?_ (rO l e t' b);unfold qi at a;split at a
   .injection a with a;subst a;exact lR.refl _
   .split at a
    .exact qD a
    .injection a with a;subst a;exact⟨rfl,rfl,rfl,rfl,rfl,rfl,rfl,rfl,rfl,rfl,rfl⟩
def rN{view:List Ob}:∀(l:List Cl) (t t':i3),kt view t l=some t'->lR t t'
 |[],t,t',b=>by injection b with b;subst b;exact lR.refl _
 |c::l,t,t',b=>by
  unfold kt at b
  cases a:r6 view t c with
  |none=>rw[a]at b;cases b
  |some f=>
   rw[a]at b;refine lR.trans ?_ (rN l f t' b);unfold r6 at a
   cases e:jw t view c.id c.f with
   |none=>rw[e]at a;cases a
   |some g=>rw[e]at a;injection a with a;subst a;exact(qD e).trans (qx _ _)
def lG{t t':i3}{e:p8}(a:record t view e=some t'):lR t t':=by
 unfold record at a;simp only at a
 cases g:j4 view (jN t e.rs e.ws e.ds).1 (jN t e.rs e.ws e.ds).2.1 with
 |none=>rw[g]at a;cases a
 |some f=>
  rw[g]at a;simp only at a
  cases h:kt view {f with nw:=f.nw++e.nw} (jN t e.rs e.ws e.ds).2.2 with
  |none=>rw[h]at a;cases a
  |some m=>
   rw[h]at a;injection a with a;subst a;have k:=(pu e.ds t e.rs e.ws).trans (rO _ _ _ g);have j:=k.trans (lR.trans (b:={f with nw:=f.nw++e.nw}) ⟨rfl,rfl,rfl,rfl,rfl,rfl,rfl,rfl,rfl,rfl,rfl⟩ (rN _ _ _ h));exact j.trans ⟨rfl,rfl,rfl,rfl,rfl,rfl,rfl,rfl,rfl,rfl,rfl⟩
structure q2(l:List In)(p:Int)(x:XP):Prop where
 jt:x.jt=l
 j2:x.j2=p
 lo: -1<=x.e.pc
 hi:x.e.pc<=l.length
 k0:0<=x.e.h6
 k3:x.e.h6<=3
 nx:x.e.h6=0->p<x.e.pc∨jb l x.e.pc=true
structure Di(x y:XP):Prop where
 jt:y.jt=x.jt
 j2:y.j2=x.j2
 pc:y.e.pc=x.e.pc
 h6:y.e.h6=x.e.h6
def Di.trans{y a:XP}(h:Di x y)(k:Di y a):Di x a:=⟨k.jt.trans h.jt,k.j2.trans h.j2,k.pc.trans h.pc,k.h6.trans h.h6⟩
def q2.ph{y:XP}(h:q2 l p x)(k:Di x y):q2 l p y:=by
 obtain⟨e,g,c,d,m,n,o⟩:=h;obtain⟨j,f,b,a⟩:=k;exact⟨j.trans e,f.trans g,by rw[b];exact c,by rw[b];exact d,by rw[a];exact m,by rw[a];exact n,by rw[b,a];exact o⟩
def lB(x:XP)(id f:Int):Di x (hW x id f).1:=by
 unfold hW;split
 .exact⟨rfl,rfl,rfl,rfl⟩
 .split<;>exact⟨rfl,rfl,rfl,rfl⟩
def qa{id f:Int}{v:Vl}:Di x (ib x id f v):=⟨rfl,rfl,rfl,rfl⟩
def ny(x:XP):Di x (hT x).1:=by
 unfold hT;simp only;split
 .exact⟨rfl,rfl,rfl,rfl⟩
 .obtain⟨a,b,c,d⟩:=lB (iL x) 1 0;exact⟨a,b,c,d⟩
def uB{n:Int}(h:jb l n=true):0<=n/\n<(l.length:Int):=by
 unfold jb at h;simp only[F0,GE]at h;exact⟨h.1,h.2.1⟩
def kH(h:q2 l p x)(hp: -1<=p)(hl:p<=l.length){v:Vl}:q2 l p (jm x v):=by
 have e:=ny x;have d:=e.trans (lB (hT x).1 (hT x).2.1 2);have j:=d.trans (lB (hW (hT x).1 (hT x).2.1 2).1 (hT x).2.1 0);have a:=h.ph d;have ao:=h.ph j;unfold jm;simp only;split
 .exact h.ph e
 .split
  .exact a.ph ⟨rfl,rfl,rfl,rfl⟩
  .rename_i g;split
   .rename_i f
    have b:jb l (hW (hT x).1 (hT x).2.1 2).2.n=true:=by
     rw[<-a.jt]
     cases b:jb (hW (hT x).1 (hT x).2.1 2).1.jt (hW (hT x).1 (hT x).2.1 2).2.n with
     |true=>rfl
     |false=>exact FU (Or.inr ⟨f,b⟩) g
    have k:=uB b;exact⟨a.jt,a.j2,(by omega: -1<=(hW (hT x).1 (hT x).2.1 2).2.n),(by omega:(hW (hT x).1 (hT x).2.1 2).2.n<=(l.length:Int)),a.k0,a.k3,λ_=>.inr b⟩
   .split
    .exact ao.ph ⟨rfl,rfl,rfl,rfl⟩
    .split
     .exact JR
     .exact⟨ao.jt,ao.j2,by show(-1:Int)<= -1;omega,by show(-1:Int)<=(l.length:Int);omega,(by decide:(0:Int)<=1),(by decide:(1:Int)<=3),λh=>FU h (by decide:¬(1:Int)=0)⟩
def vm(h:q2 l p x)(b: -1<=p)(a:p<=l.length)(v:Vl)(f:Int):q2 l p (iA x v f).1:=by
 unfold iA;split
 .exact kH h b a
 .split
  .exact kH h b a
  .split
   .exact MK
   .split
    .exact kH h b a
    .exact h
def tU(h:q2 l p x)(b: -1<=p)(a:p<=l.length)(f:Int):q2 l p (hI x f).1:=by
 unfold hI;simp only;split
 .exact h.ph (ny x)
 .split
  .exact kH (h.ph (ny x)) b a
  .exact h.ph (ny x)
def Goal(l:List In)(p n:Int):Prop:= -1<=n/\n<=l.length/\(p<n∨jb l n=true)
def si(h:q2 l p x){n:Int}(a:Goal l p n):q2 l p (tP x n):=
 ⟨h.jt,h.j2,a.1,a.2.1,h.k0,h.k3,λ_=>a.2.2⟩
def wL{y:XP}(h:q2 l p x)(e: -1<=p)(a:p<=l.length)(f:i.op=11∨i.op=12->Goal l p i.n)(hy:jX x i=some y):q2 l p y:=by
 unfold jX at hy
 refine iu (R:=q2 l p) hy (λ_=>h) λ_ hy=>?_
 refine iu (R:=q2 l p) hy (λ_=>h.ph ⟨rfl,rfl,rfl,rfl⟩) λ_ hy=>?_
 refine iu (R:=q2 l p) hy (λ_=>h.ph ⟨rfl,rfl,rfl,rfl⟩) λ_ hy=>?_
 refine iu (R:=q2 l p) hy (λ_=>h.ph ⟨rfl,rfl,rfl,rfl⟩) λ_ hy=>?_
 refine iu (R:=q2 l p) hy (λ_=>?_) λ_ hy=>?_
 .split
  .exact kH h e a
  .exact MK
 refine iu (R:=q2 l p) hy (λb=>si h (f (.inl b))) λ_ hy=>?_
 refine iu (R:=q2 l p) hy (λb=>?_) λ_ hy=>?_
 .split
  .exact h
  .exact si h (f (.inr b))
 refine iu (R:=q2 l p) hy (λ_=>⟨h.jt,h.j2,h.lo,h.hi,(by decide:(0:Int)<=1),(by decide:(1:Int)<=3),λh=>FU h (by decide:¬(1:Int)=0)⟩) λ_ hy=>?_
 refine iu (R:=q2 l p) hy (λ_=>kH h e a) λ_ hy=>?_
 refine iu (R:=q2 l p) hy (λ_=>?_) λ_ hy=>by cases hy
 split
 .exact kH h e a
 .exact MK
def yv{y:XP}(h:q2 l p x)(e: -1<=p)(b:p<=l.length)(hy:kM x i=some y):q2 l p y:=by
 have f:=tU h e b i.n;have a:=f.ph (lB (hI x i.n).1 (hI x i.n).2.1 (hI x i.n).2.2.1);unfold kM at hy;simp only at hy;split at hy
 .cases hy
 split at hy
 .injection hy with hy;subst hy;exact f
 split at hy
 .injection hy with hy;subst hy;exact f.ph (qa)
 split at hy
 .injection hy with hy;subst hy;exact a.ph ⟨rfl,rfl,rfl,rfl⟩
 split at hy
 .split at hy
  .injection hy with hy;subst hy;exact kH a e b
  .injection hy with hy;subst hy;exact a.ph ⟨rfl,rfl,rfl,rfl⟩
 split at hy
 .injection hy with hy;subst hy;exact kH a e b
 .injection hy with hy;subst hy;refine⟨a.jt,a.j2,?_,?_,(by decide:(0:Int)<=3),(by decide:(3:Int)<=3),λh=>FU h (by decide:¬(3:Int)=0)⟩
  .show -1<=XP.j2 _
   rw[a.j2];exact e
  .show XP.j2 _<=(l.length:Int)
   rw[a.j2];exact b
def yx(h:q2 l p x)(hp: -1<=p)(hl:p<=l.length)(j:i.op=13->Goal l p i.n):q2 l p (j5 x i):=by
 have f:=vm h hp hl (x.sr i.b.toNat) i.n;have b:=ny x;have g:=b.trans (lB (hT x).1 (hT x).2.1 0);have m:=g.trans (lB (hW (hT x).1 (hT x).2.1 0).1 (hT x).2.1 1);have ao:=h.ph g;have a:=h.ph m;unfold j5;simp only;split
 .split
  .exact(f.ph (lB _ _ _)).ph ⟨rfl,rfl,rfl,rfl⟩
  .exact f
 split
 .split
  .exact f.ph (qa)
  .exact f
 split
 .exact MK
 split
 .rename_i e;refine si ?_ (j e);exact(h.ph b).ph ⟨rfl,rfl,rfl,rfl⟩
 split
 .split
  .exact h.ph b
  .split
   .exact JR
   .split
    .exact a.ph ⟨rfl,rfl,rfl,rfl⟩
    .rename_i k
     have e:jb l (hW (hW (hT x).1 (hT x).2.1 0).1 (hT x).2.1 1).2.n=true:=by
      rw[<-a.jt]
      cases e:jb (hW (hW (hT x).1 (hT x).2.1 0).1 (hT x).2.1 1).1.jt (hW (hW (hT x).1 (hT x).2.1 0).1 (hT x).2.1 1).2.n with
      |true=>rfl
      |false=>exact FU (.inr (.inr e)) k
     have o:=uB e;refine si ?_ ⟨X,X,.inr e⟩;exact⟨a.jt,a.j2,a.lo,a.hi,a.k0,a.k3,a.nx⟩
 split
 .split
  .exact MK
  .have e:=h.ph (y:=iL x) ⟨rfl,rfl,rfl,rfl⟩;have G:=e.ph (lB (iL x) 1 (if i.op=15 then 1 else 2));exact⟨G.jt,G.j2,G.lo,G.hi,G.k0,G.k3,G.nx⟩
 split
 .exact(h.ph b).ph (qa)
 .exact h
def mT{n:Int}:iB l n=21->jb l n=true:=by
 intro a;unfold iB at a;split at a
 .omega
 .rename_i f;unfold jb;have b:0<=n:=X;have e:n<(l.length:Int):=X;rw[Gd b,Gd e,a]
  rfl
def zv{k:Nat}(h:kW l k=true)(a:(l.getD k default).op=11∨(l.getD k default).op=12∨(l.getD k default).op=13):Goal l k (l.getD k default).n:=by
 have hb:∀n,0<=iB l n->0<=n/\n<(l.length:Int):=by
  intro n b;unfold iB at b;split at b
  .omega
  .omega
 unfold kW jV at h;generalize l.getD k default=x at*
 rcases a with a|a|a
 .rw[a]at h;have e:(i7.getD (11:Int).toNat default).n=6:=rfl;exact Kn
 .rw[a]at h;have e:(i7.getD (12:Int).toNat default).n=6:=rfl;exact Kn
 .rw[a]at h;have e:(i7.getD (13:Int).toNat default).n=7:=rfl;rw[e]at h;simp at h
  have f:iB l x.n=21:=by first|exact h.2|exact h.2.2
  have:=hb x.n X
  exact⟨X,X,.inr (mT f)⟩
def ux{hH hC pc:Int}(r:Nat->Vl)(h:List Ob)(a:Int)(hv:ic l hH hC=true)(h0: -1<=pc)(A:pc<l.length):
 (lq l hH hC pc r h a).h6=4∨(0<=(lq l hH hC pc r h a).h6/\(lq l hH hC pc r h a).h6<=3/\ -1<=(lq l hH hC pc r h a).pc/\(lq l hH hC pc r h a).pc<=l.length/\
   ((lq l hH hC pc r h a).h6=0->jb l pc=false/\(pc<(lq l hH hC pc r h a).pc∨jb l (lq l hH hC pc r h a).pc=true))):=by
 have v:∀k,k<l.length->kW l k=true:=by
  intro k hk;exact Mn
 unfold lq;rw[R_ (by rw[hv];simp;omega)];simp only;split
 .exact .inl rfl
 .right;generalize z:(⟨l,hH,hC,pc,r,h,a,{l9 with pc:=pc+1,r:=r},false⟩:XP)=x
  have f:q2 l pc x:=by rw[<-z];exact⟨rfl,rfl,by show -1<=pc+1;omega,by show pc+1<=(l.length:Int);omega,(by decide:(0:Int)<=0),(by decide:(0:Int)<=3),λ_=>.inl (by show pc<pc+1;omega)⟩
  have g:∀y:XP,q2 l pc y->(y.e.h6=0->jb l pc=false)->0<=y.e.h6/\y.e.h6<=3/\ -1<=y.e.pc/\y.e.pc<=l.length/\(y.e.h6=0->jb l pc=false/\(pc<y.e.pc∨jb l y.e.pc=true)):=
   λy j m=>⟨j.k0,j.k3,j.lo,j.hi,λhk=>⟨m hk,j.nx hk⟩⟩
  unfold qb;split
  .rename_i t
   have m:jb l pc=false:=by rw[t];unfold jb;simp
   simp only;split
   .exact g _ (f.ph ⟨rfl,rfl,rfl,rfl⟩) λ_=>m
   .exact g _ (kH ((f.ph (y:=iL x) ⟨rfl,rfl,rfl,rfl⟩).ph (lB _ _ _)) h0 X) λ_=>m
  .rename_i t;have u:x.jt=l:=f.jt;obtain⟨k,rfl⟩:∃k:Nat,pc=k:=⟨pc.toNat,X⟩;have hk:k<l.length:=X;have s:=zv (v k hk)
   have o:jb l (k:Int)=((l.getD k default).op==21):=by unfold jb;simp[hk]
   simp only[u,Gs]
   cases b:jX x (l.getD k default)with
   |some y=>
    simp only
    refine g _ (wL f h0 X (λe=>s (e.elim .inl λh=>.inr (.inl h))) b) λn=>?_
    rw[o]
    cases e:((l.getD k default).op==21)with
    |false=>rfl
    |true=>
     exfalso
     have i:(l.getD k default).op=21:=zu e;unfold jX at b;rw[i]at b;simp at b;rw[<-b]at n;exact FU n (by show ¬(1:Int)=0;decide)
   |none=>
    have n:jb l (k:Int)=false:=by
     rw[o]
     cases e:((l.getD k default).op==21)with
     |false=>rfl
     |true=>
      exfalso
      have i:(l.getD k default).op=21:=zu e;unfold jX at b;rw[i]at b;simp at b
    simp only
    cases w:kM x (l.getD k default)with
    |some y=>exact g _ (yv f h0 X w) λ_=>n
    |none=>exact g _ (yx f h0 X λe=>s (.inr (.inr e))) λ_=>n
def o9(l:List In)(pc:Int):Nat:=if jb l pc=true then 0 else((l.length:Int)-pc).toNat
def sp{pc:Int}(h: -1<=pc):o9 l pc<=l.length+1:=by
 unfold o9;split<;>omega
def todo(l:List In)(t:i3):Nat:=(64-t.hK).toNat*(l.length+3)+o9 l t.pc
structure Way(l:List In)(t:i3):Prop where
 lo: -1<=t.pc
 hi:t.pc<=l.length
 s0:0<=t.hK
 s1:t.hK+o9 l t.pc<=64+(l.length+1)
 sm:t.sm (128*t.hK.toNat)
def um{hH hC:Int}{d:List Int}{t:i3}(A:ic l hH hC=true)(h:Way l t)(O:t.h9=0):
 (jd l hH hC d t view).sm (128*(t.hK.toNat+1))/\0<=(jd l hH hC d t view).hK/\(jd l hH hC d t view).hK<=t.hK+1/\ -1<=(jd l hH hC d t view).pc/\(jd l hH hC d t view).pc<=l.length/\
 ((jd l hH hC d t view).h9=0->Way l (jd l hH hC d t view)/\todo l (jd l hH hC d t view)<todo l t):=by
 obtain⟨f,j,w,I,n⟩:=h;have a:t.sm (128*(t.hK.toNat+1)):=n.mono X;unfold jd;simp only;have y:=su l hH hC t.pc t.r (jq t view) ((t.run+1)*1048576+t.nw.length)
 by_cases C:t.pc<l.length
 case neg=>
  have e:(lq l hH hC t.pc t.r (jq t view) ((t.run+1)*1048576+t.nw.length)).h6=4:=by
   unfold lq;rw[U_ (.inr (.inr X))]
   rfl
  rw[U_ e];refine⟨⟨a.gs,a.rs,a.ws,a.nw,a.ds,a.h8⟩,by show 0<=t.hK+1;omega,by show t.hK+1<=_;omega,f,j,λh=>FU h (by show ¬(4:Int)=0;decide)⟩
 case pos=>
 have m:=ux t.r (jq t view) ((t.run+1)*1048576+t.nw.length) A f C;generalize lq l hH hC t.pc t.r (jq t view) ((t.run+1)*1048576+t.nw.length)=b at*;split
 .exact⟨⟨a.gs,a.rs,a.ws,a.nw,a.ds,a.h8⟩,by show 0<=t.hK+1;omega,by show t.hK+1<=_;omega,f,j,λh=>FU h (by show ¬(4:Int)=0;decide)⟩
 .rename_i q
  rcases m with m|⟨F,L,e,g,u⟩
  .exact FU m q
  split
  .exact⟨⟨a.gs,a.rs,a.ws,a.nw,a.ds,a.h8⟩,w,by show t.hK<=_;omega,f,j,λh=>FU h (by show ¬(1:Int)=0;decide)⟩
  .cases o:record t view b with
   |none=>exact⟨⟨a.gs,a.rs,a.ws,a.nw,a.ds,a.h8⟩,by show 0<=t.hK+1;omega,by show t.hK+1<=_;omega,f,j,λh=>FU h (by show ¬(4:Int)=0;decide)⟩
   |some x=>
    have B:=lG o;have aE:=(y4 n y o).mono (show _<=128*(t.hK.toNat+1) by omega);simp only;have J:=B.hK;split
    .exact⟨⟨aE.gs,aE.rs,aE.ws,aE.nw,aE.ds,aE.h8⟩,by show 0<=x.hK+1;omega,by show x.hK+1<=_;omega,e,g,λh=>FU h (by show ¬(3:Int)=0;decide)⟩
    .rename_i M;split
     .exact⟨⟨aE.gs,aE.rs,aE.ws,aE.nw,aE.ds,aE.h8⟩,by show 0<=x.hK+1;omega,by show x.hK+1<=_;omega,e,g,λh=>FU h (by show ¬(2:Int)=0;decide)⟩
     .rename_i r;refine⟨⟨aE.gs,aE.rs,aE.ws,aE.nw,aE.ds,aE.h8⟩,by show 0<=x.hK+1;omega,by show x.hK+1<=_;omega,e,g,λ_=>?_⟩;have K:=sp (l:=l) e;have D:=sp (l:=l) f
      by_cases N:t.hK+1<64
      .refine⟨⟨e,g,by show 0<=x.hK+1;omega,by show x.hK+1+((o9 l b.pc:Nat):Int)<=_;omega,?_⟩,?_⟩
       .exact KO
       .show(64-(x.hK+1)).toNat*(l.length+3)+o9 l b.pc<(64-t.hK).toNat*(l.length+3)+o9 l t.pc
        have aN:(64-t.hK).toNat=(64-(x.hK+1)).toNat+1:=X;rw[aN,G1];omega
      .have s:b.h6=0:=by
        by_cases v:b.h6=0
        .exact v
        .exact FU ⟨X,.inr (.inl X)⟩ r
       obtain⟨z,k⟩:=u s
       have H:o9 l b.pc<o9 l t.pc:=by
        have:o9 l t.pc=((l.length:Int)-t.pc).toNat:=by unfold o9;rw[z];simp
        rw[this]
        rcases k with k|k
        .unfold o9;split<;>omega
        .unfold o9;rw[U_ k];omega
       refine⟨⟨e,g,by show 0<=x.hK+1;omega,by show x.hK+1+((o9 l b.pc:Nat):Int)<=_;omega,?_⟩,?_⟩
       .exact KO
       .show(64-(x.hK+1)).toNat*(l.length+3)+o9 l b.pc<(64-t.hK).toNat*(l.length+3)+o9 l t.pc
        have aN:(64-(x.hK+1)).toNat=0:=X;rw[aN]
        by_cases E:t.hK=63
        .have:(64-t.hK).toNat=1:=X
         rw[this];omega
        .omega
