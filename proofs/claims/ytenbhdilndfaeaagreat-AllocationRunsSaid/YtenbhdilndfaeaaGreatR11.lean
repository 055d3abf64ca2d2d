import Derived.Test.YtenbhdilndfaeaaGreatR08
import Derived.Test.YtenbhdilndfaeaaGreatR09
set_option maxRecDepth 100000
set_option maxHeartbeats 0
set_option linter.all false
namespace Go.Proofs.YtenbhdilndfaeaaGreat
open Go.RowKit Go.Proofs.Tryz
variable{G:Prop}{l:List In}{c:Cl}{view:List Ob}{d:Dl}{x:XP}{i:In}{p:Int}
def Jx(h:G:=by
 refine⟨V.i3,V.js,?_,?_,(by decide:(0:Int)<=2),(by decide:(2:Int)<=3),λh=>U_ h (by decide:¬(2:Int)=0)⟩
 .show -1<=XP.js _
  rw[V.js];exact hp
 .show XP.js _<=(l.length:Int)
  rw[V.js];exact hl):G:=h
def J2(h:G:=by
 rw[e]at h;simp at h
 have:=hb x.n (by first|exact h.2.1.1|exact h.2.2.1.1|omega)
 refine⟨X,X,?_⟩
 first
  |exact h.2.2.imp id kC
  |exact h.2.2.2.imp id kC):G:=h
def KF(h:G:=by
 have aC:(x.hw+1).toNat=t.hw.toNat+1:=X
 show i6.sm (128*(x.hw+1).toNat) _
 rw[aC];exact⟨R.gs,R.rs,R.ws,R.nw,R.ds,R.hW⟩):G:=h
def KU(h:G:=by
 injection hy with hy;subst hy;have q:=z.mono (show n+6+1<=n+13 by omega);exact MD):G:=h
def Lx(h:G:=by
 injection hs with hs;subst hs;exact⟨rfl,rfl,rfl,rfl,rfl,rfl,rfl,rfl,rfl,rfl,rfl⟩):G:=h
def LB(h:G:=by
 injection hy with hy;subst hy;exact qr.sm.mono (li z) (show n+6+1+5<=n+13 by omega)):G:=h
def LI(h:G:=by
 have q:=p.mono (show n+1+1+1<=n+5 by omega);exact MD):G:=h
def Mx(h:G:=by
 exact⟨av.rs,av.ws,av.nw,av.ds,av.hW⟩):G:=h
def MD(h:G:=by
 exact⟨q.rs,q.ws,q.nw,q.ds,q.hW⟩):G:=h
def i6.sm.mono{n b:Nat}{t:i6}(h:t.sm n)(a:n<=b):t.sm b:=
 ⟨G_ h.gs a,G_ h.rs a,G_ h.ws a,G_ h.nw a,G_ h.ds a,G_ h.hW a⟩
def vB(l:List Cl)(c:Cl):(ka l c).length<=l.length+1:=by
 unfold ka;split
 .simp
 .have:=pY (oN c.id c.f) l
  simp only[K_,Gd,Hb,FJ,Gh];unfold rx;omega
def rM{n:Nat}{t:i6}(h:t.sm n)(c:Cl):(iO t c).sm (n+1):=by
 obtain⟨f,g,j,b,e,a⟩:=h;unfold iO;split
 .exact⟨by simp only;omega,by simp only;omega,by have:=vB t.ws c;simp only;omega,by simp only;omega,by simp only;omega,by simp only;omega⟩
 .exact⟨by simp only;omega,by simp only;omega,by simp only;omega,by simp only[HL];omega,by simp only;omega,by simp only;omega⟩
def qe{n:Nat}{t t':i6}{id f:Int}(h:t.sm n)(a:jO t view id f=some t'):t'.sm (n+2):=by
 unfold jO at a;split at a
 .injection a with a;subst a;exact h.mono X
 .split at a
  .cases a
  .split at a
   .cases a
   .injection a with a;subst a;refine rM (n:=n+1) ?_ _;obtain⟨j,k,m,e,g,b⟩:=h;refine⟨by simp only;omega,?_,by simp only;omega,by simp only;omega,?_,by simp only;omega⟩
    .exact G_ (vB _ _) X
    .have:=List.length_eraseIdx_le t.ds (pu t.ds id f).toNat
     simp only;omega
def yv{n:Nat}{t t':i6}(h:t.sm n)(a:take t d=some t'):t'.sm (n+1):=by
 unfold take at a;obtain⟨g,j,k,e,f,b⟩:=h;split at a
 .cases a
 .split at a
  .injection a with a;subst a
   have:=pY (oh d.id d.f) t.ds
   exact⟨by simp only;omega,by simp only;omega,by simp only;omega,by simp only;omega,by simp only[K_,Gd,Hb,FJ,Gh];unfold rX;omega,by simp only;omega⟩
  .split at a
   .cases a
   .injection a with a;subst a;exact⟨by simp only;omega,by simp only;omega,by simp only;omega,by simp only;omega,by simp only[HL];omega,by simp only;omega⟩
def tI:∀(l:List Dl) (t:i6) (rs ws:List Cl) (n:Nat),t.sm n->(jK t rs ws l).1.sm (n+l.length)/\(jK t rs ws l).2.1.length<=rs.length/\(jK t rs ws l).2.2.length<=ws.length
 |[],_,_,_,_,h=>⟨h,H_ _,H_ _⟩
 |d::l,t,rs,ws,n,h=>by
  unfold jK
  cases e:take t d with
  |none=>
   obtain⟨a,b,c⟩:=tI l t rs ws n h;exact⟨a.mono s_,b,c⟩
  |some j=>
   obtain⟨a,b,c⟩:=tI l j (jB rs d) (jB ws d) (n+1) (yv h e);have f:(jB rs d).length<=rs.length:=F7 _ _;have g:(jB ws d).length<=ws.length:=F7 _ _;exact⟨a.mono p_,G_ b f,G_ c g⟩
def yB{n:Nat}{t t':i6}(h:t.sm n)(a:q9 view t c=some t'):t'.sm (n+2):=by
 unfold q9 at a;split at a
 .injection a with a;subst a;exact h.mono X
 .split at a
  .exact qe h a
  .injection a with a;subst a;obtain⟨g,j,k,e,f,b⟩:=h;exact⟨by simp only;omega,by have:=vB t.rs c;simp only;omega,by simp only;omega,by simp only;omega,by simp only;omega,by simp only;omega⟩
def wm{view:List Ob}:∀(l:List Cl) (t t':i6) (n:Nat),t.sm n->kj view t l=some t'->t'.sm (n+2*l.length)
 |[],t,t',n,h,a=>by injection a with a;subst a;exact h.mono X
 |c::l,t,t',n,h,a=>by
  unfold kj at a
  cases b:q9 view t c with
  |none=>rw[b]at a;cases a
  |some e=>
   rw[b]at a;exact(wm l e t' (n+2) (yB h b) a).mono (by simp only[FJ];omega)
def Cp{n:Nat}{t t':i6}(h:t.sm n)(a:tH view t c=some t'):t'.sm (n+3):=by
 unfold tH at a
 cases b:jO t view c.id c.f with
 |none=>rw[b]at a;cases a
 |some e=>
  rw[b]at a;injection a with a;subst a;exact rM (qe h b) c
def wl{view:List Ob}:∀(l:List Cl) (t t':i6) (n:Nat),t.sm n->kO view t l=some t'->t'.sm (n+3*l.length)
 |[],t,t',n,h,a=>by injection a with a;subst a;exact h.mono X
 |c::l,t,t',n,h,a=>by
  unfold kO at a
  cases b:tH view t c with
  |none=>rw[b]at a;cases a
  |some e=>
   rw[b]at a;exact(wl l e t' (n+3) (Cp h b) a).mono (by simp only[FJ];omega)
structure qr.sm(n:Nat)(e:qr):Prop where
 rs:e.rs.length<=n
 ws:e.ws.length<=n
 nw:e.nw.length<=n
 ds:e.ds.length<=n
 hW:e.hW.length<=n
def qr.sm.mono{n b:Nat}{t:qr}(h:t.sm n)(a:n<=b):t.sm b:=
 ⟨G_ h.rs a,G_ h.ws a,G_ h.nw a,G_ h.ds a,G_ h.hW a⟩
def zo{n k:Nat}{t t':i6}{e:qr}(h:t.sm n)(s:e.sm k)(a:record t view e=some t'):t'.sm (n+8*k):=by
 unfold record at a;obtain⟨A,C,E,F,z⟩:=s;obtain⟨j,D,c⟩:=tI e.ds t e.rs e.ws n h;simp only at a
 cases f:kj view (jK t e.rs e.ws e.ds).1 (jK t e.rs e.ws e.ds).2.1 with
 |none=>rw[f]at a;cases a
 |some b=>
  rw[f]at a;simp only at a;have y:=(wm _ _ _ _ j f).mono (show _<=n+3*k by omega)
  cases g:kO view {b with nw:=b.nw++e.nw} (jK t e.rs e.ws e.ds).2.2 with
  |none=>rw[g]at a;cases a
  |some B=>
   rw[g]at a;injection a with a;subst a
   have m:({b with nw:=b.nw++e.nw}:i6).sm (n+4*k):=by
    obtain⟨u,v,w,q,o,r⟩:=y;exact⟨by simp only;omega,by simp only;omega,by simp only;omega,by simp only[K_];omega,by simp only;omega,by simp only;omega⟩
   obtain⟨u,v,w,q,o,r⟩:=(wl _ _ _ _ m g).mono (show _<=n+7*k by omega);exact⟨by simp only;omega,by simp only;omega,by simp only;omega,by simp only;omega,by simp only;omega,by simp only[K_];omega⟩
def kb{n:Nat}(h:x.e.sm n)(id f:Int):(hJ x id f).1.e.sm (n+1):=by
 unfold hJ;split
 .exact h.mono X
 .split
  .exact h.mono X
  .obtain⟨g,j,k,b,a⟩:=h;exact⟨by simp only[K_,FJ,Gh];omega,by simp only;omega,by simp only;omega,by simp only;omega,by simp only;omega⟩
def kT{n:Nat}(h:x.e.sm n)(id f:Int)(v:Vl):(h4 x id f v).e.sm (n+1):=by
 unfold h4;obtain⟨g,j,k,b,a⟩:=h;exact⟨by simp only;omega,by simp only[K_,FJ,Gh];omega,by simp only;omega,by simp only;omega,by simp only;omega⟩
def l4{n:Nat}(h:x.e.sm n):(hF x).1.e.sm (n+1):=by
 unfold hF;simp only;split
 .exact h.mono X
 .exact kb (x:=iB x) h 1 0
def li{n:Nat}(h:x.e.sm n){v:Vl}:(iX x v).e.sm (n+5):=by
 have b:=l4 h;have a:=kb b (hF x).2.1 2;have p:=kb a (hF x).2.1 0;unfold iX;simp only;split
 .exact b.mono X
 .split
  .exact a.mono X
  .split
   .have q:=(kT (kT a (hF x).2.1 2 default) 1 2 v).mono (show n+1+1+1+1<=n+5 by omega);exact MD
   .split
    .exact LI
    .split
     .exact LI
     .have q:=kT (kT p 1 0 (hJ (hJ (hF x).1 (hF x).2.1 2).1 (hF x).2.1 0).2) 1 2 v;exact MD
def qB{n:Nat}(h:x.e.sm n)(v:Vl)(f:Int):(ih x v f).1.e.sm (n+5):=by
 unfold ih;split
 .exact li h
 .split
  .exact li h
  .split
   .exact h.mono X
   .split
    .exact li h
    .exact h.mono X
def mf{n:Nat}(h:x.e.sm n)(f:Int):(ht x f).1.e.sm (n+6):=by
 have a:=l4 h;unfold ht;simp only;split
 .exact a.mono X
 .split
  .exact(li a).mono X
  .exact a.mono X
def h7{f:Type}{p:Prop}[Decidable p]{a y:f}{b:Option f}{R:f->Prop}(h:(if p then some a else b)=some y)(g:p->R a)(j:¬p->b=some y->R y):R y:=by
 split at h
 .injection h with h;subst h;rename_i e;exact g e
 .rename_i e;exact j e h
def y0{n:Nat}{y:XP}(h:x.e.sm n)(h0:1<=n)(hy:jb x i=some y):y.e.sm (n+5):=by
 have av:x.e.sm (n+5):=h.mono X;unfold jb at hy
 refine h7 (R:=λy=>y.e.sm (n+5)) hy (λ_=>⟨av.rs,av.ws,av.nw,av.ds,av.hW⟩) λ_ hy=>?_
 refine h7 (R:=λy=>y.e.sm (n+5)) hy (λ_=>⟨av.rs,av.ws,av.nw,av.ds,av.hW⟩) λ_ hy=>?_
 refine h7 (R:=λy=>y.e.sm (n+5)) hy (λ_=>⟨av.rs,av.ws,av.nw,av.ds,av.hW⟩) λ_ hy=>?_
 refine h7 (R:=λy=>y.e.sm (n+5)) hy (λ_=>⟨av.rs,av.ws,av.nw,av.ds,av.hW⟩) λ_ hy=>?_
 refine h7 (R:=λy=>y.e.sm (n+5)) hy (λ_=>?_) λ_ hy=>?_
 .split
  .exact li h
  .exact Mx
 refine h7 (R:=λy=>y.e.sm (n+5)) hy (λ_=>⟨av.rs,av.ws,av.nw,av.ds,av.hW⟩) λ_ hy=>?_
 refine h7 (R:=λy=>y.e.sm (n+5)) hy (λ_=>?_) λ_ hy=>?_
 .split
  .exact Mx
  .exact Mx
 refine h7 (R:=λy=>y.e.sm (n+5)) hy (λ_=>⟨av.rs,av.ws,av.nw,av.ds,av.hW⟩) λ_ hy=>?_
 refine h7 (R:=λy=>y.e.sm (n+5)) hy (λ_=>li h) λ_ hy=>?_
 refine h7 (R:=λy=>y.e.sm (n+5)) hy (λ_=>?_) λ_ hy=>by cases hy
 split
 .exact li h
 .exact⟨av.rs,av.ws,av.nw,av.ds,by simp only[FJ,Gh];omega⟩
def Ak{n:Nat}{y:XP}(h:x.e.sm n)(hy:ki x i=some y):y.e.sm (n+13):=by
 have a:=mf h i.n;have z:=kb a (ht x i.n).2.1 (ht x i.n).2.2.1;unfold ki at hy;simp only at hy;split at hy
 .cases hy
 split at hy
 .injection hy with hy;subst hy;exact a.mono (show n+6<=n+13 by omega)
 split at hy
 .injection hy with hy;subst hy;exact qr.sm.mono (kT a _ _ _) (show n+6+1<=n+13 by omega)
 split at hy
 .exact KU
 split at hy
 .split at hy
  .exact LB
  .injection hy with hy;subst hy;have q:=(kT z (ht x i.n).2.1 (ht x i.n).2.2.1 (iz i.b (hJ (ht x i.n).1 (ht x i.n).2.1 (ht x i.n).2.2.1).2 (x.sr i.a.toNat)).1).mono (show n+6+1+1<=n+13 by omega);exact⟨q.rs,q.ws,q.nw,by simp only[FJ,Gh];omega,q.hW⟩
 split at hy
 .exact LB
 .exact KU
def Al{n:Nat}(h:x.e.sm n)(h0:1<=n):(jH x i).e.sm (n+7):=by
 have g:x.e.sm (n+7):=h.mono X;have b:=l4 h;have f:=qB h (x.sr i.b.toNat) i.n;have p:=kb b (hF x).2.1 0;have k:=kb p (hF x).2.1 1;unfold jH;simp only;split
 .split
  .have q:=(kb f (ih x (x.sr i.b.toNat) i.n).2.1 i.n).mono (show n+5+1<=n+7 by omega);exact MD
  .exact f.mono X
 split
 .split
  .exact qr.sm.mono (kT f _ _ _) (show n+5+1<=n+7 by omega)
  .exact f.mono X
 split
 .obtain⟨j,a,r,o,m⟩:=h;exact⟨by simp only[kY];omega,by simp only[kY];omega,by simp only[kY,FJ,Gh];omega,by simp only[kY];omega,by simp only[kY];omega⟩
 split
 .have q:=b.mono (show n+1<=n+6 by omega);have j:({(hF x).1 with e:={(hF x).1.e with nw:=[⟨(hF x).1.nx,[⟨true,(hF x).2.1⟩,⟨false,(hF x).1.js+1⟩,default]++((List.range i.b.toNat).map (hF x).1.sr++List.replicate (i.c-i.b).toNat default)⟩]}}:XP).e.sm (n+6):=⟨q.rs,q.ws,by simp only[FJ,Gh];omega,q.ds,q.hW⟩;have a:=kT j 1 0 ⟨true,(hF x).1.nx⟩;exact⟨a.rs,a.ws,a.nw,a.ds,a.hW⟩
 split
 .split
  .exact b.mono X
  .split
   .have q:=p.mono (show n+1+1<=n+7 by omega);exact MD
   .split
    .have q:=k.mono (show n+1+1+1<=n+7 by omega);exact MD
    .have q:=(kT (kT k 1 0 (hJ (hF x).1 (hF x).2.1 0).2) 1 1 (x.sr i.a.toNat)).mono (show n+1+1+1+1+1<=n+7 by omega);exact MD
 split
 .split
  .exact g
  .have q:=(kb (x:=iB x) h 1 (if i.op=15 then 1 else 2)).mono (show n+1<=n+7 by omega);exact MD
 split
 .exact qr.sm.mono (kT b _ _ _) (show n+1+1<=n+7 by omega)
 .exact g
def sZ(c:List In)(hq g9 pc:Int)(r:Nat->Vl)(h:List Ob)(nx:Int):(j8 c hq g9 pc r h nx).sm 16:=by
 have j:({lP with pc:=pc+1,r:=r}:qr).sm 1:=⟨by simp[lP],by simp[lP],by simp[lP],by simp[lP],by simp[lP]⟩;have e:jl.sm 16:=⟨by simp[jl,lP],by simp[jl,lP],by simp[jl,lP],by simp[jl,lP],by simp[jl,lP]⟩;unfold j8;split
 .exact e
 .simp only;split
  .exact e
  .generalize f:(⟨c,hq,g9,pc,r,h,nx,{lP with pc:=pc+1,r:=r},false⟩:XP)=x
   have a:x.e.sm 1:=by rw[<-f];exact j
   unfold mx;split
   .simp only;split
    .exact a.mono X
    .exact(li (kb (x:=iB x) a _ _)).mono X
   .simp only;split
    .rename_i g b;exact(y0 a X b).mono X
    .split
     .rename_i g b;exact(Ak a b).mono X
     .exact(Al a X).mono X
def ja(c:List In)(hq g9:Int)(d:List Int)(t:i6)(view:List Ob):i6:=
 let e:=j8 c hq g9 t.pc t.r (iu t view) ((t.run+1)*1048576+t.nw.length)
 if e.hS=4 then nu t else
 if e.hS=3 then{t with hT:=1,next:=t.pc+1} else
 match record t view e with
 |none=>nu t
 |some x=>
  if e.hS=2 then{x with pc:=e.pc,r:=e.r,hw:=x.hw+1,hT:=3,hO:=e.hO,v:=e.v}
  else if e.hS=1/\(iS (λz=>z==e.kw) d=true∨64<=x.hw+1∨jm c hq g9 e.pc=true) then{x with pc:=e.pc,r:=e.r,hw:=x.hw+1,hT:=2,next:=e.pc}
  else{x with pc:=e.pc,r:=e.r,hw:=x.hw+1}
structure lU(t t':i6):Prop where
 hG:t'.hG=t.hG
 run:t'.run=t.run
 h8:t'.h8=t.h8
 pc:t'.pc=t.pc
 r:t'.r=t.r
 gs:t'.gs=t.gs
 hT:t'.hT=t.hT
 next:t'.next=t.next
 hO:t'.hO=t.hO
 v:t'.v=t.v
 hw:t'.hw=t.hw
def lU.refl(t:i6):lU t t:=⟨rfl,rfl,rfl,rfl,rfl,rfl,rfl,rfl,rfl,rfl,rfl⟩
def lU.trans{a b c:i6}(h:lU a b)(k:lU b c):lU a c:=
 ⟨k.hG.trans h.hG,k.run.trans h.run,k.h8.trans h.h8,k.pc.trans h.pc,k.r.trans h.r,k.gs.trans h.gs,k.hT.trans h.hT,k.next.trans h.next,k.hO.trans h.hO,k.v.trans h.v,k.hw.trans h.hw⟩
def qS(t:i6)(c:Cl):lU t (iO t c):=by
 unfold iO;split<;>exact⟨rfl,rfl,rfl,rfl,rfl,rfl,rfl,rfl,rfl,rfl,rfl⟩
def qZ{t t':i6}{id f:Int}(a:jO t view id f=some t'):lU t t':=by
 unfold jO at a;split at a
 .injection a with a;subst a;exact lU.refl _
 .split at a
  .cases a
  .split at a
   .cases a
   .injection a with a;subst a;obtain⟨n,e,o,q,j,h,g,k,r,m,b⟩:=qS {t with rs:=ka t.rs ⟨id,f,_⟩,ds:=t.ds.eraseIdx (pu t.ds id f).toNat} ⟨id,f,(h6 (iu t view) id f).getD default⟩;exact⟨n,e,o,q,j,h,g,k,r,m,b⟩
def xC{t t':i6}(hs:take t d=some t'):lU t t':=by
 unfold take at hs;split at hs
 .cases hs
 .split at hs
  .exact Lx
  .split at hs
   .cases hs
   .exact Lx
def pP:∀(l:List Dl) (t:i6) (rs ws:List Cl),lU t (jK t rs ws l).1
 |[],t,_,_=>lU.refl t
 |d::l,t,rs,ws=>by
  unfold jK
  cases a:take t d with
  |none=>exact pP l t rs ws
  |some t'=>exact(xC a).trans (pP l t' _ _)
def sq{view:List Ob}:∀(l:List Cl) (t t':i6),kj view t l=some t'->lU t t'
 |[],t,t',b=>by injection b with b;subst b;exact lU.refl _
 |c::l,t,t',b=>by
  unfold kj at b
  cases a:q9 view t c with
  |none=>rw[a]at b;cases b
  |some e=>
   rw[a]at b;refine lU.trans ?_ (sq l e t' b);unfold q9 at a;split at a
   .injection a with a;subst a;exact lU.refl _
   .split at a
    .exact qZ a
    .injection a with a;subst a;exact⟨rfl,rfl,rfl,rfl,rfl,rfl,rfl,rfl,rfl,rfl,rfl⟩
def sp{view:List Ob}:∀(l:List Cl) (t t':i6),kO view t l=some t'->lU t t'
 |[],t,t',b=>by injection b with b;subst b;exact lU.refl _
 |c::l,t,t',b=>by
  unfold kO at b
  cases a:tH view t c with
  |none=>rw[a]at b;cases b
  |some e=>
   rw[a]at b;refine lU.trans ?_ (sp l e t' b);unfold tH at a
   cases V:jO t view c.id c.f with
   |none=>rw[V]at a;cases a
   |some f=>rw[V]at a;injection a with a;subst a;exact(qZ V).trans (qS _ _)
def kz{t t':i6}{e:qr}(a:record t view e=some t'):lU t t':=by
 unfold record at a;simp only at a
 cases g:kj view (jK t e.rs e.ws e.ds).1 (jK t e.rs e.ws e.ds).2.1 with
 |none=>rw[g]at a;cases a
 |some f=>
  rw[g]at a;simp only at a
  cases h:kO view {f with nw:=f.nw++e.nw} (jK t e.rs e.ws e.ds).2.2 with
  |none=>rw[h]at a;cases a
  |some m=>
   rw[h]at a;injection a with a;subst a;have k:=(pP e.ds t e.rs e.ws).trans (sq _ _ _ g);have j:=k.trans (lU.trans (b:={f with nw:=f.nw++e.nw}) ⟨rfl,rfl,rfl,rfl,rfl,rfl,rfl,rfl,rfl,rfl,rfl⟩ (sp _ _ _ h));exact j.trans ⟨rfl,rfl,rfl,rfl,rfl,rfl,rfl,rfl,rfl,rfl,rfl⟩
structure rD(l:List In)(p:Int)(x:XP):Prop where
 i3:x.i3=l
 js:x.js=p
 lo: -1<=x.e.pc
 hi:x.e.pc<=l.length
 k0:0<=x.e.hS
 k3:x.e.hS<=3
 nx:x.e.hS=0->p<x.e.pc∨iA l x.e.pc=true
structure B1(x y:XP):Prop where
 i3:y.i3=x.i3
 js:y.js=x.js
 pc:y.e.pc=x.e.pc
 hS:y.e.hS=x.e.hS
def B1.refl(x:XP):B1 x x:=⟨rfl,rfl,rfl,rfl⟩
def B1.trans{y a:XP}(h:B1 x y)(k:B1 y a):B1 x a:=⟨k.i3.trans h.i3,k.js.trans h.js,k.pc.trans h.pc,k.hS.trans h.hS⟩
def rD.lm{y:XP}(h:rD l p x)(k:B1 x y):rD l p y:=by
 obtain⟨e,f,c,d,j,m,n⟩:=h;obtain⟨o,g,a,b⟩:=k;exact⟨o.trans e,g.trans f,by rw[a];exact c,by rw[a];exact d,by rw[b];exact j,by rw[b];exact m,by rw[a,b];exact n⟩
def jo(x:XP)(id f:Int):B1 x (hJ x id f).1:=by
 unfold hJ;split
 .exact⟨rfl,rfl,rfl,rfl⟩
 .split<;>exact⟨rfl,rfl,rfl,rfl⟩
def mC{id f:Int}{v:Vl}:B1 x (h4 x id f v):=⟨rfl,rfl,rfl,rfl⟩
def jU(x:XP):B1 x (hF x).1:=by
 unfold hF;simp only;split
 .exact⟨rfl,rfl,rfl,rfl⟩
 .obtain⟨a,b,c,d⟩:=jo (iB x) 1 0;exact⟨a,b,c,d⟩
def rW{n:Int}(h:iA l n=true):0<=n/\n<(l.length:Int):=by
 unfold iA at h;simp only[FP,Gx]at h;exact⟨h.1,h.2.1⟩
def kI(h:rD l p x)(hp: -1<=p)(hl:p<=l.length){v:Vl}:rD l p (iX x v):=by
 have a:=jU x;have d:=a.trans (jo (hF x).1 (hF x).2.1 2);have b:=d.trans (jo (hJ (hF x).1 (hF x).2.1 2).1 (hF x).2.1 0);have hb:=h.lm d;have V:=h.lm b;unfold iX;simp only;split
 .exact h.lm a
 .split
  .exact hb.lm ⟨rfl,rfl,rfl,rfl⟩
  .rename_i hx;split
   .rename_i hn;have MM:iA l (hJ (hF x).1 (hF x).2.1 2).2.n=true:=Ko;have e:=rW MM;exact⟨hb.i3,hb.js,(by omega: -1<=(hJ (hF x).1 (hF x).2.1 2).2.n),(by omega:(hJ (hF x).1 (hF x).2.1 2).2.n<=(l.length:Int)),hb.k0,hb.k3,λ_=>.inr MM⟩
   .split
    .exact V.lm ⟨rfl,rfl,rfl,rfl⟩
    .split
     .exact Jx
     .exact⟨V.i3,V.js,by show(-1:Int)<= -1;omega,by show(-1:Int)<=(l.length:Int);omega,(by decide:(0:Int)<=1),(by decide:(1:Int)<=3),λh=>U_ h (by decide:¬(1:Int)=0)⟩
def vQ(h:rD l p x)(b: -1<=p)(a:p<=l.length)(v:Vl)(f:Int):rD l p (ih x v f).1:=by
 unfold ih;split
 .exact kI h b a
 .split
  .exact kI h b a
  .split
   .exact MG
   .split
    .exact kI h b a
    .exact h
def uo(h:rD l p x)(b: -1<=p)(a:p<=l.length)(f:Int):rD l p (ht x f).1:=by
 unfold ht;simp only;split
 .exact h.lm (jU x)
 .split
  .exact kI (h.lm (jU x)) b a
  .exact h.lm (jU x)
def Goal(l:List In)(p n:Int):Prop:= -1<=n/\n<=l.length/\(p<n∨iA l n=true)
def sR(h:rD l p x){n:Int}(a:Goal l p n):rD l p (sD x n):=
 ⟨h.i3,h.js,a.1,a.2.1,h.k0,h.k3,λ_=>a.2.2⟩
def xm{y:XP}(h:rD l p x)(e: -1<=p)(a:p<=l.length)(f:i.op=11∨i.op=12->Goal l p i.n)(hy:jb x i=some y):rD l p y:=by
 unfold jb at hy
 refine h7 (R:=rD l p) hy (λ_=>h) λ_ hy=>?_
 refine h7 (R:=rD l p) hy (λ_=>h.lm ⟨rfl,rfl,rfl,rfl⟩) λ_ hy=>?_
 refine h7 (R:=rD l p) hy (λ_=>h.lm ⟨rfl,rfl,rfl,rfl⟩) λ_ hy=>?_
 refine h7 (R:=rD l p) hy (λ_=>h.lm ⟨rfl,rfl,rfl,rfl⟩) λ_ hy=>?_
 refine h7 (R:=rD l p) hy (λ_=>?_) λ_ hy=>?_
 .split
  .exact kI h e a
  .exact MG
 refine h7 (R:=rD l p) hy (λb=>sR h (f (.inl b))) λ_ hy=>?_
 refine h7 (R:=rD l p) hy (λb=>?_) λ_ hy=>?_
 .split
  .exact h
  .exact sR h (f (.inr b))
 refine h7 (R:=rD l p) hy (λ_=>⟨h.i3,h.js,h.lo,h.hi,(by decide:(0:Int)<=1),(by decide:(1:Int)<=3),λh=>U_ h (by decide:¬(1:Int)=0)⟩) λ_ hy=>?_
 refine h7 (R:=rD l p) hy (λ_=>kI h e a) λ_ hy=>?_
 refine h7 (R:=rD l p) hy (λ_=>?_) λ_ hy=>by cases hy
 split
 .exact kI h e a
 .exact MG
def yU{y:XP}(h:rD l p x)(b: -1<=p)(a:p<=l.length)(hy:ki x i=some y):rD l p y:=by
 have e:=uo h b a i.n;have z:=e.lm (jo (ht x i.n).1 (ht x i.n).2.1 (ht x i.n).2.2.1);unfold ki at hy;simp only at hy;split at hy
 .cases hy
 split at hy
 .injection hy with hy;subst hy;exact e
 split at hy
 .injection hy with hy;subst hy;exact e.lm (mC)
 split at hy
 .exact Mn
 split at hy
 .split at hy
  .injection hy with hy;subst hy;exact kI z b a
  .exact Mn
 split at hy
 .injection hy with hy;subst hy;exact kI z b a
 .injection hy with hy;subst hy;refine⟨z.i3,z.js,?_,?_,(by decide:(0:Int)<=3),(by decide:(3:Int)<=3),λh=>U_ h (by decide:¬(3:Int)=0)⟩
  .show -1<=XP.js _
   rw[z.js];exact b
  .show XP.js _<=(l.length:Int)
   rw[z.js];exact a
def yX(h:rD l p x)(hp: -1<=p)(hl:p<=l.length)(f:i.op=13->Goal l p i.n):rD l p (jH x i):=by
 have o:=vQ h hp hl (x.sr i.b.toNat) i.n;have a:=jU x;have b:=a.trans (jo (hF x).1 (hF x).2.1 0);have g:=b.trans (jo (hJ (hF x).1 (hF x).2.1 0).1 (hF x).2.1 1);have V:=h.lm b;have hr:=h.lm g;unfold jH;simp only;split
 .exact Me
 split
 .split
  .exact o.lm (mC)
  .exact o
 split
 .exact MG
 split
 .rename_i e;refine sR ?_ (f e);exact(h.lm a).lm ⟨rfl,rfl,rfl,rfl⟩
 split
 .split
  .exact h.lm a
  .split
   .exact Jx
   .split
    .exact hr.lm ⟨rfl,rfl,rfl,rfl⟩
    .rename_i hx;have MM:iA l (hJ (hJ (hF x).1 (hF x).2.1 0).1 (hF x).2.1 1).2.n=true:=JM;have e:=rW MM;refine sR ?_ ⟨X,X,.inr MM⟩;exact⟨hr.i3,hr.js,hr.lo,hr.hi,hr.k0,hr.k3,hr.nx⟩
 split
 .split
  .exact MG
  .have e:=h.lm (y:=iB x) ⟨rfl,rfl,rfl,rfl⟩;have G:=e.lm (jo (iB x) 1 (if i.op=15 then 1 else 2));exact⟨G.i3,G.js,G.lo,G.hi,G.k0,G.k3,G.nx⟩
 split
 .exact(h.lm a).lm (mC)
 .exact h
def kC{n:Int}:h5 l n=21->iA l n=true:=by
 intro a;unfold h5 at a;split at a
 .omega
 .rename_i f;unfold iA;have b:0<=n:=X;have e:n<(l.length:Int):=X;rw[FX b,FX e,a]
  rfl
def zR{k:Nat}(h:kD l k=true)(a:(l.getD k default).op=11∨(l.getD k default).op=12∨(l.getD k default).op=13):Goal l k (l.getD k default).n:=by
 have hb:∀n,0<=h5 l n->0<=n/\n<(l.length:Int):=by
  intro n b;unfold h5 at b;split at b
  .omega
  .omega
 unfold kD jF at h;generalize l.getD k default=x at*
 rcases a with a|a|a
 .rw[a]at h;have e:(iK.getD (11:Int).toNat default).n=6:=rfl;exact J2
 .rw[a]at h;have e:(iK.getD (12:Int).toNat default).n=6:=rfl;exact J2
 .rw[a]at h;have e:(iK.getD (13:Int).toNat default).n=7:=rfl;rw[e]at h;simp at h
  have f:h5 l x.n=21:=by first|exact h.2|exact h.2.2
  have:=hb x.n X
  exact⟨X,X,.inr (kC f)⟩
def oH{hq g9 pc:Int}(r:Nat->Vl)(h:List Ob)(nx:Int)(hv:hY l hq g9=true)(h0: -1<=pc)(z:pc<l.length):
 (j8 l hq g9 pc r h nx).hS=4∨(0<=(j8 l hq g9 pc r h nx).hS/\(j8 l hq g9 pc r h nx).hS<=3/\ -1<=(j8 l hq g9 pc r h nx).pc/\(j8 l hq g9 pc r h nx).pc<=l.length/\
   ((j8 l hq g9 pc r h nx).hS=0->iA l pc=false/\(pc<(j8 l hq g9 pc r h nx).pc∨iA l (j8 l hq g9 pc r h nx).pc=true))):=by
 have v:∀k,k<l.length->kD l k=true:=by
  intro k hk;exact Mh
 unfold j8;rw[I_ (by rw[hv];simp;omega)];simp only;split
 .exact .inl rfl
 .right;generalize w:(⟨l,hq,g9,pc,r,h,nx,{lP with pc:=pc+1,r:=r},false⟩:XP)=x
  have e:rD l pc x:=by rw[<-w];exact⟨rfl,rfl,by show -1<=pc+1;omega,by show pc+1<=(l.length:Int);omega,(by decide:(0:Int)<=0),(by decide:(0:Int)<=3),λ_=>.inl (by show pc<pc+1;omega)⟩
  have f:∀y:XP,rD l pc y->(y.e.hS=0->iA l pc=false)->0<=y.e.hS/\y.e.hS<=3/\ -1<=y.e.pc/\y.e.pc<=l.length/\(y.e.hS=0->iA l pc=false/\(pc<y.e.pc∨iA l y.e.pc=true)):=
   λy g j=>⟨g.k0,g.k3,g.lo,g.hi,λhk=>⟨j hk,g.nx hk⟩⟩
  unfold mx;split
  .rename_i t
   have j:iA l pc=false:=by rw[t];unfold iA;simp
   simp only;split
   .exact f _ (e.lm ⟨rfl,rfl,rfl,rfl⟩) λ_=>j
   .exact f _ (kI ((e.lm (y:=iB x) ⟨rfl,rfl,rfl,rfl⟩).lm (jo _ _ _)) h0 X) λ_=>j
  .rename_i t;have q:x.i3=l:=e.i3;obtain⟨k,rfl⟩:∃k:Nat,pc=k:=⟨pc.toNat,X⟩;have hk:k<l.length:=X;have s:=zR (v k hk)
   have o:iA l (k:Int)=((l.getD k default).op==21):=by unfold iA;simp[hk]
   simp only[q,F0]
   cases a:jb x (l.getD k default)with
   |some y=>
    simp only
    refine f _ (xm e h0 X (λb=>s (b.elim .inl λh=>.inr (.inl h))) a) λn=>?_
    rw[o]
    cases b:((l.getD k default).op==21)with
    |false=>rfl
    |true=>
     exfalso
     have m:(l.getD k default).op=21:=zu b;unfold jb at a;rw[m]at a;simp at a;rw[<-a]at n;exact U_ n (by show ¬(1:Int)=0;decide)
   |none=>
    have n:iA l (k:Int)=false:=by
     rw[o]
     cases b:((l.getD k default).op==21)with
     |false=>rfl
     |true=>
      exfalso
      have m:(l.getD k default).op=21:=zu b;unfold jb at a;rw[m]at a;simp at a
    simp only
    cases u:ki x (l.getD k default)with
    |some y=>exact f _ (yU e h0 X u) λ_=>n
    |none=>exact f _ (yX e h0 X λb=>s (.inr (.inr b))) λ_=>n
def oY(l:List In)(pc:Int):Nat:=if iA l pc=true then 0 else((l.length:Int)-pc).toNat
def ra{pc:Int}(h: -1<=pc):oY l pc<=l.length+1:=by
 unfold oY;split<;>omega
def todo(l:List In)(t:i6):Nat:=(64-t.hw).toNat*(l.length+3)+oY l t.pc
structure Way(l:List In)(t:i6):Prop where
 lo: -1<=t.pc
 hi:t.pc<=l.length
 s0:0<=t.hw
 s1:t.hw+oY l t.pc<=64+(l.length+1)
 sm:t.sm (128*t.hw.toNat)
def rN{hq g9:Int}{d:List Int}{t:i6}(A:hY l hq g9=true)(h:Way l t)(O:t.hT=0):
 (ja l hq g9 d t view).sm (128*(t.hw.toNat+1))/\0<=(ja l hq g9 d t view).hw/\(ja l hq g9 d t view).hw<=t.hw+1/\ -1<=(ja l hq g9 d t view).pc/\(ja l hq g9 d t view).pc<=l.length/\
 ((ja l hq g9 d t view).hT=0->Way l (ja l hq g9 d t view)/\todo l (ja l hq g9 d t view)<todo l t):=by
 obtain⟨f,j,y,H,n⟩:=h;have a:t.sm (128*(t.hw.toNat+1)):=n.mono X;unfold ja;simp only;have z:=sZ l hq g9 t.pc t.r (iu t view) ((t.run+1)*1048576+t.nw.length)
 by_cases C:t.pc<l.length
 case neg=>
  have e:(j8 l hq g9 t.pc t.r (iu t view) ((t.run+1)*1048576+t.nw.length)).hS=4:=by
   unfold j8;rw[O_ (.inr (.inr X))]
   rfl
  rw[O_ e];refine⟨⟨a.gs,a.rs,a.ws,a.nw,a.ds,a.hW⟩,by show 0<=t.hw+1;omega,by show t.hw+1<=_;omega,f,j,λh=>U_ h (by show ¬(4:Int)=0;decide)⟩
 case pos=>
 have m:=oH t.r (iu t view) ((t.run+1)*1048576+t.nw.length) A f C;generalize j8 l hq g9 t.pc t.r (iu t view) ((t.run+1)*1048576+t.nw.length)=b at*;split
 .exact⟨⟨a.gs,a.rs,a.ws,a.nw,a.ds,a.hW⟩,by show 0<=t.hw+1;omega,by show t.hw+1<=_;omega,f,j,λh=>U_ h (by show ¬(4:Int)=0;decide)⟩
 .rename_i r
  rcases m with m|⟨N,K,e,g,v⟩
  .exact U_ m r
  split
  .exact⟨⟨a.gs,a.rs,a.ws,a.nw,a.ds,a.hW⟩,y,by show t.hw<=_;omega,f,j,λh=>U_ h (by show ¬(1:Int)=0;decide)⟩
  .cases o:record t view b with
   |none=>exact⟨⟨a.gs,a.rs,a.ws,a.nw,a.ds,a.hW⟩,by show 0<=t.hw+1;omega,by show t.hw+1<=_;omega,f,j,λh=>U_ h (by show ¬(4:Int)=0;decide)⟩
   |some x=>
    have B:=kz o;have R:=(zo n z o).mono (show _<=128*(t.hw.toNat+1) by omega);simp only;have L:=B.hw;split
    .exact⟨⟨R.gs,R.rs,R.ws,R.nw,R.ds,R.hW⟩,by show 0<=x.hw+1;omega,by show x.hw+1<=_;omega,e,g,λh=>U_ h (by show ¬(3:Int)=0;decide)⟩
    .rename_i M;split
     .exact⟨⟨R.gs,R.rs,R.ws,R.nw,R.ds,R.hW⟩,by show 0<=x.hw+1;omega,by show x.hw+1<=_;omega,e,g,λh=>U_ h (by show ¬(2:Int)=0;decide)⟩
     .rename_i u;refine⟨⟨R.gs,R.rs,R.ws,R.nw,R.ds,R.hW⟩,by show 0<=x.hw+1;omega,by show x.hw+1<=_;omega,e,g,λ_=>?_⟩;have E:=ra (l:=l) e;have D:=ra (l:=l) f
      by_cases J:t.hw+1<64
      .refine⟨⟨e,g,by show 0<=x.hw+1;omega,by show x.hw+1+((oY l b.pc:Nat):Int)<=_;omega,?_⟩,?_⟩
       .exact KF
       .show(64-(x.hw+1)).toNat*(l.length+3)+oY l b.pc<(64-t.hw).toNat*(l.length+3)+oY l t.pc
        have aC:(64-t.hw).toNat=(64-(x.hw+1)).toNat+1:=X;rw[aC,G5];omega
      .have s:b.hS=0:=by
        by_cases w:b.hS=0
        .exact w
        .exact U_ ⟨X,.inr (.inl X)⟩ u
       obtain⟨q,k⟩:=v s
       have F:oY l b.pc<oY l t.pc:=by
        have:oY l t.pc=((l.length:Int)-t.pc).toNat:=by unfold oY;rw[q];simp
        rw[this]
        rcases k with k|k
        .unfold oY;split<;>omega
        .unfold oY;rw[O_ k];omega
       refine⟨⟨e,g,by show 0<=x.hw+1;omega,by show x.hw+1+((oY l b.pc:Nat):Int)<=_;omega,?_⟩,?_⟩
       .exact KF
       .show(64-(x.hw+1)).toNat*(l.length+3)+oY l b.pc<(64-t.hw).toNat*(l.length+3)+oY l t.pc
        have aC:(64-(x.hw+1)).toNat=0:=X;rw[aC]
        by_cases I:t.hw=63
        .have:(64-t.hw).toNat=1:=X
         rw[this];omega
        .omega
