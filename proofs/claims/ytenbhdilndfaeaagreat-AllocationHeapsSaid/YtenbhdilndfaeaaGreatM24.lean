import Derived.Test.YtenbhdilndfaeaaGreatM08
set_option maxRecDepth 100000
set_option maxHeartbeats 0
set_option linter.all false
namespace Go.Proofs.YtenbhdilndfaeaaGreat
open Go.RowKit Go.Proofs.Tryz
variable{G:Prop}{l:List In}{c:Cl}{view:List Ob}{d:Dl}{x:XP}{i:In}{p:Int}
theorem HP(h:G:=by
 refine⟨aq.jd,aq.jN,?_,?_,(by decide:(0:Int)<=2),(by decide:(2:Int)<=3),λh=>D6 h (by decide:¬(2:Int)=0)⟩
 .show -1<=XP.jN _
  rw[aq.jN];exact hp
 .show XP.jN _<=(l.length:Int)
  rw[aq.jN];exact hl):G:=h
theorem If(h:G:=by
 rw[e]at h;simp at h
 have:=hb x.n (by first|exact h.2.1.1|exact h.2.2.1.1|omega)
 refine⟨by omega,by omega,?_⟩
 first
  |exact h.2.2.imp id mA
  |exact h.2.2.2.imp id mA):G:=h
theorem IJ(h:G:=by
 have aP:(x.hw+1).toNat=t.hw.toNat+1:=by omega
 show jg.sm (128*(x.hw+1).toNat) _
 rw[aP];exact⟨R.gs,R.rs,R.ws,R.nw,R.ds,R.hU⟩):G:=h
theorem I3(h:G:=by
 injection hy with hy;subst hy;have q:=z.mono (show n+6+1<=n+13 by omega);exact Ko):G:=h
theorem JF(h:G:=by
 injection hy with hy;subst hy;exact pQ.sm.mono (kR z _) (show n+6+1+5<=n+13 by omega)):G:=h
theorem JG(h:G:=by
 injection hs with hs;subst hs;exact⟨rfl,rfl,rfl,rfl,rfl,rfl,rfl,rfl,rfl,rfl,rfl⟩):G:=h
theorem JO(h:G:=by
 have q:=p.mono (show n+1+1+1<=n+5 by omega);exact Ko):G:=h
theorem Kl(h:G:=by
 exact⟨ax.rs,ax.ws,ax.nw,ax.ds,ax.hU⟩):G:=h
theorem Ko(h:G:=by
 exact⟨q.rs,q.ws,q.nw,q.ds,q.hU⟩):G:=h
theorem Kr(h:G:=by
 exact h.oZ ⟨rfl,rfl,rfl,rfl⟩):G:=h
theorem jg.sm.mono{n m:Nat}{t:jg}(h:t.sm n)(Y:n<=m):t.sm m:=
 ⟨F_ h.gs Y,F_ h.rs Y,F_ h.ws Y,F_ h.nw Y,F_ h.ds Y,F_ h.hU Y⟩
theorem uy(l:List Cl)(c:Cl):(kk l c).length<=l.length+1:=by
 unfold kk;split
 .simp
 .have:=pi (om c.id c.f) l
  simp only[H_,Ey,Fd,D3,EB];unfold s6;omega
theorem qX{n:Nat}{t:jg}(h:t.sm n)(c:Cl):(ki t c).sm (n+1):=by
 obtain⟨h1,h2,h3,aw,ax,aY⟩:=h;unfold ki;split
 .exact⟨by simp only;omega,by simp only;omega,by have:=uy t.ws c;simp only;omega,by simp only;omega,by simp only;omega,by simp only;omega⟩
 .exact⟨by simp only;omega,by simp only;omega,by simp only;omega,by simp only[FW];omega,by simp only;omega,by simp only;omega⟩
theorem pz{n:Nat}{t t':jg}{id f:Int}(h:t.sm n)(hs:jV t view id f=some t'):t'.sm (n+2):=by
 unfold jV at hs;split at hs
 .injection hs with hs;subst hs;exact h.mono o_
 .split at hs
  .cases hs
  .split at hs
   .cases hs
   .injection hs with hs;subst hs;refine qX (n:=n+1) ?_ _;obtain⟨h1,h2,h3,aw,ax,aY⟩:=h;refine⟨by simp only;omega,?_,by simp only;omega,by simp only;omega,?_,by simp only;omega⟩
    .exact F_ (uy _ _) o_
    .have:=List.length_eraseIdx_le t.ds (oT t.ds id f).toNat
     simp only;omega
theorem w8{n:Nat}{t t':jg}(h:t.sm n)(hs:take t d=some t'):t'.sm (n+1):=by
 unfold take at hs;obtain⟨h1,h2,h3,aw,ax,aY⟩:=h;split at hs
 .cases hs
 .split at hs
  .injection hs with hs;subst hs
   have:=pi (nO d.id d.f) t.ds
   exact⟨by simp only;omega,by simp only;omega,by simp only;omega,by simp only;omega,by simp only[H_,Ey,Fd,D3,EB];unfold rc;omega,by simp only;omega⟩
  .split at hs
   .cases hs
   .injection hs with hs;subst hs;exact⟨by simp only;omega,by simp only;omega,by simp only;omega,by simp only;omega,by simp only[FW];omega,by simp only;omega⟩
theorem sI:∀(l:List Dl) (t:jg) (rs ws:List Cl) (n:Nat),t.sm n->(jK t rs ws l).1.sm (n+l.length)/\(jK t rs ws l).2.1.length<=rs.length/\(jK t rs ws l).2.2.length<=ws.length
 |[],_,_,_,_,h=>⟨h,G_ _,G_ _⟩
 |d::l,t,rs,ws,n,h=>by
  unfold jK
  cases X:take t d with
  |none=>
   obtain⟨a,b,c⟩:=sI l t rs ws n h;exact⟨a.mono s_,b,c⟩
  |some t'=>
   obtain⟨a,b,c⟩:=sI l t' (jv rs d) (jv ws d) (n+1) (w8 h X);have h1:(jv rs d).length<=rs.length:=Em _ _;have h2:(jv ws d).length<=ws.length:=Em _ _;exact⟨a.mono p_,F_ b h1,F_ c h2⟩
theorem xf{n:Nat}{t t':jg}(h:t.sm n)(hs:q5 view t c=some t'):t'.sm (n+2):=by
 unfold q5 at hs;split at hs
 .injection hs with hs;subst hs;exact h.mono o_
 .split at hs
  .exact pz h hs
  .injection hs with hs;subst hs;obtain⟨h1,h2,h3,aw,ax,aY⟩:=h;exact⟨by simp only;omega,by have:=uy t.rs c;simp only;omega,by simp only;omega,by simp only;omega,by simp only;omega,by simp only;omega⟩
theorem u5{view:List Ob}:∀(l:List Cl) (t t':jg) (n:Nat),t.sm n->kg view t l=some t'->t'.sm (n+2*l.length)
 |[],t,t',n,h,hs=>by injection hs with hs;subst hs;exact h.mono o_
 |c::l,t,t',n,h,hs=>by
  unfold kg at hs
  cases hr:q5 view t c with
  |none=>rw[hr]at hs;cases hs
  |some t1=>
   rw[hr]at hs;exact(u5 l t1 t' (n+2) (xf h hr) hs).mono (by simp only[D3];omega)
theorem AX{n:Nat}{t t':jg}(h:t.sm n)(hs:tw view t c=some t'):t'.sm (n+3):=by
 unfold tw at hs
 cases hr:jV t view c.id c.f with
 |none=>rw[hr]at hs;cases hs
 |some t1=>
  rw[hr]at hs;injection hs with hs;subst hs;exact qX (pz h hr) c
theorem u4{view:List Ob}:∀(l:List Cl) (t t':jg) (n:Nat),t.sm n->kP view t l=some t'->t'.sm (n+3*l.length)
 |[],t,t',n,h,hs=>by injection hs with hs;subst hs;exact h.mono o_
 |c::l,t,t',n,h,hs=>by
  unfold kP at hs
  cases hr:tw view t c with
  |none=>rw[hr]at hs;cases hs
  |some t1=>
   rw[hr]at hs;exact(u4 l t1 t' (n+3) (AX h hr) hs).mono (by simp only[D3];omega)
structure pQ.sm(n:Nat)(e:pQ):Prop where
 rs:e.rs.length<=n
 ws:e.ws.length<=n
 nw:e.nw.length<=n
 ds:e.ds.length<=n
 hU:e.hU.length<=n
theorem pQ.sm.mono{n m:Nat}{t:pQ}(h:t.sm n)(Y:n<=m):t.sm m:=
 ⟨F_ h.rs Y,F_ h.ws Y,F_ h.nw Y,F_ h.ds Y,F_ h.hU Y⟩
theorem x4{n k:Nat}{t t':jg}{e:pQ}(h:t.sm n)(he:e.sm k)(hs:record t view e=some t'):t'.sm (n+8*k):=by
 unfold record at hs;obtain⟨aP,aL,bN,bY,a6⟩:=he;obtain⟨a,b,c⟩:=sI e.ds t e.rs e.ws n h;simp only at hs
 cases h1:kg view (jK t e.rs e.ws e.ds).1 (jK t e.rs e.ws e.ds).2.1 with
 |none=>rw[h1]at hs;cases hs
 |some t1=>
  rw[h1]at hs;simp only at hs;have s1:=(u5 _ _ _ _ a h1).mono (show _<=n+3*k by omega)
  cases h2:kP view {t1 with nw:=t1.nw++e.nw} (jK t e.rs e.ws e.ds).2.2 with
  |none=>rw[h2]at hs;cases hs
  |some ak=>
   rw[h2]at hs;injection hs with hs;subst hs
   have b6:({t1 with nw:=t1.nw++e.nw}:jg).sm (n+4*k):=by
    obtain⟨bp,bI,bP,c6,da,d0⟩:=s1;exact⟨by simp only;omega,by simp only;omega,by simp only;omega,by simp only[H_];omega,by simp only;omega,by simp only;omega⟩
   obtain⟨bp,bI,bP,c6,da,d0⟩:=(u4 _ _ _ _ b6 h2).mono (show _<=n+7*k by omega);exact⟨by simp only;omega,by simp only;omega,by simp only;omega,by simp only;omega,by simp only;omega,by simp only[H_];omega⟩
theorem j6{n:Nat}(h:x.e.sm n)(id f:Int):(hM x id f).1.e.sm (n+1):=by
 unfold hM;split
 .exact h.mono o_
 .split
  .exact h.mono o_
  .obtain⟨bp,bI,bP,c6,da⟩:=h;exact⟨by simp only[H_,D3,EB];omega,by simp only;omega,by simp only;omega,by simp only;omega,by simp only;omega⟩
theorem kz{n:Nat}(h:x.e.sm n)(id f:Int)(v:Vl):(hY x id f v).e.sm (n+1):=by
 unfold hY;obtain⟨bp,bI,bP,c6,da⟩:=h;exact⟨by simp only;omega,by simp only[H_,D3,EB];omega,by simp only;omega,by simp only;omega,by simp only;omega⟩
theorem lK{n:Nat}(h:x.e.sm n):(hK x).1.e.sm (n+1):=by
 unfold hK;simp only;split
 .exact h.mono o_
 .exact j6 (x:=iA x) h 1 0
theorem kR{n:Nat}(h:x.e.sm n)(v:Vl):(jc x v).e.sm (n+5):=by
 have a:=lK h;have b:=j6 a (hK x).2.1 2;have p:=j6 b (hK x).2.1 0;unfold jc;simp only;split
 .exact a.mono o_
 .split
  .exact b.mono o_
  .split
   .have q:=(kz (kz b (hK x).2.1 2 default) 1 2 v).mono (show n+1+1+1+1<=n+5 by omega);exact Ko
   .split
    .exact JO
    .split
     .exact JO
     .have q:=kz (kz p 1 0 (hM (hM (hK x).1 (hK x).2.1 2).1 (hK x).2.1 0).2) 1 2 v;exact Ko
theorem pS{n:Nat}(h:x.e.sm n)(v:Vl)(f:Int):(ik x v f).1.e.sm (n+5):=by
 unfold ik;split
 .exact kR h _
 .split
  .exact kR h _
  .split
   .exact h.mono o_
   .split
    .exact kR h _
    .exact h.mono o_
theorem lP{n:Nat}(h:x.e.sm n)(f:Int):(ht x f).1.e.sm (n+6):=by
 have a:=lK h;unfold ht;simp only;split
 .exact a.mono o_
 .split
  .exact(kR a _).mono o_
  .exact a.mono o_
theorem iC{α:Type}{p:Prop}[Decidable p]{a y:α}{b:Option α}{R:α->Prop}(h:(if p then some a else b)=some y)(h1:p->R a)(h2:¬p->b=some y->R y):R y:=by
 split at h
 .injection h with h;subst h;rename_i hp;exact h1 hp
 .rename_i hp;exact h2 hp h
theorem xG{n:Nat}{y:XP}(h:x.e.sm n)(h0:1<=n)(hy:jS x i=some y):y.e.sm (n+5):=by
 have ax:x.e.sm (n+5):=h.mono o_;unfold jS at hy
 refine iC (R:=λy=>y.e.sm (n+5)) hy (λ_=>⟨ax.rs,ax.ws,ax.nw,ax.ds,ax.hU⟩) λ_ hy=>?_
 refine iC (R:=λy=>y.e.sm (n+5)) hy (λ_=>⟨ax.rs,ax.ws,ax.nw,ax.ds,ax.hU⟩) λ_ hy=>?_
 refine iC (R:=λy=>y.e.sm (n+5)) hy (λ_=>⟨ax.rs,ax.ws,ax.nw,ax.ds,ax.hU⟩) λ_ hy=>?_
 refine iC (R:=λy=>y.e.sm (n+5)) hy (λ_=>⟨ax.rs,ax.ws,ax.nw,ax.ds,ax.hU⟩) λ_ hy=>?_
 refine iC (R:=λy=>y.e.sm (n+5)) hy (λ_=>?_) λ_ hy=>?_
 .split
  .exact kR h _
  .exact Kl
 refine iC (R:=λy=>y.e.sm (n+5)) hy (λ_=>⟨ax.rs,ax.ws,ax.nw,ax.ds,ax.hU⟩) λ_ hy=>?_
 refine iC (R:=λy=>y.e.sm (n+5)) hy (λ_=>?_) λ_ hy=>?_
 .split
  .exact Kl
  .exact Kl
 refine iC (R:=λy=>y.e.sm (n+5)) hy (λ_=>⟨ax.rs,ax.ws,ax.nw,ax.ds,ax.hU⟩) λ_ hy=>?_
 refine iC (R:=λy=>y.e.sm (n+5)) hy (λ_=>kR h _) λ_ hy=>?_
 refine iC (R:=λy=>y.e.sm (n+5)) hy (λ_=>?_) λ_ hy=>by cases hy
 split
 .exact kR h _
 .exact⟨ax.rs,ax.ws,ax.nw,ax.ds,by simp only[D3,EB];omega⟩
theorem yS{n:Nat}{y:XP}(h:x.e.sm n)(hy:kN x i=some y):y.e.sm (n+13):=by
 have a:=lP h i.n;have z:=j6 a (ht x i.n).2.1 (ht x i.n).2.2.1;unfold kN at hy;simp only at hy;split at hy
 .cases hy
 split at hy
 .injection hy with hy;subst hy;exact a.mono (show n+6<=n+13 by omega)
 split at hy
 .injection hy with hy;subst hy;exact pQ.sm.mono (kz a _ _ _) (show n+6+1<=n+13 by omega)
 split at hy
 .exact I3
 split at hy
 .split at hy
  .exact JF
  .injection hy with hy;subst hy;have q:=(kz z (ht x i.n).2.1 (ht x i.n).2.2.1 (iy i.b (hM (ht x i.n).1 (ht x i.n).2.1 (ht x i.n).2.2.1).2 (x.sr i.a.toNat)).1).mono (show n+6+1+1<=n+13 by omega);exact⟨q.rs,q.ws,q.nw,by simp only[D3,EB];omega,q.hU⟩
 split at hy
 .exact JF
 .exact I3
theorem yT{n:Nat}(i:In)(h:x.e.sm n)(h0:1<=n):(j5 x i).e.sm (n+7):=by
 have bA:x.e.sm (n+7):=h.mono o_;have a:=lK h;have o:=pS h (x.sr i.b.toNat) i.n;have p:=j6 a (hK x).2.1 0;have r:=j6 p (hK x).2.1 1;unfold j5;simp only;split
 .split
  .have q:=(j6 o (ik x (x.sr i.b.toNat) i.n).2.1 i.n).mono (show n+5+1<=n+7 by omega);exact Ko
  .exact o.mono o_
 split
 .split
  .exact pQ.sm.mono (kz o _ _ _) (show n+5+1<=n+7 by omega)
  .exact o.mono o_
 split
 .obtain⟨bp,bI,bP,c6,da⟩:=h;exact⟨by simp only[kL];omega,by simp only[kL];omega,by simp only[kL,D3,EB];omega,by simp only[kL];omega,by simp only[kL];omega⟩
 split
 .have q:=a.mono (show n+1<=n+6 by omega);have bp:({(hK x).1 with e:={(hK x).1.e with nw:=[⟨(hK x).1.nx,[⟨true,(hK x).2.1⟩,⟨false,(hK x).1.jN+1⟩,default]++((List.range i.b.toNat).map (hK x).1.sr++List.replicate (i.c-i.b).toNat default)⟩]}}:XP).e.sm (n+6):=⟨q.rs,q.ws,by simp only[D3,EB];omega,q.ds,q.hU⟩;have bI:=kz bp 1 0 ⟨true,(hK x).1.nx⟩;exact⟨bI.rs,bI.ws,bI.nw,bI.ds,bI.hU⟩
 split
 .split
  .exact a.mono o_
  .split
   .have q:=p.mono (show n+1+1<=n+7 by omega);exact Ko
   .split
    .have q:=r.mono (show n+1+1+1<=n+7 by omega);exact Ko
    .have q:=(kz (kz r 1 0 (hM (hK x).1 (hK x).2.1 0).2) 1 1 (x.sr i.a.toNat)).mono (show n+1+1+1+1+1<=n+7 by omega);exact Ko
 split
 .split
  .exact bA
  .have q:=(j6 (x:=iA x) h 1 (if i.op=15 then 1 else 2)).mono (show n+1<=n+7 by omega);exact Ko
 split
 .exact pQ.sm.mono (kz a _ _ _) (show n+1+1<=n+7 by omega)
 .exact bA
theorem r0(c:List In)(hq g9 pc:Int)(r:Nat->Vl)(h:List Ob)(nx:Int):(lE c hq g9 pc r h nx).sm 16:=by
 have z:({mt with pc:=pc+1,r:=r}:pQ).sm 1:=⟨by simp[mt],by simp[mt],by simp[mt],by simp[mt],by simp[mt]⟩;have a:i7.sm 16:=⟨by simp[i7,mt],by simp[i7,mt],by simp[i7,mt],by simp[i7,mt],by simp[i7,mt]⟩;unfold lE;split
 .exact a
 .simp only;split
  .exact a
  .generalize I:(⟨c,hq,g9,pc,r,h,nx,{mt with pc:=pc+1,r:=r},false⟩:XP)=x
   have cA:x.e.sm 1:=by rw[<-I];exact z
   unfold qb;split
   .simp only;split
    .exact cA.mono o_
    .exact(kR (j6 (x:=iA x) cA _ _) _).mono o_
   .simp only;split
    .rename_i y hy;exact(xG cA o_ hy).mono o_
    .split
     .rename_i y hy;exact(yS cA hy).mono o_
     .exact(yT _ cA o_).mono o_
def jh(c:List In)(hq g9:Int)(d:List Int)(t:jg)(view:List Ob):jg:=
 let e:=lE c hq g9 t.pc t.r (jk t view) ((t.run+1)*1048576+t.nw.length)
 if e.hT=4 then mV t else
 if e.hT=3 then{t with hV:=1,next:=t.pc+1} else
 match record t view e with
 |none=>mV t
 |some x=>
  if e.hT=2 then{x with pc:=e.pc,r:=e.r,hw:=x.hw+1,hV:=3,hO:=e.hO,v:=e.v}
  else if e.hT=1/\(iN (λz=>z==e.kl) d=true∨64<=x.hw+1∨jm c hq g9 e.pc=true) then{x with pc:=e.pc,r:=e.r,hw:=x.hw+1,hV:=2,next:=e.pc}
  else{x with pc:=e.pc,r:=e.r,hw:=x.hw+1}
structure lz(t t':jg):Prop where
 hG:t'.hG=t.hG
 run:t'.run=t.run
 ia:t'.ia=t.ia
 pc:t'.pc=t.pc
 r:t'.r=t.r
 gs:t'.gs=t.gs
 hV:t'.hV=t.hV
 next:t'.next=t.next
 hO:t'.hO=t.hO
 v:t'.v=t.v
 hw:t'.hw=t.hw
theorem lz.refl(t:jg):lz t t:=⟨rfl,rfl,rfl,rfl,rfl,rfl,rfl,rfl,rfl,rfl,rfl⟩
theorem lz.trans{a b c:jg}(h:lz a b)(k:lz b c):lz a c:=
 ⟨k.hG.trans h.hG,k.run.trans h.run,k.ia.trans h.ia,k.pc.trans h.pc,k.r.trans h.r,k.gs.trans h.gs,k.hV.trans h.hV,k.next.trans h.next,k.hO.trans h.hO,k.v.trans h.v,k.hw.trans h.hw⟩
theorem qh(t:jg)(c:Cl):lz t (ki t c):=by
 unfold ki;split<;>exact⟨rfl,rfl,rfl,rfl,rfl,rfl,rfl,rfl,rfl,rfl,rfl⟩
theorem qo{t t':jg}{id f:Int}(hs:jV t view id f=some t'):lz t t':=by
 unfold jV at hs;split at hs
 .injection hs with hs;subst hs;exact lz.refl _
 .split at hs
  .cases hs
  .split at hs
   .cases hs
   .injection hs with hs;subst hs;obtain⟨bO,bl,k3,dO,dH,dI,bg,eD,A,fi,a⟩:=qh {t with rs:=kk t.rs ⟨id,f,_⟩,ds:=t.ds.eraseIdx (oT t.ds id f).toNat} ⟨id,f,(ji (jk t view) id f).getD default⟩;exact⟨bO,bl,k3,dO,dH,dI,bg,eD,A,fi,a⟩
theorem wb{t t':jg}(hs:take t d=some t'):lz t t':=by
 unfold take at hs;split at hs
 .cases hs
 .split at hs
  .exact JG
  .split at hs
   .cases hs
   .exact JG
theorem o9:∀(l:List Dl) (t:jg) (rs ws:List Cl),lz t (jK t rs ws l).1
 |[],t,_,_=>lz.refl t
 |d::l,t,rs,ws=>by
  unfold jK
  cases X:take t d with
  |none=>exact o9 l t rs ws
  |some t'=>exact(wb X).trans (o9 l t' _ _)
theorem ry{view:List Ob}:∀(l:List Cl) (t t':jg),kg view t l=some t'->lz t t'
 |[],t,t',hs=>by injection hs with hs;subst hs;exact lz.refl _
 |c::l,t,t',hs=>by
  unfold kg at hs
  cases hr:q5 view t c with
  |none=>rw[hr]at hs;cases hs
  |some t1=>
   rw[hr]at hs;refine lz.trans ?_ (ry l t1 t' hs);unfold q5 at hr;split at hr
   .injection hr with hr;subst hr;exact lz.refl _
   .split at hr
    .exact qo hr
    .injection hr with hr;subst hr;exact⟨rfl,rfl,rfl,rfl,rfl,rfl,rfl,rfl,rfl,rfl,rfl⟩
theorem rx{view:List Ob}:∀(l:List Cl) (t t':jg),kP view t l=some t'->lz t t'
 |[],t,t',hs=>by injection hs with hs;subst hs;exact lz.refl _
 |c::l,t,t',hs=>by
  unfold kP at hs
  cases hr:tw view t c with
  |none=>rw[hr]at hs;cases hs
  |some t1=>
   rw[hr]at hs;refine lz.trans ?_ (rx l t1 t' hs);unfold tw at hr
   cases aq:jV t view c.id c.f with
   |none=>rw[aq]at hr;cases hr
   |some ak=>rw[aq]at hr;injection hr with hr;subst hr;exact(qo aq).trans (qh _ _)
theorem ll{t t':jg}{e:pQ}(hs:record t view e=some t'):lz t t':=by
 unfold record at hs;simp only at hs
 cases h1:kg view (jK t e.rs e.ws e.ds).1 (jK t e.rs e.ws e.ds).2.1 with
 |none=>rw[h1]at hs;cases hs
 |some t1=>
  rw[h1]at hs;simp only at hs
  cases h2:kP view {t1 with nw:=t1.nw++e.nw} (jK t e.rs e.ws e.ds).2.2 with
  |none=>rw[h2]at hs;cases hs
  |some ak=>
   rw[h2]at hs;injection hs with hs;subst hs;have bO:=(o9 e.ds t e.rs e.ws).trans (ry _ _ _ h1);have bl:=bO.trans (lz.trans (b:={t1 with nw:=t1.nw++e.nw}) ⟨rfl,rfl,rfl,rfl,rfl,rfl,rfl,rfl,rfl,rfl,rfl⟩ (rx _ _ _ h2));exact bl.trans ⟨rfl,rfl,rfl,rfl,rfl,rfl,rfl,rfl,rfl,rfl,rfl⟩
structure qO(l:List In)(p:Int)(x:XP):Prop where
 jd:x.jd=l
 jN:x.jN=p
 lo: -1<=x.e.pc
 hi:x.e.pc<=l.length
 k0:0<=x.e.hT
 k3:x.e.hT<=3
 nx:x.e.hT=0->p<x.e.pc∨iX l x.e.pc=true
structure Av(x y:XP):Prop where
 jd:y.jd=x.jd
 jN:y.jN=x.jN
 pc:y.e.pc=x.e.pc
 hT:y.e.hT=x.e.hT
theorem Av.refl(x:XP):Av x x:=⟨rfl,rfl,rfl,rfl⟩
theorem Av.trans{y z:XP}(h:Av x y)(k:Av y z):Av x z:=⟨k.jd.trans h.jd,k.jN.trans h.jN,k.pc.trans h.pc,k.hT.trans h.hT⟩
theorem qO.oZ{y:XP}(h:qO l p x)(k:Av x y):qO l p y:=by
 obtain⟨a,b,c,d,e,f,g⟩:=h;obtain⟨bO,bl,k3,dO⟩:=k;exact⟨bO.trans a,bl.trans b,by rw[k3];exact c,by rw[k3];exact d,by rw[dO];exact e,by rw[dO];exact f,by rw[k3,dO];exact g⟩
theorem lb(x:XP)(id f:Int):Av x (hM x id f).1:=by
 unfold hM;split
 .exact⟨rfl,rfl,rfl,rfl⟩
 .split<;>exact⟨rfl,rfl,rfl,rfl⟩
theorem pR(x:XP)(id f:Int)(v:Vl):Av x (hY x id f v):=⟨rfl,rfl,rfl,rfl⟩
theorem m7(x:XP):Av x (hK x).1:=by
 unfold hK;simp only;split
 .exact⟨rfl,rfl,rfl,rfl⟩
 .obtain⟨a,b,c,d⟩:=lb (iA x) 1 0;exact⟨a,b,c,d⟩
theorem tY{n:Int}(h:iX l n=true):0<=n/\n<(l.length:Int):=by
 unfold iX at h;simp only[Ec,EP]at h;exact⟨h.1,h.2.1⟩
theorem kt(h:qO l p x)(hp: -1<=p)(hl:p<=l.length)(v:Vl):qO l p (jc x v):=by
 have E:=m7 x;have d:=E.trans (lb (hK x).1 (hK x).2.1 2);have kp:=d.trans (lb (hM (hK x).1 (hK x).2.1 2).1 (hK x).2.1 0);have hb:=h.oZ d;have aq:=h.oZ kp;unfold jc;simp only;split
 .exact h.oZ E
 .split
  .exact hb.oZ ⟨rfl,rfl,rfl,rfl⟩
  .rename_i I;split
   .rename_i hn
    have Y:iX l (hM (hK x).1 (hK x).2.1 2).2.n=true:=by
     rw[<-hb.jd]
     cases Y:iX (hM (hK x).1 (hK x).2.1 2).1.jd (hM (hK x).1 (hK x).2.1 2).2.n with
     |true=>rfl
     |false=>exact D6 (Or.inr ⟨hn,Y⟩) I
    have J:=tY Y;exact⟨hb.jd,hb.jN,(by omega: -1<=(hM (hK x).1 (hK x).2.1 2).2.n),(by omega:(hM (hK x).1 (hK x).2.1 2).2.n<=(l.length:Int)),hb.k0,hb.k3,λ_=>.inr Y⟩
   .split
    .exact aq.oZ ⟨rfl,rfl,rfl,rfl⟩
    .split
     .exact HP
     .exact⟨aq.jd,aq.jN,by show(-1:Int)<= -1;omega,by show(-1:Int)<=(l.length:Int);omega,(by decide:(0:Int)<=1),(by decide:(1:Int)<=3),λh=>D6 h (by decide:¬(1:Int)=0)⟩
theorem uN(h:qO l p x)(hp: -1<=p)(hl:p<=l.length)(v:Vl)(f:Int):qO l p (ik x v f).1:=by
 unfold ik;split
 .exact kt h hp hl _
 .split
  .exact kt h hp hl _
  .split
   .exact Kr
   .split
    .exact kt h hp hl _
    .exact h
theorem tp(h:qO l p x)(hp: -1<=p)(hl:p<=l.length)(f:Int):qO l p (ht x f).1:=by
 unfold ht;simp only;split
 .exact h.oZ (m7 x)
 .split
  .exact kt (h.oZ (m7 x)) hp hl _
  .exact h.oZ (m7 x)
def Goal(l:List In)(p n:Int):Prop:= -1<=n/\n<=l.length/\(p<n∨iX l n=true)
theorem rS(h:qO l p x){n:Int}(hn:Goal l p n):qO l p (ti x n):=
 ⟨h.jd,h.jN,hn.1,hn.2.1,h.k0,h.k3,λ_=>hn.2.2⟩
theorem vV{y:XP}(h:qO l p x)(hp: -1<=p)(hl:p<=l.length)(hj:i.op=11∨i.op=12->Goal l p i.n)(hy:jS x i=some y):qO l p y:=by
 unfold jS at hy
 refine iC (R:=qO l p) hy (λ_=>h) λ_ hy=>?_
 refine iC (R:=qO l p) hy (λ_=>h.oZ ⟨rfl,rfl,rfl,rfl⟩) λ_ hy=>?_
 refine iC (R:=qO l p) hy (λ_=>h.oZ ⟨rfl,rfl,rfl,rfl⟩) λ_ hy=>?_
 refine iC (R:=qO l p) hy (λ_=>h.oZ ⟨rfl,rfl,rfl,rfl⟩) λ_ hy=>?_
 refine iC (R:=qO l p) hy (λ_=>?_) λ_ hy=>?_
 .split
  .exact kt h hp hl _
  .exact Kr
 refine iC (R:=qO l p) hy (λho=>rS h (hj (.inl ho))) λ_ hy=>?_
 refine iC (R:=qO l p) hy (λho=>?_) λ_ hy=>?_
 .split
  .exact h
  .exact rS h (hj (.inr ho))
 refine iC (R:=qO l p) hy (λ_=>⟨h.jd,h.jN,h.lo,h.hi,(by decide:(0:Int)<=1),(by decide:(1:Int)<=3),λh=>D6 h (by decide:¬(1:Int)=0)⟩) λ_ hy=>?_
 refine iC (R:=qO l p) hy (λ_=>kt h hp hl _) λ_ hy=>?_
 refine iC (R:=qO l p) hy (λ_=>?_) λ_ hy=>by cases hy
 split
 .exact kt h hp hl _
 .exact Kr
theorem xC{y:XP}(h:qO l p x)(hp: -1<=p)(hl:p<=l.length)(hy:kN x i=some y):qO l p y:=by
 have a:=tp h hp hl i.n;have z:=a.oZ (lb (ht x i.n).1 (ht x i.n).2.1 (ht x i.n).2.2.1);unfold kN at hy;simp only at hy;split at hy
 .cases hy
 split at hy
 .injection hy with hy;subst hy;exact a
 split at hy
 .injection hy with hy;subst hy;exact a.oZ (pR _ _ _ _)
 split at hy
 .injection hy with hy;subst hy;exact z.oZ ⟨rfl,rfl,rfl,rfl⟩
 split at hy
 .split at hy
  .injection hy with hy;subst hy;exact kt z hp hl _
  .injection hy with hy;subst hy;exact z.oZ ⟨rfl,rfl,rfl,rfl⟩
 split at hy
 .injection hy with hy;subst hy;exact kt z hp hl _
 .injection hy with hy;subst hy;refine⟨z.jd,z.jN,?_,?_,(by decide:(0:Int)<=3),(by decide:(3:Int)<=3),λh=>D6 h (by decide:¬(3:Int)=0)⟩
  .show -1<=XP.jN _
   rw[z.jN];exact hp
  .show XP.jN _<=(l.length:Int)
   rw[z.jN];exact hl
theorem xE(h:qO l p x)(hp: -1<=p)(hl:p<=l.length)(hj:i.op=13->Goal l p i.n):qO l p (j5 x i):=by
 have o:=uN h hp hl (x.sr i.b.toNat) i.n;have E:=m7 x;have kp:=E.trans (lb (hK x).1 (hK x).2.1 0);have kr:=kp.trans (lb (hM (hK x).1 (hK x).2.1 0).1 (hK x).2.1 1);have aq:=h.oZ kp;have hr:=h.oZ kr;unfold j5;simp only;split
 .split
  .exact(o.oZ (lb _ _ _)).oZ ⟨rfl,rfl,rfl,rfl⟩
  .exact o
 split
 .split
  .exact o.oZ (pR _ _ _ _)
  .exact o
 split
 .exact Kr
 split
 .rename_i ho;refine rS ?_ (hj ho);exact(h.oZ E).oZ ⟨rfl,rfl,rfl,rfl⟩
 split
 .split
  .exact h.oZ E
  .split
   .exact HP
   .split
    .exact hr.oZ ⟨rfl,rfl,rfl,rfl⟩
    .rename_i I
     have Y:iX l (hM (hM (hK x).1 (hK x).2.1 0).1 (hK x).2.1 1).2.n=true:=by
      rw[<-hr.jd]
      cases Y:iX (hM (hM (hK x).1 (hK x).2.1 0).1 (hK x).2.1 1).1.jd (hM (hM (hK x).1 (hK x).2.1 0).1 (hK x).2.1 1).2.n with
      |true=>rfl
      |false=>exact D6 (.inr (.inr Y)) I
     have J:=tY Y;refine rS ?_ ⟨by omega,by omega,.inr Y⟩;exact⟨hr.jd,hr.jN,hr.lo,hr.hi,hr.k0,hr.k3,hr.nx⟩
 split
 .split
  .exact Kr
  .have a1:=h.oZ (y:=iA x) ⟨rfl,rfl,rfl,rfl⟩;have f:=a1.oZ (lb (iA x) 1 (if i.op=15 then 1 else 2));exact⟨f.jd,f.jN,f.lo,f.hi,f.k0,f.k3,f.nx⟩
 split
 .exact(h.oZ E).oZ (pR _ _ _ _)
 .exact h
theorem mA{n:Int}:ij l n=21->iX l n=true:=by
 intro h;unfold ij at h;split at h
 .omega
 .rename_i hb;unfold iX
  have h0:0<=n:=by omega
  have h1:n<(l.length:Int):=by omega
  rw[Ek h0,Ek h1,h]
  rfl
theorem yv{k:Nat}(h:kU l k=true)(ho:(l.getD k default).op=11∨(l.getD k default).op=12∨(l.getD k default).op=13):Goal l k (l.getD k default).n:=by
 have hb:∀n,0<=ij l n->0<=n/\n<(l.length:Int):=by
  intro n hn;unfold ij at hn;split at hn
  .omega
  .omega
 unfold kU jH at h;generalize l.getD k default=x at*
 rcases ho with ho|ho|ho
 .rw[ho]at h;have e:(iZ.getD (11:Int).toNat default).n=6:=rfl;exact If
 .rw[ho]at h;have e:(iZ.getD (12:Int).toNat default).n=6:=rfl;exact If
 .rw[ho]at h;have e:(iZ.getD (13:Int).toNat default).n=7:=rfl;rw[e]at h;simp at h
  have Y:ij l x.n=21:=by first|exact h.2|exact h.2.2
  have:=hb x.n o_
  exact⟨by omega,by omega,.inr (mA Y)⟩
theorem tW{hq g9 pc:Int}(r:Nat->Vl)(h:List Ob)(nx:Int)(hv:hZ l hq g9=true)(h0: -1<=pc)(h1:pc<l.length):
 (lE l hq g9 pc r h nx).hT=4∨(0<=(lE l hq g9 pc r h nx).hT/\(lE l hq g9 pc r h nx).hT<=3/\ -1<=(lE l hq g9 pc r h nx).pc/\(lE l hq g9 pc r h nx).pc<=l.length/\
   ((lE l hq g9 pc r h nx).hT=0->iX l pc=false/\(pc<(lE l hq g9 pc r h nx).pc∨iX l (lE l hq g9 pc r h nx).pc=true))):=by
 have ay:∀k,k<l.length->kU l k=true:=by
  intro k hk;exact JM
 unfold lE;rw[P_ (by rw[hv];simp;omega)];simp only;split
 .exact .inl rfl
 .right;generalize I:(⟨l,hq,g9,pc,r,h,nx,{mt with pc:=pc+1,r:=r},false⟩:XP)=x
  have cA:qO l pc x:=by rw[<-I];exact⟨rfl,rfl,by show -1<=pc+1;omega,by show pc+1<=(l.length:Int);omega,(by decide:(0:Int)<=0),(by decide:(0:Int)<=3),λ_=>.inl (by show pc<pc+1;omega)⟩
  have fin:∀y:XP,qO l pc y->(y.e.hT=0->iX l pc=false)->0<=y.e.hT/\y.e.hT<=3/\ -1<=y.e.pc/\y.e.pc<=l.length/\(y.e.hT=0->iX l pc=false/\(pc<y.e.pc∨iX l y.e.pc=true)):=
   λy hy Y=>⟨hy.k0,hy.k3,hy.lo,hy.hi,λhk=>⟨Y hk,hy.nx hk⟩⟩
  unfold qb;split
  .rename_i uK
   have Y:iX l pc=false:=by rw[uK];unfold iX;simp
   simp only;split
   .exact fin _ (cA.oZ ⟨rfl,rfl,rfl,rfl⟩) λ_=>Y
   .exact fin _ (kt ((cA.oZ (y:=iA x) ⟨rfl,rfl,rfl,rfl⟩).oZ (lb _ _ _)) h0 o_ _) λ_=>Y
  .rename_i uK;have v:x.jd=l:=cA.jd;obtain⟨k,rfl⟩:∃k:Nat,pc=k:=⟨pc.toNat,by omega⟩
   have hk:k<l.length:=by omega
   have hg:=yv (ay k hk)
   have co:iX l (k:Int)=((l.getD k default).op==21):=by unfold iX;simp[hk]
   simp only[v,ED]
   cases hp:jS x (l.getD k default)with
   |some y=>
    simp only
    refine fin _ (vV cA h0 o_ (λho=>hg (ho.elim .inl λh=>.inr (.inl h))) hp) λb8=>?_
    rw[co]
    cases ho:((l.getD k default).op==21)with
    |false=>rfl
    |true=>
     exfalso
     have a:(l.getD k default).op=21:=by simpa using ho
     unfold jS at hp;rw[a]at hp;simp at hp;rw[<-hp]at b8;exact D6 b8 (by show ¬(1:Int)=0;decide)
   |none=>
    have b:iX l (k:Int)=false:=by
     rw[co]
     cases ho:((l.getD k default).op==21)with
     |false=>rfl
     |true=>
      exfalso
      have a:(l.getD k default).op=21:=by simpa using ho
      unfold jS at hp;rw[a]at hp;simp at hp
    simp only
    cases aq:kN x (l.getD k default)with
    |some y=>exact fin _ (xC cA h0 o_ aq) λ_=>b
    |none=>exact fin _ (xE cA h0 o_ λho=>hg (.inr (.inr ho))) λ_=>b
def oV(l:List In)(pc:Int):Nat:=if iX l pc=true then 0 else((l.length:Int)-pc).toNat
theorem rY{pc:Int}(h: -1<=pc):oV l pc<=l.length+1:=by
 unfold oV;split<;>omega
def todo(l:List In)(t:jg):Nat:=(64-t.hw).toNat*(l.length+3)+oV l t.pc
structure Way(l:List In)(t:jg):Prop where
 lo: -1<=t.pc
 hi:t.pc<=l.length
 s0:0<=t.hw
 s1:t.hw+oV l t.pc<=64+(l.length+1)
 sm:t.sm (128*t.hw.toNat)
theorem tP{hq g9:Int}{d:List Int}{t:jg}(hv:hZ l hq g9=true)(h:Way l t)(hs:t.hV=0):
 (jh l hq g9 d t view).sm (128*(t.hw.toNat+1))/\0<=(jh l hq g9 d t view).hw/\(jh l hq g9 d t view).hw<=t.hw+1/\ -1<=(jh l hq g9 d t view).pc/\(jh l hq g9 d t view).pc<=l.length/\
 ((jh l hq g9 d t view).hV=0->Way l (jh l hq g9 d t view)/\todo l (jh l hq g9 d t view)<todo l t):=by
 obtain⟨h1,h2,h3,aw,ax⟩:=h;have m0:t.sm (128*(t.hw.toNat+1)):=ax.mono o_;unfold jh;simp only;have hE:=r0 l hq g9 t.pc t.r (jk t view) ((t.run+1)*1048576+t.nw.length)
 by_cases uK:t.pc<l.length
 case neg=>
  have hk:(lE l hq g9 t.pc t.r (jk t view) ((t.run+1)*1048576+t.nw.length)).hT=4:=by
   unfold lE;rw[Q_ (.inr (.inr o_))]
   rfl
  rw[Q_ hk];refine⟨⟨m0.gs,m0.rs,m0.ws,m0.nw,m0.ds,m0.hU⟩,by show 0<=t.hw+1;omega,by show t.hw+1<=_;omega,h1,h2,λh=>D6 h (by show ¬(4:Int)=0;decide)⟩
 case pos=>
 have br:=tW t.r (jk t view) ((t.run+1)*1048576+t.nw.length) hv h1 uK;generalize lE l hq g9 t.pc t.r (jk t view) ((t.run+1)*1048576+t.nw.length)=e at*;split
 .exact⟨⟨m0.gs,m0.rs,m0.ws,m0.nw,m0.ds,m0.hU⟩,by show 0<=t.hw+1;omega,by show t.hw+1<=_;omega,h1,h2,λh=>D6 h (by show ¬(4:Int)=0;decide)⟩
 .rename_i bJ
  rcases br with br|⟨e0,bN,el,d2,en⟩
  .exact D6 br bJ
  split
  .exact⟨⟨m0.gs,m0.rs,m0.ws,m0.nw,m0.ds,m0.hU⟩,h3,by show t.hw<=_;omega,h1,h2,λh=>D6 h (by show ¬(1:Int)=0;decide)⟩
  .cases hr:record t view e with
   |none=>exact⟨⟨m0.gs,m0.rs,m0.ws,m0.nw,m0.ds,m0.hU⟩,by show 0<=t.hw+1;omega,by show t.hw+1<=_;omega,h1,h2,λh=>D6 h (by show ¬(4:Int)=0;decide)⟩
   |some x=>
    have I:=ll hr;have R:=(x4 ax hE hr).mono (show _<=128*(t.hw.toNat+1) by omega);simp only;have bA:=I.hw;split
    .exact⟨⟨R.gs,R.rs,R.ws,R.nw,R.ds,R.hU⟩,by show 0<=x.hw+1;omega,by show x.hw+1<=_;omega,el,d2,λh=>D6 h (by show ¬(3:Int)=0;decide)⟩
    .rename_i cj;split
     .exact⟨⟨R.gs,R.rs,R.ws,R.nw,R.ds,R.hU⟩,by show 0<=x.hw+1;omega,by show x.hw+1<=_;omega,el,d2,λh=>D6 h (by show ¬(2:Int)=0;decide)⟩
     .rename_i bW;refine⟨⟨R.gs,R.rs,R.ws,R.nw,R.ds,R.hU⟩,by show 0<=x.hw+1;omega,by show x.hw+1<=_;omega,el,d2,λ_=>?_⟩;have bh:=rY (l:=l) el;have N:=rY (l:=l) h1
      by_cases b7:t.hw+1<64
      .refine⟨⟨el,d2,by show 0<=x.hw+1;omega,by show x.hw+1+((oV l e.pc:Nat):Int)<=_;omega,?_⟩,?_⟩
       .exact IJ
       .show(64-(x.hw+1)).toNat*(l.length+3)+oV l e.pc<(64-t.hw).toNat*(l.length+3)+oV l t.pc
        have aP:(64-t.hw).toNat=(64-(x.hw+1)).toNat+1:=by omega
        rw[aP,Fa];omega
      .have b8:e.hT=0:=by
        by_cases h0:e.hT=0
        .exact h0
        .exact D6 ⟨by omega,.inr (.inl o_)⟩ bW
       obtain⟨Y,hg⟩:=en b8
       have aj:oV l e.pc<oV l t.pc:=by
        have:oV l t.pc=((l.length:Int)-t.pc).toNat:=by unfold oV;rw[Y];simp
        rw[this]
        rcases hg with hg|hg
        .unfold oV;split<;>omega
        .unfold oV;rw[Q_ hg];omega
       refine⟨⟨el,d2,by show 0<=x.hw+1;omega,by show x.hw+1+((oV l e.pc:Nat):Int)<=_;omega,?_⟩,?_⟩
       .exact IJ
       .show(64-(x.hw+1)).toNat*(l.length+3)+oV l e.pc<(64-t.hw).toNat*(l.length+3)+oV l t.pc
        have aP:(64-(x.hw+1)).toNat=0:=by omega
        rw[aP]
        by_cases aL:t.hw=63
        .have:(64-t.hw).toNat=1:=by omega
         rw[this];omega
        .omega
end Go.Proofs.YtenbhdilndfaeaaGreat
