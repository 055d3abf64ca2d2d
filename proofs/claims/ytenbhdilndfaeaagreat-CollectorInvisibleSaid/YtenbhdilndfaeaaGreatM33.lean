import Derived.Test.YtenbhdilndfaeaaGreatM21
set_option maxRecDepth 100000
set_option maxHeartbeats 0
set_option linter.all false
namespace Go.Proofs.YtenbhdilndfaeaaGreat
open Go.RowKit Go.Proofs.Tryz
variable{aT:TypeId}{E:Rw->TypeId}
def Bl(A:OA)(c:Nat)(l:List Rw)(id:Int)(w:World)(h:sC aT w A l)(j:qs E w l)(g:l.length<=1000000000):
 Calls prog 14 #[.agg #[.slice A l.length c],Y id] w λe w'=>∃(i:Int) (A':OA) (n' c':Nat),e=.returned (.tuple #[.agg #[Y i,.slice A' n' c'],.bool (jl (hX l) id).isSome])/\I [] w w':=by
 cases f:jl (hX l) id with
 |none=>exact(zr A c l id w h g f).mono λe w'⟨a,b⟩=>⟨0,none,0,0,a,b⟩
 |some d=>exact(zq A c l id d w h j g f).mono λe w'⟨A',c',a,_,b⟩=>⟨d.id,A',d.fs.length,c',a,b⟩
def yo(h:List Ob):List Int:=(mR (kd h)).filter λn=>(jl h n).isNone
def xK(y:OA)(hc:Nat)(l:List Rw)(w:World)(M:sC aT w y l)(T:qs E w l)(hn:l.length<=100000000)(W:ES (kd (hX l))):
 Calls prog 24 #[.agg #[.slice y l.length hc]] w (lz (yo (hX l)) w):=by
 refine h5 λae aq=>?_
 obtain⟨ag,aj,aW,o,B,hB⟩:=box1 w 35 #[.slice y l.length hc];have bJ:=vB W (λe C=>C);have aG:=U (xj y hc l ag (M.hF B) (T.hF B) hn W);have ak:=U (λ(w':World)(h:I [] ag w')(id:Int)=>Bl y hc l id w' (M.hF (B.trans h)) (T.hF (B.trans h)) X);have u:=hB.f_ 0;clear W M T
 go_enter func24,ntmps24
 go_wp2_with (go_at_call 23;refine aG.out.mono ?_;unfold lz;rintro c A⟨al,am,rfl,s,an,M0⟩)
 obtain⟨k,C⟩:=nm_ (mR (kd (hX l)));have ao:=U C;rw[<-C]at s an bJ |-;clear C aG u;have ar:=U (show ∀w',I [] A w'->Ls w' al k from λw' h=>Sl.hF s h);clear s
 go_loopw [3,5] (λov L wr=>∃(d:Nat) (i:List Int) (r:OA) (x:Nat),d<=k.length/\L=Y d/\ov=.slice r i.length x/\Hid (i=(k.take d).filter λD=>(jl (hX l) D).isNone)/\i.length<=d/\Zr A.heap.size wr r x i/\I [] A wr) (λ_ L _=>k.length-(intOf L).toNat)
 case atStart=>exact⟨0,[],none,0,N_ _,gn,rfl,U rfl,H_ _,Zr.nil,H _ _⟩
 case round=>
  obtain⟨d,i,r,x,hi,rfl,rfl,au,q,j,o⟩:=hrel;have s:=ar.out _ o;have p:=M0.trans o
  by_cases K:d<k.length
  .obtain⟨O,off,aw,P⟩:=s.at_ K;subst aw;have bR:=U (T_ K)
   have az:=U (show ∀w',Ls w' (some (Z O off)) k->w'.cell? (Z O (off+d))=some (Y k[d]) from λw' h=>by
    obtain⟨b1,bt,c,h1⟩:=h.at_ K;injection c with c;injection c with aN F;subst aN;subst F
    exact h1)
   generalize k[d]=e at*;have u:=(hB.hF p).f_ 0
   go_upto_region 6 with fail
   go_cut [7] (λaA a7=>aA=.bool (jl (hX l) e).isSome/\Zr A.heap.size a7 r x i/\I [] A a7)
   case first=>
    refine hN (λw'=>w'.cell? (Z aj 0)=some (.slice y l.length hc)/\w'.cell? (Z O (off+d))=some (Y e)) 12 k_ ?_;obtain⟨t,R⟩:=nm_ wr.drew;have z:=R▸(H [] wr).drew;rw[<-R]
    refine m5 ⟨z.f_ u J,z.f_ P J⟩ λa=>?_
    replace o:=o.trans z;replace p:=p.trans z;replace j:=j.hF z;clear R z u P
    (iterate 5 refine jQ a ?_)
    refine B7 5 9 (λg b=>?_) (λg b=>?_)
    .go_simp
     go_at_call 14
     refine(ak.out _ p e).mono ?_;rintro c v⟨S,G,n4,Q,rfl,m⟩
     refine h4 b ⟨m.f_ a.1 J,m.f_ a.2 J⟩ λa=>?_
     clear b g
     iterate 3 refine jQ a ?_
     refine hZ 9 λg b=>?_
     go_simp;have aB:=a;have V:=P_ v 56 #[Y 0,n_];have f:I [] v (v.alloc (.cells #[Y 0,n_] 56)):=(H [] v).alloc _
     refine h4 b ⟨f.f_ a.1 J,f.f_ a.2 J⟩ λa=>?_
     clear b g
     refine hZ 10 λg b=>?_
     rw[U_ r_];refine ia 56 rfl v.heap.size r_ #[Y S,.slice G n4 Q] r_ 56 V rfl k_ (by simp[Value.oneCell']) ?_;intro ax bT N;have n:=I.hJ (f) N J
     refine h4 b ⟨n.f_ aB.1 J,n.f_ aB.2 J⟩ λa=>?_
     clear b g;refine iv 11 a ?_;refine hM k_ ?_ _;go_wp2;go_meet;exact⟨rfl,(j.hF m).hF n,(o.trans m).trans n⟩
    .go_simp;have aC:=a;have V:=P_ t 56 #[Y 0,n_];have f:I [] t (t.alloc (.cells #[Y 0,n_] 56)):=(H [] t).alloc _
     refine h4 b ⟨f.f_ a.1 J,f.f_ a.2 J⟩ λa=>?_
     clear b g
     refine hZ 5 λg b=>?_
     go_simp
     go_at_call 14
     refine(ak.out _ (p.trans f) e).mono ?_;rintro c v⟨S,G,n4,Q,rfl,m⟩
     refine h4 b ⟨m.f_ a.1 J,m.f_ a.2 J⟩ λa=>?_
     clear b g
     iterate 3 refine jQ a ?_
     refine hZ 10 λg b=>?_
     rw[U_ r_];refine ia 56 rfl t.heap.size r_ #[Y S,.slice G n4 Q] r_ 56 (V.hF m) rfl k_ (by simp[Value.oneCell']) ?_;intro ax bT N;have n:=I.hJ (f.trans m) N J
     refine h4 b ⟨n.f_ aC.1 J,n.f_ aC.2 J⟩ λa=>?_
     clear b g;refine iv 11 a ?_;refine hM k_ ?_ _;go_wp2;go_meet;exact⟨rfl,(j.hF (H [] t)).hF n,o.trans n⟩
   case rest=>
    obtain⟨rfl,n,a⟩:=hcut;have S:=ar.out _ a;clear j s o p u P;have j:=n;have u:=az.out _ S;clear n;have m:=U (show(jl (hX l) e).isNone= !(jl (hX l) e).isSome by cases jl (hX l) e<;>rfl)
    cases b:(jl (hX l) e).isSome with
    |true=>
     have g:=U (show(k.take (d+1)).filter (λD=>(jl (hX l) D).isNone)=i by
      have c:=m.out;rw[b]at c;rw[bR.out,Hd,<-au.out,List.filter_cons_of_neg (by rw[c];decide)]
      simp)
     clear b;go_wp2;go_roundw
     case rel=>exact⟨d+1,i,r,x,X,gn,rfl,U g.out.symm,X,j,a⟩
     case measure=>exact mz
    |false=>
     have g:=U (show(k.take (d+1)).filter (λD=>(jl (hX l) D).isNone)=i++[e] by
      have c:=m.out;rw[b]at c;rw[bR.out,Hd,<-au.out,List.filter_cons_of_pos (by rw[c];decide)]
      simp)
     clear b;have f:=(H [] wc).alloc (.cells #[Y e] 2);have R:=j.hF f;have Q:=(a.trans f).size
     go_wp2_with (at_builtin;refine BO R (Ls.one wc e) Q X ?_;intro G z V N t)
     have v:=t.gr [] A (H_ _) (a.trans f);go_roundw
     case rel=>exact⟨d+1,i++[e],G,z,X,gn,J,U g.out.symm,p_,N,v⟩
     case measure=>exact mz
  .go_wp2;rw[aq.out];have c:=au.out;rw[FP X]at c
   have F:yo (hX l)=i:=by rw[c,ao.out];rfl
   rw[F];exact⟨r,x,rfl,j.ls,iY j,B.trans p⟩
