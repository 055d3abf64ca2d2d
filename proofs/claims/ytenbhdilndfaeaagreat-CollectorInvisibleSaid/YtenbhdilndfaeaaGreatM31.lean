import Derived.Test.YtenbhdilndfaeaaGreatM30
set_option maxRecDepth 100000
set_option maxHeartbeats 0
set_option linter.all false
namespace Go.Proofs.YtenbhdilndfaeaaGreat
open Go.RowKit Go.Proofs.Tryz
variable{i:In}(x:XP)(v:Vl)
def K7{G:Prop} (h:G:=by
 split at hy
 .injection hy with hy;subst hy;exact(k9 _ _).trans z
 .injection hy with hy;subst hy;exact z):G:=h
def FL(h:List Ob):Prop:=∀o∈h,o.fs.length<=70
def me(id f:Int):(hW x id f).1.e.nw=x.e.nw:=by
 unfold hW;split
 .rfl
 .split<;>rfl
def q6:(hT x).1.e.nw=x.e.nw:=by
 unfold hT;simp only;split
 .rfl
 .exact me (iL x) 1 0
def k9:(jm x v).e.nw=x.e.nw:=by
 have b:=q6 x;have a:=(me (hT x).1 (hT x).2.1 2).trans b;have c:=(me (hW (hT x).1 (hT x).2.1 2).1 (hT x).2.1 0).trans a;unfold jm;simp only;split
 .exact b
 .split
  .exact a
  .split
   .exact a
   .split
    .exact c
    .split<;>exact c
def sH(f:Int):(iA x v f).1.e.nw=x.e.nw:=by
 unfold iA;split
 .exact k9 x _
 .split
  .exact k9 x _
  .split
   .rfl
   .split
    .exact k9 x _
    .rfl
def uQ(n:Int):(hI x n).1.e.nw=x.e.nw:=by
 have a:=q6 x;unfold hI;simp only;split
 .exact a
 .split
  .exact(k9 _ _).trans a
  .exact a
def yA{x y:XP}(hy:jX x i=some y):y.e.nw=x.e.nw:=by
 unfold jX at hy
 refine iu (R:=λy=>y.e.nw=x.e.nw) hy (λ_=>rfl) λ_ hy=>?_
 refine iu (R:=λy=>y.e.nw=x.e.nw) hy (λ_=>rfl) λ_ hy=>?_
 refine iu (R:=λy=>y.e.nw=x.e.nw) hy (λ_=>rfl) λ_ hy=>?_
 refine iu (R:=λy=>y.e.nw=x.e.nw) hy (λ_=>rfl) λ_ hy=>?_
 refine iu (R:=λy=>y.e.nw=x.e.nw) hy (λ_=>?_) λ_ hy=>?_
 .split
  .exact k9 _ _
  .rfl
 refine iu (R:=λy=>y.e.nw=x.e.nw) hy (λ_=>rfl) λ_ hy=>?_
 refine iu (R:=λy=>y.e.nw=x.e.nw) hy (λ_=>?_) λ_ hy=>?_
 .split<;>rfl
 refine iu (R:=λy=>y.e.nw=x.e.nw) hy (λ_=>rfl) λ_ hy=>?_
 refine iu (R:=λy=>y.e.nw=x.e.nw) hy (λ_=>k9 _ _) λ_ hy=>?_
 refine iu (R:=λy=>y.e.nw=x.e.nw) hy (λ_=>?_) λ_ hy=>by cases hy
 split
 .exact k9 _ _
 .rfl
def zY{x y:XP}(hy:kM x i=some y):y.e.nw=x.e.nw:=by
 have a:=uQ x i.n;have z:=(me (hI x i.n).1 (hI x i.n).2.1 (hI x i.n).2.2.1).trans a;unfold kM at hy;simp only at hy;split at hy
 .cases hy
 split at hy
 .injection hy with hy;subst hy;exact a
 split at hy
 .injection hy with hy;subst hy;exact a
 split at hy
 .injection hy with hy;subst hy;exact z
 split at hy
 .exact K7
 exact K7
def Fd(i:In):Prop:=(i.op=7->i.n<=16)/\(i.op=13->0<=i.b/\i.b<=4/\i.b<=i.c/\i.c<=64)
def z1{x:XP}(k:Fd i)(a:FL x.e.nw):FL (j5 x i).e.nw:=by
 have d:=q6 x;unfold j5;dsimp only
 by_cases j:i.op=5
 .rw[U_ j];have b:=sH x (x.sr i.b.toNat) i.n;split
  .show FL (hW _ _ _).1.e.nw
   rw[me,b];exact a
  .rw[b];exact a
 rw[R_ j]
 by_cases h:i.op=6
 .rw[U_ h];have b:=sH x (x.sr i.b.toNat) i.n;split
  .show FL (iA _ _ _).1.e.nw
   rw[b];exact a
  .rw[b];exact a
 rw[R_ h]
 by_cases c:i.op=7
 .rw[U_ c];intro b g;have e:b=⟨x.nx,List.replicate i.n.toNat default⟩:=I_.1 g;rw[e,Gh]
  have:=k.1 c
  omega
 rw[R_ c]
 by_cases f:i.op=13
 .rw[U_ f];intro b g;have e:=I_.1 g;rw[e];simp only[J_,FK,F7,Ge,Hw,Gh]
  have:=k.2 f
  omega
 rw[R_ f]
 by_cases l:i.op=14
 .rw[U_ l];have m:=(me (hT x).1 (hT x).2.1 0).trans d;have n:=(me (hW (hT x).1 (hT x).2.1 0).1 (hT x).2.1 1).trans m;split
  .rw[d];exact a
  .split
   .show FL (hW _ _ _).1.e.nw
    rw[m];exact a
   .split
    .show FL (hW _ _ _).1.e.nw
     rw[n];exact a
    .show FL (hW _ _ _).1.e.nw
     rw[n];exact a
 rw[R_ l]
 by_cases o:i.op=15∨i.op=18
 .rw[U_ o];split
  .exact a
  .show FL (hW _ _ _).1.e.nw
   rw[me];exact a
 rw[R_ o]
 by_cases p:i.op=17
 .rw[U_ p]
  show FL (hT x).1.e.nw
  rw[d];exact a
 rw[R_ p];exact a
def Br{l:List In}{k:Nat}(h:kW l k=true):Fd (l.getD k default):=by
 unfold kW jV at h;generalize l.getD k default=x at*;obtain⟨g,d,e,f,n⟩:=x;simp only at h;split at h
 .cases h
 split at h
 .cases h
 split at h
 .cases h
 rename_i c;refine⟨λa=>?_,λa=>?_⟩
 .simp only at a;subst a;have b:(i7.getD (7:Int).toNat default).n=4:=rfl;rw[b]at h;simp at h;exact h.2
 .simp only at a;subst a;simp at c;simp only;omega
def Cu{c:List In}{hH hC:Int}(b:ic c hH hC=true)(pc:Int)(r:Nat->Vl)(h:List Ob)(j:Int):FL (lq c hH hC pc r h j).nw:=by
 have o:FL ({l9 with pc:=pc+1,r:=r}:p8).nw:=λm a=>by cases a
 have e:FL jg.nw:=λm a=>by cases a
 unfold lq;split
 .exact e
 .rename_i p
  have l:pc≠ -1->Fd (c.getD pc.toNat default):=λf=>by
   refine Br ?_;unfold ic n6 at b;simp only[F0]at b;exact F4.mp b.1.1.2 _ p_
  simp only;split
  .exact e
  .generalize g:(⟨c,hH,hC,pc,r,h,j,{l9 with pc:=pc+1,r:=r},false⟩:XP)=x
   have v:FL x.e.nw:=by rw[<-g];exact o
   have k:x.jt=c:=by rw[<-g]
   unfold qb;split
   .simp only;split
    .exact v
    .rw[k9,me];exact v
   .rename_i f;simp only;split
    .rename_i n d;rw[yA d];exact v
    .split
     .rename_i n d;rw[zY d];exact v
     .exact z1 (by rw[k];exact l f) v
