import Derived.Test.YtenbhdilndfaeaaGreatM05
set_option maxRecDepth 100000
set_option maxHeartbeats 0
set_option linter.all false
namespace Go.Proofs.YtenbhdilndfaeaaGreat
open Go.RowKit Go.Proofs.Tryz
variable{G:Prop}{g i x:Nat}{t:TypeId}{s:Sh}
def Le(h:G:=by
 intro n hn;rw[hk.2 n,hn]
 rcases Id n l.length with h|h
 .exact h
 .rw[j9 (.inr h)]at hn;simp at hn):G:=h
def LR(h:G:=by
 obtain⟨h1,h2,h3,aw⟩:=h.cs1 p hp;exact⟨h1,p_,by rw[k6 _ h2];exact h3,aw⟩):G:=h
def LV(h:G:=by
 obtain⟨h1,h2,h3⟩:=h.pW a ha i hi;exact⟨h1,p_,by rw[k6 _ h2];exact h3⟩):G:=h
def h5{P:Program}{f:FuncId}{a:Array Value}{w:World}{i:Ending->World->Prop}(h:∀Q,Hid (Q=i)->Calls P f a w Q):Calls P f a w i:=h i (U rfl)
def box1(w:World)(t:TypeId)(cs:Array Value):∃(W:World) (g:Nat),w.alloc (.cells cs t)=W/\w.heap.size=g/\I [] w W/\Bk W g t cs:=
 ⟨_,_,rfl,rfl,(H [] w).alloc _,P_ w t cs⟩
def tJ(w:World)(d:TypeId)(c:Array Value)(e:TypeId)(f:Array Value):∃(W:World) (g h:Nat),(w.alloc (.cells c d)).alloc (.cells f e)=W/\w.heap.size=g/\g+1=h/\I [] w W/\Bk W g d c/\Bk W h e f:=
 ⟨_,_,_,rfl,rfl,rfl,((H [] w).alloc _).alloc _,(P_ w d c).alloc _,by simpa using P_ (w.alloc (.cells c d)) e f⟩
structure Gt(base:Nat)(T:List TypeId)(a w:World):Prop where
 os:w.os=a.os
 tape:w.tape=a.tape
 output:w.output=a.output
 size:a.heap.size<=w.heap.size
 block:∀k,k<a.heap.size->(k<base∨∀cs t fz,a.heap[k]?=some (.cells cs t fz)->t∉T)->w.heap[k]?=a.heap[k]?
section
variable{base:Nat}{T:List TypeId}{a b w w':World}
def Gt.trans(h:Gt base T a b)(k:Gt base T b w):Gt base T a w:=
 ⟨k.os.trans h.os,k.tape.trans h.tape,k.output.trans h.output,G_ h.size k.size,λi c e=>
   (k.block i (GN c h.size) (e.imp id λd cs t j f=>d cs t j ((h.block i c (.inr d)).symm.trans f))).trans (h.block i c e)⟩
def Gt.js(h:I [] a w):Gt base T a w:=⟨h.os,h.tape,h.output,h.size,λi c _=>h.block i c J⟩
def Gt.refl(base:Nat)(T:List TypeId)(w:World):Gt base T w w:=.js (H [] w)
def Gt.one{cs:Array Value}(h:I [g] a w)(k:base<=g)(e:Bk a g t cs)(j:t∈T):Gt base T a w:=
 ⟨h.os,h.tape,h.output,h.size,λi d c=>h.block i d (by
   intro f
   have:i=g:=zu f
   subst this
   rcases c with c|c
   .omega
   .exact c _ _ _ e j)⟩
def Gt.set{cs:Array Value}(d:Bk w g t cs)(c:base<=g)(e:t∈T)(i:Nat)(u:Value):Gt base T w (w.setCell (Z g i) u):=
 .one ((H [g] w).setCell (p:=(Z g i)) (.inl J) u) c d e
def Gt.grown{o:Option Nat}(h:w.grownBy w' o)(p:∀g,o=some g->base<=g/\∃cs t d,w.heap[g]?=some (.cells cs t d)/\t∈T):Gt base T w w':=
 ⟨h.os,h.tape,h.output,h.size,λi j c=>h.block i j (by
   intro k;obtain⟨r,cs,t,d,e,f⟩:=p i k.symm
   rcases c with c|c
   .omega
   .exact c _ _ _ e f)⟩
def Gt.gr(h:Gt base T a w)(d:a.heap.size<=base):I [] a w:=⟨h.os,h.tape,h.output,h.size,λi c _=>h.block i c (.inl X)⟩
def Bk.gt{cs:Array Value}(h:Bk a g t cs)(k:Gt base T a w)(d:t∉T):Bk w g t cs:=
 (k.block g h.lt (.inr λe j f c=>by unfold Bk at h;rw[h]at c;injection c with c;injection c with _ c;subst c;exact d)).trans h
def Sl.gt{e:TypeId}{f n:Nat}{A:OA}{j:List Value}(h:Sl a e f A n j)(k:Gt base T a w)(y:e∉T):Sl w e f A n j:=
 ⟨h.1,λu=>by
   obtain⟨b,z,cs,o,p,d,r⟩:=h.2 u
   exact⟨b,z,cs,o,p,(k.block b (la d) (.inr λB E C c=>by rw[d]at c;injection c with c;injection c with _ c;subst c;exact y)).trans d,r⟩⟩
def kq.gt{p:Nat->Prop}{t:ET}(h:kq p a t)(k:Gt base T a w)(f:226∉T):kq p w t:=by
 induction h with
 |mk t h e d _ c=>exact .mk t (h.gt k f) e d c
def jL.gt{p:Nat->Prop}{t:ST}(h:jL p a t)(k:Gt base T a w)(c:226∉T)(E:229∉T):jL p w t:=by
 induction h with
 |mk t z u j A f r F _ B y o _ d e=>exact .mk t (z.gt k c) u j (λH C=>(A H C).gt k c) (f.gt k E) r F d (B.gt k E) y o e
end
def nY{l:List In}(h:i<l.length):iB l i=l[i].op:=by
 unfold iB;rw[R_ X];simp[List.getD,h]
def j9{l:List In}{n:Int}(h:n<0∨(l.length:Int)<=n):iB l n= -1:=by unfold iB;rw[U_ h]
def nv{l:List In}{n:Int}(h0:0<=n)(c:n<l.length):∃i:Nat,n=i/\∃h:i<l.length,iB l n=l[i].op:=by
 refine⟨n.toNat,X,X,?_⟩;exact(Z_ (iB l) (show n=(n.toNat:Int) by omega)).trans (nY X)
def k6{l:List In}{n:Int}(b:List In)(h:n<l.length):iB (l++b) n=iB l n:=by
 by_cases d:0<=n
 .obtain⟨i,rfl,e,c⟩:=nv d h;rw[c,nY p_,Gq e]
 .rw[j9 (.inl X),j9 (.inl X)]
def mj(l:List In)(x:In)(b:List In):iB (l++x::b) l.length=x.op:=by
 rw[nY J];simp
def In.o7(x:In)(v:Int):In:=⟨x.op,x.a,x.b,x.c,v⟩
def mg(v:Int)(l:List In)(i:Int):List In:=l.modify i.toNat (In.o7 · v)
def lM(v:Int)(l:List In)(is:List Int):List In:=is.foldl (mg v) l
def lF(v:Int)(l:List In)(i:Int):(mg v l i).length=l.length:=by simp[mg]
def i9(v:Int)(is:List Int):∀l:List In,(lM v l is).length=l.length:=by
 induction is with
 |nil=>intro l;rfl
 |cons i is c=>intro l;exact(c _).trans (lF v l i)
def uq(v:Int)(l:List In)(i:Int)(k:Nat)(c:k<l.length):(mg v l i)[k]'(by rw[lF];exact c)=if i.toNat=k then l[k].o7 v else l[k]:=by
 simp only[mg,GJ]
def mE(v:Int)(is:List Int):∀(l:List In) (k:Nat) (j:k<l.length),(lM v l is)[k]'(by rw[i9];exact j)=if ∃i∈is,i.toNat=k then l[k].o7 v else l[k]:=by
 induction is with
 |nil=>intro l k j;simp[lM]
 |cons i is o=>
  intro l k j;have r:=o (mg v l i) k (by rw[lF];exact j);have p:lM v l (i::is)=lM v (mg v l i) is:=rfl;simp only[p];rw[r];rw[uq v l i k j]
  by_cases d:i.toNat=k
  .by_cases e:∃c∈is,c.toNat=k
   .rw[U_ e,U_ d,U_ ⟨i,J,d⟩]
    rfl
   .rw[R_ e,U_ d,U_ ⟨i,J,d⟩]
  .by_cases e:∃c∈is,c.toNat=k
   .obtain⟨c,f,h⟩:=e;rw[U_ ⟨c,f,h⟩,R_ d,U_ ⟨c,by simp[f],h⟩]
   .rw[R_ e,R_ d,R_];rintro⟨c,f,h⟩
    rcases M_.1 f with rfl|f
    .exact d h
    .exact e ⟨c,f,h⟩
def oq(v:Int)(is:List Int)(l:List In)(n:Int):iB (lM v l is) n=iB l n:=by
 by_cases c:n<0∨(l.length:Int)<=n
 .rw[j9 c,j9 (by rw[i9];exact c)]
 .obtain⟨i,rfl,d,e⟩:=nv (l:=l) (n:=n) X X;rw[e,nY (by rw[i9];exact d),mE v is l i d];split<;>rfl
def q3(l l':List In):Prop:=l.length<=l'.length/\∀n:Int,n<l.length->iB l' n=iB l n
def q3.refl(l:List In):q3 l l:=⟨H_ _,λ_ _=>rfl⟩
def q3.trans{a b c:List In}(h:q3 a b)(k:q3 b c):q3 a c:=⟨G_ h.1 k.1,λn d=>(k.2 n (by have:=h.1;omega)).trans (h.2 n d)⟩
def q3.app(l b:List In):q3 l (l++b):=⟨by simp,λ_ c=>k6 b c⟩
def q3.set(v:Int)(l:List In)(is:List Int):q3 l (lM v l is):=⟨by rw[i9];exact H_ _,λn _=>oq v is l n⟩
def PF(l:List In)(q:Int)(i:Nat)(x:In):Prop:=
 if x.op=13 then x.a=0/\0<=x.b/\x.b<=2/\iB l ((i:Int)+1)=21/\iB l x.n=21
 else if x.op=11∨x.op=12 then mi x.a (x.op==12)=true/\x.b=0/\x.c=0/\0<=x.n/\x.n<=q/\iB l x.n≠20/\((i:Int)<x.n∨iB l x.n=21)
 else jV l i x (i7.getD x.op.toNat default)=true
structure nf(l:List In)(q:Int):Prop where
 ne:iB l 0=21
 fit:∀i (h:i<l.length),PF l q i l[i]
 EK:kl l 0=true
def nf.pos{l:List In}{q:Int}(h:nf l q):0<l.length:=by
 rcases Gl l.length with c|c
 .have d:=h.ne;rw[j9 (.inr X)]at d;simp at d
 .exact c
def Bt{l c:List In}(hk:q3 l c)(i:Nat)(x:In)(r:x.op≠13)(u:s.n≠6)(f:s.n≠7)(y:i<=l.length)(h:jV l i x s=true):jV c i x s=true:=by
 have e:∀n:Int,iB l n=21->iB c n=21:=Le;have a:iB c ((i:Int)-1)=iB l ((i:Int)-1):=hk.2 _ X;unfold jV at h |-;have p:(x.op==13)=false:=zu r;rw[p]at h |-;simp only[Bool.false_and,HH]at h |-;rw[R_ u,R_ f]at h |-;rw[a];split at h
 .simp at h
 .rename_i o;rw[R_ o];split at h
  .simp at h
  .rename_i k;rw[R_ k];split at h
   .simp at h
   .rename_i j;rw[R_ j]
    by_cases d:s.n=8
    .rw[d]at h |-;simp at h |-
     rcases h with h|h
     .exact .inl h
     .exact .inr (e _ h)
    .rw[R_ d]at h |-;exact h
def Fh(k:Nat)(h:k<=21):((i7.getD k default).n=6↔k=11∨k=12)/\((i7.getD k default).n=7↔k=13):=by
 have:∀k,k<22->((i7.getD k default).n=6↔k=11∨k=12)/\((i7.getD k default).n=7↔k=13):=O
 exact this k X
def uC{l:List In}{x:In}(h:jV l i x s=true):0<=x.op/\x.op<=21:=by
 unfold jV at h;split at h
 .simp at h
 .omega
def PF.rng{l:List In}{q:Int}{x:In}(h:PF l q i x):0<=x.op/\x.op<=21:=by
 unfold PF at h;split at h
 .omega
 .split at h
  .omega
  .exact uC h
def PF.kp{l e:List In}{q q':Int}{x:In}(hk:q3 l e)(C:i<l.length)(A:q<=q')(hn:q<l.length∨iB e l.length≠20)(a:q<=l.length)(h:PF l q i x):PF e q' i x:=by
 have f:∀n:Int,iB l n=21->iB e n=21:=Le;have E:=h.rng;unfold PF at h |-;split at h
 .rename_i c;rw[U_ c];exact⟨h.1,h.2.1,h.2.2.1,f _ h.2.2.2.1,f _ h.2.2.2.2⟩
 .rename_i c;rw[R_ c];split at h
  .rename_i d;rw[U_ d];obtain⟨u,y,z,p,B,j,k⟩:=h;refine⟨u,y,z,p,X,?_,k.imp id (f _)⟩
   by_cases o:x.n<l.length
   .rw[hk.2 _ o];exact j
   .have r:x.n=l.length:=X;rw[r];exact hn.resolve_left X
  .rename_i d;rw[R_ d];have o:=Fh x.op.toNat X;exact Bt hk i x c (λj=>d (ov (o.1.1 j))) (λk=>c (ov (o.2.1 k))) X h
def xv(l b:List In):∀m:Int,kl (l++b) m=(kl l m&&kl b (m+jF l)):=by
 induction l with
 |nil=>intro m;simp[kl,jF]
 |cons x l e=>
  intro m
  by_cases c:x.op=21
  .have d:jF (x::l)=jF l+1:=by simp[jF,c]
   simp only[Hq,kl,c,if_true,e,d,Bool.and_assoc];rw[show m+1+jF l=m+(jF l+1) by omega]
  .have d:jF (x::l)=jF l:=by simp[jF,c]
   simp only[Hq,kl,c,if_false,e,d]
def rk(l b:List In):jF (l++b)=jF l+jF b:=by simp[jF]
def nf.app{l:List In}{q:Int}(h:nf l q)(b:List In)(e:q<l.length∨(q=l.length/\∃k t,b=k::t/\k.op≠20))(q':Int)(a:q<=q')
 (p:∀d (y:d<b.length),PF (l++b) q' (l.length+d) b[d]) (u:kl b (jF l)=true):nf (l++b) q':=by
 have f:=q3.app l b;refine⟨?_,λi r=>?_,?_⟩
 .rw[k6 b (ov h.pos)];exact h.ne
 .by_cases c:i<l.length
  .rw[Gq c];refine(h.fit i c).kp f c a ?_ (by rcases e with h|h<;>omega)
   rcases e with j|⟨_,k,t,rfl,o⟩
   .exact .inl j
   .right;rw[mj];exact o
  .rw[GC X]
   have:=p (i-l.length) (by rw[J_]at r;omega)
   rwa [show l.length+(i-l.length)=i by omega]at this
 .rw[xv,h.EK,Int.zero_add,u]
  rfl
def nf.q{l:List In}{q q':Int}(h:nf l q)(d:q<=q')(a:q<=l.length):nf l q':=by
 refine⟨h.ne,λi c=>(h.fit i c).kp (q3.refl l) c d ?_ a,h.EK⟩;right;rw[j9 (.inr (Gg _))]
 decide
def qN:∀(l c:List In),l.length=c.length->(∀i (h:i<l.length) (u:i<c.length),l[i].op=c[i].op/\(l[i].op=21->l[i].n=c[i].n))->∀m,kl l m=kl c m:=by
 intro l
 induction l with
 |nil=>
  intro c f _ m
  have:c=[]:=FZ f.symm
  subst this
  rfl
 |cons x l o=>
  intro c f h m
  cases c with
  |nil=>simp at f
  |cons k c=>
   have e:=h 0 J J;simp only[GG]at e;have a:=o c (zu f) (λi p r=>h (i+1) p_ p_)
   by_cases d:x.op=21
   .have j:k.op=21:=by rw[<-e.1];exact d
    simp only[kl,U_ d,U_ j,a,e.2 d]
   .have j:¬k.op=21:=by rw[<-e.1];exact d
    simp only[kl,R_ d,R_ j,a]
def rR{l c:List In}(k:l.length=c.length)(h:∀i (h:i<l.length) (o:i<c.length),l[i].op=c[i].op):jF l=jF c:=by
 have e:l.map In.op=c.map In.op:=by
  refine Hp (zu k) λi f j=>?_
  simp only[G9];exact h i (zu f) (zu j)
 have d:∀l:List In,jF l=((l.map In.op).filter (· ==21)).length:=by
  intro l;simp[jF,List.filter_map,Function.comp_def]
 rw[d,d,e]
def nf.Ci{l:List In}{q:Int}(h:nf l q)(is:List Int)(v:Int)(q':Int)(p:q<=q')(a:q<=l.length)
 (j:∀i (h:i<l.length),(∃r∈is,r.toNat=i)->l[i].op≠21/\PF l q' i (l[i].o7 v)):nf (lM v l is) q':=by
 have iN:=i9 v is l;have f:=oq v is l
 have b:∀i x,PF l q' i x->PF (lM v l is) q' i x:=by
  intro i x e;unfold PF at e |-;unfold jV at e |-;simp only[f];exact e
 refine⟨by rw[f];exact h.ne,λi o=>?_,?_⟩
 .have c:i<l.length:=by rw[<-iN];exact o
  rw[mE v is l i c];split
  .rename_i d;exact b i _ (j i c d).2
  .exact b i _ (((h.q p a).fit i c))
 .rw[qN (lM v l is) l iN (λi u c=>?_)]
  .exact h.EK
  .rw[mE v is l i c];split
   .rename_i d;exact⟨rfl,λk=>FU k (j i c d).1⟩
   .exact⟨rfl,λ_=>rfl⟩
structure o6(l:List In)(hC:Int)(cs:List (Int × Int))(ats:List (List Int))(q:Int):Prop where
 code:nf l q
 wZ:hC=jF l
 cs1:∀p∈cs,0<=p.1/\p.1<l.length/\iB l p.1=13/\1<=p.2/\p.2<=2
 cs2:∀i (h:i<l.length),l[i].op=13->∃f,((i:Int),f)∈cs
 pW:∀a∈ats,∀i∈a,0<=i/\i<l.length/\iB l i=17
 q:q<=l.length
 zR:cs.length<=l.length
 r9:∀a∈ats,a.length<=l.length
section
variable{l:List In}{hC:Int}{cs:List (Int × Int)}{ats:List (List Int)}{q:Int}
def o6.put(h:o6 l hC cs ats q)(x:In)(k:x.op≠13)(e:x.op≠21)(d:x.op≠20∨q<l.length)(o:PF (l++[x]) l.length l.length x):o6 (l++[x]) hC cs ats l.length where
 code:=h.code.app [x] (by
  rcases d with d|d
  .rcases Id q l.length with j|j
   .exact .inl j
   .exact .inr ⟨ov h.q,x,[],rfl,d⟩
  .exact .inl d) _ h.q (λr j=>by
   have:r=0:=zu j
   subst this
   exact o) (by simp[kl,e])
 wZ:=by rw[rk,h.wZ];simp[jF,e]
 cs1:=λp hp=>by
  exact LR
 cs2:=λi hi c=>by
  by_cases f:i<l.length
  .rw[Gq f]at c;exact h.cs2 i f c
  .rw[GC X]at c;simp at c;exact FU c k
 pW:=λa ha i hi=>by
  exact LV
 q:=by simp;omega
 zR:=by have:=h.zR;simp;omega
 r9:=λa ha=>by have:=h.r9 a ha;simp;omega
def lJ(x:In):Bool:=jV [] 0 x (i7.getD x.op.toNat default)&&(x.op !=11)&&(x.op !=12)&&(x.op !=13)&&(x.op !=20)&&(x.op !=21)&&(x.op !=17||x.n==0)
def PF.simp{l:List In}{q:Int}{x:In}(h:lJ x=true):PF l q i x:=by
 unfold lJ at h;simp only[F0,bne_iff_ne,ne_eq]at h;obtain⟨⟨⟨⟨⟨⟨c,A⟩,C⟩,j⟩,y⟩,B⟩,o⟩:=h;have E:=uC c;have k:=Fh x.op.toNat X
 have p:¬(i7.getD x.op.toNat default).n=6:=λd=>by have:=k.1.1 d;omega
 have r:¬(i7.getD x.op.toNat default).n=7:=λd=>by have:=k.2.1 d;omega
 have u:(i7.getD x.op.toNat default).n=8->x.op=17:=by
  have:∀e,e<22->(i7.getD e default).n=8->e=17:=O
  intro d
  have:=this x.op.toNat X d
  omega
 unfold PF;rw[R_ j,R_ X];generalize i7.getD x.op.toNat default=s at*;unfold jV at c |-;have z:(x.op==13)=false:=zu j;have a:(x.op !=20)=true:=zu y;rw[z,a]at c |-;simp only[Bool.false_and,HH,Ie]at c |-;rw[R_ p,R_ r]at c |-
 by_cases f:s.n=8
 .have b:(x.n==0)=true:=by
   have g:=u f;rw[g]at o
   simpa using o
  rw[b]at c |-
  simpa using c
 .rw[R_ f]at c |-;exact c
def o6.simp(h:o6 l hC cs ats q){x:In}(d:lJ x=true):o6 (l++[x]) hC cs ats l.length:=by
 have c:=d;unfold lJ at c;simp only[F0,bne_iff_ne,ne_eq]at c;obtain⟨⟨⟨⟨⟨⟨_,_⟩,_⟩,j⟩,f⟩,e⟩,_⟩:=c;exact h.put x j e (.inl f) (PF.simp d)
def o6.mark(h:o6 l hC cs ats q):o6 (l++[⟨21,0,0,0,hC⟩]) (hC+1) cs ats l.length where
 code:=h.code.app [⟨21,0,0,0,hC⟩] (by
  rcases Id q l.length with e|e
  .exact .inl e
  .exact .inr ⟨ov h.q,_,[],rfl,J⟩) _ h.q (λj f=>by
   have:j=0:=zu f
   subst this
   show PF _ _ _ (⟨21,0,0,0,hC⟩:In)
   unfold PF;rw[R_ J,R_ J]
   simp[jV,i7,mi]) (by simp[kl,h.wZ])
 wZ:=by rw[rk,h.wZ];simp[jF]
 cs1:=λp hp=>by
  exact LR
 cs2:=λi hi c=>by
  by_cases d:i<l.length
  .rw[Gq d]at c;exact h.cs2 i d c
  .rw[GC X]at c;simp at c
 pW:=λa ha i hi=>by
  exact LV
 q:=by simp;omega
 zR:=by have:=h.zR;simp;omega
 r9:=λa ha=>by have:=h.r9 a ha;simp;omega
def o6.jump(h:o6 l hC cs ats q)(o n:Int)(f:o=11∨o=12)(c:iB l n=21):o6 (l++[⟨o,0,0,0,n⟩]) hC cs ats l.length:=by
 have d:0<=n/\n<l.length:=by
  by_cases e:n<0∨(l.length:Int)<=n
  .rw[j9 e]at c;simp at c
  .omega
 refine h.put _ p_ p_ (.inl p_) ?_;unfold PF;rw[R_ p_,U_ (zu f)];refine⟨by simp[mi],rfl,rfl,d.1,p_,?_,.inr ?_⟩
 .rw[k6 _ d.2,c]
  decide
 .rw[k6 _ d.2,c]
def o6.call(h:o6 l hC cs ats q)(b f:Int)(o:0<=b)(r:b<=2)(C:1<=f)(d:f<=2):o6 (l++[⟨13,0,b,0,0⟩,⟨21,0,0,0,hC⟩]) (hC+1) (cs++[((l.length:Int),f)]) ats l.length where
 code:=h.code.app _ (by
  rcases Id q l.length with j|j
  .exact .inl j
  .exact .inr ⟨ov h.q,_,_,rfl,J⟩) _ h.q (λk u=>by
   have hp:=h.code.pos
   rcases(by simp at u;omega:k=0∨k=1)with rfl|rfl
   .show PF _ _ _ (⟨13,0,b,0,0⟩:In)
    unfold PF;rw[U_ r_];refine⟨rfl,o,r,?_,?_⟩
    .have:(((l.length+0:Nat):Int)+1)=((l.length+1:Nat):Int):=X
     rw[this,nY J,GC X];simp
    .show iB _ 0=21
     rw[k6 _ X];exact h.code.ne
   .show PF _ _ _ (⟨21,0,0,0,hC⟩:In)
    unfold PF;rw[R_ J,R_ J]
    simp[jV,i7,mi]) (by simp[kl,h.wZ])
 wZ:=by rw[rk,h.wZ];simp[jF]
 cs1:=λp hp=>by
  rcases X_.1 hp with hp|hp
  .exact LR
  .have:p=((l.length:Int),f):=zu hp
   subst this;exact⟨J,p_,mj _ _ _,C,d⟩
 cs2:=λi hi c=>by
  by_cases e:i<l.length
  .rw[Gq e]at c;obtain⟨k,D⟩:=h.cs2 i e c;exact⟨k,F9 _ D⟩
  .rw[GC X]at c
   have k:i=l.length∨i=l.length+1:=by simp at hi;omega
   rcases k with rfl|rfl
   .exact⟨f,J⟩
   .simp at c
 pW:=λa ha i hi=>by
  exact LV
 q:=by simp;omega
 zR:=by have:=h.zR;simp;omega
 r9:=λa ha=>by have:=h.r9 a ha;simp;omega
def o6.ask(h:o6 l hC cs ats q)(c:q<l.length)(e:iB l ((l.length:Int)-1)=21)(n:Int)(h0:0<=n)(f:n<64):o6 (l++[⟨20,0,0,0,n⟩]) hC cs ats l.length:=by
 refine h.put _ J J (.inr c) ?_;unfold PF;rw[R_ J,R_ J]
 have d:iB (l++[(⟨20,0,0,0,n⟩:In)]) ((l.length:Int)-1)=21:=by rw[k6 _ X];exact e
 simp[jV,i7,mi,d];omega
def o6.Ci(h:o6 l hC cs ats q)(is:List Int)(v:Int)(q':Int)(p:q<=q')(u:q'<=l.length)
 (c:∀i (h:i<l.length),(∃z∈is,z.toNat=i)->l[i].op≠21/\PF l q' i (l[i].o7 v)):o6 (lM v l is) hC cs ats q' where
 code:=h.code.Ci is v q' p h.q c
 wZ:=by
  rw[h.wZ];refine(rR (i9 v is l) λi e d=>?_).symm;rw[mE v is l i d];split<;>rfl
 cs1:=λA y=>by
  obtain⟨e,d,j,r⟩:=h.cs1 A y;exact⟨e,by rw[i9];exact d,by rw[oq];exact j,r⟩
 cs2:=λi c f=>by
  have o:=by rw[i9]at c;exact c
  rw[mE v is l i o]at f;refine h.cs2 i o ?_;split at f<;>exact f
 pW:=λa k i c=>by
  obtain⟨e,d,j⟩:=h.pW a k i c;exact⟨e,by rw[i9];exact d,by rw[oq];exact j⟩
 q:=by rw[i9];exact u
 zR:=by rw[i9];exact h.zR
 r9:=λa k=>by rw[i9];exact h.r9 a k
def o6.here(h:o6 l hC cs ats q)(e:Int)(d:iB l e=11∨iB l e=12):o6 (lM l.length l [e]) hC cs ats l.length:=by
 have a:0<=e/\e<l.length:=by
  by_cases p:e<0∨(l.length:Int)<=e
  .rw[j9 p]at d;simp at d
  .omega
 refine h.Ci [e] _ _ h.q (Gg _) λi u f=>?_
 obtain⟨r,f,rfl⟩:=f
 have:r=e:=zu f
 subst this;obtain⟨i,rfl,j,o⟩:=nv a.1 a.2;rw[o]at d;have c:=h.code.fit i j;have y:l[((i:Int).toNat)].op=11∨l[((i:Int).toNat)].op=12:=d;refine⟨X,?_⟩;unfold PF at c |-;rw[R_ X,U_ X]at c;have k:(l[((i:Int).toNat)].o7 l.length).op=l[i].op:=rfl;rw[k,R_ X,U_ X];refine⟨c.1,c.2.1,c.2.2.1,by show(0:Int)<=(l.length:Int);omega,Gg _,?_,.inl ?_⟩
 .show iB l l.length≠20
  rw[j9 (.inr (Gg _))]
  decide
 .show((i:Int).toNat:Int)<(l.length:Int)
  simpa using j
def o6.tv(h:o6 l hC cs ats q)(a:List Int)(u:∀i∈a,iB l i=17):o6 (lM l.length l a++[⟨21,0,0,0,hC⟩]) (hC+1) cs ats l.length:=by
 have I:=h.mark
 have H:(lM (l.length:Int) l a)++[(⟨21,0,0,0,hC⟩:In)]=lM l.length (l++[⟨21,0,0,0,hC⟩]) a:=by
  refine Hp (by simp[i9]) λi O r=>?_
  have A:=by rw[i9]at r;exact r
  rw[mE _ _ _ i A]
  by_cases j:i<l.length
  .rw[Gq (by rw[i9];exact j),mE _ _ _ i j,Gq j]
  .rw[GC (by rw[i9];omega),GC X]
   have N:¬∃e∈a,e.toNat=i:=by
    rintro⟨e,f,s⟩
    have:=u e f
    have d:=h.code.pos;rw[j9 (.inr X)]at this;simp at this
   rw[R_ N];simp only[i9]
 rw[H]
 refine I.Ci a _ _ (Gg _) p_ λi P f=>?_
 obtain⟨e,f,rfl⟩:=f;have k:=u e f
 have p:0<=e/\e<l.length:=by
  by_cases E:e<0∨(l.length:Int)<=e
  .rw[j9 E]at k;simp at k
  .omega
 obtain⟨i,rfl,y,z⟩:=nv p.1 p.2;have M:((i:Int)).toNat=i:=J
 have F:(l++[(⟨21,0,0,0,hC⟩:In)])[((i:Int)).toNat]=l[i]:=by
  simp only[M];exact Gq y
 rw[F]
 have g:l[i].op=17:=by rw[<-z];exact k
 refine⟨X,?_⟩;have d:=h.code.fit i y;unfold PF at d |-;rw[R_ X,R_ X]at d;have o:(l[i].o7 l.length).op=l[i].op:=rfl;rw[o,R_ X,R_ X];rw[g]at d |-;have m:i7.getD (17:Int).toNat default=⟨false,false,false,8⟩:=rfl;rw[m]at d |-;unfold jV at d |-;rw[o]
 have K:iB (l++[(⟨21,0,0,0,hC⟩:In)]) (l[i].o7 l.length).n=21:=by
  show iB (l++[(⟨21,0,0,0,hC⟩:In)]) l.length=21
  exact mj l ⟨21,0,0,0,hC⟩ []
 rw[K];have C:(l[i].o7 l.length).a=l[i].a:=rfl;have L:(l[i].o7 l.length).b=l[i].b:=rfl;have B:(l[i].o7 l.length).c=l[i].c:=rfl;rw[C,L,B,g];rw[g]at d;simp at d |-;exact d.1
end
def j8(es fs:List Int)(l:List In)(p:Int × Int):List In:=l.modify p.1.toNat λx=>⟨x.op,x.a,x.b,fs.getD p.2.toNat 0,es.getD p.2.toNat 0⟩
def ql(es fs:List Int)(l:List In)(p:Int × Int):(j8 es fs l p).length=l.length:=by simp[j8]
def oT(es fs:List Int)(cs:List (Int × Int)):∀l:List In,(cs.foldl (j8 es fs) l).length=l.length:=by
 induction cs with
 |nil=>intro l;rfl
 |cons d cs c=>intro l;exact(c _).trans (ql es fs l d)
def oU(es fs:List Int)(cs:List (Int × Int)):∀(l:List In) (k:Nat) (e:k<l.length),∃c n,(cs.foldl (j8 es fs) l)[k]'(by rw[oT];exact e)=⟨l[k].op,l[k].a,l[k].b,c,n⟩/\
 ((c=l[k].c/\n=l[k].n/\∀p∈cs,p.1.toNat≠k)∨∃p∈cs,p.1.toNat=k/\c=fs.getD p.2.toNat 0/\n=es.getD p.2.toNat 0):=by
 induction cs with
 |nil=>intro l k e;exact⟨_,_,rfl,.inl ⟨rfl,rfl,λp d=>by cases d⟩⟩
 |cons p cs u=>
  intro l k e;obtain⟨c,n,o,r⟩:=u (j8 es fs l p) k (by rw[ql];exact e)
  have y:(j8 es fs l p)[k]'(by rw[ql];exact e)=if p.1.toNat=k then⟨l[k].op,l[k].a,l[k].b,fs.getD p.2.toNat 0,es.getD p.2.toNat 0⟩ else l[k]:=by
   simp only[j8,GJ]
  rw[y]at o r;refine⟨c,n,?_,?_⟩
  .refine o.trans ?_;split<;>rfl
  .rcases r with⟨rfl,rfl,h⟩|⟨j,d,h⟩
   .by_cases f:p.1.toNat=k
    .rw[U_ f];exact .inr ⟨p,J,f,rfl,rfl⟩
    .rw[R_ f];refine .inl ⟨rfl,rfl,λj d=>?_⟩
     rcases M_.1 d with rfl|d
     .exact f
     .exact h j d
   .exact .inr ⟨j,by simp[d],h⟩
def xM{l:List In}{hC hH q:Int}{cs:List (Int × Int)}{ats:List (List Int)}{es fs:List Int}(h:o6 l hC cs ats q)(ao:q<l.length)(S:iB l ((l.length:Int)-1)=14)(hl:l.length<=2048)
 (V:∀k,1<=k->k<=2->iB l (es.getD k 0)=21) (W:∀k,1<=k->k<=2->2<=fs.getD k 0/\fs.getD k 0<=64) (t:0<=hH) (hv:hH<=64):ic (cs.foldl (j8 es fs) l) hH hC=true:=by
 have Y:=h.code.pos;have iN:=oT es fs cs l
 have y:∀n,iB (cs.foldl (j8 es fs) l) n=iB l n:=by
  intro n
  by_cases K:n<0∨(l.length:Int)<=n
  .rw[j9 K,j9 (by rw[iN];exact K)]
  .obtain⟨i,rfl,e,F⟩:=nv (l:=l) (n:=n) X X;obtain⟨c,B,j,_⟩:=oU es fs cs l i e;rw[F,nY (by rw[iN];exact e),j]
 have R:∀n:Int,0<=n->n<l.length->0<=iB l n:=by
  intro n A j;obtain⟨i,rfl,e,F⟩:=nv A j;rw[F];exact(h.code.fit i e).rng.1
 have g:∀k,k<l.length->∀d∈cs,d.1.toNat=k->iB l k=13:=by
  intro k hk d u Z;obtain⟨j,o,f,_⟩:=h.cs1 d u
  have:d.1=(k:Int):=X
  rw[<-this];exact f
 have Q:∀i,i<l.length->kW (cs.foldl (j8 es fs) l) i=true:=by
  intro i e;obtain⟨c,n,j,o⟩:=oU es fs cs l i e
  have H:(cs.foldl (j8 es fs) l).getD i default=⟨l[i].op,l[i].a,l[i].b,c,n⟩:=by
   rw[<-j];simp[List.getD,iN,e]
  have p:=h.code.fit i e;have hr:=p.rng
  have L:kW (cs.foldl (j8 es fs) l) i=jV (cs.foldl (j8 es fs) l) i ⟨l[i].op,l[i].a,l[i].b,c,n⟩ (i7.getD l[i].op.toNat default):=by unfold kW;rw[H]
  rw[L];clear L;clear j H;generalize hL:cs.foldl (j8 es fs) l=M at*;unfold PF at p
  by_cases z:l[i].op=13
  .rw[U_ z]at p;obtain⟨C,ad,hb,E,hn0⟩:=p
   have J:∃d∈cs,d.1.toNat=i/\c=fs.getD d.2.toNat 0/\n=es.getD d.2.toNat 0:=by
    rcases o with⟨_,_,f⟩|f
    .obtain⟨ae,D⟩:=h.cs2 i e z;exact FU (show((i:Int)).toNat=i by simp) (f _ D)
    .exact f
   obtain⟨d,u,_,rfl,rfl⟩:=J;obtain⟨_,_,_,br,U⟩:=h.cs1 d u;have D:=W d.2.toNat X X;have I:=V d.2.toNat X X;generalize fs.getD d.2.toNat 0=cR at*;generalize es.getD d.2.toNat 0=O at*
   have B:iB M ((i:Int)+1)=21:=by rw[y];exact E
   have m:i7.getD (13:Int).toNat default=⟨false,false,false,7⟩:=rfl;simp only[z,C,m];simp[jV,mi,B,y,I];omega
  .have G:c=l[i].c/\n=l[i].n:=by
    rcases o with⟨f,r,_⟩|⟨d,u,f,_⟩
    .exact⟨f,r⟩
    .have:=g i e d u f
     rw[nY e]at this;exact FU this z
   obtain⟨rfl,rfl⟩:=G;rw[R_ z]at p
   have w:∀(x:In) (s:Sh),jV M i x s=jV l i x s:=by intro x s;unfold jV;simp only[y]
   rw[w]
   show jV l i l[i] _=true
   by_cases B:l[i].op=11∨l[i].op=12
   .rw[U_ B]at p;obtain⟨C,J,O,I,U,E,v⟩:=p;have A:=R l[i].n I X
    show jV l i l[i] (i7.getD l[i].op.toNat default)=true
    generalize l[i]=x at*;obtain⟨op,a,b,cc,nn⟩:=x;simp only at C J O I U E v A B |-;subst J;subst O
    rcases B with rfl|rfl
    .have m:i7.getD (11:Int).toNat default=⟨false,false,false,6⟩:=rfl;rw[m];simp[jV,mi]at C |-;exact⟨C,⟨A,E⟩,v⟩
    .have m:i7.getD (12:Int).toNat default=⟨true,false,false,6⟩:=rfl;rw[m];simp[jV,mi]at C |-;exact⟨X,⟨A,E⟩,v⟩
   .rw[R_ B]at p;exact p
 have N:kl (cs.foldl (j8 es fs) l) 0=kl l 0/\jF (cs.foldl (j8 es fs) l)=jF l:=by
  constructor
  .refine qN _ _ iN (λi j o=>?_) 0;obtain⟨c,n,f,r⟩:=oU es fs cs l i o;rw[f];refine⟨rfl,λB=>?_⟩
   rcases r with⟨_,r,_⟩|⟨d,u,r,_⟩
   .exact r
   .have:=g i o d u r
    rw[nY o]at this;have C:l[i].op=21:=B;omega
  .refine rR iN λi j o=>?_
   obtain⟨c,n,f,r⟩:=oU es fs cs l i o;rw[f]
 unfold ic;rw[y,y,N.1,N.2,iN,h.code.ne,S,h.code.EK,h.wZ]
 have P:n6 (cs.foldl (j8 es fs) l)=true:=by
  unfold n6;rw[F4];intro i e;exact Q i (by rw[iN]at e;simpa using e)
 rw[P];simp;omega
structure iX where
 pv:Value
 vs:List ByteArray
 l:List In
 hC:Int
 es:List Int
 fs:List Int
 cs:List (Int × Int)
 hidden:Int
 most:Int
 ats:List (Nat × List Int)
 rts:List (Nat × List Int)
def iX.put(v:iX)(x:In):iX:={v with l:=v.l++[x]}
def iX.mark(v:iX):iX:={v with l:=v.l++[⟨21,0,0,0,v.hC⟩],hC:=v.hC+1}
def iX.here(v:iX)(is:List Int):iX:={v with l:=lM v.l.length v.l is}
def iX.more(v:iX):iX:={v with hidden:=v.hidden+1,most:=max v.most (v.hidden+1)}
def iX.less(v:iX):iX:={v with hidden:=v.hidden-1}
def iX.call(v:iX)(b f:Int):iX:={v with l:=v.l++[⟨13,0,b,0,0⟩],cs:=v.cs++[((v.l.length:Int),f)]}
def iX.push(v:iX)(x:Nat):iX:={v with ats:=v.ats++[(x,[])]}
def iX.pop(v:iX):iX:={v with ats:=v.ats.dropLast,rts:=v.rts++v.ats.getLast?.toList}
def iX.drop(v:iX)(r:List (Nat × List Int)):iX:={v with rts:=r}
def qV(i:Int):List (Nat × List Int)->List (Nat × List Int)
 |[]=>[]
 |[a]=>[(a.1,a.2++[i])]
 |a::b::l=>a::qV i (b::l)
def iX.protect(v:iX):iX:={v with l:=v.l++[⟨17,0,0,0,0⟩],ats:=qV v.l.length v.ats}
structure GK(v:iX)(q:Int)(D:Nat):Prop where
 ok:o6 v.l v.hC v.cs (v.ats.map (·.2)) q
 h0:0<=v.hidden
 hD:v.hidden+D<=10
 m0:0<=v.most
 m1:v.most<=10
 v0:2<=v.vs.length
 v1:v.vs.length<=9
 al:v.ats.length+D<=20
structure GP(v v':iX)(n:Nat):Prop where
 pv:v'.pv=v.pv
 vs:v'.vs=v.vs
 es:v'.es=v.es
 fs:v'.fs=v.fs
 hid:v'.hidden=v.hidden
 rt:v'.rts=v.rts
 pW:v'.ats.map (·.1)=v.ats.map (·.1)
 len:v'.l.length<=v.l.length+n
 kp:q3 v.l v'.l
section
variable{v v' v'':iX}{q q':Int}{D n m:Nat}
def GP.refl(v:iX):GP v v 0:=⟨rfl,rfl,rfl,rfl,rfl,rfl,rfl,H_ _,q3.refl _⟩
def GP.trans(h:GP v v' n)(k:GP v' v'' m):GP v v'' (n+m):=⟨k.pv.trans h.pv,k.vs.trans h.vs,k.es.trans h.es,k.fs.trans h.fs,k.hid.trans h.hid,k.rt.trans h.rt,k.pW.trans h.pW,by have:=h.len;have:=k.len;omega,h.kp.trans k.kp⟩
def GP.le(h:GP v v' n)(c:n<=m):GP v v' m:={h with len:=G_ h.len X}
def GK.le{E:Nat}(h:GK v q D)(c:E<=D):GK v q E:={h with hD:=by have:=h.hD;omega,al:=by have:=h.al;omega}
def GP.r9(h:GP v v' n):v'.ats.length=v.ats.length:=by have:=Z_ List.length h.pW;simpa using this
def GK.of(h:GK v q D)(k:GP v v' n)(c:GK v' q' 0):GK v' q' D:={c with hD:=by rw[k.hid];exact h.hD,al:=by rw[k.r9];exact h.al}
def GK.simp(h:GK v q D){x:In}(c:lJ x=true):GK (v.put x) v.l.length D:={h with ok:=h.ok.simp c}
def GP.put(v:iX)(x:In):GP v (v.put x) 1:=⟨rfl,rfl,rfl,rfl,rfl,rfl,rfl,by simp[iX.put],q3.app _ _⟩
def GK.mark(h:GK v q D):GK v.mark v.l.length D:={h with ok:=h.ok.mark}
def GP.mark(v:iX):GP v v.mark 1:=⟨rfl,rfl,rfl,rfl,rfl,rfl,rfl,by simp[iX.mark],q3.app _ _⟩
def GK.jump(h:GK v q D)(o n:Int)(d:o=11∨o=12)(c:iB v.l n=21):GK (v.put ⟨o,0,0,0,n⟩) v.l.length D:={h with ok:=h.ok.jump o n d c}
def GK.v6(h:GK v q D)(o:Int)(c:o=11∨o=12):GK (v.put ⟨o,0,0,0,0⟩) v.l.length D:=h.jump o 0 c h.ok.code.ne
def GK.here(h:GK v q D)(e:Int)(c:iB v.l e=11∨iB v.l e=12):GK (v.here [e]) v.l.length D:={h with ok:=h.ok.here e c}
def GK.ask(h:GK v q D)(c:q<v.l.length)(e:iB v.l ((v.l.length:Int)-1)=21)(n:Int)(h0:0<=n)(d:n<64):GK (v.put ⟨20,0,0,0,n⟩) v.l.length D:={h with ok:=h.ok.ask c e n h0 d}
def GP.here(v:iX)(is:List Int):GP v (v.here is) 0:=⟨rfl,rfl,rfl,rfl,rfl,rfl,rfl,by simp[iX.here,i9],q3.set _ _ _⟩
def GK.tv(h:GK v q D)(a:List Int)(c:∀i∈a,iB v.l i=17):GK (v.here a).mark v.l.length D:={h with ok:=h.ok.tv a c}
def GK.wn(h:GK v q D)(b f:Int)(o:0<=b)(c:b<=2)(C:1<=f)(d:f<=2):GK (v.call b f).mark v.l.length D:=by
 refine{h with ok:=?_}
 .have:=h.ok.call b f o c C d
  show o6 ((v.l++[_])++[_]) _ _ _ _
  rw[Gc];exact this
def GP.call(v:iX)(b f:Int):GP v (v.call b f) 1:=⟨rfl,rfl,rfl,rfl,rfl,rfl,rfl,by simp[iX.call],q3.app _ _⟩
def oy(v:iX){x:In}:iB (v.put x).l v.l.length=x.op:=mj _ _ _
def GK.more(h:GK v q (D+1)):GK v.more q D:=
 {ok:=h.ok,h0:=by have:=h.h0;show 0<=v.hidden+1;omega,hD:=by have:=h.hD;show v.hidden+1+D<=10;omega,m0:=by have:=h.m0;show 0<=max v.most (v.hidden+1);omega,
  m1:=by have:=h.m1;have:=h.hD;show max v.most (v.hidden+1)<=10;omega,v0:=h.v0,v1:=h.v1,al:=by have:=h.al;show v.ats.length+D<=20;omega}
def rA(i:Int):∀l:List (Nat × List Int),(qV i l).map (·.1)=l.map (·.1)
 |[]=>rfl
 |[a]=>rfl
 |a::b::l=>by simp only[qV,Gm];rw[rA i (b::l)];rfl
def rz(i:Int):∀(l:List (Nat × List Int)) (a:Nat × List Int),a∈qV i l->a∈l∨∃b∈l,a=(b.1,b.2++[i])
 |[],a,h=>by cases h
 |[b],a,h=>by
  have:a=(b.1,b.2++[i]):=by simpa[qV]using h
  exact .inr ⟨b,J,this⟩
 |b::c::l,a,h=>by
  rcases M_.1 h with rfl|h
  .exact .inl J
  .rcases rz i (c::l) a h with h|⟨d,e,f⟩
   .exact .inl (FX _ h)
   .exact .inr ⟨d,FX _ e,f⟩
def GK.protect(h:GK v q D):GK v.protect v.l.length D:=by
 refine{h with ok:=?_,al:=by have o:v.protect.ats.length=v.ats.length:=(show(qV v.l.length v.ats).length=_ by have:=Z_ List.length (rA v.l.length v.ats);simpa using this);rw[o];exact h.al}
 .have p:lJ ⟨17,0,0,0,0⟩=true:=O;have f:=h.ok.simp p;refine{f with pW:=?_,r9:=?_}
  .intro a k i d;obtain⟨e,j,rfl⟩:=FQ.1 k
   rcases rz _ _ _ j with c|⟨b,c,rfl⟩
   .exact f.pW e.2 (FQ.2 ⟨e,c,rfl⟩) i d
   .rcases X_.1 d with d|d
    .exact f.pW b.2 (FQ.2 ⟨b,c,rfl⟩) i d
    .have:i=(v.l.length:Int):=zu d
     subst this;exact⟨X,by simp[iX.protect];omega,mj _ _ _⟩
  .intro a k;obtain⟨e,j,rfl⟩:=FQ.1 k
   rcases rz _ _ _ j with c|⟨b,c,rfl⟩
   .exact f.r9 e.2 (FQ.2 ⟨e,c,rfl⟩)
   .have:=h.ok.r9 b.2 (FQ.2 ⟨b,c,rfl⟩)
    simp[iX.protect];exact this
def GP.protect(v:iX):GP v v.protect 1:=⟨rfl,rfl,rfl,rfl,rfl,rfl,rA _ _,by simp[iX.protect],q3.app _ _⟩
def GK.push(h:GK v q (D+1))(x:Nat):GK (v.push x) q D:=by
 refine{h with ok:=?_,hD:=by have:=h.hD;show v.hidden+D<=10;omega,al:=by have:=h.al;simp[iX.push];omega}
 .refine{h.ok with pW:=?_,r9:=?_}
  .intro a c i e
   have d:a∈v.ats.map (·.2)∨a=[]:=by simpa[iX.push]using c
   rcases d with c|rfl
   .exact h.ok.pW a c i e
   .cases e
  .intro a c
   have d:a∈v.ats.map (·.2)∨a=[]:=by simpa[iX.push]using c
   rcases d with c|rfl
   .exact h.ok.r9 a c
   .simp
def o6.pop{l:List In}{hC:Int}{cs:List (Int × Int)}{a b:List (List Int)}(h:o6 l hC cs a q)(d:∀x∈b,x∈a):o6 l hC cs b q:=
 {h with pW:=λx c=>h.pW x (d x c),r9:=λx c=>h.r9 x (d x c)}
def GP.Dt(h:GP (v.push x) v' n)(k:GP v'.pop v'' m):GP v (v''.drop v.rts) (n+m):=
 {pv:=k.pv.trans h.pv,vs:=k.vs.trans h.vs,es:=k.es.trans h.es,fs:=k.fs.trans h.fs,hid:=k.hid.trans h.hid,rt:=rfl,
  len:=by have c:v'.l.length<=v.l.length+n:=h.len;have d:v''.l.length<=v'.l.length+m:=k.len;show v''.l.length<=v.l.length+(n+m);omega
  kp:=h.kp.trans k.kp
  pW:=by
   have c:=Z_ List.dropLast h.pW;simp[iX.push,<-List.map_dropLast]at c;have d:=k.pW
   show v''.ats.map _=_
   rw[d]
   simpa[iX.pop,List.map_dropLast]using c}
def GP.DX(h:GP (v.push x) v' n):∃l is,v'.ats=l++[(x,is)]/\v'.pop.rts=v.rts++[(x,is)]:=by
 have d:=h.pW;simp only[iX.push,FV,Gm,GZ]at d
 rcases List.eq_nil_or_concat v'.ats with c|⟨l,a,c⟩
 .rw[c]at d;simp at d
 .rw[List.concat_eq_append]at c;rw[c,FV]at d;have j:=List.append_inj_right' d rfl;have e:=zu j;refine⟨l,a.2,by rw[c,<-e],?_⟩;have f:v'.rts=v.rts:=h.rt;simp only[iX.pop,f];rw[c,<-e];simp
def GK.D9(h:GK v q (D+1))(k:GP (v.push x) v' n)(c:GK v' q' 0):GK v'.pop q' (D+1):=
 {ok:=c.ok.pop λp f=>by
   obtain⟨j,e,rfl⟩:=FQ.1 f;exact FQ.2 ⟨j,(List.dropLast_sublist _).subset e,rfl⟩
  h0:=c.h0,hD:=by have:v'.hidden=v.hidden:=k.hid;have:=h.hD;show v'.hidden+_<=10;omega,m0:=c.m0,m1:=c.m1,v0:=c.v0,v1:=c.v1
  al:=by
   have d:=k.r9;have o:=h.al;simp only[iX.push,J_,HL]at d
   show(v'.ats.dropLast).length+_<=20
   rw[List.length_dropLast]
   omega}
def GK.El(h:GK v q D)(r:List (Nat × List Int)):GK (v.drop r) q D:={h with}
def GP.more(h:GP v.more v' n):GP v v'.less n:=
 {pv:=h.pv,vs:=h.vs,es:=h.es,fs:=h.fs,pW:=h.pW,len:=h.len,kp:=h.kp,rt:=h.rt,hid:=by
   show v'.hidden-1=v.hidden
   rw[h.hid]
   show v.hidden+1-1=v.hidden
   omega}
def GK.less(h:GK v q D)(k:GK v' q' 0)(d:v'.hidden=v.hidden+1)(c:v'.ats.length=v.ats.length):GK v'.less q' D:=
 {k with h0:=by show 0<=v'.hidden-1;have:=h.h0;omega,hD:=by show v'.hidden-1+D<=10;have:=h.hD;omega,al:=by show v'.ats.length+D<=20;rw[c];exact h.al}
end
