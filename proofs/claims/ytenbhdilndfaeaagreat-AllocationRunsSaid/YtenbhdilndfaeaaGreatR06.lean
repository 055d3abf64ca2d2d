import Derived.Test.YtenbhdilndfaeaaGreatR05
set_option maxRecDepth 100000
set_option maxHeartbeats 0
set_option linter.all false
namespace Go.Proofs.YtenbhdilndfaeaaGreat
open Go.RowKit Go.Proofs.Tryz
variable{G:Prop}{g i x:Nat}{t:TypeId}{s:Sh}
def KX(h:G:=by
 intro n hn;rw[hk.2 n,hn]
 rcases HX n l.length with h|h
 .exact h
 .rw[j2 (.inr h)]at hn;simp at hn):G:=h
def LD(h:G:=by
 obtain⟨h1,h2,h3,ar⟩:=h.cs1 p hp;exact⟨h1,p_,by rw[lh _ h2];exact h3,ar⟩):G:=h
def LK(h:G:=by
 obtain⟨h1,h2,h3⟩:=h.qq a ha i hi;exact⟨h1,p_,by rw[lh _ h2];exact h3⟩):G:=h
def ig{P:Program}{f:FuncId}{a:Array Value}{w:World}{i:Ending->World->Prop}(h:∀Q,Hid (Q=i)->Calls P f a w Q):Calls P f a w i:=h i (O rfl)
def box1(w:World)(t:TypeId)(cs:Array Value):∃(W:World) (g:Nat),w.alloc (.cells cs t)=W/\w.heap.size=g/\J [] w W/\Bk W g t cs:=
 ⟨_,_,rfl,rfl,(H [] w).alloc _,Q_ w t cs⟩
def DC(w:World)(d:TypeId)(c:Array Value)(e:TypeId)(f:Array Value):∃(W:World) (g h:Nat),(w.alloc (.cells c d)).alloc (.cells f e)=W/\w.heap.size=g/\g+1=h/\J [] w W/\Bk W g d c/\Bk W h e f:=
 ⟨_,_,_,rfl,rfl,rfl,((H [] w).alloc _).alloc _,(Q_ w d c).alloc _,by simpa using Q_ (w.alloc (.cells c d)) e f⟩
structure Gt(base:Nat)(T:List TypeId)(a w:World):Prop where
 os:w.os=a.os
 tape:w.tape=a.tape
 output:w.output=a.output
 size:a.heap.size<=w.heap.size
 block:∀k,k<a.heap.size->(k<base∨∀cs t fz,a.heap[k]?=some (.cells cs t fz)->t∉T)->w.heap[k]?=a.heap[k]?
section
variable{base:Nat}{T:List TypeId}{a b w w':World}
def Gt.trans(h:Gt base T a b)(k:Gt base T b w):Gt base T a w:=
 ⟨k.os.trans h.os,k.tape.trans h.tape,k.output.trans h.output,G_ h.size k.size,λi c e=>
   (k.block i (GC c h.size) (e.imp id λd cs t j f=>d cs t j ((h.block i c (.inr d)).symm.trans f))).trans (h.block i c e)⟩
def Gt.jX(h:J [] a w):Gt base T a w:=⟨h.os,h.tape,h.output,h.size,λi c _=>h.block i c s_⟩
def Gt.refl(base:Nat)(T:List TypeId)(w:World):Gt base T w w:=.jX (H [] w)
def Gt.one{cs:Array Value}(h:J [g] a w)(k:base<=g)(j:Bk a g t cs)(e:t∈T):Gt base T a w:=
 ⟨h.os,h.tape,h.output,h.size,λi f c=>h.block i f (by
   intro d
   have:i=g:=zu d
   subst this
   rcases c with c|c
   .omega
   .exact c _ _ _ j e)⟩
def Gt.set{cs:Array Value}(e:Bk w g t cs)(d:base<=g)(c:t∈T)(i:Nat)(u:Value):Gt base T w (w.setCell (Z g i) u):=
 .one ((H [g] w).setCell (p:=(Z g i)) (.inl s_) u) d e c
def Gt.grown{e:Option Nat}(h:w.grownBy w' e)(p:∀g,e=some g->base<=g/\∃cs t d,w.heap[g]?=some (.cells cs t d)/\t∈T):Gt base T w w':=
 ⟨h.os,h.tape,h.output,h.size,λi o c=>h.block i o (by
   intro f;obtain⟨r,cs,t,d,j,k⟩:=p i f.symm
   rcases c with c|c
   .omega
   .exact c _ _ _ j k)⟩
def Gt.gr(h:Gt base T a w)(d:a.heap.size<=base):J [] a w:=⟨h.os,h.tape,h.output,h.size,λi c _=>h.block i c (.inl X)⟩
def Gt.le{d:Nat}(h:Gt base T a w)(f:d<=base):Gt d T a w:=⟨h.os,h.tape,h.output,h.size,λi c e=>h.block i c (e.imp (λh=>by omega) id)⟩
def Bk.gt{cs:Array Value}(h:Bk a g t cs)(k:Gt base T a w)(d:t∉T):Bk w g t cs:=
 (k.block g h.lt (.inr λe j f c=>by unfold Bk at h;rw[h]at c;injection c with c;injection c with _ c;subst c;exact d)).trans h
def Sl.gt{e:TypeId}{d n:Nat}{A:OA}{xs:List Value}(h:Sl a e d A n xs)(k:Gt base T a w)(f:e∉T):Sl w e d A n xs:=
 ⟨h.1,λr=>by
   obtain⟨b,u,cs,o,j,c,p⟩:=h.2 r
   exact⟨b,u,cs,o,j,(k.block b (mK c) (.inr λy B z q=>by rw[c]at q;injection q with q;injection q with _ q;subst q;exact f)).trans c,p⟩⟩
def kl.gt{p:Nat->Prop}{t:ET}(h:kl p a t)(k:Gt base T a w)(c:226∉T):kl p w t:=by
 induction h with
 |mk t h f e _ d=>exact .mk t (h.gt k c) f e d
def jD.gt{p:Nat->Prop}{t:ST}(h:jD p a t)(k:Gt base T a w)(c:226∉T)(d:229∉T):jD p w t:=by
 induction h with
 |mk t A y o B j u F _ C z r _ e f=>exact .mk t (A.gt k c) y o (λH E=>(B H E).gt k c) (j.gt k d) u F e (C.gt k d) z r f
end
def ob{l:List In}(h:i<l.length):h5 l i=l[i].op:=by
 unfold h5;rw[I_ X];simp[List.getD,h]
def j2{l:List In}{n:Int}(h:n<0∨(l.length:Int)<=n):h5 l n= -1:=by unfold h5;rw[O_ h]
def nz{l:List In}{n:Int}(h0:0<=n)(c:n<l.length):∃i:Nat,n=i/\∃h:i<l.length,h5 l n=l[i].op:=by
 refine⟨n.toNat,X,X,?_⟩;exact(FN (h5 l) (show n=(n.toNat:Int) by omega)).trans (ob X)
def lh{l:List In}{n:Int}(a:List In)(h:n<l.length):h5 (l++a) n=h5 l n:=by
 by_cases d:0<=n
 .obtain⟨i,rfl,e,c⟩:=nz d h;rw[c,ob p_,Gi e]
 .rw[j2 (.inl X),j2 (.inl X)]
def mm(l:List In)(x:In)(a:List In):h5 (l++x::a) l.length=x.op:=by
 rw[ob s_];simp
def In.pp(x:In)(v:Int):In:=⟨x.op,x.a,x.b,x.c,v⟩
def mh(v:Int)(l:List In)(i:Int):List In:=l.modify i.toNat (In.pp · v)
def lQ(v:Int)(l:List In)(is:List Int):List In:=is.foldl (mh v) l
def lH(v:Int)(l:List In)(i:Int):(mh v l i).length=l.length:=by simp[mh]
def i7(v:Int)(is:List Int):∀l:List In,(lQ v l is).length=l.length:=by
 induction is with
 |nil=>intro l;rfl
 |cons i is c=>intro l;exact(c _).trans (lH v l i)
def uQ(v:Int)(l:List In)(i:Int)(k:Nat)(c:k<l.length):(mh v l i)[k]'(by rw[lH];exact c)=if i.toNat=k then l[k].pp v else l[k]:=by
 simp only[mh,Gw]
def mH(v:Int)(is:List Int):∀(l:List In) (k:Nat) (j:k<l.length),(lQ v l is)[k]'(by rw[i7];exact j)=if ∃i∈is,i.toNat=k then l[k].pp v else l[k]:=by
 induction is with
 |nil=>intro l k j;simp[lQ]
 |cons i is o=>
  intro l k j;have r:=o (mh v l i) k (by rw[lH];exact j);have p:lQ v l (i::is)=lQ v (mh v l i) is:=rfl;simp only[p];rw[r];rw[uQ v l i k j]
  by_cases d:i.toNat=k
  .by_cases e:∃c∈is,c.toNat=k
   .rw[O_ e,O_ d,O_ ⟨i,s_,d⟩]
    rfl
   .rw[I_ e,O_ d,O_ ⟨i,s_,d⟩]
  .by_cases e:∃c∈is,c.toNat=k
   .obtain⟨c,f,h⟩:=e;rw[O_ ⟨c,f,h⟩,I_ d,O_ ⟨c,by simp[f],h⟩]
   .rw[I_ e,I_ d,I_];rintro⟨c,f,h⟩
    rcases N_.1 f with rfl|f
    .exact d h
    .exact e ⟨c,f,h⟩
def oB(v:Int)(is:List Int)(l:List In)(n:Int):h5 (lQ v l is) n=h5 l n:=by
 by_cases c:n<0∨(l.length:Int)<=n
 .rw[j2 c,j2 (by rw[i7];exact c)]
 .obtain⟨i,rfl,d,e⟩:=nz (l:=l) (n:=n) X X;rw[e,ob (by rw[i7];exact d),mH v is l i d];split<;>rfl
def rG(l l':List In):Prop:=l.length<=l'.length/\∀n:Int,n<l.length->h5 l' n=h5 l n
def rG.refl(l:List In):rG l l:=⟨H_ _,λ_ _=>rfl⟩
def rG.trans{a b c:List In}(h:rG a b)(k:rG b c):rG a c:=⟨G_ h.1 k.1,λn d=>(k.2 n (by have:=h.1;omega)).trans (h.2 n d)⟩
def rG.app(l a:List In):rG l (l++a):=⟨by simp,λ_ c=>lh a c⟩
def rG.set(v:Int)(l:List In)(is:List Int):rG l (lQ v l is):=⟨by rw[i7];exact H_ _,λn _=>oB v is l n⟩
def PF(l:List In)(q:Int)(i:Nat)(x:In):Prop:=
 if x.op=13 then x.a=0/\0<=x.b/\x.b<=2/\h5 l ((i:Int)+1)=21/\h5 l x.n=21
 else if x.op=11∨x.op=12 then mj x.a (x.op==12)=true/\x.b=0/\x.c=0/\0<=x.n/\x.n<=q/\h5 l x.n≠20/\((i:Int)<x.n∨h5 l x.n=21)
 else jF l i x (iK.getD x.op.toNat default)=true
structure ni(l:List In)(q:Int):Prop where
 ne:h5 l 0=21
 fit:∀i (h:i<l.length),PF l q i l[i]
 EE:kh l 0=true
def ni.pos{l:List In}{q:Int}(h:ni l q):0<l.length:=by
 rcases GI l.length with c|c
 .have d:=h.ne;rw[j2 (.inr X)]at d;simp at d
 .exact c
def BG{l c:List In}(hk:rG l c)(i:Nat)(x:In)(p:x.op≠13)(r:s.n≠6)(e:s.n≠7)(y:i<=l.length)(h:jF l i x s=true):jF c i x s=true:=by
 have u:∀n:Int,h5 l n=21->h5 c n=21:=KX;have a:h5 c ((i:Int)-1)=h5 l ((i:Int)-1):=hk.2 _ X;unfold jF at h |-;have o:(x.op==13)=false:=zu p;rw[o]at h |-;simp only[Bool.false_and,Hx]at h |-;rw[I_ r,I_ e]at h |-;rw[a];split at h
 .simp at h
 .rename_i k;rw[I_ k];split at h
  .simp at h
  .rename_i j;rw[I_ j];split at h
   .simp at h
   .rename_i f;rw[I_ f]
    by_cases d:s.n=8
    .rw[d]at h |-;simp at h |-
     rcases h with h|h
     .exact .inl h
     .exact .inr (u _ h)
    .rw[I_ d]at h |-;exact h
def Fe(k:Nat)(h:k<=21):((iK.getD k default).n=6↔k=11∨k=12)/\((iK.getD k default).n=7↔k=13):=by
 have:∀k,k<22->((iK.getD k default).n=6↔k=11∨k=12)/\((iK.getD k default).n=7↔k=13):=I
 exact this k X
def uY{l:List In}{x:In}(h:jF l i x s=true):0<=x.op/\x.op<=21:=by
 unfold jF at h;split at h
 .simp at h
 .omega
def PF.rng{l:List In}{q:Int}{x:In}(h:PF l q i x):0<=x.op/\x.op<=21:=by
 unfold PF at h;split at h
 .omega
 .split at h
  .omega
  .exact uY h
def PF.kp{l e:List In}{q q':Int}{x:In}(hk:rG l e)(B:i<l.length)(V:q<=q')(hn:q<l.length∨h5 e l.length≠20)(a:q<=l.length)(h:PF l q i x):PF e q' i x:=by
 have k:∀n:Int,h5 l n=21->h5 e n=21:=KX;have C:=h.rng;unfold PF at h |-;split at h
 .rename_i c;rw[O_ c];exact⟨h.1,h.2.1,h.2.2.1,k _ h.2.2.2.1,k _ h.2.2.2.2⟩
 .rename_i c;rw[I_ c];split at h
  .rename_i d;rw[O_ d];obtain⟨u,y,z,p,A,f,j⟩:=h;refine⟨u,y,z,p,X,?_,j.imp id (k _)⟩
   by_cases o:x.n<l.length
   .rw[hk.2 _ o];exact f
   .have r:x.n=l.length:=X;rw[r];exact hn.resolve_left X
  .rename_i d;rw[I_ d];have o:=Fe x.op.toNat X;exact BG hk i x c (λf=>d (ov (o.1.1 f))) (λj=>c (ov (o.2.1 j))) X h
def xZ(l a:List In):∀m:Int,kh (l++a) m=(kh l m&&kh a (m+jA l)):=by
 induction l with
 |nil=>intro m;simp[kh,jA]
 |cons x l e=>
  intro m
  by_cases c:x.op=21
  .have d:jA (x::l)=jA l+1:=by simp[jA,c]
   simp only[Hs,kh,c,if_true,e,d,Bool.and_assoc];rw[show m+1+jA l=m+(jA l+1) by omega]
  .have d:jA (x::l)=jA l:=by simp[jA,c]
   simp only[Hs,kh,c,if_false,e,d]
def rT(l a:List In):jA (l++a)=jA l+jA a:=by simp[jA]
def ni.app{l:List In}{q:Int}(h:ni l q)(a:List In)(V:q<l.length∨(q=l.length/\∃k t,a=k::t/\k.op≠20))(q':Int)(b:q<=q')
 (p:∀d (u:d<a.length),PF (l++a) q' (l.length+d) a[d]) (e:kh a (jA l)=true):ni (l++a) q':=by
 have f:=rG.app l a;refine⟨?_,λi r=>?_,?_⟩
 .rw[lh a (ov h.pos)];exact h.ne
 .by_cases c:i<l.length
  .rw[Gi c];refine(h.fit i c).kp f c b ?_ (by rcases V with h|h<;>omega)
   rcases V with j|⟨_,k,t,rfl,o⟩
   .exact .inl j
   .right;rw[mm];exact o
  .rw[Gu X]
   have:=p (i-l.length) (by rw[K_]at r;omega)
   rwa [show l.length+(i-l.length)=i by omega]at this
 .rw[xZ,h.EE,Int.zero_add,e]
  rfl
def ni.q{l:List In}{q q':Int}(h:ni l q)(V:q<=q')(a:q<=l.length):ni l q':=by
 refine⟨h.ne,λi c=>(h.fit i c).kp (rG.refl l) c V ?_ a,h.EE⟩;right;rw[j2 (.inr (FR _))]
 decide
def rj:∀(l c:List In),l.length=c.length->(∀i (h:i<l.length) (u:i<c.length),l[i].op=c[i].op/\(l[i].op=21->l[i].n=c[i].n))->∀m,kh l m=kh c m:=by
 intro l
 induction l with
 |nil=>
  intro c f _ m
  have:c=[]:=Ga f.symm
  subst this
  rfl
 |cons x l o=>
  intro c f h m
  cases c with
  |nil=>simp at f
  |cons k c=>
   have e:=h 0 s_ s_;simp only[GD]at e;have a:=o c (zu f) (λi p r=>h (i+1) p_ p_)
   by_cases d:x.op=21
   .have j:k.op=21:=by rw[<-e.1];exact d
    simp only[kh,O_ d,O_ j,a,e.2 d]
   .have j:¬k.op=21:=by rw[<-e.1];exact d
    simp only[kh,I_ d,I_ j,a]
def sw{l c:List In}(k:l.length=c.length)(h:∀i (h:i<l.length) (o:i<c.length),l[i].op=c[i].op):jA l=jA c:=by
 have e:l.map In.op=c.map In.op:=by
  refine GM (zu k) λi f j=>?_
  simp only[Gg];exact h i (zu f) (zu j)
 have d:∀l:List In,jA l=((l.map In.op).filter (· ==21)).length:=by
  intro l;simp[jA,List.filter_map,Function.comp_def]
 rw[d,d,e]
def ni.Ch{l:List In}{q:Int}(h:ni l q)(is:List Int)(v:Int)(q':Int)(V:q<=q')(a:q<=l.length)
 (f:∀i (h:i<l.length),(∃o∈is,o.toNat=i)->l[i].op≠21/\PF l q' i (l[i].pp v)):ni (lQ v l is) q':=by
 have iG:=i7 v is l;have j:=oB v is l
 have b:∀i x,PF l q' i x->PF (lQ v l is) q' i x:=by
  intro i x e;unfold PF at e |-;unfold jF at e |-;simp only[j];exact e
 refine⟨by rw[j];exact h.ne,λi k=>?_,?_⟩
 .have c:i<l.length:=by rw[<-iG];exact k
  rw[mH v is l i c];split
  .rename_i d;exact b i _ (f i c d).2
  .exact b i _ (((h.q V a).fit i c))
 .rw[rj (lQ v l is) l iG (λi p c=>?_)]
  .exact h.EE
  .rw[mH v is l i c];split
   .rename_i d;exact⟨rfl,λt=>U_ t (f i c d).1⟩
   .exact⟨rfl,λ_=>rfl⟩
structure po(l:List In)(g9:Int)(cs:List (Int × Int))(ats:List (List Int))(q:Int):Prop where
 code:ni l q
 xE:g9=jA l
 cs1:∀p∈cs,0<=p.1/\p.1<l.length/\h5 l p.1=13/\1<=p.2/\p.2<=2
 cs2:∀i (h:i<l.length),l[i].op=13->∃f,((i:Int),f)∈cs
 qq:∀a∈ats,∀i∈a,0<=i/\i<l.length/\h5 l i=17
 q:q<=l.length
 Af:cs.length<=l.length
 sK:∀a∈ats,a.length<=l.length
section
variable{l:List In}{g9:Int}{cs:List (Int × Int)}{ats:List (List Int)}{q:Int}
def po.put(h:po l g9 cs ats q)(x:In)(j:x.op≠13)(t:x.op≠21)(f:x.op≠20∨q<l.length)(k:PF (l++[x]) l.length l.length x):po (l++[x]) g9 cs ats l.length where
 code:=h.code.app [x] (by
  rcases f with f|f
  .rcases HX q l.length with d|d
   .exact .inl d
   .exact .inr ⟨ov h.q,x,[],rfl,f⟩
  .exact .inl f) _ h.q (λo d=>by
   have:o=0:=zu d
   subst this
   exact k) (by simp[kh,t])
 xE:=by rw[rT,h.xE];simp[jA,t]
 cs1:=λp hp=>by
  exact LD
 cs2:=λi hi c=>by
  by_cases e:i<l.length
  .rw[Gi e]at c;exact h.cs2 i e c
  .rw[Gu X]at c;simp at c;exact U_ c j
 qq:=λa ha i hi=>by
  exact LK
 q:=by simp;omega
 Af:=by have:=h.Af;simp;omega
 sK:=λa ha=>by have:=h.sK a ha;simp;omega
def lL(x:In):Bool:=jF [] 0 x (iK.getD x.op.toNat default)&&(x.op !=11)&&(x.op !=12)&&(x.op !=13)&&(x.op !=20)&&(x.op !=21)&&(x.op !=17||x.n==0)
def PF.simp{l:List In}{q:Int}{x:In}(h:lL x=true):PF l q i x:=by
 unfold lL at h;simp only[FP,bne_iff_ne,ne_eq]at h;obtain⟨⟨⟨⟨⟨⟨c,A⟩,B⟩,k⟩,z⟩,t⟩,f⟩:=h;have C:=uY c;have o:=Fe x.op.toNat X
 have r:¬(iK.getD x.op.toNat default).n=6:=λd=>by have:=o.1.1 d;omega
 have u:¬(iK.getD x.op.toNat default).n=7:=λd=>by have:=o.2.1 d;omega
 have p:(iK.getD x.op.toNat default).n=8->x.op=17:=by
  have:∀e,e<22->(iK.getD e default).n=8->e=17:=I
  intro d
  have:=this x.op.toNat X d
  omega
 unfold PF;rw[I_ k,I_ X];generalize iK.getD x.op.toNat default=s at*;unfold jF at c |-;have y:(x.op==13)=false:=zu k;have a:(x.op !=20)=true:=zu z;rw[y,a]at c |-;simp only[Bool.false_and,Hx,HY]at c |-;rw[I_ r,I_ u]at c |-
 by_cases j:s.n=8
 .have b:(x.n==0)=true:=by
   have g:=p j;rw[g]at f
   simpa using f
  rw[b]at c |-
  simpa using c
 .rw[I_ j]at c |-;exact c
def po.simp(h:po l g9 cs ats q){x:In}(d:lL x=true):po (l++[x]) g9 cs ats l.length:=by
 have c:=d;unfold lL at c;simp only[FP,bne_iff_ne,ne_eq]at c;obtain⟨⟨⟨⟨⟨⟨_,_⟩,_⟩,f⟩,e⟩,t⟩,_⟩:=c;exact h.put x f t (.inl e) (PF.simp d)
def po.mark(h:po l g9 cs ats q):po (l++[⟨21,0,0,0,g9⟩]) (g9+1) cs ats l.length where
 code:=h.code.app [⟨21,0,0,0,g9⟩] (by
  rcases HX q l.length with d|d
  .exact .inl d
  .exact .inr ⟨ov h.q,_,[],rfl,s_⟩) _ h.q (λj f=>by
   have:j=0:=zu f
   subst this
   show PF _ _ _ (⟨21,0,0,0,g9⟩:In)
   unfold PF;rw[I_ s_,I_ s_]
   simp[jF,iK,mj]) (by simp[kh,h.xE])
 xE:=by rw[rT,h.xE];simp[jA]
 cs1:=λp hp=>by
  exact LD
 cs2:=λi hi c=>by
  by_cases e:i<l.length
  .rw[Gi e]at c;exact h.cs2 i e c
  .rw[Gu X]at c;simp at c
 qq:=λa ha i hi=>by
  exact LK
 q:=by simp;omega
 Af:=by have:=h.Af;simp;omega
 sK:=λa ha=>by have:=h.sK a ha;simp;omega
def po.jump(h:po l g9 cs ats q)(e n:Int)(j:e=11∨e=12)(c:h5 l n=21):po (l++[⟨e,0,0,0,n⟩]) g9 cs ats l.length:=by
 have d:0<=n/\n<l.length:=by
  by_cases f:n<0∨(l.length:Int)<=n
  .rw[j2 f]at c;simp at c
  .omega
 refine h.put _ p_ p_ (.inl p_) ?_;unfold PF;rw[I_ p_,O_ (zu j)];refine⟨by simp[mj],rfl,rfl,d.1,p_,?_,.inr ?_⟩
 .rw[lh _ d.2,c]
  decide
 .rw[lh _ d.2,c]
def po.call(h:po l g9 cs ats q)(b f:Int)(G:0<=b)(o:b<=2)(C:1<=f)(d:f<=2):po (l++[⟨13,0,b,0,0⟩,⟨21,0,0,0,g9⟩]) (g9+1) (cs++[((l.length:Int),f)]) ats l.length where
 code:=h.code.app _ (by
  rcases HX q l.length with e|e
  .exact .inl e
  .exact .inr ⟨ov h.q,_,_,rfl,s_⟩) _ h.q (λk r=>by
   have hp:=h.code.pos
   rcases(by simp at r;omega:k=0∨k=1)with rfl|rfl
   .show PF _ _ _ (⟨13,0,b,0,0⟩:In)
    unfold PF;rw[O_ r_];refine⟨rfl,G,o,?_,?_⟩
    .have:(((l.length+0:Nat):Int)+1)=((l.length+1:Nat):Int):=X
     rw[this,ob s_,Gu X];simp
    .show h5 _ 0=21
     rw[lh _ X];exact h.code.ne
   .show PF _ _ _ (⟨21,0,0,0,g9⟩:In)
    unfold PF;rw[I_ s_,I_ s_]
    simp[jF,iK,mj]) (by simp[kh,h.xE])
 xE:=by rw[rT,h.xE];simp[jA]
 cs1:=λp hp=>by
  rcases T_.1 hp with hp|hp
  .exact LD
  .have:p=((l.length:Int),f):=zu hp
   subst this;exact⟨s_,p_,mm _ _ _,C,d⟩
 cs2:=λi hi c=>by
  by_cases j:i<l.length
  .rw[Gi j]at c;obtain⟨n,k⟩:=h.cs2 i j c;exact⟨n,FL _ k⟩
  .rw[Gu X]at c
   have k:i=l.length∨i=l.length+1:=by simp at hi;omega
   rcases k with rfl|rfl
   .exact⟨f,s_⟩
   .simp at c
 qq:=λa ha i hi=>by
  exact LK
 q:=by simp;omega
 Af:=by have:=h.Af;simp;omega
 sK:=λa ha=>by have:=h.sK a ha;simp;omega
def po.ask(h:po l g9 cs ats q)(V:q<l.length)(c:h5 l ((l.length:Int)-1)=21)(n:Int)(h0:0<=n)(e:n<64):po (l++[⟨20,0,0,0,n⟩]) g9 cs ats l.length:=by
 refine h.put _ s_ s_ (.inr V) ?_;unfold PF;rw[I_ s_,I_ s_]
 have d:h5 (l++[(⟨20,0,0,0,n⟩:In)]) ((l.length:Int)-1)=21:=by rw[lh _ X];exact c
 simp[jF,iK,mj,d];omega
def po.Ch(h:po l g9 cs ats q)(is:List Int)(v:Int)(q':Int)(V:q<=q')(r:q'<=l.length)
 (c:∀i (h:i<l.length),(∃y∈is,y.toNat=i)->l[i].op≠21/\PF l q' i (l[i].pp v)):po (lQ v l is) g9 cs ats q' where
 code:=h.code.Ch is v q' V h.q c
 xE:=by
  rw[h.xE];refine(sw (i7 v is l) λi e d=>?_).symm;rw[mH v is l i d];split<;>rfl
 cs1:=λz u=>by
  obtain⟨e,d,j,p⟩:=h.cs1 z u;exact⟨e,by rw[i7];exact d,by rw[oB];exact j,p⟩
 cs2:=λi c f=>by
  have o:=by rw[i7]at c;exact c
  rw[mH v is l i o]at f;refine h.cs2 i o ?_;split at f<;>exact f
 qq:=λa k i c=>by
  obtain⟨e,d,j⟩:=h.qq a k i c;exact⟨e,by rw[i7];exact d,by rw[oB];exact j⟩
 q:=by rw[i7];exact r
 Af:=by rw[i7];exact h.Af
 sK:=λa k=>by rw[i7];exact h.sK a k
def po.here(h:po l g9 cs ats q)(e:Int)(d:h5 l e=11∨h5 l e=12):po (lQ l.length l [e]) g9 cs ats l.length:=by
 have a:0<=e/\e<l.length:=by
  by_cases p:e<0∨(l.length:Int)<=e
  .rw[j2 p]at d;simp at d
  .omega
 refine h.Ch [e] _ _ h.q (FR _) λi u f=>?_
 obtain⟨r,f,rfl⟩:=f
 have:r=e:=zu f
 subst this;obtain⟨i,rfl,j,k⟩:=nz a.1 a.2;rw[k]at d;have c:=h.code.fit i j;have w:l[((i:Int).toNat)].op=11∨l[((i:Int).toNat)].op=12:=d;refine⟨X,?_⟩;unfold PF at c |-;rw[I_ X,O_ X]at c;have o:(l[((i:Int).toNat)].pp l.length).op=l[i].op:=rfl;rw[o,I_ X,O_ X];refine⟨c.1,c.2.1,c.2.2.1,by show(0:Int)<=(l.length:Int);omega,FR _,?_,.inl ?_⟩
 .show h5 l l.length≠20
  rw[j2 (.inr (FR _))]
  decide
 .show((i:Int).toNat:Int)<(l.length:Int)
  simpa using j
def po.tY(h:po l g9 cs ats q)(a:List Int)(u:∀i∈a,h5 l i=17):po (lQ l.length l a++[⟨21,0,0,0,g9⟩]) (g9+1) cs ats l.length:=by
 have A:=h.mark
 have I:(lQ (l.length:Int) l a)++[(⟨21,0,0,0,g9⟩:In)]=lQ l.length (l++[⟨21,0,0,0,g9⟩]) a:=by
  refine GM (by simp[i7]) λi N r=>?_
  have B:=by rw[i7]at r;exact r
  rw[mH _ _ _ i B]
  by_cases j:i<l.length
  .rw[Gi (by rw[i7];exact j),mH _ _ _ i j,Gi j]
  .rw[Gu (by rw[i7];omega),Gu X]
   have L:¬∃e∈a,e.toNat=i:=by
    rintro⟨e,f,s⟩
    have:=u e f
    have d:=h.code.pos;rw[j2 (.inr X)]at this;simp at this
   rw[I_ L];simp only[i7]
 rw[I]
 refine A.Ch a _ _ (FR _) p_ λi O f=>?_
 obtain⟨e,f,rfl⟩:=f;have k:=u e f
 have p:0<=e/\e<l.length:=by
  by_cases F:e<0∨(l.length:Int)<=e
  .rw[j2 F]at k;simp at k
  .omega
 obtain⟨i,rfl,y,z⟩:=nz p.1 p.2;have K:((i:Int)).toNat=i:=s_
 have H:(l++[(⟨21,0,0,0,g9⟩:In)])[((i:Int)).toNat]=l[i]:=by
  simp only[K];exact Gi y
 rw[H]
 have g:l[i].op=17:=by rw[<-z];exact k
 refine⟨X,?_⟩;have d:=h.code.fit i y;unfold PF at d |-;rw[I_ X,I_ X]at d;have o:(l[i].pp l.length).op=l[i].op:=rfl;rw[o,I_ X,I_ X];rw[g]at d |-;have m:iK.getD (17:Int).toNat default=⟨false,false,false,8⟩:=rfl;rw[m]at d |-;unfold jF at d |-;rw[o]
 have J:h5 (l++[(⟨21,0,0,0,g9⟩:In)]) (l[i].pp l.length).n=21:=by
  show h5 (l++[(⟨21,0,0,0,g9⟩:In)]) l.length=21
  exact mm l ⟨21,0,0,0,g9⟩ []
 rw[J];have C:(l[i].pp l.length).a=l[i].a:=rfl;have M:(l[i].pp l.length).b=l[i].b:=rfl;have E:(l[i].pp l.length).c=l[i].c:=rfl;rw[C,M,E,g];rw[g]at d;simp at d |-;exact d.1
end
def j1(es fs:List Int)(l:List In)(p:Int × Int):List In:=l.modify p.1.toNat λx=>⟨x.op,x.a,x.b,fs.getD p.2.toNat 0,es.getD p.2.toNat 0⟩
def qH(es fs:List Int)(l:List In)(p:Int × Int):(j1 es fs l p).length=l.length:=by simp[j1]
def o4(es fs:List Int)(cs:List (Int × Int)):∀l:List In,(cs.foldl (j1 es fs) l).length=l.length:=by
 induction cs with
 |nil=>intro l;rfl
 |cons d cs c=>intro l;exact(c _).trans (qH es fs l d)
def o6(es fs:List Int)(cs:List (Int × Int)):∀(l:List In) (k:Nat) (e:k<l.length),∃c n,(cs.foldl (j1 es fs) l)[k]'(by rw[o4];exact e)=⟨l[k].op,l[k].a,l[k].b,c,n⟩/\
 ((c=l[k].c/\n=l[k].n/\∀p∈cs,p.1.toNat≠k)∨∃p∈cs,p.1.toNat=k/\c=fs.getD p.2.toNat 0/\n=es.getD p.2.toNat 0):=by
 induction cs with
 |nil=>intro l k e;exact⟨_,_,rfl,.inl ⟨rfl,rfl,λp d=>by cases d⟩⟩
 |cons p cs u=>
  intro l k e;obtain⟨c,n,o,r⟩:=u (j1 es fs l p) k (by rw[qH];exact e)
  have y:(j1 es fs l p)[k]'(by rw[qH];exact e)=if p.1.toNat=k then⟨l[k].op,l[k].a,l[k].b,fs.getD p.2.toNat 0,es.getD p.2.toNat 0⟩ else l[k]:=by
   simp only[j1,Gw]
  rw[y]at o r;refine⟨c,n,?_,?_⟩
  .refine o.trans ?_;split<;>rfl
  .rcases r with⟨rfl,rfl,j⟩|⟨h,d,j⟩
   .by_cases f:p.1.toNat=k
    .rw[O_ f];exact .inr ⟨p,s_,f,rfl,rfl⟩
    .rw[I_ f];refine .inl ⟨rfl,rfl,λh d=>?_⟩
     rcases N_.1 d with rfl|d
     .exact f
     .exact j h d
   .exact .inr ⟨h,by simp[d],j⟩
def ye{l:List In}{g9 hq q:Int}{cs:List (Int × Int)}{ats:List (List Int)}{es fs:List Int}(h:po l g9 cs ats q)(V:q<l.length)(S:h5 l ((l.length:Int)-1)=14)(hl:l.length<=2048)
 (Y:∀k,1<=k->k<=2->h5 l (es.getD k 0)=21) (Z:∀k,1<=k->k<=2->2<=fs.getD k 0/\fs.getD k 0<=64) (ad:0<=hq) (hv:hq<=64):hY (cs.foldl (j1 es fs) l) hq g9=true:=by
 have ae:=h.code.pos;have iG:=o4 es fs cs l
 have A:∀n,h5 (cs.foldl (j1 es fs) l) n=h5 l n:=by
  intro n
  by_cases J:n<0∨(l.length:Int)<=n
  .rw[j2 J,j2 (by rw[iG];exact J)]
  .obtain⟨i,rfl,e,E⟩:=nz (l:=l) (n:=n) X X;obtain⟨c,B,j,_⟩:=o6 es fs cs l i e;rw[E,ob (by rw[iG];exact e),j]
 have U:∀n:Int,0<=n->n<l.length->0<=h5 l n:=by
  intro n z j;obtain⟨i,rfl,e,E⟩:=nz z j;rw[E];exact(h.code.fit i e).rng.1
 have M:∀k,k<l.length->∀d∈cs,d.1.toNat=k->h5 l k=13:=by
  intro k hk d u aB;obtain⟨j,o,f,_⟩:=h.cs1 d u
  have:d.1=(k:Int):=X
  rw[<-this];exact f
 have R:∀i,i<l.length->kD (cs.foldl (j1 es fs) l) i=true:=by
  intro i e;obtain⟨c,n,j,o⟩:=o6 es fs cs l i e
  have I:(cs.foldl (j1 es fs) l).getD i default=⟨l[i].op,l[i].a,l[i].b,c,n⟩:=by
   rw[<-j];simp[List.getD,iG,e]
  have p:=h.code.fit i e;have hr:=p.rng
  have K:kD (cs.foldl (j1 es fs) l) i=jF (cs.foldl (j1 es fs) l) i ⟨l[i].op,l[i].a,l[i].b,c,n⟩ (iK.getD l[i].op.toNat default):=by unfold kD;rw[I]
  rw[K];clear K;clear j I;generalize hL:cs.foldl (j1 es fs) l=L at*;unfold PF at p
  by_cases y:l[i].op=13
  .rw[O_ y]at p;obtain⟨O,G,hb,H,hn0⟩:=p
   have C:∃d∈cs,d.1.toNat=i/\c=fs.getD d.2.toNat 0/\n=es.getD d.2.toNat 0:=by
    rcases o with⟨_,_,f⟩|f
    .obtain⟨af,B⟩:=h.cs2 i e y;exact U_ (show((i:Int)).toNat=i by simp) (f _ B)
    .exact f
   obtain⟨d,u,_,rfl,rfl⟩:=C;obtain⟨_,_,_,bC,P⟩:=h.cs1 d u;have B:=Z d.2.toNat X X;have w:=Y d.2.toNat X X;generalize fs.getD d.2.toNat 0=cC at*;generalize es.getD d.2.toNat 0=W at*
   have N:h5 L ((i:Int)+1)=21:=by rw[A];exact H
   have m:iK.getD (13:Int).toNat default=⟨false,false,false,7⟩:=rfl;simp only[y,O,m];simp[jF,mj,N,A,w];omega
  .have ag:c=l[i].c/\n=l[i].n:=by
    rcases o with⟨f,r,_⟩|⟨d,u,f,_⟩
    .exact⟨f,r⟩
    .have:=M i e d u f
     rw[ob e]at this;exact U_ this y
   obtain⟨rfl,rfl⟩:=ag;rw[I_ y]at p
   have P:∀(x:In) (s:Sh),jF L i x s=jF l i x s:=by intro x s;unfold jF;simp only[A]
   rw[P]
   show jF l i l[i] _=true
   by_cases C:l[i].op=11∨l[i].op=12
   .rw[O_ C]at p;obtain⟨B,H,N,O,W,D,v⟩:=p;have z:=U l[i].n O X
    show jF l i l[i] (iK.getD l[i].op.toNat default)=true
    generalize l[i]=x at*;obtain⟨op,a,b,cc,g⟩:=x;simp only at B H N O W D v z C |-;subst H;subst N
    rcases C with rfl|rfl
    .have m:iK.getD (11:Int).toNat default=⟨false,false,false,6⟩:=rfl;rw[m];simp[jF,mj]at B |-;exact⟨B,⟨z,D⟩,v⟩
    .have m:iK.getD (12:Int).toNat default=⟨true,false,false,6⟩:=rfl;rw[m];simp[jF,mj]at B |-;exact⟨X,⟨z,D⟩,v⟩
   .rw[I_ C]at p;exact p
 have F:kh (cs.foldl (j1 es fs) l) 0=kh l 0/\jA (cs.foldl (j1 es fs) l)=jA l:=by
  constructor
  .refine rj _ _ iG (λi j o=>?_) 0;obtain⟨c,n,f,r⟩:=o6 es fs cs l i o;rw[f];refine⟨rfl,λt=>?_⟩
   rcases r with⟨_,r,_⟩|⟨d,u,r,_⟩
   .exact r
   .have:=M i o d u r
    rw[ob o]at this;have B:l[i].op=21:=t;omega
  .refine sw iG λi j o=>?_
   obtain⟨c,n,f,r⟩:=o6 es fs cs l i o;rw[f]
 unfold hY;rw[A,A,F.1,F.2,iG,h.code.ne,S,h.code.EE,h.xE]
 have Q:og (cs.foldl (j1 es fs) l)=true:=by
  unfold og;rw[FZ];intro i e;exact R i (by rw[iG]at e;simpa using e)
 rw[Q];simp;omega
structure iT where
 pv:Value
 vs:List ByteArray
 l:List In
 g9:Int
 es:List Int
 fs:List Int
 cs:List (Int × Int)
 hidden:Int
 most:Int
 ats:List (Nat × List Int)
 rts:List (Nat × List Int)
def iT.put(v:iT)(x:In):iT:={v with l:=v.l++[x]}
def iT.mark(v:iT):iT:={v with l:=v.l++[⟨21,0,0,0,v.g9⟩],g9:=v.g9+1}
def iT.here(v:iT)(is:List Int):iT:={v with l:=lQ v.l.length v.l is}
def iT.more(v:iT):iT:={v with hidden:=v.hidden+1,most:=max v.most (v.hidden+1)}
def iT.less(v:iT):iT:={v with hidden:=v.hidden-1}
def iT.call(v:iT)(b f:Int):iT:={v with l:=v.l++[⟨13,0,b,0,0⟩],cs:=v.cs++[((v.l.length:Int),f)]}
def iT.push(v:iT)(x:Nat):iT:={v with ats:=v.ats++[(x,[])]}
def iT.pop(v:iT):iT:={v with ats:=v.ats.dropLast,rts:=v.rts++v.ats.getLast?.toList}
def iT.drop(v:iT)(r:List (Nat × List Int)):iT:={v with rts:=r}
def ry(i:Int):List (Nat × List Int)->List (Nat × List Int)
 |[]=>[]
 |[a]=>[(a.1,a.2++[i])]
 |a::b::l=>a::ry i (b::l)
def iT.protect(v:iT):iT:={v with l:=v.l++[⟨17,0,0,0,0⟩],ats:=ry v.l.length v.ats}
structure GK(v:iT)(q:Int)(D:Nat):Prop where
 ok:po v.l v.g9 v.cs (v.ats.map (·.2)) q
 h0:0<=v.hidden
 hD:v.hidden+D<=10
 m0:0<=v.most
 m1:v.most<=10
 v0:2<=v.vs.length
 v1:v.vs.length<=9
 al:v.ats.length+D<=20
structure GP(v v':iT)(n:Nat):Prop where
 pv:v'.pv=v.pv
 vs:v'.vs=v.vs
 es:v'.es=v.es
 fs:v'.fs=v.fs
 hid:v'.hidden=v.hidden
 rt:v'.rts=v.rts
 qq:v'.ats.map (·.1)=v.ats.map (·.1)
 len:v'.l.length<=v.l.length+n
 kp:rG v.l v'.l
section
variable{v v' v'':iT}{q q':Int}{D n m:Nat}
def GP.refl(v:iT):GP v v 0:=⟨rfl,rfl,rfl,rfl,rfl,rfl,rfl,H_ _,rG.refl _⟩
def GP.trans(h:GP v v' n)(k:GP v' v'' m):GP v v'' (n+m):=⟨k.pv.trans h.pv,k.vs.trans h.vs,k.es.trans h.es,k.fs.trans h.fs,k.hid.trans h.hid,k.rt.trans h.rt,k.qq.trans h.qq,by have:=h.len;have:=k.len;omega,h.kp.trans k.kp⟩
def GP.le(h:GP v v' n)(c:n<=m):GP v v' m:={h with len:=G_ h.len X}
def GK.le{E:Nat}(h:GK v q D)(c:E<=D):GK v q E:={h with hD:=by have:=h.hD;omega,al:=by have:=h.al;omega}
def GP.sK(h:GP v v' n):v'.ats.length=v.ats.length:=by have:=FN List.length h.qq;simpa using this
def GK.of(h:GK v q D)(k:GP v v' n)(c:GK v' q' 0):GK v' q' D:={c with hD:=by rw[k.hid];exact h.hD,al:=by rw[k.sK];exact h.al}
def GK.simp(h:GK v q D){x:In}(c:lL x=true):GK (v.put x) v.l.length D:={h with ok:=h.ok.simp c}
def GP.put(v:iT)(x:In):GP v (v.put x) 1:=⟨rfl,rfl,rfl,rfl,rfl,rfl,rfl,by simp[iT.put],rG.app _ _⟩
def GK.mark(h:GK v q D):GK v.mark v.l.length D:={h with ok:=h.ok.mark}
def GP.mark(v:iT):GP v v.mark 1:=⟨rfl,rfl,rfl,rfl,rfl,rfl,rfl,by simp[iT.mark],rG.app _ _⟩
def GK.jump(h:GK v q D)(c n:Int)(e:c=11∨c=12)(d:h5 v.l n=21):GK (v.put ⟨c,0,0,0,n⟩) v.l.length D:={h with ok:=h.ok.jump c n e d}
def GK.wI(h:GK v q D)(c:Int)(d:c=11∨c=12):GK (v.put ⟨c,0,0,0,0⟩) v.l.length D:=h.jump c 0 d h.ok.code.ne
def GK.here(h:GK v q D)(e:Int)(c:h5 v.l e=11∨h5 v.l e=12):GK (v.here [e]) v.l.length D:={h with ok:=h.ok.here e c}
def GK.ask(h:GK v q D)(V:q<v.l.length)(c:h5 v.l ((v.l.length:Int)-1)=21)(n:Int)(h0:0<=n)(d:n<64):GK (v.put ⟨20,0,0,0,n⟩) v.l.length D:={h with ok:=h.ok.ask V c n h0 d}
def GP.here(v:iT)(is:List Int):GP v (v.here is) 0:=⟨rfl,rfl,rfl,rfl,rfl,rfl,rfl,by simp[iT.here,i7],rG.set _ _ _⟩
def GK.tY(h:GK v q D)(a:List Int)(c:∀i∈a,h5 v.l i=17):GK (v.here a).mark v.l.length D:={h with ok:=h.ok.tY a c}
def GK.wU(h:GK v q D)(b f:Int)(G:0<=b)(c:b<=2)(C:1<=f)(d:f<=2):GK (v.call b f).mark v.l.length D:=by
 refine{h with ok:=?_}
 .have:=h.ok.call b f G c C d
  show po ((v.l++[_])++[_]) _ _ _ _
  rw[Ge];exact this
def GP.call(v:iT)(b f:Int):GP v (v.call b f) 1:=⟨rfl,rfl,rfl,rfl,rfl,rfl,rfl,by simp[iT.call],rG.app _ _⟩
def oG(v:iT){x:In}:h5 (v.put x).l v.l.length=x.op:=mm _ _ _
def GK.more(h:GK v q (D+1)):GK v.more q D:=
 {ok:=h.ok,h0:=by have:=h.h0;show 0<=v.hidden+1;omega,hD:=by have:=h.hD;show v.hidden+1+D<=10;omega,m0:=by have:=h.m0;show 0<=max v.most (v.hidden+1);omega,
  m1:=by have:=h.m1;have:=h.hD;show max v.most (v.hidden+1)<=10;omega,v0:=h.v0,v1:=h.v1,al:=by have:=h.al;show v.ats.length+D<=20;omega}
def r8(i:Int):∀l:List (Nat × List Int),(ry i l).map (·.1)=l.map (·.1)
 |[]=>rfl
 |[a]=>rfl
 |a::b::l=>by simp only[ry,Gn];rw[r8 i (b::l)];rfl
def r7(i:Int):∀(l:List (Nat × List Int)) (a:Nat × List Int),a∈ry i l->a∈l∨∃b∈l,a=(b.1,b.2++[i])
 |[],a,h=>by cases h
 |[b],a,h=>by
  have:a=(b.1,b.2++[i]):=by simpa[ry]using h
  exact .inr ⟨b,s_,this⟩
 |b::c::l,a,h=>by
  rcases N_.1 h with rfl|h
  .exact .inl s_
  .rcases r7 i (c::l) a h with h|⟨d,e,f⟩
   .exact .inl (FQ _ h)
   .exact .inr ⟨d,FQ _ e,f⟩
def GK.protect(h:GK v q D):GK v.protect v.l.length D:=by
 refine{h with ok:=?_,al:=by have o:v.protect.ats.length=v.ats.length:=(show(ry v.l.length v.ats).length=_ by have:=FN List.length (r8 v.l.length v.ats);simpa using this);rw[o];exact h.al}
 .have p:lL ⟨17,0,0,0,0⟩=true:=I;have f:=h.ok.simp p;refine{f with qq:=?_,sK:=?_}
  .intro a k i d;obtain⟨e,j,rfl⟩:=Z_.1 k
   rcases r7 _ _ _ j with c|⟨b,c,rfl⟩
   .exact f.qq e.2 (Z_.2 ⟨e,c,rfl⟩) i d
   .rcases T_.1 d with d|d
    .exact f.qq b.2 (Z_.2 ⟨b,c,rfl⟩) i d
    .have:i=(v.l.length:Int):=zu d
     subst this;exact⟨X,by simp[iT.protect];omega,mm _ _ _⟩
  .intro a k;obtain⟨e,j,rfl⟩:=Z_.1 k
   rcases r7 _ _ _ j with c|⟨b,c,rfl⟩
   .exact f.sK e.2 (Z_.2 ⟨e,c,rfl⟩)
   .have:=h.ok.sK b.2 (Z_.2 ⟨b,c,rfl⟩)
    simp[iT.protect];exact this
def GP.protect(v:iT):GP v v.protect 1:=⟨rfl,rfl,rfl,rfl,rfl,rfl,r8 _ _,by simp[iT.protect],rG.app _ _⟩
def GK.push(h:GK v q (D+1))(x:Nat):GK (v.push x) q D:=by
 refine{h with ok:=?_,hD:=by have:=h.hD;show v.hidden+D<=10;omega,al:=by have:=h.al;simp[iT.push];omega}
 .refine{h.ok with qq:=?_,sK:=?_}
  .intro a c i e
   have d:a∈v.ats.map (·.2)∨a=[]:=by simpa[iT.push]using c
   rcases d with c|rfl
   .exact h.ok.qq a c i e
   .cases e
  .intro a c
   have d:a∈v.ats.map (·.2)∨a=[]:=by simpa[iT.push]using c
   rcases d with c|rfl
   .exact h.ok.sK a c
   .simp
def po.pop{l:List In}{g9:Int}{cs:List (Int × Int)}{a b:List (List Int)}(h:po l g9 cs a q)(d:∀x∈b,x∈a):po l g9 cs b q:=
 {h with qq:=λx c=>h.qq x (d x c),sK:=λx c=>h.sK x (d x c)}
def GP.Dj(h:GP (v.push x) v' n)(k:GP v'.pop v'' m):GP v (v''.drop v.rts) (n+m):=
 {pv:=k.pv.trans h.pv,vs:=k.vs.trans h.vs,es:=k.es.trans h.es,fs:=k.fs.trans h.fs,hid:=k.hid.trans h.hid,rt:=rfl,
  len:=by have c:v'.l.length<=v.l.length+n:=h.len;have d:v''.l.length<=v'.l.length+m:=k.len;show v''.l.length<=v.l.length+(n+m);omega
  kp:=h.kp.trans k.kp
  qq:=by
   have c:=FN List.dropLast h.qq;simp[iT.push,<-List.map_dropLast]at c;have d:=k.qq
   show v''.ats.map _=_
   rw[d]
   simpa[iT.pop,List.map_dropLast]using c}
def GP.DT(h:GP (v.push x) v' n):∃l is,v'.ats=l++[(x,is)]/\v'.pop.rts=v.rts++[(x,is)]:=by
 have d:=h.qq;simp only[iT.push,FI,Gn,G1]at d
 rcases List.eq_nil_or_concat v'.ats with c|⟨l,a,c⟩
 .rw[c]at d;simp at d
 .rw[List.concat_eq_append]at c;rw[c,FI]at d;have j:=List.append_inj_right' d rfl;have e:=zu j;refine⟨l,a.2,by rw[c,<-e],?_⟩;have f:v'.rts=v.rts:=h.rt;simp only[iT.pop,f];rw[c,<-e];simp
def GK.D4(h:GK v q (D+1))(k:GP (v.push x) v' n)(c:GK v' q' 0):GK v'.pop q' (D+1):=
 {ok:=c.ok.pop λp f=>by
   obtain⟨j,e,rfl⟩:=Z_.1 f;exact Z_.2 ⟨j,(List.dropLast_sublist _).subset e,rfl⟩
  h0:=c.h0,hD:=by have:v'.hidden=v.hidden:=k.hid;have:=h.hD;show v'.hidden+_<=10;omega,m0:=c.m0,m1:=c.m1,v0:=c.v0,v1:=c.v1
  al:=by
   have d:=k.sK;have o:=h.al;simp only[iT.push,K_,HC]at d
   show(v'.ats.dropLast).length+_<=20
   rw[List.length_dropLast]
   omega}
def GK.Eg(h:GK v q D)(r:List (Nat × List Int)):GK (v.drop r) q D:={h with}
def GP.more(h:GP v.more v' n):GP v v'.less n:=
 {pv:=h.pv,vs:=h.vs,es:=h.es,fs:=h.fs,qq:=h.qq,len:=h.len,kp:=h.kp,rt:=h.rt,hid:=by
   show v'.hidden-1=v.hidden
   rw[h.hid]
   show v.hidden+1-1=v.hidden
   omega}
def GK.less(h:GK v q D)(k:GK v' q' 0)(d:v'.hidden=v.hidden+1)(c:v'.ats.length=v.ats.length):GK v'.less q' D:=
 {k with h0:=by show 0<=v'.hidden-1;have:=h.h0;omega,hD:=by show v'.hidden-1+D<=10;have:=h.hD;omega,al:=by show v'.ats.length+D<=20;rw[c];exact h.al}
end
