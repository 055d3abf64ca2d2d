import Derived.Test.YtenbhdilndfaeaaGreatH05
set_option maxRecDepth 100000
set_option maxHeartbeats 0
set_option linter.all false
namespace Go.Proofs.YtenbhdilndfaeaaGreat
open Go.RowKit Go.Proofs.Tryz
variable{G:Prop}{g i x:Nat}{t:TypeId}{s:Sh}
def L8(h:G:=by
 intro n hn;rw[hk.2 n,hn];rcases I9 n l.length with h|h
 exact h;rw[kh<|.inr h]at hn;simp at hn):G:=h
def MP(h:G:=by
 obtain⟨h1,h2,h3,ar⟩:=h.cs1 p hp;exact⟨h1,p_,by rw[ln _ h2];exact h3,ar⟩):G:=h
def MT(h:G:=by
 obtain⟨h1,h2,h3⟩:=h.qt a ha i hi;exact⟨h1,p_,by rw[ln _ h2];exact h3⟩):G:=h
def ig{P:Program}{f:FuncId}{a:Array Value}{w:World}{i:Ending->World->Prop}(h:∀Q,Hid (Q=i)->Calls P f a w Q):Calls P f a w i:=h i<|O rfl
def box1(w:World)(t:TypeId)(cs:Array Value):∃(W:World) (g:Nat),w.alloc (.cells cs t)=W/\w.heap.size=g/\J [] w W/\Bk W g t cs:=
 ⟨_,_,rfl,rfl,(G_ [] w).alloc _,T_ w t cs⟩
def uN(w:World)(d:TypeId)(c:Array Value)(e:TypeId)(f:Array Value):∃(W:World) (g z:Nat),(w.alloc<|.cells c d).alloc (.cells f e)=W/\w.heap.size=g/\g+1=z/\J [] w W/\Bk W g d c/\Bk W z e f:=
 ⟨_,_,_,rfl,rfl,rfl,((G_ [] w).alloc _).alloc _,(T_ w d c).alloc _,by simpa using T_ (w.alloc<|.cells c d) e f⟩
structure Gt(base:Nat)(T:List TypeId)(a w:World):Prop where
 os:w.os=a.os
 tape:w.tape=a.tape
 output:w.output=a.output
 size:a.heap.size<=w.heap.size
 block:∀k,k<a.heap.size->(k<base\/∀cs t fz,a.heap[k]?=some (.cells cs t fz)->t∉T)->w.heap[k]?=a.heap[k]?
section
variable{base:Nat}{T:List TypeId}{a b w w':World}
def Gt.trans(h:Gt base T a b)(k:Gt base T b w):Gt base T a w:=
 ⟨k.os.trans h.os,k.tape.trans h.tape,k.output.trans h.output,H_ h.size k.size,λi c e=>
   (k.block i (HK c h.size)<|e.imp id λd cs t j f=>d cs t j<|(h.block i c<|.inr d).symm.trans f).trans (h.block i c e)⟩
def Gt.jS(h:J [] a w):Gt base T a w:=⟨h.os,h.tape,h.output,h.size,λi c _=>h.block i c s_⟩
def Gt.refl(base:Nat)(T:List TypeId)(w:World):Gt base T w w:=.jS<|G_ [] w
def Gt.one{cs:Array Value}(h:J [g] a w)(k:base<=g)(e:Bk a g t cs)(j:t∈T):Gt base T a w:=
 ⟨h.os,h.tape,h.output,h.size,λi d c=>h.block i d (by
   intro f;have:i=g:=zu f;subst this;rcases c with c|c
   omega;exact c _ _ _ e j)⟩
def Gt.set{cs:Array Value}(d:Bk w g t cs)(c:base<=g)(e:t∈T)(i:Nat)(u:Value):Gt base T w (w.setCell (Z g i) u):=
 .one ((G_ [g] w).setCell (p:=(Z g i)) (.inl s_) u) c d e
def Gt.grown{e:Option Nat}(h:w.grownBy w' e)(p:∀g,e=some g->base<=g/\∃cs t d,w.heap[g]?=some (.cells cs t d)/\t∈T):Gt base T w w':=
 ⟨h.os,h.tape,h.output,h.size,λi k c=>h.block i k (by
   intro o;obtain⟨r,cs,t,d,f,j⟩:=p i o.symm;rcases c with c|c
   omega;exact c _ _ _ f j)⟩
def Gt.gr(h:Gt base T a w)(d:a.heap.size<=base):J [] a w:=⟨h.os,h.tape,h.output,h.size,λi c _=>h.block i c<|.inl X⟩
def Bk.gt{cs:Array Value}(h:Bk a g t cs)(k:Gt base T a w)(d:t∉T):Bk w g t cs:=
 (k.block g h.lt<|.inr λe j f c=>by unfold Bk at h;rw[h]at c;injection c with c;injection c with _ c;subst c;exact d).trans h
def Sl.gt{e:TypeId}{f n:Nat}{A:OA}{j:QX}(h:Sl a e f A n j)(k:Gt base T a w)(y:e∉T):Sl w e f A n j:=
 ⟨h.1,λu=>by
   obtain⟨b,z,cs,o,p,d,r⟩:=h.2 u;exact⟨b,z,cs,o,p,(k.block b (lv d)<|.inr λB C i c=>by rw[d]at c;injection c with c;injection c with _ c;subst c;exact y).trans d,r⟩⟩
def kB.gt{p:Nat->Prop}{t:ET}(h:kB p a t)(k:Gt base T a w)(f:226∉T):kB p w t:=by
 induction h with
 |mk t h e d _ c=>exact .mk t (h.gt k f) e d c
def jR.gt{p:Nat->Prop}{t:ST}(h:jR p a t)(k:Gt base T a w)(c:226∉T)(E:229∉T):jR p w t:=by
 induction h with
 |mk t z u j A f r F _ B y o _ d e=>exact .mk t (z.gt k c) u j (λH C=>(A H C).gt k c) (f.gt k E) r F d (B.gt k E) y o e
end
def og{l:QR}(h:i<l.length):iG l i=l[i].op:=by
 unfold iG;rw[K_ X];simp[List.getD,h]
def kh{l:QR}{n:Int}(h:n<0\/(l.length:Int)<=n):iG l n= -1:=by unfold iG;rw[L_ h]
def nH{l:QR}{n:Int}(h0:0<=n)(c:n<l.length):∃i:Nat,n=i/\∃h:i<l.length,iG l n=l[i].op:=by
 refine⟨n.toNat,X,X,?_⟩;exact(GG (iG l) (show n=(n.toNat:Int) by omega)).trans<|og X
def ln{l:QR}{n:Int}(a:QR)(h:n<l.length):iG (l++a) n=iG l n:=by
 by_cases d:0<=n;obtain⟨i,rfl,e,c⟩:=nH d h;rw[c,og p_,Ht e];rw[kh<|.inl X,kh<|.inl X]
def mD(l:QR)(x:In)(a:QR):iG (l++x::a) l.length=x.op:=by
 rw[og s_];simp
def In.pq(x:In)(v:Int):In:=⟨x.op,x.a,x.b,x.c,v⟩
def my(v:Int)(l:QR)(i:Int):List In:=l.modify i.toNat (In.pq · v)
def lV(v:Int)(l:QR)(is:QS):List In:=is.foldl (my v) l
def lN(v:Int)(l:QR)(i:Int):(my v l i).length=l.length:=by simp[my]
def jh(v:Int)(is:QS):∀l:List In,(lV v l is).length=l.length:=by
 induction is with
 |nil=>intro l;rfl
 |cons i is c=>intro l;exact(c _).trans<|lN v l i
def vg(v:Int)(l:QR)(i:Int)(k:Nat)(c:k<l.length):(my v l i)[k]'(by rw[lN];exact c)=if i.toNat=k then l[k].pq v else l[k]:=by
 simp only[my,Hy]
def mM(v:Int)(is:QS):∀(l:QR) (k:Nat) (j:k<l.length),(lV v l is)[k]'(by rw[jh];exact j)=if ∃i∈is,i.toNat=k then l[k].pq v else l[k]:=by
 induction is with
 |nil=>intro l k j;simp[lV]
 |cons i is o=>
  intro l k j;have r:=o (my v l i) k (by rw[lN];exact j);have p:lV v l (i::is)=lV v (my v l i) is:=rfl;simp only[p];rw[r];rw[vg v l i k j];by_cases d:i.toNat=k;by_cases e:∃c∈is,c.toNat=k
  .rw[L_ e,L_ d,L_ ⟨i,s_,d⟩];rfl
  rw[K_ e,L_ d,L_ ⟨i,s_,d⟩];by_cases e:∃c∈is,c.toNat=k
  .obtain⟨c,f,h⟩:=e;rw[L_ ⟨c,f,h⟩,K_ d,L_ ⟨c,by simp[f],h⟩]
  rw[K_ e,K_ d,K_];rintro⟨c,f,h⟩;rcases N_.1 f with rfl|f
  exact d h;exact e ⟨c,f,h⟩
def oI(v:Int)(is:QS)(l:QR)(n:Int):iG (lV v l is) n=iG l n:=by
 by_cases c:n<0\/(l.length:Int)<=n;rw[kh c,kh<|by rw[jh];exact c];obtain⟨i,rfl,d,e⟩:=nH (l:=l) (n:=n) X X;rw[e,og (by rw[jh];exact d),mM v is l i d];split<;>rfl
def rI(l l':QR):Prop:=l.length<=l'.length/\∀n:Int,n<l.length->iG l' n=iG l n
def rI.refl(l:QR):rI l l:=⟨I_ _,λ_ _=>rfl⟩
def rI.trans{a b c:QR}(h:rI a b)(k:rI b c):rI a c:=⟨H_ h.1 k.1,λn d=>(k.2 n (by have:=h.1;omega)).trans<|h.2 n d⟩
def rI.app(l a:QR):rI l (l++a):=⟨by simp,λ_ c=>ln a c⟩
def rI.set(v:Int)(l:QR)(is:QS):rI l (lV v l is):=⟨by rw[jh];exact I_ _,λn _=>oI v is l n⟩
def PF(l:QR)(q:Int)(i:Nat)(x:In):Prop:=
 if x.op=13 then x.a=0/\0<=x.b/\x.b<=2/\iG l ((i:Int)+1)=21/\iG l x.n=21
 else if x.op=11\/x.op=12 then mC x.a (x.op==12)=true/\x.b=0/\x.c=0/\0<=x.n/\x.n<=q/\iG l x.n≠20/\((i:Int)<x.n\/iG l x.n=21)
 else jU l i x (je.getD x.op.toNat default)=true
structure nz(l:QR)(q:Int):Prop where
 ne:iG l 0=21
 fit:∀i (h:i<l.length),PF l q i l[i]
 FK:kx l 0=true
def nz.pos{l:QR}{q:Int}(h:nz l q):0<l.length:=by
 rcases Hr l.length with c|c
 have d:=h.ne;rw[kh<|.inr X]at d;simp at d;exact c
def Cc{l c:QR}(hk:rI l c)(i:Nat)(x:In)(r:x.op≠13)(u:s.n≠6)(f:s.n≠7)(y:i<=l.length)(h:jU l i x s=true):jU c i x s=true:=by
 have e:∀n:Int,iG l n=21->iG c n=21:=L8;have a:iG c ((i:Int)-1)=iG l ((i:Int)-1):=hk.2 _ X;unfold jU at h |-;have p:(x.op==13)=false:=zu r;rw[p]at h |-;simp only[Bool.false_and,IG]at h |-;rw[K_ u,K_ f]at h |-;rw[a];split at h
 simp at h;rename_i o;rw[K_ o];split at h
 .simp at h
 rename_i k;rw[K_ k];split at h
 .simp at h
 rename_i j;rw[K_ j];by_cases d:s.n=8;rw[d]at h |-;simp at h |-
 rcases h with h|h
 exact .inl h;exact .inr<|e _ h;rw[K_ d]at h |-;exact h
def Gd(k:Nat)(h:k<=21):((je.getD k default).n=6↔k=11\/k=12)/\((je.getD k default).n=7↔k=13):=by
 have:∀k,k<22->((je.getD k default).n=6↔k=11\/k=12)/\((je.getD k default).n=7↔k=13):=I;exact this k X
def vt{l:QR}{x:In}(h:jU l i x s=true):0<=x.op/\x.op<=21:=by
 unfold jU at h;split at h;simp at h;omega
def PF.rng{l:QR}{q:Int}{x:In}(h:PF l q i x):0<=x.op/\x.op<=21:=by
 unfold PF at h;split at h;omega;split at h
 .omega
 exact vt h
def PF.kp{l e:QR}{q q':Int}{x:In}(hk:rI l e)(E:i<l.length)(A:q<=q')(hn:q<l.length\/iG e l.length≠20)(C:q<=l.length)(h:PF l q i x):PF e q' i x:=by
 have f:∀n:Int,iG l n=21->iG e n=21:=L8;have F:=h.rng;unfold PF at h |-;split at h
 rename_i c;rw[L_ c];exact⟨h.1,h.2.1,h.2.2.1,f _ h.2.2.2.1,f _ h.2.2.2.2⟩;rename_i c;rw[K_ c];split at h
 .rename_i d;rw[L_ d];obtain⟨u,y,z,p,B,j,k⟩:=h;refine⟨u,y,z,p,X,?_,k.imp id<|f _⟩;by_cases o:x.n<l.length;rw[hk.2 _ o];exact j;have r:x.n=l.length:=X;rw[r];exact hn.resolve_left X
 rename_i d;rw[K_ d];have o:=Gd x.op.toNat X;exact Cc hk i x c (λj=>d<|ov<|o.1.1 j) (λk=>c<|ov<|o.2.1 k) X h
def yv(l a:QR):∀m:Int,kx (l++a) m=(kx l m&&kx a (m+jM l)):=by
 induction l with
 |nil=>intro m;simp[kx,jM]
 |cons x l e=>
  intro m;by_cases c:x.op=21;have d:jM (x::l)=jM l+1:=by simp[jM,c]
  simp only[Ip,kx,c,if_true,e,d,Bool.and_assoc];rw[show m+1+jM l=m+(jM l+1) by omega];have d:jM (x::l)=jM l:=by simp[jM,c]
  simp only[Ip,kx,c,if_false,e,d]
def rZ(l a:QR):jM (l++a)=jM l+jM a:=by simp[jM]
def nz.app{l:QR}{q:Int}(h:nz l q)(a:QR)(e:q<l.length\/(q=l.length/\∃k t,a=k::t/\k.op≠20))(q':Int)(b:q<=q')
 (p:∀d (y:d<a.length),PF (l++a) q' (l.length+d) a[d]) (u:kx a (jM l)=true):nz (l++a) q':=by
 have f:=rI.app l a;refine⟨?_,λi r=>?_,?_⟩;rw[ln a<|ov h.pos];exact h.ne;by_cases c:i<l.length
 .rw[Ht c];refine(h.fit i c).kp f c b ?_ (by rcases e with h|h<;>omega);rcases e with j|⟨_,k,t,rfl,o⟩
  exact .inl j;right;rw[mD];exact o
 rw[HC X];have:=p (i-l.length) (by rw[M_]at r;omega);rwa [show l.length+(i-l.length)=i by omega]at this;rw[yv,h.FK,Int.zero_add,u];rfl
def nz.q{l:QR}{q q':Int}(h:nz l q)(d:q<=q')(e:q<=l.length):nz l q':=by
 refine⟨h.ne,λi c=>(h.fit i c).kp (rI.refl l) c d ?_ e,h.FK⟩;right;rw[kh<|.inr<|Hl _];decide
def rl:∀(l c:QR),l.length=c.length->(∀i (h:i<l.length) (p:i<c.length),l[i].op=c[i].op/\(l[i].op=21->l[i].n=c[i].n))->∀m,kx l m=kx c m:=by
 intro l;induction l with
 |nil=>
  intro c f _ m;have:c=[]:=G1 f.symm;subst this;rfl
 |cons x l o=>
  intro c f h m;cases c with
  |nil=>simp at f
  |cons k c=>
   have e:=h 0 s_ s_;simp only[HL]at e;have a:=o c (zu f) λi r u=>h (i+1) p_ p_;by_cases d:x.op=21;have j:k.op=21:=by rw[<-e.1];exact d
   simp only[kx,L_ d,L_ j,a,e.2 d];have j:¬k.op=21:=by rw[<-e.1];exact d
   simp only[kx,K_ d,K_ j,a]
def sE{l c:QR}(k:l.length=c.length)(h:∀i (h:i<l.length) (o:i<c.length),l[i].op=c[i].op):jM l=jM c:=by
 have e:l.map In.op=c.map In.op:=by
  refine H1 (zu k) λi f j=>?_;simp only[HF];exact h i (zu f)<|zu j
 have d:∀l:List In,jM l=((l.map In.op).filter (· ==21)).length:=by
  intro l;simp[jM,List.filter_map,Function.comp_def]
 rw[d,d,e]
def nz.C2{l:QR}{q:Int}(h:nz l q)(is:QS)(v:Int)(q':Int)(k:q<=q')(o:q<=l.length)
 (j:∀i (h:i<l.length),(∃p∈is,p.toNat=i)->l[i].op≠21/\PF l q' i (l[i].pq v)):nz (lV v l is) q':=by
 have iS:=jh v is l;have f:=oI v is l;have a:∀i x,PF l q' i x->PF (lV v l is) q' i x:=by
  intro i x e;unfold PF at e |-;unfold jU at e |-;simp only[f];exact e
 refine⟨by rw[f];exact h.ne,λi r=>?_,?_⟩;have c:i<l.length:=by rw[<-iS];exact r
 rw[mM v is l i c];split;rename_i d;exact a i _ (j i c d).2;exact a i _<|((h.q k o).fit i c);rw[rl (lV v l is) l iS λi u c=>?_]
 .exact h.FK
 rw[mM v is l i c];split
 .rename_i d;exact⟨rfl,λt=>GR t (j i c d).1⟩
 exact⟨rfl,λ_=>rfl⟩
structure pp(l:QR)(hC:Int)(cs:List<|Int × Int)(ats:List<|List Int)(q:Int):Prop where
 code:nz l q
 x7:hC=jM l
 cs1:∀p∈cs,0<=p.1/\p.1<l.length/\iG l p.1=13/\1<=p.2/\p.2<=2
 cs2:∀i (h:i<l.length),l[i].op=13->∃f,((i:Int),f)∈cs
 qt:∀a∈ats,∀i∈a,0<=i/\i<l.length/\iG l i=17
 q:q<=l.length
 AW:cs.length<=l.length
 sR:∀a∈ats,a.length<=l.length
section
variable{l:QR}{hC:Int}{cs:List (Int × Int)}{ats:List (List Int)}{q:Int}
def pp.put(h:pp l hC cs ats q)(x:In)(j:x.op≠13)(t:x.op≠21)(d:x.op≠20\/q<l.length)(k:PF (l++[x]) l.length l.length x):pp (l++[x]) hC cs ats l.length where
 code:=h.code.app [x] (by
  rcases d with d|d
  rcases I9 q l.length with f|f
  .exact .inl f
  exact .inr ⟨ov h.q,x,[],rfl,d⟩;exact .inl d) _ h.q (λo f=>by
  have:o=0:=zu f;subst this;exact k) (by simp[kx,t])
 x7:=by rw[rZ,h.x7];simp[jM,t]
 cs1:=λp hp=>by
  exact MP
 cs2:=λi hi c=>by
  by_cases e:i<l.length;rw[Ht e]at c;exact h.cs2 i e c;rw[HC X]at c;simp at c;exact GR c j
 qt:=λa ha i hi=>by
  exact MT
 q:=by simp;omega
 AW:=by have:=h.AW;simp;omega
 sR:=λa ha=>by have:=h.sR a ha;simp;omega
def lR(x:In):Bool:=jU [] 0 x (je.getD x.op.toNat default)&&(x.op !=11)&&(x.op !=12)&&(x.op !=13)&&(x.op !=20)&&(x.op !=21)&&(x.op !=17||x.n==0)
def PF.simp{l:QR}{q:Int}{x:In}(h:lR x=true):PF l q i x:=by
 unfold lR at h;simp only[G4,bne_iff_ne,ne_eq]at h;obtain⟨⟨⟨⟨⟨⟨c,B⟩,C⟩,j⟩,y⟩,t⟩,o⟩:=h;have E:=vt c;have k:=Gd x.op.toNat X;have p:¬(je.getD x.op.toNat default).n=6:=λd=>by have:=k.1.1 d;omega
 have r:¬(je.getD x.op.toNat default).n=7:=λd=>by have:=k.2.1 d;omega
 have u:(je.getD x.op.toNat default).n=8->x.op=17:=by
  have:∀e,e<22->(je.getD e default).n=8->e=17:=I;intro d;have:=this x.op.toNat X d;omega
 unfold PF;rw[K_ j,K_ X];generalize je.getD x.op.toNat default=s at*;unfold jU at c |-;have z:(x.op==13)=false:=zu j;have a:(x.op !=20)=true:=zu y;rw[z,a]at c |-;simp only[Bool.false_and,IG,Ja]at c |-;rw[K_ p,K_ r]at c |-
 by_cases f:s.n=8;have b:(x.n==0)=true:=by
  have A:=u f;rw[A]at o;simpa using o
 rw[b]at c |-
 simpa using c;rw[K_ f]at c |-;exact c
def pp.simp(h:pp l hC cs ats q){x:In}(d:lR x=true):pp (l++[x]) hC cs ats l.length:=by
 have c:=d;unfold lR at c;simp only[G4,bne_iff_ne,ne_eq]at c;obtain⟨⟨⟨⟨⟨⟨_,_⟩,_⟩,f⟩,e⟩,t⟩,_⟩:=c;exact h.put x f t (.inl e)<|PF.simp d
def pp.mark(h:pp l hC cs ats q):pp (l++[⟨21,0,0,0,hC⟩]) (hC+1) cs ats l.length where
 code:=h.code.app [⟨21,0,0,0,hC⟩] (by
  rcases I9 q l.length with e|e
  exact .inl e;exact .inr ⟨ov h.q,_,[],rfl,s_⟩) _ h.q (λj f=>by
  have:j=0:=zu f;subst this;show PF _ _ _ (⟨21,0,0,0,hC⟩:In);unfold PF;rw[K_ s_,K_ s_];simp[jU,je,mC]) (by simp[kx,h.x7])
 x7:=by rw[rZ,h.x7];simp[jM]
 cs1:=λp hp=>by
  exact MP
 cs2:=λi hi c=>by
  by_cases d:i<l.length;rw[Ht d]at c;exact h.cs2 i d c;rw[HC X]at c;simp at c
 qt:=λa ha i hi=>by
  exact MT
 q:=by simp;omega
 AW:=by have:=h.AW;simp;omega
 sR:=λa ha=>by have:=h.sR a ha;simp;omega
def pp.jump(h:pp l hC cs ats q)(e n:Int)(j:e=11\/e=12)(c:iG l n=21):pp (l++[⟨e,0,0,0,n⟩]) hC cs ats l.length:=by
 have d:0<=n/\n<l.length:=by
  by_cases f:n<0\/(l.length:Int)<=n;rw[kh f]at c;simp at c;omega
 refine h.put _ p_ p_ (.inl p_) ?_;unfold PF;rw[K_ p_,L_<|zu j];refine⟨by simp[mC],rfl,rfl,d.1,p_,?_,.inr ?_⟩;rw[ln _ d.2,c];decide;rw[ln _ d.2,c]
def pp.call(h:pp l hC cs ats q)(b f:Int)(H:0<=b)(o:b<=2)(C:1<=f)(g:f<=2):pp (l++[⟨13,0,b,0,0⟩,⟨21,0,0,0,hC⟩]) (hC+1) (cs++[((l.length:Int),f)]) ats l.length where
 code:=h.code.app _ (by
  rcases I9 q l.length with e|e
  exact .inl e;exact .inr ⟨ov h.q,_,_,rfl,s_⟩) _ h.q (λj k=>by
  have hp:=h.code.pos;rcases(by simp at k;omega:j=0\/j=1)with rfl|rfl
  show PF _ _ _ (⟨13,0,b,0,0⟩:In);unfold PF;rw[L_ r_];refine⟨rfl,H,o,?_,?_⟩;have:(((l.length+0:Nat):Int)+1)=((l.length+1:Nat):Int):=X;rw[this,og s_,HC X];simp;show iG _ 0=21;rw[ln _ X];exact h.code.ne;show PF _ _ _ (⟨21,0,0,0,hC⟩:In);unfold PF;rw[K_ s_,K_ s_];simp[jU,je,mC]) (by simp[kx,h.x7])
 x7:=by rw[rZ,h.x7];simp[jM]
 cs1:=λp hp=>by
  rcases X_.1 hp with hp|hp
  exact MP;have:p=((l.length:Int),f):=zu hp;subst this;exact⟨s_,p_,mD _ _ _,C,g⟩
 cs2:=λi hi c=>by
  by_cases d:i<l.length;rw[Ht d]at c;obtain⟨k,j⟩:=h.cs2 i d c;exact⟨k,GZ _ j⟩;rw[HC X]at c;have j:i=l.length\/i=l.length+1:=by simp at hi;omega
  rcases j with rfl|rfl
  exact⟨f,s_⟩;simp at c
 qt:=λa ha i hi=>by
  exact MT
 q:=by simp;omega
 AW:=by have:=h.AW;simp;omega
 sR:=λa ha=>by have:=h.sR a ha;simp;omega
def pp.ask(h:pp l hC cs ats q)(c:q<l.length)(e:iG l ((l.length:Int)-1)=21)(n:Int)(h0:0<=n)(f:n<64):pp (l++[⟨20,0,0,0,n⟩]) hC cs ats l.length:=by
 refine h.put _ s_ s_ (.inr c) ?_;unfold PF;rw[K_ s_,K_ s_];have d:iG (l++[(⟨20,0,0,0,n⟩:In)]) ((l.length:Int)-1)=21:=by rw[ln _ X];exact e
 simp[jU,je,mC,d];omega
def pp.C2(h:pp l hC cs ats q)(is:QS)(v:Int)(q':Int)(p:q<=q')(u:q'<=l.length)
 (c:∀i (h:i<l.length),(∃z∈is,z.toNat=i)->l[i].op≠21/\PF l q' i (l[i].pq v)):pp (lV v l is) hC cs ats q' where
 code:=h.code.C2 is v q' p h.q c
 x7:=by
  rw[h.x7];refine(sE (jh v is l) λi e d=>?_).symm;rw[mM v is l i d];split<;>rfl
 cs1:=λA y=>by
  obtain⟨e,d,j,r⟩:=h.cs1 A y;exact⟨e,by rw[jh];exact d,by rw[oI];exact j,r⟩
 cs2:=λi c f=>by
  have o:=by rw[jh]at c;exact c
  rw[mM v is l i o]at f;refine h.cs2 i o ?_;split at f<;>exact f
 qt:=λa k i c=>by
  obtain⟨e,d,j⟩:=h.qt a k i c;exact⟨e,by rw[jh];exact d,by rw[oI];exact j⟩
 q:=by rw[jh];exact u
 AW:=by rw[jh];exact h.AW
 sR:=λa k=>by rw[jh];exact h.sR a k
def pp.here(h:pp l hC cs ats q)(e:Int)(d:iG l e=11\/iG l e=12):pp (lV l.length l [e]) hC cs ats l.length:=by
 have a:0<=e/\e<l.length:=by
  by_cases p:e<0\/(l.length:Int)<=e;rw[kh p]at d;simp at d;omega
 refine h.C2 [e] _ _ h.q (Hl _) λi u f=>?_;obtain⟨r,f,rfl⟩:=f;have:r=e:=zu f;subst this;obtain⟨i,rfl,j,o⟩:=nH a.1 a.2;rw[o]at d;have c:=h.code.fit i j;have y:l[((i:Int).toNat)].op=11\/l[((i:Int).toNat)].op=12:=d;refine⟨X,?_⟩;unfold PF at c |-;rw[K_ X,L_ X]at c;have k:(l[((i:Int).toNat)].pq l.length).op=l[i].op:=rfl;rw[k,K_ X,L_ X];refine⟨c.1,c.2.1,c.2.2.1,by show(0:Int)<=(l.length:Int);omega,Hl _,?_,.inl ?_⟩
 show iG l l.length≠20;rw[kh<|.inr<|Hl _];decide;show((i:Int).toNat:Int)<(l.length:Int);simpa using j
def pp.uf(h:pp l hC cs ats q)(a:QS)(y:∀i∈a,iG l i=17):pp (lV l.length l a++[⟨21,0,0,0,hC⟩]) (hC+1) cs ats l.length:=by
 have J:=h.mark;have I:(lV (l.length:Int) l a)++[(⟨21,0,0,0,hC⟩:In)]=lV l.length (l++[⟨21,0,0,0,hC⟩]) a:=by
  refine H1 (by simp[jh]) λi N u=>?_;have B:=by rw[jh]at u;exact u
  rw[mM _ _ _ i B];by_cases j:i<l.length;rw[Ht (by rw[jh];exact j),mM _ _ _ i j,Ht j];rw[HC (by rw[jh];omega),HC X];have M:¬∃e∈a,e.toNat=i:=by
   rintro⟨e,f,s⟩;have:=y e f;have d:=h.code.pos;rw[kh<|.inr X]at this;simp at this
  rw[K_ M];simp only[jh]
 rw[I];refine J.C2 a _ _ (Hl _) p_ λi O f=>?_;obtain⟨e,f,rfl⟩:=f;have k:=y e f;have r:0<=e/\e<l.length:=by
  by_cases F:e<0\/(l.length:Int)<=e;rw[kh F]at k;simp at k;omega
 obtain⟨i,rfl,z,A⟩:=nH r.1 r.2;have g:((i:Int)).toNat=i:=s_;have H:(l++[(⟨21,0,0,0,hC⟩:In)])[((i:Int)).toNat]=l[i]:=by
  simp only[g];exact Ht z
 rw[H];have o:l[i].op=17:=by rw[<-A];exact k
 refine⟨X,?_⟩;have d:=h.code.fit i z;unfold PF at d |-;rw[K_ X,K_ X]at d;have p:(l[i].pq l.length).op=l[i].op:=rfl;rw[p,K_ X,K_ X];rw[o]at d |-;have m:je.getD (17:Int).toNat default=⟨false,false,false,8⟩:=rfl;rw[m]at d |-;unfold jU at d |-;rw[p]
 have K:iG (l++[(⟨21,0,0,0,hC⟩:In)]) (l[i].pq l.length).n=21:=by
  show iG (l++[(⟨21,0,0,0,hC⟩:In)]) l.length=21;exact mD l ⟨21,0,0,0,hC⟩ []
 rw[K];have C:(l[i].pq l.length).a=l[i].a:=rfl;have L:(l[i].pq l.length).b=l[i].b:=rfl;have E:(l[i].pq l.length).c=l[i].c:=rfl;rw[C,L,E,o];rw[o]at d;simp at d |-;exact d.1
end
def kg(es fs:QS)(l:QR)(p:Int × Int):List In:=l.modify p.1.toNat λx=>⟨x.op,x.a,x.b,fs.getD p.2.toNat 0,es.getD p.2.toNat 0⟩
def qK(es fs:QS)(l:QR)(p:Int × Int):(kg es fs l p).length=l.length:=by simp[kg]
def pa(es fs:QS)(cs:List<|Int × Int):∀l:List In,(cs.foldl (kg es fs) l).length=l.length:=by
 induction cs with
 |nil=>intro l;rfl
 |cons d cs c=>intro l;exact(c _).trans<|qK es fs l d
def pb(es fs:QS)(cs:List<|Int × Int):∀(l:QR) (k:Nat) (e:k<l.length),∃c n,(cs.foldl (kg es fs) l)[k]'(by rw[pa];exact e)=⟨l[k].op,l[k].a,l[k].b,c,n⟩/\
 ((c=l[k].c/\n=l[k].n/\∀p∈cs,p.1.toNat≠k)\/∃p∈cs,p.1.toNat=k/\c=fs.getD p.2.toNat 0/\n=es.getD p.2.toNat 0):=by
 induction cs with
 |nil=>intro l k e;exact⟨_,_,rfl,.inl ⟨rfl,rfl,λp d=>by cases d⟩⟩
 |cons p cs r=>
  intro l k e;obtain⟨c,n,j,o⟩:=r (kg es fs l p) k (by rw[qK];exact e);have u:(kg es fs l p)[k]'(by rw[qK];exact e)=if p.1.toNat=k then⟨l[k].op,l[k].a,l[k].b,fs.getD p.2.toNat 0,es.getD p.2.toNat 0⟩ else l[k]:=by
   simp only[kg,Hy]
  rw[u]at j o;refine⟨c,n,?_,?_⟩;refine j.trans ?_;split<;>rfl;rcases o with⟨rfl,rfl,h⟩|⟨t,d,h⟩
  .by_cases f:p.1.toNat=k
   .rw[L_ f];exact .inr ⟨p,s_,f,rfl,rfl⟩
   rw[K_ f];refine .inl ⟨rfl,rfl,λt d=>?_⟩;rcases N_.1 d with rfl|d
   exact f;exact h t d
  exact .inr ⟨t,by simp[d],h⟩
def yK{l:QR}{hC hH q:Int}{cs:List (Int × Int)}{ats:List (List Int)}{es fs:QS}(h:pp l hC cs ats q)(aj:q<l.length)(U:iG l ((l.length:Int)-1)=14)(hl:l.length<=2048)
 (W:∀k,1<=k->k<=2->iG l (es.getD k 0)=21) (Y:∀k,1<=k->k<=2->2<=fs.getD k 0/\fs.getD k 0<=64) (L:0<=hH) (hv:hH<=64):ih (cs.foldl (kg es fs) l) hH hC=true:=by
 have D:=h.code.pos;have iS:=pa es fs cs l;have y:∀n,iG (cs.foldl (kg es fs) l) n=iG l n:=by
  intro n;by_cases I:n<0\/(l.length:Int)<=n;rw[kh I,kh<|by rw[iS];exact I];obtain⟨i,rfl,e,F⟩:=nH (l:=l) (n:=n) X X;obtain⟨c,B,j,_⟩:=pb es fs cs l i e;rw[F,og (by rw[iS];exact e),j]
 have S:∀n:Int,0<=n->n<l.length->0<=iG l n:=by
  intro n A j;obtain⟨i,rfl,e,F⟩:=nH A j;rw[F];exact(h.code.fit i e).rng.1
 have J:∀k,k<l.length->∀d∈cs,d.1.toNat=k->iG l k=13:=by
  intro k hk d u az;obtain⟨j,o,f,_⟩:=h.cs1 d u;have:d.1=(k:Int):=X;rw[<-this];exact f
 have R:∀i,i<l.length->kU (cs.foldl (kg es fs) l) i=true:=by
  intro i e;obtain⟨c,n,j,o⟩:=pb es fs cs l i e;have H:(cs.foldl (kg es fs) l).getD i default=⟨l[i].op,l[i].a,l[i].b,c,n⟩:=by
   rw[<-j];simp[List.getD,iS,e]
  have p:=h.code.fit i e;have hr:=p.rng;have N:kU (cs.foldl (kg es fs) l) i=jU (cs.foldl (kg es fs) l) i ⟨l[i].op,l[i].a,l[i].b,c,n⟩ (je.getD l[i].op.toNat default):=by unfold kU;rw[H]
  rw[N];clear N;clear j H;generalize hL:cs.foldl (kg es fs) l=K at*;unfold PF at p;by_cases z:l[i].op=13;rw[L_ z]at p;obtain⟨M,Z,hb,O,hn0⟩:=p;have C:∃d∈cs,d.1.toNat=i/\c=fs.getD d.2.toNat 0/\n=es.getD d.2.toNat 0:=by
   rcases o with⟨_,_,f⟩|f
   obtain⟨ad,B⟩:=h.cs2 i e z;exact GR (show((i:Int)).toNat=i by simp)<|f _ B;exact f
  obtain⟨d,u,_,rfl,rfl⟩:=C;obtain⟨_,_,_,br,bl⟩:=h.cs1 d u;have B:=Y d.2.toNat X X;have P:=W d.2.toNat X X;generalize fs.getD d.2.toNat 0=cR at*;generalize es.getD d.2.toNat 0=V at*
  have E:iG K ((i:Int)+1)=21:=by rw[y];exact O
  have m:je.getD (13:Int).toNat default=⟨false,false,false,7⟩:=rfl;simp only[z,M,m];simp[jU,mC,E,y,P];omega;have G:c=l[i].c/\n=l[i].n:=by
   rcases o with⟨f,r,_⟩|⟨d,u,f,_⟩
   exact⟨f,r⟩;have:=J i e d u f;rw[og e]at this;exact GR this z
  obtain⟨rfl,rfl⟩:=G;rw[K_ z]at p;have w:∀(x:In) (s:Sh),jU K i x s=jU l i x s:=by intro x s;unfold jU;simp only[y]
  rw[w];show jU l i l[i] _=true;by_cases C:l[i].op=11\/l[i].op=12;rw[L_ C]at p;obtain⟨B,P,O,M,V,E,g⟩:=p;have A:=S l[i].n M X;show jU l i l[i] (je.getD l[i].op.toNat default)=true;generalize l[i]=x at*;obtain⟨op,a,b,Z,nn⟩:=x;simp only at B P O M V E g A C |-;subst P;subst O
  rcases C with rfl|rfl
  have m:je.getD (11:Int).toNat default=⟨false,false,false,6⟩:=rfl;rw[m];simp[jU,mC]at B |-;exact⟨B,⟨A,E⟩,g⟩
  have m:je.getD (12:Int).toNat default=⟨true,false,false,6⟩:=rfl;rw[m];simp[jU,mC]at B |-;exact⟨X,⟨A,E⟩,g⟩
  rw[K_ C]at p;exact p
 have v:kx (cs.foldl (kg es fs) l) 0=kx l 0/\jM (cs.foldl (kg es fs) l)=jM l:=by
  constructor;refine rl _ _ iS (λi j o=>?_) 0;obtain⟨c,n,f,r⟩:=pb es fs cs l i o;rw[f];refine⟨rfl,λt=>?_⟩;rcases r with⟨_,r,_⟩|⟨d,u,r,_⟩
  exact r;have:=J i o d u r;rw[og o]at this;have B:l[i].op=21:=t;omega;refine sE iS λi j o=>?_;obtain⟨c,n,f,r⟩:=pb es fs cs l i o;rw[f]
 unfold ih;rw[y,y,v.1,v.2,iS,h.code.ne,U,h.code.FK,h.x7];have Q:nF (cs.foldl (kg es fs) l)=true:=by
  unfold nF;rw[G6];intro i e;exact R i (by rw[iS]at e;simpa using e)
 rw[Q];simp;omega
structure i3 where
 pv:Value
 vs:List ByteArray
 l:List In
 hC:Int
 es:List Int
 fs:List Int
 cs:List<|Int × Int
 hidden:Int
 most:Int
 ats:List<|Nat × List Int
 rts:List<|Nat × List Int
def i3.put(v:i3)(x:In):i3:={v with l:=v.l++[x]}
def i3.mark(v:i3):i3:={v with l:=v.l++[⟨21,0,0,0,v.hC⟩],hC:=v.hC+1}
def i3.here(v:i3)(is:QS):i3:={v with l:=lV v.l.length v.l is}
def i3.more(v:i3):i3:={v with hidden:=v.hidden+1,most:=max v.most (v.hidden+1)}
def i3.less(v:i3):i3:={v with hidden:=v.hidden-1}
def i3.call(v:i3)(b f:Int):i3:={v with l:=v.l++[⟨13,0,b,0,0⟩],cs:=v.cs++[((v.l.length:Int),f)]}
def i3.push(v:i3)(x:Nat):i3:={v with ats:=v.ats++[(x,[])]}
def i3.pop(v:i3):i3:={v with ats:=v.ats.dropLast,rts:=v.rts++v.ats.getLast?.toList}
def i3.drop(v:i3)(r:List<|Nat × List Int):i3:={v with rts:=r}
def rB(i:Int):List (Nat × List Int)->List (Nat × List Int)
 |[]=>[]
 |[a]=>[(a.1,a.2++[i])]
 |a::b::l=>a::rB i (b::l)
def i3.protect(v:i3):i3:={v with l:=v.l++[⟨17,0,0,0,0⟩],ats:=rB v.l.length v.ats}
structure GK(v:i3)(q:Int)(D:Nat):Prop where
 ok:pp v.l v.hC v.cs (v.ats.map (·.2)) q
 h0:0<=v.hidden
 hD:v.hidden+D<=10
 m0:0<=v.most
 m1:v.most<=10
 v0:2<=v.vs.length
 v1:v.vs.length<=9
 al:v.ats.length+D<=20
structure GP(v v':i3)(n:Nat):Prop where
 pv:v'.pv=v.pv
 vs:v'.vs=v.vs
 es:v'.es=v.es
 fs:v'.fs=v.fs
 hid:v'.hidden=v.hidden
 rt:v'.rts=v.rts
 qt:v'.ats.map (·.1)=v.ats.map (·.1)
 len:v'.l.length<=v.l.length+n
 kp:rI v.l v'.l
section
variable{v v' v'':i3}{q q':Int}{D n m:Nat}
def GP.refl(v:i3):GP v v 0:=⟨rfl,rfl,rfl,rfl,rfl,rfl,rfl,I_ _,rI.refl _⟩
def GP.trans(h:GP v v' n)(k:GP v' v'' m):GP v v'' (n+m):=⟨k.pv.trans h.pv,k.vs.trans h.vs,k.es.trans h.es,k.fs.trans h.fs,k.hid.trans h.hid,k.rt.trans h.rt,k.qt.trans h.qt,by have:=h.len;have:=k.len;omega,h.kp.trans k.kp⟩
def GP.le(h:GP v v' n)(c:n<=m):GP v v' m:={h with len:=H_ h.len X}
def GK.le{E:Nat}(h:GK v q D)(c:E<=D):GK v q E:={h with hD:=by have:=h.hD;omega,al:=by have:=h.al;omega}
def GP.sR(h:GP v v' n):v'.ats.length=v.ats.length:=by have:=GG List.length h.qt;simpa using this
def GK.of(h:GK v q D)(k:GP v v' n)(c:GK v' q' 0):GK v' q' D:={c with hD:=by rw[k.hid];exact h.hD,al:=by rw[k.sR];exact h.al}
def GK.simp(h:GK v q D){x:In}(c:lR x=true):GK (v.put x) v.l.length D:={h with ok:=h.ok.simp c}
def GP.put(v:i3)(x:In):GP v (v.put x) 1:=⟨rfl,rfl,rfl,rfl,rfl,rfl,rfl,by simp[i3.put],rI.app _ _⟩
def GK.mark(h:GK v q D):GK v.mark v.l.length D:={h with ok:=h.ok.mark}
def GP.mark(v:i3):GP v v.mark 1:=⟨rfl,rfl,rfl,rfl,rfl,rfl,rfl,by simp[i3.mark],rI.app _ _⟩
def GK.jump(h:GK v q D)(c n:Int)(e:c=11\/c=12)(d:iG v.l n=21):GK (v.put ⟨c,0,0,0,n⟩) v.l.length D:={h with ok:=h.ok.jump c n e d}
def GK.xd(h:GK v q D)(c:Int)(d:c=11\/c=12):GK (v.put ⟨c,0,0,0,0⟩) v.l.length D:=h.jump c 0 d h.ok.code.ne
def GK.here(h:GK v q D)(e:Int)(c:iG v.l e=11\/iG v.l e=12):GK (v.here [e]) v.l.length D:={h with ok:=h.ok.here e c}
def GK.ask(h:GK v q D)(c:q<v.l.length)(e:iG v.l ((v.l.length:Int)-1)=21)(n:Int)(h0:0<=n)(d:n<64):GK (v.put ⟨20,0,0,0,n⟩) v.l.length D:={h with ok:=h.ok.ask c e n h0 d}
def GP.here(v:i3)(is:QS):GP v (v.here is) 0:=⟨rfl,rfl,rfl,rfl,rfl,rfl,rfl,by simp[i3.here,jh],rI.set _ _ _⟩
def GK.uf(h:GK v q D)(a:QS)(c:∀i∈a,iG v.l i=17):GK (v.here a).mark v.l.length D:={h with ok:=h.ok.uf a c}
def GK.xv(h:GK v q D)(b f:Int)(H:0<=b)(c:b<=2)(C:1<=f)(g:f<=2):GK (v.call b f).mark v.l.length D:=by
 refine{h with ok:=?_};have:=h.ok.call b f H c C g;show pp ((v.l++[_])++[_]) _ _ _ _;rw[Hq];exact this
def GP.call(v:i3)(b f:Int):GP v (v.call b f) 1:=⟨rfl,rfl,rfl,rfl,rfl,rfl,rfl,by simp[i3.call],rI.app _ _⟩
def oM(v:i3){x:In}:iG (v.put x).l v.l.length=x.op:=mD _ _ _
def GK.more(h:GK v q<|D+1):GK v.more q D:=
 {ok:=h.ok,h0:=by have:=h.h0;show 0<=v.hidden+1;omega,hD:=by have:=h.hD;show v.hidden+1+D<=10;omega,m0:=by have:=h.m0;show 0<=max v.most (v.hidden+1);omega,
  m1:=by have:=h.m1;have:=h.hD;show max v.most (v.hidden+1)<=10;omega,v0:=h.v0,v1:=h.v1,al:=by have:=h.al;show v.ats.length+D<=20;omega}
def sf(i:Int):∀l:List<|Nat × List Int,(rB i l).map (·.1)=l.map (·.1)
 |[]=>rfl
 |[a]=>rfl
 |a::b::l=>by simp only[rB,Hs];rw[sf i<|b::l];rfl
def se(i:Int):∀(l:List<|Nat × List Int) (a:Nat × List Int),a∈rB i l->a∈l\/∃b∈l,a=(b.1,b.2++[i])
 |[],a,h=>by cases h
 |[b],a,h=>by
  have:a=(b.1,b.2++[i]):=by simpa[rB]using h
  exact .inr ⟨b,s_,this⟩
 |b::c::l,a,h=>by
  rcases N_.1 h with rfl|h
  exact .inl s_;rcases se i (c::l) a h with h|⟨d,e,f⟩
  .exact .inl<|Z_ _ h
  exact .inr ⟨d,Z_ _ e,f⟩
def GK.protect(h:GK v q D):GK v.protect v.l.length D:=by
 refine{h with ok:=?_,al:=by have o:v.protect.ats.length=v.ats.length:=(show(rB v.l.length v.ats).length=_ by have:=GG List.length<|sf v.l.length v.ats;simpa using this);rw[o];exact h.al};have p:lR ⟨17,0,0,0,0⟩=true:=I;have f:=h.ok.simp p;refine{f with qt:=?_,sR:=?_}
 .intro a k i d;obtain⟨e,j,rfl⟩:=GJ.1 k;rcases se _ _ _ j with c|⟨b,c,rfl⟩
  exact f.qt e.2 (GJ.2 ⟨e,c,rfl⟩) i d;rcases X_.1 d with d|d
  .exact f.qt b.2 (GJ.2 ⟨b,c,rfl⟩) i d
  have:i=(v.l.length:Int):=zu d;subst this;exact⟨X,by simp[i3.protect];omega,mD _ _ _⟩
 intro a k;obtain⟨e,j,rfl⟩:=GJ.1 k;rcases se _ _ _ j with c|⟨b,c,rfl⟩
 exact f.sR e.2<|GJ.2 ⟨e,c,rfl⟩;have:=h.ok.sR b.2<|GJ.2 ⟨b,c,rfl⟩;simp[i3.protect];exact this
def GP.protect(v:i3):GP v v.protect 1:=⟨rfl,rfl,rfl,rfl,rfl,rfl,sf _ _,by simp[i3.protect],rI.app _ _⟩
def GK.push(h:GK v q<|D+1)(x:Nat):GK (v.push x) q D:=by
 refine{h with ok:=?_,hD:=by have:=h.hD;show v.hidden+D<=10;omega,al:=by have:=h.al;simp[i3.push];omega};refine{h.ok with qt:=?_,sR:=?_}
 .intro a c i e;have d:a∈v.ats.map (·.2)\/a=[]:=by simpa[i3.push]using c
  rcases d with c|rfl
  exact h.ok.qt a c i e;cases e
 intro a c;have d:a∈v.ats.map (·.2)\/a=[]:=by simpa[i3.push]using c
 rcases d with c|rfl
 exact h.ok.sR a c;simp
def pp.pop{l:QR}{hC:Int}{cs:List (Int × Int)}{a b:List (List Int)}(h:pp l hC cs a q)(d:∀x∈b,x∈a):pp l hC cs b q:=
 {h with qt:=λx c=>h.qt x<|d x c,sR:=λx c=>h.sR x (d x c)}
def GP.Ee(h:GP (v.push x) v' n)(k:GP v'.pop v'' m):GP v (v''.drop v.rts) (n+m):=
 {pv:=k.pv.trans h.pv,vs:=k.vs.trans h.vs,es:=k.es.trans h.es,fs:=k.fs.trans h.fs,hid:=k.hid.trans h.hid,rt:=rfl,
  len:=by have c:v'.l.length<=v.l.length+n:=h.len;have d:v''.l.length<=v'.l.length+m:=k.len;show v''.l.length<=v.l.length+(n+m);omega
  kp:=h.kp.trans k.kp
  qt:=by
   have c:=GG List.dropLast h.qt;simp[i3.push,<-List.map_dropLast]at c;have d:=k.qt;show v''.ats.map _=_;rw[d];simpa[i3.pop,List.map_dropLast]using c}
def GP.EW(h:GP (v.push x) v' n):∃l is,v'.ats=l++[(x,is)]/\v'.pop.rts=v.rts++[(x,is)]:=by
 have d:=h.qt;simp only[i3.push,GN,Hs,H3]at d;rcases List.eq_nil_or_concat v'.ats with c|⟨l,a,c⟩
 rw[c]at d;simp at d;rw[List.concat_eq_append]at c;rw[c,GN]at d;have j:=List.append_inj_right' d rfl;have e:=zu j;refine⟨l,a.2,by rw[c,<-e],?_⟩;have f:v'.rts=v.rts:=h.rt;simp only[i3.pop,f];rw[c,<-e];simp
def GK.E8(h:GK v q<|D+1)(k:GP (v.push x) v' n)(c:GK v' q' 0):GK v'.pop q' (D+1):=
 {ok:=c.ok.pop λp f=>by
   obtain⟨j,e,rfl⟩:=GJ.1 f;exact GJ.2 ⟨j,(List.dropLast_sublist _).subset e,rfl⟩
  h0:=c.h0,hD:=by have:v'.hidden=v.hidden:=k.hid;have:=h.hD;show v'.hidden+_<=10;omega,m0:=c.m0,m1:=c.m1,v0:=c.v0,v1:=c.v1
  al:=by
   have d:=k.sR;have o:=h.al;simp only[i3.push,M_,IM]at d;show(v'.ats.dropLast).length+_<=20;rw[List.length_dropLast];omega}
def GK.Fj(h:GK v q D)(r:List<|Nat × List Int):GK (v.drop r) q D:={h with}
def GP.more(h:GP v.more v' n):GP v v'.less n:=
 {pv:=h.pv,vs:=h.vs,es:=h.es,fs:=h.fs,qt:=h.qt,len:=h.len,kp:=h.kp,rt:=h.rt,hid:=by
   show v'.hidden-1=v.hidden;rw[h.hid];show v.hidden+1-1=v.hidden;omega}
def GK.less(h:GK v q D)(k:GK v' q' 0)(d:v'.hidden=v.hidden+1)(c:v'.ats.length=v.ats.length):GK v'.less q' D:=
 {k with h0:=by show 0<=v'.hidden-1;have:=h.h0;omega,hD:=by show v'.hidden-1+D<=10;have:=h.hD;omega,al:=by show v'.ats.length+D<=20;rw[c];exact h.al}
end
