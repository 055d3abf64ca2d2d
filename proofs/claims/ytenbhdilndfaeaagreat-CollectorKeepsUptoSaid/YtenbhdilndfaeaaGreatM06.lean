import Derived.Test.YtenbhdilndfaeaaGreatM05
set_option maxRecDepth 100000
set_option maxHeartbeats 0
set_option linter.all false
namespace Go.Proofs.YtenbhdilndfaeaaGreat
open Go.RowKit Go.Proofs.Tryz
variable{G:Prop}{g i x:Nat}{t:TypeId}{s:Sh}
def LC(h:G:=by
 intro n hn;rw[hk.2 n,hn];rcases Ix n l.length with h|h
 exact h;rw[kd (.inr h)]at hn;simp at hn):G:=h
def Ml(h:G:=by
 obtain⟨h1,h2,h3,am⟩:=h.cs1 p hp;exact⟨h1,p_,by rw[k9 _ h2];exact h3,am⟩):G:=h
def Mq(h:G:=by
 obtain⟨h1,h2,h3⟩:=h.p3 a ha i hi;exact⟨h1,p_,by rw[k9 _ h2];exact h3⟩):G:=h
def h6{P:Program}{f:FuncId}{a:Array Value}{w:World}{i:Ending->World->Prop}(h:∀Q,Hid (Q=i)->Calls P f a w Q):Calls P f a w i:=h i (O rfl)
def box1(w:World)(t:TypeId)(cs:Array Value):∃(W:World) (g:Nat),w.alloc (.cells cs t)=W/\w.heap.size=g/\J [] w W/\Bk W g t cs:=
 ⟨_,_,rfl,rfl,(F_ [] w).alloc _,P_ w t cs⟩
def tP(w:World)(c:TypeId)(c1:Array Value)(Q:TypeId)(d:Array Value):∃(W:World) (g e:Nat),(w.alloc (.cells c1 c)).alloc (.cells d Q)=W/\w.heap.size=g/\g+1=e/\J [] w W/\Bk W g c c1/\Bk W e Q d:=
 ⟨_,_,_,rfl,rfl,rfl,((F_ [] w).alloc _).alloc _,(P_ w c c1).alloc _,by simpa using P_ (w.alloc (.cells c1 c)) Q d⟩
structure Gt(base:Nat)(T:List TypeId)(a w:World):Prop where
 os:w.os=a.os
 tape:w.tape=a.tape
 output:w.output=a.output
 size:a.heap.size<=w.heap.size
 block:∀k,k<a.heap.size->(k<base∨∀cs t fz,a.heap[k]?=some (.cells cs t fz)->t∉T)->w.heap[k]?=a.heap[k]?
section
variable{base:Nat}{T:List TypeId}{a b w w':World}
def Gt.trans(h:Gt base T a b)(k:Gt base T b w):Gt base T a w:=
 ⟨k.os.trans h.os,k.tape.trans h.tape,k.output.trans h.output,G_ h.size k.size,λi c e=>
   (k.block i (Hg c h.size) (e.imp id λd cs t j f=>d cs t j ((h.block i c (.inr d)).symm.trans f))).trans (h.block i c e)⟩
def Gt.jD(h:J [] a w):Gt base T a w:=⟨h.os,h.tape,h.output,h.size,λi c _=>h.block i c H⟩
def Gt.refl(base:Nat)(T:List TypeId)(w:World):Gt base T w w:=.jD (F_ [] w)
def Gt.one{cs:Array Value}(h:J [g] a w)(k:base<=g)(e:Bk a g t cs)(j:t∈T):Gt base T a w:=
 ⟨h.os,h.tape,h.output,h.size,λi d c=>h.block i d (by
   intro f;have:i=g:=zu f;subst this;rcases c with c|c
   omega;exact c _ _ _ e j)⟩
def Gt.set{cs:Array Value}(d:Bk w g t cs)(c:base<=g)(e:t∈T)(i:Nat)(u:Value):Gt base T w (w.setCell (Z g i) u):=
 .one ((F_ [g] w).setCell (p:=(Z g i)) (.inl H) u) c d e
def Gt.grown{o:Option Nat}(h:w.grownBy w' o)(p:∀g,o=some g->base<=g/\∃cs t d,w.heap[g]?=some (.cells cs t d)/\t∈T):Gt base T w w':=
 ⟨h.os,h.tape,h.output,h.size,λi j c=>h.block i j (by
   intro k;obtain⟨r,cs,t,d,e,f⟩:=p i k.symm;rcases c with c|c
   omega;exact c _ _ _ e f)⟩
def Gt.gr(h:Gt base T a w)(d:a.heap.size<=base):J [] a w:=⟨h.os,h.tape,h.output,h.size,λi c _=>h.block i c (.inl X)⟩
def Bk.gt{cs:Array Value}(h:Bk a g t cs)(k:Gt base T a w)(d:t∉T):Bk w g t cs:=
 (k.block g h.lt (.inr λe j f c=>by unfold Bk at h;rw[h]at c;injection c with c;injection c with _ c;subst c;exact d)).trans h
def Sl.gt{e:TypeId}{f n:Nat}{A:OA}{xs:QW}(h:Sl a e f A n xs)(k:Gt base T a w)(u:e∉T):Sl w e f A n xs:=
 ⟨h.1,λr=>by
   obtain⟨b,y,cs,j,o,d,p⟩:=h.2 r;exact⟨b,y,cs,j,o,(k.block b (kX d) (.inr λB C z c=>by rw[d]at c;injection c with c;injection c with _ c;subst c;exact u)).trans d,p⟩⟩
def kw.gt{p:Nat->Prop}{t:ET}(h:kw p a t)(k:Gt base T a w)(f:226∉T):kw p w t:=by
 induction h with
 |mk t h e d _ c=>exact .mk t (h.gt k f) e d c
def jL.gt{p:Nat->Prop}{t:ST}(h:jL p a t)(k:Gt base T a w)(d:226∉T)(c:229∉T):jL p w t:=by
 induction h with
 |mk t A y o B j u F _ C z r _ e f=>exact .mk t (A.gt k d) y o (λH E=>(B H E).gt k d) (j.gt k c) u F e (C.gt k c) z r f
end
def n8{l:QS}(h:i<l.length):iB l i=l[i].op:=by
 unfold iB;rw[T_ X];simp[List.getD,h]
def kd{l:QS}{n:Int}(h:n<0∨(l.length:Int)<=n):iB l n= -1:=by unfold iB;rw[U_ h]
def nB{l:QS}{n:Int}(h0:0<=n)(c:n<l.length):∃i:Nat,n=i/\∃h:i<l.length,iB l n=l[i].op:=by
 refine⟨n.toNat,X,X,?_⟩;exact(Z_ (iB l) (show n=(n.toNat:Int) by omega)).trans (n8 X)
def k9{l:QS}{n:Int}(a:QS)(h:n<l.length):iB (l++a) n=iB l n:=by
 by_cases d:0<=n;obtain⟨i,rfl,e,c⟩:=nB d h;rw[c,n8 p_,GY e];rw[kd (.inl X),kd (.inl X)]
def ms(l:QS)(x:In)(a:QS):iB (l++x::a) l.length=x.op:=by
 rw[n8 H];simp
def In.pb(x:In)(v:Int):In:=⟨x.op,x.a,x.b,x.c,v⟩
def mm(v:Int)(l:QS)(i:Int):List In:=l.modify i.toNat (In.pb · v)
def lS(v:Int)(l:QS)(is:QR):List In:=is.foldl (mm v) l
def lJ(v:Int)(l:QS)(i:Int):(mm v l i).length=l.length:=by simp[mm]
def i9(v:Int)(is:QR):∀l:List In,(lS v l is).length=l.length:=by
 induction is with
 |nil=>intro l;rfl
 |cons i is c=>intro l;exact(c _).trans (lJ v l i)
def uv(v:Int)(l:QS)(i:Int)(k:Nat)(c:k<l.length):(mm v l i)[k]'(by rw[lJ];exact c)=if i.toNat=k then l[k].pb v else l[k]:=by
 simp only[mm,G7]
def mL(v:Int)(is:QR):∀(l:QS) (k:Nat) (j:k<l.length),(lS v l is)[k]'(by rw[i9];exact j)=if ∃i∈is,i.toNat=k then l[k].pb v else l[k]:=by
 induction is with
 |nil=>intro l k j;simp[lS]
 |cons i is o=>
  intro l k j;have r:=o (mm v l i) k (by rw[lJ];exact j);have p:lS v l (i::is)=lS v (mm v l i) is:=rfl;simp only[p];rw[r];rw[uv v l i k j];by_cases d:i.toNat=k;by_cases e:∃c∈is,c.toNat=k
  .rw[U_ e,U_ d,U_ ⟨i,H,d⟩];rfl
  rw[T_ e,U_ d,U_ ⟨i,H,d⟩];by_cases e:∃c∈is,c.toNat=k
  .obtain⟨c,f,h⟩:=e;rw[U_ ⟨c,f,h⟩,T_ d,U_ ⟨c,by simp[f],h⟩]
  rw[T_ e,T_ d,T_];rintro⟨c,f,h⟩;rcases O_.1 f with rfl|f
  exact d h;exact e ⟨c,f,h⟩
def ox(v:Int)(is:QR)(l:QS)(n:Int):iB (lS v l is) n=iB l n:=by
 by_cases c:n<0∨(l.length:Int)<=n;rw[kd c,kd (by rw[i9];exact c)];obtain⟨i,rfl,d,e⟩:=nB (l:=l) (n:=n) X X;rw[e,n8 (by rw[i9];exact d),mL v is l i d];split<;>rfl
def q4(l l':QS):Prop:=l.length<=l'.length/\∀n:Int,n<l.length->iB l' n=iB l n
def q4.refl(l:QS):q4 l l:=⟨H_ _,λ_ _=>rfl⟩
def q4.trans{a b c:QS}(h:q4 a b)(k:q4 b c):q4 a c:=⟨G_ h.1 k.1,λn d=>(k.2 n (by have:=h.1;omega)).trans (h.2 n d)⟩
def q4.app(l a:QS):q4 l (l++a):=⟨by simp,λ_ c=>k9 a c⟩
def q4.set(v:Int)(l:QS)(is:QR):q4 l (lS v l is):=⟨by rw[i9];exact H_ _,λn _=>ox v is l n⟩
def PF(l:QS)(q:Int)(i:Nat)(x:In):Prop:=
 if x.op=13 then x.a=0/\0<=x.b/\x.b<=2/\iB l ((i:Int)+1)=21/\iB l x.n=21
 else if x.op=11∨x.op=12 then mr x.a (x.op==12)=true/\x.b=0/\x.c=0/\0<=x.n/\x.n<=q/\iB l x.n≠20/\((i:Int)<x.n∨iB l x.n=21)
 else jX l i x (i7.getD x.op.toNat default)=true
structure nj(l:QS)(q:Int):Prop where
 ne:iB l 0=21
 fit:∀i (h:i<l.length),PF l q i l[i]
 EQ:ks l 0=true
def nj.pos{l:QS}{q:Int}(h:nj l q):0<l.length:=by
 rcases GR l.length with c|c
 have d:=h.ne;rw[kd (.inr X)]at d;simp at d;exact c
def Bu{l c:QS}(hk:q4 l c)(i:Nat)(x:In)(o:x.op≠13)(p:s.n≠6)(f:s.n≠7)(r:i<=l.length)(h:jX l i x s=true):jX c i x s=true:=by
 have e:∀n:Int,iB l n=21->iB c n=21:=LC;have a:iB c ((i:Int)-1)=iB l ((i:Int)-1):=hk.2 _ X;unfold jX at h |-;have k:(x.op==13)=false:=zu o;rw[k]at h |-;simp only[Bool.false_and,H8]at h |-;rw[T_ p,T_ f]at h |-;rw[a];split at h
 simp at h;rename_i c1;rw[T_ c1];split at h
 .simp at h
 rename_i j;rw[T_ j];split at h
 .simp at h
 rename_i c3;rw[T_ c3];by_cases d:s.n=8;rw[d]at h |-;simp at h |-
 rcases h with h|h
 exact .inl h;exact .inr (e _ h);rw[T_ d]at h |-;exact h
def Fw(k:Nat)(h:k<=21):((i7.getD k default).n=6↔k=11∨k=12)/\((i7.getD k default).n=7↔k=13):=by
 have:∀k,k<22->((i7.getD k default).n=6↔k=11∨k=12)/\((i7.getD k default).n=7↔k=13):=I;exact this k X
def uH{l:QS}{x:In}(h:jX l i x s=true):0<=x.op/\x.op<=21:=by
 unfold jX at h;split at h;simp at h;omega
def PF.rng{l:QS}{q:Int}{x:In}(h:PF l q i x):0<=x.op/\x.op<=21:=by
 unfold PF at h;split at h;omega;split at h
 .omega
 exact uH h
def PF.kp{l e:QS}{q q':Int}{x:In}(hk:q4 l e)(C:i<l.length)(A:q<=q')(hn:q<l.length∨iB e l.length≠20)(a:q<=l.length)(h:PF l q i x):PF e q' i x:=by
 have f:∀n:Int,iB l n=21->iB e n=21:=LC;have E:=h.rng;unfold PF at h |-;split at h
 rename_i c;rw[U_ c];exact⟨h.1,h.2.1,h.2.2.1,f _ h.2.2.2.1,f _ h.2.2.2.2⟩;rename_i c;rw[T_ c];split at h
 .rename_i d;rw[U_ d];obtain⟨u,y,z,p,B,k,j⟩:=h;refine⟨u,y,z,p,X,?_,j.imp id (f _)⟩;by_cases o:x.n<l.length;rw[hk.2 _ o];exact k;have r:x.n=l.length:=X;rw[r];exact hn.resolve_left X
 rename_i d;rw[T_ d];have o:=Fw x.op.toNat X;exact Bu hk i x c (λk=>d (ov (o.1.1 k))) (λj=>c (ov (o.2.1 j))) X h
def xL(l a:QS):∀m:Int,ks (l++a) m=(ks l m&&ks a (m+jG l)):=by
 induction l with
 |nil=>intro m;simp[ks,jG]
 |cons x l e=>
  intro m;by_cases c:x.op=21;have d:jG (x::l)=jG l+1:=by simp[jG,c]
  simp only[Hx,ks,c,if_true,e,d,Bool.and_assoc];rw[show m+1+jG l=m+(jG l+1) by omega];have d:jG (x::l)=jG l:=by simp[jG,c]
  simp only[Hx,ks,c,if_false,e,d]
def rn(l a:QS):jG (l++a)=jG l+jG a:=by simp[jG]
def nj.app{l:QS}{q:Int}(h:nj l q)(a:QS)(e:q<l.length∨(q=l.length/\∃k t,a=k::t/\k.op≠20))(q':Int)(b:q<=q')
 (p:∀d (y:d<a.length),PF (l++a) q' (l.length+d) a[d]) (u:ks a (jG l)=true):nj (l++a) q':=by
 have f:=q4.app l a;refine⟨?_,λi r=>?_,?_⟩;rw[k9 a (ov h.pos)];exact h.ne;by_cases c:i<l.length
 .rw[GY c];refine(h.fit i c).kp f c b ?_ (by rcases e with h|h<;>omega);rcases e with j|⟨_,k,t,rfl,o⟩
  exact .inl j;right;rw[ms];exact o
 rw[G5 X];have:=p (i-l.length) (by rw[I_]at r;omega);rwa [show l.length+(i-l.length)=i by omega]at this;rw[xL,h.EQ,Int.zero_add,u];rfl
def nj.q{l:QS}{q q':Int}(h:nj l q)(d:q<=q')(a:q<=l.length):nj l q':=by
 refine⟨h.ne,λi c=>(h.fit i c).kp (q4.refl l) c d ?_ a,h.EQ⟩;right;rw[kd (.inr (GH _))];decide
def qN:∀(l c:QS),l.length=c.length->(∀i (h:i<l.length) (o:i<c.length),l[i].op=c[i].op/\(l[i].op=21->l[i].n=c[i].n))->∀m,ks l m=ks c m:=by
 intro l;induction l with
 |nil=>
  intro c f _ m;have:c=[]:=Gh f.symm;subst this;rfl
 |cons x l p=>
  intro c f h m;cases c with
  |nil=>simp at f
  |cons k c=>
   have e:=h 0 H H;simp only[Ha]at e;have a:=p c (zu f) (λi r u=>h (i+1) p_ p_);by_cases d:x.op=21;have j:k.op=21:=by rw[<-e.1];exact d
   simp only[ks,U_ d,U_ j,a,e.2 d];have j:¬k.op=21:=by rw[<-e.1];exact d
   simp only[ks,T_ d,T_ j,a]
def rT{l c:QS}(k:l.length=c.length)(h:∀i (h:i<l.length) (o:i<c.length),l[i].op=c[i].op):jG l=jG c:=by
 have e:l.map In.op=c.map In.op:=by
  refine HU (zu k) λi f j=>?_;simp only[Hq];exact h i (zu f) (zu j)
 have d:∀l:List In,jG l=((l.map In.op).filter (· ==21)).length:=by
  intro l;simp[jG,List.filter_map,Function.comp_def]
 rw[d,d,e]
def nj.Cj{l:QS}{q:Int}(h:nj l q)(is:QR)(v:Int)(q':Int)(o:q<=q')(a:q<=l.length)
 (f:∀i (h:i<l.length),(∃p∈is,p.toNat=i)->l[i].op≠21/\PF l q' i (l[i].pb v)):nj (lS v l is) q':=by
 have iF:=i9 v is l;have j:=ox v is l;have b:∀i x,PF l q' i x->PF (lS v l is) q' i x:=by
  intro i x e;unfold PF at e |-;unfold jX at e |-;simp only[j];exact e
 refine⟨by rw[j];exact h.ne,λi k=>?_,?_⟩;have c:i<l.length:=by rw[<-iF];exact k
 rw[mL v is l i c];split;rename_i d;exact b i _ (f i c d).2;exact b i _ (((h.q o a).fit i c));rw[qN (lS v l is) l iF (λi r c=>?_)]
 .exact h.EQ
 rw[mL v is l i c];split
 .rename_i d;exact⟨rfl,λt=>Gc t (f i c d).1⟩
 exact⟨rfl,λ_=>rfl⟩
structure pa(l:QS)(hC:Int)(cs:List (Int × Int))(ats:List (List Int))(q:Int):Prop where
 code:nj l q
 xo:hC=jG l
 cs1:∀p∈cs,0<=p.1/\p.1<l.length/\iB l p.1=13/\1<=p.2/\p.2<=2
 cs2:∀i (h:i<l.length),l[i].op=13->∃f,((i:Int),f)∈cs
 p3:∀a∈ats,∀i∈a,0<=i/\i<l.length/\iB l i=17
 q:q<=l.length
 zZ:cs.length<=l.length
 sa:∀a∈ats,a.length<=l.length
section
variable{l:QS}{hC:Int}{cs:List (Int × Int)}{ats:List (List Int)}{q:Int}
def pa.put(h:pa l hC cs ats q)(x:In)(j:x.op≠13)(t:x.op≠21)(f:x.op≠20∨q<l.length)(k:PF (l++[x]) l.length l.length x):pa (l++[x]) hC cs ats l.length where
 code:=h.code.app [x] (by
  rcases f with f|f
  rcases Ix q l.length with e|e
  .exact .inl e
  exact .inr ⟨ov h.q,x,[],rfl,f⟩;exact .inl f) _ h.q (λo e=>by
  have:o=0:=zu e;subst this;exact k) (by simp[ks,t])
 xo:=by rw[rn,h.xo];simp[jG,t]
 cs1:=λp hp=>by
  exact Ml
 cs2:=λi hi c=>by
  by_cases d:i<l.length;rw[GY d]at c;exact h.cs2 i d c;rw[G5 X]at c;simp at c;exact Gc c j
 p3:=λa ha i hi=>by
  exact Mq
 q:=by simp;omega
 zZ:=by have:=h.zZ;simp;omega
 sa:=λa ha=>by have:=h.sa a ha;simp;omega
def lN(x:In):Bool:=jX [] 0 x (i7.getD x.op.toNat default)&&(x.op !=11)&&(x.op !=12)&&(x.op !=13)&&(x.op !=20)&&(x.op !=21)&&(x.op !=17||x.n==0)
def PF.simp{l:QS}{q:Int}{x:In}(h:lN x=true):PF l q i x:=by
 unfold lN at h;simp only[Gq,bne_iff_ne,ne_eq]at h;obtain⟨⟨⟨⟨⟨⟨c,B⟩,C⟩,j⟩,A⟩,t⟩,o⟩:=h;have E:=uH c;have k:=Fw x.op.toNat X;have u:¬(i7.getD x.op.toNat default).n=6:=λd=>by have:=k.1.1 d;omega
 have p:¬(i7.getD x.op.toNat default).n=7:=λd=>by have:=k.2.1 d;omega
 have r:(i7.getD x.op.toNat default).n=8->x.op=17:=by
  have:∀e,e<22->(i7.getD e default).n=8->e=17:=I;intro d;have:=this x.op.toNat X d;omega
 unfold PF;rw[T_ j,T_ X];generalize i7.getD x.op.toNat default=s at*;unfold jX at c |-;have z:(x.op==13)=false:=zu j;have a:(x.op !=20)=true:=zu A;rw[z,a]at c |-;simp only[Bool.false_and,H8,Iy]at c |-;rw[T_ u,T_ p]at c |-
 by_cases f:s.n=8;have b:(x.n==0)=true:=by
  have y:=r f;rw[y]at o;simpa using o
 rw[b]at c |-
 simpa using c;rw[T_ f]at c |-;exact c
def pa.simp(h:pa l hC cs ats q){x:In}(d:lN x=true):pa (l++[x]) hC cs ats l.length:=by
 have c:=d;unfold lN at c;simp only[Gq,bne_iff_ne,ne_eq]at c;obtain⟨⟨⟨⟨⟨⟨_,_⟩,_⟩,f⟩,e⟩,t⟩,_⟩:=c;exact h.put x f t (.inl e) (PF.simp d)
def pa.mark(h:pa l hC cs ats q):pa (l++[⟨21,0,0,0,hC⟩]) (hC+1) cs ats l.length where
 code:=h.code.app [⟨21,0,0,0,hC⟩] (by
  rcases Ix q l.length with e|e
  exact .inl e;exact .inr ⟨ov h.q,_,[],rfl,H⟩) _ h.q (λj f=>by
  have:j=0:=zu f;subst this;show PF _ _ _ (⟨21,0,0,0,hC⟩:In);unfold PF;rw[T_ H,T_ H];simp[jX,i7,mr]) (by simp[ks,h.xo])
 xo:=by rw[rn,h.xo];simp[jG]
 cs1:=λp hp=>by
  exact Ml
 cs2:=λi hi c=>by
  by_cases d:i<l.length;rw[GY d]at c;exact h.cs2 i d c;rw[G5 X]at c;simp at c
 p3:=λa ha i hi=>by
  exact Mq
 q:=by simp;omega
 zZ:=by have:=h.zZ;simp;omega
 sa:=λa ha=>by have:=h.sa a ha;simp;omega
def pa.jump(h:pa l hC cs ats q)(o n:Int)(f:o=11∨o=12)(c:iB l n=21):pa (l++[⟨o,0,0,0,n⟩]) hC cs ats l.length:=by
 have d:0<=n/\n<l.length:=by
  by_cases e:n<0∨(l.length:Int)<=n;rw[kd e]at c;simp at c;omega
 refine h.put _ p_ p_ (.inl p_) ?_;unfold PF;rw[T_ p_,U_ (zu f)];refine⟨by simp[mr],rfl,rfl,d.1,p_,?_,.inr ?_⟩;rw[k9 _ d.2,c];decide;rw[k9 _ d.2,c]
def pa.call(h:pa l hC cs ats q)(b f:Int)(y:0<=b)(o:b<=2)(d:1<=f)(g:f<=2):pa (l++[⟨13,0,b,0,0⟩,⟨21,0,0,0,hC⟩]) (hC+1) (cs++[((l.length:Int),f)]) ats l.length where
 code:=h.code.app _ (by
  rcases Ix q l.length with j|j
  exact .inl j;exact .inr ⟨ov h.q,_,_,rfl,H⟩) _ h.q (λk r=>by
  have hp:=h.code.pos;rcases(by simp at r;omega:k=0∨k=1)with rfl|rfl
  show PF _ _ _ (⟨13,0,b,0,0⟩:In);unfold PF;rw[U_ r_];refine⟨rfl,y,o,?_,?_⟩;have:(((l.length+0:Nat):Int)+1)=((l.length+1:Nat):Int):=X;rw[this,n8 H,G5 X];simp;show iB _ 0=21;rw[k9 _ X];exact h.code.ne;show PF _ _ _ (⟨21,0,0,0,hC⟩:In);unfold PF;rw[T_ H,T_ H];simp[jX,i7,mr]) (by simp[ks,h.xo])
 xo:=by rw[rn,h.xo];simp[jG]
 cs1:=λp hp=>by
  rcases W_.1 hp with hp|hp
  exact Ml;have:p=((l.length:Int),f):=zu hp;subst this;exact⟨H,p_,ms _ _ _,d,g⟩
 cs2:=λi hi c=>by
  by_cases e:i<l.length;rw[GY e]at c;obtain⟨s,k⟩:=h.cs2 i e c;exact⟨s,Gn _ k⟩;rw[G5 X]at c;have k:i=l.length∨i=l.length+1:=by simp at hi;omega
  rcases k with rfl|rfl
  exact⟨f,H⟩;simp at c
 p3:=λa ha i hi=>by
  exact Mq
 q:=by simp;omega
 zZ:=by have:=h.zZ;simp;omega
 sa:=λa ha=>by have:=h.sa a ha;simp;omega
def pa.ask(h:pa l hC cs ats q)(c:q<l.length)(e:iB l ((l.length:Int)-1)=21)(n:Int)(h0:0<=n)(f:n<64):pa (l++[⟨20,0,0,0,n⟩]) hC cs ats l.length:=by
 refine h.put _ H H (.inr c) ?_;unfold PF;rw[T_ H,T_ H];have d:iB (l++[(⟨20,0,0,0,n⟩:In)]) ((l.length:Int)-1)=21:=by rw[k9 _ X];exact e
 simp[jX,i7,mr,d];omega
def pa.Cj(h:pa l hC cs ats q)(is:QR)(v:Int)(q':Int)(r:q<=q')(u:q'<=l.length)
 (c:∀i (h:i<l.length),(∃z∈is,z.toNat=i)->l[i].op≠21/\PF l q' i (l[i].pb v)):pa (lS v l is) hC cs ats q' where
 code:=h.code.Cj is v q' r h.q c
 xo:=by
  rw[h.xo];refine(rT (i9 v is l) λi e d=>?_).symm;rw[mL v is l i d];split<;>rfl
 cs1:=λA y=>by
  obtain⟨e,d,j,p⟩:=h.cs1 A y;exact⟨e,by rw[i9];exact d,by rw[ox];exact j,p⟩
 cs2:=λi c f=>by
  have o:=by rw[i9]at c;exact c
  rw[mL v is l i o]at f;refine h.cs2 i o ?_;split at f<;>exact f
 p3:=λa k i c=>by
  obtain⟨e,d,j⟩:=h.p3 a k i c;exact⟨e,by rw[i9];exact d,by rw[ox];exact j⟩
 q:=by rw[i9];exact u
 zZ:=by rw[i9];exact h.zZ
 sa:=λa k=>by rw[i9];exact h.sa a k
def pa.here(h:pa l hC cs ats q)(e:Int)(d:iB l e=11∨iB l e=12):pa (lS l.length l [e]) hC cs ats l.length:=by
 have a:0<=e/\e<l.length:=by
  by_cases p:e<0∨(l.length:Int)<=e;rw[kd p]at d;simp at d;omega
 refine h.Cj [e] _ _ h.q (GH _) λi u f=>?_;obtain⟨r,f,rfl⟩:=f;have:r=e:=zu f;subst this;obtain⟨i,rfl,j,o⟩:=nB a.1 a.2;rw[o]at d;have c:=h.code.fit i j;have y:l[((i:Int).toNat)].op=11∨l[((i:Int).toNat)].op=12:=d;refine⟨X,?_⟩;unfold PF at c |-;rw[T_ X,U_ X]at c;have k:(l[((i:Int).toNat)].pb l.length).op=l[i].op:=rfl;rw[k,T_ X,U_ X];refine⟨c.1,c.2.1,c.2.2.1,by show(0:Int)<=(l.length:Int);omega,GH _,?_,.inl ?_⟩
 show iB l l.length≠20;rw[kd (.inr (GH _))];decide;show((i:Int).toNat:Int)<(l.length:Int);simpa using j
def pa.tE(h:pa l hC cs ats q)(a:QR)(y:∀i∈a,iB l i=17):pa (lS l.length l a++[⟨21,0,0,0,hC⟩]) (hC+1) cs ats l.length:=by
 have J:=h.mark;have I:(lS (l.length:Int) l a)++[(⟨21,0,0,0,hC⟩:In)]=lS l.length (l++[⟨21,0,0,0,hC⟩]) a:=by
  refine HU (by simp[i9]) λi O u=>?_;have B:=by rw[i9]at u;exact u
  rw[mL _ _ _ i B];by_cases j:i<l.length;rw[GY (by rw[i9];exact j),mL _ _ _ i j,GY j];rw[G5 (by rw[i9];omega),G5 X];have M:¬∃e∈a,e.toNat=i:=by
   rintro⟨e,f,s⟩;have:=y e f;have d:=h.code.pos;rw[kd (.inr X)]at this;simp at this
  rw[T_ M];simp only[i9]
 rw[I];refine J.Cj a _ _ (GH _) p_ λi P f=>?_;obtain⟨e,f,rfl⟩:=f;have o:=y e f;have r:0<=e/\e<l.length:=by
  by_cases E:e<0∨(l.length:Int)<=e;rw[kd E]at o;simp at o;omega
 obtain⟨i,rfl,z,A⟩:=nB r.1 r.2;have g:((i:Int)).toNat=i:=H;have F:(l++[(⟨21,0,0,0,hC⟩:In)])[((i:Int)).toNat]=l[i]:=by
  simp only[g];exact GY z
 rw[F];have k:l[i].op=17:=by rw[<-A];exact o
 refine⟨X,?_⟩;have d:=h.code.fit i z;unfold PF at d |-;rw[T_ X,T_ X]at d;have p:(l[i].pb l.length).op=l[i].op:=rfl;rw[p,T_ X,T_ X];rw[k]at d |-;have m:i7.getD (17:Int).toNat default=⟨false,false,false,8⟩:=rfl;rw[m]at d |-;unfold jX at d |-;rw[p]
 have K:iB (l++[(⟨21,0,0,0,hC⟩:In)]) (l[i].pb l.length).n=21:=by
  show iB (l++[(⟨21,0,0,0,hC⟩:In)]) l.length=21;exact ms l ⟨21,0,0,0,hC⟩ []
 rw[K];have C:(l[i].pb l.length).a=l[i].a:=rfl;have N:(l[i].pb l.length).b=l[i].b:=rfl;have L:(l[i].pb l.length).c=l[i].c:=rfl;rw[C,N,L,k];rw[k]at d;simp at d |-;exact d.1
end
def kc(es fs:QR)(l:QS)(p:Int × Int):List In:=l.modify p.1.toNat λx=>⟨x.op,x.a,x.b,fs.getD p.2.toNat 0,es.getD p.2.toNat 0⟩
def ql(es fs:QR)(l:QS)(p:Int × Int):(kc es fs l p).length=l.length:=by simp[kc]
def oV(es fs:QR)(cs:List (Int × Int)):∀l:List In,(cs.foldl (kc es fs) l).length=l.length:=by
 induction cs with
 |nil=>intro l;rfl
 |cons d cs c=>intro l;exact(c _).trans (ql es fs l d)
def oW(es fs:QR)(cs:List (Int × Int)):∀(l:QS) (k:Nat) (e:k<l.length),∃c n,(cs.foldl (kc es fs) l)[k]'(by rw[oV];exact e)=⟨l[k].op,l[k].a,l[k].b,c,n⟩/\
 ((c=l[k].c/\n=l[k].n/\∀p∈cs,p.1.toNat≠k)∨∃p∈cs,p.1.toNat=k/\c=fs.getD p.2.toNat 0/\n=es.getD p.2.toNat 0):=by
 induction cs with
 |nil=>intro l k e;exact⟨_,_,rfl,.inl ⟨rfl,rfl,λp d=>by cases d⟩⟩
 |cons p cs r=>
  intro l k e;obtain⟨c,n,j,o⟩:=r (kc es fs l p) k (by rw[ql];exact e);have u:(kc es fs l p)[k]'(by rw[ql];exact e)=if p.1.toNat=k then⟨l[k].op,l[k].a,l[k].b,fs.getD p.2.toNat 0,es.getD p.2.toNat 0⟩ else l[k]:=by
   simp only[kc,G7]
  rw[u]at j o;refine⟨c,n,?_,?_⟩;refine j.trans ?_;split<;>rfl;rcases o with⟨rfl,rfl,h⟩|⟨m,d,h⟩
  .by_cases f:p.1.toNat=k
   .rw[U_ f];exact .inr ⟨p,H,f,rfl,rfl⟩
   rw[T_ f];refine .inl ⟨rfl,rfl,λm d=>?_⟩;rcases O_.1 d with rfl|d
   exact f;exact h m d
  exact .inr ⟨m,by simp[d],h⟩
def x1{l:QS}{hC hH q:Int}{cs:List (Int × Int)}{ats:List (List Int)}{es fs:QR}(h:pa l hC cs ats q)(ar:q<l.length)(V:iB l ((l.length:Int)-1)=14)(hl:l.length<=2048)
 (W:∀k,1<=k->k<=2->iB l (es.getD k 0)=21) (Y:∀k,1<=k->k<=2->2<=fs.getD k 0/\fs.getD k 0<=64) (S:0<=hH) (hv:hH<=64):ia (cs.foldl (kc es fs) l) hH hC=true:=by
 have ad:=h.code.pos;have iF:=oV es fs cs l;have A:∀n,iB (cs.foldl (kc es fs) l) n=iB l n:=by
  intro n;by_cases L:n<0∨(l.length:Int)<=n;rw[kd L,kd (by rw[iF];exact L)];obtain⟨i,rfl,e,F⟩:=nB (l:=l) (n:=n) X X;obtain⟨c,B,j,_⟩:=oW es fs cs l i e;rw[F,n8 (by rw[iF];exact e),j]
 have U:∀n:Int,0<=n->n<l.length->0<=iB l n:=by
  intro n z j;obtain⟨i,rfl,e,F⟩:=nB z j;rw[F];exact(h.code.fit i e).rng.1
 have N:∀k,k<l.length->∀d∈cs,d.1.toNat=k->iB l k=13:=by
  intro k hk d u Z;obtain⟨j,o,f,_⟩:=h.cs1 d u;have:d.1=(k:Int):=X;rw[<-this];exact f
 have R:∀i,i<l.length->k4 (cs.foldl (kc es fs) l) i=true:=by
  intro i e;obtain⟨c,n,j,o⟩:=oW es fs cs l i e;have I:(cs.foldl (kc es fs) l).getD i default=⟨l[i].op,l[i].a,l[i].b,c,n⟩:=by
   rw[<-j];simp[List.getD,iF,e]
  have p:=h.code.fit i e;have hr:=p.rng;have v:k4 (cs.foldl (kc es fs) l) i=jX (cs.foldl (kc es fs) l) i ⟨l[i].op,l[i].a,l[i].b,c,n⟩ (i7.getD l[i].op.toNat default):=by unfold k4;rw[I]
  rw[v];clear v;clear j I;generalize hL:cs.foldl (kc es fs) l=M at*;unfold PF at p;by_cases y:l[i].op=13;rw[U_ y]at p;obtain⟨E,ae,hb,H,hn0⟩:=p;have K:∃d∈cs,d.1.toNat=i/\c=fs.getD d.2.toNat 0/\n=es.getD d.2.toNat 0:=by
   rcases o with⟨_,_,f⟩|f
   obtain⟨af,B⟩:=h.cs2 i e y;exact Gc (show((i:Int)).toNat=i by simp) (f _ B);exact f
  obtain⟨d,u,_,rfl,rfl⟩:=K;obtain⟨_,_,_,aY,Q⟩:=h.cs1 d u;have B:=Y d.2.toNat X X;have J:=W d.2.toNat X X;generalize fs.getD d.2.toNat 0=cW at*;generalize es.getD d.2.toNat 0=P at*
  have C:iB M ((i:Int)+1)=21:=by rw[A];exact H
  have m:i7.getD (13:Int).toNat default=⟨false,false,false,7⟩:=rfl;simp only[y,E,m];simp[jX,mr,C,A,J];omega;have Q:c=l[i].c/\n=l[i].n:=by
   rcases o with⟨f,r,_⟩|⟨d,u,f,_⟩
   exact⟨f,r⟩;have:=N i e d u f;rw[n8 e]at this;exact Gc this y
  obtain⟨rfl,rfl⟩:=Q;rw[T_ y]at p;have P:∀(x:In) (s:Sh),jX M i x s=jX l i x s:=by intro x s;unfold jX;simp only[A]
  rw[P];show jX l i l[i] _=true;by_cases B:l[i].op=11∨l[i].op=12;rw[U_ B]at p;obtain⟨C,J,K,D,g,E,H⟩:=p;have z:=U l[i].n D X;show jX l i l[i] (i7.getD l[i].op.toNat default)=true;generalize l[i]=x at*;obtain⟨op,a,b,cc,nn⟩:=x;simp only at C J K D g E H z B |-;subst J;subst K
  rcases B with rfl|rfl
  have m:i7.getD (11:Int).toNat default=⟨false,false,false,6⟩:=rfl;rw[m];simp[jX,mr]at C |-;exact⟨C,⟨z,E⟩,H⟩
  have m:i7.getD (12:Int).toNat default=⟨true,false,false,6⟩:=rfl;rw[m];simp[jX,mr]at C |-;exact⟨X,⟨z,E⟩,H⟩
  rw[T_ B]at p;exact p
 have w:ks (cs.foldl (kc es fs) l) 0=ks l 0/\jG (cs.foldl (kc es fs) l)=jG l:=by
  constructor;refine qN _ _ iF (λi j o=>?_) 0;obtain⟨c,n,f,r⟩:=oW es fs cs l i o;rw[f];refine⟨rfl,λt=>?_⟩;rcases r with⟨_,r,_⟩|⟨d,u,r,_⟩
  exact r;have:=N i o d u r;rw[n8 o]at this;have B:l[i].op=21:=t;omega;refine rT iF λi j o=>?_;obtain⟨c,n,f,r⟩:=oW es fs cs l i o;rw[f]
 unfold ia;rw[A,A,w.1,w.2,iF,h.code.ne,V,h.code.EQ,h.xo];have O:oa (cs.foldl (kc es fs) l)=true:=by
  unfold oa;rw[Gy];intro i e;exact R i (by rw[iF]at e;simpa using e)
 rw[O];simp;omega
structure iX where
 pv:Value
 vs:List ByteArray
 l:List In
 hC:Int
 es:List Int
 fs:List Int
 cs:List (Int × Int)
 hidden:Int
 most:Int
 ats:List (Nat × List Int)
 rts:List (Nat × List Int)
def iX.put(v:iX)(x:In):iX:={v with l:=v.l++[x]}
def iX.mark(v:iX):iX:={v with l:=v.l++[⟨21,0,0,0,v.hC⟩],hC:=v.hC+1}
def iX.here(v:iX)(is:QR):iX:={v with l:=lS v.l.length v.l is}
def iX.more(v:iX):iX:={v with hidden:=v.hidden+1,most:=max v.most (v.hidden+1)}
def iX.less(v:iX):iX:={v with hidden:=v.hidden-1}
def iX.call(v:iX)(b f:Int):iX:={v with l:=v.l++[⟨13,0,b,0,0⟩],cs:=v.cs++[((v.l.length:Int),f)]}
def iX.push(v:iX)(x:Nat):iX:={v with ats:=v.ats++[(x,[])]}
def iX.pop(v:iX):iX:={v with ats:=v.ats.dropLast,rts:=v.rts++v.ats.getLast?.toList}
def iX.drop(v:iX)(r:List (Nat × List Int)):iX:={v with rts:=r}
def qV(i:Int):List (Nat × List Int)->List (Nat × List Int)
 |[]=>[]
 |[a]=>[(a.1,a.2++[i])]
 |a::b::l=>a::qV i (b::l)
def iX.protect(v:iX):iX:={v with l:=v.l++[⟨17,0,0,0,0⟩],ats:=qV v.l.length v.ats}
structure GK(v:iX)(q:Int)(D:Nat):Prop where
 ok:pa v.l v.hC v.cs (v.ats.map (·.2)) q
 h0:0<=v.hidden
 hD:v.hidden+D<=10
 m0:0<=v.most
 m1:v.most<=10
 v0:2<=v.vs.length
 v1:v.vs.length<=9
 al:v.ats.length+D<=20
structure GP(v v':iX)(n:Nat):Prop where
 pv:v'.pv=v.pv
 vs:v'.vs=v.vs
 es:v'.es=v.es
 fs:v'.fs=v.fs
 hid:v'.hidden=v.hidden
 rt:v'.rts=v.rts
 p3:v'.ats.map (·.1)=v.ats.map (·.1)
 len:v'.l.length<=v.l.length+n
 kp:q4 v.l v'.l
section
variable{v v' v'':iX}{q q':Int}{D n m:Nat}
def GP.refl(v:iX):GP v v 0:=⟨rfl,rfl,rfl,rfl,rfl,rfl,rfl,H_ _,q4.refl _⟩
def GP.trans(h:GP v v' n)(k:GP v' v'' m):GP v v'' (n+m):=⟨k.pv.trans h.pv,k.vs.trans h.vs,k.es.trans h.es,k.fs.trans h.fs,k.hid.trans h.hid,k.rt.trans h.rt,k.p3.trans h.p3,by have:=h.len;have:=k.len;omega,h.kp.trans k.kp⟩
def GP.le(h:GP v v' n)(c:n<=m):GP v v' m:={h with len:=G_ h.len X}
def GK.le{E:Nat}(h:GK v q D)(c:E<=D):GK v q E:={h with hD:=by have:=h.hD;omega,al:=by have:=h.al;omega}
def GP.sa(h:GP v v' n):v'.ats.length=v.ats.length:=by have:=Z_ List.length h.p3;simpa using this
def GK.of(h:GK v q D)(k:GP v v' n)(c:GK v' q' 0):GK v' q' D:={c with hD:=by rw[k.hid];exact h.hD,al:=by rw[k.sa];exact h.al}
def GK.simp(h:GK v q D){x:In}(c:lN x=true):GK (v.put x) v.l.length D:={h with ok:=h.ok.simp c}
def GP.put(v:iX)(x:In):GP v (v.put x) 1:=⟨rfl,rfl,rfl,rfl,rfl,rfl,rfl,by simp[iX.put],q4.app _ _⟩
def GK.mark(h:GK v q D):GK v.mark v.l.length D:={h with ok:=h.ok.mark}
def GP.mark(v:iX):GP v v.mark 1:=⟨rfl,rfl,rfl,rfl,rfl,rfl,rfl,by simp[iX.mark],q4.app _ _⟩
def GK.jump(h:GK v q D)(o n:Int)(d:o=11∨o=12)(c:iB v.l n=21):GK (v.put ⟨o,0,0,0,n⟩) v.l.length D:={h with ok:=h.ok.jump o n d c}
def GK.wz(h:GK v q D)(o:Int)(c:o=11∨o=12):GK (v.put ⟨o,0,0,0,0⟩) v.l.length D:=h.jump o 0 c h.ok.code.ne
def GK.here(h:GK v q D)(e:Int)(c:iB v.l e=11∨iB v.l e=12):GK (v.here [e]) v.l.length D:={h with ok:=h.ok.here e c}
def GK.ask(h:GK v q D)(c:q<v.l.length)(e:iB v.l ((v.l.length:Int)-1)=21)(n:Int)(h0:0<=n)(d:n<64):GK (v.put ⟨20,0,0,0,n⟩) v.l.length D:={h with ok:=h.ok.ask c e n h0 d}
def GP.here(v:iX)(is:QR):GP v (v.here is) 0:=⟨rfl,rfl,rfl,rfl,rfl,rfl,rfl,by simp[iX.here,i9],q4.set _ _ _⟩
def GK.tE(h:GK v q D)(a:QR)(c:∀i∈a,iB v.l i=17):GK (v.here a).mark v.l.length D:={h with ok:=h.ok.tE a c}
def GK.wL(h:GK v q D)(b f:Int)(y:0<=b)(c:b<=2)(d:1<=f)(g:f<=2):GK (v.call b f).mark v.l.length D:=by
 refine{h with ok:=?_};have:=h.ok.call b f y c d g;show pa ((v.l++[_])++[_]) _ _ _ _;rw[GE];exact this
def GP.call(v:iX)(b f:Int):GP v (v.call b f) 1:=⟨rfl,rfl,rfl,rfl,rfl,rfl,rfl,by simp[iX.call],q4.app _ _⟩
def oB(v:iX){x:In}:iB (v.put x).l v.l.length=x.op:=ms _ _ _
def GK.more(h:GK v q (D+1)):GK v.more q D:=
 {ok:=h.ok,h0:=by have:=h.h0;show 0<=v.hidden+1;omega,hD:=by have:=h.hD;show v.hidden+1+D<=10;omega,m0:=by have:=h.m0;show 0<=max v.most (v.hidden+1);omega,
  m1:=by have:=h.m1;have:=h.hD;show max v.most (v.hidden+1)<=10;omega,v0:=h.v0,v1:=h.v1,al:=by have:=h.al;show v.ats.length+D<=20;omega}
def rA(i:Int):∀l:List (Nat × List Int),(qV i l).map (·.1)=l.map (·.1)
 |[]=>rfl
 |[a]=>rfl
 |a::b::l=>by simp only[qV,Gx];rw[rA i (b::l)];rfl
def rz(i:Int):∀(l:List (Nat × List Int)) (a:Nat × List Int),a∈qV i l->a∈l∨∃b∈l,a=(b.1,b.2++[i])
 |[],a,h=>by cases h
 |[b],a,h=>by
  have:a=(b.1,b.2++[i]):=by simpa[qV]using h
  exact .inr ⟨b,H,this⟩
 |b::c::l,a,h=>by
  rcases O_.1 h with rfl|h
  exact .inl H;rcases rz i (c::l) a h with h|⟨d,e,f⟩
  .exact .inl (Gj _ h)
  exact .inr ⟨d,Gj _ e,f⟩
def GK.protect(h:GK v q D):GK v.protect v.l.length D:=by
 refine{h with ok:=?_,al:=by have o:v.protect.ats.length=v.ats.length:=(show(qV v.l.length v.ats).length=_ by have:=Z_ List.length (rA v.l.length v.ats);simpa using this);rw[o];exact h.al};have p:lN ⟨17,0,0,0,0⟩=true:=I;have f:=h.ok.simp p;refine{f with p3:=?_,sa:=?_}
 .intro a k i d;obtain⟨e,j,rfl⟩:=Ge.1 k;rcases rz _ _ _ j with c|⟨b,c,rfl⟩
  exact f.p3 e.2 (Ge.2 ⟨e,c,rfl⟩) i d;rcases W_.1 d with d|d
  .exact f.p3 b.2 (Ge.2 ⟨b,c,rfl⟩) i d
  have:i=(v.l.length:Int):=zu d;subst this;exact⟨X,by simp[iX.protect];omega,ms _ _ _⟩
 intro a k;obtain⟨e,j,rfl⟩:=Ge.1 k;rcases rz _ _ _ j with c|⟨b,c,rfl⟩
 exact f.sa e.2 (Ge.2 ⟨e,c,rfl⟩);have:=h.ok.sa b.2 (Ge.2 ⟨b,c,rfl⟩);simp[iX.protect];exact this
def GP.protect(v:iX):GP v v.protect 1:=⟨rfl,rfl,rfl,rfl,rfl,rfl,rA _ _,by simp[iX.protect],q4.app _ _⟩
def GK.push(h:GK v q (D+1))(x:Nat):GK (v.push x) q D:=by
 refine{h with ok:=?_,hD:=by have:=h.hD;show v.hidden+D<=10;omega,al:=by have:=h.al;simp[iX.push];omega};refine{h.ok with p3:=?_,sa:=?_}
 .intro a c i e;have d:a∈v.ats.map (·.2)∨a=[]:=by simpa[iX.push]using c
  rcases d with c|rfl
  exact h.ok.p3 a c i e;cases e
 intro a c;have d:a∈v.ats.map (·.2)∨a=[]:=by simpa[iX.push]using c
 rcases d with c|rfl
 exact h.ok.sa a c;simp
def pa.pop{l:QS}{hC:Int}{cs:List (Int × Int)}{a b:List (List Int)}(h:pa l hC cs a q)(d:∀x∈b,x∈a):pa l hC cs b q:=
 {h with p3:=λx c=>h.p3 x (d x c),sa:=λx c=>h.sa x (d x c)}
def GP.Dz(h:GP (v.push x) v' n)(k:GP v'.pop v'' m):GP v (v''.drop v.rts) (n+m):=
 {pv:=k.pv.trans h.pv,vs:=k.vs.trans h.vs,es:=k.es.trans h.es,fs:=k.fs.trans h.fs,hid:=k.hid.trans h.hid,rt:=rfl,
  len:=by have c:v'.l.length<=v.l.length+n:=h.len;have d:v''.l.length<=v'.l.length+m:=k.len;show v''.l.length<=v.l.length+(n+m);omega
  kp:=h.kp.trans k.kp
  p3:=by
   have c:=Z_ List.dropLast h.p3;simp[iX.push,<-List.map_dropLast]at c;have d:=k.p3;show v''.ats.map _=_;rw[d];simpa[iX.pop,List.map_dropLast]using c}
def GP.D6(h:GP (v.push x) v' n):∃l is,v'.ats=l++[(x,is)]/\v'.pop.rts=v.rts++[(x,is)]:=by
 have d:=h.p3;simp only[iX.push,Gd,Gx,Hf]at d;rcases List.eq_nil_or_concat v'.ats with c|⟨l,a,c⟩
 rw[c]at d;simp at d;rw[List.concat_eq_append]at c;rw[c,Gd]at d;have j:=List.append_inj_right' d rfl;have e:=zu j;refine⟨l,a.2,by rw[c,<-e],?_⟩;have f:v'.rts=v.rts:=h.rt;simp only[iX.pop,f];rw[c,<-e];simp
def GK.Eh(h:GK v q (D+1))(k:GP (v.push x) v' n)(c:GK v' q' 0):GK v'.pop q' (D+1):=
 {ok:=c.ok.pop λp f=>by
   obtain⟨j,e,rfl⟩:=Ge.1 f;exact Ge.2 ⟨j,(List.dropLast_sublist _).subset e,rfl⟩
  h0:=c.h0,hD:=by have:v'.hidden=v.hidden:=k.hid;have:=h.hD;show v'.hidden+_<=10;omega,m0:=c.m0,m1:=c.m1,v0:=c.v0,v1:=c.v1
  al:=by
   have d:=k.sa;have o:=h.al;simp only[iX.push,I_,Id]at d;show(v'.ats.dropLast).length+_<=20;rw[List.length_dropLast];omega}
def GK.Et(h:GK v q D)(r:List (Nat × List Int)):GK (v.drop r) q D:={h with}
def GP.more(h:GP v.more v' n):GP v v'.less n:=
 {pv:=h.pv,vs:=h.vs,es:=h.es,fs:=h.fs,p3:=h.p3,len:=h.len,kp:=h.kp,rt:=h.rt,hid:=by
   show v'.hidden-1=v.hidden;rw[h.hid];show v.hidden+1-1=v.hidden;omega}
def GK.less(h:GK v q D)(k:GK v' q' 0)(d:v'.hidden=v.hidden+1)(c:v'.ats.length=v.ats.length):GK v'.less q' D:=
 {k with h0:=by show 0<=v'.hidden-1;have:=h.h0;omega,hD:=by show v'.hidden-1+D<=10;have:=h.hD;omega,al:=by show v'.ats.length+D<=20;rw[c];exact h.al}
end
