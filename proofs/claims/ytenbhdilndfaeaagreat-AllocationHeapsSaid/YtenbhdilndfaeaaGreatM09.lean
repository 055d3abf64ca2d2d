import Derived.Test.YtenbhdilndfaeaaGreatM08
set_option maxRecDepth 100000
set_option maxHeartbeats 0
set_option linter.all false
namespace Go.Proofs.YtenbhdilndfaeaaGreat
open Go.RowKit Go.Proofs.Tryz
variable{G:Prop}{g i x:Nat}{t:TypeId}
theorem Ja(h:G:=by
 intro n hn;rw[hk.2 n,hn]
 rcases F6 n l.length with h|h
 .exact h
 .rw[jX (.inr h)]at hn;simp at hn):G:=h
theorem Jv(h:G:=by
 obtain⟨h1,h2,h3,aw⟩:=h.cs1 p hp;exact⟨h1,by simp;omega,by rw[kQ _ h2];exact h3,aw⟩):G:=h
theorem Jx(h:G:=by
 obtain⟨h1,h2,h3⟩:=h.pI a ha i hi;exact⟨h1,by simp;omega,by rw[kQ _ h2];exact h3⟩):G:=h
theorem hX{P:Program}{f:FuncId}{a:Array Value}{w:World}{i:Ending->World->Prop}(h:∀Q,Hid (Q=i)->Calls P f a w Q):Calls P f a w i:=h i (h_ rfl)
theorem box1(w:World)(t:TypeId)(cs:Array Value):∃(W:World) (g:Nat),w.alloc (.cells cs t)=W/\w.heap.size=g/\Gr [] w W/\Bk W g t cs:=
 ⟨_,_,rfl,rfl,(D_ [] w).alloc _,L_ w t cs⟩
theorem B9(w:World)(t1:TypeId)(c1:Array Value)(ak:TypeId)(an:Array Value):∃(W:World) (g bf:Nat),(w.alloc (.cells c1 t1)).alloc (.cells an ak)=W/\w.heap.size=g/\g+1=bf/\Gr [] w W/\Bk W g t1 c1/\Bk W bf ak an:=
 ⟨_,_,_,rfl,rfl,rfl,((D_ [] w).alloc _).alloc _,(L_ w t1 c1).alloc _,by simpa using L_ (w.alloc (.cells c1 t1)) ak an⟩
structure Gt(base:Nat)(T:List TypeId)(a w:World):Prop where
 os:w.os=a.os
 tape:w.tape=a.tape
 output:w.output=a.output
 size:a.heap.size<=w.heap.size
 block:∀k,k<a.heap.size->(k<base∨∀cs t fz,a.heap[k]?=some (.cells cs t fz)->t∉T)->w.heap[k]?=a.heap[k]?
section
variable{base:Nat}{T:List TypeId}{a b w w':World}
theorem Gt.trans(h:Gt base T a b)(k:Gt base T b w):Gt base T a w:=
 ⟨k.os.trans h.os,k.tape.trans h.tape,k.output.trans h.output,F_ h.size k.size,λi hi hp=>
   (k.block i (ER hi h.size) (hp.imp id λaq cs t fz e=>aq cs t fz ((h.block i hi (.inr aq)).symm.trans e))).trans (h.block i hi hp)⟩
theorem Gt.jQ(h:Gr [] a w):Gt base T a w:=⟨h.os,h.tape,h.output,h.size,λi hi _=>h.block i hi s_⟩
theorem Gt.refl(base:Nat)(T:List TypeId)(w:World):Gt base T w w:=.jQ (D_ [] w)
theorem Gt.one{cs:Array Value}(h:Gr [g] a w)(hb:base<=g)(hk:Bk a g t cs)(X:t∈T):Gt base T a w:=
 ⟨h.os,h.tape,h.output,h.size,λi hi hp=>h.block i hi (by
   intro Y
   have:i=g:=by simpa using Y
   subst this
   rcases hp with hp|hp
   .omega
   .exact hp _ _ _ hk X)⟩
theorem Gt.set{cs:Array Value}(hk:Bk w g t cs)(hb:base<=g)(X:t∈T)(i:Nat)(u:Value):Gt base T w (w.setCell (c_ g i) u):=
 .one ((D_ [g] w).setCell (p:=(c_ g i)) (.inl s_) u) hb hk X
theorem Gt.grown{o:Option Nat}(h:w.grownBy w' o)(ho:∀g,o=some g->base<=g/\∃cs t fz,w.heap[g]?=some (.cells cs t fz)/\t∈T):Gt base T w w':=
 ⟨h.os,h.tape,h.output,h.size,λi hi hp=>h.block i hi (by
   intro Y;obtain⟨h1,cs,t,fz,h2,h3⟩:=ho i Y.symm
   rcases hp with hp|hp
   .omega
   .exact hp _ _ _ h2 h3)⟩
theorem Gt.gr(h:Gt base T a w)(hb:a.heap.size<=base):Gr [] a w:=⟨h.os,h.tape,h.output,h.size,λi hi _=>h.block i hi (.inl o_)⟩
theorem Gt.le{d:Nat}(h:Gt base T a w)(hb:d<=base):Gt d T a w:=⟨h.os,h.tape,h.output,h.size,λi hi hp=>h.block i hi (hp.imp (λh=>by omega) id)⟩
theorem Bk.gt{cs:Array Value}(h:Bk a g t cs)(k:Gt base T a w)(X:t∉T):Bk w g t cs:=
 (k.block g h.lt (.inr λy t' fz e=>by unfold Bk at h;rw[h]at e;injection e with e;injection e with _ e;subst e;exact X)).trans h
theorem Sl.gt{e:TypeId}{size n:Nat}{A:Option Addr}{xs:List Value}(h:Sl a e size A n xs)(k:Gt base T a w)(X:e∉T):Sl w e size A n xs:=
 ⟨h.1,λhn=>by
   obtain⟨b,off,cs,fz,U,hb,hc⟩:=h.2 hn
   exact⟨b,off,cs,fz,U,(k.block b (mf hb) (.inr λy t' c q=>by rw[hb]at q;injection q with q;injection q with _ q;subst q;exact X)).trans hb,hc⟩⟩
theorem kc.gt{p:Nat->Prop}{t:ET}(h:kc p a t)(k:Gt base T a w)(X:226∉T):kc p w t:=by
 induction h with
 |mk t h hc hb _ ad=>exact .mk t (h.gt k X) hc hb ad
theorem jx.gt{p:Nat->Prop}{t:ST}(h:jx p a t)(k:Gt base T a w)(X:226∉T)(E:229∉T):jx p w t:=by
 induction h with
 |mk t he hce hbe hes hb hcb qS _ hl hcl hbl _ c d=>exact .mk t (he.gt k X) hce hbe (λu hu=>(hes u hu).gt k X) (hb.gt k E) hcb qS c (hl.gt k E) hcl hbl d
end
theorem nM{l:List In}(h:i<l.length):ij l i=l[i].op:=by
 unfold ij;rw[P_ o_];simp[List.getD,h]
theorem jX{l:List In}{n:Int}(h:n<0∨(l.length:Int)<=n):ij l n= -1:=by unfold ij;rw[Q_ h]
theorem m5{l:List In}{n:Int}(h0:0<=n)(h1:n<l.length):∃i:Nat,n=i/\∃h:i<l.length,ij l n=l[i].op:=by
 refine⟨n.toNat,by omega,by omega,?_⟩;exact(D9 (ij l) (show n=(n.toNat:Int) by omega)).trans (nM o_)
theorem kQ{l:List In}{n:Int}(a:List In)(h:n<l.length):ij (l++a) n=ij l n:=by
 by_cases h0:0<=n
 .obtain⟨i,rfl,hi,e⟩:=m5 h0 h;rw[e,nM p_,EC hi]
 .rw[jX (.inl o_),jX (.inl o_)]
theorem lW(l:List In)(x:In)(a:List In):ij (l++x::a) l.length=x.op:=by
 rw[nM s_];simp
def In.oR(x:In)(v:Int):In:=⟨x.op,x.a,x.b,x.c,v⟩
def lR(v:Int)(l:List In)(i:Int):List In:=l.modify i.toNat (In.oR · v)
def lv(v:Int)(l:List In)(is:List Int):List In:=is.foldl (lR v) l
theorem lk(v:Int)(l:List In)(i:Int):(lR v l i).length=l.length:=by simp[lR]
theorem iV(v:Int)(is:List Int):∀l:List In,(lv v l is).length=l.length:=by
 induction is with
 |nil=>intro l;rfl
 |cons i is ad=>intro l;exact(ad _).trans (lk v l i)
theorem tS(v:Int)(l:List In)(i:Int)(k:Nat)(hk:k<l.length):(lR v l i)[k]'(by rw[lk];exact hk)=if i.toNat=k then l[k].oR v else l[k]:=by
 simp only[lR,Fb]
theorem l9(v:Int)(is:List Int):∀(l:List In) (k:Nat) (hk:k<l.length),(lv v l is)[k]'(by rw[iV];exact hk)=if ∃i∈is,i.toNat=k then l[k].oR v else l[k]:=by
 induction is with
 |nil=>intro l k hk;simp[lv]
 |cons i is ad=>
  intro l k hk;have h1:=ad (lR v l i) k (by rw[lk];exact hk);have e:lv v l (i::is)=lv v (lR v l i) is:=rfl;simp only[e];rw[h1];rw[tS v l i k hk]
  by_cases h2:i.toNat=k
  .by_cases h3:∃j∈is,j.toNat=k
   .rw[Q_ h3,Q_ h2,Q_ ⟨i,by simp,h2⟩]
    rfl
   .rw[P_ h3,Q_ h2,Q_ ⟨i,by simp,h2⟩]
  .by_cases h3:∃j∈is,j.toNat=k
   .obtain⟨j,hj,bv⟩:=h3;rw[Q_ ⟨j,hj,bv⟩,P_ h2,Q_ ⟨j,by simp[hj],bv⟩]
   .rw[P_ h3,P_ h2,P_];rintro⟨j,hj,bv⟩
    rcases M_.1 hj with rfl|hj
    .exact h2 bv
    .exact h3 ⟨j,hj,bv⟩
theorem n8(v:Int)(is:List Int)(l:List In)(n:Int):ij (lv v l is) n=ij l n:=by
 by_cases h:n<0∨(l.length:Int)<=n
 .rw[jX h,jX (by rw[iV];exact h)]
 .obtain⟨i,rfl,hi,e⟩:=m5 (l:=l) (n:=n) o_ o_;rw[e,nM (by rw[iV];exact hi),l9 v is l i hi];split<;>rfl
def qQ(l l':List In):Prop:=l.length<=l'.length/\∀n:Int,n<l.length->ij l' n=ij l n
theorem qQ.refl(l:List In):qQ l l:=⟨G_ _,λ_ _=>rfl⟩
theorem qQ.trans{a b c:List In}(h:qQ a b)(k:qQ b c):qQ a c:=⟨F_ h.1 k.1,λn hn=>(k.2 n (by have:=h.1;omega)).trans (h.2 n hn)⟩
theorem qQ.app(l a:List In):qQ l (l++a):=⟨by simp,λ_ hn=>kQ a hn⟩
theorem qQ.set(v:Int)(l:List In)(is:List Int):qQ l (lv v l is):=⟨by rw[iV];exact G_ _,λn _=>n8 v is l n⟩
def PF(l:List In)(q:Int)(i:Nat)(x:In):Prop:=
 if x.op=13 then x.a=0/\0<=x.b/\x.b<=2/\ij l ((i:Int)+1)=21/\ij l x.n=21
 else if x.op=11∨x.op=12 then lV x.a (x.op==12)=true/\x.b=0/\x.c=0/\0<=x.n/\x.n<=q/\ij l x.n≠20/\((i:Int)<x.n∨ij l x.n=21)
 else jH l i x (iZ.getD x.op.toNat default)=true
structure mN(l:List In)(q:Int):Prop where
 ne:ij l 0=21
 fit:∀i (h:i<l.length),PF l q i l[i]
 Db:ka l 0=true
theorem mN.pos{l:List In}{q:Int}(h:mN l q):0<l.length:=by
 rcases EY l.length with e|e
 .have h1:=h.ne;rw[jX (.inr o_)]at h1;simp at h1
 .exact e
theorem zZ{l l':List In}(hk:qQ l l')(i:Nat)(x:In)(s:Sh)(h13:x.op≠13)(hs:s.n≠6)(S:s.n≠7)(hi:i<=l.length)(h:jH l i x s=true):jH l' i x s=true:=by
 have m:∀n:Int,ij l n=21->ij l' n=21:=Ja;have a:ij l' ((i:Int)-1)=ij l ((i:Int)-1):=hk.2 _ o_;unfold jH at h |-
 have e13:(x.op==13)=false:=by simpa using h13
 rw[e13]at h |-;simp only[Bool.false_and,FM]at h |-;rw[P_ hs,P_ S]at h |-;rw[a];split at h
 .simp at h
 .rename_i c1;rw[P_ c1];split at h
  .simp at h
  .rename_i an;rw[P_ an];split at h
   .simp at h
   .rename_i aN;rw[P_ aN]
    by_cases aU:s.n=8
    .rw[aU]at h |-;simp at h |-
     rcases h with h|h
     .exact .inl h
     .exact .inr (m _ h)
    .rw[P_ aU]at h |-;exact h
theorem DI(k:Nat)(h:k<=21):((iZ.getD k default).n=6↔k=11∨k=12)/\((iZ.getD k default).n=7↔k=13):=by
 have:∀k,k<22->((iZ.getD k default).n=6↔k=11∨k=12)/\((iZ.getD k default).n=7↔k=13):=by decide
 exact this k o_
theorem t6{l:List In}{x:In}{s:Sh}(h:jH l i x s=true):0<=x.op/\x.op<=21:=by
 unfold jH at h;split at h
 .simp at h
 .omega
theorem PF.rng{l:List In}{q:Int}{x:In}(h:PF l q i x):0<=x.op/\x.op<=21:=by
 unfold PF at h;split at h
 .omega
 .split at h
  .omega
  .exact t6 h
theorem PF.kp{l l':List In}{q q':Int}{x:In}(hk:qQ l l')(hi:i<l.length)(aq:q<=q')(hn:q<l.length∨ij l' l.length≠20)(a:q<=l.length)(h:PF l q i x):PF l' q' i x:=by
 have m:∀n:Int,ij l n=21->ij l' n=21:=Ja;have hr:=h.rng;unfold PF at h |-;split at h
 .rename_i e;rw[Q_ e];exact⟨h.1,h.2.1,h.2.2.1,m _ h.2.2.2.1,m _ h.2.2.2.2⟩
 .rename_i e;rw[P_ e];split at h
  .rename_i aL;rw[Q_ aL];obtain⟨h1,h2,h3,aw,ax,aY,bA⟩:=h;refine⟨h1,h2,h3,aw,by omega,?_,bA.imp id (m _)⟩
   by_cases aj:x.n<l.length
   .rw[hk.2 _ aj];exact aY
   .have bN:x.n=l.length:=by omega
    rw[bN];exact hn.resolve_left o_
  .rename_i aL;rw[P_ aL];have hs:=DI x.op.toNat o_;exact zZ hk i x _ e (λaY=>aL (by have:=hs.1.1 aY;omega)) (λbA=>e (by have:=hs.2.1 bA;omega)) o_ h
theorem wD(l a:List In):∀m:Int,ka (l++a) m=(ka l m&&ka a (m+jr l)):=by
 induction l with
 |nil=>intro m;simp[ka,jr]
 |cons x l ad=>
  intro m
  by_cases I:x.op=21
  .have Y:jr (x::l)=jr l+1:=by simp[jr,I]
   simp only[FE,ka,I,if_true,ad,Y,Bool.and_assoc];rw[show m+1+jr l=m+(jr l+1) by omega]
  .have Y:jr (x::l)=jr l:=by simp[jr,I]
   simp only[FE,ka,I,if_false,ad,Y]
theorem q9(l a:List In):jr (l++a)=jr l+jr a:=by simp[jr]
theorem mN.app{l:List In}{q:Int}(h:mN l q)(a:List In)(aq:q<l.length∨(q=l.length/\∃k t,a=k::t/\k.op≠20))(q':Int)(b:q<=q')
 (hf:∀j (hj:j<a.length),PF (l++a) q' (l.length+j) a[j]) (Y:ka a (jr l)=true):mN (l++a) q':=by
 have b0:=qQ.app l a;refine⟨?_,λi hi=>?_,?_⟩
 .rw[kQ a (by have:=h.pos;omega)];exact h.ne
 .by_cases aj:i<l.length
  .rw[EC aj];refine(h.fit i aj).kp b0 aj b ?_ (by rcases aq with h|h<;>omega)
   rcases aq with h1|⟨_,k,t,rfl,h2⟩
   .exact .inl h1
   .right;rw[lW];exact h2
  .rw[EK o_]
   have:=hf (i-l.length) (by rw[H_]at hi;omega)
   rwa [show l.length+(i-l.length)=i by omega]at this
 .rw[wD,h.Db,Int.zero_add,Y]
  rfl
theorem mN.q{l:List In}{q q':Int}(h:mN l q)(aq:q<=q')(a:q<=l.length):mN l q':=by
 refine⟨h.ne,λi hi=>(h.fit i hi).kp (qQ.refl l) hi aq ?_ a,h.Db⟩;right;rw[jX (.inr (Ev _))]
 decide
theorem qB:∀(l l':List In),l.length=l'.length->(∀i (h:i<l.length) (o:i<l'.length),l[i].op=l'[i].op/\(l[i].op=21->l[i].n=l'[i].n))->∀m,ka l m=ka l' m:=by
 intro l
 induction l with
 |nil=>
  intro l' hl _ m
  have:l'=[]:=En hl.symm
  subst this
  rfl
 |cons x l ad=>
  intro l' hl h m
  cases l' with
  |nil=>simp at hl
  |cons y l'=>
   have h0:=h 0 s_ s_;simp only[ES]at h0;have a:=ad l' (by simpa using hl) (λi h1 h2=>h (i+1) p_ p_)
   by_cases I:x.op=21
   .have hy:y.op=21:=by rw[<-h0.1];exact I
    simp only[ka,Q_ I,Q_ hy,a,h0.2 I]
   .have hy:¬y.op=21:=by rw[<-h0.1];exact I
    simp only[ka,P_ I,P_ hy,a]
theorem rB(l l':List In)(hl:l.length=l'.length)(h:∀i (h:i<l.length) (o:i<l'.length),l[i].op=l'[i].op):jr l=jr l':=by
 have e:l.map In.op=l'.map In.op:=by
  refine FD (by simpa using hl) λi h1 h2=>?_
  simp only[E7];exact h i (by simpa using h1) (by simpa using h2)
 have m:∀l:List In,jr l=((l.map In.op).filter (· ==21)).length:=by
  intro l;simp[jr,List.filter_map,Function.comp_def]
 rw[m,m,e]
theorem mN.AQ{l:List In}{q:Int}(h:mN l q)(is:List Int)(v:Int)(q':Int)(aq:q<=q')(a:q<=l.length)
 (hi:∀i (h:i<l.length),(∃j∈is,j.toNat=i)->l[i].op≠21/\PF l q' i (l[i].oR v)):mN (lv v l is) q':=by
 have iv:=iV v is l;have o:=n8 v is l
 have b:∀i x,PF l q' i x->PF (lv v l is) q' i x:=by
  intro i x I;unfold PF at I |-;unfold jH at I |-;simp only[o];exact I
 refine⟨by rw[o];exact h.ne,λi aM=>?_,?_⟩
 .have bm:i<l.length:=by rw[<-iv];exact aM
  rw[l9 v is l i bm];split
  .rename_i hj;exact b i _ (hi i bm hj).2
  .exact b i _ (((h.q aq a).fit i bm))
 .rw[qB (lv v l is) l iv (λi h1 h2=>?_)]
  .exact h.Db
  .rw[l9 v is l i h2];split
   .rename_i hj;exact⟨rfl,λt=>D6 t (hi i h2 hj).1⟩
   .exact⟨rfl,λ_=>rfl⟩
structure oQ(l:List In)(g9:Int)(cs:List (Int × Int))(ats:List (List Int))(q:Int):Prop where
 code:mN l q
 we:g9=jr l
 cs1:∀p∈cs,0<=p.1/\p.1<l.length/\ij l p.1=13/\1<=p.2/\p.2<=2
 cs2:∀i (h:i<l.length),l[i].op=13->∃f,((i:Int),f)∈cs
 pI:∀a∈ats,∀i∈a,0<=i/\i<l.length/\ij l i=17
 q:q<=l.length
 yN:cs.length<=l.length
 rM:∀a∈ats,a.length<=l.length
section
variable{l:List In}{g9:Int}{cs:List (Int × Int)}{ats:List (List Int)}{q:Int}
theorem oQ.put(h:oQ l g9 cs ats q)(x:In)(h13:x.op≠13)(t:x.op≠21)(d:x.op≠20∨q<l.length)(hf:PF (l++[x]) l.length l.length x):oQ (l++[x]) g9 cs ats l.length where
 code:=h.code.app [x] (by
  rcases d with d|d
  .rcases F6 q l.length with aq|aq
   .exact .inl aq
   .exact .inr ⟨by have:=h.q;omega,x,[],rfl,d⟩
  .exact .inl d) _ h.q (λj hj=>by
   have:j=0:=by simpa using hj
   subst this
   exact hf) (by simp[ka,t])
 we:=by rw[q9,h.we];simp[jr,t]
 cs1:=λp hp=>by
  exact Jv
 cs2:=λi hi e=>by
  by_cases aj:i<l.length
  .rw[EC aj]at e;exact h.cs2 i aj e
  .rw[EK o_]at e;simp at e;exact D6 e h13
 pI:=λa ha i hi=>by
  exact Jx
 q:=by simp;omega
 yN:=by have:=h.yN;simp;omega
 rM:=λa ha=>by have:=h.rM a ha;simp;omega
def lq(x:In):Bool:=jH [] 0 x (iZ.getD x.op.toNat default)&&(x.op !=11)&&(x.op !=12)&&(x.op !=13)&&(x.op !=20)&&(x.op !=21)&&(x.op !=17||x.n==0)
theorem PF.simp{l:List In}{q:Int}{x:In}(h:lq x=true):PF l q i x:=by
 unfold lq at h;simp only[Ec,bne_iff_ne,ne_eq]at h;obtain⟨⟨⟨⟨⟨⟨hf,A⟩,bm⟩,h13⟩,d⟩,t⟩,f⟩:=h;have hr:=t6 hf;have hs:=DI x.op.toNat o_
 have aY:¬(iZ.getD x.op.toNat default).n=6:=λe=>by have:=hs.1.1 e;omega
 have bA:¬(iZ.getD x.op.toNat default).n=7:=λe=>by have:=hs.2.1 e;omega
 have aU:(iZ.getD x.op.toNat default).n=8->x.op=17:=by
  have:∀k,k<22->(iZ.getD k default).n=8->k=17:=by decide
  intro e
  have:=this x.op.toNat o_ e
  omega
 unfold PF;rw[P_ h13,P_ o_];generalize iZ.getD x.op.toNat default=s at*;unfold jH at hf |-
 have e13:(x.op==13)=false:=by simpa using h13
 have a:(x.op !=20)=true:=by simpa using d
 rw[e13,a]at hf |-;simp only[Bool.false_and,FM,F7]at hf |-;rw[P_ aY,P_ bA]at hf |-
 by_cases dR:s.n=8
 .have b:(x.n==0)=true:=by
   have g:=aU dR;rw[g]at f
   simpa using f
  rw[b]at hf |-
  simpa using hf
 .rw[P_ dR]at hf |-;exact hf
theorem oQ.simp(h:oQ l g9 cs ats q){x:In}(I:lq x=true):oQ (l++[x]) g9 cs ats l.length:=by
 have f:=I;unfold lq at f;simp only[Ec,bne_iff_ne,ne_eq]at f;obtain⟨⟨⟨⟨⟨⟨_,_⟩,_⟩,h13⟩,d⟩,t⟩,_⟩:=f;exact h.put x h13 t (.inl d) (PF.simp I)
theorem oQ.mark(h:oQ l g9 cs ats q):oQ (l++[⟨21,0,0,0,g9⟩]) (g9+1) cs ats l.length where
 code:=h.code.app [⟨21,0,0,0,g9⟩] (by
  rcases F6 q l.length with aq|aq
  .exact .inl aq
  .exact .inr ⟨by have:=h.q;omega,_,[],rfl,by simp⟩) _ h.q (λj hj=>by
   have:j=0:=by simpa using hj
   subst this
   show PF _ _ _ (⟨21,0,0,0,g9⟩:In)
   unfold PF;rw[P_ s_,P_ s_]
   simp[jH,iZ,lV]) (by simp[ka,h.we])
 we:=by rw[q9,h.we];simp[jr]
 cs1:=λp hp=>by
  exact Jv
 cs2:=λi hi e=>by
  by_cases aj:i<l.length
  .rw[EC aj]at e;exact h.cs2 i aj e
  .rw[EK o_]at e;simp at e
 pI:=λa ha i hi=>by
  exact Jx
 q:=by simp;omega
 yN:=by have:=h.yN;simp;omega
 rM:=λa ha=>by have:=h.rM a ha;simp;omega
theorem oQ.jump(h:oQ l g9 cs ats q)(o n:Int)(ho:o=11∨o=12)(hn:ij l n=21):oQ (l++[⟨o,0,0,0,n⟩]) g9 cs ats l.length:=by
 have hn1:0<=n/\n<l.length:=by
  by_cases hc:n<0∨(l.length:Int)<=n
  .rw[jX hc]at hn;simp at hn
  .omega
 refine h.put _ p_ p_ (.inl p_) ?_;unfold PF;rw[P_ p_,Q_ (by simpa using ho)];refine⟨by simp[lV],rfl,rfl,hn1.1,by simp;omega,?_,.inr ?_⟩
 .rw[kQ _ hn1.2,hn]
  decide
 .rw[kQ _ hn1.2,hn]
theorem oQ.call(h:oQ l g9 cs ats q)(b f:Int)(B:0<=b)(hb:b<=2)(C:1<=f)(d:f<=2):oQ (l++[⟨13,0,b,0,0⟩,⟨21,0,0,0,g9⟩]) (g9+1) (cs++[((l.length:Int),f)]) ats l.length where
 code:=h.code.app _ (by
  rcases F6 q l.length with aq|aq
  .exact .inl aq
  .exact .inr ⟨by have:=h.q;omega,_,_,rfl,by simp⟩) _ h.q (λj hj=>by
   have hp:=h.code.pos
   rcases(by simp at hj;omega:j=0∨j=1)with rfl|rfl
   .show PF _ _ _ (⟨13,0,b,0,0⟩:In)
    unfold PF;rw[Q_ r_];refine⟨rfl,B,hb,?_,?_⟩
    .have:(((l.length+0:Nat):Int)+1)=((l.length+1:Nat):Int):=by omega
     rw[this,nM s_,EK o_];simp
    .show ij _ 0=21
     rw[kQ _ o_];exact h.code.ne
   .show PF _ _ _ (⟨21,0,0,0,g9⟩:In)
    unfold PF;rw[P_ s_,P_ s_]
    simp[jH,iZ,lV]) (by simp[ka,h.we])
 we:=by rw[q9,h.we];simp[jr]
 cs1:=λp hp=>by
  rcases T_.1 hp with hp|hp
  .exact Jv
  .have:p=((l.length:Int),f):=by simpa using hp
   subst this;exact⟨by simp,by simp;omega,lW _ _ _,C,d⟩
 cs2:=λi hi e=>by
  by_cases aj:i<l.length
  .rw[EC aj]at e;obtain⟨n,D⟩:=h.cs2 i aj e;exact⟨n,D4 _ D⟩
  .rw[EK o_]at e
   have k:i=l.length∨i=l.length+1:=by simp at hi;omega
   rcases k with rfl|rfl
   .exact⟨f,by simp⟩
   .simp at e
 pI:=λa ha i hi=>by
  exact Jx
 q:=by simp;omega
 yN:=by have:=h.yN;simp;omega
 rM:=λa ha=>by have:=h.rM a ha;simp;omega
theorem oQ.ask(h:oQ l g9 cs ats q)(aq:q<l.length)(Y:ij l ((l.length:Int)-1)=21)(n:Int)(h0:0<=n)(h1:n<64):oQ (l++[⟨20,0,0,0,n⟩]) g9 cs ats l.length:=by
 refine h.put _ s_ s_ (.inr aq) ?_;unfold PF;rw[P_ s_,P_ s_]
 have e:ij (l++[(⟨20,0,0,0,n⟩:In)]) ((l.length:Int)-1)=21:=by rw[kQ _ o_];exact Y
 simp[jH,iZ,lV,e];omega
theorem oQ.AQ(h:oQ l g9 cs ats q)(is:List Int)(v:Int)(q':Int)(aq:q<=q')(dn:q'<=l.length)
 (hi:∀i (h:i<l.length),(∃j∈is,j.toNat=i)->l[i].op≠21/\PF l q' i (l[i].oR v)):oQ (lv v l is) g9 cs ats q' where
 code:=h.code.AQ is v q' aq h.q hi
 we:=by
  rw[h.we];refine(rB _ _ (iV v is l) λi h1 h2=>?_).symm;rw[l9 v is l i h2];split<;>rfl
 cs1:=λp hp=>by
  obtain⟨h1,h2,h3,aw⟩:=h.cs1 p hp;exact⟨h1,by rw[iV];exact h2,by rw[n8];exact h3,aw⟩
 cs2:=λi hi e=>by
  have bm:=by rw[iV]at hi;exact hi
  rw[l9 v is l i bm]at e;refine h.cs2 i bm ?_;split at e<;>exact e
 pI:=λa ha i hi=>by
  obtain⟨h1,h2,h3⟩:=h.pI a ha i hi;exact⟨h1,by rw[iV];exact h2,by rw[n8];exact h3⟩
 q:=by rw[iV];exact dn
 yN:=by rw[iV];exact h.yN
 rM:=λa ha=>by rw[iV];exact h.rM a ha
theorem oQ.here(h:oQ l g9 cs ats q)(e:Int)(he:ij l e=11∨ij l e=12):oQ (lv l.length l [e]) g9 cs ats l.length:=by
 have a:0<=e/\e<l.length:=by
  by_cases hc:e<0∨(l.length:Int)<=e
  .rw[jX hc]at he;simp at he
  .omega
 refine h.AQ [e] _ _ h.q (Ev _) λi hi hj=>?_
 obtain⟨j,hj,rfl⟩:=hj
 have:j=e:=by simpa using hj
 subst this;obtain⟨i,rfl,k,ah⟩:=m5 a.1 a.2;rw[ah]at he;have hp:=h.code.fit i k;have v:l[((i:Int).toNat)].op=11∨l[((i:Int).toNat)].op=12:=he;refine⟨by omega,?_⟩;unfold PF at hp |-;rw[P_ o_,Q_ o_]at hp;have aK:(l[((i:Int).toNat)].oR l.length).op=l[i].op:=rfl;rw[aK,P_ o_,Q_ o_];refine⟨hp.1,hp.2.1,hp.2.2.1,by show(0:Int)<=(l.length:Int);omega,Ev _,?_,.inl ?_⟩
 .show ij l l.length≠20
  rw[jX (.inr (Ev _))]
  decide
 .show((i:Int).toNat:Int)<(l.length:Int)
  simpa using k
theorem oQ.sY(h:oQ l g9 cs ats q)(a:List Int)(ha:∀i∈a,ij l i=17):oQ (lv l.length l a++[⟨21,0,0,0,g9⟩]) (g9+1) cs ats l.length:=by
 have Y:=h.mark
 have hl:(lv (l.length:Int) l a)++[(⟨21,0,0,0,g9⟩:In)]=lv l.length (l++[⟨21,0,0,0,g9⟩]) a:=by
  refine FD (by simp[iV]) λi h1 h2=>?_
  have bK:=by rw[iV]at h2;exact h2
  rw[l9 _ _ _ i bK]
  by_cases aj:i<l.length
  .rw[EC (by rw[iV];exact aj),l9 _ _ _ i aj,EC aj]
  .rw[EK (by rw[iV];omega),EK o_]
   have u:¬∃j∈a,j.toNat=i:=by
    rintro⟨j,hj,s⟩
    have:=ha j hj
    have hp:=h.code.pos;rw[jX (.inr o_)]at this;simp at this
   rw[P_ u];simp only[iV]
 rw[hl]
 refine Y.AQ a _ _ (Ev _) p_ λi hi hj=>?_
 obtain⟨j,hj,rfl⟩:=hj;have o:=ha j hj
 have e:0<=j/\j<l.length:=by
  by_cases hc:j<0∨(l.length:Int)<=j
  .rw[jX hc]at o;simp at o
  .omega
 obtain⟨i,rfl,k,ah⟩:=m5 e.1 e.2
 have p:((i:Int)).toNat=i:=by simp
 have hg:(l++[(⟨21,0,0,0,g9⟩:In)])[((i:Int)).toNat]=l[i]:=by
  simp only[p];exact EC k
 rw[hg]
 have g:l[i].op=17:=by rw[<-ah];exact o
 refine⟨by omega,?_⟩;have hp:=h.code.fit i k;unfold PF at hp |-;rw[P_ o_,P_ o_]at hp;have aK:(l[i].oR l.length).op=l[i].op:=rfl;rw[aK,P_ o_,P_ o_];rw[g]at hp |-;have m:iZ.getD (17:Int).toNat default=⟨false,false,false,8⟩:=rfl;rw[m]at hp |-;unfold jH at hp |-;rw[aK]
 have hn:ij (l++[(⟨21,0,0,0,g9⟩:In)]) (l[i].oR l.length).n=21:=by
  show ij (l++[(⟨21,0,0,0,g9⟩:In)]) l.length=21
  exact lW l ⟨21,0,0,0,g9⟩ []
 rw[hn];have d:(l[i].oR l.length).a=l[i].a:=rfl;have y:(l[i].oR l.length).b=l[i].b:=rfl;have f:(l[i].oR l.length).c=l[i].c:=rfl;rw[d,y,f,g];rw[g]at hp;simp at hp |-;exact hp.1
end
def jW(es fs:List Int)(l:List In)(p:Int × Int):List In:=l.modify p.1.toNat λx=>⟨x.op,x.a,x.b,fs.getD p.2.toNat 0,es.getD p.2.toNat 0⟩
theorem p2(es fs:List Int)(l:List In)(p:Int × Int):(jW es fs l p).length=l.length:=by simp[jW]
theorem oD(es fs:List Int)(cs:List (Int × Int)):∀l:List In,(cs.foldl (jW es fs) l).length=l.length:=by
 induction cs with
 |nil=>intro l;rfl
 |cons p cs ad=>intro l;exact(ad _).trans (p2 es fs l p)
theorem oE(es fs:List Int)(cs:List (Int × Int)):∀(l:List In) (k:Nat) (hk:k<l.length),∃c n,(cs.foldl (jW es fs) l)[k]'(by rw[oD];exact hk)=⟨l[k].op,l[k].a,l[k].b,c,n⟩/\
 ((c=l[k].c/\n=l[k].n/\∀p∈cs,p.1.toNat≠k)∨∃p∈cs,p.1.toNat=k/\c=fs.getD p.2.toNat 0/\n=es.getD p.2.toNat 0):=by
 induction cs with
 |nil=>intro l k hk;exact⟨_,_,rfl,.inl ⟨rfl,rfl,λp hp=>by cases hp⟩⟩
 |cons p cs ad=>
  intro l k hk;obtain⟨c,n,h1,h2⟩:=ad (jW es fs l p) k (by rw[p2];exact hk)
  have hg:(jW es fs l p)[k]'(by rw[p2];exact hk)=if p.1.toNat=k then⟨l[k].op,l[k].a,l[k].b,fs.getD p.2.toNat 0,es.getD p.2.toNat 0⟩ else l[k]:=by
   simp only[jW,Fb]
  rw[hg]at h1 h2;refine⟨c,n,?_,?_⟩
  .refine h1.trans ?_;split<;>rfl
  .rcases h2 with⟨rfl,rfl,h3⟩|⟨d,f,h3⟩
   .by_cases he:p.1.toNat=k
    .rw[Q_ he];exact .inr ⟨p,by simp,he,rfl,rfl⟩
    .rw[P_ he];refine .inl ⟨rfl,rfl,λd f=>?_⟩
     rcases M_.1 f with rfl|f
     .exact he
     .exact h3 d f
   .exact .inr ⟨d,by simp[f],h3⟩
theorem wR{l:List In}{g9 hq q:Int}{cs:List (Int × Int)}{ats:List (List Int)}{es fs:List Int}(h:oQ l g9 cs ats q)(aq:q<l.length)(co:ij l ((l.length:Int)-1)=14)(hl:l.length<=2048)
 (he:∀k,1<=k->k<=2->ij l (es.getD k 0)=21) (hf:∀k,1<=k->k<=2->2<=fs.getD k 0/\fs.getD k 0<=64) (X:0<=hq) (hv:hq<=64):hZ (cs.foldl (jW es fs) l) hq g9=true:=by
 have L:=h.code.pos;have iv:=oD es fs cs l
 have o:∀n,ij (cs.foldl (jW es fs) l) n=ij l n:=by
  intro n
  by_cases hc:n<0∨(l.length:Int)<=n
  .rw[jX hc,jX (by rw[iv];exact hc)]
  .obtain⟨i,rfl,hi,e⟩:=m5 (l:=l) (n:=n) o_ o_;obtain⟨c,n',h1,_⟩:=oE es fs cs l i hi;rw[e,nM (by rw[iv];exact hi),h1]
 have bC:∀n:Int,0<=n->n<l.length->0<=ij l n:=by
  intro n h0 h1;obtain⟨i,rfl,hi,e⟩:=m5 h0 h1;rw[e];exact(h.code.fit i hi).rng.1
 have j:∀k,k<l.length->∀p∈cs,p.1.toNat=k->ij l k=13:=by
  intro k hk p hp aB;obtain⟨h1,h2,h3,_⟩:=h.cs1 p hp
  have:p.1=(k:Int):=by omega
  rw[<-this];exact h3
 have ay:∀i,i<l.length->kU (cs.foldl (jW es fs) l) i=true:=by
  intro i hi;obtain⟨c,n,h1,h2⟩:=oE es fs cs l i hi
  have ap:(cs.foldl (jW es fs) l).getD i default=⟨l[i].op,l[i].a,l[i].b,c,n⟩:=by
   rw[<-h1];simp[List.getD,iv,hi]
  have I:=h.code.fit i hi;have hr:=I.rng
  have w:kU (cs.foldl (jW es fs) l) i=jH (cs.foldl (jW es fs) l) i ⟨l[i].op,l[i].a,l[i].b,c,n⟩ (iZ.getD l[i].op.toNat default):=by unfold kU;rw[ap]
  rw[w];clear w;clear h1 ap;generalize hL:cs.foldl (jW es fs) l=l' at*;unfold PF at I
  by_cases e13:l[i].op=13
  .rw[Q_ e13]at I;obtain⟨ha,B,hb,Y,hn0⟩:=I
   have z:∃p∈cs,p.1.toNat=i/\c=fs.getD p.2.toNat 0/\n=es.getD p.2.toNat 0:=by
    rcases h2 with⟨_,_,h3⟩|h3
    .obtain⟨f,D⟩:=h.cs2 i hi e13;exact D6 (show((i:Int)).toNat=i by simp) (h3 _ D)
    .exact h3
   obtain⟨p,hp,_,rfl,rfl⟩:=z;obtain⟨_,_,_,bo,aN⟩:=h.cs1 p hp;have D:=hf p.2.toNat o_ o_;have v:=he p.2.toNat o_ o_;generalize fs.getD p.2.toNat 0=cI at*;generalize es.getD p.2.toNat 0=G at*
   have c7:ij l' ((i:Int)+1)=21:=by rw[o];exact Y
   have m:iZ.getD (13:Int).toNat default=⟨false,false,false,7⟩:=rfl;simp only[e13,ha,m];simp[jH,lV,c7,o,v];omega
  .have r:c=l[i].c/\n=l[i].n:=by
    rcases h2 with⟨h3,aw,_⟩|⟨p,hp,h3,_⟩
    .exact⟨h3,aw⟩
    .have:=j i hi p hp h3
     rw[nM hi]at this;exact D6 this e13
   obtain⟨rfl,rfl⟩:=r;rw[P_ e13]at I
   have C:∀(x:In) (s:Sh),jH l' i x s=jH l i x s:=by intro x s;unfold jH;simp only[o]
   rw[C]
   show jH l i l[i] _=true
   by_cases aL:l[i].op=11∨l[i].op=12
   .rw[Q_ aL]at I;obtain⟨av,bf,y,E,d,aT,g⟩:=I;have h0:=bC l[i].n E o_
    show jH l i l[i] (iZ.getD l[i].op.toNat default)=true
    generalize l[i]=x at*;obtain⟨op,a,b,cc,u⟩:=x;simp only at av bf y E d aT g h0 aL |-;subst bf;subst y
    rcases aL with rfl|rfl
    .have m:iZ.getD (11:Int).toNat default=⟨false,false,false,6⟩:=rfl;rw[m];simp[jH,lV]at av |-;exact⟨av,⟨h0,aT⟩,g⟩
    .have m:iZ.getD (12:Int).toNat default=⟨true,false,false,6⟩:=rfl;rw[m];simp[jH,lV]at av |-;exact⟨by omega,⟨h0,aT⟩,g⟩
   .rw[P_ aL]at I;exact I
 have A:ka (cs.foldl (jW es fs) l) 0=ka l 0/\jr (cs.foldl (jW es fs) l)=jr l:=by
  constructor
  .refine qB _ _ iv (λi h1 h2=>?_) 0;obtain⟨c,n,h3,aw⟩:=oE es fs cs l i h2;rw[h3];refine⟨rfl,λt=>?_⟩
   rcases aw with⟨_,aw,_⟩|⟨p,hp,aw,_⟩
   .exact aw
   .have:=j i h2 p hp aw
    rw[nM h2]at this;have H:l[i].op=21:=t;omega
  .refine rB _ _ iv λi h1 h2=>?_
   obtain⟨c,n,h3,aw⟩:=oE es fs cs l i h2;rw[h3]
 unfold hZ;rw[o,o,A.1,A.2,iv,h.code.ne,co,h.code.Db,h.we]
 have F:oK (cs.foldl (jW es fs) l)=true:=by
  unfold oK;rw[Ei];intro i hi;exact ay i (by rw[iv]at hi;simpa using hi)
 rw[F];simp;omega
structure iK where
 pv:Value
 vs:List ByteArray
 l:List In
 g9:Int
 es:List Int
 fs:List Int
 cs:List (Int × Int)
 hidden:Int
 most:Int
 ats:List (Nat × List Int)
 rts:List (Nat × List Int)
def iK.put(v:iK)(x:In):iK:={v with l:=v.l++[x]}
def iK.mark(v:iK):iK:={v with l:=v.l++[⟨21,0,0,0,v.g9⟩],g9:=v.g9+1}
def iK.here(v:iK)(is:List Int):iK:={v with l:=lv v.l.length v.l is}
def iK.more(v:iK):iK:={v with hidden:=v.hidden+1,most:=max v.most (v.hidden+1)}
def iK.less(v:iK):iK:={v with hidden:=v.hidden-1}
def iK.call(v:iK)(b f:Int):iK:={v with l:=v.l++[⟨13,0,b,0,0⟩],cs:=v.cs++[((v.l.length:Int),f)]}
def iK.push(v:iK)(x:Nat):iK:={v with ats:=v.ats++[(x,[])]}
def iK.pop(v:iK):iK:={v with ats:=v.ats.dropLast,rts:=v.rts++v.ats.getLast?.toList}
def iK.drop(v:iK)(r:List (Nat × List Int)):iK:={v with rts:=r}
def qJ(i:Int):List (Nat × List Int)->List (Nat × List Int)
 |[]=>[]
 |[a]=>[(a.1,a.2++[i])]
 |a::b::l=>a::qJ i (b::l)
def iK.protect(v:iK):iK:={v with l:=v.l++[⟨17,0,0,0,0⟩],ats:=qJ v.l.length v.ats}
structure GK(v:iK)(q:Int)(D:Nat):Prop where
 ok:oQ v.l v.g9 v.cs (v.ats.map (·.2)) q
 h0:0<=v.hidden
 hD:v.hidden+D<=10
 m0:0<=v.most
 m1:v.most<=10
 v0:2<=v.vs.length
 v1:v.vs.length<=9
 al:v.ats.length+D<=20
structure GP(v v':iK)(n:Nat):Prop where
 pv:v'.pv=v.pv
 vs:v'.vs=v.vs
 es:v'.es=v.es
 fs:v'.fs=v.fs
 hid:v'.hidden=v.hidden
 rt:v'.rts=v.rts
 pI:v'.ats.map (·.1)=v.ats.map (·.1)
 len:v'.l.length<=v.l.length+n
 kp:qQ v.l v'.l
section
variable{v v' v'':iK}{q q':Int}{D n m:Nat}
theorem GP.refl(v:iK):GP v v 0:=⟨rfl,rfl,rfl,rfl,rfl,rfl,rfl,G_ _,qQ.refl _⟩
theorem GP.trans(h:GP v v' n)(k:GP v' v'' m):GP v v'' (n+m):=⟨k.pv.trans h.pv,k.vs.trans h.vs,k.es.trans h.es,k.fs.trans h.fs,k.hid.trans h.hid,k.rt.trans h.rt,k.pI.trans h.pI,by have:=h.len;have:=k.len;omega,h.kp.trans k.kp⟩
theorem GP.le(h:GP v v' n)(hn:n<=m):GP v v' m:={h with len:=F_ h.len o_}
theorem GK.le{E:Nat}(h:GK v q D)(hE:E<=D):GK v q E:={h with hD:=by have:=h.hD;omega,al:=by have:=h.al;omega}
theorem GP.rM(h:GP v v' n):v'.ats.length=v.ats.length:=by have:=D9 List.length h.pI;simpa using this
theorem GK.of(h:GK v q D)(k:GP v v' n)(hk:GK v' q' 0):GK v' q' D:={hk with hD:=by rw[k.hid];exact h.hD,al:=by rw[k.rM];exact h.al}
theorem GK.simp(h:GK v q D){x:In}(I:lq x=true):GK (v.put x) v.l.length D:={h with ok:=h.ok.simp I}
theorem GP.put(v:iK)(x:In):GP v (v.put x) 1:=⟨rfl,rfl,rfl,rfl,rfl,rfl,rfl,by simp[iK.put],qQ.app _ _⟩
theorem GK.mark(h:GK v q D):GK v.mark v.l.length D:={h with ok:=h.ok.mark}
theorem GP.mark(v:iK):GP v v.mark 1:=⟨rfl,rfl,rfl,rfl,rfl,rfl,rfl,by simp[iK.mark],qQ.app _ _⟩
theorem GK.jump(h:GK v q D)(o n:Int)(ho:o=11∨o=12)(hn:ij v.l n=21):GK (v.put ⟨o,0,0,0,n⟩) v.l.length D:={h with ok:=h.ok.jump o n ho hn}
theorem GK.vo(h:GK v q D)(o:Int)(ho:o=11∨o=12):GK (v.put ⟨o,0,0,0,0⟩) v.l.length D:=h.jump o 0 ho h.ok.code.ne
theorem GK.here(h:GK v q D)(e:Int)(he:ij v.l e=11∨ij v.l e=12):GK (v.here [e]) v.l.length D:={h with ok:=h.ok.here e he}
theorem GK.ask(h:GK v q D)(aq:q<v.l.length)(Y:ij v.l ((v.l.length:Int)-1)=21)(n:Int)(h0:0<=n)(h1:n<64):GK (v.put ⟨20,0,0,0,n⟩) v.l.length D:={h with ok:=h.ok.ask aq Y n h0 h1}
theorem GP.here(v:iK)(is:List Int):GP v (v.here is) 0:=⟨rfl,rfl,rfl,rfl,rfl,rfl,rfl,by simp[iK.here,iV],qQ.set _ _ _⟩
theorem GK.sY(h:GK v q D)(a:List Int)(ha:∀i∈a,ij v.l i=17):GK (v.here a).mark v.l.length D:={h with ok:=h.ok.sY a ha}
theorem GK.vz(h:GK v q D)(b f:Int)(B:0<=b)(hb:b<=2)(C:1<=f)(d:f<=2):GK (v.call b f).mark v.l.length D:=by
 refine{h with ok:=?_}
 .have:=h.ok.call b f B hb C d
  show oQ ((v.l++[_])++[_]) _ _ _ _
  rw[Er];exact this
theorem GP.call(v:iK)(b f:Int):GP v (v.call b f) 1:=⟨rfl,rfl,rfl,rfl,rfl,rfl,rfl,by simp[iK.call],qQ.app _ _⟩
theorem oe(v:iK)(x:In):ij (v.put x).l v.l.length=x.op:=lW _ _ _
theorem GK.more(h:GK v q (D+1)):GK v.more q D:=
 {ok:=h.ok,h0:=by have:=h.h0;show 0<=v.hidden+1;omega,hD:=by have:=h.hD;show v.hidden+1+D<=10;omega,m0:=by have:=h.m0;show 0<=max v.most (v.hidden+1);omega,
  m1:=by have:=h.m1;have:=h.hD;show max v.most (v.hidden+1)<=10;omega,v0:=h.v0,v1:=h.v1,al:=by have:=h.al;show v.ats.length+D<=20;omega}
theorem rh(i:Int):∀l:List (Nat × List Int),(qJ i l).map (·.1)=l.map (·.1)
 |[]=>rfl
 |[a]=>rfl
 |a::b::l=>by simp only[qJ,E1];rw[rh i (b::l)];rfl
theorem rg(i:Int):∀(l:List (Nat × List Int)) (a:Nat × List Int),a∈qJ i l->a∈l∨∃b∈l,a=(b.1,b.2++[i])
 |[],a,h=>by cases h
 |[b],a,h=>by
  have:a=(b.1,b.2++[i]):=by simpa[qJ]using h
  exact .inr ⟨b,by simp,this⟩
 |b::c::l,a,h=>by
  rcases M_.1 h with rfl|h
  .exact .inl s_
  .rcases rg i (c::l) a h with h|⟨d,h1,h2⟩
   .exact .inl (Eo _ h)
   .exact .inr ⟨d,Eo _ h1,h2⟩
theorem GK.protect(h:GK v q D):GK v.protect v.l.length D:=by
 refine{h with ok:=?_,al:=by have e:v.protect.ats.length=v.ats.length:=(show(qJ v.l.length v.ats).length=_ by have:=D9 List.length (rh v.l.length v.ats);simpa using this);rw[e];exact h.al}
 .have I:lq ⟨17,0,0,0,0⟩=true:=by decide
  have hp:=h.ok.simp I;refine{hp with pI:=?_,rM:=?_}
  .intro a ha i hi;obtain⟨p,f,rfl⟩:=D2.1 ha
   rcases rg _ _ _ f with h1|⟨b,h1,rfl⟩
   .exact hp.pI p.2 (D2.2 ⟨p,h1,rfl⟩) i hi
   .rcases T_.1 hi with hi|hi
    .exact hp.pI b.2 (D2.2 ⟨b,h1,rfl⟩) i hi
    .have:i=(v.l.length:Int):=by simpa using hi
     subst this;exact⟨by omega,by simp[iK.protect];omega,lW _ _ _⟩
  .intro a ha;obtain⟨p,f,rfl⟩:=D2.1 ha
   rcases rg _ _ _ f with h1|⟨b,h1,rfl⟩
   .exact hp.rM p.2 (D2.2 ⟨p,h1,rfl⟩)
   .have:=h.ok.rM b.2 (D2.2 ⟨b,h1,rfl⟩)
    simp[iK.protect];exact this
theorem GP.protect(v:iK):GP v v.protect 1:=⟨rfl,rfl,rfl,rfl,rfl,rfl,rh _ _,by simp[iK.protect],qQ.app _ _⟩
theorem GK.push(h:GK v q (D+1))(x:Nat):GK (v.push x) q D:=by
 refine{h with ok:=?_,hD:=by have:=h.hD;show v.hidden+D<=10;omega,al:=by have:=h.al;simp[iK.push];omega}
 .refine{h.ok with pI:=?_,rM:=?_}
  .intro a ha i hi
   have d:a∈v.ats.map (·.2)∨a=[]:=by simpa[iK.push]using ha
   rcases d with ha|rfl
   .exact h.ok.pI a ha i hi
   .cases hi
  .intro a ha
   have d:a∈v.ats.map (·.2)∨a=[]:=by simpa[iK.push]using ha
   rcases d with ha|rfl
   .exact h.ok.rM a ha
   .simp
theorem oQ.pop{l:List In}{g9:Int}{cs:List (Int × Int)}{a b:List (List Int)}(h:oQ l g9 cs a q)(hs:∀x∈b,x∈a):oQ l g9 cs b q:=
 {h with pI:=λx I=>h.pI x (hs x I),rM:=λx I=>h.rM x (hs x I)}
theorem GP.BR(h:GP (v.push x) v' n)(k:GP v'.pop v'' m):GP v (v''.drop v.rts) (n+m):=
 {pv:=k.pv.trans h.pv,vs:=k.vs.trans h.vs,es:=k.es.trans h.es,fs:=k.fs.trans h.fs,hid:=k.hid.trans h.hid,rt:=rfl,
  len:=by have h1:v'.l.length<=v.l.length+n:=h.len;have h2:v''.l.length<=v'.l.length+m:=k.len;show v''.l.length<=v.l.length+(n+m);omega
  kp:=h.kp.trans k.kp
  pI:=by
   have h1:=D9 List.dropLast h.pI;simp[iK.push,<-List.map_dropLast]at h1;have h2:=k.pI
   show v''.ats.map _=_
   rw[h2]
   simpa[iK.pop,List.map_dropLast]using h1}
theorem GP.Cr(h:GP (v.push x) v' n):∃l is,v'.ats=l++[(x,is)]/\v'.pop.rts=v.rts++[(x,is)]:=by
 have h1:=h.pI;simp only[iK.push,Ed,E1,Ff]at h1
 rcases List.eq_nil_or_concat v'.ats with h0|⟨l,a,h0⟩
 .rw[h0]at h1;simp at h1
 .rw[List.concat_eq_append]at h0;rw[h0,Ed]at h1;have h2:=List.append_inj_right' h1 rfl
  have h3:=by simpa using h2
  refine⟨l,a.2,by rw[h0,<-h3],?_⟩;have aw:v'.rts=v.rts:=h.rt;simp only[iK.pop,aw];rw[h0,<-h3];simp
theorem GK.CH(h:GK v q (D+1))(k:GP (v.push x) v' n)(hk:GK v' q' 0):GK v'.pop q' (D+1):=
 {ok:=hk.ok.pop λy hy=>by
   obtain⟨p,hp,rfl⟩:=D2.1 hy;exact D2.2 ⟨p,(List.dropLast_sublist _).subset hp,rfl⟩
  h0:=hk.h0,hD:=by have:v'.hidden=v.hidden:=k.hid;have:=h.hD;show v'.hidden+_<=10;omega,m0:=hk.m0,m1:=hk.m1,v0:=hk.v0,v1:=hk.v1
  al:=by
   have h1:=k.rM;have h2:=h.al;simp only[iK.push,H_,FP]at h1
   show(v'.ats.dropLast).length+_<=20
   rw[List.length_dropLast]
   omega}
theorem GK.CS(h:GK v q D)(r:List (Nat × List Int)):GK (v.drop r) q D:={h with}
theorem GP.more(h:GP v.more v' n):GP v v'.less n:=
 {pv:=h.pv,vs:=h.vs,es:=h.es,fs:=h.fs,pI:=h.pI,len:=h.len,kp:=h.kp,rt:=h.rt,hid:=by
   show v'.hidden-1=v.hidden
   rw[h.hid]
   show v.hidden+1-1=v.hidden
   omega}
theorem GK.less(h:GK v q D)(k:GK v' q' 0)(aB:v'.hidden=v.hidden+1)(ha:v'.ats.length=v.ats.length):GK v'.less q' D:=
 {k with h0:=by show 0<=v'.hidden-1;have:=h.h0;omega,hD:=by show v'.hidden-1+D<=10;have:=h.hD;omega,al:=by show v'.ats.length+D<=20;rw[ha];exact h.al}
end
end Go.Proofs.YtenbhdilndfaeaaGreat
