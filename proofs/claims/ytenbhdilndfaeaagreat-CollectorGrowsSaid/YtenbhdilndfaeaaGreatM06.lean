import Derived.Test.YtenbhdilndfaeaaGreatM05
set_option maxRecDepth 100000
set_option maxHeartbeats 0
set_option linter.all false
namespace Go.Proofs.YtenbhdilndfaeaaGreat
open Go.RowKit Go.Proofs.Tryz
variable{G:Prop}{g i x:Nat}{t:TypeId}
theorem J7(h:G:=by
 intro n hn;rw[hk.2 n,hn]
 rcases GN n l.length with h|h
 .exact h
 .rw[j6 (.inr h)]at hn;simp at hn):G:=h
theorem KK(h:G:=by
 obtain⟨h1,h2,h3,au⟩:=h.cs1 p hp;exact⟨h1,p_,by rw[k1 _ h2];exact h3,au⟩):G:=h
theorem KN(h:G:=by
 obtain⟨h1,h2,h3⟩:=h.pP a ha i hi;exact⟨h1,p_,by rw[k1 _ h2];exact h3⟩):G:=h
theorem ia{P:Program}{f:FuncId}{a:Array Value}{w:World}{i:Ending->World->Prop}(h:∀Q,Hid (Q=i)->Calls P f a w Q):Calls P f a w i:=h i (h_ rfl)
theorem box1(w:World)(t:TypeId)(cs:Array Value):∃(W:World) (g:Nat),w.alloc (.cells cs t)=W/\w.heap.size=g/\Gr [] w W/\Bk W g t cs:=
 ⟨_,_,rfl,rfl,(F_ [] w).alloc _,P_ w t cs⟩
theorem v7(w:World)(t1:TypeId)(c1:Array Value)(af:TypeId)(ai:Array Value):∃(W:World) (g a2:Nat),(w.alloc (.cells c1 t1)).alloc (.cells ai af)=W/\w.heap.size=g/\g+1=a2/\Gr [] w W/\Bk W g t1 c1/\Bk W a2 af ai:=
 ⟨_,_,_,rfl,rfl,rfl,((F_ [] w).alloc _).alloc _,(P_ w t1 c1).alloc _,by simpa using P_ (w.alloc (.cells c1 t1)) af ai⟩
structure Gt(base:Nat)(T:List TypeId)(a w:World):Prop where
 os:w.os=a.os
 tape:w.tape=a.tape
 output:w.output=a.output
 size:a.heap.size<=w.heap.size
 block:∀k,k<a.heap.size->(k<base∨∀cs t fz,a.heap[k]?=some (.cells cs t fz)->t∉T)->w.heap[k]?=a.heap[k]?
section
variable{base:Nat}{T:List TypeId}{a b w w':World}
theorem Gt.trans(h:Gt base T a b)(k:Gt base T b w):Gt base T a w:=
 ⟨k.os.trans h.os,k.tape.trans h.tape,k.output.trans h.output,G_ h.size k.size,λi hi hp=>
   (k.block i (FB hi h.size) (hp.imp id λam cs t fz e=>am cs t fz ((h.block i hi (.inr am)).symm.trans e))).trans (h.block i hi hp)⟩
theorem Gt.jC(h:Gr [] a w):Gt base T a w:=⟨h.os,h.tape,h.output,h.size,λi hi _=>h.block i hi s_⟩
theorem Gt.refl(base:Nat)(T:List TypeId)(w:World):Gt base T w w:=.jC (F_ [] w)
theorem Gt.one{cs:Array Value}(h:Gr [g] a w)(hb:base<=g)(hk:Bk a g t cs)(ht:t∈T):Gt base T a w:=
 ⟨h.os,h.tape,h.output,h.size,λi hi hp=>h.block i hi (by
   intro hm
   have:i=g:=zu hm
   subst this
   rcases hp with hp|hp
   .omega
   .exact hp _ _ _ hk ht)⟩
theorem Gt.set{cs:Array Value}(hk:Bk w g t cs)(hb:base<=g)(ht:t∈T)(i:Nat)(u:Value):Gt base T w (w.setCell (c_ g i) u):=
 .one ((F_ [g] w).setCell (p:=(c_ g i)) (.inl s_) u) hb hk ht
theorem Gt.grown{o:Option Nat}(h:w.grownBy w' o)(ho:∀g,o=some g->base<=g/\∃cs t fz,w.heap[g]?=some (.cells cs t fz)/\t∈T):Gt base T w w':=
 ⟨h.os,h.tape,h.output,h.size,λi hi hp=>h.block i hi (by
   intro hm;obtain⟨h1,cs,t,fz,h2,h3⟩:=ho i hm.symm
   rcases hp with hp|hp
   .omega
   .exact hp _ _ _ h2 h3)⟩
theorem Gt.gr(h:Gt base T a w)(hb:a.heap.size<=base):Gr [] a w:=⟨h.os,h.tape,h.output,h.size,λi hi _=>h.block i hi (.inl o_)⟩
theorem Bk.gt{cs:Array Value}(h:Bk a g t cs)(k:Gt base T a w)(ht:t∉T):Bk w g t cs:=
 (k.block g h.lt (.inr λc t' fz e=>by unfold Bk at h;rw[h]at e;injection e with e;injection e with _ e;subst e;exact ht)).trans h
theorem Sl.gt{e:TypeId}{size n:Nat}{A:OA}{xs:List Value}(h:Sl a e size A n xs)(k:Gt base T a w)(ht:e∉T):Sl w e size A n xs:=
 ⟨h.1,λhn=>by
   obtain⟨b,off,cs,fz,hA,hb,hc⟩:=h.2 hn
   exact⟨b,off,cs,fz,hA,(k.block b (k6 hb) (.inr λc t' d f=>by rw[hb]at f;injection f with f;injection f with _ f;subst f;exact ht)).trans hb,hc⟩⟩
theorem kk.gt{p:Nat->Prop}{t:ET}(h:kk p a t)(k:Gt base T a w)(ht:226∉T):kk p w t:=by
 induction h with
 |mk t h hc hb _ Z=>exact .mk t (h.gt k ht) hc hb Z
theorem jK.gt{p:Nat->Prop}{t:ST}(h:jK p a t)(k:Gt base T a w)(ht:226∉T)(E:229∉T):jK p w t:=by
 induction h with
 |mk t he hce hbe hes hb hcb te _ hl hcl hbl _ d e=>exact .mk t (he.gt k ht) hce hbe (λu hu=>(hes u hu).gt k ht) (hb.gt k E) hcb te d (hl.gt k E) hcl hbl e
end
theorem nQ{l:List In}(h:i<l.length):iA l i=l[i].op:=by
 unfold iA;rw[Q_ o_];simp[List.getD,h]
theorem j6{l:List In}{n:Int}(h:n<0∨(l.length:Int)<=n):iA l n= -1:=by unfold iA;rw[T_ h]
theorem nc{l:List In}{n:Int}(h0:0<=n)(h1:n<l.length):∃i:Nat,n=i/\∃h:i<l.length,iA l n=l[i].op:=by
 refine⟨n.toNat,o_,o_,?_⟩;exact(ED (iA l) (show n=(n.toNat:Int) by omega)).trans (nQ o_)
theorem k1{l:List In}{n:Int}(b:List In)(h:n<l.length):iA (l++b) n=iA l n:=by
 by_cases h0:0<=n
 .obtain⟨i,rfl,hi,e⟩:=nc h0 h;rw[e,nQ p_,Fh hi]
 .rw[j6 (.inl o_),j6 (.inl o_)]
theorem l9(l:List In)(x:In)(b:List In):iA (l++x::b) l.length=x.op:=by
 rw[nQ s_];simp
def In.oV(x:In)(v:Int):In:=⟨x.op,x.a,x.b,x.c,v⟩
def l6(v:Int)(l:List In)(i:Int):List In:=l.modify i.toNat (In.oV · v)
def lH(v:Int)(l:List In)(is:List Int):List In:=is.foldl (l6 v) l
theorem lA(v:Int)(l:List In)(i:Int):(l6 v l i).length=l.length:=by simp[l6]
theorem i6(v:Int)(is:List Int):∀l:List In,(lH v l is).length=l.length:=by
 induction is with
 |nil=>intro l;rfl
 |cons i is Z=>intro l;exact(Z _).trans (lA v l i)
theorem ua(v:Int)(l:List In)(i:Int)(k:Nat)(hk:k<l.length):(l6 v l i)[k]'(by rw[lA];exact hk)=if i.toNat=k then l[k].oV v else l[k]:=by
 simp only[l6,Fy]
theorem mt(v:Int)(is:List Int):∀(l:List In) (k:Nat) (hk:k<l.length),(lH v l is)[k]'(by rw[i6];exact hk)=if ∃i∈is,i.toNat=k then l[k].oV v else l[k]:=by
 induction is with
 |nil=>intro l k hk;simp[lH]
 |cons i is Z=>
  intro l k hk;have h1:=Z (l6 v l i) k (by rw[lA];exact hk);have e:lH v l (i::is)=lH v (l6 v l i) is:=rfl;simp only[e];rw[h1];rw[ua v l i k hk]
  by_cases h2:i.toNat=k
  .by_cases h3:∃j∈is,j.toNat=k
   .rw[T_ h3,T_ h2,T_ ⟨i,s_,h2⟩]
    rfl
   .rw[Q_ h3,T_ h2,T_ ⟨i,s_,h2⟩]
  .by_cases h3:∃j∈is,j.toNat=k
   .obtain⟨j,hj,cC⟩:=h3;rw[T_ ⟨j,hj,cC⟩,Q_ h2,T_ ⟨j,by simp[hj],cC⟩]
   .rw[Q_ h3,Q_ h2,Q_];rintro⟨j,hj,cC⟩
    rcases L_.1 hj with rfl|hj
    .exact h2 cC
    .exact h3 ⟨j,hj,cC⟩
theorem oe(v:Int)(is:List Int)(l:List In)(n:Int):iA (lH v l is) n=iA l n:=by
 by_cases h:n<0∨(l.length:Int)<=n
 .rw[j6 h,j6 (by rw[i6];exact h)]
 .obtain⟨i,rfl,hi,e⟩:=nc (l:=l) (n:=n) o_ o_;rw[e,nQ (by rw[i6];exact hi),mt v is l i hi];split<;>rfl
def qS(l l':List In):Prop:=l.length<=l'.length/\∀n:Int,n<l.length->iA l' n=iA l n
theorem qS.refl(l:List In):qS l l:=⟨H_ _,λ_ _=>rfl⟩
theorem qS.trans{a b c:List In}(h:qS a b)(k:qS b c):qS a c:=⟨G_ h.1 k.1,λn hn=>(k.2 n (by have:=h.1;omega)).trans (h.2 n hn)⟩
theorem qS.app(l b:List In):qS l (l++b):=⟨by simp,λ_ hn=>k1 b hn⟩
theorem qS.set(v:Int)(l:List In)(is:List Int):qS l (lH v l is):=⟨by rw[i6];exact H_ _,λn _=>oe v is l n⟩
def PF(l:List In)(q:Int)(i:Nat)(x:In):Prop:=
 if x.op=13 then x.a=0/\0<=x.b/\x.b<=2/\iA l ((i:Int)+1)=21/\iA l x.n=21
 else if x.op=11∨x.op=12 then l8 x.a (x.op==12)=true/\x.b=0/\x.c=0/\0<=x.n/\x.n<=q/\iA l x.n≠20/\((i:Int)<x.n∨iA l x.n=21)
 else jS l i x (i5.getD x.op.toNat default)=true
structure mY(l:List In)(q:Int):Prop where
 ne:iA l 0=21
 fit:∀i (h:i<l.length),PF l q i l[i]
 DL:kg l 0=true
theorem mY.pos{l:List In}{q:Int}(h:mY l q):0<l.length:=by
 rcases Fd l.length with e|e
 .have h1:=h.ne;rw[j6 (.inr o_)]at h1;simp at h1
 .exact e
theorem AC{l l':List In}(hk:qS l l')(i:Nat)(x:In)(s:Sh)(h13:x.op≠13)(hs:s.n≠6)(S:s.n≠7)(hi:i<=l.length)(h:jS l i x s=true):jS l' i x s=true:=by
 have B:∀n:Int,iA l n=21->iA l' n=21:=J7;have a:iA l' ((i:Int)-1)=iA l ((i:Int)-1):=hk.2 _ o_;unfold jS at h |-;have e13:(x.op==13)=false:=zu h13;rw[e13]at h |-;simp only[Bool.false_and,Gp]at h |-;rw[Q_ hs,Q_ S]at h |-;rw[a];split at h
 .simp at h
 .rename_i c1;rw[Q_ c1];split at h
  .simp at h
  .rename_i ai;rw[Q_ ai];split at h
   .simp at h
   .rename_i aC;rw[Q_ aC]
    by_cases bL:s.n=8
    .rw[bL]at h |-;simp at h |-
     rcases h with h|h
     .exact .inl h
     .exact .inr (B _ h)
    .rw[Q_ bL]at h |-;exact h
theorem Ed(k:Nat)(h:k<=21):((i5.getD k default).n=6↔k=11∨k=12)/\((i5.getD k default).n=7↔k=13):=by
 have:∀k,k<22->((i5.getD k default).n=6↔k=11∨k=12)/\((i5.getD k default).n=7↔k=13):=d_
 exact this k o_
theorem uk{l:List In}{x:In}{s:Sh}(h:jS l i x s=true):0<=x.op/\x.op<=21:=by
 unfold jS at h;split at h
 .simp at h
 .omega
theorem PF.rng{l:List In}{q:Int}{x:In}(h:PF l q i x):0<=x.op/\x.op<=21:=by
 unfold PF at h;split at h
 .omega
 .split at h
  .omega
  .exact uk h
theorem PF.kp{l l':List In}{q q':Int}{x:In}(hk:qS l l')(hi:i<l.length)(am:q<=q')(hn:q<l.length∨iA l' l.length≠20)(a:q<=l.length)(h:PF l q i x):PF l' q' i x:=by
 have B:∀n:Int,iA l n=21->iA l' n=21:=J7;have hr:=h.rng;unfold PF at h |-;split at h
 .rename_i e;rw[T_ e];exact⟨h.1,h.2.1,h.2.2.1,B _ h.2.2.2.1,B _ h.2.2.2.2⟩
 .rename_i e;rw[Q_ e];split at h
  .rename_i aG;rw[T_ aG];obtain⟨h1,h2,h3,au,aq,aU,bG⟩:=h;refine⟨h1,h2,h3,au,o_,?_,bG.imp id (B _)⟩
   by_cases ag:x.n<l.length
   .rw[hk.2 _ ag];exact aU
   .have bQ:x.n=l.length:=o_;rw[bQ];exact hn.resolve_left o_
  .rename_i aG;rw[Q_ aG];have hs:=Ed x.op.toNat o_;exact AC hk i x _ e (λaU=>aG (ov (hs.1.1 aU))) (λbG=>e (ov (hs.2.1 bG))) o_ h
theorem w_(l b:List In):∀m:Int,kg (l++b) m=(kg l m&&kg b (m+jG l)):=by
 induction l with
 |nil=>intro m;simp[kg,jG]
 |cons x l Z=>
  intro m
  by_cases hx:x.op=21
  .have hm:jG (x::l)=jG l+1:=by simp[jG,hx]
   simp only[F8,kg,hx,if_true,Z,hm,Bool.and_assoc];rw[show m+1+jG l=m+(jG l+1) by omega]
  .have hm:jG (x::l)=jG l:=by simp[jG,hx]
   simp only[F8,kg,hx,if_false,Z,hm]
theorem q7(l b:List In):jG (l++b)=jG l+jG b:=by simp[jG]
theorem mY.app{l:List In}{q:Int}(h:mY l q)(b:List In)(am:q<l.length∨(q=l.length/\∃k t,b=k::t/\k.op≠20))(q':Int)(a:q<=q')
 (hf:∀j (hj:j<b.length),PF (l++b) q' (l.length+j) b[j]) (hm:kg b (jG l)=true):mY (l++b) q':=by
 have bM:=qS.app l b;refine⟨?_,λi hi=>?_,?_⟩
 .rw[k1 b (ov h.pos)];exact h.ne
 .by_cases ag:i<l.length
  .rw[Fh ag];refine(h.fit i ag).kp bM ag a ?_ (by rcases am with h|h<;>omega)
   rcases am with h1|⟨_,k,t,rfl,h2⟩
   .exact .inl h1
   .right;rw[l9];exact h2
  .rw[Fq o_]
   have:=hf (i-l.length) (by rw[J_]at hi;omega)
   rwa [show l.length+(i-l.length)=i by omega]at this
 .rw[w_,h.DL,Int.zero_add,hm]
  rfl
theorem mY.q{l:List In}{q q':Int}(h:mY l q)(am:q<=q')(a:q<=l.length):mY l q':=by
 refine⟨h.ne,λi hi=>(h.fit i hi).kp (qS.refl l) hi am ?_ a,h.DL⟩;right;rw[j6 (.inr (E9 _))]
 decide
theorem qD:∀(l l':List In),l.length=l'.length->(∀i (h:i<l.length) (j:i<l'.length),l[i].op=l'[i].op/\(l[i].op=21->l[i].n=l'[i].n))->∀m,kg l m=kg l' m:=by
 intro l
 induction l with
 |nil=>
  intro l' hl _ m
  have:l'=[]:=EP hl.symm
  subst this
  rfl
 |cons x l Z=>
  intro l' hl h m
  cases l' with
  |nil=>simp at hl
  |cons y l'=>
   have h0:=h 0 s_ s_;simp only[Fu]at h0;have a:=Z l' (zu hl) (λi h1 h2=>h (i+1) p_ p_)
   by_cases hx:x.op=21
   .have hy:y.op=21:=by rw[<-h0.1];exact hx
    simp only[kg,T_ hx,T_ hy,a,h0.2 hx]
   .have hy:¬y.op=21:=by rw[<-h0.1];exact hx
    simp only[kg,Q_ hx,Q_ hy,a]
theorem rG(l l':List In)(hl:l.length=l'.length)(h:∀i (h:i<l.length) (j:i<l'.length),l[i].op=l'[i].op):jG l=jG l':=by
 have e:l.map In.op=l'.map In.op:=by
  refine F7 (zu hl) λi h1 h2=>?_
  simp only[FR];exact h i (zu h1) (zu h2)
 have B:∀l:List In,jG l=((l.map In.op).filter (· ==21)).length:=by
  intro l;simp[jG,List.filter_map,Function.comp_def]
 rw[B,B,e]
theorem mY.Bo{l:List In}{q:Int}(h:mY l q)(is:List Int)(v:Int)(q':Int)(am:q<=q')(a:q<=l.length)
 (hi:∀i (h:i<l.length),(∃j∈is,j.toNat=i)->l[i].op≠21/\PF l q' i (l[i].oV v)):mY (lH v l is) q':=by
 have iM:=i6 v is l;have aq:=oe v is l
 have b:∀i x,PF l q' i x->PF (lH v l is) q' i x:=by
  intro i x hx;unfold PF at hx |-;unfold jS at hx |-;simp only[aq];exact hx
 refine⟨by rw[aq];exact h.ne,λi aE=>?_,?_⟩
 .have aS:i<l.length:=by rw[<-iM];exact aE
  rw[mt v is l i aS];split
  .rename_i hj;exact b i _ (hi i aS hj).2
  .exact b i _ (((h.q am a).fit i aS))
 .rw[qD (lH v l is) l iM (λi h1 h2=>?_)]
  .exact h.DL
  .rw[mt v is l i h2];split
   .rename_i hj;exact⟨rfl,λN=>EK N (hi i h2 hj).1⟩
   .exact⟨rfl,λ_=>rfl⟩
structure oU(l:List In)(hF:Int)(cs:List (Int × Int))(ats:List (List Int))(q:Int):Prop where
 code:mY l q
 wL:hF=jG l
 cs1:∀p∈cs,0<=p.1/\p.1<l.length/\iA l p.1=13/\1<=p.2/\p.2<=2
 cs2:∀i (h:i<l.length),l[i].op=13->∃f,((i:Int),f)∈cs
 pP:∀a∈ats,∀i∈a,0<=i/\i<l.length/\iA l i=17
 q:q<=l.length
 zh:cs.length<=l.length
 rT:∀a∈ats,a.length<=l.length
section
variable{l:List In}{hF:Int}{cs:List (Int × Int)}{ats:List (List Int)}{q:Int}
theorem oU.put(h:oU l hF cs ats q)(x:In)(h13:x.op≠13)(N:x.op≠21)(d:x.op≠20∨q<l.length)(hf:PF (l++[x]) l.length l.length x):oU (l++[x]) hF cs ats l.length where
 code:=h.code.app [x] (by
  rcases d with d|d
  .rcases GN q l.length with am|am
   .exact .inl am
   .exact .inr ⟨ov h.q,x,[],rfl,d⟩
  .exact .inl d) _ h.q (λj hj=>by
   have:j=0:=zu hj
   subst this
   exact hf) (by simp[kg,N])
 wL:=by rw[q7,h.wL];simp[jG,N]
 cs1:=λp hp=>by
  exact KK
 cs2:=λi hi e=>by
  by_cases ag:i<l.length
  .rw[Fh ag]at e;exact h.cs2 i ag e
  .rw[Fq o_]at e;simp at e;exact EK e h13
 pP:=λa ha i hi=>by
  exact KN
 q:=by simp;omega
 zh:=by have:=h.zh;simp;omega
 rT:=λa ha=>by have:=h.rT a ha;simp;omega
def lE(x:In):Bool:=jS [] 0 x (i5.getD x.op.toNat default)&&(x.op !=11)&&(x.op !=12)&&(x.op !=13)&&(x.op !=20)&&(x.op !=21)&&(x.op !=17||x.n==0)
theorem PF.simp{l:List In}{q:Int}{x:In}(h:lE x=true):PF l q i x:=by
 unfold lE at h;simp only[ES,bne_iff_ne,ne_eq]at h;obtain⟨⟨⟨⟨⟨⟨hf,A⟩,cy⟩,h13⟩,d⟩,N⟩,g⟩:=h;have hr:=uk hf;have hs:=Ed x.op.toNat o_
 have aU:¬(i5.getD x.op.toNat default).n=6:=λe=>by have:=hs.1.1 e;omega
 have bG:¬(i5.getD x.op.toNat default).n=7:=λe=>by have:=hs.2.1 e;omega
 have bL:(i5.getD x.op.toNat default).n=8->x.op=17:=by
  have:∀k,k<22->(i5.getD k default).n=8->k=17:=d_
  intro e
  have:=this x.op.toNat o_ e
  omega
 unfold PF;rw[Q_ h13,Q_ o_];generalize i5.getD x.op.toNat default=s at*;unfold jS at hf |-;have e13:(x.op==13)=false:=zu h13;have a:(x.op !=20)=true:=zu d;rw[e13,a]at hf |-;simp only[Bool.false_and,Gp,G6]at hf |-;rw[Q_ aU,Q_ bG]at hf |-
 by_cases dX:s.n=8
 .have b:(x.n==0)=true:=by
   have bl:=bL dX;rw[bl]at g
   simpa using g
  rw[b]at hf |-
  simpa using hf
 .rw[Q_ dX]at hf |-;exact hf
theorem oU.simp(h:oU l hF cs ats q){x:In}(hx:lE x=true):oU (l++[x]) hF cs ats l.length:=by
 have f:=hx;unfold lE at f;simp only[ES,bne_iff_ne,ne_eq]at f;obtain⟨⟨⟨⟨⟨⟨_,_⟩,_⟩,h13⟩,d⟩,N⟩,_⟩:=f;exact h.put x h13 N (.inl d) (PF.simp hx)
theorem oU.mark(h:oU l hF cs ats q):oU (l++[⟨21,0,0,0,hF⟩]) (hF+1) cs ats l.length where
 code:=h.code.app [⟨21,0,0,0,hF⟩] (by
  rcases GN q l.length with am|am
  .exact .inl am
  .exact .inr ⟨ov h.q,_,[],rfl,s_⟩) _ h.q (λj hj=>by
   have:j=0:=zu hj
   subst this
   show PF _ _ _ (⟨21,0,0,0,hF⟩:In)
   unfold PF;rw[Q_ s_,Q_ s_]
   simp[jS,i5,l8]) (by simp[kg,h.wL])
 wL:=by rw[q7,h.wL];simp[jG]
 cs1:=λp hp=>by
  exact KK
 cs2:=λi hi e=>by
  by_cases ag:i<l.length
  .rw[Fh ag]at e;exact h.cs2 i ag e
  .rw[Fq o_]at e;simp at e
 pP:=λa ha i hi=>by
  exact KN
 q:=by simp;omega
 zh:=by have:=h.zh;simp;omega
 rT:=λa ha=>by have:=h.rT a ha;simp;omega
theorem oU.jump(h:oU l hF cs ats q)(o n:Int)(ho:o=11∨o=12)(hn:iA l n=21):oU (l++[⟨o,0,0,0,n⟩]) hF cs ats l.length:=by
 have hn1:0<=n/\n<l.length:=by
  by_cases hc:n<0∨(l.length:Int)<=n
  .rw[j6 hc]at hn;simp at hn
  .omega
 refine h.put _ p_ p_ (.inl p_) ?_;unfold PF;rw[Q_ p_,T_ (zu ho)];refine⟨by simp[l8],rfl,rfl,hn1.1,p_,?_,.inr ?_⟩
 .rw[k1 _ hn1.2,hn]
  decide
 .rw[k1 _ hn1.2,hn]
theorem oU.call(h:oU l hF cs ats q)(b f:Int)(t:0<=b)(hb:b<=2)(C:1<=f)(d:f<=2):oU (l++[⟨13,0,b,0,0⟩,⟨21,0,0,0,hF⟩]) (hF+1) (cs++[((l.length:Int),f)]) ats l.length where
 code:=h.code.app _ (by
  rcases GN q l.length with am|am
  .exact .inl am
  .exact .inr ⟨ov h.q,_,_,rfl,s_⟩) _ h.q (λj hj=>by
   have hp:=h.code.pos
   rcases(by simp at hj;omega:j=0∨j=1)with rfl|rfl
   .show PF _ _ _ (⟨13,0,b,0,0⟩:In)
    unfold PF;rw[T_ r_];refine⟨rfl,t,hb,?_,?_⟩
    .have:(((l.length+0:Nat):Int)+1)=((l.length+1:Nat):Int):=o_
     rw[this,nQ s_,Fq o_];simp
    .show iA _ 0=21
     rw[k1 _ o_];exact h.code.ne
   .show PF _ _ _ (⟨21,0,0,0,hF⟩:In)
    unfold PF;rw[Q_ s_,Q_ s_]
    simp[jS,i5,l8]) (by simp[kg,h.wL])
 wL:=by rw[q7,h.wL];simp[jG]
 cs1:=λp hp=>by
  rcases X_.1 hp with hp|hp
  .exact KK
  .have:p=((l.length:Int),f):=zu hp
   subst this;exact⟨s_,p_,l9 _ _ _,C,d⟩
 cs2:=λi hi e=>by
  by_cases ag:i<l.length
  .rw[Fh ag]at e;obtain⟨s,D⟩:=h.cs2 i ag e;exact⟨s,E4 _ D⟩
  .rw[Fq o_]at e
   have k:i=l.length∨i=l.length+1:=by simp at hi;omega
   rcases k with rfl|rfl
   .exact⟨f,s_⟩
   .simp at e
 pP:=λa ha i hi=>by
  exact KN
 q:=by simp;omega
 zh:=by have:=h.zh;simp;omega
 rT:=λa ha=>by have:=h.rT a ha;simp;omega
theorem oU.ask(h:oU l hF cs ats q)(am:q<l.length)(hm:iA l ((l.length:Int)-1)=21)(n:Int)(h0:0<=n)(h1:n<64):oU (l++[⟨20,0,0,0,n⟩]) hF cs ats l.length:=by
 refine h.put _ s_ s_ (.inr am) ?_;unfold PF;rw[Q_ s_,Q_ s_]
 have e:iA (l++[(⟨20,0,0,0,n⟩:In)]) ((l.length:Int)-1)=21:=by rw[k1 _ o_];exact hm
 simp[jS,i5,l8,e];omega
theorem oU.Bo(h:oU l hF cs ats q)(is:List Int)(v:Int)(q':Int)(am:q<=q')(dy:q'<=l.length)
 (hi:∀i (h:i<l.length),(∃j∈is,j.toNat=i)->l[i].op≠21/\PF l q' i (l[i].oV v)):oU (lH v l is) hF cs ats q' where
 code:=h.code.Bo is v q' am h.q hi
 wL:=by
  rw[h.wL];refine(rG _ _ (i6 v is l) λi h1 h2=>?_).symm;rw[mt v is l i h2];split<;>rfl
 cs1:=λp hp=>by
  obtain⟨h1,h2,h3,au⟩:=h.cs1 p hp;exact⟨h1,by rw[i6];exact h2,by rw[oe];exact h3,au⟩
 cs2:=λi hi e=>by
  have aS:=by rw[i6]at hi;exact hi
  rw[mt v is l i aS]at e;refine h.cs2 i aS ?_;split at e<;>exact e
 pP:=λa ha i hi=>by
  obtain⟨h1,h2,h3⟩:=h.pP a ha i hi;exact⟨h1,by rw[i6];exact h2,by rw[oe];exact h3⟩
 q:=by rw[i6];exact dy
 zh:=by rw[i6];exact h.zh
 rT:=λa ha=>by rw[i6];exact h.rT a ha
theorem oU.here(h:oU l hF cs ats q)(e:Int)(he:iA l e=11∨iA l e=12):oU (lH l.length l [e]) hF cs ats l.length:=by
 have a:0<=e/\e<l.length:=by
  by_cases hc:e<0∨(l.length:Int)<=e
  .rw[j6 hc]at he;simp at he
  .omega
 refine h.Bo [e] _ _ h.q (E9 _) λi hi hj=>?_
 obtain⟨j,hj,rfl⟩:=hj
 have:j=e:=zu hj
 subst this;obtain⟨i,rfl,k,Q⟩:=nc a.1 a.2;rw[Q]at he;have hp:=h.code.fit i k;have m:l[((i:Int).toNat)].op=11∨l[((i:Int).toNat)].op=12:=he;refine⟨o_,?_⟩;unfold PF at hp |-;rw[Q_ o_,T_ o_]at hp;have aM:(l[((i:Int).toNat)].oV l.length).op=l[i].op:=rfl;rw[aM,Q_ o_,T_ o_];refine⟨hp.1,hp.2.1,hp.2.2.1,by show(0:Int)<=(l.length:Int);omega,E9 _,?_,.inl ?_⟩
 .show iA l l.length≠20
  rw[j6 (.inr (E9 _))]
  decide
 .show((i:Int).toNat:Int)<(l.length:Int)
  simpa using k
theorem oU.td(h:oU l hF cs ats q)(a:List Int)(ha:∀i∈a,iA l i=17):oU (lH l.length l a++[⟨21,0,0,0,hF⟩]) (hF+1) cs ats l.length:=by
 have hm:=h.mark
 have hl:(lH (l.length:Int) l a)++[(⟨21,0,0,0,hF⟩:In)]=lH l.length (l++[⟨21,0,0,0,hF⟩]) a:=by
  refine F7 (by simp[i6]) λi h1 h2=>?_
  have bM:=by rw[i6]at h2;exact h2
  rw[mt _ _ _ i bM]
  by_cases ag:i<l.length
  .rw[Fh (by rw[i6];exact ag),mt _ _ _ i ag,Fh ag]
  .rw[Fq (by rw[i6];omega),Fq o_]
   have m:¬∃j∈a,j.toNat=i:=by
    rintro⟨j,hj,s⟩
    have:=ha j hj
    have hp:=h.code.pos;rw[j6 (.inr o_)]at this;simp at this
   rw[Q_ m];simp only[i6]
 rw[hl]
 refine hm.Bo a _ _ (E9 _) p_ λi hi hj=>?_
 obtain⟨j,hj,rfl⟩:=hj;have aq:=ha j hj
 have e:0<=j/\j<l.length:=by
  by_cases hc:j<0∨(l.length:Int)<=j
  .rw[j6 hc]at aq;simp at aq
  .omega
 obtain⟨i,rfl,k,Q⟩:=nc e.1 e.2;have g:((i:Int)).toNat=i:=s_
 have hg:(l++[(⟨21,0,0,0,hF⟩:In)])[((i:Int)).toNat]=l[i]:=by
  simp only[g];exact Fh k
 rw[hg]
 have bl:l[i].op=17:=by rw[<-Q];exact aq
 refine⟨o_,?_⟩;have hp:=h.code.fit i k;unfold PF at hp |-;rw[Q_ o_,Q_ o_]at hp;have aM:(l[i].oV l.length).op=l[i].op:=rfl;rw[aM,Q_ o_,Q_ o_];rw[bl]at hp |-;have z:i5.getD (17:Int).toNat default=⟨false,false,false,8⟩:=rfl;rw[z]at hp |-;unfold jS at hp |-;rw[aM]
 have hn:iA (l++[(⟨21,0,0,0,hF⟩:In)]) (l[i].oV l.length).n=21:=by
  show iA (l++[(⟨21,0,0,0,hF⟩:In)]) l.length=21
  exact l9 l ⟨21,0,0,0,hF⟩ []
 rw[hn];have d:(l[i].oV l.length).a=l[i].a:=rfl;have o:(l[i].oV l.length).b=l[i].b:=rfl;have f:(l[i].oV l.length).c=l[i].c:=rfl;rw[d,o,f,bl];rw[bl]at hp;simp at hp |-;exact hp.1
end
def j5(es fs:List Int)(l:List In)(p:Int × Int):List In:=l.modify p.1.toNat λx=>⟨x.op,x.a,x.b,fs.getD p.2.toNat 0,es.getD p.2.toNat 0⟩
theorem p9(es fs:List Int)(l:List In)(p:Int × Int):(j5 es fs l p).length=l.length:=by simp[j5]
theorem oJ(es fs:List Int)(cs:List (Int × Int)):∀l:List In,(cs.foldl (j5 es fs) l).length=l.length:=by
 induction cs with
 |nil=>intro l;rfl
 |cons p cs Z=>intro l;exact(Z _).trans (p9 es fs l p)
theorem oK(es fs:List Int)(cs:List (Int × Int)):∀(l:List In) (k:Nat) (hk:k<l.length),∃c n,(cs.foldl (j5 es fs) l)[k]'(by rw[oJ];exact hk)=⟨l[k].op,l[k].a,l[k].b,c,n⟩/\
 ((c=l[k].c/\n=l[k].n/\∀p∈cs,p.1.toNat≠k)∨∃p∈cs,p.1.toNat=k/\c=fs.getD p.2.toNat 0/\n=es.getD p.2.toNat 0):=by
 induction cs with
 |nil=>intro l k hk;exact⟨_,_,rfl,.inl ⟨rfl,rfl,λp hp=>by cases hp⟩⟩
 |cons p cs Z=>
  intro l k hk;obtain⟨c,n,h1,h2⟩:=Z (j5 es fs l p) k (by rw[p9];exact hk)
  have hg:(j5 es fs l p)[k]'(by rw[p9];exact hk)=if p.1.toNat=k then⟨l[k].op,l[k].a,l[k].b,fs.getD p.2.toNat 0,es.getD p.2.toNat 0⟩ else l[k]:=by
   simp only[j5,Fy]
  rw[hg]at h1 h2;refine⟨c,n,?_,?_⟩
  .refine h1.trans ?_;split<;>rfl
  .rcases h2 with⟨rfl,rfl,h3⟩|⟨o,f,h3⟩
   .by_cases he:p.1.toNat=k
    .rw[T_ he];exact .inr ⟨p,s_,he,rfl,rfl⟩
    .rw[Q_ he];refine .inl ⟨rfl,rfl,λo f=>?_⟩
     rcases L_.1 f with rfl|f
     .exact he
     .exact h3 o f
   .exact .inr ⟨o,by simp[f],h3⟩
theorem xt{l:List In}{hF hI q:Int}{cs:List (Int × Int)}{ats:List (List Int)}{es fs:List Int}(h:oU l hF cs ats q)(am:q<l.length)(cu:iA l ((l.length:Int)-1)=14)(hl:l.length<=2048)
 (he:∀k,1<=k->k<=2->iA l (es.getD k 0)=21) (hf:∀k,1<=k->k<=2->2<=fs.getD k 0/\fs.getD k 0<=64) (M:0<=hI) (hv:hI<=64):ic (cs.foldl (j5 es fs) l) hI hF=true:=by
 have L:=h.code.pos;have iM:=oJ es fs cs l
 have aq:∀n,iA (cs.foldl (j5 es fs) l) n=iA l n:=by
  intro n
  by_cases hc:n<0∨(l.length:Int)<=n
  .rw[j6 hc,j6 (by rw[iM];exact hc)]
  .obtain⟨i,rfl,hi,e⟩:=nc (l:=l) (n:=n) o_ o_;obtain⟨c,n',h1,_⟩:=oK es fs cs l i hi;rw[e,nQ (by rw[iM];exact hi),h1]
 have bA:∀n:Int,0<=n->n<l.length->0<=iA l n:=by
  intro n h0 h1;obtain⟨i,rfl,hi,e⟩:=nc h0 h1;rw[e];exact(h.code.fit i hi).rng.1
 have g:∀k,k<l.length->∀p∈cs,p.1.toNat=k->iA l k=13:=by
  intro k hk p hp aH;obtain⟨h1,h2,h3,_⟩:=h.cs1 p hp
  have:p.1=(k:Int):=o_
  rw[<-this];exact h3
 have aM:∀i,i<l.length->kU (cs.foldl (j5 es fs) l) i=true:=by
  intro i hi;obtain⟨c,n,h1,h2⟩:=oK es fs cs l i hi
  have V:(cs.foldl (j5 es fs) l).getD i default=⟨l[i].op,l[i].a,l[i].b,c,n⟩:=by
   rw[<-h1];simp[List.getD,iM,hi]
  have hx:=h.code.fit i hi;have hr:=hx.rng
  have j:kU (cs.foldl (j5 es fs) l) i=jS (cs.foldl (j5 es fs) l) i ⟨l[i].op,l[i].a,l[i].b,c,n⟩ (i5.getD l[i].op.toNat default):=by unfold kU;rw[V]
  rw[j];clear j;clear h1 V;generalize hL:cs.foldl (j5 es fs) l=l' at*;unfold PF at hx
  by_cases e13:l[i].op=13
  .rw[T_ e13]at hx;obtain⟨ha,t,hb,hm,hn0⟩:=hx
   have A:∃p∈cs,p.1.toNat=i/\c=fs.getD p.2.toNat 0/\n=es.getD p.2.toNat 0:=by
    rcases h2 with⟨_,_,h3⟩|h3
    .obtain⟨f,D⟩:=h.cs2 i hi e13;exact EK (show((i:Int)).toNat=i by simp) (h3 _ D)
    .exact h3
   obtain⟨p,hp,_,rfl,rfl⟩:=A;obtain⟨_,_,_,bE,aS⟩:=h.cs1 p hp;have D:=hf p.2.toNat o_ o_;have m:=he p.2.toNat o_ o_;generalize fs.getD p.2.toNat 0=cM at*;generalize es.getD p.2.toNat 0=w at*
   have dD:iA l' ((i:Int)+1)=21:=by rw[aq];exact hm
   have z:i5.getD (13:Int).toNat default=⟨false,false,false,7⟩:=rfl;simp only[e13,ha,z];simp[jS,l8,dD,aq,m];omega
  .have aN:c=l[i].c/\n=l[i].n:=by
    rcases h2 with⟨h3,au,_⟩|⟨p,hp,h3,_⟩
    .exact⟨h3,au⟩
    .have:=g i hi p hp h3
     rw[nQ hi]at this;exact EK this e13
   obtain⟨rfl,rfl⟩:=aN;rw[Q_ e13]at hx
   have u:∀(x:In) (s:Sh),jS l' i x s=jS l i x s:=by intro x s;unfold jS;simp only[aq]
   rw[u]
   show jS l i l[i] _=true
   by_cases aG:l[i].op=11∨l[i].op=12
   .rw[T_ aG]at hx;obtain⟨bo,a2,y,o,d,aK,v⟩:=hx;have h0:=bA l[i].n o o_
    show jS l i l[i] (i5.getD l[i].op.toNat default)=true
    generalize l[i]=x at*;obtain⟨op,a,b,cc,nn⟩:=x;simp only at bo a2 y o d aK v h0 aG |-;subst a2;subst y
    rcases aG with rfl|rfl
    .have z:i5.getD (11:Int).toNat default=⟨false,false,false,6⟩:=rfl;rw[z];simp[jS,l8]at bo |-;exact⟨bo,⟨h0,aK⟩,v⟩
    .have z:i5.getD (12:Int).toNat default=⟨true,false,false,6⟩:=rfl;rw[z];simp[jS,l8]at bo |-;exact⟨o_,⟨h0,aK⟩,v⟩
   .rw[Q_ aG]at hx;exact hx
 have r:kg (cs.foldl (j5 es fs) l) 0=kg l 0/\jG (cs.foldl (j5 es fs) l)=jG l:=by
  constructor
  .refine qD _ _ iM (λi h1 h2=>?_) 0;obtain⟨c,n,h3,au⟩:=oK es fs cs l i h2;rw[h3];refine⟨rfl,λN=>?_⟩
   rcases au with⟨_,au,_⟩|⟨p,hp,au,_⟩
   .exact au
   .have:=g i h2 p hp au
    rw[nQ h2]at this;have C:l[i].op=21:=N;omega
  .refine rG _ _ iM λi h1 h2=>?_
   obtain⟨c,n,h3,au⟩:=oK es fs cs l i h2;rw[h3]
 unfold ic;rw[aq,aq,r.1,r.2,iM,h.code.ne,cu,h.code.DL,h.wL]
 have B:nS (cs.foldl (j5 es fs) l)=true:=by
  unfold nS;rw[EV];intro i hi;exact aM i (by rw[iM]at hi;simpa using hi)
 rw[B];simp;omega
structure iU where
 pv:Value
 vs:List ByteArray
 l:List In
 hF:Int
 es:List Int
 fs:List Int
 cs:List (Int × Int)
 hidden:Int
 most:Int
 ats:List (Nat × List Int)
 rts:List (Nat × List Int)
def iU.put(v:iU)(x:In):iU:={v with l:=v.l++[x]}
def iU.mark(v:iU):iU:={v with l:=v.l++[⟨21,0,0,0,v.hF⟩],hF:=v.hF+1}
def iU.here(v:iU)(is:List Int):iU:={v with l:=lH v.l.length v.l is}
def iU.more(v:iU):iU:={v with hidden:=v.hidden+1,most:=max v.most (v.hidden+1)}
def iU.less(v:iU):iU:={v with hidden:=v.hidden-1}
def iU.call(v:iU)(b f:Int):iU:={v with l:=v.l++[⟨13,0,b,0,0⟩],cs:=v.cs++[((v.l.length:Int),f)]}
def iU.push(v:iU)(x:Nat):iU:={v with ats:=v.ats++[(x,[])]}
def iU.pop(v:iU):iU:={v with ats:=v.ats.dropLast,rts:=v.rts++v.ats.getLast?.toList}
def iU.drop(v:iU)(r:List (Nat × List Int)):iU:={v with rts:=r}
def qL(i:Int):List (Nat × List Int)->List (Nat × List Int)
 |[]=>[]
 |[a]=>[(a.1,a.2++[i])]
 |a::b::l=>a::qL i (b::l)
def iU.protect(v:iU):iU:={v with l:=v.l++[⟨17,0,0,0,0⟩],ats:=qL v.l.length v.ats}
structure GK(v:iU)(q:Int)(D:Nat):Prop where
 ok:oU v.l v.hF v.cs (v.ats.map (·.2)) q
 h0:0<=v.hidden
 hD:v.hidden+D<=10
 m0:0<=v.most
 m1:v.most<=10
 v0:2<=v.vs.length
 v1:v.vs.length<=9
 al:v.ats.length+D<=20
structure GP(v v':iU)(n:Nat):Prop where
 pv:v'.pv=v.pv
 vs:v'.vs=v.vs
 es:v'.es=v.es
 fs:v'.fs=v.fs
 hid:v'.hidden=v.hidden
 rt:v'.rts=v.rts
 pP:v'.ats.map (·.1)=v.ats.map (·.1)
 len:v'.l.length<=v.l.length+n
 kp:qS v.l v'.l
section
variable{v v' v'':iU}{q q':Int}{D n m:Nat}
theorem GP.refl(v:iU):GP v v 0:=⟨rfl,rfl,rfl,rfl,rfl,rfl,rfl,H_ _,qS.refl _⟩
theorem GP.trans(h:GP v v' n)(k:GP v' v'' m):GP v v'' (n+m):=⟨k.pv.trans h.pv,k.vs.trans h.vs,k.es.trans h.es,k.fs.trans h.fs,k.hid.trans h.hid,k.rt.trans h.rt,k.pP.trans h.pP,by have:=h.len;have:=k.len;omega,h.kp.trans k.kp⟩
theorem GP.le(h:GP v v' n)(hn:n<=m):GP v v' m:={h with len:=G_ h.len o_}
theorem GK.le{E:Nat}(h:GK v q D)(hE:E<=D):GK v q E:={h with hD:=by have:=h.hD;omega,al:=by have:=h.al;omega}
theorem GP.rT(h:GP v v' n):v'.ats.length=v.ats.length:=by have:=ED List.length h.pP;simpa using this
theorem GK.of(h:GK v q D)(k:GP v v' n)(hk:GK v' q' 0):GK v' q' D:={hk with hD:=by rw[k.hid];exact h.hD,al:=by rw[k.rT];exact h.al}
theorem GK.simp(h:GK v q D){x:In}(hx:lE x=true):GK (v.put x) v.l.length D:={h with ok:=h.ok.simp hx}
theorem GP.put(v:iU)(x:In):GP v (v.put x) 1:=⟨rfl,rfl,rfl,rfl,rfl,rfl,rfl,by simp[iU.put],qS.app _ _⟩
theorem GK.mark(h:GK v q D):GK v.mark v.l.length D:={h with ok:=h.ok.mark}
theorem GP.mark(v:iU):GP v v.mark 1:=⟨rfl,rfl,rfl,rfl,rfl,rfl,rfl,by simp[iU.mark],qS.app _ _⟩
theorem GK.jump(h:GK v q D)(o n:Int)(ho:o=11∨o=12)(hn:iA v.l n=21):GK (v.put ⟨o,0,0,0,n⟩) v.l.length D:={h with ok:=h.ok.jump o n ho hn}
theorem GK.vL(h:GK v q D)(o:Int)(ho:o=11∨o=12):GK (v.put ⟨o,0,0,0,0⟩) v.l.length D:=h.jump o 0 ho h.ok.code.ne
theorem GK.here(h:GK v q D)(e:Int)(he:iA v.l e=11∨iA v.l e=12):GK (v.here [e]) v.l.length D:={h with ok:=h.ok.here e he}
theorem GK.ask(h:GK v q D)(am:q<v.l.length)(hm:iA v.l ((v.l.length:Int)-1)=21)(n:Int)(h0:0<=n)(h1:n<64):GK (v.put ⟨20,0,0,0,n⟩) v.l.length D:={h with ok:=h.ok.ask am hm n h0 h1}
theorem GP.here(v:iU)(is:List Int):GP v (v.here is) 0:=⟨rfl,rfl,rfl,rfl,rfl,rfl,rfl,by simp[iU.here,i6],qS.set _ _ _⟩
theorem GK.td(h:GK v q D)(a:List Int)(ha:∀i∈a,iA v.l i=17):GK (v.here a).mark v.l.length D:={h with ok:=h.ok.td a ha}
theorem GK.vY(h:GK v q D)(b f:Int)(t:0<=b)(hb:b<=2)(C:1<=f)(d:f<=2):GK (v.call b f).mark v.l.length D:=by
 refine{h with ok:=?_}
 .have:=h.ok.call b f t hb C d
  show oU ((v.l++[_])++[_]) _ _ _ _
  rw[Fc];exact this
theorem GP.call(v:iU)(b f:Int):GP v (v.call b f) 1:=⟨rfl,rfl,rfl,rfl,rfl,rfl,rfl,by simp[iU.call],qS.app _ _⟩
theorem ol(v:iU)(x:In):iA (v.put x).l v.l.length=x.op:=l9 _ _ _
theorem GK.more(h:GK v q (D+1)):GK v.more q D:=
 {ok:=h.ok,h0:=by have:=h.h0;show 0<=v.hidden+1;omega,hD:=by have:=h.hD;show v.hidden+1+D<=10;omega,m0:=by have:=h.m0;show 0<=max v.most (v.hidden+1);omega,
  m1:=by have:=h.m1;have:=h.hD;show max v.most (v.hidden+1)<=10;omega,v0:=h.v0,v1:=h.v1,al:=by have:=h.al;show v.ats.length+D<=20;omega}
theorem rj(i:Int):∀l:List (Nat × List Int),(qL i l).map (·.1)=l.map (·.1)
 |[]=>rfl
 |[a]=>rfl
 |a::b::l=>by simp only[qL,Fg];rw[rj i (b::l)];rfl
theorem ri(i:Int):∀(l:List (Nat × List Int)) (a:Nat × List Int),a∈qL i l->a∈l∨∃b∈l,a=(b.1,b.2++[i])
 |[],a,h=>by cases h
 |[b],a,h=>by
  have:a=(b.1,b.2++[i]):=by simpa[qL]using h
  exact .inr ⟨b,s_,this⟩
 |b::c::l,a,h=>by
  rcases L_.1 h with rfl|h
  .exact .inl s_
  .rcases ri i (c::l) a h with h|⟨d,h1,h2⟩
   .exact .inl (EQ _ h)
   .exact .inr ⟨d,EQ _ h1,h2⟩
theorem GK.protect(h:GK v q D):GK v.protect v.l.length D:=by
 refine{h with ok:=?_,al:=by have e:v.protect.ats.length=v.ats.length:=(show(qL v.l.length v.ats).length=_ by have:=ED List.length (rj v.l.length v.ats);simpa using this);rw[e];exact h.al}
 .have hx:lE ⟨17,0,0,0,0⟩=true:=d_;have hp:=h.ok.simp hx;refine{hp with pP:=?_,rT:=?_}
  .intro a ha i hi;obtain⟨p,f,rfl⟩:=EM.1 ha
   rcases ri _ _ _ f with h1|⟨b,h1,rfl⟩
   .exact hp.pP p.2 (EM.2 ⟨p,h1,rfl⟩) i hi
   .rcases X_.1 hi with hi|hi
    .exact hp.pP b.2 (EM.2 ⟨b,h1,rfl⟩) i hi
    .have:i=(v.l.length:Int):=zu hi
     subst this;exact⟨o_,by simp[iU.protect];omega,l9 _ _ _⟩
  .intro a ha;obtain⟨p,f,rfl⟩:=EM.1 ha
   rcases ri _ _ _ f with h1|⟨b,h1,rfl⟩
   .exact hp.rT p.2 (EM.2 ⟨p,h1,rfl⟩)
   .have:=h.ok.rT b.2 (EM.2 ⟨b,h1,rfl⟩)
    simp[iU.protect];exact this
theorem GP.protect(v:iU):GP v v.protect 1:=⟨rfl,rfl,rfl,rfl,rfl,rfl,rj _ _,by simp[iU.protect],qS.app _ _⟩
theorem GK.push(h:GK v q (D+1))(x:Nat):GK (v.push x) q D:=by
 refine{h with ok:=?_,hD:=by have:=h.hD;show v.hidden+D<=10;omega,al:=by have:=h.al;simp[iU.push];omega}
 .refine{h.ok with pP:=?_,rT:=?_}
  .intro a ha i hi
   have d:a∈v.ats.map (·.2)∨a=[]:=by simpa[iU.push]using ha
   rcases d with ha|rfl
   .exact h.ok.pP a ha i hi
   .cases hi
  .intro a ha
   have d:a∈v.ats.map (·.2)∨a=[]:=by simpa[iU.push]using ha
   rcases d with ha|rfl
   .exact h.ok.rT a ha
   .simp
theorem oU.pop{l:List In}{hF:Int}{cs:List (Int × Int)}{a b:List (List Int)}(h:oU l hF cs a q)(hs:∀x∈b,x∈a):oU l hF cs b q:=
 {h with pP:=λx hx=>h.pP x (hs x hx),rT:=λx hx=>h.rT x (hs x hx)}
theorem GP.Cq(h:GP (v.push x) v' n)(k:GP v'.pop v'' m):GP v (v''.drop v.rts) (n+m):=
 {pv:=k.pv.trans h.pv,vs:=k.vs.trans h.vs,es:=k.es.trans h.es,fs:=k.fs.trans h.fs,hid:=k.hid.trans h.hid,rt:=rfl,
  len:=by have h1:v'.l.length<=v.l.length+n:=h.len;have h2:v''.l.length<=v'.l.length+m:=k.len;show v''.l.length<=v.l.length+(n+m);omega
  kp:=h.kp.trans k.kp
  pP:=by
   have h1:=ED List.dropLast h.pP;simp[iU.push,<-List.map_dropLast]at h1;have h2:=k.pP
   show v''.ats.map _=_
   rw[h2]
   simpa[iU.pop,List.map_dropLast]using h1}
theorem GP.C1(h:GP (v.push x) v' n):∃l is,v'.ats=l++[(x,is)]/\v'.pop.rts=v.rts++[(x,is)]:=by
 have h1:=h.pP;simp only[iU.push,EL,Fg,FN]at h1
 rcases List.eq_nil_or_concat v'.ats with h0|⟨l,a,h0⟩
 .rw[h0]at h1;simp at h1
 .rw[List.concat_eq_append]at h0;rw[h0,EL]at h1;have h2:=List.append_inj_right' h1 rfl;have h3:=zu h2;refine⟨l,a.2,by rw[h0,<-h3],?_⟩;have au:v'.rts=v.rts:=h.rt;simp only[iU.pop,au];rw[h0,<-h3];simp
theorem GK.Dc(h:GK v q (D+1))(k:GP (v.push x) v' n)(hk:GK v' q' 0):GK v'.pop q' (D+1):=
 {ok:=hk.ok.pop λy hy=>by
   obtain⟨p,hp,rfl⟩:=EM.1 hy;exact EM.2 ⟨p,(List.dropLast_sublist _).subset hp,rfl⟩
  h0:=hk.h0,hD:=by have:v'.hidden=v.hidden:=k.hid;have:=h.hD;show v'.hidden+_<=10;omega,m0:=hk.m0,m1:=hk.m1,v0:=hk.v0,v1:=hk.v1
  al:=by
   have h1:=k.rT;have h2:=h.al;simp only[iU.push,J_,Gw]at h1
   show(v'.ats.dropLast).length+_<=20
   rw[List.length_dropLast]
   omega}
theorem GK.Do(h:GK v q D)(r:List (Nat × List Int)):GK (v.drop r) q D:={h with}
theorem GP.more(h:GP v.more v' n):GP v v'.less n:=
 {pv:=h.pv,vs:=h.vs,es:=h.es,fs:=h.fs,pP:=h.pP,len:=h.len,kp:=h.kp,rt:=h.rt,hid:=by
   show v'.hidden-1=v.hidden
   rw[h.hid]
   show v.hidden+1-1=v.hidden
   omega}
theorem GK.less(h:GK v q D)(k:GK v' q' 0)(ay:v'.hidden=v.hidden+1)(ha:v'.ats.length=v.ats.length):GK v'.less q' D:=
 {k with h0:=by show 0<=v'.hidden-1;have:=h.h0;omega,hD:=by show v'.hidden-1+D<=10;have:=h.hD;omega,al:=by show v'.ats.length+D<=20;rw[ha];exact h.al}
end
end Go.Proofs.YtenbhdilndfaeaaGreat
