import Derived.Test.YtenbhdilndfaeaaGreatM30
set_option maxRecDepth 100000
set_option maxHeartbeats 0
set_option linter.all false
namespace Go.Proofs.YtenbhdilndfaeaaGreat
open Go.RowKit Go.Proofs.Tryz
variable{G:Prop}{i:In}{P S S':Int->Prop}{h:QQ}{L:QR}{g:Nat}{t:TypeId}{cs:Array Value}{A:OA}(x:XP)(l:QR)(v:Vl)
def I0(h:G:=by
 go_upto_region 8 with fail;have d:=hg.trans (F_ [] wr).drew;have Nt:=hz.hF (F_ [] wr).drew;refine hN (λ_=>True) 9 k_ ?_;obtain⟨W,aV⟩:=nm_ wr.drew;rw[<-aV]at d Nt|-;clear aV hz hg;have C:=trivial;refine ir 0 C ?_;refine ir 1 C ?_;refine ir 4 C ?_;refine ir 5 C ?_;refine ir 6 C ?_;have d7:=Nt.hF ((F_ [] W).alloc (.cells #[Y n] 2));have U:=Ls.one W n
 have cD:w.heap.size<=(W.alloc (.cells #[Y n] 2)).heap.size:=by have:=d.size;simp;omega
 refine hY 2 λK Nu=>?_;go_simp;refine Nu.out _ _ (λ_=>C) ?_;clear Nu K;refine hY 3 λK Nu=>?_;refine Ce d7 U cD X ?_;intro aw aj w2 a6 v;have Np:=v.gr [] w (H_ _) (d.alloc _);refine h4 Nu C λ_=>?_;clear Nu K;refine hY 7 λK Nu=>?_;refine Ce a6 (bi.out _ Np) Np.size p_ ?_;intro aY c3 af bp i;have S:=i.gr [] w (H_ _) Np;refine h4 Nu C λ_=>?_;clear Nu K;refine ir 8 C ?_;refine hM k_ ?_ _;go_wp2;all_goals
  rw[ao.out];have hi:=aN.out;refine⟨aY,c3,?_,by rw[hi];exact bp.ls,by rw[hi];exact iY bp,S,.inr (by rw[hi];exact bp)⟩;rw[hi];simp;omega):G:=h
def Lu(h:G:=by
 split at hy;injection hy with hy;subst hy;exact(lb _ _).trans z;injection hy with hy;subst hy;exact z):G:=h
def L2(h:G:=by
 split;rename_i hp;rw[U_ (ha hp)];simpa using Np;split
 .simp;omega
 exact Np):G:=h
def L4(h:G:=by
 go_enter func71,ntmps71;go_wp2;rw[ao.out];unfold jR;rw[M.out];exact⟨A,c,rfl,av,cj,Nv⟩):G:=h
def L5(h:G:=by
 go_enter func69,ntmps69;go_wp2;refine en_ ?_;rw[ao.out,M.out,Hv];exact⟨rfl,av,.jD Nv⟩):G:=h
def FL(h:QQ):Prop:=∀o∈h,o.fs.length<=70
def mi(id f:Int):(hW x id f).1.e.nw=x.e.nw:=by
 unfold hW;split;rfl;split<;>rfl
def q7:(hT x).1.e.nw=x.e.nw:=by
 unfold hT;simp only;split;rfl;exact mi (iJ x) 1 0
def lb:(jl x v).e.nw=x.e.nw:=by
 have a:=q7 x;have b:=(mi (hT x).1 (hT x).2.1 2).trans a;have c:=(mi (hW (hT x).1 (hT x).2.1 2).1 (hT x).2.1 0).trans b;unfold jl;simp only;split;exact a;split
 .exact b
 split
 .exact b
 split
 .exact c
 split<;>exact c
def sH(f:Int):(iz x v f).1.e.nw=x.e.nw:=by
 unfold iz;split;exact lb x _;split
 .exact lb x _
 split
 .rfl
 split
 .exact lb x _
 rfl
def uZ(n:Int):(hJ x n).1.e.nw=x.e.nw:=by
 have a:=q7 x;unfold hJ;simp only;split;exact a;split
 .exact(lb _ _).trans a
 exact a
def yM{x y:XP}(hy:j0 x i=some y):y.e.nw=x.e.nw:=by
 unfold j0 at hy;iterate 4 (refine iw (R:=λy=>y.e.nw=x.e.nw) hy (λ_=>rfl) λ_ hy=>?_)
 refine iw (R:=λy=>y.e.nw=x.e.nw) hy (λ_=>?_) λ_ hy=>?_
 .split
  .exact lb _ _
  rfl
 refine iw (R:=λy=>y.e.nw=x.e.nw) hy (λ_=>rfl) λ_ hy=>?_;refine iw (R:=λy=>y.e.nw=x.e.nw) hy (λ_=>?_) λ_ hy=>?_
 .split<;>rfl
 refine iw (R:=λy=>y.e.nw=x.e.nw) hy (λ_=>rfl) λ_ hy=>?_;refine iw (R:=λy=>y.e.nw=x.e.nw) hy (λ_=>lb _ _) λ_ hy=>?_;refine iw (R:=λy=>y.e.nw=x.e.nw) hy (λ_=>?_) λ_ hy=>by cases hy
 split;exact lb _ _;rfl
def z8{x y:XP}(hy:kT x i=some y):y.e.nw=x.e.nw:=by
 have a:=uZ x i.n;have z:=(mi (hJ x i.n).1 (hJ x i.n).2.1 (hJ x i.n).2.2.1).trans a;unfold kT at hy;simp only at hy;split at hy
 .cases hy
 split at hy
 .injection hy with hy;subst hy;exact a
 split at hy
 .injection hy with hy;subst hy;exact a
 split at hy
 .injection hy with hy;subst hy;exact z
 split at hy
 .exact Lu
 exact Lu
def Fq(i:In):Prop:=(i.op=7->i.n<=16)/\(i.op=13->0<=i.b/\i.b<=4/\i.b<=i.c/\i.c<=64)
def Aa{x:XP}(q:Fq i)(c:FL x.e.nw):FL (ka x i).e.nw:=by
 have f:=q7 x;unfold ka;dsimp only;by_cases n:i.op=5
 .rw[U_ n];have o:=sH x (x.sr i.b.toNat) i.n;split
  .show FL (hW _ _ _).1.e.nw;rw[mi,o];exact c
  rw[o];exact c
 rw[T_ n];by_cases p:i.op=6
 .rw[U_ p];have o:=sH x (x.sr i.b.toNat) i.n;split
  .show FL (iz _ _ _).1.e.nw;rw[o];exact c
  rw[o];exact c
 rw[T_ p];by_cases d:i.op=7
 .rw[U_ d];intro o k;have e:o=⟨x.nx,List.replicate i.n.toNat default⟩:=J_.1 k;rw[e,GJ];have:=q.1 d;omega
 rw[T_ d];by_cases j:i.op=13
 .rw[U_ j];intro o k;have e:=J_.1 k;rw[e];simp only[I_,Y_,Gz,Gg,HL,GJ];have:=q.2 j;omega
 rw[T_ j];by_cases m:i.op=14
 .rw[U_ m];have r:=(mi (hT x).1 (hT x).2.1 0).trans f;have s:=(mi (hW (hT x).1 (hT x).2.1 0).1 (hT x).2.1 1).trans r;split
  .rw[f];exact c
  split
  .show FL (hW _ _ _).1.e.nw;rw[r];exact c
  split
  .show FL (hW _ _ _).1.e.nw;rw[s];exact c
  show FL (hW _ _ _).1.e.nw;rw[s];exact c
 rw[T_ m];by_cases l:i.op=15∨i.op=18
 .rw[U_ l];split
  .exact c
  show FL (hW _ _ _).1.e.nw;rw[mi];exact c
 rw[T_ l];by_cases u:i.op=17
 .rw[U_ u];show FL (hT x).1.e.nw;rw[f];exact c
 rw[T_ u];exact c
def Bt{l:QS}{k:Nat}(h:k4 l k=true):Fq (l.getD k default):=by
 unfold k4 jX at h;generalize l.getD k default=x at*;obtain⟨j,a,b,f,n⟩:=x;simp only at h;split at h
 .cases h
 split at h
 .cases h
 split at h
 .cases h
 rename_i e;refine⟨λc=>?_,λc=>?_⟩;simp only at c;subst c;have d:(i7.getD (7:Int).toNat default).n=4:=rfl;rw[d]at h;simp at h;exact h.2;simp only at c;subst c;simp at e;simp only;omega
def vk{c:QS}{hH hC:Int}(e:ia c hH hC=true)(pc:Int)(r:Nat->Vl)(h:QQ)(m:Int):FL (lx c hH hC pc r h m).nw:=by
 have s:FL ({mg with pc:=pc+1,r:=r}:p7).nw:=λo d=>by cases d
 have a:FL ji.nw:=λo d=>by cases d
 unfold lx;split;exact a;rename_i u;have p:pc≠ -1->Fq (c.getD pc.toNat default):=λj=>by
  refine Bt ?_;unfold ia oa at e;simp only[Gq]at e;exact Gy.mp e.1.1.2 _ p_
 simp only;split;exact a;generalize k:(⟨c,hH,hC,pc,r,h,m,{mg with pc:=pc+1,r:=r},false⟩:XP)=x;have v:FL x.e.nw:=by rw[<-k];exact s
 have n:x.jo=c:=by rw[<-k]
 unfold qd;split;simp only;split
 .exact v
 rw[lb,mi];exact v;rename_i j;simp only;split
 .rename_i q f;rw[yM f];exact v
 split
 .rename_i q f;rw[z8 f];exact v
 exact Aa (by rw[n];exact p j) v
def Asc.eq{ys zs:QR}(h:Asc ys P)(k:Asc zs P):ys=zs:=by
 have c:ys.Perm zs:=(List.perm_ext_iff_of_nodup h.nodup k.nodup).2 λx=>(h.mem x).trans (k.mem x).symm;exact c.eq_of_pairwise (le:=(· < ·)) (λa b _ _ d e=>by omega) h.lt k.lt
open Classical in
noncomputable def pick (l:QR) (P:Int->Prop):List Int:=kH (l.filter (λx=>decide (P x)))
def A5(P:Int->Prop):Asc (pick l P) (λx=>x∈l/\P x):=by
 have h:=kG (l.filter (λx=> @decide (P x) (Classical.propDecidable _)));exact⟨h.lt,λx=>by unfold pick;rw[h.mem];simp⟩
def lr(v:Vl):List Int:=if isRef v=true then[v.n] else[]
def j3(l:QX):List Int:=l.flatMap λc=>c.id::lr c.v
def lj(t:jb):List Int:=j3 t.gs++(j3 t.rs++(j3 t.ws++(t.ds.map (·.id)++jr t.nw)))
def jM(ts:QG):List Int:=1::ts.flatMap lj
inductive uV(h:QQ)(P:Int->Prop):Int->Prop
 |root {x:Int} (hp:P x) (hi:x∈iQ h):uV h P x
 |step {x:Int} {o:Ob} {v:Vl} (hx:uV h P x) (ho:ke h x=some o) (hv:v∈o.fs) (hr:isRef v=true) (hi:v.n∈iQ h):uV h P v.n
noncomputable def lk (h:QQ) (rs:QR):List Int:=pick (iQ h) (uV h (· ∈rs))
def uV.ids{x:Int}(r:uV h P x):x∈iQ h:=by
 cases r with
 |root _ c=>exact c
 |step _ _ _ _ c=>exact c
def jF(h:QQ)(rs:QR):Asc (lk h rs) (uV h (· ∈rs)):=by
 have c:=A5 (iQ h) (uV h (· ∈rs));exact⟨c.lt,λx=>(c.mem x).trans ⟨λa=>a.2,λa=>⟨a.ids,a⟩⟩⟩
def vp{n:Int}:n∈iQ h↔∃o,ke h n=some o:=by
 constructor
 .intro e;obtain⟨o,d,rfl⟩:=Ge.1 e;cases c:ke h o.id with
  |some f=>exact⟨f,rfl⟩
  |none=>have:=List.find?_eq_none.1 c o d;simp at this
 rintro⟨o,c⟩;exact Ge.2 ⟨o,oE c,vr c⟩
def uV.mono{Q:Int->Prop}(j:∀x,P x->Q x){x:Int}(r:uV h P x):uV h Q x:=by
 induction r with
 |root a b=>exact .root (j _ a) b
 |step _ b d e f c=>exact .step c b d e f
structure q5(h:QQ)(L:QR)(S S':Int->Prop):Prop where
 up:∀x,S x->S' x
 roots:∀x∈L,x∈iQ h->S' x
 sound:∀x,S' x->S x∨uV h (· ∈L) x
 closed:∀x,S' x->¬S x->∀o,ke h x=some o->∀v∈o.fs,isRef v=true->v.n∈iQ h->S' v.n
def q5.nil(h:QQ)(S:Int->Prop):q5 h [] S S:=⟨λ_ a=>a,λ_ a=>(by cases a),λ_ a=>.inl a,λ_ a b=>Gc a b⟩
def q5.congr{T a:Int->Prop}(v:q5 h L S S')(e:∀x,S x↔T x)(f:∀x,S' x↔a x):q5 h L T a:=by
 have d:S=T:=funext λx=>propext (e x);have c:S'=a:=funext λx=>propext (f x);rw[<-d,<-c];exact v
def q5.app{M:QR}{c:Int->Prop}(a:q5 h L S S')(b:q5 h M S' c):q5 h (L++M) S c:=by
 refine⟨λx d=>b.up x (a.up x d),λx d e=>?_,λx d=>?_,λx d n o j v m k e=>?_⟩;rcases W_.1 d with d|d
 .exact b.up x (a.roots x d e)
 exact b.roots x d e;rcases b.sound x d with d|d
 .rcases a.sound x d with d|d
  .exact .inl d
  exact .inr (d.mono λp f=>Gn _ f)
 exact .inr (d.mono λp f=>Hn _ f);by_cases f:S' x
 .exact b.up _ (a.closed x f n o j v m k e)
 exact b.closed x d f o j v m k e
def q5.skip{n:Int}(q:n∈iQ h->S n):q5 h [n] S S:=
 ⟨λ_ a=>a,λx a c=>by rw[J_.1 a]at c |-;exact q c,λ_ a=>.inl a,λ_ a b=>Gc a b⟩
def rM(fs:QA):List Int:=(fs.filter (·.r)).map (·.n)
def q5.node{n:Int}{o:Ob}(k:ke h n=some o)(h0:(0:Int)∉iQ h)(v:q5 h (rM o.fs) (λx=>S x∨x=n) S'):q5 h [n] S S':=by
 have q:n∈iQ h:=by
  have d:=vr k;exact Ge.2 ⟨o,oE k,d⟩
 have r:∀x,uV h (· ∈rM o.fs) x->uV h (· ∈[n]) x:=by
  intro x z;induction z with
  |root a b=>
   obtain⟨m,f,rfl⟩:=Ge.1 a;obtain⟨f,e⟩:=HK.1 f;refine .step (.root (J_.2 rfl) q) k f ?_ b;have:m.n≠0:=λd=>h0 (d▸b);unfold isRef;simp[e,this]
  |step _ b u y d s=>exact .step s b u y d
 refine⟨λx c=>v.up x (.inl c),λx c p=>?_,λx c=>?_,λx c nq g j m f e p=>?_⟩;rw[J_.1 c];exact v.up n (.inr rfl);rcases v.sound x c with(c|c)|c
 .exact .inl c
 rw[c];exact .inr (.root (J_.2 rfl) q);exact .inr (r x c);by_cases d:x=n
 .subst d;rw[k]at j;injection j with j;subst j;refine v.roots _ (Ge.2 ⟨m,HK.2 ⟨f,?_⟩,rfl⟩) p;unfold isRef at e;simp at e;exact e.1
 exact v.closed x c (λa=>a.elim nq d) g j m f e p
def q5.reach(v:q5 h L (λ_=>False) S')(x:Int):S' x↔uV h (· ∈L) x:=by
 refine⟨λj=>(v.sound x j).resolve_left id,λk=>?_⟩;induction k with
 |root a b=>exact v.roots _ a b
 |step _ b d e f c=>exact v.closed _ c id _ b _ d e f
open Classical in
noncomputable def t7 (h:QQ) (S:Int->Prop):Nat:=((iQ h).filter (λx=> !decide (S x))).length
def yA{p q:Int->Bool}(c:∀x∈l,p x=true->q x=true):(l.filter p).length<=(l.filter q).length:=by
 induction l with
 |nil=>simp
 |cons a l Np=>
  have Np:=Np λx d=>c x (Gj _ d);have ha:=c a GM;rw[Hr,Hr];exact L2
def CQ{p q:Int->Bool}{l:QR}(c:∀x∈l,p x=true->q x=true){y:Int}(hy:y∈l)(e:q y=true)(f:p y=false):(l.filter p).length<(l.filter q).length:=by
 induction l with
 |nil=>cases hy
 |cons a l Np=>
  have ha:=c a GM;have j:=yA l λx d=>c x (Gj _ d);rw[Hr,Hr];rcases O_.1 hy with rfl|hy
  rw[U_ e,T_ (by rw[f];decide)];simp;omega;have Np:=Np (λx d=>c x (Gj _ d)) hy;exact L2
def Dx(d:∀x,S x->S' x):t7 h S'<=t7 h S:=by
 unfold t7;refine yA _ λx _ c=>?_;simp at c |-
 exact λa=>c (d x a)
def Dw{n:Int}(d:n∈iQ h)(e:¬S n):t7 h (λx=>S x∨x=n)<t7 h S:=by
 unfold t7;refine CQ (λx _ c=>?_) d (zu e) H;simp at c |-;exact c.1
def B8:t7 h S<=h.length:=by
 unfold t7;exact G_ (GC _ _) (by unfold iQ;simp)
noncomputable def mD (h:QQ) (ts:QG):List Int:=lk h (kH (jM ts))
noncomputable def uL (h:QQ) (ts:QG):List Ob:=h.filter λo=>decide (o.id∈mD h ts)
noncomputable def qa (h:QQ) (ts:QG):List Int:=(h.filter λo=> !decide (o.id∈mD h ts)).map (·.id)
structure Fx(base:Nat)(T:List TypeId)(w w':World):Prop where
 gr:∀a:World,a.heap.size<=base->J [] a w->J [] a w'
 iy:∀(k:Nat) (o:Obj),w.heap[k]?=some o->(∀cs t fz,o=.cells cs t fz->t∉T)->w'.heap[k]?=some o
 size:w.heap.size<=w'.heap.size
section
variable{base:Nat}{T:List TypeId}{a b w w':World}
def Fx.trans(h:Fx base T a b)(k:Fx base T b w):Fx base T a w:=
 ⟨λx d e=>k.gr x d (h.gr x d e),λi o f c=>k.iy i o (h.iy i o f c) c,G_ h.size k.size⟩
def Fx.jD(h:J [] a w):Fx base T a w:=
 ⟨λ_ _ d=>d.trans h,λi o c _=>(h.block i (kX c) H).trans c,h.size⟩
def Fx.app{e:TypeId}(h:App base e a w)(f:e∈T):Fx base T a w:=
 ⟨λx n j=>h.gr [] x n j,λi o m k=>h.iy i o m (.inr λcs d c=>k cs e d c f),h.size⟩
def Fx.one(h:J [g] w w')(d:Bk w g t cs)(p:base<=g)(m:t∈T):Fx base T w w':=
 ⟨λx r f=>f.hI h (λs n=>.inr (by rw[J_]at n;omega)),λi o c k=>(h.block i (kX c) (by
   rintro j;have e:i=g:=zu j;subst e;unfold Bk at d;rw[d]at c;injection c with c;exact k cs t _ c.symm m)).trans c,h.size⟩
def Fx.bk(k:Fx base T a w)(h:Bk a g t cs)(ht:t∉T:=by decide):Bk w g t cs:=
 k.iy g _ h (λd t' fz e=>by injection e with _ e;subst e;exact ht)
def Fx.sl{e:TypeId}{size n:Nat}{xs:QW}(k:Fx base T a w)(h:Sl a e size A n xs)(ht:e∉T:=by decide):Sl w e size A n xs:=
 ⟨h.1,λhn=>by
   obtain⟨b,off,cs,fz,hA,hb,hc⟩:=h.2 hn;exact⟨b,off,cs,fz,hA,k.iy b _ hb (λd t' c e=>by injection e with _ e;subst e;exact ht),hc⟩⟩
end
structure GA(base:Nat)(w:World)(g:Nat)(l:QR):Prop where
 hi:base<=g
 row:∃A c,Bk w g 119 #[.slice A l.length c]/\Zr base w A c l
def GA.hF{base:Nat}{w w':World}{l:QR}(h:GA base w g l)(c:J [] w w'):GA base w' g l:=by
 obtain⟨e,A,d,f,j⟩:=h;exact⟨e,A,d,f.hF c,j.hF c⟩
def pH{C:TypeId}{base c:Nat}{l d:QR}{w:World}(h:GA base w g l)(s:Sl w C 1 A d.length (zs d))(r:base<=w.heap.size)(u:l.length+d.length<=1000000000):
 Calls prog 67 #[q_ g,.slice A d.length c] w λe w'=>e=.returned (.tuple #[])/\GA base w' g (l++d)/\Fx base [119,2] w w':=by
 obtain⟨n,B,E,m,y⟩:=h;have D:=m.f_ 0;go_enter func67,ntmps67;go_wp2_with (at_builtin;refine CZ y s r u ?_;intro f c1 j q v;have P:=v.bk m I;have M:=P.hG 0;have F:=P.f_ 0);have k:J [g] j (j.setCell (Z g 0) (.slice f (l.length+d.length) c1)):=(F_ [g] j).setCell (p:=Z g 0) (.inl H) _;refine en_ ⟨rfl,⟨n,f,c1,?_,?_⟩,(Fx.app v H).trans (Fx.one k P n H)⟩;have:=P.hU 0 (.slice f (l.length+d.length) c1);exact No;exact kz q (λcs K z=>by have:=P.symm.trans z;injection this with this;injection this with _ t;exact Gc t I) k
def tG{base:Nat}{l:QR}{v:Vl}{w:World}(h:GA base w g l)(E:base<=w.heap.size)(r:l.length+(lr v).length<=1000000000):
 Calls prog 69 #[q_ g,.agg #[.bool v.r,Y v.n]] w λe w'=>e=.returned (.tuple #[])/\GA base w' g (l++lr v)/\Fx base [119,2] w w':=by
 refine h6 λz ao=>?_;obtain⟨p,D,q,B,Nv,j⟩:=box1 w 38 #[.bool v.r,Y v.n];obtain⟨n,C⟩:=j.iA;have av:=h.hF Nv;cases d:v.r with
 |false=>
  have M:=O (show lr v=[] by unfold lr isRef;rw[d];rfl);rw[d]at n q;clear d j;exact L5
 |true=>
  rw[d]at n q;by_cases f:v.n=0;have k:(v.n !=0)=false:=by simp[f]
  have M:=O (show lr v=[] by unfold lr isRef;rw[k,IE];rfl);clear d j f;exact L5;have k:(v.n !=0)=true:=by simp[f]
  have M:=O (show lr v=[v.n] by unfold lr isRef;rw[d,k];rfl);have m:=(F_ [] p).alloc (.cells #[Y v.n] 2);have u:=O (pH (c:=1) (av.hF m) (Ls.one p v.n) (by have:=Nv.size;simp;omega) (by rw[M.out]at r;simpa using r));clear d j f;go_enter func69,ntmps69;go_wp2_with (go_at_call 67;refine u.out.mono ?_;rintro e F⟨rfl,s,y⟩);refine en_ ?_;rw[ao.out,M.out];exact⟨rfl,s,(Fx.jD (Nv.trans m)).trans y⟩
def BX(xs l:QR)(A:OA)(w:World)(e:Ending)(w':World):Prop:=∃(A':OA) (c':Nat),e=.returned (.slice A' xs.length c')/\Ls w' A' xs/\xs.length<=c'/\J [] w w'/\((A'=A/\xs=l)∨Zr w.heap.size w' A' c' xs)
def tz(A:OA)(c:Nat)(l:QR)(n:Int)(w:World)(h:Ls w A l)(hl:l.length<=999999998)(D:l.length<=c):
 Calls prog 65 #[.slice A l.length c,Y n] w (BX (insL l n) l A w):=by
 refine h6 λad ao=>?_;have j:=pY A c l n w h X;cases f:decide (n∈l)with
 |true=>
  rw[f]at j;have s:=O j;have k:=O (show insL l n=l by unfold insL;rw[U_ (zu f)]);clear j f;go_enter func65,ntmps65;go_wp2_with (go_at_call 18;refine s.out.mono ?_;rintro e w'⟨rfl,rfl⟩);rw[ao.out];unfold BX;rw[k.out];exact⟨A,c,rfl,h,D,F_ _ _,.inl ⟨rfl,rfl⟩⟩
 |false=>
  rw[f]at j;have s:=O j;have N:=O (show n∉l by simpa using f);clear j f;go_enter func65,ntmps65;go_wp2_with (go_at_call 18;refine s.out.mono ?_;rintro e w'⟨rfl,rfl⟩);go_loopw [5,6] (λov y wr=>∃(ts rs:QR) (u:OA) (B:Nat),Hid (l=ts++rs)/\Hid (∀x∈ts,x<n)/\ov=.slice u ts.length B/\y=Y ts.length/\Zr w.heap.size wr u B ts/\J [] w wr) (λ_ y _=>l.length-(intOf y).toNat)
  case atStart=>exact⟨[],l,none,0,O rfl,O H,rfl,gn,Zr.nil,F_ _ _⟩
  obtain⟨ts,rs,u,B,p,z,rfl,rfl,hz,hg⟩:=hrel;have aD:=hg.size;have ae:ts.length<=l.length:=by rw[p.out];simp
  by_cases k:ts.length<l.length
  .obtain⟨b,off,hA,V⟩:=h.at_ k;subst hA;have ah:=hg.f_ V H;clear V;obtain⟨x,E⟩:=nm_ (l[ts.length]);rw[<-E]at ah;have R:=O E;clear E;by_cases Q:x<n
   .have d7:=hz.hF ((F_ [] wr).alloc (.cells #[Y x] 2));have U:=Ls.one wr x;have cD:w.heap.size<=(wr.alloc (.cells #[Y x] 2)).heap.size:=p_;go_wp2_with (at_builtin;refine CZ d7 U cD X ?_;intro aw aj w2 a6 v);go_roundw
    case rel=>
     have bO:l=(ts++[x])++rs.tail:=by
      rw[R.out];have e:=p.out;cases M:rs with
      |nil=>rw[M]at e;rw[e]at k;simp at k
      |cons I ai=>rw[M]at e;subst e;simp
     exact⟨ts++[x],rs.tail,aw,aj,O bO,O (λak hz=>by
      rcases W_.1 hz with hz|hz
      exact z.out ak hz;rw[J_.1 hz];exact Q),H,H,a6,v.gr [] w (H_ _) (hg.alloc _)⟩
    case measure=>exact mz
   have bi:Hid (∀w',J [] w w'->Sl w' 2 1 (if c=ts.length then some (Z b off) else some (Z b (off+ts.length))) (l.length-ts.length) (zs (l.drop ts.length))):=O (λw' hg=>by
    have:=Ls.drop (w:=w') (Sl.hF h hg) ae c D;simpa[m9]using this)
   have aN:Hid (insL l n=(ts++[n])++l.drop ts.length):=O (by
    have e:=p.out;have m:=N.out;rw[e]at m;have r:l.drop ts.length=rs:=by rw[e];simp
    rw[r]
    conv=>lhs;rw[e]
    exact tx m z.out (λI ai F=>by
     have M:l[ts.length]=I:=by simp only[e,F];simp
     rw[<-M,<-R.out];exact Q))
   exact I0
  have bi:=O (λw' hg=>Ls.drop (w:=w') (Sl.hF h hg) ae c D);have aN:Hid (insL l n=(ts++[n])++l.drop ts.length):=O (by
   have e:=p.out;have m:=N.out;rw[e]at m;have r:l.drop ts.length=rs:=by rw[e];simp
   rw[r]
   conv=>lhs;rw[e]
   exact tx m z.out (λI ai F=>by
    rw[e,F]at k;simp at k))
  exact I0
def yV(A:OA)(c:Nat)(l:QR)(v:Vl)(w:World)(h:Ls w A l)(z:l.length<=999999998)(cj:l.length<=c):
 Calls prog 71 #[.slice A l.length c,.agg #[.bool v.r,Y v.n]] w (jR ((lr v).foldl insL l) w):=by
 refine h6 λB ao=>?_;obtain⟨p,F,m,C,Nv,f⟩:=box1 w 38 #[.bool v.r,Y v.n];obtain⟨k,D⟩:=f.iA;have av:=Sl.hF h Nv;cases d:v.r with
 |false=>
  have M:=O (show lr v=[] by unfold lr isRef;rw[d];rfl);rw[d]at k m;clear d f;exact L4
 |true=>
  rw[d]at k m;by_cases e:v.n=0;have j:(v.n !=0)=false:=by simp[e]
  have M:=O (show lr v=[] by unfold lr isRef;rw[j,IE];rfl);clear d f e;exact L4;have j:(v.n !=0)=true:=by simp[e]
  have M:=O (show lr v=[v.n] by unfold lr isRef;rw[j,d];rfl);have q:=O (tz A c l v.n p av z cj);clear d f e;go_enter func71,ntmps71;go_wp2_with (go_at_call 65;refine q.out.mono ?_;unfold BX;rintro E H⟨s,r,rfl,u,y,n,-⟩);rw[ao.out];unfold jR;rw[M.out];exact⟨s,r,rfl,u,y,Nv.trans n⟩
