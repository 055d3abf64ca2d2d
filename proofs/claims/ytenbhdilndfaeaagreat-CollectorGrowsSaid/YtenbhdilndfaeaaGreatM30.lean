import Derived.Test.YtenbhdilndfaeaaGreatM29
set_option maxRecDepth 100000
set_option maxHeartbeats 0
set_option linter.all false
namespace Go.Proofs.YtenbhdilndfaeaaGreat
open Go.RowKit Go.Proofs.Tryz
variable{G:Prop}{i:In}{P S S':Int->Prop}{h:List Ob}{L:List Int}{g:Nat}{t:TypeId}{cs:Array Value}{A:OA}(x:XP)(l:List Int)(v:Vl)
theorem J1(h:G:=by
 split at hy
 .injection hy with hy;subst hy;exact(k5 _ _).trans z
 .injection hy with hy;subst hy;exact z):G:=h
theorem Ku(h:G:=by
 split
 .rename_i hp;rw[T_ (ha hp)]
  simpa using Z
 .split
  .simp;omega
  .exact Z):G:=h
theorem Kw(h:G:=by
 go_enter func69,ntmps69
 go_wp2;refine en_ ?_;rw[ak.out,aX.out,GE];exact⟨rfl,ay,.jC I⟩):G:=h
def FL(h:List Ob):Prop:=∀o∈h,o.fs.length<=70
theorem l4(id f:Int):(hX x id f).1.e.nw=x.e.nw:=by
 unfold hX;split
 .rfl
 .split<;>rfl
theorem qV:(hU x).1.e.nw=x.e.nw:=by
 unfold hU;simp only;split
 .rfl
 .exact l4 (iI x) 1 0
theorem k5:(jm x v).e.nw=x.e.nw:=by
 have a:=qV x;have b:=(l4 (hU x).1 (hU x).2.1 2).trans a;have p:=(l4 (hX (hU x).1 (hU x).2.1 2).1 (hU x).2.1 0).trans b;unfold jm;simp only;split
 .exact a
 .split
  .exact b
  .split
   .exact b
   .split
    .exact p
    .split<;>exact p
theorem su(f:Int):(iz x v f).1.e.nw=x.e.nw:=by
 unfold iz;split
 .exact k5 x _
 .split
  .exact k5 x _
  .split
   .rfl
   .split
    .exact k5 x _
    .rfl
theorem uz(n:Int):(hJ x n).1.e.nw=x.e.nw:=by
 have a:=qV x;unfold hJ;simp only;split
 .exact a
 .split
  .exact(k5 _ _).trans a
  .exact a
theorem yc{x y:XP}(hy:jU x i=some y):y.e.nw=x.e.nw:=by
 unfold jU at hy
 refine iv (R:=λy=>y.e.nw=x.e.nw) hy (λ_=>rfl) λ_ hy=>?_
 refine iv (R:=λy=>y.e.nw=x.e.nw) hy (λ_=>rfl) λ_ hy=>?_
 refine iv (R:=λy=>y.e.nw=x.e.nw) hy (λ_=>rfl) λ_ hy=>?_
 refine iv (R:=λy=>y.e.nw=x.e.nw) hy (λ_=>rfl) λ_ hy=>?_
 refine iv (R:=λy=>y.e.nw=x.e.nw) hy (λ_=>?_) λ_ hy=>?_
 .split
  .exact k5 _ _
  .rfl
 refine iv (R:=λy=>y.e.nw=x.e.nw) hy (λ_=>rfl) λ_ hy=>?_
 refine iv (R:=λy=>y.e.nw=x.e.nw) hy (λ_=>?_) λ_ hy=>?_
 .split<;>rfl
 refine iv (R:=λy=>y.e.nw=x.e.nw) hy (λ_=>rfl) λ_ hy=>?_
 refine iv (R:=λy=>y.e.nw=x.e.nw) hy (λ_=>k5 _ _) λ_ hy=>?_
 refine iv (R:=λy=>y.e.nw=x.e.nw) hy (λ_=>?_) λ_ hy=>by cases hy
 split
 .exact k5 _ _
 .rfl
theorem zm{x y:XP}(hy:kK x i=some y):y.e.nw=x.e.nw:=by
 have a:=uz x i.n;have z:=(l4 (hJ x i.n).1 (hJ x i.n).2.1 (hJ x i.n).2.2.1).trans a;unfold kK at hy;simp only at hy;split at hy
 .cases hy
 split at hy
 .injection hy with hy;subst hy;exact a
 split at hy
 .injection hy with hy;subst hy;exact a
 split at hy
 .injection hy with hy;subst hy;exact z
 split at hy
 .exact J1
 exact J1
def D_(i:In):Prop:=(i.op=7->i.n<=16)/\(i.op=13->0<=i.b/\i.b<=4/\i.b<=i.c/\i.c<=64)
theorem zo(hi:D_ i)(hx:FL x.e.nw):FL (j2 x i).e.nw:=by
 have f:=qV x;unfold j2;dsimp only
 by_cases aq:i.op=5
 .rw[T_ aq];have o:=su x (x.sr i.b.toNat) i.n;split
  .show FL (hX _ _ _).1.e.nw
   rw[l4,o];exact hx
  .rw[o];exact hx
 rw[Q_ aq]
 by_cases aU:i.op=6
 .rw[T_ aU];have o:=su x (x.sr i.b.toNat) i.n;split
  .show FL (iz _ _ _).1.e.nw
   rw[o];exact hx
  .rw[o];exact hx
 rw[Q_ aU]
 by_cases bG:i.op=7
 .rw[T_ bG];intro o ho;have e:o=⟨x.nx,List.replicate i.n.toNat default⟩:=I_.1 ho;rw[e,Fa]
  have:=hi.1 bG
  omega
 rw[Q_ bG]
 by_cases h13:i.op=13
 .rw[T_ h13];intro o ho;have e:=I_.1 ho;rw[e];simp only[J_,Z_,EY,E5,Ge,Fa]
  have:=hi.2 h13
  omega
 rw[Q_ h13]
 by_cases q:i.op=14
 .rw[T_ q];have p:=(l4 (hU x).1 (hU x).2.1 0).trans f;have r:=(l4 (hX (hU x).1 (hU x).2.1 0).1 (hU x).2.1 1).trans p;split
  .rw[f];exact hx
  .split
   .show FL (hX _ _ _).1.e.nw
    rw[p];exact hx
   .split
    .show FL (hX _ _ _).1.e.nw
     rw[r];exact hx
    .show FL (hX _ _ _).1.e.nw
     rw[r];exact hx
 rw[Q_ q]
 by_cases s:i.op=15∨i.op=18
 .rw[T_ s];split
  .exact hx
  .show FL (hX _ _ _).1.e.nw
   rw[l4];exact hx
 rw[Q_ s]
 by_cases g:i.op=17
 .rw[T_ g]
  show FL (hU x).1.e.nw
  rw[f];exact hx
 rw[Q_ g];exact hx
theorem AA{l:List In}{k:Nat}(h:kU l k=true):D_ (l.getD k default):=by
 unfold kU jS at h;generalize l.getD k default=x at*;obtain⟨op,a,b,c,n⟩:=x;simp only at h;split at h
 .cases h
 split at h
 .cases h
 split at h
 .cases h
 rename_i hc;refine⟨λho=>?_,λho=>?_⟩
 .simp only at ho;subst ho;have e:(i5.getD (7:Int).toNat default).n=4:=rfl;rw[e]at h;simp at h;exact h.2
 .simp only at ho;subst ho;simp at hc;simp only;omega
theorem Bx{c:List In}{hI hF:Int}(hv:ic c hI hF=true)(pc:Int)(r:Nat->Vl)(h:List Ob)(nx:Int):FL (lm c hI hF pc r h nx).nw:=by
 have z:FL ({l0 with pc:=pc+1,r:=r}:pX).nw:=λo ho=>by cases ho
 have a:FL jg.nw:=λo ho=>by cases ho
 unfold lm;split
 .exact a
 .rename_i hr
  have hk:pc≠ -1->D_ (c.getD pc.toNat default):=λhp=>by
   refine AA ?_;unfold ic nS at hv;simp only[ES]at hv;exact EV.mp hv.1.1.2 _ p_
  simp only;split
  .exact a
  .generalize hx:(⟨c,hI,hF,pc,r,h,nx,{l0 with pc:=pc+1,r:=r},false⟩:XP)=x
   have v:FL x.e.nw:=by rw[<-hx];exact z
   have bM:x.js=c:=by rw[<-hx]
   unfold p2;split
   .simp only;split
    .exact v
    .rw[k5,l4];exact v
   .rename_i hp;simp only;split
    .rename_i y hy;rw[yc hy];exact v
    .split
     .rename_i y hy;rw[zm hy];exact v
     .exact zo _ (by rw[bM];exact hk hp) v
theorem Asc.eq{ys zs:List Int}(h:Asc ys P)(k:Asc zs P):ys=zs:=by
 have hp:ys.Perm zs:=(List.perm_ext_iff_of_nodup h.nodup k.nodup).2 λx=>(h.mem x).trans (k.mem x).symm
 exact hp.eq_of_pairwise (le:=(· < ·)) (λa b _ _ h1 h2=>by omega) h.lt k.lt
open Classical in
noncomputable def pick (l:List Int) (P:Int->Prop):List Int:=oX (l.filter (λx=>decide (P x)))
theorem Ad(P:Int->Prop):Asc (pick l P) (λx=>x∈l/\P x):=by
 have h:=mK (l.filter (λx=> @decide (P x) (Classical.propDecidable _)));exact⟨h.lt,λx=>by unfold pick;rw[h.mem];simp⟩
def p7(v:Vl):List Int:=if isRef v=true then[v.n] else[]
def k9(l:List Cl):List Int:=l.flatMap λc=>c.id::p7 c.v
def nv(t:i3):List Int:=k9 t.gs++(k9 t.rs++(k9 t.ws++(t.ds.map (·.id)++m6 t.nw)))
def k8(ts:List i3):List Int:=1::ts.flatMap nv
inductive u2(h:List Ob)(P:Int->Prop):Int->Prop
 |root {x:Int} (hp:P x) (hi:x∈iG h):u2 h P x
 |step {x:Int} {o:Ob} {v:Vl} (hx:u2 h P x) (ho:kn h x=some o) (hv:v∈o.fs) (hr:isRef v=true) (hi:v.n∈iG h):u2 h P v.n
noncomputable def n8 (h:List Ob) (rs:List Int):List Int:=pick (iG h) (u2 h (· ∈rs))
theorem u2.ids{x:Int}(r:u2 h P x):x∈iG h:=by
 cases r with
 |root _ hi=>exact hi
 |step _ _ _ _ hi=>exact hi
theorem ki(h:List Ob)(rs:List Int):Asc (n8 h rs) (u2 h (· ∈rs)):=by
 have q:=Ad (iG h) (u2 h (· ∈rs));exact⟨q.lt,λx=>(q.mem x).trans ⟨λa=>a.2,λa=>⟨a.ids,a⟩⟩⟩
theorem si{n:Int}:n∈iG h↔∃o,kn h n=some o:=by
 constructor
 .intro q;obtain⟨o,ho,rfl⟩:=EM.1 q
  cases e:kn h o.id with
  |some u=>exact⟨u,rfl⟩
  |none=>have:=List.find?_eq_none.1 e o ho;simp at this
 .rintro⟨o,e⟩;exact EM.2 ⟨o,qG e,xZ e⟩
theorem u2.mono{Q:Int->Prop}(hp:∀x,P x->Q x){x:Int}(r:u2 h P x):u2 h Q x:=by
 induction r with
 |root a b=>exact .root (hp _ a) b
 |step _ b c d e Z=>exact .step Z b c d e
structure qT(h:List Ob)(L:List Int)(S S':Int->Prop):Prop where
 up:∀x,S x->S' x
 roots:∀x∈L,x∈iG h->S' x
 sound:∀x,S' x->S x∨u2 h (· ∈L) x
 closed:∀x,S' x->¬S x->∀o,kn h x=some o->∀v∈o.fs,isRef v=true->v.n∈iG h->S' v.n
theorem qT.nil(h:List Ob)(S:Int->Prop):qT h [] S S:=⟨λ_ a=>a,λ_ a=>(by cases a),λ_ a=>.inl a,λ_ a b=>EK a b⟩
theorem qT.congr{T a:Int->Prop}(v:qT h L S S')(h1:∀x,S x↔T x)(h2:∀x,S' x↔a x):qT h L T a:=by
 have aJ:S=T:=funext λx=>propext (h1 x)
 have aG:S'=a:=funext λx=>propext (h2 x)
 rw[<-aJ,<-aG];exact v
theorem qT.app{M:List Int}{c:Int->Prop}(a:qT h L S S')(b:qT h M S' c):qT h (L++M) S c:=by
 refine⟨λx q=>b.up x (a.up x q),λx q hi=>?_,λx q=>?_,λx q n o ho v hv hr hi=>?_⟩
 .rcases X_.1 q with q|q
  .exact b.up x (a.roots x q hi)
  .exact b.roots x q hi
 .rcases b.sound x q with q|q
  .rcases a.sound x q with q|q
   .exact .inl q
   .exact .inr (q.mono λy hy=>E4 _ hy)
  .exact .inr (q.mono λy hy=>Gc _ hy)
 .by_cases bn:S' x
  .exact b.up _ (a.closed x bn n o ho v hv hr hi)
  .exact b.closed x q bn o ho v hv hr hi
theorem qT.skip{n:Int}(q:n∈iG h->S n):qT h [n] S S:=
 ⟨λ_ a=>a,λx a hi=>by rw[I_.1 a]at hi |-;exact q hi,λ_ a=>.inl a,λ_ a b=>EK a b⟩
def rA(fs:List Vl):List Int:=(fs.filter (·.r)).map (·.n)
theorem qT.node{n:Int}{o:Ob}(hg:kn h n=some o)(h0:(0:Int)∉iG h)(v:qT h (rA o.fs) (λx=>S x∨x=n) S'):qT h [n] S S':=by
 have m:n∈iG h:=by
  have e:=xZ hg;exact EM.2 ⟨o,qG hg,e⟩
 have B:∀x,u2 h (· ∈rA o.fs) x->u2 h (· ∈[n]) x:=by
  intro x r
  induction r with
  |root a b=>
   obtain⟨u,hu,rfl⟩:=EM.1 a;obtain⟨hu,hr⟩:=Gm.1 hu;refine .step (.root (I_.2 rfl) m) hg hu ?_ b
   have:u.n≠0:=λe=>h0 (e▸b)
   unfold isRef;simp[hr,this]
  |step _ b c d e Z=>exact .step Z b c d e
 refine⟨λx q=>v.up x (.inl q),λx q hi=>?_,λx q=>?_,λx q nq g ho u hu hr hi=>?_⟩
 .rw[I_.1 q];exact v.up n (.inr rfl)
 .rcases v.sound x q with(q|q)|q
  .exact .inl q
  .rw[q];exact .inr (.root (I_.2 rfl) m)
  .exact .inr (B x q)
 .by_cases e:x=n
  .subst e;rw[hg]at ho;injection ho with ho;subst ho;refine v.roots _ (EM.2 ⟨u,Gm.2 ⟨hu,?_⟩,rfl⟩) hi;unfold isRef at hr;simp at hr;exact hr.1
  .exact v.closed x q (λa=>a.elim nq e) g ho u hu hr hi
theorem qT.reach(v:qT h L (λ_=>False) S')(x:Int):S' x↔u2 h (· ∈L) x:=by
 refine⟨λq=>(v.sound x q).resolve_left id,λr=>?_⟩
 induction r with
 |root a b=>exact v.roots _ a b
 |step _ b c d e Z=>exact v.closed _ Z id _ b _ c d e
open Classical in
noncomputable def tK (h:List Ob) (S:Int->Prop):Nat:=((iG h).filter (λx=> !decide (S x))).length
theorem x2{p q:Int->Bool}(c:∀x∈l,p x=true->q x=true):(l.filter p).length<=(l.filter q).length:=by
 induction l with
 |nil=>simp
 |cons a l Z=>
  have Z:=Z λx hx=>c x (EQ _ hx)
  have ha:=c a E6;rw[Gi,Gi];exact Ku
theorem BO{p q:Int->Bool}(c:∀x∈l,p x=true->q x=true){y:Int}(hy:y∈l)(h1:q y=true)(h2:p y=false):(l.filter p).length<(l.filter q).length:=by
 induction l with
 |nil=>cases hy
 |cons a l Z=>
  have ha:=c a E6
  have hl:=x2 l λx hx=>c x (EQ _ hx)
  rw[Gi,Gi]
  rcases L_.1 hy with rfl|hy
  .rw[T_ h1,Q_ (by rw[h2];decide)];simp;omega
  .have Z:=Z (λx hx=>c x (EQ _ hx)) hy;exact Ku
theorem Cp(hs:∀x,S x->S' x):tK h S'<=tK h S:=by
 unfold tK
 refine x2 _ λx _ hx=>?_
 simp at hx |-
 exact λa=>hx (hs x a)
theorem Co{n:Int}(hn:n∈iG h)(hs:¬S n):tK h (λx=>S x∨x=n)<tK h S:=by
 unfold tK;refine BO _ (λx _ hx=>?_) hn (zu hs) s_;simp at hx |-;exact hx.1
theorem Bd(h:List Ob)(S:Int->Prop):tK h S<=h.length:=by
 unfold tK;exact G_ (Fl _ _) (by unfold iG;simp)
noncomputable def la (h:List Ob) (ts:List i3):List Int:=n8 h (oX (k8 ts))
noncomputable def mi (h:List Ob) (ts:List i3):List Ob:=h.filter λo=>decide (o.id∈la h ts)
noncomputable def th (h:List Ob) (ts:List i3):List Int:=(h.filter λo=> !decide (o.id∈la h ts)).map (·.id)
structure Fx(base:Nat)(T:List TypeId)(w w':World):Prop where
 gr:∀a:World,a.heap.size<=base->Gr [] a w->Gr [] a w'
 iy:∀(k:Nat) (o:Obj),w.heap[k]?=some o->(∀cs t fz,o=.cells cs t fz->t∉T)->w'.heap[k]?=some o
 size:w.heap.size<=w'.heap.size
section
variable{base:Nat}{T:List TypeId}{a b w w':World}
theorem Fx.trans(h:Fx base T a b)(k:Fx base T b w):Fx base T a w:=
 ⟨λx hx hg=>k.gr x hx (h.gr x hx hg),λi o ho hn=>k.iy i o (h.iy i o ho hn) hn,G_ h.size k.size⟩
theorem Fx.jC(h:Gr [] a w):Fx base T a w:=
 ⟨λ_ _ hg=>hg.trans h,λi o ho _=>(h.block i (k6 ho) s_).trans ho,h.size⟩
theorem Fx.app{e:TypeId}(h:App base e a w)(he:e∈T):Fx base T a w:=
 ⟨λx hx hg=>h.gr [] x hx hg,λi o ho hn=>h.iy i o ho (.inr λcs fz f=>hn cs e fz f he),h.size⟩
theorem Fx.one(h:Gr [g] w w')(hk:Bk w g t cs)(hb:base<=g)(ht:t∈T):Fx base T w w':=
 ⟨λx hx hg=>hg.hK h (λy hy=>.inr (by rw[I_]at hy;omega)),λi o ho hn=>(h.block i (k6 ho) (by
   rintro hm;have e:i=g:=zu hm;subst e;unfold Bk at hk;rw[hk]at ho;injection ho with ho
   exact hn cs t _ ho.symm ht)).trans ho,h.size⟩
theorem Fx.bk(k:Fx base T a w)(h:Bk a g t cs)(ht:t∉T:=by decide):Bk w g t cs:=
 k.iy g _ h (λc t' fz e=>by injection e with _ e;subst e;exact ht)
theorem Fx.sl{e:TypeId}{size n:Nat}{xs:List Value}(k:Fx base T a w)(h:Sl a e size A n xs)(ht:e∉T:=by decide):Sl w e size A n xs:=
 ⟨h.1,λhn=>by
   obtain⟨b,off,cs,fz,hA,hb,hc⟩:=h.2 hn
   exact⟨b,off,cs,fz,hA,k.iy b _ hb (λc t' d e=>by injection e with _ e;subst e;exact ht),hc⟩⟩
end
structure GA(base:Nat)(w:World)(g:Nat)(l:List Int):Prop where
 hi:base<=g
 row:∃A c,Bk w g 119 #[.slice A l.length c]/\Zr base w A c l
theorem GA.hG{base:Nat}{w w':World}{l:List Int}(h:GA base w g l)(hg:Gr [] w w'):GA base w' g l:=by
 obtain⟨h1,A,c,h2,h3⟩:=h;exact⟨h1,A,c,h2.hG hg,h3.hG hg⟩
theorem pr{f:TypeId}{base c:Nat}{l ids:List Int}{w:World}(h:GA base w g l)(hi:Sl w f 1 A ids.length (zs ids))(hb:base<=w.heap.size)(hn:l.length+ids.length<=1000000000):
 Calls prog 67 #[q_ g,.slice A ids.length c] w λe w'=>e=.returned (.tuple #[])/\GA base w' g (l++ids)/\Fx base [119,2] w w':=by
 obtain⟨hbg,B,aw,hB,hz⟩:=h;have U:=hB.f_ 0
 go_enter func67,ntmps67
 go_wp2_with (at_builtin;refine Du hz hi hb hn ?_;intro A1 c1 w1 a8 y;have E:=y.bk hB d_;have hf:=E.hH 0;have aQ:=E.f_ 0)
 have I:Gr [g] w1 (w1.setCell (c_ g 0) (.slice A1 (l.length+ids.length) c1)):=(F_ [g] w1).setCell (p:=c_ g 0) (.inl s_) _;refine en_ ⟨rfl,⟨hbg,A1,c1,?_,?_⟩,(Fx.app y s_).trans (Fx.one I E hbg s_)⟩
 .have:=E.hW 0 (.slice A1 (l.length+ids.length) c1)
  exact LO
 .exact ko a8 (λcs fz q=>by have:=E.symm.trans q;injection this with this;injection this with _ t;exact EK t d_) I
theorem tg{base:Nat}{l:List Int}{v:Vl}{w:World}(h:GA base w g l)(hb:base<=w.heap.size)(hn:l.length+(p7 v).length<=1000000000):
 Calls prog 69 #[q_ g,.agg #[.bool v.r,i_ v.n]] w λe w'=>e=.returned (.tuple #[])/\GA base w' g (l++p7 v)/\Fx base [119,2] w w':=by
 refine ia λQ ak=>?_
 obtain⟨W,gb,aT,aU,I,hB⟩:=box1 w 38 #[.bool v.r,i_ v.n];obtain⟨U,ad⟩:=hB.iH;have ay:=h.hG I
 cases hr:v.r with
 |false=>
  have aX:=h_ (show p7 v=[] by unfold p7 isRef;rw[hr];rfl);rw[hr]at U aT;clear hr hB;exact Kw
 |true=>
  rw[hr]at U aT
  by_cases h0:v.n=0
  .have q:(v.n !=0)=false:=by simp[h0]
   have aX:=h_ (show p7 v=[] by unfold p7 isRef;rw[q,Bool.and_false];rfl);clear hr hB h0;exact Kw
  .have q:(v.n !=0)=true:=by simp[h0]
   have aX:=h_ (show p7 v=[v.n] by unfold p7 isRef;rw[hr,q];rfl);have J:=(F_ [] W).alloc (.cells #[i_ v.n] 2);have aK:=h_ (pr (c:=1) (ay.hG J) (Ls.one W v.n) (by have:=I.size;simp;omega) (by rw[aX.out]at hn;simpa using hn));clear hr hB h0
   go_enter func69,ntmps69
   go_wp2_with (go_at_call 67;refine aK.out.mono ?_;rintro e w2⟨rfl,B,ar⟩)
   refine en_ ?_;rw[ak.out,aX.out];exact⟨rfl,B,(Fx.jC (I.trans J)).trans ar⟩
end Go.Proofs.YtenbhdilndfaeaaGreat
