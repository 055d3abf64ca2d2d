import Derived.Test.YtenbhdilndfaeaaGreatM08
import Derived.Test.YtenbhdilndfaeaaGreatM12
import Derived.Test.YtenbhdilndfaeaaGreatM13
import Derived.Maps.AppendAt
set_option maxRecDepth 100000
set_option maxHeartbeats 0
set_option linter.all false
namespace Go.Proofs.YtenbhdilndfaeaaGreat
open Go.RowKit Go.Proofs.Tryz
variable{G:Prop}{P:Program}{L l:List Int}{Q:Exit->Act->World->Prop}{S S':Int->Prop}{o:Oper}{e t:TypeId}{ai g:Nat}{cs:Array Value}{A ap:OA}{xs:List Value}{v:Vl}
def Iq(h:G:=by
 cases aB:v.r with
 |true=>
  exact IA
 |false=>
  exact IA):G:=h
def Iz(h:G:=by
 have j:=U aB;rw[aB]at i;clear aB
 have HM:Hid (hT x.p=(({aC with hO:=true}:X1).p,v.n,(a.fs.length:Int))):=U (by
  rw[lC l.out,<-aO.out];have aK:=s.out.symm;have b8:=HG.out;rw[aK,az.out];unfold iN;rw[b8];have bW:=q.out;simp only[bW,j.out]
  first|rfl|(simp;done)|(simp;rfl))
 clear aO s az HG l q j;exact IH):G:=h
def IA(h:G:=by
 have j:=U aB;rw[aB]at i;clear aB
 have HM:Hid (hT x.p=(({aC with hO:=true}:X1).p,v.n,0)):=U (by
  rw[lC l.out,<-aO.out];have aK:=s.out.symm;have b8:=HG.out;rw[aK,az.out];unfold iN;rw[b8];have bW:=q.out;simp only[bW,j.out]
  first|rfl|(simp;done)|(simp;rfl))
 clear aO s az HG l q j;have hs:=B.set (x':={aC with hO:=true}) 81 (.bool true) rfl rfl rfl rfl rfl rfl rfl rfl;have T:=(H [gx] wc).setCell (p:=(Z gx 81)) (.inl J) (.bool true);have d:wc.cell? (Z gx 81)=some (.bool aC.hO):=(B.bk.f_ 81).trans rfl;rw[F]at d;clear F;have aj:=B.bk.hG 81;have MV:=i.f_ 0;have MU:=i.f_ 1;have aR:=av.f_ 1
 go_upto_region 7 with fail
 have h:=i.ih (p:=(Z gx 81)) (Bk.l8 i B.bk O) (.bool true);have aJ:=av.ih (p:=(Z gx 81)) (Bk.l8 av B.bk O) (.bool true);clear MV MU aR d aj;obtain⟨af,f⟩:=nm_ (wc.setCell (Z gx 81) (.bool true));rw[<-f]at hs h aJ T |-;clear f;refine hN (λw'=>w'.cell? (Z aP 1)=some (Y v.n)/\w'.cell? (Z z 1)=some (.slice aM 0 c4)) 7 k_ ?_;exact JY):G:=h
def IH(h:G:=by
 have hs:=B.set (x':={aC with hO:=true}) 81 (.bool true) rfl rfl rfl rfl rfl rfl rfl rfl;have T:=(H [gx] wc).setCell (p:=(Z gx 81)) (.inl J) (.bool true);have d:wc.cell? (Z gx 81)=some (.bool aC.hO):=(B.bk.f_ 81).trans rfl;rw[F]at d;clear F;have aj:=B.bk.hG 81;have MV:=i.f_ 0;have MU:=i.f_ 1;have aR:=av.f_ 1
 go_upto_region 7 with fail
 have h:=i.ih (p:=(Z gx 81)) (Bk.l8 i B.bk O) (.bool true);have aJ:=av.ih (p:=(Z gx 81)) (Bk.l8 av B.bk O) (.bool true);clear MV MU aR d aj;obtain⟨af,f⟩:=nm_ (wc.setCell (Z gx 81) (.bool true));exact Jl):G:=h
def Jl(h:G:=by
 rw[<-f]at hs h aJ T |-;clear f;refine hN (λw'=>w'.cell? (Z aP 1)=some (Y v.n)/\w'.cell? (Z z 1)=some (.slice aM a.fs.length c4)) 7 k_ ?_;exact JY):G:=h
def JH(h:G:=by
 clear a hz hm;refine jP (W:=aI) (H _ _) k_ k_ ?_
 repeat(go_big_quiet_step (((go_at_call 162;exact Calls.gq (HM.out _)))))
 exact Lh):G:=h
def JT(h:G:=by
 refine rn_ ?_;have hs:=g.set (x':={x with hO:=true}) 81 (.bool true) rfl rfl rfl rfl rfl rfl rfl rfl;exact Lv):G:=h
def JY(h:G:=by
 refine m5 ⟨h.drew.f_ 1,aJ.drew.f_ 1⟩ λC=>?_
 (repeat refine jQ C ?_)
 refine hM k_ ?_ _;go_wp2
 go_ret2
 rw[HM.out];exact⟨_,rfl,hs.hF ((H [] af).drew),rfl,(aD.it T).hF ((H [] af).drew)⟩):G:=h
def J9(h:G:=by
 refine jP (W:=aI) (H _ _) k_ k_ ?_
 repeat(go_big_quiet_step ((fail)))
 exact Lh):G:=h
def KG(h:G:=by
 intro c fz he;have bY:w'.heap[gx]?=some (.cells x.g_ 186 (0,0)):=a;rw[bY]at he;injection he with he;injection he with _ he _;exact FU he O):G:=h
def KY(h:G:=by
 have bY:w.heap[g]?=some (.cells cs t (0,0)):=hk;rw[bY]at hc;injection hc with hc;injection hc with _ hc _;exact ar hc):G:=h
def K6(h:G:=by
 intro he;obtain⟨_,cur,hc⟩:=ao gx he;rw[f]at hc;injection hc with hc;injection hc with _ hc _;exact FU hc O):G:=h
def Lp(h:G:=by
 go_wp2;go_roundw
 case rel=>exact⟨k+1,X,gn,by rw[E.out,aG.out],l.trans a⟩
 case measure=>exact mz):G:=h
def Lv(h:G:=by
 exact⟨_,rfl,hs,HM.out,((XG.refl gx w).hF (hg1.alloc _)).it ((H [gx] _).setCell (.inl J) _)⟩):G:=h
def LA(h:G:=by
 split
 .rename_i hp;rw[U_ (ha hp)]
  simpa using MS
 .split
  .simp;omega
  .exact MS):G:=h
def LC(h:G:=by
 go_enter func69,ntmps69
 go_wp2;refine en_ ?_;rw[aq.out,bp.out,HS];exact⟨rfl,az,.js MZ⟩):G:=h
def LD(h:G:=by
 refine rn_ ?_;exact L7):G:=h
def LH(h:G:=by
 rw[hv]at j
 have:d=g:=by simpa[Value.ownBlock]using j
 subst this;exact⟨s,cur,az⟩):G:=h
def LK(h:G:=by
 rw[hv]at j
 have:d=g:=by simpa[Value.ownBlock]using j
 subst this;exact⟨cur,az⟩):G:=h
def L0(h:G:=by
 rw[hv]at j
 have:d=g:=by simpa[Value.ownBlock]using j
 subst this;exact jU az):G:=h
def L3(h:G:=by
 exact λr hr=>⟨Sl.it (Sl.xg (h.nr r hr).1 h.bk aD) a O T,(h.nr r hr).2⟩):G:=h
def Mh(h:G:=by
 go_enter func162,ntmps162
 go_wp2;go_ret;exact⟨iH (by rw[HM.out]),MZ⟩):G:=h
def Asc.eq{ys zs:List Int}{P:Int->Prop}(h:Asc ys P)(k:Asc zs P):ys=zs:=by
 have c:ys.Perm zs:=(List.perm_ext_iff_of_nodup h.nodup k.nodup).2 λx=>(h.mem x).trans (k.mem x).symm
 exact c.eq_of_pairwise (le:=(· < ·)) (λa b _ _ d f=>by omega) h.lt k.lt
open Classical in
noncomputable def pick (l:List Int) (P:Int->Prop):List Int:=mR (l.filter (λx=>decide (P x)))
def AX(l:List Int)(P:Int->Prop):Asc (pick l P) (λx=>x∈l/\P x):=by
 have h:=ll (l.filter (λx=> @decide (P x) (Classical.propDecidable _)));exact⟨h.lt,λx=>by unfold pick;rw[h.mem];simp⟩
def qh(v:Vl):List Int:=if isRef v=true then[v.n] else[]
def ld(l:List Cl):List Int:=l.flatMap λc=>c.id::qh c.v
def nG(t:i3):List Int:=ld t.gs++(ld t.rs++(ld t.ws++(t.ds.map (·.id)++kd t.nw)))
def k1(ts:List i3):List Int:=1::ts.flatMap nG
inductive uc(h:List Ob)(P:Int->Prop):Int->Prop
 |root {x:Int} (hp:P x) (hi:x∈iF h):uc h P x
 |step {x:Int} {o:Ob} {v:Vl} (hx:uc h P x) (ho:jl h x=some o) (hv:v∈o.fs) (hr:isRef v=true) (hi:v.n∈iF h):uc h P v.n
noncomputable def qj (h:List Ob) (rs:List Int):List Int:=pick (iF h) (uc h (· ∈rs))
def uc.ids{h:List Ob}{P:Int->Prop}{x:Int}(r:uc h P x):x∈iF h:=by
 cases r with
 |root _ c=>exact c
 |step _ _ _ _ c=>exact c
def kn(h:List Ob)(rs:List Int):Asc (qj h rs) (uc h (· ∈rs)):=by
 have c:=AX (iF h) (uc h (· ∈rs));exact⟨c.lt,λx=>(c.mem x).trans ⟨λa=>a.2,λa=>⟨a.ids,a⟩⟩⟩
def nt{h:List Ob}{n:Int}:n∈iF h↔∃o,jl h n=some o:=by
 constructor
 .intro d;obtain⟨o,c,rfl⟩:=FQ.1 d
  cases e:jl h o.id with
  |some f=>exact⟨f,rfl⟩
  |none=>have:=List.find?_eq_none.1 e o c;simp at this
 .rintro⟨o,e⟩;exact FQ.2 ⟨o,nN e,qP e⟩
def uc.mono{h:List Ob}{P Q:Int->Prop}(i:∀x,P x->Q x){x:Int}(r:uc h P x):uc h Q x:=by
 induction r with
 |root a b=>exact .root (i _ a) b
 |step _ b d f e c=>exact .step c b d f e
structure q4(h:List Ob)(L:List Int)(S S':Int->Prop):Prop where
 up:∀x,S x->S' x
 roots:∀x∈L,x∈iF h->S' x
 sound:∀x,S' x->S x∨uc h (· ∈L) x
 closed:∀x,S' x->¬S x->∀o,jl h x=some o->∀v∈o.fs,isRef v=true->v.n∈iF h->S' v.n
def q4.nil(h:List Ob)(S:Int->Prop):q4 h [] S S:=⟨λ_ a=>a,λ_ a=>(by cases a),λ_ a=>.inl a,λ_ a b=>FU a b⟩
def q4.congr{h:List Ob}{T a:Int->Prop}(v:q4 h L S S')(f:∀x,S x↔T x)(i:∀x,S' x↔a x):q4 h L T a:=by
 have d:S=T:=funext λx=>propext (f x)
 have c:S'=a:=funext λx=>propext (i x)
 rw[<-d,<-c];exact v
def q4.app{h:List Ob}{M:List Int}{c:Int->Prop}(a:q4 h L S S')(b:q4 h M S' c):q4 h (L++M) S c:=by
 refine⟨λx d=>b.up x (a.up x d),λx d f=>?_,λx d=>?_,λx d n o j v m k f=>?_⟩
 .rcases X_.1 d with d|d
  .exact b.up x (a.roots x d f)
  .exact b.roots x d f
 .rcases b.sound x d with d|d
  .rcases a.sound x d with d|d
   .exact .inl d
   .exact .inr (d.mono λp i=>F9 _ i)
  .exact .inr (d.mono λp i=>Hc _ i)
 .by_cases i:S' x
  .exact b.up _ (a.closed x i n o j v m k f)
  .exact b.closed x d i o j v m k f
def q4.skip{h:List Ob}{n:Int}(q:n∈iF h->S n):q4 h [n] S S:=
 ⟨λ_ a=>a,λx a c=>by rw[I_.1 a]at c |-;exact q c,λ_ a=>.inl a,λ_ a b=>FU a b⟩
def rL(fs:List Vl):List Int:=(fs.filter (·.r)).map (·.n)
def q4.node{h:List Ob}{n:Int}{o:Ob}(j:jl h n=some o)(h0:(0:Int)∉iF h)(v:q4 h (rL o.fs) (λx=>S x∨x=n) S'):q4 h [n] S S':=by
 have p:n∈iF h:=by
  have e:=qP j;exact FQ.2 ⟨o,nN j,e⟩
 have q:∀x,uc h (· ∈rL o.fs) x->uc h (· ∈[n]) x:=by
  intro x y
  induction y with
  |root a b=>
   obtain⟨k,f,rfl⟩:=FQ.1 a;obtain⟨f,d⟩:=GY.1 f;refine .step (.root (I_.2 rfl) p) j f ?_ b
   have:k.n≠0:=λe=>h0 (e▸b)
   unfold isRef;simp[d,this]
  |step _ b s u e r=>exact .step r b s u e
 refine⟨λx c=>v.up x (.inl c),λx c m=>?_,λx c=>?_,λx c nq g i k f d m=>?_⟩
 .rw[I_.1 c];exact v.up n (.inr rfl)
 .rcases v.sound x c with(c|c)|c
  .exact .inl c
  .rw[c];exact .inr (.root (I_.2 rfl) p)
  .exact .inr (q x c)
 .by_cases e:x=n
  .subst e;rw[j]at i;injection i with i;subst i;refine v.roots _ (FQ.2 ⟨k,GY.2 ⟨f,?_⟩,rfl⟩) m;unfold isRef at d;simp at d;exact d.1
  .exact v.closed x c (λa=>a.elim nq e) g i k f d m
def q4.reach{h:List Ob}(v:q4 h L (λ_=>False) S')(x:Int):S' x↔uc h (· ∈L) x:=by
 refine⟨λi=>(v.sound x i).resolve_left id,λj=>?_⟩
 induction j with
 |root a b=>exact v.roots _ a b
 |step _ b d f e c=>exact v.closed _ c id _ b _ d f e
open Classical in
noncomputable def tX (h:List Ob) (S:Int->Prop):Nat:=((iF h).filter (λx=> !decide (S x))).length
def ym{p q:Int->Bool}(l:List Int)(c:∀x∈l,p x=true->q x=true):(l.filter p).length<=(l.filter q).length:=by
 induction l with
 |nil=>simp
 |cons a l MS=>
  have MS:=MS λx d=>c x (FX _ d)
  have ha:=c a Gi;rw[Ho,Ho];exact LA
def CP{p q:Int->Bool}(c:∀x∈l,p x=true->q x=true){y:Int}(hy:y∈l)(f:q y=true)(i:p y=false):(l.filter p).length<(l.filter q).length:=by
 induction l with
 |nil=>cases hy
 |cons a l MS=>
  have ha:=c a Gi
  have j:=ym l λx d=>c x (FX _ d)
  rw[Ho,Ho]
  rcases M_.1 hy with rfl|hy
  .rw[U_ f,R_ (by rw[i];decide)];simp;omega
  .have MS:=MS (λx d=>c x (FX _ d)) hy;exact LA
def Dr{h:List Ob}(d:∀x,S x->S' x):tX h S'<=tX h S:=by
 unfold tX
 refine ym _ λx _ c=>?_
 simp at c |-
 exact λa=>c (d x a)
def Dq{h:List Ob}{n:Int}(d:n∈iF h)(f:¬S n):tX h (λx=>S x∨x=n)<tX h S:=by
 unfold tX;refine CP (λx _ c=>?_) d (zu f) J;simp at c |-;exact c.1
def B6{h:List Ob}:tX h S<=h.length:=by
 unfold tX;exact G_ (Gx _ _) (by unfold iF;simp)
noncomputable def jx (h:List Ob) (ts:List i3):List Int:=qj h (mR (k1 ts))
noncomputable def jI (h:List Ob) (ts:List i3):List Ob:=h.filter λo=>decide (o.id∈jx h ts)
noncomputable def oD (h:List Ob) (ts:List i3):List Int:=(h.filter λo=> !decide (o.id∈jx h ts)).map (·.id)
structure Fx(base:Nat)(T:List TypeId)(w w':World):Prop where
 gr:∀a:World,a.heap.size<=base->I [] a w->I [] a w'
 iz:∀(k:Nat) (o:Obj),w.heap[k]?=some o->(∀cs t fz,o=.cells cs t fz->t∉T)->w'.heap[k]?=some o
 size:w.heap.size<=w'.heap.size
section
variable{base:Nat}{T:List TypeId}{a b w w':World}
def Fx.trans(h:Fx base T a b)(k:Fx base T b w):Fx base T a w:=
 ⟨λx d i=>k.gr x d (h.gr x d i),λf o j c=>k.iz f o (h.iz f o j c) c,G_ h.size k.size⟩
def Fx.js(h:I [] a w):Fx base T a w:=
 ⟨λ_ _ d=>d.trans h,λf o c _=>(h.block f (la c) J).trans c,h.size⟩
def Fx.app(h:App base e a w)(f:e∈T):Fx base T a w:=
 ⟨λx m i=>h.gr [] x m i,λn o k j=>h.iz n o k (.inr λcs d c=>j cs e d c f),h.size⟩
def Fx.one(h:I [g] w w')(d:Bk w g t cs)(p:base<=g)(m:t∈T):Fx base T w w':=
 ⟨λx r i=>i.hJ h (λs n=>.inr (by rw[I_]at n;omega)),λf o c k=>(h.block f (la c) (by
   rintro j;have e:f=g:=zu j;subst e;unfold Bk at d;rw[d]at c;injection c with c
   exact k cs t _ c.symm m)).trans c,h.size⟩
def Fx.bk(k:Fx base T a w)(h:Bk a g t cs)(ht:t∉T:=by decide):Bk w g t cs:=
 k.iz g _ h (λc t' fz e=>by injection e with _ e;subst e;exact ht)
def Fx.sl{size n:Nat}(k:Fx base T a w)(h:Sl a e size A n xs)(ht:e∉T:=by decide):Sl w e size A n xs:=
 ⟨h.1,λhn=>by
   obtain⟨b,off,cs,fz,hA,hb,hc⟩:=h.2 hn
   exact⟨b,off,cs,fz,hA,k.iz b _ hb (λc t' d e=>by injection e with _ e;subst e;exact ht),hc⟩⟩
end
structure GA(base:Nat)(w:World)(g:Nat)(l:List Int):Prop where
 hi:base<=g
 row:∃A c,Bk w g 119 #[.slice A l.length c]/\Zr base w A c l
def GA.hF{base:Nat}{w w':World}(h:GA base w g l)(c:I [] w w'):GA base w' g l:=by
 obtain⟨f,A,d,i,j⟩:=h;exact⟨f,A,d,i.hF c,j.hF c⟩
def pD{f:TypeId}{base c:Nat}{d:List Int}{w:World}(h:GA base w g l)(u:Sl w f 1 A d.length (zs d))(s:base<=w.heap.size)(y:l.length+d.length<=1000000000):
 Calls prog 67 #[q_ g,.slice A d.length c] w λe w'=>e=.returned (.tuple #[])/\GA base w' g (l++d)/\Fx base [119,2] w w':=by
 obtain⟨q,C,E,n,z⟩:=h;have D:=n.f_ 0
 go_enter func67,ntmps67
 go_wp2_with (at_builtin;refine BO z u s y ?_;intro i j k r G;have P:=G.bk n O;have M:=P.hG 0;have F:=P.f_ 0)
 have m:I [g] k (k.setCell (Z g 0) (.slice i (l.length+d.length) j)):=(H [g] k).setCell (p:=Z g 0) (.inl J) _;refine en_ ⟨rfl,⟨q,i,j,?_,?_⟩,(Fx.app G J).trans (Fx.one m P q J)⟩
 .have:=P.hV 0 (.slice i (l.length+d.length) j)
  exact MR
 .exact ku r (λcs K B=>by have:=P.symm.trans B;injection this with this;injection this with _ t;exact FU t O) m
def tx{base:Nat}{w:World}(h:GA base w g l)(C:base<=w.heap.size)(q:l.length+(qh v).length<=1000000000):
 Calls prog 69 #[q_ g,.agg #[.bool v.r,Y v.n]] w λe w'=>e=.returned (.tuple #[])/\GA base w' g (l++qh v)/\Fx base [119,2] w w':=by
 refine h5 λQ aq=>?_
 obtain⟨n,B,p,z,MZ,i⟩:=box1 w 38 #[.bool v.r,Y v.n];obtain⟨m,y⟩:=i.iC;have az:=h.hF MZ
 cases d:v.r with
 |false=>
  have bp:=U (show qh v=[] by unfold qh isRef;rw[d];rfl);rw[d]at m p;clear d i;exact LC
 |true=>
  rw[d]at m p
  by_cases f:v.n=0
  .have j:(v.n !=0)=false:=by simp[f]
   have bp:=U (show qh v=[] by unfold qh isRef;rw[j,Bool.and_false];rfl);clear d i f;exact LC
  .have j:(v.n !=0)=true:=by simp[f]
   have bp:=U (show qh v=[v.n] by unfold qh isRef;rw[d,j];rfl);have k:=(H [] n).alloc (.cells #[Y v.n] 2);have s:=U (pD (c:=1) (az.hF k) (Ls.one n v.n) (by have:=MZ.size;simp;omega) (by rw[bp.out]at q;simpa using q));clear d i f
   go_enter func69,ntmps69
   go_wp2_with (go_at_call 67;refine s.out.mono ?_;rintro e D⟨rfl,r,u⟩)
   refine en_ ?_;rw[aq.out,bp.out];exact⟨rfl,r,(Fx.js (MZ.trans k)).trans u⟩
section
def ul{w:World}{ops:Array Oper}{a:Act}{K:Act->World->Prop}{E:Prop}(L:o.guard=none)(s x:Operand)(t:TypeId)(W:o.op=.call {callee:=.builtin .append,args:=#[s,x],argTypes:=#[t,t]})(base:Nat)(e:TypeId)(i:TypeInfo){r:Value}(j bytes:Nat)(Y:P.underlying t=some (.slice e))(U:P.info? e=some i)(hz:i.zero=some r)(q:i.size=j)(p:i.bytes=bytes)(C:r.cells.size=j)(I:0<j)(B:0<bytes)(v:Value)(n:Nat)(X:a.eval s=v)(J:w.ownsRow base e j v n xs)(d:Addr)(m c:Nat)(k:List Value)(Z:a.eval x=.slice (some d) m c)(V:k.length=m*j)(f:∀z u,k[z]?=some u->w.cell? (d.add z)=some u)(N:∀u∈k,u.oneCell'=true)(hm:0<m)(y:(n+m)*bytes<=140737488355328)(H:base<=w.heap.size)(h:∀(A':OA) (c':Nat) (w':World),w'.ownsRow base e j (.slice A' (n+m) c') (n+m) (xs++k)->w.grownBy w' v.ownBlock->((Value.slice A' (n+m) c').ownBlock=v.ownBlock∨(Value.slice A' (n+m) c').ownBlock=some w.heap.size)->K (a.put o.dst (.slice A' (n+m) c')) w'):
 if Region.wanted o (yielded ops a.tmps)=true then Oper.wp P o a w K Q else E:=by
 have F:Region.wanted o (yielded ops a.tmps)=true:=by simp[Region.wanted,L]
 rw[U_ F]
 have l:n+m<=maxLen:=by
  have:n+m<=(n+m)*bytes:=Hk _ B
  simp only[maxLen];omega
 obtain⟨v',w',D,h2,O,_,M⟩:=run_append_own_at (P:=P) w base t o.type e i r j bytes Y U hz q p C I v n xs J d m c k V f N l y H;have R:∃A' c',v'=.slice A' (n+m) c':=Lc;obtain⟨A',c',rfl⟩:=R;unfold Oper.wp execOp;simp only[W,resolve,invoke,builtin,Sem.run_bind,Sem.run_pure,Result.andThen_ok,G6,Gm,GZ,X,Z,D];exact h A' c' w' h2 O M
structure XG(gx:Nat)(w w':World):Prop where
 iz:∀g t cs,w.heap[g]?=some (.cells cs t (0,0))->t≠116->g≠gx->w'.heap[g]?=some (.cells cs t (0,0))
 v2:∀g t cs fz,w.heap[g]?=some (.cells cs t fz)->t≠116->g≠gx->w'.heap[g]?=some (.cells cs t fz)
 size:w.heap.size<=w'.heap.size
def XG.refl(gx:Nat)(w:World):XG gx w w:=⟨λ_ _ _ h _ _=>h,λ_ _ _ _ h _ _=>h,H_ _⟩
def XG.trans{gx:Nat}{a b c:World}(h:XG gx a b)(k:XG gx b c):XG gx a c:=
 ⟨λg t cs i d f=>k.iz g t cs (h.iz g t cs i d f) d f,λg t cs j i d f=>k.v2 g t cs j (h.v2 g t cs j i d f) d f,G_ h.size k.size⟩
def jU{w:World}{o:Obj}(h:w.heap[g]?=some o):g<w.heap.size:=by
 rcases FW g w.heap.size with c|c
 .exact c
 .rw[Y_ c]at h
  cases h
def XG.A3{gx:Nat}{w w':World}(h:I [gx] w w'):XG gx w w':=
 ⟨λg t cs c _ d=>(h.block g (jU c) (zu d)).trans c,λg t cs f c _ d=>(h.block g (jU c) (zu d)).trans c,h.size⟩
def XG.hF{gx:Nat}{a w w':World}(h:XG gx a w)(k:I [] w w'):XG gx a w':=h.trans (XG.A3 (k.of_nil _))
def XG.it{gx:Nat}{a w w':World}(h:XG gx a w)(k:I [gx] w w'):XG gx a w':=h.trans (XG.A3 k)
def Bk.xg{gx:Nat}{w w':World}(h:Bk w g t cs)(k:XG gx w w')(ar:g≠gx)(ht:t≠116:=by decide):Bk w' g t cs:=k.iz g t cs h ht ar
def Sl.xg{gx:Nat}{w w':World}{size:Nat}{n:Nat}{a:Array Value}(h:Sl w e size A n xs)(hx:Bk w gx 186 a)(k:XG gx w w')(hc:e≠116:=by decide)(ho:e≠186:=by decide):Sl w' e size A n xs:=
 ⟨h.1,λhn=>by
   obtain⟨b,off,cs,fz,hA,hb,aH⟩:=h.2 hn
   have ar:b≠gx:=by
    intro he;subst he;have h2:w.heap[b]?=some (.cells a 186 (0,0)):=hx;rw[h2]at hb;injection hb with hb;injection hb with _ hb _;exact ho hb.symm
   exact⟨b,off,cs,fz,hA,k.v2 b e cs fz hb hc ar,aH⟩⟩
def Sv.val(s:Sv Cl):Value:=.slice s.A s.l.length s.c
structure kw(b w:World)(gx:Nat)(x:X1):Prop where
 bk:Bk w gx 186 x.g_
 gr:I [gx] b w
 bx:∃cs,Bk b gx 186 cs
 jt:Is b x.jt.A x.jt.l
 h:my b x.h.A x.h.c x.h.l
 rs:w.ownsRow b.heap.size 116 4 x.e.rs.val x.e.rs.l.length (x.e.rs.l.flatMap Cl.E)
 ws:w.ownsRow b.heap.size 116 4 x.e.ws.val x.e.ws.l.length (x.e.ws.l.flatMap Cl.E)
 ne:∀g,x.e.rs.val.ownBlock=some g->x.e.ws.val.ownBlock≠some g
 nw:Os w x.e.nw.A x.e.nw.l
 nr:l5 w x.e.nw.l
 ds:Ds w x.e.ds.A x.e.ds.l
 h8:As w x.e.h8.A x.e.h8.l
 td:x.e.nw.ok
 r8:x.e.ds.ok
 pN:x.e.h8.ok
 il:x.jt.l.length<=1000000000
 hl:x.h.l.length<=1000000000
variable{b w w':World}{gx:Nat}{x:X1}
def kw.Ed(h:kw b w gx x):Is w x.jt.A x.jt.l:=by
 obtain⟨cs,c⟩:=h.bx;exact Sl.it h.jt c O h.gr
def kw.km(h:kw b w gx x):my w x.h.A x.h.c x.h.l:=by
 obtain⟨cs,c⟩:=h.bx;exact h.h.it c O O h.gr
def kw.lt(h:kw b w gx x):gx<b.heap.size:=by
 obtain⟨cs,c⟩:=h.bx;exact c.lt
def kw.hF(h:kw b w gx x)(k:I [] w w'):kw b w' gx x:=
 ⟨h.bk.hF k,h.gr.trans (k.of_nil _),h.bx,h.jt,h.h,iy h.rs k,iy h.ws k,h.ne,h.nw.hF k,h.nr.hF k,h.ds.hF k,h.h8.hF k,h.td,h.r8,h.pN,h.il,h.hl⟩
def kw.r5{x':X1}(h:kw b w gx x)(k:I [gx] w w')(u:Bk w' gx 186 x'.g_)(n:x'.jt=x.jt)(p:x'.h=x.h)(q:x'.e.rs=x.e.rs)(j:x'.e.ws=x.e.ws)(d:x'.e.nw=x.e.nw)(i:x'.e.ds=x.e.ds)(m:x'.e.h8=x.e.h8):kw b w' gx x':=by
 refine⟨u,h.gr.trans k,h.bx,by rw[n];exact h.jt,by rw[p];exact h.h,?_,?_,by rw[q,j];exact h.ne,?_,?_,?_,?_,by rw[d];exact h.td,by rw[i];exact h.r8,by rw[m];exact h.pN,by rw[n];exact h.il,by rw[p];exact h.hl⟩
 .rw[q];exact ku (x:=gx) h.rs (λr s c=>by have f:w.heap[gx]?=some (.cells x.g_ 186 (0,0)):=h.bk;rw[f]at c;injection c with c;injection c with _ c _;exact FU c O) k
 .rw[j];exact ku (x:=gx) h.ws (λr s c=>by have f:w.heap[gx]?=some (.cells x.g_ 186 (0,0)):=h.bk;rw[f]at c;injection c with c;injection c with _ c _;exact FU c O) k
 .rw[d];exact Sl.it h.nw h.bk O k
 .rw[d];exact h.nr.it h.bk O k
 .rw[i];exact Sl.it h.ds h.bk O k
 .rw[m];exact Sl.it h.h8 h.bk O k
def kw.set{x':X1}(h:kw b w gx x)(i:Nat)(u:Value)(hc:x'.g_=x.g_.setIfInBounds i u)(k:x'.jt=x.jt)(m:x'.h=x.h)(n:x'.e.rs=x.e.rs)(f:x'.e.ws=x.e.ws)(d:x'.e.nw=x.e.nw)(c:x'.e.ds=x.e.ds)(j:x'.e.h8=x.e.h8):kw b (w.setCell (Z gx i) u) gx x':=
 h.r5 ((H [gx] w).setCell (p:=(Z gx i)) (.inl J) u) (by rw[hc];exact h.bk.hV i u) k m n f d c j
def kR(v:Value)(P:XP)(b:World)(gx:Nat)(w:World)(e:Ending)(w':World):Prop:=∃x':X1,e=.returned v/\kw b w' gx x'/\x'.p=P/\XG gx w w'
def r7{b w:World}{gx:Nat}{x:X1}(h:kw b w gx x)(v:Array Value):∃W g,w.alloc (.cells v 189)=W/\w.heap.size=g/\kw b W gx x/\Bk W g 189 v/\XG gx w W/\g≠gx:=⟨_,_,rfl,rfl,h.hF ((H [] w).alloc _),P_ w 189 v,(XG.refl gx w).hF ((H [] w).alloc _),by have:=h.bk.lt;omega⟩
end
def oX(A:OA)(c:Nat)(l:List In)(hH hC n:Int)(w:World)(h:Is w A l)(z:l.length<=1000000000):
 Calls prog 162 #[.agg #[.slice A l.length c,Y hH,Y hC],Y n] w λe w'=>e=.returned (.bool (jb l n))/\I [] w w':=by
 have MZ:=(H [] w).alloc (.cells #[.slice A l.length c,Y hH,Y hC] 26);have s:=P_ w 26 #[.slice A l.length c,Y hH,Y hC];have D:=s.f_ 0
 by_cases i:0<=n
 .by_cases f:n<(l.length:Int)
  .obtain⟨d,rfl⟩:∃d:Nat,n=d:=⟨n.toNat,X⟩;have j:d<l.length:=X;have HM:=U (show jb l (d:Int)=(l[d].op==21) by unfold jb;simp[j]);obtain⟨u,B,rfl,y,r,m,p,q⟩:=(h.hF MZ).at_ j;clear r m p q;generalize l[d].op=C at*;generalize l.length=n at*;exact Mh
  .have HM:=U (show jb l n=false by unfold jb;simp[f]);have k:(n<(l.length:Int))=False:=p_;clear f;exact Mh
 .have HM:=U (show jb l n=false by unfold jb;simp[i]);have k:(0<=n)=False:=p_;clear i;exact Mh
def qG(b:World){w:World}(gx:Nat)(x:X1)(M:kw b w gx x):
 Calls prog 116 #[q_ gx] w (kR (.tuple #[]) (iL x.p) b gx w):=by
 have B:w.cell? (Z gx 36)=some (.slice x.h.A x.h.l.length x.h.c):=(M.bk.f_ 36).trans rfl
 cases k:x.hO with
 |true=>
  have m:x.g_[81]?=some (.bool true):=by rw[<-k];rfl
  have HM:Hid (({x with hO:=true}:X1).p=iL x.p):=U (by show _=iL x.p;unfold iL;have e:x.p.hO=true:=k;rw[e];rfl)
  cases j:jl (hX x.h.l) 1 with
  |none=>
   go_enter func116,ntmps116
   go_wp2_with (go_at_call 14;((with_reducible refine(get_none x.h.A x.h.c x.h.l 1 _ M.km.os M.hl j).mono ?_);rintro e c⟨rfl,hg1⟩;have g:=M.hF (hg1.alloc (.cells #[Y 0,n_] 56));have i:=P_ c 56 #[Y 0,n_];have r:=i.f_ 1;have u:(c.alloc (.cells #[Y 0,n_] 56)).cell? (Z gx 81)=some (.bool true):=(g.bk.f_ 81).trans m;have s:=g.bk.hG 81))
   exact JT
  |some o=>
   go_enter func116,ntmps116
   go_wp2_with (go_at_call 14;((with_reducible refine(get_some x.h.A x.h.c x.h.l 1 o _ M.km.os M.km.k5 M.hl j).mono ?_);rintro e c⟨d,f,rfl,y,hg1⟩;have g:=M.hF (hg1.alloc (.cells #[Y o.id,.slice d o.fs.length f] 56));have i:=P_ c 56 #[Y o.id,.slice d o.fs.length f];have r:=i.f_ 1;have u:(c.alloc (.cells #[Y o.id,.slice d o.fs.length f] 56)).cell? (Z gx 81)=some (.bool true):=(g.bk.f_ 81).trans m;have s:=g.bk.hG 81))
   exact JT
 |false=>
  have m:x.g_[81]?=some (.bool false):=by rw[<-k];rfl
  cases j:jl (hX x.h.l) 1 with
  |none=>
   have HM:Hid (({x with hO:=true}:X1).p=iL x.p):=U (by show _=iL x.p;unfold iL;have e:x.p.hO=false:=k;have q:jl x.p.h 1=none:=j;rw[e,q];rfl)
   go_enter func116,ntmps116
   go_wp2_with (go_at_call 14;((with_reducible refine(get_none x.h.A x.h.c x.h.l 1 _ M.km.os M.hl j).mono ?_);rintro e c⟨rfl,hg1⟩;have g:=M.hF (hg1.alloc (.cells #[Y 0,n_] 56));have i:=P_ c 56 #[Y 0,n_];have r:=i.f_ 1;have u:(c.alloc (.cells #[Y 0,n_] 56)).cell? (Z gx 81)=some (.bool false):=(g.bk.f_ 81).trans m;have s:=g.bk.hG 81))
   exact JT
  |some o=>
   by_cases n:(o.fs.length:Int)<3
   .have HM:Hid (({x with hO:=true}:X1).p=iL x.p):=U (by show _=iL x.p;unfold iL;have e:x.p.hO=false:=k;have q:jl x.p.h 1=some o:=j;rw[e,q];simp[n];rfl)
    have z:((o.fs.length:Int)<3)=True:=by simp[n]
    clear n
    go_enter func116,ntmps116
    go_wp2_with (go_at_call 14;((with_reducible refine(get_some x.h.A x.h.c x.h.l 1 o _ M.km.os M.km.k5 M.hl j).mono ?_);rintro e c⟨d,f,rfl,y,hg1⟩;have g:=M.hF (hg1.alloc (.cells #[Y o.id,.slice d o.fs.length f] 56));have i:=P_ c 56 #[Y o.id,.slice d o.fs.length f];have r:=i.f_ 1;have u:(c.alloc (.cells #[Y o.id,.slice d o.fs.length f] 56)).cell? (Z gx 81)=some (.bool false):=(g.bk.f_ 81).trans m;have s:=g.bk.hG 81))
    exact JT
   .have HM:Hid (({x with hO:=false}:X1).p=iL x.p):=U (by show _=iL x.p;unfold iL;have e:x.p.hO=false:=k;have q:jl x.p.h 1=some o:=j;rw[e,q];simp[n];rfl)
    have z:((o.fs.length:Int)<3)=False:=by simp[n]
    clear n
    go_enter func116,ntmps116
    go_wp2_with (go_at_call 14;((with_reducible refine(get_some x.h.A x.h.c x.h.l 1 o _ M.km.os M.km.k5 M.hl j).mono ?_);rintro e c⟨d,f,rfl,y,hg1⟩;have g:=M.hF (hg1.alloc (.cells #[Y o.id,.slice d o.fs.length f] 56));have i:=P_ c 56 #[Y o.id,.slice d o.fs.length f];have r:=i.f_ 1;have u:(c.alloc (.cells #[Y o.id,.slice d o.fs.length f] 56)).cell? (Z gx 81)=some (.bool false):=(g.bk.f_ 81).trans m;have s:=g.bk.hG 81))
    refine rn_ ?_;have hs:=g.set (x':={x with hO:=false}) 81 (.bool false) rfl rfl rfl rfl rfl rfl rfl rfl;exact Lv
def kw.DQ{b w w':World}{gx:Nat}{x:X1}(h:kw b w gx x)(k:Cl)(D:w'.ownsRow b.heap.size 116 4 (.slice ap (x.e.ws.l.length+1) ai) (x.e.ws.l.length+1) (x.e.ws.l.flatMap Cl.E++Cl.E k))(q:w.grownBy w' x.e.ws.val.ownBlock)(u:(Value.slice ap (x.e.ws.l.length+1) ai).ownBlock=x.e.ws.val.ownBlock∨(Value.slice ap (x.e.ws.l.length+1) ai).ownBlock=some w.heap.size):
 kw b (w'.setCell (Z gx 73) (.slice ap (x.e.ws.l.length+1) ai)) gx ({x with e:={x.e with ws:=⟨ap,ai,x.e.ws.l++[k]⟩}}:X1)/\XG gx w (w'.setCell (Z gx 73) (.slice ap (x.e.ws.l.length+1) ai)):=by
 have y:(x.e.ws.l++[k]).length=x.e.ws.l.length+1:=J
 have ao:∀g,x.e.ws.val.ownBlock=some g->b.heap.size<=g/\∃cur,w.heap[g]?=some (.cells cur 116 (0,0)):=by
  intro g j
  rcases h.ws.2 with⟨hv,_⟩|⟨d,z,cur,hv,s,az,_⟩
  .rw[hv]at j
   cases j
  .exact LH
 have K:∀g,x.e.rs.val.ownBlock=some g->g<w.heap.size:=by
  intro g j
  rcases h.rs.2 with⟨hv,_⟩|⟨d,z,cur,hv,s,az,_⟩
  .rw[hv]at j
   cases j
  .exact L0
 have f:w.heap[gx]?=some (.cells x.g_ 186 (0,0)):=h.bk;have l:x.e.ws.val.ownBlock≠some gx:=K6;have a:Bk w' gx 186 x.g_:=(q.block gx (jU f) (Ne.symm l)).trans f
 have aD:XG gx w w':=⟨λg t cs i n m=>(q.block g (jU i) (λhe=>by
  obtain⟨_,cur,hc⟩:=ao g he.symm;rw[i]at hc;injection hc with hc;injection hc with _ hc _
  exact n hc)).trans i,λg t cs fz i n m=>(q.block g (jU i) (λhe=>by
  obtain⟨_,cur,hc⟩:=ao g he.symm;rw[i]at hc;injection hc with hc;injection hc with _ hc _
  exact n hc)).trans i,q.size⟩
 have T:=(H [gx] w').setCell (p:=(Z gx 73)) (.inl J) (.slice ap (x.e.ws.l.length+1) ai);have B:∀c fz,w'.heap[gx]?≠some (.cells c 116 fz):=KG
 have I:w'.ownsRow b.heap.size 116 4 x.e.rs.val x.e.rs.l.length (x.e.rs.l.flatMap Cl.E):=by
  refine h.rs.kept q ?_
  rcases h.rs.2 with⟨hv,_⟩|⟨d,z,cur,hv,_⟩
  .exact .inl (by rw[hv];rfl)
  .right;rw[hv];intro he
   have C:x.e.rs.val.ownBlock=some d:=by rw[hv];rfl
   have E:x.e.ws.val.ownBlock=some d:=he.symm.trans rfl;exact h.ne d C E
 refine⟨⟨?_,(h.gr.grown q (λM F=>.inr (ao M F).1)).trans T,h.bx,h.jt,h.h,?_,?_,?_,?_,?_,?_,?_,h.td,h.r8,h.pN,h.il,h.hl⟩,aD.it T⟩
 .have e:({x with e:={x.e with ws:=⟨ap,ai,x.e.ws.l++[k]⟩}}:X1).g_=x.g_.setIfInBounds 73 (.slice ap (x.e.ws.l.length+1) ai):=by rw[<-y];rfl
  rw[e];exact a.hV 73 _
 .exact ku (x:=gx) I B T
 .show World.ownsRow _ _ _ _ (.slice ap (x.e.ws.l++[k]).length ai) (x.e.ws.l++[k]).length ((x.e.ws.l++[k]).flatMap Cl.E)
  rw[y,F8]
  simpa using ku (x:=gx) D B T
 .intro g i n
  rcases u with u|u
  .exact h.ne g i (by rw[<-u,<-y];exact n)
  .have m:=n;unfold Sv.val at m;simp only at m;rw[y,u]at m;injection m with m
   have:=K g i
   omega
 .exact Sl.it (Sl.xg h.nw h.bk aD) a O T
 .exact L3
 .exact Sl.it (Sl.xg h.ds h.bk aD) a O T
 .exact Sl.it (Sl.xg h.h8 h.bk aD) a O T
def kw.DR{b w w':World}{gx:Nat}{x:X1}(h:kw b w gx x)(k:Cl)(D:w'.ownsRow b.heap.size 116 4 (.slice ap (x.e.rs.l.length+1) ai) (x.e.rs.l.length+1) (x.e.rs.l.flatMap Cl.E++Cl.E k))(q:w.grownBy w' x.e.rs.val.ownBlock)(u:(Value.slice ap (x.e.rs.l.length+1) ai).ownBlock=x.e.rs.val.ownBlock∨(Value.slice ap (x.e.rs.l.length+1) ai).ownBlock=some w.heap.size):
 kw b (w'.setCell (Z gx 72) (.slice ap (x.e.rs.l.length+1) ai)) gx ({x with e:={x.e with rs:=⟨ap,ai,x.e.rs.l++[k]⟩}}:X1)/\XG gx w (w'.setCell (Z gx 72) (.slice ap (x.e.rs.l.length+1) ai)):=by
 have y:(x.e.rs.l++[k]).length=x.e.rs.l.length+1:=J
 have ao:∀g,x.e.rs.val.ownBlock=some g->b.heap.size<=g/\∃cur,w.heap[g]?=some (.cells cur 116 (0,0)):=by
  intro g j
  rcases h.rs.2 with⟨hv,_⟩|⟨d,z,cur,hv,s,az,_⟩
  .rw[hv]at j
   cases j
  .exact LH
 have K:∀g,x.e.ws.val.ownBlock=some g->g<w.heap.size:=by
  intro g j
  rcases h.ws.2 with⟨hv,_⟩|⟨d,z,cur,hv,s,az,_⟩
  .rw[hv]at j
   cases j
  .exact L0
 have f:w.heap[gx]?=some (.cells x.g_ 186 (0,0)):=h.bk;have l:x.e.rs.val.ownBlock≠some gx:=K6;have a:Bk w' gx 186 x.g_:=(q.block gx (jU f) (Ne.symm l)).trans f
 have aD:XG gx w w':=⟨λg t cs i n m=>(q.block g (jU i) (λhe=>by
  obtain⟨_,cur,hc⟩:=ao g he.symm;rw[i]at hc;injection hc with hc;injection hc with _ hc _
  exact n hc)).trans i,λg t cs fz i n m=>(q.block g (jU i) (λhe=>by
  obtain⟨_,cur,hc⟩:=ao g he.symm;rw[i]at hc;injection hc with hc;injection hc with _ hc _
  exact n hc)).trans i,q.size⟩
 have T:=(H [gx] w').setCell (p:=(Z gx 72)) (.inl J) (.slice ap (x.e.rs.l.length+1) ai);have B:∀c fz,w'.heap[gx]?≠some (.cells c 116 fz):=KG
 have I:w'.ownsRow b.heap.size 116 4 x.e.ws.val x.e.ws.l.length (x.e.ws.l.flatMap Cl.E):=by
  refine h.ws.kept q ?_
  rcases h.ws.2 with⟨hv,_⟩|⟨d,z,cur,hv,_⟩
  .exact .inl (by rw[hv];rfl)
  .right;rw[hv];intro he
   have C:x.e.ws.val.ownBlock=some d:=by rw[hv];rfl
   have E:x.e.rs.val.ownBlock=some d:=he.symm.trans rfl;exact h.ne d E C
 refine⟨⟨?_,(h.gr.grown q (λM F=>.inr (ao M F).1)).trans T,h.bx,h.jt,h.h,?_,?_,?_,?_,?_,?_,?_,h.td,h.r8,h.pN,h.il,h.hl⟩,aD.it T⟩
 .have e:({x with e:={x.e with rs:=⟨ap,ai,x.e.rs.l++[k]⟩}}:X1).g_=x.g_.setIfInBounds 72 (.slice ap (x.e.rs.l.length+1) ai):=by rw[<-y];rfl
  rw[e];exact a.hV 72 _
 .show World.ownsRow _ _ _ _ (.slice ap (x.e.rs.l++[k]).length ai) (x.e.rs.l++[k]).length ((x.e.rs.l++[k]).flatMap Cl.E)
  rw[y,F8]
  simpa using ku (x:=gx) D B T
 .exact ku (x:=gx) I B T
 .intro g i n
  rcases u with u|u
  .exact h.ne g (by rw[<-u,<-y];exact i) n
  .have m:=i;unfold Sv.val at m;simp only at m;rw[y,u]at m;injection m with m
   have:=K g n
   omega
 .exact Sl.it (Sl.xg h.nw h.bk aD) a O T
 .exact L3
 .exact Sl.it (Sl.xg h.ds h.bk aD) a O T
 .exact Sl.it (Sl.xg h.h8 h.bk aD) a O T
def kw.AG{b w:World}{gx:Nat}{x:X1}(h:kw b w gx x):∀g,x.e.ws.val.ownBlock=some g->∃cur,w.heap[g]?=some (.cells cur 116 (0,0)):=by
 intro g j
 rcases h.ws.2 with⟨hv,_⟩|⟨d,c,cur,hv,f,az,_⟩
 .rw[hv]at j
  cases j
 .exact LK
def kw.Bu{b w w':World}{gx:Nat}{x:X1}(h:kw b w gx x)(d:w.grownBy w' x.e.ws.val.ownBlock)(hk:Bk w g t cs)(ar:t≠116):Bk w' g t cs:=by
 refine(d.block g hk.lt (λc=>?_)).trans hk;obtain⟨f,hc⟩:=h.AG g c.symm;exact KY
def kw.CC{b w w':World}{gx:Nat}{x:X1}(h:kw b w gx x)(c:w.grownBy w' x.e.ws.val.ownBlock):Bk w' gx 186 x.g_:=h.Bu c h.bk O
def kw.AH{b w:World}{gx:Nat}{x:X1}(h:kw b w gx x):∀g,x.e.rs.val.ownBlock=some g->∃cur,w.heap[g]?=some (.cells cur 116 (0,0)):=by
 intro g j
 rcases h.rs.2 with⟨hv,_⟩|⟨d,c,cur,hv,f,az,_⟩
 .rw[hv]at j
  cases j
 .exact LK
def kw.xD{b w w':World}{gx:Nat}{x:X1}(h:kw b w gx x)(d:w.grownBy w' x.e.rs.val.ownBlock)(hk:Bk w g t cs)(ar:t≠116):Bk w' g t cs:=by
 refine(d.block g hk.lt (λc=>?_)).trans hk;obtain⟨f,hc⟩:=h.AH g c.symm;exact KY
def kw.CD{b w w':World}{gx:Nat}{x:X1}(h:kw b w gx x)(c:w.grownBy w' x.e.rs.val.ownBlock):Bk w' gx 186 x.g_:=h.xD c h.bk O
def j6(b:World){w:World}(gx:Nat)(x:X1)(id f:Int)(v:Vl)(M:kw b w gx x)(hn:x.e.ws.l.length<=1000000):
 Calls prog 163 #[q_ gx,Y id,Y f,.agg (V_ v)] w (kR (.tuple #[]) (ib x.p id f v) b gx w):=by
 obtain⟨K,J,F,C,R⟩:=info_parts infoCl;have n:=P_ w 38 (V_ v);have p:=(H [] w).alloc (.cells (V_ v) 38);have g:=M.hF p
 go_enter func163,ntmps163
 go_upto_region 1 with fail
 obtain⟨i,Q⟩:=nm_ (w.alloc (.cells (V_ v) 38));rw[<-Q]at n p g |-;clear Q;have L:I [] i i.drew:=(H [] i).drew;refine hN (λw'=>w'.cell? (Z gx 73)=some (.slice x.e.ws.A x.e.ws.l.length x.e.ws.c)/\w'.cell? (Z w.heap.size 0)=some (.bool v.r)/\w'.cell? (Z w.heap.size 1)=some (Y v.n)) 15 k_ ?_
 refine m5 ⟨((g.bk.hF L).f_ 73).trans rfl,(n.hF L).f_ 0,(n.hF L).f_ 1⟩ λd=>?_
 repeat refine jQ d ?_
 refine hZ 10 λj c=>?_
 go_simp;have k:I [] i ((i.alloc (.cells #[Y id,Y f,.bool v.r,Y v.n] 116)).drew):=((H [] i).alloc _).drew;clear d;have d:((i.alloc (.cells #[Y id,Y f,.bool v.r,Y v.n] 116)).drew).cell? (Z gx 73)=some (.slice x.e.ws.A x.e.ws.l.length x.e.ws.c)/\((i.alloc (.cells #[Y id,Y f,.bool v.r,Y v.n] 116)).drew).cell? (Z w.heap.size 0)=some (.bool v.r)/\((i.alloc (.cells #[Y id,Y f,.bool v.r,Y v.n] 116)).drew).cell? (Z w.heap.size 1)=some (Y v.n):=⟨((g.bk.hF k).f_ 73).trans rfl,(n.hF k).f_ 0,(n.hF k).f_ 1⟩;have u:Bk ((i.alloc (.cells #[Y id,Y f,.bool v.r,Y v.n] 116)).drew) i.heap.size 116 #[Y id,Y f,.bool v.r,Y v.n]:=(P_ i 116 #[Y id,Y f,.bool v.r,Y v.n]).drew;have m:=g.hF k;obtain⟨aX,y⟩:=nm_ ((i.alloc (.cells #[Y id,Y f,.bool v.r,Y v.n] 116)).drew);rw[<-y]at k d u m |-;clear y;generalize i.heap.size=T at*;obtain⟨ad,q,E⟩:=(kP (s:=4) u rfl).mW O;injection q with q;subst q
 refine h4 c d λd=>?_
 clear c j
 refine hZ 11 λj c=>?_
 refine ul rfl (.tmp 13) (.tmp 18) 50 rfl (b.heap.size) 116 K 4 32 underlying50 J F C R rfl O O (.slice x.e.ws.A x.e.ws.l.length x.e.ws.c) x.e.ws.l.length r_ m.ws (Z T 0) 1 1 (Cl.E ⟨id,f,v⟩) r_ rfl E (by intro W U;exact pJ [⟨id,f,v⟩] W (zu U)) O X m.gr.size ?_;intro ap ai D N S V;obtain⟨P,B⟩:=m.DQ ⟨id,f,v⟩ N S V;have r:=m.CC S;have z:Bk D w.heap.size 38 (V_ v):=m.Bu S (n.hF k) O;have ae:=r.f_ 73;have a:=r.hG 73;clear d
 refine h4 c ⟨(r.f_ 73).trans rfl,z.f_ 0,z.f_ 1⟩ λd=>?_
 clear c j
 refine hZ 12 λj c=>?_
 go_simp
 refine h4 c d λd=>?_
 clear c j
 refine hZ 13 λj c=>?_
 go_simp
 refine h4 c d λd=>?_
 clear c j
 refine hZ 14 λj c=>?_
 go_simp
 refine h4 c d λd=>?_
 clear c j
 refine hZ 15 λj c=>?_
 go_simp;refine c.out _ _ (λh=>FU h O) ?_;clear c j
 try simp only[a_]
 refine hM k_ ?_ _;go_wp2;refine en_ ?_;exact⟨_,rfl,P,rfl,((XG.refl gx w).hF (p.trans k)).trans B⟩
def XG.new{gx:Nat}{w m j:World}(h:XG gx w m)(k:I [g] m j)(p:w.heap.size<=g):XG gx w j:=
 ⟨λd t cs c f i=>(k.block d (jU (h.iz d t cs c f i)) (by have:=jU c;simp;omega)).trans (h.iz d t cs c f i),
  λd t cs n c f i=>(k.block d (jU (h.v2 d t cs n c f i)) (by have:=jU c;simp;omega)).trans (h.v2 d t cs n c f i),G_ h.size k.size⟩
def Bk.pU{w:World}(h:Bk w g t cs)(ar:e≠t):∀c fz,w.heap[g]?≠some (.cells c e fz):=KH
def kw.late{b w c j:World}{gx:Nat}{x d:X1}(h:kw b c gx d)(h0:kw b w gx x)(m:d.e.nw=x.e.nw)(u:d.e.ds=x.e.ds)(C:d.e.h8=x.e.h8)(k:I [g] c j)(B:w.heap.size<=g)(n:Bk c g t cs)(J:t≠116)(a:t≠186)(i:XG gx w j):kw b j gx d:=by
 have z:gx≠g:=by
  intro H;subst H;have F:c.heap[gx]?=some (.cells d.g_ 186 (0,0)):=h.bk;have f:c.heap[gx]?=some (.cells cs t (0,0)):=n;rw[F]at f;injection f with f;injection f with _ f _;exact a f.symm
 have r:∀D E,c.heap[g]?≠some (.cells D 116 E):=n.pU (Ne.symm J);refine⟨h.bk.gr k (zu z),h.gr.hJ k (λq y=>Or.inr (by rw[show q=g from by simpa using y];exact G_ h0.gr.size B)),h.bx,h.jt,h.h,ku (x:=g) h.rs r k,ku (x:=g) h.ws r k,h.ne,?_,?_,?_,?_,h.td,h.r8,h.pN,h.il,h.hl⟩
 .rw[m];exact Sl.xg h0.nw h0.bk i
 .rw[m]
  exact λs p=>⟨Sl.xg (h0.nr s p).1 h0.bk i,(h0.nr s p).2⟩
 .rw[u];exact Sl.xg h0.ds h0.bk i
 .rw[C];exact Sl.xg h0.h8 h0.bk i
def mZ(P:XP)(v:Vl)(b:World)(gx:Nat)(w:World)(e:Ending)(w':World):Prop:=∃x':X1,e=.returned (.agg (V_ v))/\kw b w' gx x'/\x'.p=P/\XG gx w w'
def vM(b w:World)(gx:Nat)(x:X1)(id f:Int)(M:kw b w gx x)(hn:x.e.rs.l.length<=1000000)(m:jy (hX x.h.l) id f=none):
 Calls prog 118 #[q_ gx,Y id,Y f] w (mZ (hW x.p id f).1 (hW x.p id f).2 b gx w):=by
 have F:=U m;have HM:Hid (hW x.p id f=({x.p with hO:=true},default)):=U (by unfold hW;have e:jy x.p.h id f=none:=m;rw[e]);clear m;have k:=(H [] w).alloc (.cells #[.bool false,Y 0] 38);have u:=P_ w 38 #[.bool false,Y 0];have g:=M.hF k
 go_enter func118,ntmps118
 go_upto_region 1 with fail
 obtain⟨s,Q⟩:=nm_ (w.alloc (.cells #[.bool false,Y 0] 38));rw[<-Q]at u k g |-;clear Q;have R:s.cell? (Z gx 36)=some (.slice x.h.A x.h.l.length x.h.c):=(g.bk.f_ 36).trans rfl;have z:gx≠w.heap.size:=ov M.bk.lt
 go_upto_region 3 with(go_at_call 148;((with_reducible refine(kB x.h.A x.h.c x.h.l id f _ g.km.os g.km.k5 M.hl).mono ?_);rintro e c⟨rfl,j⟩;rw[F.out];simp only[HN,HV];have i:=g.hF (j.alloc (.cells (V_ (default:Vl)) 38));have D:=(u.hF j).alloc (.cells (V_ (default:Vl)) 38);have hL:Bk (c.alloc (.cells (V_ (default:Vl)) 38)) c.heap.size 38 (V_ (default:Vl)):=P_ c 38 (V_ (default:Vl));have B:I [] s (c.alloc (.cells (V_ (default:Vl)) 38)):=j.alloc _;have W:(c.alloc (.cells (V_ (default:Vl)) 38)).cell? (Z gx 72)=some (.slice x.e.rs.A x.e.rs.l.length x.e.rs.c):=(i.bk.f_ 72).trans rfl))
 have ad:(c.alloc (.cells (V_ (default:Vl)) 38)).cell? (Z gx 81)=some (.bool x.hO):=(i.bk.f_ 81).trans rfl;have V:=i.bk.hG 81;have y:=i.set (x':={x with hO:=true}) 81 (.bool true) rfl rfl rfl rfl rfl rfl rfl rfl;have d:=D.ih (p:=(Z gx 81)) (Ne.symm z) (.bool true);have N:=d.f_ 0;have K:=d.f_ 1;have X:=d.hG 0;have bM:=d.hG 1;go_wp2;have E:=(d.hV 0 (.bool false)).hV 1 (Y 0);have C:I [gx] w ((c.alloc (.cells (V_ (default:Vl)) 38)).setCell (Z gx 81) (.bool true)):=(((k.trans B).of_nil [gx])).setCell (p:=(Z gx 81)) (.inl J) _;have n:=((H [w.heap.size] ((c.alloc (.cells (V_ (default:Vl)) 38)).setCell (Z gx 81) (.bool true))).setCell (p:=(Z w.heap.size 0)) (.inl J) (.bool false)).setCell (p:=(Z w.heap.size 1)) (.inl J) (Y 0);have r:=(XG.A3 C).new n (H_ _);refine rr_ #[.bool false,Y 0] E underlying38 ?_;rw[HM.out];exact⟨_,rfl,y.late M rfl rfl rfl n (H_ _) d O O r,rfl,r⟩
def yy{x:XP}{id f:Int}(h:jy x.h id f=some v)(hc:0<=cat x.e.rs id f):hW x id f=(x,v):=by
 unfold hW;rw[h];simp[hc]
def wK{x:XP}{id f:Int}(h:jy x.h id f=some v)(hc:cat x.e.rs id f= -1):hW x id f=({x with e:={x.e with rs:=x.e.rs++[⟨id,f,v⟩]}},v):=by
 unfold hW;rw[h];simp[hc]
def vL(b w:World)(gx:Nat)(x:X1)(id f:Int)(M:kw b w gx x)(hn:x.e.rs.l.length<=1000000)(v:Vl)(hr:jy (hX x.h.l) id f=some v):
 Calls prog 118 #[q_ gx,Y id,Y f] w (mZ (hW x.p id f).1 (hW x.p id f).2 b gx w):=by
 have al:=U hr;have bl:=U (show cat x.e.rs.l id f=iE (λd:Cl=>d.id==id&&d.f==f) (x.e.rs.l.drop 0) 0 from rfl);clear hr;obtain⟨bJ,bG,bA,a6,be⟩:=info_parts infoCl;have N:=(H [] w).alloc (.cells #[.bool false,Y 0] 38);have hR:=P_ w 38 #[.bool false,Y 0];have g:=M.hF N
 go_enter func118,ntmps118
 go_upto_region 1 with fail
 obtain⟨am,Q⟩:=nm_ (w.alloc (.cells #[.bool false,Y 0] 38));rw[<-Q]at hR N g |-;clear Q;have an:am.cell? (Z gx 36)=some (.slice x.h.A x.h.l.length x.h.c):=(g.bk.f_ 36).trans rfl;have MS:gx≠w.heap.size:=ov M.bk.lt
 go_wp2_with (go_at_call 148;((with_reducible refine(kB x.h.A x.h.c x.h.l id f _ g.km.os g.km.k5 M.hl).mono ?_);rintro e z⟨rfl,F⟩;rw[al.out];simp only[GI,Hs];have m:=g.hF (F.alloc (.cells (V_ v) 38));have ck:=(hR.hF F).alloc (.cells (V_ v) 38);have n:Bk (z.alloc (.cells (V_ v) 38)) z.heap.size 38 (V_ v):=P_ z 38 (V_ v);have aq:I [] am (z.alloc (.cells (V_ v) 38)):=F.alloc _;have ar:(z.alloc (.cells (V_ v) 38)).cell? (Z gx 72)=some (.slice x.e.rs.A x.e.rs.l.length x.e.rs.c):=(m.bk.f_ 72).trans rfl))
 have aU:=M;have A:=ck;clear ck hR g an ar;obtain⟨aX,bE⟩:=nm_ (z.alloc (.cells (V_ v) 38));rw[<-bE]at m A n aq |-;clear bE;clear F;generalize z.heap.size=D at*;have av:=m
 go_loopw [33] (λaA wr=>∃k:Nat,k<=x.e.rs.l.length/\aA=Y k/\cat x.e.rs.l id f=iE (λd:Cl=>d.id==id&&d.f==f) (x.e.rs.l.drop k) k/\I [] aX wr) (λaA _=>x.e.rs.l.length-(intOf aA).toNat)
 case atStart=>exact⟨0,N_ _,rfl,bl.out,H _ _⟩
 case round=>
  obtain⟨k,hk,rfl,G,l⟩:=hrel;have E:=U G;clear G;replace m:=av.hF l;replace n:=n.hF l;replace A:=A.hF l
  by_cases R:k<x.e.rs.l.length
  .have aw:(k:Int)<(x.e.rs.l.length:Int):=X;obtain⟨bC,off,aZ,bj,bz,bP,bQ⟩:=Cs.at_ (Sl.iR m.rs) R;rw[aZ];have a2:=U (show x.e.rs.l.drop k=x.e.rs.l[k]::x.e.rs.l.drop (k+1) from Q_ R);have bS:=U (λy:((λd:Cl=>d.id==id&&d.f==f) x.e.rs.l[k]=true)=>k2 (λd:Cl=>d.id==id&&d.f==f) x.e.rs.l k k R y);have V:=U (λy:((λd:Cl=>d.id==id&&d.f==f) x.e.rs.l[k]=false)=>ka (λd:Cl=>d.id==id&&d.f==f) x.e.rs.l k k R y);generalize x.e.rs.l[k]=c at*;have t:=P_ wr 116 #[Y c.id,Y c.f,.bool c.v.r,Y c.v.n];have a:=(H [] wr).alloc (.cells #[Y c.id,Y c.f,.bool c.v.r,Y c.v.n] 116);have z0:=t.f_ 0;have aR:=t.f_ 1
   by_cases j:c.id=id
   .have r:(c.id==id)=true:=zu j
    by_cases u:c.f=f
    .have K:(c.f==f)=true:=zu u;have aG:=U (show 0<=cat x.p.e.rs id f by show 0<=cat x.e.rs.l id f;rw[E.out,bS.out (by simp[r,K])];omega);have HM:=U (yy (x:=x.p) al.out aG.out);clear j u;have W:=n.hF a;have MV:=W.f_ 0;have MU:=W.f_ 1;have i:=A.hF a;have bW:=i.f_ 0;have r1:=i.f_ 1;have bB:=i.hG 0;have bM:=i.hG 1;go_wp2;have aB:=(i.hV 0 (.bool v.r)).hV 1 (Y v.n);have bF:I [] w (wr.alloc (.cells #[Y c.id,Y c.f,.bool c.v.r,Y c.v.n] 116)):=((N.trans aq).trans l).trans a;have B:=((H [w.heap.size] (wr.alloc (.cells #[Y c.id,Y c.f,.bool c.v.r,Y c.v.n] 116))).setCell (p:=(Z w.heap.size 0)) (.inl J) (.bool v.r)).setCell (p:=(Z w.heap.size 1)) (.inl J) (Y v.n);have C:=((XG.refl gx w).hF bF).new B (H_ _);refine rr_ (V_ v) aB underlying38 ?_;rw[HM.out];exact⟨_,rfl,(m.hF a).late aU rfl rfl rfl B (H_ _) i O O C,rfl,C⟩
    .have K:(c.f==f)=false:=zu u;have aG:=U (V.out (by simp[r,K]));clear j u;exact Lp
   .have r:(c.id==id)=false:=zu j;have aG:=U (V.out (by simp[r]));clear j;exact Lp
  .have aw:¬(k:Int)<(x.e.rs.l.length:Int):=X;have aG:=U (show cat x.p.e.rs id f= -1 by show cat x.e.rs.l id f= -1;rw[E.out,Gb X];rfl);have HM:=U (wK (x:=x.p) al.out aG.out);clear E bl aG
   go_wp2_with fail
   clear aw;have L:I [] wr wr.drew:=(H [] wr).drew;refine hN (λw'=>w'.cell? (Z gx 72)=some (.slice x.e.rs.A x.e.rs.l.length x.e.rs.c)/\w'.cell? (Z D 0)=some (.bool v.r)/\w'.cell? (Z D 1)=some (Y v.n)) 15 k_ ?_
   refine m5 ⟨((m.bk.hF L).f_ 72).trans rfl,(n.hF L).f_ 0,(n.hF L).f_ 1⟩ λi=>?_
   repeat refine jQ i ?_
   refine hZ 10 λj c=>?_
   go_simp;have r:I [] wr ((wr.alloc (.cells #[Y id,Y f,.bool v.r,Y v.n] 116)).drew):=((H [] wr).alloc _).drew;clear i;have i:((wr.alloc (.cells #[Y id,Y f,.bool v.r,Y v.n] 116)).drew).cell? (Z gx 72)=some (.slice x.e.rs.A x.e.rs.l.length x.e.rs.c)/\((wr.alloc (.cells #[Y id,Y f,.bool v.r,Y v.n] 116)).drew).cell? (Z D 0)=some (.bool v.r)/\((wr.alloc (.cells #[Y id,Y f,.bool v.r,Y v.n] 116)).drew).cell? (Z D 1)=some (Y v.n):=⟨((m.bk.hF r).f_ 72).trans rfl,(n.hF r).f_ 0,(n.hF r).f_ 1⟩;have aE:Bk ((wr.alloc (.cells #[Y id,Y f,.bool v.r,Y v.n] 116)).drew) wr.heap.size 116 #[Y id,Y f,.bool v.r,Y v.n]:=(P_ wr 116 #[Y id,Y f,.bool v.r,Y v.n]).drew;have y:=m.hF r;have aF:=A.hF r;have ae:=n.hF r;obtain⟨o,aH⟩:=nm_ ((wr.alloc (.cells #[Y id,Y f,.bool v.r,Y v.n] 116)).drew);rw[<-aH]at r i aE y aF ae |-;clear aH;generalize wr.heap.size=T at*;obtain⟨aI,q,ay⟩:=(kP (s:=4) aE rfl).mW O;injection q with q;subst q
   refine h4 c i λi=>?_
   clear c j
   refine hZ 11 λj c=>?_
   refine ul rfl (.tmp 54) (.tmp 59) 50 rfl (b.heap.size) 116 bJ 4 32 underlying50 bG bA a6 be rfl O O (.slice x.e.rs.A x.e.rs.l.length x.e.rs.c) x.e.rs.l.length r_ y.rs (Z T 0) 1 1 (Cl.E ⟨id,f,v⟩) r_ rfl ay (by intro aJ hu;exact pJ [⟨id,f,v⟩] aJ (zu hu)) O X y.gr.size ?_;intro ap ai ag bY S aK;obtain⟨P,aL⟩:=y.DR ⟨id,f,v⟩ bY S aK;have V:=y.CD S;have K:=y.xD S ae O;have cD:=y.xD S aF O;have az:=V.f_ 72;have au:=V.hG 72;clear i
   refine h4 c ⟨(V.f_ 72).trans rfl,K.f_ 0,K.f_ 1⟩ λi=>?_
   clear c j
   refine hZ 12 λj c=>?_
   go_simp
   refine h4 c i λi=>?_
   clear c j
   refine hZ 13 λj c=>?_
   go_simp
   refine h4 c i λi=>?_
   clear c j
   refine hZ 14 λj c=>?_
   go_simp
   refine h4 c i λi=>?_
   clear c j
   refine hZ 15 λj c=>?_
   go_simp;refine c.out _ _ (λh=>FU h O) ?_;clear c j
   try simp only[a_]
   refine hM k_ ?_ _;have ax:=(H [gx] ag).setCell (p:=(Z gx 72)) (.inl J) (.slice ap (x.e.rs.l.length+1) ai);have W:=K.ih (p:=(Z gx 72)) (Bk.l8 K V O) (.slice ap (x.e.rs.l.length+1) ai);have u:=cD.ih (p:=(Z gx 72)) (Ne.symm MS) (.slice ap (x.e.rs.l.length+1) ai);obtain⟨ah,aj⟩:=nm_ (ag.setCell (Z gx 72) (.slice ap (x.e.rs.l.length+1) ai));rw[<-aj]at P aL W u |-;clear aj i az au ax;have MV:=W.f_ 0;have MU:=W.f_ 1;have bW:=u.f_ 0;have r1:=u.f_ 1;have bB:=u.hG 0;have bM:=u.hG 1;go_wp2;have aN:=(u.hV 0 (.bool v.r)).hV 1 (Y v.n);have bF:I [] w o:=((N.trans aq).trans l).trans r;have B:=((H [w.heap.size] ah).setCell (p:=(Z w.heap.size 0)) (.inl J) (.bool v.r)).setCell (p:=(Z w.heap.size 1)) (.inl J) (Y v.n);have C:=(((XG.refl gx w).hF bF).trans aL).new B (H_ _);refine rr_ (V_ v) aN underlying38 ?_;rw[HM.out];exact⟨_,rfl,P.late aU rfl rfl rfl B (H_ _) u O O C,rfl,C⟩
def jS(b:World){w:World}(gx:Nat)(x:X1)(id f:Int)(M:kw b w gx x)(c:x.e.rs.l.length<=1000000):
 Calls prog 118 #[q_ gx,Y id,Y f] w (mZ (hW x.p id f).1 (hW x.p id f).2 b gx w):=by
 cases d:jy (hX x.h.l) id f with
 |none=>exact vM b w gx x id f M c d
 |some v=>exact vL b w gx x id f M c v d
def ji{m:Region.Mode}{S:World->Prop}{c:Nat}{l:List Oper}(i j:Nat){f d:Oper}{p r:List Oper}{n:Nat}{k:Array Bool}{a:Act}{w:World}(h1:l.drop i=f::p)(h2:l.drop j=d::r)(hr:Region.ready m l.toArray k=[i,j])(hi:∀e:Act->World->Prop,Shut (∀a w,(i<c->S w)->jY P m l.toArray Q S c n (k.setIfInBounds i true) a w->e a w)->if Region.wanted f (yielded l.toArray a.tmps)=true then Oper.wp P f a w e Q else e (a.put f.dst undef) w)(hj:∀e:Act->World->Prop,Shut (∀a w,(j<c->S w)->jY P m l.toArray Q S c n (k.setIfInBounds j true) a w->e a w)->if Region.wanted d (yielded l.toArray a.tmps)=true then Oper.wp P d a w e Q else e (a.put d.dst undef) w):
 jY P m l.toArray Q S c (n+1) k a w:=by
 exact Jv
def uL(P:XP × Int × Int)(b:World)(gx:Nat)(w:World)(e:Ending)(w':World):Prop:=∃x':X1,e=.returned (.tuple #[Y P.2.1,Y P.2.2])/\kw b w' gx x'/\x'.p=P.1/\XG gx w w'
def wM{x:XP}(h:(iL x).hO=true):hT x=(iL x,0,0):=by
 unfold hT;simp[h]
def lC{x:XP}(h:(iL x).hO=false):hT x=({(hW (iL x) 1 0).1 with hO:=(hW (iL x) 1 0).1.hO||(!(hW (iL x) 1 0).2.r||(match jl (hW (iL x) 1 0).1.h (hW (iL x) 1 0).2.n with|none=>true|some o=>decide ((o.fs.length:Int)<3)))},(hW (iL x) 1 0).2.n,iN (hW (iL x) 1 0).1.h (hW (iL x) 1 0).2.n):=by
 unfold hT;simp[h]
 rfl
def mU(b:World){w:World}(gx:Nat)(x:X1)(M:kw b w gx x)(hn:x.e.rs.l.length<=1000000):
 Calls prog 161 #[q_ gx] w (uL (hT x.p) b gx w):=by
 go_enter func161,ntmps161
 go_upto_region 2 with(go_at_call 116;((with_reducible refine(qG b gx x M).mono ?_);unfold kR;rintro e w1⟨n,rfl,g,br,E⟩;have aO:=U br;clear br;have d:w1.cell? (Z gx 81)=some (.bool n.hO):=(g.bk.f_ 81).trans rfl))
 have co:=U (show n.e.rs.l=x.e.rs.l by have:=aO.out;exact Z_ (λp:XP=>p.e.rs) this)
 have hn1:n.e.rs.l.length<=1000000:=by rw[co.out];exact hn
 cases r:n.hO with
 |true=>
  rw[r]at d;have e:(iL x.p).hO=true:=(by rw[<-aO.out];exact r);have HM:Hid (hT x.p=(n.p,0,0)):=U (by rw[wM e,aO.out]);clear e;clear r;go_wp2
  go_ret2
  rw[HM.out];exact⟨_,rfl,g,rfl,E⟩
 |false=>
  rw[r]at d;have l:Hid ((iL x.p).hO=false):=U (by rw[<-aO.out];exact r);clear r;obtain⟨v,hv⟩:=mn_ ((hW n.p 1 0).2);have az:=U hv;clear hv
  go_upto_region 5 with(go_at_call 118;((with_reducible refine(jS b gx n 1 0 g hn1).mono ?_);unfold mZ;rintro e D⟨aC,rfl,V,X,R⟩;have s:=U X;clear X;rw[az.out]))
  have B:=V.hF ((H [] D).alloc (.cells #[.bool v.r,Y v.n] 38));have i:=P_ D 38 #[.bool v.r,Y v.n];have aD:=(E.trans R).hF ((H [] D).alloc (.cells #[.bool v.r,Y v.n] 38));obtain⟨aI,W⟩:=nm_ (D.alloc (.cells #[.bool v.r,Y v.n] 38));rw[<-W]at B i aD |-;clear W;generalize D.heap.size=aP at*;clear V E R g d
  cases u:jl (hX aC.h.l) v.n with
  |none=>
   have HG:Hid (jl aC.p.h v.n=none):=U u
   go_cut [5,6] (λp o y=>∃(z:Nat) (aM:OA) (c4:Nat),p=q_ z/\o=.bool false/\Bk y z 56 #[Y 0,.slice aM 0 c4]/\I [] aI y)
   case first=>
    have L:=(H [] aI).drew;refine hN (λw'=>w'.cell? (Z gx 36)=some (.slice aC.h.A aC.h.l.length aC.h.c)/\w'.cell? (Z aP 0)=some (.bool v.r)/\w'.cell? (Z aP 1)=some (Y v.n)) 13 k_ ?_
    refine m5 ⟨((B.bk.hF L).f_ 36).trans rfl,(i.hF L).f_ 0,(i.hF L).f_ 1⟩ λC=>?_
    (repeat refine jQ C ?_)
    refine ji 6 10 rfl rfl k_ (λK MY=>?_) (λK MY=>?_)
    .go_simp
     (go_at_call 14;((with_reducible refine(get_none aC.h.A aC.h.c aC.h.l v.n _ (B.hF L).km.os B.hl u).mono ?_);rintro e ad⟨rfl,MS⟩))
     clear C
     refine h4 MY ⟨((B.bk.hF (L.trans MS)).f_ 36).trans rfl,(i.hF (L.trans MS)).f_ 0,(i.hF (L.trans MS)).f_ 1⟩ λC=>?_
     clear MY K
     repeat refine jQ C ?_
     exact II
    .go_simp;have N:=(P_ aI 56 #[Y 0,n_]).drew;have aF:I [] aI ((aI.alloc (.cells #[Y 0,n_] 56)).drew):=((H [] aI).alloc _).drew;clear C
     refine h4 MY ⟨((B.bk.hF aF).f_ 36).trans rfl,(i.hF aF).f_ 0,(i.hF aF).f_ 1⟩ λC=>?_
     clear MY K
     refine hZ 6 λK MY=>?_
     go_simp
     (go_at_call 14;((with_reducible refine(get_none aC.h.A aC.h.c aC.h.l v.n _ (B.hF aF).km.os B.hl u).mono ?_);rintro e ad⟨rfl,MS⟩))
     have c:=aF.trans MS;clear C;have C:ad.cell? (Z gx 36)=some (.slice aC.h.A aC.h.l.length aC.h.c)/\ad.cell? (Z aP 0)=some (.bool v.r)/\ad.cell? (Z aP 1)=some (Y v.n):=⟨((B.bk.hF c).f_ 36).trans rfl,(i.hF c).f_ 0,(i.hF c).f_ 1⟩;have av:=N.hF MS;have MV:=av.f_ 0;have MU:=av.f_ 1;have bB:=av.hG 0;have bM:=av.hG 1
     refine h4 MY C λC=>?_
     clear MY K
     repeat refine jQ C ?_
     refine hZ 11 λK MY=>?_
     go_simp;exact I4
   case rest=>
    obtain⟨z,aM,c4,rfl,rfl,av,k⟩:=hcut;replace B:=B.hF k;replace i:=i.hF k;replace aD:=aD.hF k;clear k
    cases F:aC.hO with
    |true=>
     have q:=U (show aC.p.hO=true from F);exact Iq
    |false=>
     have q:=U (show aC.p.hO=false from F);exact Iq
  |some a=>
   have HG:Hid (jl aC.p.h v.n=some a):=U u
   go_cut [5,6] (λp o y=>∃(z:Nat) (aM:OA) (c4:Nat),p=q_ z/\o=.bool true/\Bk y z 56 #[Y a.id,.slice aM a.fs.length c4]/\I [] aI y)
   case first=>
    have L:=(H [] aI).drew;refine hN (λw'=>w'.cell? (Z gx 36)=some (.slice aC.h.A aC.h.l.length aC.h.c)/\w'.cell? (Z aP 0)=some (.bool v.r)/\w'.cell? (Z aP 1)=some (Y v.n)) 13 k_ ?_
    refine m5 ⟨((B.bk.hF L).f_ 36).trans rfl,(i.hF L).f_ 0,(i.hF L).f_ 1⟩ λC=>?_
    (repeat refine jQ C ?_)
    refine ji 6 10 rfl rfl k_ (λK MY=>?_) (λK MY=>?_)
    .go_simp
     (go_at_call 14;((with_reducible refine(get_some aC.h.A aC.h.c aC.h.l v.n a _ (B.hF L).km.os (B.hF L).km.k5 B.hl u).mono ?_);rintro e ad⟨aM,c4,rfl,m,MS⟩))
     clear C
     refine h4 MY ⟨((B.bk.hF (L.trans MS)).f_ 36).trans rfl,(i.hF (L.trans MS)).f_ 0,(i.hF (L.trans MS)).f_ 1⟩ λC=>?_
     clear MY K
     repeat refine jQ C ?_
     refine hZ 10 λK MY=>?_
     go_simp;have av:=P_ ad 56 #[Y 0,n_];have aF:I [] aI (ad.alloc (.cells #[Y 0,n_] 56)):=(L.trans MS).alloc _;clear C;have C:(ad.alloc (.cells #[Y 0,n_] 56)).cell? (Z gx 36)=some (.slice aC.h.A aC.h.l.length aC.h.c)/\(ad.alloc (.cells #[Y 0,n_] 56)).cell? (Z aP 0)=some (.bool v.r)/\(ad.alloc (.cells #[Y 0,n_] 56)).cell? (Z aP 1)=some (Y v.n):=⟨((B.bk.hF aF).f_ 36).trans rfl,(i.hF aF).f_ 0,(i.hF aF).f_ 1⟩;have MV:=av.f_ 0;have bB:=av.hG 0;exact I5
    .go_simp;have N:=(P_ aI 56 #[Y 0,n_]).drew;have aF:I [] aI ((aI.alloc (.cells #[Y 0,n_] 56)).drew):=((H [] aI).alloc _).drew;clear C
     refine h4 MY ⟨((B.bk.hF aF).f_ 36).trans rfl,(i.hF aF).f_ 0,(i.hF aF).f_ 1⟩ λC=>?_
     clear MY K
     refine hZ 6 λK MY=>?_
     go_simp
     (go_at_call 14;((with_reducible refine(get_some aC.h.A aC.h.c aC.h.l v.n a _ (B.hF aF).km.os (B.hF aF).km.k5 B.hl u).mono ?_);rintro e ad⟨aM,c4,rfl,m,MS⟩))
     have c:=aF.trans MS;clear C;have C:ad.cell? (Z gx 36)=some (.slice aC.h.A aC.h.l.length aC.h.c)/\ad.cell? (Z aP 0)=some (.bool v.r)/\ad.cell? (Z aP 1)=some (Y v.n):=⟨((B.bk.hF c).f_ 36).trans rfl,(i.hF c).f_ 0,(i.hF c).f_ 1⟩;have av:=N.hF MS;have MV:=av.f_ 0;have MU:=av.f_ 1;have bB:=av.hG 0;have bM:=av.hG 1
     refine h4 MY C λC=>?_
     clear MY K
     repeat refine jQ C ?_
     refine hZ 11 λK MY=>?_
     go_simp;exact I1
   case rest=>
    obtain⟨z,aM,c4,rfl,rfl,av,k⟩:=hcut;replace B:=B.hF k;replace i:=i.hF k;replace aD:=aD.hF k;clear k
    cases F:aC.hO with
    |true=>
     have q:=U (show aC.p.hO=true from F)
     cases aB:v.r with
     |true=>
      exact Iz
     |false=>
      exact Iz
    |false=>
     have q:=U (show aC.p.hO=false from F)
     cases aB:v.r with
     |true=>
      have j:=U aB;rw[aB]at i;clear aB
      by_cases m:(a.fs.length:Int)<3
      .have HM:Hid (hT x.p=(({aC with hO:=true}:X1).p,v.n,(a.fs.length:Int))):=U (by
        rw[lC l.out,<-aO.out];have aK:=s.out.symm;have b8:=HG.out;rw[aK,az.out];unfold iN;rw[b8];have bW:=q.out;simp only[bW,j.out]
        first|(simp[m];done)|(simp[m];rfl))
       have bU:((a.fs.length:Int)<3)=True:=by simp[m]
       clear m aO s az HG l q j;exact IH
      .have HM:Hid (hT x.p=(({aC with hO:=false}:X1).p,v.n,(a.fs.length:Int))):=U (by
        rw[lC l.out,<-aO.out];have aK:=s.out.symm;have b8:=HG.out;rw[aK,az.out];unfold iN;rw[b8];have bW:=q.out;simp only[bW,j.out]
        first|(simp[m];done)|(simp[m];rfl))
       have bU:((a.fs.length:Int)<3)=False:=by simp[m]
       clear m aO s az HG l q j;have hs:=B.set (x':={aC with hO:=false}) 81 (.bool false) rfl rfl rfl rfl rfl rfl rfl rfl;have T:=(H [gx] wc).setCell (p:=(Z gx 81)) (.inl J) (.bool false);have d:wc.cell? (Z gx 81)=some (.bool aC.hO):=(B.bk.f_ 81).trans rfl;rw[F]at d;clear F;have aj:=B.bk.hG 81;have MV:=i.f_ 0;have MU:=i.f_ 1;have aR:=av.f_ 1
       go_upto_region 7 with fail
       have h:=i.ih (p:=(Z gx 81)) (Bk.l8 i B.bk O) (.bool false);have aJ:=av.ih (p:=(Z gx 81)) (Bk.l8 av B.bk O) (.bool false);clear MV MU aR d aj;obtain⟨af,f⟩:=nm_ (wc.setCell (Z gx 81) (.bool false));exact Jl
     |false=>
      exact Iz
def mB(x:X1):∀c,c<33->x.g_[3+c]?=(iM x.j2 x.sr)[c]?
 |0,_=>rfl
 |1,_=>rfl
 |2,_=>rfl
 |3,_=>rfl
 |4,_=>rfl
 |5,_=>rfl
 |6,_=>rfl
 |7,_=>rfl
 |8,_=>rfl
 |9,_=>rfl
 |10,_=>rfl
 |11,_=>rfl
 |12,_=>rfl
 |13,_=>rfl
 |14,_=>rfl
 |15,_=>rfl
 |16,_=>rfl
 |17,_=>rfl
 |18,_=>rfl
 |19,_=>rfl
 |20,_=>rfl
 |21,_=>rfl
 |22,_=>rfl
 |23,_=>rfl
 |24,_=>rfl
 |25,_=>rfl
 |26,_=>rfl
 |27,_=>rfl
 |28,_=>rfl
 |29,_=>rfl
 |30,_=>rfl
 |31,_=>rfl
 |32,_=>rfl
 |n+33,h=>FU h X
def n9{pc:Int}{r:Nat->Vl}:(iM pc r).all (·.oneCell')=true:=by unfold iM;simp[Value.oneCell']
def nu(x:X1)(pc:Int)(r:Nat->Vl):uU x.g_ 39 (iM pc r).toList=({x with e:={x.e with pc:=pc,r:=r}}:X1).g_:=rfl
def lS{a:Act}{w':World}(f:TypeId){x:Operand}(r:o.op=.load f x)(g j:Nat)(u:a.eval x=.pointer (some (Z g j))){vs:Array Value}(hc:∀c,c<vs.size->w'.cell? (Z g (j+c))=vs[c]?){d:TypeDesc}(s:P.underlying f=some d)(m:d.isRow=true)(n:(P.info? f).map (·.size)=some vs.size):(execOp a.eval o).run P w'=.ok (.value (.agg vs)) w':=by
 have p:=run_loadAt_mid (P:=P) w' g j f vs.toList d (λc v i=>by
  have k:c<vs.size:=by
   rcases FW c vs.size with h|h
   .exact h
   .rw[F2 (zu h)]at i
    cases i
  rw[hc c k]
  simpa using i) s m (zu n)
 unfold execOp;simp only[r,u,p,Sem.run_bind,Sem.run_pure,Result.andThen_ok]
def qy(l:List In)(h:Vl):Bool:=decide (h.r=true∨(h.n≠0/\jb l h.n=false))
def sh(a:XP × Int × Int)(v:Vl):XP:=
 if a.1.hO=true then a.1 else
 let b:=hW a.1 a.2.1 2
 if qy b.1.jt b.2=true then kN b.1 else
 if b.2.n≠0 then
  let y:=ib (ib b.1 a.2.1 2 default) 1 2 v
  {y with e:={y.e with pc:=b.2.n,r:=jp}}
 else
  let p:=hW b.1 a.2.1 0
  if p.2.r=false then kN p.1 else
  if p.2.n=0 then{p.1 with e:={p.1.e with h6:=2,hY:=true,v:=v,pc:=p.1.j2,r:=p.1.sr}}
  else
   let y:=ib (ib p.1 1 0 p.2) 1 2 v
   {y with e:={y.e with h6:=1,kA:=y.hC,pc:= -1,r:=jp}}
def yw(x:XP)(v:Vl):jm x v=sh (hT x) v:=by
 unfold jm sh qy;simp only[GE]
def pl(b:World){w:World}(gx:Nat)(x:X1)(v:Vl)(M:kw b w gx x)(hs:x.p.e.sm 900000):
 Calls prog 117 #[q_ gx,.agg #[.bool v.r,Y v.n]] w (kR (.tuple #[]) (jm x.p v) b gx w):=by
 have MX:=P_ w 38 #[.bool v.r,Y v.n];have aU:=M.hF ((H [] w).alloc (.cells #[.bool v.r,Y v.n] 38));have Q:=(XG.refl gx w).hF ((H [] w).alloc (.cells #[.bool v.r,Y v.n] 38));have F:w.heap.size≠gx:=ov M.bk.lt;have al:=lY hs
 go_enter func117,ntmps117
 go_upto_region 1 with fail
 obtain⟨bw,aG⟩:=nm_ (w.alloc (.cells #[.bool v.r,Y v.n] 38));rw[<-aG]at MX aU Q |-;clear aG
 go_upto_region 2 with(go_at_call 161;((with_reducible refine(mU b gx x aU (G_ hs.rs O)).mono ?_);unfold uL;rintro e w1⟨bq,rfl,g,br,hg1⟩;have aO:=U br;clear br;have an:w1.cell? (Z gx 81)=some (.bool bq.hO):=(g.bk.f_ 81).trans rfl))
 have z:=MX.xg hg1 F;have aD:=Q.trans hg1;clear MX aU Q hg1;have aq:=U (yw x.p v);obtain⟨m,aS⟩:=mn_ ((hT x.p).2.1);rw[aS];have bo:=U aS;clear aS;generalize (hT x.p).2.2=bZ at*;rw[<-aO.out]at al
 cases aV:bq.hO with
 |true=>
  rw[aV]at an;have HM:Hid (jm x.p v=bq.p):=U (by rw[aq.out,aO.out];unfold sh;rw[U_ (by rw[<-aO.out];exact aV)]);clear aV al;go_wp2;refine rn_ ?_;rw[HM.out];exact⟨_,rfl,g,rfl,aD⟩
 |false=>
  rw[aV]at an
  have bH:Hid (jm x.p v=(let b:=hW bq.p m 2
   if qy b.1.jt b.2=true then kN b.1 else
   if b.2.n≠0 then
    let c:=ib (ib b.1 m 2 default) 1 2 v
    {c with e:={c.e with pc:=b.2.n,r:=jp}}
   else
    let p:=hW b.1 m 0
    if p.2.r=false then kN p.1 else
    if p.2.n=0 then{p.1 with e:={p.1.e with h6:=2,hY:=true,v:=v,pc:=p.1.j2,r:=p.1.sr}}
    else
     let c:=ib (ib p.1 1 0 p.2) 1 2 v
     {c with e:={c.e with h6:=1,kA:=c.hC,pc:= -1,r:=jp}})):=U (by
   rw[aq.out];unfold sh
   rw[R_ (by rw[<-aO.out];show ¬bq.hO=true;rw[aV];decide),bo.out,<-aO.out])
  clear aV aq aO bo;have hn1:bq.e.rs.l.length<=1000000:=G_ al.rs X;obtain⟨h,az⟩:=mn_ ((hW bq.p m 2).2);have bS:=U az;clear az
  go_upto_region 4 with(go_at_call 118;((with_reducible refine(jS b gx bq m 2 g hn1).mono ?_);unfold mZ;rintro e ag⟨d,rfl,aA,u,bd⟩;have t:=U u;clear u;rw[bS.out]))
  have a2:=kg al m 2;have ai:=U t.out;clear t;rw[<-ai.out]at a2
  have bJ:Hid (jm x.p v=(if qy d.jt.l h=true then kN d.p else
   if h.n≠0 then
    let c:=ib (ib d.p m 2 default) 1 2 v
    {c with e:={c.e with pc:=h.n,r:=jp}}
   else
    let p:=hW d.p m 0
    if p.2.r=false then kN p.1 else
    if p.2.n=0 then{p.1 with e:={p.1.e with h6:=2,hY:=true,v:=v,pc:=p.1.j2,r:=p.1.sr}}
    else
     let c:=ib (ib p.1 1 0 p.2) 1 2 v
     {c with e:={c.e with h6:=1,kA:=c.hC,pc:= -1,r:=jp}})):=U (by
   rw[bH.out];simp only[bS.out];rw[<-ai.out]
   rfl)
  clear bH ai bS;have k:=aA.hF ((H [] ag).alloc (.cells #[.bool h.r,Y h.n] 38));have bf:=P_ ag 38 #[.bool h.r,Y h.n];have ad:ag.heap.size≠gx:=ov aA.bk.lt;replace z:=(z.xg bd F).alloc (.cells #[.bool h.r,Y h.n] 38);replace aD:=(aD.trans bd).hF ((H [] ag).alloc (.cells #[.bool h.r,Y h.n] 38));obtain⟨aI,a6⟩:=nm_ (ag.alloc (.cells #[.bool h.r,Y h.n] 38));rw[<-a6]at k bf z aD |-;clear a6;clear aA bd g an;generalize ag.heap.size=ah at*
  go_cut [36] (λc a7=>c=.bool (qy d.jt.l h)/\I [] aI a7)
  case first=>
   have i:∀c:GW aI,c.1.cell? (Z ah 0)=some (.bool h.r):=bf.zQ 0;have s:∀c:GW aI,c.1.cell? (Z ah 1)=some (Y h.n):=bf.zQ 1
   have n:∀c:GW aI,c.1.cell? (Z gx 0)=some (.slice d.jt.A d.jt.l.length d.jt.c):=λc=>(k.bk.zQ 0 c).trans rfl
   have j:∀c:GW aI,c.1.cell? (Z gx 1)=some (Y d.hH):=λc=>(k.bk.zQ 1 c).trans rfl
   have aK:∀c:GW aI,c.1.cell? (Z gx 2)=some (Y d.hC):=λc=>(k.bk.zQ 2 c).trans rfl
   cases a:h.r with
   |true=>
    have bi:=U (show qy d.jt.l h=true by unfold qy;simp[a]);rw[a]at i;clear a;exact J9
   |false=>
    rw[a]at i
    by_cases hz:h.n=0
    .have bi:=U (show qy d.jt.l h=false by unfold qy;simp[a,hz]);have q:(h.n !=0)=false:=zu hz;clear a hz;exact J9
    .have q:(h.n !=0)=true:=zu hz
     cases hm:jb d.jt.l h.n with
     |true=>
      have bi:=U (show qy d.jt.l h=false by unfold qy;simp[a,hm])
      have HM:Hid (∀c:GW aI,Calls prog 162 #[.agg #[.slice d.jt.A d.jt.l.length d.jt.c,Y d.hH,Y d.hC],Y h.n] c.1 (λe f=>e=.returned (.bool true)/\I [] c.1 f)):=U λc=>by have q:=oX d.jt.A d.jt.c d.jt.l d.hH d.hC h.n c.1 (k.hF c.2).Ed k.il;rw[hm]at q;exact q
      exact JH
     |false=>
      have bi:=U (show qy d.jt.l h=true by unfold qy;simp[a,hz,hm])
      have HM:Hid (∀c:GW aI,Calls prog 162 #[.agg #[.slice d.jt.A d.jt.l.length d.jt.c,Y d.hH,Y d.hC],Y h.n] c.1 (λe f=>e=.returned (.bool false)/\I [] c.1 f)):=U λc=>by have q:=oX d.jt.A d.jt.c d.jt.l d.hH d.hC h.n c.1 (k.hF c.2).Ed k.il;rw[hm]at q;exact q
      exact JH
  case rest=>
   obtain⟨rfl,aL⟩:=hcut;replace k:=k.hF aL;replace bf:=bf.hF aL;replace z:=z.hF aL;replace aD:=aD.hF aL;clear aL
   cases aH:qy d.jt.l h with
   |true=>
    have HM:Hid (jm x.p v=({d with hO:=true}:X1).p):=U (by rw[bJ.out,U_ aH];rfl);clear aH bJ;have an:wc.cell? (Z gx 81)=some (.bool d.hO):=(k.bk.f_ 81).trans rfl;have aj:=k.bk.hG 81;go_wp2;have bT:=k.set (x':={d with hO:=true}) 81 (.bool true) rfl rfl rfl rfl rfl rfl rfl rfl;exact LD
   |false=>
    rw[aH]at bJ
    by_cases hz:h.n=0
    .have HM:Hid (jm x.p v=(let p:=hW d.p m 0
      if p.2.r=false then kN p.1 else
      if p.2.n=0 then{p.1 with e:={p.1.e with h6:=2,hY:=true,v:=v,pc:=p.1.j2,r:=p.1.sr}}
      else
       let c:=ib (ib p.1 1 0 p.2) 1 2 v
       {c with e:={c.e with h6:=1,kA:=c.hC,pc:= -1,r:=jp}})):=U (by rw[bJ.out,R_ O,R_ (by simp[hz])])
     have q:(h.n !=0)=false:=zu hz;clear aH bJ hz;have y:=bf.f_ 1;have b6:d.e.rs.l.length<=1000000:=G_ a2.rs X;obtain⟨p,hp⟩:=mn_ ((hW d.p m 0).2);have MZ:=U hp;clear hp
     go_upto_region 11 with(go_at_call 118;((with_reducible refine(jS b gx d m 0 k b6).mono ?_);unfold mZ;rintro e aJ⟨f,rfl,aA,u,bd⟩;have t:=U u;clear u;rw[MZ.out]))
     have l:Hid (jm x.p v=(if p.r=false then kN f.p else
      if p.n=0 then{f.p with e:={f.p.e with h6:=2,hY:=true,v:=v,pc:=f.p.j2,r:=f.p.sr}}
      else
       let c:=ib (ib f.p 1 0 p) 1 2 v
       {c with e:={c.e with h6:=1,kA:=c.hC,pc:= -1,r:=jp}})):=U (by
      rw[HM.out];simp only[MZ.out]
      rw[<-t.out])
     have P:=kg a2 m 0;rw[<-t.out]at P;clear HM t MZ y;have ce:aJ.heap.size≠gx:=ov aA.bk.lt;have bh:=aA.hF ((H [] aJ).alloc (.cells #[.bool p.r,Y p.n] 38));have V:=P_ aJ 38 #[.bool p.r,Y p.n];replace z:=(z.xg bd F).alloc (.cells #[.bool p.r,Y p.n] 38);replace aD:=(aD.trans bd).hF ((H [] aJ).alloc (.cells #[.bool p.r,Y p.n] 38));obtain⟨N,bI⟩:=nm_ (aJ.alloc (.cells #[.bool p.r,Y p.n] 38));rw[<-bI]at bh V z aD |-;clear bI;clear aA bd k bf;generalize aJ.heap.size=bD at*
     cases u:p.r with
     |false=>
      have HM:Hid (jm x.p v=({f with hO:=true}:X1).p):=U (by rw[l.out,U_ u];rfl);rw[u]at V;clear l u;have MV:=V.f_ 0
      go_upto_region 12 with fail
      have an:N.cell? (Z gx 81)=some (.bool f.hO):=(bh.bk.f_ 81).trans rfl;have aj:=bh.bk.hG 81;go_wp2;have bT:=bh.set (x':={f with hO:=true}) 81 (.bool true) rfl rfl rfl rfl rfl rfl rfl rfl;exact LD
     |true=>
      rw[u]at l V
      by_cases hz:p.n=0
      .have HM:Hid (jm x.p v={f.p with e:={f.p.e with h6:=2,hY:=true,v:=v,pc:=f.p.j2,r:=f.p.sr}}):=U (by rw[l.out,R_ O,U_ hz]);have bN:(p.n==0)=true:=zu hz;clear l hz u;have MV:=V.f_ 0;have y:=V.f_ 1
       go_upto_region 14 with fail
       clear MV y V;have bk:=bh.bk.drew;have bm:=z.drew;refine hN (λw'=>(∀s,s<33->w'.cell? (Z gx (3+s))=(iM f.j2 f.sr)[s]?)/\w'.cell? (Z w.heap.size 0)=some (.bool v.r)/\w'.cell? (Z w.heap.size 1)=some (Y v.n)) 25 k_ ?_
       refine m5 ⟨λs E=>by rw[bk.f_];exact mB f s E,bm.f_ 0,bm.f_ 1⟩ λi=>?_
       refine iv 0 i ?_;refine iv 1 i ?_;refine iv 2 i ?_;refine iv 3 i ?_;refine iv 4 i ?_;refine iv 5 i ?_;refine iv 6 i ?_;refine iv 7 i ?_;refine iv 8 (v:=.agg (iM f.j2 f.sr)) i ?_ (hy:=(Or.inl ⟨r_,λw' bu=>lS 49 rfl gx 3 r_ (λs E=>bu.1 s E) underlying49 rfl k_⟩));refine iv 9 i ?_;refine iv 10 i ?_;refine iv 11 i ?_;have bY:=bk.f_ 38;have bQ:=bk.hG 38
       refine hZ 12 λbv B=>?_
       go_simp;have aZ:Bk ((N.setCell (Z gx 38) (Y 2)).drew) gx 186 ({f with e:={f.e with h6:=2}}:X1).g_:=(bh.bk).hV 38 (Y 2);have bC:Bk ((N.setCell (Z gx 38) (Y 2)).drew) w.heap.size 38 #[.bool v.r,Y v.n]:=(z).ih (p:=(Z gx 38)) F (Y 2);have aF:I [gx] N ((N.setCell (Z gx 38) (Y 2)).drew):=I.drew <| ((H [gx] N)).setCell (p:=(Z gx 38)) (.inl J) (Y 2);obtain⟨M0,bV⟩:=nm_ ((N.setCell (Z gx 38) (Y 2)).drew);rw[<-bV]at aZ bC aF |-;clear bV i
       refine h4 B ⟨λs E=>by rw[aZ.f_];exact mB ({f with e:={f.e with h6:=2}}:X1) s E,bC.f_ 0,bC.f_ 1⟩ λi=>?_
       clear B bv;clear bY bQ;refine iv 13 i ?_;refine iv 14 i ?_;refine iv 15 i ?_;have aP:=aZ.f_ 78;have aw:=aZ.hG 78
       refine hZ 16 λbv B=>?_
       go_simp;have bz:Bk (M0.setCell (Z gx 78) (.bool true)) gx 186 ({f with e:={f.e with h6:=2,hY:=true}}:X1).g_:=(aZ).hV 78 (.bool true);have bG:Bk (M0.setCell (Z gx 78) (.bool true)) w.heap.size 38 #[.bool v.r,Y v.n]:=(bC).ih (p:=(Z gx 78)) F (.bool true);have bt:I [gx] N (M0.setCell (Z gx 78) (.bool true)):=(aF).setCell (p:=(Z gx 78)) (.inl J) (.bool true);obtain⟨aM,bX⟩:=nm_ (M0.setCell (Z gx 78) (.bool true));rw[<-bX]at bz bG bt |-;clear bX i
       refine h4 B ⟨λs E=>by rw[bz.f_];exact mB ({f with e:={f.e with h6:=2,hY:=true}}:X1) s E,bG.f_ 0,bG.f_ 1⟩ λi=>?_
       clear B bv;clear aP aw;refine iv 17 i ?_;refine iv 18 i ?_;refine iv 19 i ?_;have b9:aM.cell? (Z gx 79)=some (.bool f.e.v.r):=(bz.f_ 79).trans rfl;have ca:aM.cell? (Z gx 80)=some (Y f.e.v.n):=(bz.f_ 80).trans rfl;have b7:=bz.hG 79;have b8:=bz.hG 80
       refine hZ 20 λbv B=>?_
       go_simp;have dg:Bk ((aM.setCell (Z gx 79) (.bool v.r)).setCell (Z gx 80) (Y v.n)) gx 186 ({f with e:={f.e with h6:=2,hY:=true,v:=v}}:X1).g_:=((bz).hV 79 (.bool v.r)).hV 80 (Y v.n);have bx:Bk ((aM.setCell (Z gx 79) (.bool v.r)).setCell (Z gx 80) (Y v.n)) w.heap.size 38 #[.bool v.r,Y v.n]:=((bG).ih (p:=(Z gx 79)) F (.bool v.r)).ih (p:=(Z gx 80)) F (Y v.n);have bB:I [gx] N ((aM.setCell (Z gx 79) (.bool v.r)).setCell (Z gx 80) (Y v.n)):=((bt).setCell (p:=(Z gx 79)) (.inl J) (.bool v.r)).setCell (p:=(Z gx 80)) (.inl J) (Y v.n);obtain⟨aR,MS⟩:=nm_ ((aM.setCell (Z gx 79) (.bool v.r)).setCell (Z gx 80) (Y v.n));rw[<-MS]at dg bx bB |-;clear MS i
       refine h4 B ⟨λs E=>by rw[dg.f_];exact mB ({f with e:={f.e with h6:=2,hY:=true,v:=v}}:X1) s E,bx.f_ 0,bx.f_ 1⟩ λi=>?_
       clear B bv;clear b9 b7 ca b8;refine iv 21 i ?_;refine iv 22 i ?_;refine iv 23 i ?_
       refine hZ 24 λbv B=>?_
       rw[U_ r_];refine jE 49 _ _ rfl gx 39 r_ (iM f.j2 f.sr) r_ 186 _ dg (by show 39+33<=82;decide) k_ (n9) ?_;intro ae R G;rw[nu]at R;have b0:=bx.gr G (zu F);clear i
       refine h4 B ⟨λs E=>by rw[R.f_];exact mB ({({f with e:={f.e with h6:=2,hY:=true,v:=v}}:X1)with e:={(({f with e:={f.e with h6:=2,hY:=true,v:=v}}:X1)).e with pc:=f.j2,r:=f.sr}}:X1) s E,b0.f_ 0,b0.f_ 1⟩ λi=>?_
       clear B bv;refine hM k_ ?_ _;go_wp2;refine rn_ ?_;rw[HM.out];exact⟨_,rfl,bh.r5 (bB.trans G) R rfl rfl rfl rfl rfl rfl rfl,rfl,aD.it (bB.trans G)⟩
      .have E:¬p.n=0:=hz
       have HM:Hid (jm x.p v=(let c:=ib (ib f.p 1 0 p) 1 2 v
        {c with e:={c.e with h6:=1,kA:=c.hC,pc:= -1,r:=jp}})):=U (by rw[l.out,R_ O,R_ hz])
       have bN:(p.n==0)=false:=zu hz;clear l hz E;have MV:=V.f_ 0;have y:=V.f_ 1;have s:f.e.ws.l.length<=1000000:=G_ P.ws X;have S:=U (show p=⟨true,p.n⟩ by cases p;simp only at u;subst u;rfl);clear u
       go_upto_region 16 with(go_at_call 163;((with_reducible refine(j6 b gx f 1 0 ⟨true,p.n⟩ bh s).mono ?_);unfold kR;rintro e MT⟨bR,rfl,D,C,n⟩;have T:=U C;clear C))
       have av:=U T.out;clear T;have bn:=D;have bj:=aD.trans n;have aQ:=z.xg n F
       have dx:bR.e.ws.l.length<=1000000:=by
        have e:bR.e.ws.l=f.e.ws.l++[⟨1,0,⟨true,p.n⟩⟩]:=Z_ (λp:XP=>p.e.ws) av.out;rw[e,J_]
        have:=P.ws
        have aK:f.p.e.ws.length=f.e.ws.l.length:=rfl;simp only[FK,F7];omega
       clear D n MV y;have MV:=aQ.f_ 0;have y:=aQ.f_ 1
       go_upto_region 17 with(go_at_call 163;((with_reducible refine(j6 b gx bR 1 2 v bn dx).mono ?_);unfold kR;rintro e ax⟨j,rfl,D,C,n⟩;have T:=U C;clear C))
       have bA:=U T.out;clear T;have K:=D;have bg:=bj.trans n;clear D n MV y
       have bE:Hid (jm x.p v=({j with e:={j.e with h6:=1,kA:=j.hC,pc:= -1,r:=jp}}:X1).p):=U (by
        rw[HM.out,S.out]
        have bK:ib (ib f.p 1 0 ⟨true,p.n⟩) 1 2 v=j.p:=by rw[bA.out,av.out]
        exact Z_ (λc:XP=>({c with e:={c.e with h6:=1,kA:=c.hC,pc:= -1,r:=jp}}:XP)) bK)
       have aC:ax.cell? (Z gx 2)=some (Y j.hC):=(K.bk.f_ 2).trans rfl;have bW:ax.cell? (Z gx 38)=some (Y j.e.h6):=(K.bk.f_ 38).trans rfl;have aX:ax.cell? (Z gx 77)=some (Y j.e.kA):=(K.bk.f_ 77).trans rfl;have bQ:=K.bk.hG 38;have ap:=K.bk.hG 77;have B:Bk ((ax.setCell (Z gx 38) (Y 1)).setCell (Z gx 77) (Y j.hC)) gx 186 ({j with e:={j.e with h6:=1,kA:=j.hC}}:X1).g_:=(K.bk.hV 38 (Y 1)).hV 77 (Y j.hC);have i:=((H [gx] ax).setCell (p:=(Z gx 38)) (.inl J) (Y 1)).setCell (p:=(Z gx 77)) (.inl J) (Y j.hC)
       go_wp2_with (refine je rfl 49 _ _ rfl gx 39 r_ (iM (-1) jp) r_ 186 _ B (by show 39+33<=82;decide) k_ (n9) ?_;intro ae R G)
       rw[nu]at R;refine en_ ?_;rw[bE.out];exact⟨_,rfl,K.r5 (i.trans G) R rfl rfl rfl rfl rfl rfl rfl,rfl,bg.it (i.trans G)⟩
    .have HM:Hid (jm x.p v=(let c:=ib (ib d.p m 2 default) 1 2 v
      {c with e:={c.e with pc:=h.n,r:=jp}})):=U (by rw[bJ.out,R_ O,U_ hz])
     have q:(h.n !=0)=true:=zu hz;clear aH bJ hz;have s:d.e.ws.l.length<=1000000:=G_ a2.ws X;have y:=bf.f_ 1
     go_upto_region 8 with(go_at_call 163;((with_reducible refine(j6 b gx d m 2 ⟨false,0⟩ k s).mono ?_);unfold kR;rintro e MT⟨bR,rfl,D,C,n⟩;have T:=U C;clear C))
     have av:=U T.out;clear T;have bn:=D;have bj:=aD.trans n;have aQ:=z.xg n F;have f:=bf.xg n ad
     have dx:bR.e.ws.l.length<=1000000:=by
      have e:bR.e.ws.l=d.e.ws.l++[⟨m,2,⟨false,0⟩⟩]:=Z_ (λp:XP=>p.e.ws) av.out;rw[e,J_]
      have:=a2.ws
      have aK:d.p.e.ws.length=d.e.ws.l.length:=rfl;simp only[FK,F7];omega
     clear D n y;have MV:=aQ.f_ 0;have y:=aQ.f_ 1
     go_upto_region 9 with(go_at_call 163;((with_reducible refine(j6 b gx bR 1 2 v bn dx).mono ?_);unfold kR;rintro e ax⟨j,rfl,D,C,n⟩;have T:=U C;clear C))
     have bA:=U T.out;clear T;have K:=D;have bg:=bj.trans n;have i:=f.xg n ad;clear D n MV y;have y:=i.f_ 1
     have bE:Hid (jm x.p v=({j with e:={j.e with pc:=h.n,r:=jp}}:X1).p):=U (by
      rw[HM.out]
      have bK:ib (ib d.p m 2 default) 1 2 v=j.p:=by rw[bA.out,av.out];rfl
      exact Z_ (λc:XP=>({c with e:={c.e with pc:=h.n,r:=jp}}:XP)) bK)
     go_wp2_with (refine je rfl 49 _ _ rfl gx 39 r_ (iM (h.n) jp) r_ 186 _ K.bk (by show 39+33<=82;decide) k_ (n9) ?_;intro ae R G)
     rw[nu]at R;refine rn_ ?_;rw[bE.out];exact⟨_,rfl,K.r5 G R rfl rfl rfl rfl rfl rfl rfl,rfl,bg.it G⟩
