import Derived.Test.YtenbhdilndfaeaaGreatR01
import Derived.Test.YtenbhdilndfaeaaGreatRows
import Derived.Deep.CutBlock
import Derived.Deep.DeepCutAuto
import Derived.Deep.RegionHeld3
import Derived.Deep.RegionWith
import Derived.Laws.ResultCell
import Derived.WalkArith
set_option maxRecDepth 100000
set_option maxHeartbeats 0
set_option linter.all false
namespace Go.Proofs.YtenbhdilndfaeaaGreat
open Go.RowKit Go.Proofs.Tryz
variable{G:Prop}{w w':World}{B base g k len:Nat}{e q:TypeId}{zs:List Int}{α:Type}{cs:Array Value}
def IT(h:G:=by
 go_enter func148,ntmps148
 go_wp2_with fail
 go_at_call 55
 refine(qb A c l id (h.g_ MR) hn).mono ?_;rintro e w2⟨rfl,MS⟩;have au:=P.gr MS s_;obtain⟨MN,ai⟩:=au.iM;have MT:=au.hm 0;have C:=au.hm 1;exact JL):G:=h
def Jp(h:G:=by
 clear A;exact Jq):G:=h
def Jq(h:G:=by
 go_enter func164,ntmps164
 go_wp2_with fail
 have hB:=N;obtain⟨MN,ai⟩:=hB.iM;have MT:=hB.hm 0;have C:=hB.hm 1;go_wp2;refine l5 #[.bool false,Y (0)] (Y (-2)) hB underlying38 ⟨by unfold qN;rw[aO.out],?_⟩;exact MR):G:=h
def JA(h:G:=by
 refine l5 #[.bool false,Y (y)] (Y 0) ((hB.hN 0 (.bool false)).hN 1 (Y (y))) underlying38 ⟨by unfold qN;rw[aO.out],?_⟩;exact Mb):G:=h
def JB(h:G:=by
 refine l5 #[.bool false,Y (x)] (Y 0) ((hB.hN 0 (.bool false)).hN 1 (Y (x))) underlying38 ⟨by unfold qN;rw[aO.out],?_⟩;exact Mb):G:=h
def JL(h:G:=by
 go_wp2;have i:=(au.hN 0 (.bool false)).hN 1 (Y 0);refine l5 #[.bool false,Y 0] (.bool false) i underlying38 ⟨rfl,?_⟩;exact Mp):G:=h
def J9(h:G:=by
 have aO:=O (show pW op=false by rw[aV.out];rw[Hu];omega)
 go_enter func180,ntmps180
 go_wp2
 go_ret2
 exact⟨by rw[aO.out];exact⟨_,rfl⟩,H _ _⟩):G:=h
def KG(h:G:=by
 go_wp2_with fail
 go_quiet (fail)
 go_wp2;go_meet;exact⟨k,rfl,hk,.inr ⟨aW.out,by rw[MT.out,aq.out];omega⟩,F.drewN _⟩):G:=h
def K8(h:G:=by
 go_enter func179,ntmps179
 go_wp2;go_ret;exact⟨iw (by rw[HA.out];symm;rw[Hu];omega),by trivial⟩):G:=h
def L7(h:G:=by
 exact((R.gr [] w S.size m.drew).setCell (.inr p_) _).setCell (.inr p_) _):G:=h
def Mb(h:G:=by
 exact((((MR.drewN nq).trans MS)).setCell (.inr p_) _).setCell (.inr p_) _):G:=h
def Mp(h:G:=by
 exact((MR.trans MS).setCell (.inr s_) _).setCell (.inr s_) _):G:=h
def iL(w:World)(B g:Nat):Prop:=∃(A:OA) (n c:Nat) (i:Nat) (zs:List Int),Bk w g 112 #[.slice A n c,Y i]/\i<=n/\n<=200/\n<=c/\
 (∃e,Sl w e 1 A n (zs.map (.int .u8)))/\(∀j,0<=zs.getD j 0/\zs.getD j 0<256)/\(0<n->∀b off,A=some (Z b off)->b≠g/\b<B)/\g<B
def iL.iy(h:iL w B g)(j:∀k,k<B->k<w.heap.size->w'.heap[k]?=w.heap[k]?):iL w' B g:=by
 obtain⟨n,z,r,y,zs,i,t,u,p,⟨e,d⟩,o,f,c⟩:=h;refine⟨n,z,r,y,zs,(j g c i.lt).trans i,t,u,p,⟨e,d.1,λl=>?_⟩,o,f,c⟩;obtain⟨b,m,cs,s,a,hb,v⟩:=d.2 l;refine⟨b,m,cs,s,a,(j b (f l b m a).2 ?_).trans hb,v⟩;exact LP
def iL.g_(h:iL w B g)(a:J [] w w'):iL w' B g:=h.iy λk _ b=>a.block k b s_
def iL.ib{a:List Nat}(h:iL w B g)(c:J a w w')(f:∀x∈a,B<=x):iL w' B g:=h.iy λk i d=>c.block k d (λb=>by have:=f k b;omega)
def iL.app(h:iL w B g)(b:App base e w w')(c:B<=base):iL w' B g:=h.iy λk d a=>by
 rw[b.iy k w.heap[k] (FM a) (.inl X),FM a]
def iL.lt(h:iL w B g):g<w.heap.size:=by
 obtain⟨b,f,c,d,zs,a,_⟩:=h;exact a.lt
def iL.x0(h:iL w B g):g<B:=by
 obtain⟨a,d,b,c,zs,_,_,_,_,_,_,_,h⟩:=h;exact h
def iL.bk(h:iL w B g):∃cs,Bk w g 112 cs:=by
 obtain⟨b,f,c,d,zs,a,_⟩:=h;exact⟨_,a⟩
def iq(B g:Nat)(n:Int)(I:iL w B g)(U:1<=n)(O:n<=1000000):
 Calls prog 19 #[q_ g,Y n] w λe w'=>∃r:Int,e=.returned (Y r)/\0<=r/\r<n/\iL w' B g/\J [g] w w':=by
 obtain⟨l,k,j,a,zs,b,S,u,p,⟨m,c⟩,i,d,o⟩:=I;have P:w.cell? (Z g 0)=some (.slice l k j):=(b.f_ 0).trans rfl;have Q:w.cell? (Z g 1)=some (Y a):=(b.f_ 1).trans rfl;have M:=b.hm 1
 by_cases R:a<k
 .obtain⟨s,v,f,z⟩:=c.f_ X;have T:=(d X s v f).1;have N:=f;subst f
  have x:w.cell? (Z s (v+a))=some (.int .u8 (zs.getD a 0)):=z a _ (by
   have K:a<zs.length:=by have:=c.1;simp at this;omega
   simp[F4,L_ K,List.getD])
  go_enter func19,ntmps19
  go_wp2_with fail
  go_quiet (fail)
  go_wp2;have C:IntKind.i64.wrap (a:Int)=(a:Int):=F1 _ X;have D:(a:Int)<(k:Int):=X;have E:(0:Int)<=(a:Int):=X
  go_quiet (fail)
  clear C D E;go_wp2;go_ret;have A:0<=zs[a]?.getD 0/\zs[a]?.getD 0<256:=i a;rw[IntWalk.wrap64_in _ X];refine⟨_,rfl,?_,?_,⟨_,k,j,a+1,zs,((b.drewN _).hN 1 _).drewN _,X,u,p,⟨m,?_⟩,i,λ_=>d X,o⟩,?_⟩
  .exact Int.tmod_nonneg _ A.1
  .exact Int.tmod_lt_of_pos _ X
  .refine Sl.drewN (c.iy λt y F L=>(((H [g] w).drewN _).setCell (.inl s_) _).block t L ?_) _
   have:=(d X t y F).1
   exact ML
  .exact(((H _ w).drewN _).setCell (.inl s_) _).drewN _
 .have f:a=k:=X;subst f
  go_enter func19,ntmps19
  go_wp2_with fail
  go_quiet (fail)
  go_wp2;go_ret;exact⟨0,rfl,X,X,⟨l,a,j,a,zs,b.drewN _,H_ _,u,p,⟨m,c⟩,i,d,o⟩,(H _ w).drewN _⟩
def Cw(A:OA)(n c:Nat)(zs:List Int)(l:TypeId)(h:Sl w l 1 A n (zs.map (.int .u8)))(v:∀i,0<=zs.getD i 0/\zs.getD i 0<256)(r:n<=c)(K:n<=9223372036854775807):
 Calls prog 54 #[.slice A n c] w λe w'=>∃g,e=.returned (q_ g)/\w.heap.size<=g/\iL w' w'.heap.size g/\J [] w w':=by
 have j:0<n->∀a d,A=some (Z a d)->a<w.heap.size:=by
  intro u a d f;obtain⟨p,y,cs,s,b,m,_⟩:=h.2 u;rw[f]at b;injection b with b;injection b with b _;subst b
  rcases FO a w.heap.size with j|C
  .exact j
  .rw[FF C]at m
   cases m
 by_cases I:200<n
 .have j:=j X;obtain⟨p,y,b,_⟩:=h.f_ X;have F:=b;subst b
  have z:Sl w l 1 (some (Z p y)) 200 ((zs.take 200).map (.int .u8)):=by
   refine⟨by have:=h.1;simp at this |-;omega,λ_=>?_⟩;obtain⟨a,d,cs,s,f,m,D⟩:=h.2 X;refine⟨a,d,cs,s,f,m,λi E o=>D i E ?_⟩;rw[F4,Gv]at o;split at o
   .rw[F4];exact o
   .simp at o
  go_enter func54,ntmps54
  go_wp2;go_ret;refine⟨_,rfl,H_ _,⟨_,200,c,0,zs.take 200,Q_ w _ _,X,X,X,⟨l,z.alloc _⟩,λi=>?_,λ_ a d f=>by have:=j a d f;simp;omega,s_⟩,(H _ w).alloc _⟩
  by_cases t:i<200
  .simpa[Gv,t]using v i
  .simp[Gv,t]
 .go_enter func54,ntmps54
  go_wp2;go_ret;exact⟨_,rfl,H_ _,⟨A,n,c,0,zs,Q_ w _ _,X,X,r,⟨l,h.alloc _⟩,v,λu a d f=>by have:=j X a d f;simp;omega,s_⟩,(H _ w).alloc _⟩
def Cb(h:∀n∈zs,(Lit.int .u8 n).wf=true):∀a,0<=(zs.take len).getD a 0/\(zs.take len).getD a 0<256:=by
 intro a
 by_cases b:a<(zs.take len).length
 .have c:(zs.take len).getD a 0∈zs:=by
   simp only[List.getD,L_ b,GE];exact Gf (M_ b)
  have:=bounds_u8 (h _ c)
  omega
 .simp[List.getD,F8 (Nat.le_of_not_lt b)]
def wa{k:IntKind}{x:Addr}(t:len<=zs.length)(j:∀i,i<zs.length->w.cell? (x.add i)=some (.int k (zs.getD i 0))):
 ∃e,Sl w e 1 (some x) len ((zs.take len).map (.int k)):=by
 by_cases o:len=0
 .subst o;exact⟨0,by simpa using Gz w 0 1 (some x)⟩
 .have a:=j 0 X
  have n:x.add 0=x:=by simp[Addr.add]
  rw[n]at a;obtain⟨d,r,m⟩:=x;unfold World.cell? at a
  cases b:w.heap[d]? with
  |none=>rw[b]at a;simp at a
  |some p=>
   rw[b]at a
   cases p with
   |cells cs e f=>
    cases m with
    |some c=>simp at a
    |none=>
     refine⟨e,p_,λ_=>⟨d,r,cs,f,rfl,b,λl u c=>?_⟩⟩;rw[F4,Gv]at c;split at c
     .rename_i s
      have:=j l X
      rw[oP,cell_of_row w d _ cs e f b]at this;rw[this,<-c];simp[List.getD,L_ (show l<zs.length by omega)]
     .simp at c
   |_=>simp at a
structure Vl where
 r:Bool
 n:Int
 deriving DecidableEq,Inhabited
structure Ob where
 id:Int
 fs:List Vl
 deriving DecidableEq,Inhabited
abbrev V_(x:Vl):Array Value:=#[.bool x.r,Y x.n]
def Vl.E(v:Vl):List Value:=[.bool v.r,Y v.n]
def jd(l:List Vl):List Value:=l.flatMap Vl.E
def iU(h:List Ob)(id:Int):Option Ob:=h.find? λo=>o.id==id
def place(found:List Ob)(id:Int):Int:=iR (λo:Ob=>o.id==id) found 0+1
def nM(h found:List Ob)(v:Vl):List Ob:=
 if v.r=false∨0<place found v.n then found else match iU h v.n with|some o=>found++[o]|none=>found
def look(h found:List Ob)(l:List Vl):List Ob:=l.foldl (nM h) found
def jS(h:List Ob):Nat->Nat->List Ob->List Ob
 |0,_,found=>found
 |f+1,i,found=>if hi:i<found.length then jS h f (i+1) (look h found found[i].fs) else found
def nP(h:List Ob)(roots:List Vl):List Ob:=jS h (h.length+1) 0 (look h [] roots)
def zx(b:List Ob)(id:Int):0<place b id↔∃a∈b,a.id=id:=by
 have:=qA (λa:Ob=>a.id==id) b 0
 unfold place;constructor
 .intro h;obtain⟨a,c,e⟩:=this.1 X;exact⟨a,c,by simpa using e⟩
 .rintro⟨a,c,e⟩
  have:=this.2 ⟨a,c,by simpa using e⟩
  omega
def ph{h:List Ob}{id:Int}{a:Ob}(b:iU h id=some a):a.id=id:=by
 have:=List.find?_some b
 exact ML
def tX{h:List Ob}{id:Int}{a:Ob}(b:iU h id=some a):a∈h:=List.mem_of_find?_eq_some b
structure Found(h found:List Ob):Prop where
 get:∀o∈found,iU h o.id=some o
 nodup:(found.map Ob.id).Nodup
def Found.nil(h:List Ob):Found h []:=⟨by simp,by simp⟩
def Found.nM{h c:List Ob}(b:Found h c)(v:Vl):Found h (nM h c v):=by
 unfold Proofs.YtenbhdilndfaeaaGreat.nM;split
 .exact b
 .rename_i l
  cases f:iU h v.n with
  |none=>exact b
  |some o=>
   have i:=ph f;refine⟨λx a=>?_,?_⟩
   .rcases T_.1 a with a|a
    .exact b.get x a
    .simp at a;subst a;rw[i];exact f
   .rw[FI,Gs];refine⟨b.nodup,s_,λm j n d=>?_⟩;simp at d;subst d;rintro rfl;apply l;right;rw[zx];obtain⟨x,a,e⟩:=Z_.1 j;exact⟨x,a,by rw[e,i]⟩
def Found.look{h a:List Ob}(b:Found h a)(l:List Vl):Found h (look h a l):=by
 unfold Proofs.YtenbhdilndfaeaaGreat.look
 induction l generalizing a with
 |nil=>exact b
 |cons d l c=>exact c (b.nM d)
def rg:∀(l a:List Int),l.Nodup->(∀x∈l,x∈a)->l.length<=a.length
 |[],_,_,_=>by simp
 |x::l,a,m,b=>by
  have c:=b x s_;have i:=G6.1 m
  have:=rg l (a.erase x) i.2 λf d=>by
   have j:f≠x:=by rintro rfl;exact i.1 d
   exact(List.mem_erase_of_ne j).2 (b f (by simp[d]))
  rw[List.length_erase_of_mem c]at this;have n:=List.length_pos_of_mem c;simp only[FJ];omega
def Found.length{h a:List Ob}(b:Found h a):a.length<=h.length:=by
 have:=rg (a.map Ob.id) (h.map Ob.id) b.nodup λx f=>by
  obtain⟨c,d,e⟩:=Z_.1 f;exact Z_.2 ⟨c,tX (b.get c d),e⟩
 exact ML
def vw(h a:List Ob)(v:Vl):∃b,nM h a v=a++b:=by
 unfold nM;split
 .exact⟨[],s_⟩
 .cases iU h v.n with
  |none=>exact⟨[],s_⟩
  |some c=>exact⟨[c],rfl⟩
def pZ(h:List Ob)(l:List Vl)(a:List Ob):∃b,look h a l=a++b:=by
 unfold look
 induction l generalizing a with
 |nil=>exact⟨[],s_⟩
 |cons c l f=>
  obtain⟨b,d⟩:=vw h a c;obtain⟨j,i⟩:=f (nM h a c);exact⟨b++j,by rw[GT,i,d,Ge]⟩
def sI(h:List Ob)(f i:Nat)(a:List Ob):∃b,jS h f i a=a++b:=by
 induction f generalizing i a with
 |zero=>exact⟨[],by simp[jS]⟩
 |succ f d=>
  unfold jS;split
  .rename_i m;obtain⟨b,c⟩:=pZ h a[i].fs a;obtain⟨l,j⟩:=d (i+1) (look h a a[i].fs);exact⟨b++l,by rw[j,c,Ge]⟩
  .exact⟨[],s_⟩
def Found.loop{h a:List Ob}(b:Found h a)(f i:Nat):Found h (jS h f i a):=by
 induction f generalizing i a with
 |zero=>exact b
 |succ f c=>
  unfold jS;split
  .exact c (b.look _) (i+1)
  .exact b
structure Alike(h x:List Ob)(roots:List Vl)(ro:Ob->Ob)(rv:Vl->Vl):Prop where
 hS:∀v,(rv v).r=v.r
 num:∀v,v.r=false->rv v=v
 fields:∀o∈nP h roots,(ro o).fs=o.fs.map rv
 none_:∀v,(v∈roots∨∃o∈nP h roots,v∈o.fs)->v.r=true->iU h v.n=none->iU x (rv v).n=none
 some_:∀v,(v∈roots∨∃o∈nP h roots,v∈o.fs)->v.r=true->∀o,iU h v.n=some o->iU x (rv v).n=some (ro o)
 ids:∀v,(v∈roots∨∃o∈nP h roots,v∈o.fs)->v.r=true->∀o∈nP h roots,((ro o).id=(rv v).n↔o.id=v.n)
def pa{c:Type}(f:α->c){p:c->Bool}(q:α->Bool)(l:List α)(k:Nat)(h:∀a∈l,p (f a)=q a):iR p (l.map f) k=iR q l k:=by
 induction l generalizing k with
 |nil=>rfl
 |cons a l b=>simp only[Gn,iR];rw[h a s_,b (k+1) λd i=>h d (by simp[i])]
section
variable{h x:List Ob}{roots:List Vl}{ro:Ob->Ob}{rv:Vl->Vl}
def Alike.place(A:Alike h x roots ro rv){v:Vl}(i:v∈roots∨∃a∈nP h roots,v∈a.fs)(f:v.r=true)(b:List Ob)(c:∀a∈b,a∈nP h roots):
 place (b.map ro) (rv v).n=place b v.n:=by
 unfold Proofs.YtenbhdilndfaeaaGreat.place;rw[pa ro (λa:Ob=>a.id==v.n)];intro a d
 have:=A.ids v i f a (c a d)
 rw[Bool.eq_iff_iff];exact ML
def Alike.nM(A:Alike h x roots ro rv){v:Vl}(f:v∈roots∨∃b∈nP h roots,v∈b.fs)(a:List Ob)(j:∀b∈a,b∈nP h roots):
 nM x (a.map ro) (rv v)=(nM h a v).map ro:=by
 unfold Proofs.YtenbhdilndfaeaaGreat.nM;rw[A.hS v]
 by_cases c:v.r=true
 .rw[A.place f c a j]
  by_cases d:v.r=false∨0<Proofs.YtenbhdilndfaeaaGreat.place a v.n
  .rw[O_ d,O_ d]
  .rw[I_ d,I_ d]
   cases i:iU h v.n with
   |none=>rw[A.none_ v f c i]
   |some b=>rw[A.some_ v f c b i];simp
 .have d:=zu c;rw[O_ (.inl d),O_ (.inl d)]
def Alike.look(A:Alike h x roots ro rv):∀(l:List Vl) (a:List Ob),(∀v∈l,v∈roots∨∃b∈nP h roots,v∈b.fs)->(∀b∈look h a l,b∈nP h roots)->
 look x (a.map ro) (l.map rv)=(look h a l).map ro
 |[],_,_,_=>rfl
 |v::l,a,f,d=>by
  have c:Proofs.YtenbhdilndfaeaaGreat.look h a (v::l)=Proofs.YtenbhdilndfaeaaGreat.look h (Proofs.YtenbhdilndfaeaaGreat.nM h a v) l:=rfl;have m:Proofs.YtenbhdilndfaeaaGreat.look x (a.map ro) ((v::l).map rv)=Proofs.YtenbhdilndfaeaaGreat.look x (Proofs.YtenbhdilndfaeaaGreat.nM x (a.map ro) (rv v)) (l.map rv):=rfl
  have i:∀b∈a,b∈nP h roots:=λb n=>by
   obtain⟨r,j⟩:=pZ h (v::l) a;exact d b (by rw[j];exact FL _ n)
  rw[m,A.nM (f v s_) a i,c];exact Alike.look A l _ (λp o=>f p (by simp[o])) (by rw[<-c];exact d)
def Alike.loop(A:Alike h x roots ro rv):∀(f i:Nat) (a:List Ob),(∀c∈jS h f i a,c∈nP h roots)->jS x f i (a.map ro)=(jS h f i a).map ro
 |0,_,_,_=>rfl
 |f+1,i,a,j=>by
  by_cases b:i<a.length
  .have m:jS h (f+1) i a=jS h f (i+1) (Proofs.YtenbhdilndfaeaaGreat.look h a a[i].fs):=by rw[jS,dif_pos b]
   have o:jS x (f+1) i (a.map ro)=jS x f (i+1) (Proofs.YtenbhdilndfaeaaGreat.look x (a.map ro) (ro a[i]).fs):=by
    rw[jS,dif_pos (zu b),Gg]
   rw[m]at j
   have l:∀c∈Proofs.YtenbhdilndfaeaaGreat.look h a a[i].fs,c∈nP h roots:=λc p=>by
    obtain⟨s,d⟩:=sI h f (i+1) (Proofs.YtenbhdilndfaeaaGreat.look h a a[i].fs);exact j c (by rw[d];exact FL _ p)
   have n:a[i]∈nP h roots:=by
    obtain⟨s,d⟩:=pZ h a[i].fs a;exact l _ (by rw[d];exact FL _ (M_ b))
   rw[o,m,A.fields _ n,A.look _ a (λt r=>.inr ⟨_,n,r⟩) l];exact Alike.loop A f (i+1) _ j
  .rw[jS,dif_neg (zu b),jS,dif_neg b]
end
def jn(h:List Ob)(id:Int):Int:=iR (λo:Ob=>o.id==id) h 0
def mA:List Ob->Int->Nat
 |[],_=>0
 |o::l,id=>if o.id<id then mA l id+1 else 0
def jY(h:List Ob)(o:Ob):List Ob:=
 if jn h o.id<0 then h.take (mA h o.id)++[o]++h.drop (mA h o.id) else h.take (jn h o.id).toNat++[o]++h.drop ((jn h o.id).toNat+1)
def infoVl:(prog.info? 38).map (λi=>(i.zero,i.size,i.bytes))=some (some (.agg #[.bool false,Y 0]),2,16):=by kernel_rfl
def infoOb:(prog.info? 56).map (λi=>(i.zero,i.size,i.bytes))=some (some (.agg #[Y 0,n_]),2,32):=by kernel_rfl
def wu(f:α->List Value)(c:∀a,(f a).length=2)(l:List α):(l.flatMap f).length=l.length*2:=by
 induction l with
 |nil=>rfl
 |cons x l b=>simp only[Gj,K_,c,b,FJ];omega
def jR(f:α->List Value)(c:∀a,(f a).length=2)(l:List α)(k b:Nat)(d:k<l.length)(j:b<2):(l.flatMap f)[k*2+b]?=(f l[k])[b]?:=by
 induction l generalizing k with
 |nil=>simp at d
 |cons x l i=>
  cases k with
  |zero=>simp only[Gj,Ht,W_,GD];rw[Hc (by rw[c];exact j)]
  |succ k=>
   simp only[Gj,Hk];rw[GN (by rw[c];omega),c,show(k+1)*2+b-2=k*2+b by omega];exact i k (zu d)
structure Rw where
 o:Ob
 A:Option Addr
 c:Nat
def Rw.E(r:Rw):List Value:=[Y r.o.id,.slice r.A r.o.fs.length r.c]
def jP(l:List Rw):List Value:=l.flatMap Rw.E
def hU(l:List Rw):List Ob:=l.map Rw.o
def lX(l:List Vl):(jd l).length=l.length*2:=wu Vl.E (λ_=>rfl) l
def nJ(l:List Rw):(jP l).length=l.length*2:=wu Rw.E (λ_=>rfl) l
def qx(a b:List Vl):jd (a++b)=jd a++jd b:=by simp[jd]
def mV(a b:List Rw):jP (a++b)=jP a++jP b:=by simp[jP]
def nE(l:List Vl):∀u∈jd l,u.oneCell'=true:=by
 intro u b;obtain⟨c,_,a⟩:=Ha.1 b;simp[Vl.E]at a
 rcases a with rfl|rfl<;>rfl
def j7(l:List Rw):∀u∈jP l,u.oneCell'=true:=by
 intro u b;obtain⟨c,_,a⟩:=Ha.1 b;simp[Rw.E]at a
 rcases a with rfl|rfl<;>rfl
def lk(n:Int):Prop:=(Lit.int .i64 n).wf=true
def Vs(w:World)(A:OA)(l:List Vl):Prop:=Sl w 38 2 A l.length (jd l)
def nV(w:World)(l:List Rw):Prop:=∀r∈l,Vs w r.A r.o.fs/\r.o.fs.length<=1000000000
def Os(w:World)(A:OA)(l:List Rw):Prop:=Sl w 56 2 A l.length (jP l)
def Vs.g_{A:OA}{l:List Vl}(h:Vs w A l)(a:J [] w w'):Vs w' A l:=Sl.g_ h a
def Os.g_{A:OA}{l:List Rw}(h:Os w A l)(a:J [] w w'):Os w' A l:=Sl.g_ h a
def nV.g_{l:List Rw}(h:nV w l)(c:J [] w w'):nV w' l:=λb a=>⟨(h b a).1.g_ c,(h b a).2⟩
def Vs.alloc{A:OA}{l:List Vl}(h:Vs w A l)(a:Obj):Vs (w.alloc a) A l:=Sl.alloc h a
def Os.alloc{A:OA}{l:List Rw}(h:Os w A l)(a:Obj):Os (w.alloc a) A l:=Sl.alloc h a
def nV.alloc{l:List Rw}(h:nV w l)(a:Obj):nV (w.alloc a) l:=h.g_ ((H [] w).alloc a)
def Vs.drew{A:OA}{l:List Vl}(h:Vs w A l):Vs w.drew A l:=h
def Os.drew{A:OA}{l:List Rw}(h:Os w A l):Os w.drew A l:=h
def nV.drew{l:List Rw}(h:nV w l):nV w.drew l:=h
def Vs.drewN{A:OA}{l:List Vl}(h:Vs w A l)(n:Nat):Vs (w.drewN n) A l:=h
def Os.drewN{A:OA}{l:List Rw}(h:Os w A l)(n:Nat):Os (w.drewN n) A l:=h
def nV.drewN{l:List Rw}(h:nV w l)(n:Nat):nV (w.drewN n) l:=h
def Vs.at_{A:OA}{l:List Vl}(h:Vs w A l)(hk:k<l.length):
 ∃b off,A=some (Z b off)/\w.cell? (Z b (off+k*2))=some (.bool l[k].r)/\w.cell? (Z b (off+k*2+1))=some (Y l[k].n):=by
 exact Ka
def Os.at_{A:OA}{l:List Rw}(h:Os w A l)(hk:k<l.length):
 ∃b off,A=some (Z b off)/\w.cell? (Z b (off+k*2))=some (Y l[k].o.id)/\w.cell? (Z b (off+k*2+1))=some (.slice l[k].A l[k].o.fs.length l[k].c):=by
 exact Kc
def yO{r:Rw}(h:Bk w g 56 #[Y r.o.id,.slice r.A r.o.fs.length r.c]):Os w (j_ g) [r]:=
 ⟨rfl,λ_=>⟨g,0,_,_,rfl,h,λb c a=>by
   have:b<2:=by
    rcases FO b 2 with h|h
    .exact h
    .rw[F8 (by simpa[jP,Rw.E]using h)]at a
     cases a
   rcases b with _|_|b
   .simpa[jP,Rw.E]using a
   .simpa[jP,Rw.E]using a
   .omega⟩⟩
def Eh{v:Vl}(h:Bk w g 38 (V_ v)):Vs w (j_ g) [v]:=
 ⟨rfl,λ_=>⟨g,0,_,_,rfl,h,λb c a=>by
   have:b<2:=by
    rcases FO b 2 with h|h
    .exact h
    .rw[F8 (by simpa[jd,Vl.E]using h)]at a
     cases a
   rcases b with _|_|b
   .simpa[jd,Vl.E]using a
   .simpa[jd,Vl.E]using a
   .omega⟩⟩
def iC{P:Program}{c:Func}{p u:Tmp}{b:TypeId}(h:c.results=#[.cell p b,.tmp u]){a:Array Value}{w:World}{g:Nat}{t:TypeId}{cs:Array Value}{f:Nat × Nat}{d:TypeDesc}
 (n:a.getD p undef=q_ g) (l:w.heap[g]?=some (.cells cs t f))
 (o:P.underlying b=some d) (j:(match d with| .struct _| .array _ _=>true|_=>false)=true) (m:(P.info? b).map (·.size)=some cs.size):
 (results c a).run P w=.ok (.tuple #[.agg cs,a.getD u undef]) w:=by
 rw[results_cell_tmp h];have i:a[p]?.getD undef=q_ g:=zu n;simp[i,asAddr,run_loadVar_row w g t b cs f d l o j m,Result.andThen]
def DD{i:Int}{fs:List Vl}{B:OA}{n d:Nat}(h:Bk w g 56 #[Y i,.slice B n d])(a:fs.length=n):Sl w 56 2 (j_ g) 1 (jP [⟨⟨i,fs⟩,B,d⟩]):=by
 subst a;exact yO (r:=⟨⟨i,fs⟩,B,d⟩) h
def nV.ir{l:List Rw}{t:TypeId}(h:nV w l)(f:Bk w g t cs)(c:38≠t)(d:J [g] w w'):nV w' l:=λb a=>⟨Sl.ir (h b a).1 f c d,(h b a).2⟩
def l5{P:Program}{fn:Func}{R:Ending->World->Prop}{a:Act}{w:World}{p u:Tmp}{ty:TypeId}{g:Nat}{t:TypeId}{fr:Nat × Nat}{d:TypeDesc}(cs:Array Value)(y:Value)(hg:w.heap[g]?=some (.cells cs t fr))(hu:P.underlying ty=some d)(hR:R (.returned (.tuple #[.agg cs,y])) w)
 (h:fn.results=#[.cell p ty,.tmp u]:=by rfl) (hp:a.tmps.getD p undef=q_ g:=by rfl) (hd:(match d with|.struct _|.array _ _=>true|_=>false)=true:=by rfl) (hi:(P.info? ty).map (·.size)=some cs.size:=by kernel_rfl) (hy:a.tmps.getD u undef=y:=by rfl) (hf:a.defers=[]:=by rfl):bodyPost P fn R .ret a w:=FY (v:=.tuple #[.agg cs,y]) (by rw[<-hy];exact iC h hp hg hu hd hi) hf hR
def qb(A:OA)(c:Nat)(l:List Rw)(id:Int)(h:Os w A l)(z:l.length<=1000000000):
 Calls prog 55 #[.agg #[.slice A l.length c],Y id] w λe w'=>e=.returned (Y (jn (hU l) id))/\J [] w w':=by
 have n:=O (show jn (hU l) id=iR (λi:Rw=>i.o.id==id) l 0 by unfold jn hU;exact pa _ _ _ _ λ_ _=>rfl);generalize v:l.length=a at*;have m:Bk (w.alloc (.cells #[.slice A a c] 35)) w.heap.size 35 #[.slice A a c]:=Q_ w _ _;have u:(w.alloc (.cells #[.slice A a c] 35)).cell? (Z w.heap.size 0)=some (.slice A a c):=m.f_ 0
 go_enter func55,ntmps55
 go_wp2
 go_loopw [10] (λf w'=>∃k:Nat,k<=a/\f=Y k/\jn (hU l) id=iR (λi:Rw=>i.o.id==id) (l.drop k) k/\J [] w w') (λf _=>a-(intOf f).toNat)
 case atStart=>exact⟨0,P_ _,rfl,n.out,(H _ _).alloc _⟩
 case round=>
  obtain⟨k,y,rfl,G,F⟩:=hrel;have E:=O G;clear G
  by_cases p:k<a
  .have j:k<l.length:=X;obtain⟨r,C,rfl,s,t⟩:=(h.g_ F).at_ j
   by_cases d:l[k].o.id=id
   .have b:(l[k].o.id==id)=true:=by simp[d]
    clear d;go_wp2;go_ret;exact⟨kq (by rw[E.out,mL _ _ _ _ X b]),F.alloc _⟩
   .have b:(l[k].o.id==id)=false:=by simp[d]
    go_wp2;go_roundw
    case rel=>exact⟨k+1,X,gn,by rw[E.out,k6 _ _ _ _ X b],F.alloc _⟩
    case measure=>exact mz
  .exact Mo
def tL(a:Ob)(A:OA)(c:Nat)(w:World)(h:Sl w q 2 A a.fs.length (jd a.fs))(L:a.fs.length<=1000000000):
 Calls prog 56 #[.agg #[Y a.id,.slice A a.fs.length c]] w λe w'=>∃(A':OA) (c':Nat),
  e=.returned (.agg #[Y a.id,.slice A' a.fs.length c'])/\w'.ownsRow w.heap.size 38 2 (.slice A' a.fs.length c') a.fs.length (jd a.fs)/\J [] w w':=by
 obtain⟨y,E,F,t,D⟩:=info_parts infoVl;obtain⟨id,j⟩:=a;simp only at h L |-;obtain⟨n,-,-⟩:=qL w 56 #[Y id,.slice A j.length c] 56 #[Y 0,n_];obtain⟨U,V⟩:=n.iM;obtain⟨-,z,-⟩:=qL w 56 #[Y id,.slice A j.length c] 56 #[Y 0,n_];have u:=(h.alloc (.cells #[Y id,.slice A j.length c] 56)).alloc (.cells #[Y 0,n_] 56);have s:=((H [] w).alloc (.cells #[Y id,.slice A j.length c] 56)).alloc (.cells #[Y 0,n_] 56);have r:w.heap.size+1≠w.heap.size:=X;generalize K:j.length=f at*;clear K
 go_enter func56,ntmps56
 go_wp2_with (at_builtin;refine iJ _ rfl (.const (n_)) (.tmp 4) 54 rfl w.heap.size 38 y _ 2 16 underlying54 E F t D rfl I I none 0 0 [] rfl (iY _ _ _ _) _ f c _ rfl u (nE _) X p_ ?_;intro b d M o l;simp only[W_,FU]at o;have m:=l.bk n I;have i:=l.bk z I;obtain⟨P,Q⟩:=m.iM;have N:=m.hm 1;obtain⟨S,T⟩:=i.iM;have O:=i.hm 0;have R:=i.hm 1)
 have v:=((i.ib (p:=(Z w.heap.size 1)) r (.slice b f d)).hN 0 (Y id)).hN 1 (.slice b f d);refine rr_ #[Y id,.slice b f d] v underlying56 ⟨b,d,rfl,?_,?_⟩
 .have C:=kQ o m I ((H [w.heap.size] M).setCell (p:=(Z w.heap.size 1)) (.inl s_) (.slice b f d));exact kQ C (i.ib (p:=(Z w.heap.size 1)) r (.slice b f d)) I (((H [w.heap.size+1] _).setCell (.inl s_) _).setCell (.inl s_) _)
 .exact(((l.gr [] w (H_ _) s).setCell (.inr s_) _).setCell (.inr s_) _).setCell (.inr s_) _
def tM(a:Ob)(A:OA)(c:Nat)(w:World)(h:Sl w q 2 A a.fs.length (jd a.fs))(i:a.fs.length<=1000000000):
 Calls prog 56 #[.agg #[Y a.id,.slice A a.fs.length c]] w λe w'=>∃(A':OA) (c':Nat),
  e=.returned (.agg #[Y a.id,.slice A' a.fs.length c'])/\Vs w' A' a.fs/\J [] w w':=
 (tL a A c w h i).mono λ_ _⟨A',c',b,d,f⟩=>⟨A',c',b,Sl.iQ d,f⟩
def CE{h:List Ob}{id:Int}(b:k<h.length)(a:h[k].id<id):mA (h.drop k) id=mA (h.drop (k+1)) id+1:=by
 rw[Y_ b];simp[mA,a]
def CF{h:List Ob}{id:Int}(b:k<h.length)(a:¬h[k].id<id):mA (h.drop k) id=0:=by
 rw[Y_ b];simp[mA,a]
def BC{h:List Ob}{id:Int}(a:h.length<=k):mA (h.drop k) id=0:=by
 rw[F3 a]
 rfl
def zz(f:α->List Value)(b:∀a,(f a).length=2)(l:List α)(k:Nat):(l.take k).flatMap f=(l.flatMap f).take (k*2):=by
 induction l generalizing k with
 |nil=>simp
 |cons x l c=>
  cases k with
  |zero=>simp
  |succ k=>
   rw[H4,Gj,Gj,c,List.take_append,b,FK (l:=f x) (by rw[b];omega),show(k+1)*2-2=k*2 by omega]
def Os.take{A:OA}{l:List Rw}(h:Os w A l)(p:k<=l.length):Sl w 56 2 A k (jP (l.take k)):=by
 refine⟨by rw[nJ,Gd];omega,λo=>?_⟩;obtain⟨c,m,cs,d,b,f,i⟩:=h.2 X;refine⟨c,m,cs,d,b,f,λj n a=>i j n ?_⟩;unfold jP at a;rw[zz Rw.E (λ_=>rfl),Gv]at a;split at a
 .exact a
 .cases a
def Os.drop{A:OA}{l:List Rw}(h:Os w A l)(t:k<=l.length)(q:Nat)(V:l.length<=q):Sl w 56 2 (if q=k then A else A.map (·.add (k*2))) (l.length-k) (jP (l.drop k)):=by
 refine⟨by rw[nJ,Hb],λr=>?_⟩;obtain⟨i,o,cs,j,f,m,n⟩:=h.2 X;subst f;rw[I_ X];refine⟨i,o+k*2,cs,j,by simp[oP],m,λa p b=>?_⟩;rw[Ho];refine n _ p ?_
 have s:a<(l.length-k)*2:=by
  rcases FO a ((l.length-k)*2)with h|h
  .exact h
  .rw[F8 (by rw[nJ,Hb];exact h)]at b
   cases b
 have c:=jR Rw.E (λ_=>rfl) (l.drop k) (a / 2) (a % 2) (by rw[Hb];omega) (Nat.mod_lt _ X);have d:=jR Rw.E (λ_=>rfl) l (k+a / 2) (a % 2) X (Nat.mod_lt _ X);rw[show a / 2*2+a % 2=a by omega]at c;rw[show(k+a / 2)*2+a % 2=k*2+a by omega]at d;unfold jP at b |-;rw[d,<-b,c,List.getElem_drop]
def tG(l:List Rw)(k m:Nat)(r:Rw):List Rw:=l.take k++[r]++l.drop m
def yF(l:List Rw)(k a:Nat)(r:Rw):hU (tG l k a r)=(hU l).take k++[r.o]++(hU l).drop a:=by
 simp[tG,hU,List.map_take,List.map_drop]
def App.ue{t:TypeId}(h:App base e w w')(b:Bk w g t cs)(a:g<base):Bk w' g t cs:=h.iy _ _ b (.inl a)
def wh{h:List Rw}{a:Nat}{r:Rw}(b:a<=h.length)(c:k<=h.length):(tG h k a r).length=k+1+(h.length-a):=by
 simp[tG];omega
def yA{h:List Rw}{j:Nat}{id:Int}{fs:List Vl}{A:OA}{c:Nat}(d:nV w h)(i:Vs w A fs)(f:fs.length<=1000000000):nV w (tG h k j ⟨⟨id,fs⟩,A,c⟩):=by
 intro b a;unfold tG at a
 rcases T_.1 a with a|a
 .rcases T_.1 a with a|a
  .exact d b (Gf a)
  .have:b=⟨⟨id,fs⟩,A,c⟩:=zu a
   subst this;exact⟨i,f⟩
 .exact d b (GY a)
def App.lD{l:List Rw}(h:App base 56 w w')(a:nV w l):nV w' l:=λc b=>⟨h.sl (a c b).1 I,(a c b).2⟩
def vt(n:OA)(f:Nat)(h:List Rw)(id:Int)(A:OA)(c:Nat)(fs:List Vl)(V:Os w n h)(hR:nV w h)(b0:h.length<=f)(hv:Sl w q 2 A fs.length (jd fs))(hn1:fs.length<=1000000000)(bj:h.length<=999999999):
 Calls prog 123 #[.agg #[.slice n h.length f],.agg #[Y id,.slice A fs.length c]] w λe w'=>∃(A':OA) (c':Nat) (rs:List Rw),
  e=.returned (.agg #[.slice A' rs.length c'])/\rs.length<=c'/\Os w' A' rs/\nV w' rs/\hU rs=jY (hU h) ⟨id,fs⟩/\J [] w w':=by
 obtain⟨i1,T,U,W,ca⟩:=info_parts infoOb;obtain⟨al,an,-,-,bM⟩:=C6 w 35 #[.slice n h.length f] 56 #[Y id,.slice A fs.length c] 35 #[n_] 35 #[n_];have aA:Bk ((((w.alloc (.cells #[.slice n h.length f] 35)).alloc (.cells #[Y id,.slice A fs.length c] 56)).alloc (.cells #[n_] 35)).alloc (.cells #[n_] 35)) (w.heap.size+2) 35 #[n_]:=zu ((Q_ ((w.alloc (.cells #[.slice n h.length f] 35)).alloc (.cells #[Y id,.slice A fs.length c] 56)) 35 #[n_]).alloc (.cells #[n_] 35));have B:Bk ((((w.alloc (.cells #[.slice n h.length f] 35)).alloc (.cells #[Y id,.slice A fs.length c] 56)).alloc (.cells #[n_] 35)).alloc (.cells #[n_] 35)) (w.heap.size+3) 35 #[n_]:=zu (Q_ (((w.alloc (.cells #[.slice n h.length f] 35)).alloc (.cells #[Y id,.slice A fs.length c] 56)).alloc (.cells #[n_] 35)) 35 #[n_]);have h0:=al.f_ 0;obtain⟨h1,h2⟩:=an.iM
 go_enter func123,ntmps123
 go_wp2_with fail
 go_at_call 55
 refine(qb n f h id (V.g_ bM) X).mono ?_;rintro e w1⟨rfl,E⟩;have MS:=bM.trans E;have bd:=al.gr E s_;have au:=an.gr E s_;have bE:=aA.gr E s_;have bS:=B.gr E s_;have aB:=bS.lt;clear bM al an aA B h0 h1 h2 E;have Q:=O (show -1<=jn (hU h) id/\jn (hU h) id<h.length by have:=nA (λo:Ob=>o.id==id) (hU h) 0;simp[hU]at this;unfold jn;simpa[hU]using this);have aM:w.heap.size=w.heap.size:=rfl;generalize aS:jn (hU h) id=t at*;have be:=O aS;clear aS;have bk:=O (show(hU h).length=h.length by simp[hU])
 go_upto_if 14 with fail
 go_cut [7] (λP s=>∃k:Nat,P=Y k/\k<=h.length/\((0<=t/\t=k)∨(t<0/\k=mA (hU h) id))/\J [] w1 s)
 case first=>
  obtain⟨C,K⟩:=Q.out
  by_cases i:t<0
  .obtain rfl:t= -1:=by omega
   have aW:=O i;clear i C K;have D:=O (show mA (hU h) id=0+mA ((hU h).drop 0) id by simp)
   go_wp2_with fail
   go_loopw [7] (λP w'=>∃k:Nat,P=Y k/\k<=h.length/\mA (hU h) id=k+mA ((hU h).drop k) id/\J [] w1 w') (λP _=>h.length-(intOf P).toNat)
   case atStart=>exact⟨0,rfl,P_ _,D.out,H _ _⟩
   case round=>
    obtain⟨k,rfl,hk,v,F⟩:=hrel;have MT:=O v;clear v;have MP:=(bd.gr F s_).f_ 0;obtain⟨av,bK⟩:=(au.gr F s_).iM
    by_cases b:k<h.length
    .obtain⟨N,off,rfl,j,l⟩:=(V.g_ (MS.trans F)).at_ b;have G:=O (show(hU h)[k]'(by rw[bk.out];exact b)=h[k].o by simp[hU])
     by_cases a:h[k].o.id<id
     .have aq:=O (CE (h:=hU h) (id:=id) (k:=k) (by rw[bk.out];exact b) (by rw[G.out];exact a));have d:decide (h[k].o.id<id)=true:=zu a;clear a G;generalize h[k]=r at*;obtain⟨⟨y,M⟩,L,z⟩:=r;simp only at j l d;have u:(k:Int)<(h.length:Int):=X;exact Kq
     .have aq:=O (CF (h:=hU h) (id:=id) (k:=k) (by rw[bk.out];exact b) (by rw[G.out];exact a));have d:decide (h[k].o.id<id)=false:=zu a;clear a G;generalize h[k]=r at*;obtain⟨⟨y,M⟩,L,z⟩:=r;simp only at j l d;have u:(k:Int)<(h.length:Int):=X;exact KG
    .have aq:=O (BC (h:=hU h) (id:=id) (k:=k) (by rw[bk.out];omega));have u:¬(k:Int)<(h.length:Int):=X;exact KG
  .obtain⟨x,rfl⟩:∃x:Nat,t=x:=⟨t.toNat,X⟩;rw[show decide ((x:Int)<0)=false by simp];clear i
   go_wp2_with fail
   go_meet
   have:=Q.out
   exact⟨x,rfl,X,.inl ⟨X,rfl⟩,H _ _⟩
 case rest=>
  obtain⟨k,rfl,hk,aT,F⟩:=hcut;have bI:=O aT;clear aT;have S:=MS.trans F;have MP:=bd.gr F s_;have br:=au.gr F s_;have bx:=bE.gr F s_;have cg:=bS.gr F s_;have bB:=F.size;clear bd au bE bS F;obtain⟨a2,bC⟩:=br.iM;have ey:=MP.f_ 0;have bD:=cg.f_ 0;have aC:(k:Int)<=(f:Int):=X;have e0:(0:Int)<=(k:Int):=X;obtain⟨l,rfl⟩:∃x,x=wc:=⟨wc,rfl⟩;have bA:w.heap.size+1<l.heap.size:=X;have aY:=Os.take (V.g_ S.drew) hk;have bG:=hv.g_ S.drew;have aX:=iY l.drew l.heap.size 56 2;have ap:l.heap.size<=l.drew.heap.size:=H_ _
  go_upto_region 8 with fail
  go_cut [] (λs=>∃(u:OA) (v:Nat) (i:OA) (j:Nat),Bk s w.heap.size 35 #[.slice n h.length f]/\Bk s (w.heap.size+2) 35 #[n_]/\Bk s (w.heap.size+3) 35 #[.slice u (k+1) v]/\s.ownsRow l.heap.size 56 2 (.slice u (k+1) v) (k+1) (jP (h.take k++[⟨⟨id,fs⟩,i,j⟩]))/\Vs s i fs/\l.heap.size<=s.heap.size/\J [] w s)
  case first=>
   go_region_law (first|(refine pG rfl (.tmp 34) (.tmp 38) 33 rfl l.heap.size 56 i1 2 32 underlying33 T U W ca rfl I I none 0 0 [] rfl aX n k f rfl aY (j7 _) X ap ?_;intro L am ah D a;simp only[W_,FU]at D;have bg:=a.bk MP I;have bo:=a.bk bx I;have bt:=a.bk cg I;have bn:=a.ue br.drew bA;obtain⟨hq0,hq1⟩:=bn.iM;have M:=hv.g_ (a.gr [] w S.size S.drew))|(go_simp;go_at_call 56;refine(tM ⟨id,fs⟩ A c _ M hn1).mono ?_;rintro e K⟨i,j,rfl,bF,af⟩;have b:=af.alloc (.cells #[Y id,.slice i fs.length j] 56);have bi:=bg.gr b s_;have bp:=bo.gr b s_;have bu:=bt.gr b s_;have bP:=iF D b;have ak:=DD (fs:=fs) (Q_ K 56 #[Y id,.slice i fs.length j]) rfl;have C:=G_ (G_ ap a.size) b.size)|(refine pG rfl (.tmp 39) (.tmp 42) 33 rfl l.heap.size 56 i1 2 32 underlying33 T U W ca rfl I I L k am _ rfl bP _ 1 1 rfl ak (j7 _) X C ?_;intro u v ad N d;have bm:=d.bk bi I;have bq:=d.bk bp I;have y:=d.bk bu I;have bN:=y.hm 0;have ae:=y.f_ 0))
   all_goals
    go_wp2;go_meet;have z:=(H [w.heap.size+3] ad).setCell (p:=(Z (w.heap.size+3) 0)) (.inl s_) (.slice u (k+1) v);refine⟨u,v,i,j,bm.gr z s_,bq.gr z s_,y.hN 0 _,?_,?_,G_ (G_ C d.size) z.size,?_⟩
    .rw[mV];exact kQ N y I z
    .exact Sl.ir (d.sl (bF.alloc (.cells #[Y id,.slice i fs.length j] 56)) I) y I z
    .exact(d.gr [] w S.size ((a.gr [] w S.size S.drew).trans b)).setCell (.inr (show w.heap.size<=w.heap.size+3 by omega)) _
  case rest=>
   obtain⟨u,v,i,j,av,aO,ao,aV,a8,aZ,m⟩:=hcut;have ey:=av.f_ 0;have bD:=ao.f_ 0;have bO:=m.size;obtain⟨a,rfl⟩:∃x,x=h:=⟨h,rfl⟩;have aR:=hR.g_ m.drew;clear bG aX ap aY
   rcases bI.out with⟨b5,rfl⟩|⟨b5,aF⟩
   .have L:k+1<=a.length:=ov Q.out;have em:(k:Int)+1<=(a.length:Int):=X;have bH:(0:Int)<=(k:Int)+1:=X;clear b5;have aH:=Os.drop (V.g_ m.drew) L f b0;have ax:l.heap.size<=wc.drew.heap.size:=aZ;have aE:=iF aV (H [] wc).drew;have aN:w.heap.size+2≠w.heap.size+3:=X
    go_wp2_with fail
    go_region_law (refine pG rfl (.tmp 50) (.tmp 54) 33 rfl l.heap.size 56 i1 2 32 underlying33 T U W ca rfl I I u (k+1) v _ rfl aE _ (a.length-(k+1)) (f-(k+1)) rfl aH (j7 _) X ax ?_;intro d b N D R;have C:=R.bk aO I;have g:=R.bk ao I;have bv:=g.hm 0;have ag:=g.f_ 0;have bw:=C.hm 0;have dn:=C.f_ 0)
    all_goals
     have dM:k+1+(a.length-(k+1))=a.length:=X;rw[dM]at D
     have aQ:(tG a k (k+1) ⟨⟨id,fs⟩,i,j⟩).length=a.length:=by rw[wh L hk];exact dM
     clear dM;have y:=O aQ;clear aQ;go_wp2
     all_goals
      have ar:=g.hN 0 (.slice d a.length b);have z:=C.ib (p:=(Z (w.heap.size+3) 0)) aN (.slice d a.length b);have dy:=z.hN 0 (.slice d a.length b);have K:=(H [w.heap.size+3] N).setCell (p:=(Z (w.heap.size+3) 0)) (.inl s_) (.slice d a.length b);have M:=(H [w.heap.size+2] (N.setCell (Z (w.heap.size+3) 0) (.slice d a.length b))).setCell (p:=(Z (w.heap.size+2) 0)) (.inl s_) (.slice d a.length b);have aG:=kQ (kQ D g I K) z I M;have bQ:nV _ (tG a k (k+1) ⟨⟨id,fs⟩,i,j⟩):=((yA (R.lD aR) (R.sl a8 I) hn1).ir g I K).ir z I M;refine FY (G7 rfl _ _ _ _ _ _ _ rfl dy underlying35 rfl k_) rfl ⟨d,b,tG a k (k+1) ⟨⟨id,fs⟩,i,j⟩,by rw[y.out];rfl,by rw[y.out];exact jk D,?_,bQ,?_,?_⟩
      .unfold Os;rw[y.out]
       have:=Sl.iQ aG
       rw[<-mV]at this;exact this
      .rw[yF];unfold jY;rw[be.out,I_ X,F0]
      .exact L7
   .obtain rfl:t= -1:=by have:=Q.out;omega
    have L:k<=a.length:=hk;have em:(k:Int)<=(a.length:Int):=X;have bf:=O aF;clear b5 aF;have aH:=Os.drop (V.g_ m.drew) L f b0;have ax:l.heap.size<=wc.drew.heap.size:=aZ;have aE:=iF aV (H [] wc).drew;have aN:w.heap.size+2≠w.heap.size+3:=X
    go_wp2_with fail
    go_region_law (refine pG rfl (.tmp 50) (.tmp 54) 33 rfl l.heap.size 56 i1 2 32 underlying33 T U W ca rfl I I u (k+1) v _ rfl aE _ (a.length-(k)) (f-(k)) rfl aH (j7 _) X ax ?_;intro d b N D R;have C:=R.bk aO I;have g:=R.bk ao I;have bv:=g.hm 0;have ag:=g.f_ 0;have bw:=C.hm 0;have dn:=C.f_ 0)
    all_goals
     have y:=O (wh (r:=⟨⟨id,fs⟩,i,j⟩) L hk);go_wp2
     all_goals
      have ar:=g.hN 0 (.slice d (k+1+(a.length-(k))) b);have z:=C.ib (p:=(Z (w.heap.size+3) 0)) aN (.slice d (k+1+(a.length-(k))) b);have dy:=z.hN 0 (.slice d (k+1+(a.length-(k))) b);have K:=(H [w.heap.size+3] N).setCell (p:=(Z (w.heap.size+3) 0)) (.inl s_) (.slice d (k+1+(a.length-(k))) b);have M:=(H [w.heap.size+2] (N.setCell (Z (w.heap.size+3) 0) (.slice d (k+1+(a.length-(k))) b))).setCell (p:=(Z (w.heap.size+2) 0)) (.inl s_) (.slice d (k+1+(a.length-(k))) b);have aG:=kQ (kQ D g I K) z I M;have bQ:nV _ (tG a k (k) ⟨⟨id,fs⟩,i,j⟩):=((yA (R.lD aR) (R.sl a8 I) hn1).ir g I K).ir z I M;refine FY (G7 rfl _ _ _ _ _ _ _ rfl dy underlying35 rfl k_) rfl ⟨d,b,tG a k (k) ⟨⟨id,fs⟩,i,j⟩,by rw[y.out];rfl,by rw[y.out];exact jk D,?_,bQ,?_,?_⟩
      .unfold Os;rw[y.out]
       have:=Sl.iQ aG
       rw[<-mV]at this;exact this
      .rw[yF];unfold jY;rw[be.out,O_ X,<-bf.out]
      .exact L7
def m5(h:List Ob)(id:Int):(jn h id<0/\iU h id=none)∨∃k,∃d:k<h.length,jn h id=(k:Nat)/\iU h id=some h[k]:=by
 suffices MT:∀b:Nat,(iR (λa:Ob=>a.id==id) h b<0/\iU h id=none)∨∃k,∃d:k<h.length,iR (λa:Ob=>a.id==id) h b=(b+k:Nat)/\iU h id=some h[k] by
  rcases MT 0 with c|⟨k,d,c,j⟩
  .exact .inl c
  .exact .inr ⟨k,d,by unfold jn;rw[c];simp,j⟩
 induction h with
 |nil=>intro b;left;simp[iR,iU]
 |cons a i m=>
  intro b
  by_cases f:a.id=id
  .right;exact⟨0,s_,by simp[iR,f],by simp[iU,f]⟩
  .have l:iR (λa:Ob=>a.id==id) (a::i) b=iR (λa:Ob=>a.id==id) i (b+1):=by simp[iR,f]
   have n:iU (a::i) id=iU i id:=by simp[iU,f]
   rw[l,n]
   rcases m (b+1)with c|⟨k,d,c,j⟩
   .exact .inl c
   .exact .inr ⟨k+1,by simpa using d,by rw[c];congr 1;omega,by simpa using j⟩
def get_none(A:OA)(c:Nat)(l:List Rw)(id:Int)(w:World)(h:Os w A l)(m:l.length<=1000000000)(j:iU (hU l) id=none):
 Calls prog 14 #[.agg #[.slice A l.length c],Y id] w λe w'=>e=.returned (.tuple #[.agg #[Y 0,n_],.bool false])/\J [] w w':=by
 obtain⟨d,f,MR⟩:=qL w 35 #[.slice A l.length c] 56 #[Y 0,n_];have s:((w.alloc (.cells #[.slice A l.length c] 35)).alloc (.cells #[Y 0,n_] 56)).cell? (Z w.heap.size 0)=some (.slice A l.length c):=d.f_ 0
 rcases m5 (hU l) id with⟨i,_⟩|⟨k,v,_,b⟩
 .go_enter func14,ntmps14
  go_wp2_with fail
  go_at_call 55
  refine(qb A c l id (h.g_ MR) m).mono ?_;rintro e y⟨rfl,MS⟩;have a:=f.gr MS s_;obtain⟨p,t⟩:=a.iM;have r:=a.hm 0;have o:=a.hm 1;have u:¬0<=jn (hU l) id:=X;clear i;go_wp2;have n:=(a.hN 0 (Y 0)).hN 1 (n_);refine l5 #[Y 0,n_] (.bool false) n underlying56 ⟨rfl,?_⟩;exact Mp
 .rw[j]at b
  cases b
def get_some(A:OA)(c:Nat)(l:List Rw)(id:Int)(o:Ob)(w:World)(h:Os w A l)(K:nV w l)(F:l.length<=1000000000)(m:iU (hU l) id=some o):
 Calls prog 14 #[.agg #[.slice A l.length c],Y id] w λe w'=>∃(A':OA) (c':Nat),e=.returned (.tuple #[.agg #[Y o.id,.slice A' o.fs.length c'],.bool true])/\Vs w' A' o.fs/\J [] w w':=by
 obtain⟨n,t,f⟩:=qL w 35 #[.slice A l.length c] 56 #[Y 0,n_];have U:((w.alloc (.cells #[.slice A l.length c] 35)).alloc (.cells #[Y 0,n_] 56)).cell? (Z w.heap.size 0)=some (.slice A l.length c):=n.f_ 0
 rcases m5 (hU l) id with⟨_,a⟩|⟨k,E,G,a⟩
 .rw[m]at a
  cases a
 .rw[m]at a;injection a with a
  have r:=by simpa[hU]using E
  have u:o=l[k].o:=by rw[a];simp[hU]
  subst u;clear a m;have y:=O G;clear G;have T:(k:Int)<(l.length:Int):=X
  go_enter func14,ntmps14
  go_wp2_with fail
  go_at_call 55
  refine(qb A c l id (h.g_ f) F).mono ?_;rintro e P⟨rfl,d⟩;rw[y.out];have b:=t.gr d s_;have N:=n.gr d s_;have z0:P.cell? (Z w.heap.size 0)=some (.slice A l.length c):=N.f_ 0;have s:=(h.g_ f).g_ d;have C:=(K.g_ f).g_ d;obtain⟨W,off,rfl,bm,bu⟩:=s.at_ r;obtain⟨L,D⟩:=C l[k] (M_ r)
  go_wp2_with fail
  go_at_call 56
  refine(tM l[k].o l[k].A l[k].c _ L D).mono ?_;rintro e z⟨j,i,rfl,v,p⟩;have b:=b.gr p s_;obtain⟨R,V⟩:=b.iM;have S:=b.hm 0;have Q:=b.hm 1;go_wp2;have M:=(b.hN 0 (Y l[k].o.id)).hN 1 (.slice j l[k].o.fs.length i);refine l5 #[Y l[k].o.id,.slice j l[k].o.fs.length i] (.bool true) M underlying56 ⟨j,i,rfl,?_,?_⟩
  .exact Sl.ir v b I (((H [w.heap.size+1] z).setCell (.inl s_) _).setCell (.inl s_) _)
  .exact(((f.trans d).trans p).setCell (.inr s_) _).setCell (.inr s_) _
def h6(h:List Ob)(id f:Int):Option Vl:=match iU h id with
 |none=>none
 |some o=>if f<0 then none else o.fs[f.toNat]?
def mM{h:List Ob}{id f:Int}{v:Vl}(a:h6 h id f=some v):∃k,∃d:k<h.length,jn h id=(k:Nat)/\iU h id=some h[k]/\0<=f/\∃i:f.toNat<h[k].fs.length,h[k].fs[f.toNat]=v:=by
 unfold h6 at a
 rcases m5 h id with⟨c,b⟩|⟨k,d,c,b⟩
 .rw[b]at a
  cases a
 .rw[b]at a;simp only at a;split at a
  .cases a
  .rename_i i;obtain⟨j,l⟩:=GR.1 a;exact⟨k,d,c,b,X,j,l⟩
def kA(A:OA)(c:Nat)(l:List Rw)(id f:Int)(w:World)(h:Os w A l)(M:nV w l)(hn:l.length<=1000000000):
 Calls prog 148 #[.agg #[.slice A l.length c],Y id,Y f] w λe w'=>e=.returned (.tuple #[.agg #[.bool ((h6 (hU l) id f).getD default).r,Y ((h6 (hU l) id f).getD default).n],.bool (h6 (hU l) id f).isSome])/\J [] w w':=by
 obtain⟨p,P,MR⟩:=qL w 35 #[.slice A l.length c] 38 #[.bool false,Y 0];have T:((w.alloc (.cells #[.slice A l.length c] 35)).alloc (.cells #[.bool false,Y 0] 38)).cell? (Z w.heap.size 0)=some (.slice A l.length c):=p.f_ 0
 cases b:h6 (hU l) id f with
 |none=>
  have v:jn (hU l) id<0∨f<0∨∃k,∃m:k<l.length,jn (hU l) id=(k:Nat)/\(l[k].o.fs.length:Int)<=f/\0<=f:=by
   rcases m5 (hU l) id with⟨a,_⟩|⟨k,m,a,D⟩
   .exact .inl a
   .have d:=by simpa[hU]using m
    unfold h6 at b;rw[D]at b;simp only at b;split at b
    .exact .inr (.inl ‹_›)
    .rename_i z;refine .inr (.inr ⟨k,d,a,?_,X⟩)
     have:=List.getElem?_eq_none_iff.1 b
     have e:((hU l)[k]).fs.length=l[k].o.fs.length:=by simp[hU]
     omega
  clear b
  by_cases G:jn (hU l) id<0
  .exact IT
  .by_cases z:f<0
   .exact IT
   .obtain⟨k,d,j,t,u⟩:∃k,∃m:k<l.length,jn (hU l) id=(k:Nat)/\(l[k].o.fs.length:Int)<=f/\0<=f:=by
     rcases v with a|a|a
     .exact U_ a G
     .exact U_ a z
     .exact a
    have E:(k:Int)<(l.length:Int):=X;have s:=O j;clear j v G
    go_enter func148,ntmps148
    go_wp2_with fail
    go_at_call 55
    refine(qb A c l id (h.g_ MR) hn).mono ?_;rintro e w2⟨rfl,MS⟩;rw[s.out];have au:=P.gr MS s_;obtain⟨MN,ai⟩:=au.iM;have MT:=au.hm 0;have C:=au.hm 1;have R:w2.cell? (Z w.heap.size 0)=some (.slice A l.length c):=(p.gr MS s_).f_ 0;obtain⟨H,N,rfl,K,y⟩:=((h.g_ MR).g_ MS).at_ d;exact JL
 |some Q=>
  obtain⟨k,m,j,_,u,t,v⟩:=mM b
  have d:=by simpa[hU]using m
  have a:(hU l)[k]=l[k].o:=by simp[hU]
  have F:f.toNat<l[k].o.fs.length:=by rw[<-a];exact t
  have L:l[k].o.fs[f.toNat]=Q:=by
   rw[<-v];congr 1;rw[a]
  subst L;have E:(k:Int)<(l.length:Int):=X;have s:=O j;clear j v b a t;have U:f<(l[k].o.fs.length:Int):=X;have bL:¬(l[k].o.fs.length:Int)<=f:=X;have z:=GF u;clear z
  go_enter func148,ntmps148
  go_wp2_with fail
  go_at_call 55
  refine(qb A c l id (h.g_ MR) hn).mono ?_;rintro e w2⟨rfl,MS⟩;rw[s.out];have au:=P.gr MS s_;obtain⟨MN,ai⟩:=au.iM;have MT:=au.hm 0;have C:=au.hm 1;have R:w2.cell? (Z w.heap.size 0)=some (.slice A l.length c):=(p.gr MS s_).f_ 0;obtain⟨I,_⟩:=((M.g_ MR).g_ MS) l[k] (M_ d);obtain⟨H,N,rfl,K,y⟩:=((h.g_ MR).g_ MS).at_ d;obtain⟨W,V,D,S,bf⟩:=I.at_ F;rw[D]at y;go_wp2;have i:=(au.hN 0 (.bool l[k].o.fs[f.toNat].r)).hN 1 (Y l[k].o.fs[f.toNat].n);refine l5 #[.bool l[k].o.fs[f.toNat].r,Y l[k].o.fs[f.toNat].n] (.bool true) i underlying38 ⟨rfl,?_⟩;exact Mp
def kL(h:List Ob)(id f:Int)(v:Vl):List Ob:=h.modify (jn h id).toNat λo=>⟨o.id,o.fs.set f.toNat v⟩
def q5(E:α->List Value)(s:Nat)(f:∀a,(E a).length=s)(t:0<s)(l:List α)(k:Nat)(F:k<l.length)(r:α)(p:Array Value){j:Array Value}(h:∀(i:Nat) (u:Value),(l.flatMap E)[i]?=some u->p[i]?=some u)(D:∀(v:Nat) (u:Value),(E r)[v]?=some u->j[k*s+v]?=some u)(b:∀i:Nat,(i<k*s∨(k+1)*s<=i)->j[i]?=p[i]?):∀(i:Nat) (u:Value),((l.set k r).flatMap E)[i]?=some u->j[i]?=some u:=by
 intro i u o
 have iG:((l.set k r).flatMap E).length=l.length*s:=by rw[kk E s f];simp
 have C:i<l.length*s:=by
  rcases FO i (l.length*s)with h|h
  .exact h
  .rw[F8 (by rw[iG];exact h)]at o
   cases o
 have m:i / s<l.length:=by rw[Nat.div_lt_iff_lt_mul t];exact C
 have n:i % s<s:=Nat.mod_lt _ t
 have g:i / s*s+i % s=i:=by rw[Nat.mul_comm];exact Nat.div_add_mod i s
 have c:=jg E s f (l.set k r) (i / s) (i % s) (zu m) n;rw[g,o]at c
 rcases Nat.lt_trichotomy (i / s) k with z|A|y
 .rw[List.getElem_set_ne X]at c;have d:=jg E s f l (i / s) (i % s) m n;rw[g]at d
  rw[b i (.inl (by
   have:(i / s+1)*s<=k*s:=Hr s z
   rw[G5,HR]at this
   omega))]
  exact h i u (by rw[d,<-c])
 .subst A;rw[List.getElem_set_self]at c;rw[<-g];exact D _ u c.symm
 .rw[List.getElem_set_ne X]at c;have d:=jg E s f l (i / s) (i % s) m n;rw[g]at d
  rw[b i (.inr (by
   have:(k+1)*s<=i / s*s:=Hr s y
   omega))]
  exact h i u (by rw[d,<-c])
def kS{o:Nat}{A:OA}{n c:Nat}{xs:List Value}(h:w.ownsRow base e o (.slice A n c) n xs)(h0:0<n):∃g a,A=some (Z g 0)/\base<=g/\Bk w g e a/\∀(i:Nat) (u:Value),xs[i]?=some u->a[i]?=some u:=by
 rcases h.2 with⟨d,p⟩|⟨g,s,a,d,l,m,_,_,_,f⟩
 .omega
 .injection d with j _ _;refine⟨g,a,j,l,m,λr u b=>?_⟩;rw[<-f,Gv]at b;split at b
  .simpa using b
  .cases b
def qX(E:α->List Value)(f:∀a,(E a).length=2){c:Array Value}{l:List α}(p:k<l.length)(r:α)(x y:Value)(v:E r=[x,y])(o:Bk w g e c)(h:∀(i:Nat) (u:Value),(l.flatMap E)[i]?=some u->c[i]?=some u)(n:Nat)(t:l.length=n):
 Sl ((w.setCell (Z g (k*2)) x).setCell (Z g (k*2+1)) y) e 2 (j_ g) n ((l.set k r).flatMap E):=by
 subst t;have m:=(o.hN (k*2) x).hN (k*2+1) y;have iG:=kk E 2 f l
 have j:k*2+1<c.size:=by
  have s:k*2+1<(l.flatMap E).length:=X
  have:=h _ _ (L_ s)
  rcases FO (k*2+1) c.size with h|h
  .exact h
  .exact MI
 refine⟨by rw[kk E 2 f];simp,λ_=>⟨g,0,_,_,rfl,m,λd u b=>?_⟩⟩;rw[W_];refine q5 E 2 f X l k p r c h (λd u b=>?_) (λi z=>?_) d u b
 .rw[v]at b
  match d,b with
  |0,b=>simp only[Gp,Option.some.injEq]at b;subst b;rw[J_,I_ X,J_,O_ X,O_ X]
  |1,b=>simp only[GZ,Gp,Option.some.injEq]at b;subst b;rw[J_,O_ rfl,O_ (zu j)]
  |d+2,b=>simp at b
 .rw[J_,I_ X,J_,I_ X]
def qP(A:OA)(c:Nat)(l:List Rw)(id f:Int)(v:Vl)(h:Os w A l)(n:nV w l)(m:l.length<=1000000000)(B:h6 (hU l) id f=none):
 Calls prog 149 #[.agg #[.slice A l.length c],Y id,Y f,.agg (V_ v)] w λe w'=>e=.returned (.tuple #[.agg #[n_],.bool false])/\J [] w w':=by
 obtain⟨i,-,-,a⟩:=xj w 35 #[.slice A l.length c] 38 (V_ v) 35 #[n_];have j:Bk (((w.alloc (.cells #[.slice A l.length c] 35)).alloc (.cells (V_ v) 38)).alloc (.cells #[n_] 35)) (w.heap.size+2) 35 #[n_]:=zu (Q_ ((w.alloc (.cells #[.slice A l.length c] 35)).alloc (.cells (V_ v) 38)) 35 #[n_]);have s:(((w.alloc (.cells #[.slice A l.length c] 35)).alloc (.cells (V_ v) 38)).alloc (.cells #[n_] 35)).cell? (Z w.heap.size 0)=some (.slice A l.length c):=i.f_ 0
 go_enter func149,ntmps149
 go_wp2_with fail
 go_at_call 148
 refine(kA A c l id f _ (h.g_ a) (n.g_ a) m).mono ?_;rintro e t⟨rfl,d⟩;rw[B];have b:=(j.g_ d).alloc (.cells (V_ (default:Vl)) 38);have p:=b.f_ 0;have r:=b.hm 0;simp only[HE,HK];go_wp2;have o:=b.hN 0 (n_);refine l5 #[n_] (.bool false) o underlying35 ⟨rfl,?_⟩;exact((a.trans d).alloc _).setCell (.inr p_) _
def vu(l:List Rw)(k:Nat)(r:Rw):hU (l.set k r)=(hU l).set k r.o:=by simp[hU,List.map_set]
def zJ{h:List Ob}{id f:Int}{v:Vl}(b:k<h.length)(a:jn h id=(k:Nat)):kL h id f v=h.set k ⟨h[k].id,h[k].fs.set f.toNat v⟩:=by
 unfold kL;rw[a,F0];apply HP;intro c;rw[H3,HB]
 by_cases e:k=c
 .subst e;simp[b]
 .simp[e]
def nV.hN{l:List Rw}(h:nV w l){r:Rw}(c:Vs w r.A r.o.fs)(b:r.o.fs.length<=1000000000):nV w (l.set k r):=λx a=>by
 rcases FW a with a|rfl
 .exact h x a
 .exact⟨c,b⟩
def App.Dr{l:List Rw}(h:App base e w w')(d:38≠e)(a:nV w l):nV w' l:=λc b=>⟨h.sl (a c b).1 d,(a c b).2⟩
def ox(A:OA)(c:Nat)(l:List Rw)(id f:Int)(v u:Vl)(h:Os w A l)(S:nV w l)(hn:l.length<=1000000000)(al:h6 (hU l) id f=some u):
 Calls prog 149 #[.agg #[.slice A l.length c],Y id,Y f,.agg (V_ v)] w λe w'=>∃(A':OA) (c':Nat) (rs:List Rw),e=.returned (.tuple #[.agg #[.slice A' rs.length c'],.bool true])/\rs.length<=c'/\Os w' A' rs/\nV w' rs/\hU rs=kL (hU l) id f v/\J [] w w':=by
 obtain⟨i1,bJ,bY,bZ,ca⟩:=info_parts infoOb;obtain⟨an,aA,-,E⟩:=xj w 35 #[.slice A l.length c] 38 (V_ v) 35 #[n_];have aQ:Bk (((w.alloc (.cells #[.slice A l.length c] 35)).alloc (.cells (V_ v) 38)).alloc (.cells #[n_] 35)) (w.heap.size+2) 35 #[n_]:=zu (Q_ ((w.alloc (.cells #[.slice A l.length c] 35)).alloc (.cells (V_ v) 38)) 35 #[n_]);have aT:(((w.alloc (.cells #[.slice A l.length c] 35)).alloc (.cells (V_ v) 38)).alloc (.cells #[n_] 35)).cell? (Z w.heap.size 0)=some (.slice A l.length c):=an.f_ 0;obtain⟨k,hk,bN,_,aS,bo,hv⟩:=mM al
 have N:=by simpa[hU]using hk
 have bD:(hU l)[k]=l[k].o:=by simp[hU]
 have aV:f.toNat<l[k].o.fs.length:=by rw[<-bD];exact bo
 have bl:=O (show kL (hU l) id f v=(hU l).set k ⟨l[k].o.id,l[k].o.fs.set f.toNat v⟩ by rw[zJ hk bN,bD]);have aW:(k:Int)<(l.length:Int):=X;have ae:=O bN;have af:f<(l[k].o.fs.length:Int):=X
 go_enter func149,ntmps149
 go_wp2_with fail
 generalize ((w.alloc (.cells #[.slice A l.length c] 35)).alloc (.cells (V_ v) 38)).alloc (.cells #[n_] 35)=aX at*
 go_at_call 148
 refine(kA A c l id f _ (h.g_ E) (S.g_ E) hn).mono ?_;rintro e w2⟨rfl,MS⟩;rw[al];simp only[GE,Hl];have y:=MS.alloc (.cells (V_ u) 38);have bd:=an.g_ y;have au:=aA.g_ y;have bE:=aQ.g_ y;have MO:=(h.g_ E).g_ y;have b9:=(S.g_ E).g_ y;have MN:=bd.f_ 0;have hbs:=(E.trans y).size
 go_wp2_with (at_builtin;refine xv _ rfl (.const (n_)) (.tmp 26) 33 rfl w.heap.size 56 i1 _ 2 32 underlying33 bJ bY bZ ca rfl I I none 0 0 [] rfl (iY _ _ _ _) A l.length c _ rfl MO (j7 _) X hbs ?_;intro z n ah R K;simp only[W_,FU]at R;have z0:=((K.bk bd I).alloc (.cells #[.slice z l.length n] 35)).f_ 0)
 go_at_call 55
 have be:=K.gr [] w (H_ _) (E.trans y);have MP:=(K.bk bd I).alloc (.cells #[.slice z l.length n] 35);have U:=(K.bk au I).alloc (.cells #[.slice z l.length n] 35);have d:=(K.bk bE I).alloc (.cells #[.slice z l.length n] 35);have j:=Q_ ah 35 #[.slice z l.length n];have cy:=iF R ((H [] ah).alloc (.cells #[.slice z l.length n] 35));have cu:=be.alloc (.cells #[.slice z l.length n] 35);have aE:=(K.bk bE I).lt;have b0:=jk R;refine(qb A c l id (h.g_ cu) hn).mono ?_;rintro e ad⟨rfl,L⟩;rw[ae.out];have V:=cu.trans L;have MP:=MP.g_ L;have U:=U.g_ L;have d:=d.g_ L;have j:=j.g_ L;have aU:=iF cy L;have aI:=V.size;have z0:ad.cell? (Z w.heap.size 0)=some (.slice A l.length c):=MP.f_ 0;obtain⟨ao,bf⟩:=(S.g_ V) l[k] (M_ N);obtain⟨bg,off,rfl,bm,bu⟩:=(h.g_ V).at_ N
 go_wp2_with fail
 go_at_call 56
 refine(tL l[k].o l[k].A l[k].c _ ao bf).mono ?_;rintro e M⟨t,b,rfl,b3,C⟩;have ce:=(V.trans C).alloc (.cells #[Y l[k].o.id,.slice t l[k].o.fs.length b] 56);have U:=(U.g_ C).alloc (.cells #[Y l[k].o.id,.slice t l[k].o.fs.length b] 56);have d:=(d.g_ C).alloc (.cells #[Y l[k].o.id,.slice t l[k].o.fs.length b] 56);have aG:=(j.g_ C).lt;have j:=(j.g_ C).alloc (.cells #[Y l[k].o.id,.slice t l[k].o.fs.length b] 56);have q:=Q_ M 56 #[Y l[k].o.id,.slice t l[k].o.fs.length b]
 have aj:∀g cur,Bk ad g 56 cur->g≠M.heap.size:=λg cur hb=>by
  have:=(hb.g_ C).lt
  omega
 have R:=iF (iF aU C) ((H [] M).alloc (.cells #[Y l[k].o.id,.slice t l[k].o.fs.length b] 56));have b3:=iF b3 ((H [] M).alloc (.cells #[Y l[k].o.id,.slice t l[k].o.fs.length b] 56));have bh:=S.g_ ce;obtain⟨a,ax,rfl,aD,s,W⟩:=kS b3 X;obtain⟨i,aq,B,aC,ai,_⟩:=kS aU X;subst B;have aH:=aj _ _ ai;obtain⟨aB,ap,B,_,m,bi⟩:=kS R X;injection B with B;injection B with B _;subst B;have am:=Bk.me m s I
 go_upto_region 7 with fail
 generalize M.heap.size=aP at*;generalize ah.heap.size=aM at*;generalize M.alloc (.cells #[Y l[k].o.id,.slice (j_ a) l[k].o.fs.length b] 56)=D at*;obtain⟨v0,v1⟩:=U.iM;obtain⟨bG,q1⟩:=q.iM;have MT:D.cell? (Z a (f.toNat*2))=some (.bool l[k].o.fs[f.toNat].r):=(s.f_ _).trans (W _ _ (jR Vl.E (λ_=>rfl) l[k].o.fs f.toNat 0 aV X));have bQ:=(s.f_ _).trans (W _ _ (jR Vl.E (λ_=>rfl) l[k].o.fs f.toNat 1 aV X));have bw:=s.hm (f.toNat*2);have aZ:=s.hm (f.toNat*2+1)
 go_upto_region 8 with fail
 have P:J [a] D ((D.setCell (Z a (f.toNat*2)) (.bool v.r)).setCell (Z a (f.toNat*2+1)) (Y v.n)):=((H [a] D).setCell (.inl s_) _).setCell (.inl s_) _
 have av:Vs ((D.setCell (Z a (f.toNat*2)) (.bool v.r)).setCell (Z a (f.toNat*2+1)) (Y v.n)) (j_ a) (l[k].o.fs.set f.toNat v):=by
  unfold Vs;rw[FV];exact qX Vl.E (λ_=>rfl) aV v (.bool v.r) (Y v.n) rfl s W _ rfl
 have d:=d.gr P (zu (Bk.me d s I));have j:=j.gr P (zu (Bk.me j s I));have q:=q.gr P (zu (Bk.me q s I));have m:=m.gr P (zu am);have ag:=ce.hA P (by intro x T;right;simp at T;omega);have bj:=S.g_ ag;generalize (D.setCell (Z a (f.toNat*2)) (.bool v.r)).setCell (Z a (f.toNat*2+1)) (Y v.n)=F at*;have m0:=j.f_ 0;obtain⟨bG,q1⟩:=q.iM;have MT:F.cell? (Z i (k*2))=some (Y l[k].o.id):=(m.f_ _).trans (bi _ _ (jR Rw.E (λ_=>rfl) l k 0 N X));have bQ:=(m.f_ _).trans (bi _ _ (jR Rw.E (λ_=>rfl) l k 1 N X));have bw:=m.hm (k*2);have aZ:=m.hm (k*2+1)
 go_upto_region 9 with fail
 have Q:J [i] F ((F.setCell (Z i (k*2)) (Y l[k].o.id)).setCell (Z i (k*2+1)) (.slice (j_ a) l[k].o.fs.length b)):=((H [i] F).setCell (.inl s_) _).setCell (.inl s_) _
 have bk:Os ((F.setCell (Z i (k*2)) (Y l[k].o.id)).setCell (Z i (k*2+1)) (.slice (j_ a) l[k].o.fs.length b)) (j_ i) (l.set k ⟨⟨l[k].o.id,l[k].o.fs.set f.toNat v⟩,some (Z a 0),b⟩):=by
  unfold Os;rw[FV];exact qX Rw.E (λ_=>rfl) N ⟨⟨l[k].o.id,l[k].o.fs.set f.toNat v⟩,some (Z a 0),b⟩ _ _ (by simp[Rw.E]) m bi _ rfl
 have d:=d.gr Q (zu (Bk.me d m I));have j:=j.gr Q (zu (Bk.me j m I));have bC:=Sl.ir av m I Q;have bp:=ag.hA Q (by intro x T;right;simp at T;omega);have ar:=bj.ir m I Q;generalize (F.setCell (Z i (k*2)) (Y l[k].o.id)).setCell (Z i (k*2+1)) (.slice (j_ a) l[k].o.fs.length b)=bn at*;have m0:=j.f_ 0;have n0:=d.f_ 0;have bw:=d.hm 0;go_wp2;have bq:=d.hN 0 (.slice (j_ i) l.length n);have G:=(H [w.heap.size+2] bn).setCell (p:=(Z (w.heap.size+2) 0)) (.inl s_) (.slice (j_ i) l.length n);have hls:(l.set k ⟨⟨l[k].o.id,l[k].o.fs.set f.toNat v⟩,some (Z a 0),b⟩).length=l.length:=FV;refine l5 #[.slice (j_ i) l.length n] (.bool true) bq underlying35 ⟨some (Z i 0),n,l.set k ⟨⟨l[k].o.id,l[k].o.fs.set f.toNat v⟩,some (Z a 0),b⟩,by rw[hls],by rw[hls];exact b0,?_,?_,?_,?_⟩
 .exact Sl.ir bk d I G
 .refine(ar.hN (r:=⟨⟨l[k].o.id,l[k].o.fs.set f.toNat v⟩,some (Z a 0),b⟩) bC (zu bf)).ir d I G
 .rw[vu,bl.out]
 .exact bp.hA G (by intro x T;right;simp at T;omega)
def jV{n:Int}:Calls prog 196 #[Y n] w λe w'=>e=.returned (.agg #[.bool false,Y n])/\J [] w w':=by
 go_enter func196,ntmps196
 go_wp2;exact FY (G7 rfl _ _ _ _ _ _ _ rfl (Q_ w 38 #[.bool false,Y n]) underlying38 rfl k_) rfl ⟨rfl,(H _ _).alloc _⟩
def rq{b:Bool}:Calls prog 195 #[.bool b] w λe w'=>e=.returned (.agg #[.bool false,Y (if b=true then 1 else 0)])/\J [] w w':=by
 cases b
 all_goals
  go_enter func195,ntmps195
  go_wp2_with (go_at_call 196;refine(jV).mono ?_;rintro e l⟨rfl,c⟩;have a:=CP (p:=w.heap.size) c rfl;obtain⟨f,j⟩:=a.iM;have i:=a.hm 0;have d:=a.hm 1)
  refine FY (G7 rfl _ _ _ _ _ _ _ rfl ((a.hN 0 _).hN 1 _) underlying38 rfl k_) rfl ⟨rfl,?_⟩;exact((((H _ _).alloc _).trans c).setCell (.inr s_) _).setCell (.inr s_) _
def tu(v:Vl):Calls prog 166 #[.agg (V_ v)] w λe w'=>e=.returned (.bool (v.n !=0))/\J [] w w':=by
 go_enter func166,ntmps166
 go_wp2;go_ret;exact⟨rfl,(H _ _).alloc _⟩
def r9(op:Int):Bool:=decide (op=1∨(3<=op/\op<=9/\op≠4))
def vd(op:Int)(w:World):Calls prog 179 #[Y op] w λe w'=>e=.returned (.bool (r9 op))/\w=w':=by
 have HA:=O (show r9 op=decide (op=1∨(3<=op/\op<=9/\op≠4)) from rfl)
 by_cases b:op=1
 .subst b
  go_enter func179,ntmps179
  go_wp2;go_ret;exact⟨rfl,by trivial⟩
 .have i:(op==1)=false:=zu b
  by_cases d:3<=op
  .by_cases c:op<=9
   .by_cases a:op=4
    .subst a
     go_enter func179,ntmps179
     go_wp2;go_ret;exact⟨rfl,by trivial⟩
    .have f:(op !=4)=true:=zu a;clear b
     go_enter func179,ntmps179
     go_wp2;go_ret;exact⟨iw (by rw[HA.out];symm;rw[Gx];exact .inr ⟨d,c,a⟩),by trivial⟩
   .exact K8
  .exact K8
def Av(x y:Vl)(w:World):(binOp .eql 38 (.agg (V_ x)) (.agg (V_ y))).run prog w=.ok (.bool (decide (x=y))) w:=by
 obtain⟨b,G⟩:=x;obtain⟨c,d⟩:=y;go_simp
 by_cases a:b=c
 .by_cases f:G=d<;>simp[a,f]
 .simp[a]
def pC(op x y:Int):Vl × Int:=
 if op=1 then(⟨false,wrap64 (x+y)⟩,0) else if op=2 then(⟨false,wrap64 (x-y)⟩,0) else if op=3 then(⟨false,wrap64 (x*y)⟩,0)
 else if op=4 then(if y=0 then(⟨false,0⟩, -3) else if y= -1 then(⟨false,wrap64 (-x)⟩,0) else(⟨false,wrap64 (x.tdiv y)⟩,0))
 else if op=5 then(⟨false,if y<x then y else x⟩,0) else if op=6 then(⟨false,if x<y then y else x⟩,0)
 else if op=7 then(⟨false,bits .and .i64 x y⟩,0) else if op=8 then(⟨false,bits .or .i64 x y⟩,0) else if op=9 then(⟨false,bits .xor .i64 x y⟩,0)
 else(⟨false,if x<y then 1 else 0⟩,0)
def iz(op:Int)(a b:Vl):Vl × Int:=
 if op=11 then(⟨false,if a=b then 1 else 0⟩,0) else if op<1∨11<op∨a.r=true∨b.r=true then(⟨false,0⟩, -2) else pC op a.n b.n
def qN(r:Vl × Int)(e:Ending):Prop:=e=.returned (.tuple #[.agg #[.bool r.1.r,Y r.1.n],Y r.2])
def z8(op:Int)(a b:Vl)(w:World)(r:a.r=false)(s:b.r=false)(E:1<=op)(F:op<=10):
 Calls prog 164 #[Y op,.agg #[.bool a.r,Y a.n],.agg #[.bool b.r,Y b.n]] w λe w'=>qN (pC op a.n b.n) e/\J [] w w':=by
 obtain⟨-,-,-,MR⟩:=xj w 38 #[.bool a.r,Y a.n] 38 #[.bool b.r,Y b.n] 38 #[.bool false,Y 0];have c:Bk (((w.alloc (.cells #[.bool a.r,Y a.n] 38)).alloc (.cells #[.bool b.r,Y b.n] 38)).alloc (.cells #[.bool false,Y 0] 38)) (w.heap.size+2) 38 #[.bool false,Y 0]:=zu (Q_ ((w.alloc (.cells #[.bool a.r,Y a.n] 38)).alloc (.cells #[.bool b.r,Y b.n] 38)) 38 #[.bool false,Y 0]);obtain⟨C,x⟩:=a;obtain⟨z,y⟩:=b;simp only at r s;subst r;subst s;simp only at MR c |-;have t:op=1∨op=2∨op=3∨op=4∨op=5∨op=6∨op=7∨op=8∨op=9∨op=10:=X
 rcases t with rfl|rfl|rfl|rfl|rfl|rfl|rfl|rfl|rfl|rfl
 .have aO:=O (show pC 1 x y=((⟨false,wrap64 (x+y)⟩:Vl),(0:Int)) by simp[pC])
  go_enter func164,ntmps164
  go_wp2_with fail
  go_quiet (fail)
  go_wp2_with fail
  go_at_call 196
  refine(jV).mono ?_;rintro e l⟨rfl,MS⟩;have hB:=(c.drewN nq).g_ MS;obtain⟨f,j⟩:=hB.iM;have i:=hB.hm 0;have d:=hB.hm 1;go_wp2;refine FY (v:=.tuple #[.agg #[.bool false,Y (wrap64 (x+y))],Y 0]) (iC (p:=6) (u:=7) rfl rfl ((hB.hN 0 (.bool false)).hN 1 (Y (wrap64 (x+y)))) underlying38 rfl k_) rfl ⟨by unfold qN;rw[aO.out],?_⟩;exact Mb
 .have aO:=O (show pC 2 x y=((⟨false,wrap64 (x-y)⟩:Vl),(0:Int)) by simp[pC])
  go_enter func164,ntmps164
  go_wp2_with fail
  go_quiet (fail)
  go_wp2_with fail
  go_at_call 196
  refine(jV).mono ?_;rintro e l⟨rfl,MS⟩;have hB:=(c.drewN nq).g_ MS;obtain⟨f,j⟩:=hB.iM;have i:=hB.hm 0;have d:=hB.hm 1;go_wp2;refine FY (v:=.tuple #[.agg #[.bool false,Y (wrap64 (x-y))],Y 0]) (iC (p:=6) (u:=7) rfl rfl ((hB.hN 0 (.bool false)).hN 1 (Y (wrap64 (x-y)))) underlying38 rfl k_) rfl ⟨by unfold qN;rw[aO.out],?_⟩;exact Mb
 .have aO:=O (show pC 3 x y=((⟨false,wrap64 (x*y)⟩:Vl),(0:Int)) by simp[pC])
  go_enter func164,ntmps164
  go_wp2_with fail
  go_quiet (fail)
  go_wp2_with fail
  go_at_call 196
  refine(jV).mono ?_;rintro e l⟨rfl,MS⟩;have hB:=(c.drewN nq).g_ MS;obtain⟨f,j⟩:=hB.iM;have i:=hB.hm 0;have d:=hB.hm 1;go_wp2;refine FY (v:=.tuple #[.agg #[.bool false,Y (wrap64 (x*y))],Y 0]) (iC (p:=6) (u:=7) rfl rfl ((hB.hN 0 (.bool false)).hN 1 (Y (wrap64 (x*y)))) underlying38 rfl k_) rfl ⟨by unfold qN;rw[aO.out],?_⟩;exact Mb
 .by_cases o:y=0
  .subst o;have aO:=O (show pC 4 x 0=((⟨false,0⟩:Vl),((-3):Int)) by simp[pC])
   go_enter func164,ntmps164
   go_wp2_with fail
   go_quiet (fail)
   have hB:=c.drewN nq;obtain⟨f,j⟩:=hB.iM;have i:=hB.hm 0;have d:=hB.hm 1;go_wp2;refine l5 #[.bool false,Y (0)] (Y (-3)) ((hB.hN 0 (.bool false)).hN 1 (Y (0))) underlying38 ⟨by unfold qN;rw[aO.out],?_⟩;exact((MR.drewN nq).setCell (.inr p_) _).setCell (.inr p_) _
  .have D:(y==0)=false:=zu o
   by_cases n:y= -1
   .subst n;have aO:=O (show pC 4 x (-1)=((⟨false,wrap64 (-x)⟩:Vl),(0:Int)) by simp[pC])
    go_enter func164,ntmps164
    go_wp2_with fail
    go_quiet (fail)
    go_wp2_with fail
    go_at_call 196
    refine(jV).mono ?_;rintro e l⟨rfl,MS⟩;have hB:=(c.drewN nq).g_ MS;obtain⟨f,j⟩:=hB.iM;have i:=hB.hm 0;have d:=hB.hm 1;go_wp2;refine FY (v:=.tuple #[.agg #[.bool false,Y (wrap64 (-x))],Y 0]) (iC (p:=6) (u:=7) rfl rfl ((hB.hN 0 (.bool false)).hN 1 (Y (wrap64 (-x)))) underlying38 rfl k_) rfl ⟨by unfold qN;rw[aO.out],?_⟩;exact Mb
   .have aO:=O (show pC 4 x y=((⟨false,wrap64 (x.tdiv y)⟩:Vl),(0:Int)) by simp[pC,o,n]);have A:(y== -1)=false:=zu n;clear n
    go_enter func164,ntmps164
    go_wp2_with fail
    go_quiet (fail)
    go_wp2_with fail
    go_at_call 196
    refine(jV).mono ?_;rintro e l⟨rfl,MS⟩;have hB:=(c.drewN nq).g_ MS;obtain⟨f,j⟩:=hB.iM;have i:=hB.hm 0;have d:=hB.hm 1;go_wp2;refine FY (v:=.tuple #[.agg #[.bool false,Y (wrap64 (x.tdiv y))],Y 0]) (iC (p:=6) (u:=7) rfl rfl ((hB.hN 0 (.bool false)).hN 1 (Y (wrap64 (x.tdiv y)))) underlying38 rfl k_) rfl ⟨by unfold qN;rw[aO.out],?_⟩;exact Mb
 .by_cases m:y<x
  .have aO:=O (show pC 5 x y=((⟨false,y⟩:Vl),(0:Int)) by simp[pC,m])
   go_enter func164,ntmps164
   go_wp2_with fail
   go_quiet (fail)
   go_wp2_with fail
   go_at_call 196
   refine(jV).mono ?_;rintro e l⟨rfl,MS⟩;have hB:=(c.drewN nq).g_ MS;obtain⟨f,j⟩:=hB.iM;have i:=hB.hm 0;have d:=hB.hm 1;go_wp2
   (try rw[show min x y=y from X])
   exact JA
  .have aO:=O (show pC 5 x y=((⟨false,x⟩:Vl),(0:Int)) by simp[pC,m])
   go_enter func164,ntmps164
   go_wp2_with fail
   go_quiet (fail)
   go_wp2_with fail
   go_at_call 196
   refine(jV).mono ?_;rintro e l⟨rfl,MS⟩;have hB:=(c.drewN nq).g_ MS;obtain⟨f,j⟩:=hB.iM;have i:=hB.hm 0;have d:=hB.hm 1;go_wp2
   (try rw[show min x y=x from X])
   exact JB
 .by_cases m:x<y
  .have aO:=O (show pC 6 x y=((⟨false,y⟩:Vl),(0:Int)) by simp[pC,m])
   go_enter func164,ntmps164
   go_wp2_with fail
   go_quiet (fail)
   go_wp2_with fail
   go_at_call 196
   refine(jV).mono ?_;rintro e l⟨rfl,MS⟩;have hB:=(c.drewN nq).g_ MS;obtain⟨f,j⟩:=hB.iM;have i:=hB.hm 0;have d:=hB.hm 1;go_wp2
   (try rw[show max x y=y from X])
   exact JA
  .have aO:=O (show pC 6 x y=((⟨false,x⟩:Vl),(0:Int)) by simp[pC,m])
   go_enter func164,ntmps164
   go_wp2_with fail
   go_quiet (fail)
   go_wp2_with fail
   go_at_call 196
   refine(jV).mono ?_;rintro e l⟨rfl,MS⟩;have hB:=(c.drewN nq).g_ MS;obtain⟨f,j⟩:=hB.iM;have i:=hB.hm 0;have d:=hB.hm 1;go_wp2
   (try rw[show max x y=x from X])
   exact JB
 .have aO:=O (show pC 7 x y=((⟨false,bits .and .i64 x y⟩:Vl),(0:Int)) by simp[pC])
  go_enter func164,ntmps164
  go_wp2_with fail
  go_quiet (fail)
  go_wp2_with fail
  go_at_call 196
  refine(jV).mono ?_;rintro e l⟨rfl,MS⟩;have hB:=(c.drewN nq).g_ MS;obtain⟨f,j⟩:=hB.iM;have i:=hB.hm 0;have d:=hB.hm 1;go_wp2;refine l5 #[.bool false,Y (bits .and .i64 x y)] (Y 0) ((hB.hN 0 (.bool false)).hN 1 (Y (bits .and .i64 x y))) underlying38 ⟨by unfold qN;rw[aO.out],?_⟩;exact Mb
 .have aO:=O (show pC 8 x y=((⟨false,bits .or .i64 x y⟩:Vl),(0:Int)) by simp[pC])
  go_enter func164,ntmps164
  go_wp2_with fail
  go_quiet (fail)
  go_wp2_with fail
  go_at_call 196
  refine(jV).mono ?_;rintro e l⟨rfl,MS⟩;have hB:=(c.drewN nq).g_ MS;obtain⟨f,j⟩:=hB.iM;have i:=hB.hm 0;have d:=hB.hm 1;go_wp2;refine l5 #[.bool false,Y (bits .or .i64 x y)] (Y 0) ((hB.hN 0 (.bool false)).hN 1 (Y (bits .or .i64 x y))) underlying38 ⟨by unfold qN;rw[aO.out],?_⟩;exact Mb
 .have aO:=O (show pC 9 x y=((⟨false,bits .xor .i64 x y⟩:Vl),(0:Int)) by simp[pC])
  go_enter func164,ntmps164
  go_wp2_with fail
  go_quiet (fail)
  go_wp2_with fail
  go_at_call 196
  refine(jV).mono ?_;rintro e l⟨rfl,MS⟩;have hB:=(c.drewN nq).g_ MS;obtain⟨f,j⟩:=hB.iM;have i:=hB.hm 0;have d:=hB.hm 1;go_wp2;refine l5 #[.bool false,Y (bits .xor .i64 x y)] (Y 0) ((hB.hN 0 (.bool false)).hN 1 (Y (bits .xor .i64 x y))) underlying38 ⟨by unfold qN;rw[aO.out],?_⟩;exact Mb
 .by_cases m:x<y
  .have aO:=O (show pC 10 x y=((⟨false,1⟩:Vl),(0:Int)) by simp[pC,m])
   go_enter func164,ntmps164
   go_wp2_with fail
   go_quiet (fail)
   go_wp2_with fail
   go_at_call 195
   refine(rq).mono ?_;rintro e l⟨rfl,MS⟩;have hB:=(c.drewN nq).g_ MS;obtain⟨f,j⟩:=hB.iM;have i:=hB.hm 0;have d:=hB.hm 1;go_wp2;refine l5 #[.bool false,Y (1)] (Y 0) ((hB.hN 0 (.bool false)).hN 1 (Y (1))) underlying38 ⟨by unfold qN;rw[aO.out],?_⟩;exact Mb
  .have aO:=O (show pC 10 x y=((⟨false,0⟩:Vl),(0:Int)) by simp[pC,m])
   go_enter func164,ntmps164
   go_wp2_with fail
   go_quiet (fail)
   go_wp2_with fail
   go_at_call 195
   refine(rq).mono ?_;rintro e l⟨rfl,MS⟩;have hB:=(c.drewN nq).g_ MS;obtain⟨f,j⟩:=hB.iM;have i:=hB.hm 0;have d:=hB.hm 1;go_wp2;refine l5 #[.bool false,Y (0)] (Y 0) ((hB.hN 0 (.bool false)).hN 1 (Y (0))) underlying38 ⟨by unfold qN;rw[aO.out],?_⟩;exact Mb
def mR(op:Int)(a b:Vl):
 Calls prog 164 #[Y op,.agg #[.bool a.r,Y a.n],.agg #[.bool b.r,Y b.n]] w λe w'=>qN (iz op a b) e/\J [] w w':=by
 obtain⟨-,-,-,MR⟩:=xj w 38 #[.bool a.r,Y a.n] 38 #[.bool b.r,Y b.n] 38 #[.bool false,Y 0];have N:Bk (((w.alloc (.cells #[.bool a.r,Y a.n] 38)).alloc (.cells #[.bool b.r,Y b.n] 38)).alloc (.cells #[.bool false,Y 0] 38)) (w.heap.size+2) 38 #[.bool false,Y 0]:=zu (Q_ ((w.alloc (.cells #[.bool a.r,Y a.n] 38)).alloc (.cells #[.bool b.r,Y b.n] 38)) 38 #[.bool false,Y 0])
 by_cases A:op=11
 .subst A
  by_cases c:a=b
  .have aO:=O (show iz 11 a b=((⟨false,1⟩:Vl),(0:Int)) by simp[iz,c])
   have i:=λf=>(Av a b f).trans (show _=Result.ok (Value.bool true) f by rw[FX c])
   clear c
   go_enter func164,ntmps164
   go_wp2_with fail
   go_wp2_with fail
   go_at_call 195
   refine(rq).mono ?_;rintro e j⟨rfl,d⟩;have hB:=(N).g_ d;obtain⟨MN,ai⟩:=hB.iM;have MT:=hB.hm 0;have C:=hB.hm 1;go_wp2;refine l5 #[.bool false,Y (1)] (Y 0) ((hB.hN 0 (.bool false)).hN 1 (Y (1))) underlying38 ⟨by unfold qN;rw[aO.out],?_⟩;exact(((MR.trans d)).setCell (.inr p_) _).setCell (.inr p_) _
  .have aO:=O (show iz 11 a b=((⟨false,0⟩:Vl),(0:Int)) by simp[iz,c])
   have i:=λf=>(Av a b f).trans (show _=Result.ok (Value.bool false) f by rw[GH c])
   clear c
   go_enter func164,ntmps164
   go_wp2_with fail
   go_wp2_with fail
   go_at_call 195
   refine(rq).mono ?_;rintro e j⟨rfl,d⟩;have hB:=(N).g_ d;obtain⟨MN,ai⟩:=hB.iM;have MT:=hB.hm 0;have C:=hB.hm 1;go_wp2;refine l5 #[.bool false,Y (0)] (Y 0) ((hB.hN 0 (.bool false)).hN 1 (Y (0))) underlying38 ⟨by unfold qN;rw[aO.out],?_⟩;exact(((MR.trans d)).setCell (.inr p_) _).setCell (.inr p_) _
 .have j:(op==11)=false:=zu A
  by_cases f:op<1
  .have aO:=O (show iz op a b=((⟨false,0⟩:Vl),(-2:Int)) by unfold iz;rw[I_ A,O_ (.inl f)]);exact Jp
  .by_cases i:11<op
   .have aO:=O (show iz op a b=((⟨false,0⟩:Vl),(-2:Int)) by unfold iz;rw[I_ A,O_ (.inr (.inl i))]);exact Jp
   .cases c:a.r with
    |true=>
     have aO:=O (show iz op a b=((⟨false,0⟩:Vl),(-2:Int)) by unfold iz;rw[I_ A,O_ (.inr (.inr (.inl c)))]);clear A;rw[c]at N MR;exact Jq
    |false=>
     cases d:b.r with
     |true=>
      have aO:=O (show iz op a b=((⟨false,0⟩:Vl),(-2:Int)) by unfold iz;rw[I_ A,O_ (.inr (.inr (.inr d)))]);clear A;rw[c,d]at N MR;exact Jq
     |false=>
      have aO:=O (show iz op a b=pC op a.n b.n by unfold iz;rw[I_ A,I_ (by rw[c,d];simp;omega)])
      have:=z8 op a b w c d X X
      rw[c,d]at this
      exact this.mono λe w' h=>⟨by rw[aO.out];exact h.1,h.2⟩
structure In where
 op:Int
 a:Int
 b:Int
 c:Int
 n:Int
 deriving DecidableEq,Inhabited
def In.E(i:In):List Value:=[Y i.op,Y i.a,Y i.b,Y i.c,Y i.n]
def lY(l:List In):List Value:=l.flatMap In.E
def ux(a b:List In):lY (a++b)=lY a++lY b:=by simp[lY]
def x6{l:List In}:∀u∈lY l,u.oneCell'=true:=by
 intro u b;obtain⟨c,_,a⟩:=Ha.1 b;simp[In.E]at a
 rcases a with rfl|rfl|rfl|rfl|rfl<;>rfl
def Is(w:World)(A:OA)(l:List In):Prop:=Sl w 189 5 A l.length (lY l)
def Is.g_{A:OA}{l:List In}(h:Is w A l)(a:J [] w w'):Is w' A l:=Sl.g_ h a
def Is.at_{A:OA}{l:List In}(h:Is w A l)(f:k<l.length):
 ∃b off,A=some (Z b off)/\w.cell? (Z b (off+k*5))=some (Y l[k].op)/\w.cell? (Z b (off+k*5+1))=some (Y l[k].a)/\w.cell? (Z b (off+k*5+2))=some (Y l[k].b)/\w.cell? (Z b (off+k*5+3))=some (Y l[k].c)/\w.cell? (Z b (off+k*5+4))=some (Y l[k].n):=by
 obtain⟨b,off,U,hc⟩:=Sl.f_ h X
 have g:=λi d=>jg In.E 5 (λ_=>rfl) l k i f d
 exact KB
def h5(l:List In)(pc:Int):Int:=if pc<0∨(l.length:Int)<=pc then -1 else(l.getD pc.toNat default).op
def qJ(A:OA)(c:Nat)(l:List In)(hq g9 pc:Int)(h:Is w A l)(n:l.length<=1000000000):
 Calls prog 133 #[.agg #[.slice A l.length c,Y hq,Y g9],Y pc] w λe w'=>e=.returned (Y (h5 l pc))/\J [] w w':=by
 have G:=O (show h5 l pc=if pc<0∨(l.length:Int)<=pc then -1 else(l.getD pc.toNat default).op from rfl);have a:=(H [] w).alloc (.cells #[.slice A l.length c,Y hq,Y g9] 26)
 by_cases d:pc<0
 .go_enter func133,ntmps133
  go_wp2;go_ret;exact⟨kq (by rw[G.out,O_ (.inl d)]),a⟩
 .by_cases f:(l.length:Int)<=pc
  .go_enter func133,ntmps133
   go_wp2;go_ret;exact⟨kq (by rw[G.out,O_ (.inr f)]),a⟩
  .have b:pc.toNat<l.length:=X;obtain⟨k,rfl⟩:∃k:Nat,pc=k:=⟨pc.toNat,(GF X).symm⟩;rw[F0]at b;obtain⟨j,o,rfl,m,_,_,_,_⟩:=(h.g_ a).at_ b;have i:(k:Int)<(l.length:Int):=X
   go_enter func133,ntmps133
   go_wp2;go_ret;exact⟨kq (by rw[G.out,I_ X,F0,List.getD,L_ b];rfl),a⟩
def mj(n:Int)(u:Bool):Bool:=n==0||(u&&(decide (0<n)&&decide (n<16)))
def vp{n:Int}{u:Bool}:Calls prog 178 #[Y n,.bool u] w λe w'=>e=.returned (.bool (mj n u))/\w=w':=by
 have a:=O (show mj n u=(n==0||(u&&(decide (0<n)&&decide (n<16)))) from rfl)
 by_cases d:n=0
 .subst d
  go_enter func178,ntmps178
  go_wp2;go_ret;exact⟨iw (by rw[a.out];rfl),by trivial⟩
 .have b:(n==0)=false:=zu d
  cases u with
  |false=>
   go_enter func178,ntmps178
   go_wp2;go_ret;exact⟨iw (by rw[a.out,b];rfl),by trivial⟩
  |true=>
   by_cases c:0<n
   .by_cases f:n<16
    .go_enter func178,ntmps178
     go_wp2;go_ret;exact⟨iw (by rw[a.out,b,FX c,FX f];rfl),by trivial⟩
    .have i:decide (n<16)=false:=zu f
     go_enter func178,ntmps178
     go_wp2;go_ret;exact⟨iw (by rw[a.out,b,FX c,i];rfl),by trivial⟩
   .have f:decide (0<n)=false:=zu c
    go_enter func178,ntmps178
    go_wp2;go_ret;exact⟨iw (by rw[a.out,b,f];rfl),by trivial⟩
def pW(op:Int):Bool:=decide (1<=op/\op<=11)
def zE:Calls prog 208 #[] w λe w'=>∃(g:Nat) (cs:Array Value),e=.returned (.slice (j_ g) 12 12)/\Bk w' g 9 cs/\(∀k,k<12->∃s,cs[k]?=some (.string s))/\J [] w w':=by
 go_enter func208,ntmps208
 go_wp2;go_ret;refine⟨w.heap.size,_,rfl,Q_ w _ _,λk b=>?_,(H _ _).alloc _⟩;have a:k=0∨k=1∨k=2∨k=3∨k=4∨k=5∨k=6∨k=7∨k=8∨k=9∨k=10∨k=11:=X
 rcases a with rfl|rfl|rfl|rfl|rfl|rfl|rfl|rfl|rfl|rfl|rfl|rfl<;>exact⟨_,rfl⟩
def FC(b:Bool)(e:Ending):Prop:=∃s:ByteArray,e=.returned (.tuple #[.string s,.bool b])
def ri(op:Int):Calls prog 180 #[Y op] w λe w'=>FC (pW op) e/\J [] w w':=by
 have aV:=O (show pW op=decide (1<=op/\op<=11) from rfl)
 by_cases j:op<1
 .exact J9
 .by_cases l:11<op
  .exact J9
  .have aO:=O (show pW op=true by rw[aV.out];rw[Gx];omega);obtain⟨k,rfl⟩:∃k:Nat,op=k:=⟨op.toNat,(GF X).symm⟩;have f:k<12:=X;have i:(k:Int)<12:=X
   go_enter func180,ntmps180
   go_wp2_with fail
   go_at_call 208
   refine(zE).mono ?_;rintro e o⟨g,cs,rfl,d,b,c⟩;obtain⟨n,a⟩:=b k f;have m:=(d.f_ k).trans a;clear b a;go_wp2
   go_ret2
   exact⟨by rw[aO.out];exact⟨_,rfl⟩,c⟩
