import Derived.Test.YtenbhdilndfaeaaGreatM01
import Derived.Test.YtenbhdilndfaeaaGreatRows
import Derived.Deep.CutBlock
import Derived.Deep.DeepCutAuto
import Derived.Deep.RegionHeld3
import Derived.Deep.RegionWith
import Derived.Laws.ResultCell
import Derived.WalkArith
set_option maxRecDepth 100000
set_option maxHeartbeats 0
set_option linter.all false
namespace Go.Proofs.YtenbhdilndfaeaaGreat
open Go.RowKit Go.Proofs.Tryz
variable{G:Prop}{w w':World}{B base g k len:Nat}{C e:TypeId}{zs:QR}{α:Type}{cs:Array Value}
def Jt(h:G:=by
 go_enter func148,ntmps148;go_wp2_with fail;go_at_call 55;refine(pO A c l id (h.hF Nv) hn).mono ?_;rintro e w2⟨rfl,Np⟩;have P:=bo.gr Np H;obtain⟨U,ah⟩:=P.iA;have C:=P.hG 0;have d:=P.hG 1;exact Kr):G:=h
def J3(h:G:=by
 clear A;exact J4):G:=h
def J4(h:G:=by
 go_enter func164,ntmps164;go_wp2_with fail;have hB:=B;obtain⟨U,ah⟩:=hB.iA;have C:=hB.hG 0;have d:=hB.hG 1;go_wp2;refine lW #[.bool false,Y (0)] (Y (-2)) hB underlying38 ⟨by unfold qs;rw[av.out],?_⟩;exact Nv):G:=h
def Kf(h:G:=by
 refine lW #[.bool false,Y (y)] (Y 0) ((hB.hU 0 (.bool false)).hU 1 (Y (y))) underlying38 ⟨by unfold qs;rw[av.out],?_⟩;exact MK):G:=h
def Kg(h:G:=by
 refine lW #[.bool false,Y (x)] (Y 0) ((hB.hU 0 (.bool false)).hU 1 (Y (x))) underlying38 ⟨by unfold qs;rw[av.out],?_⟩;exact MK):G:=h
def Kr(h:G:=by
 go_wp2;have q:=(P.hU 0 (.bool false)).hU 1 (Y 0);refine lW #[.bool false,Y 0] (.bool false) q underlying38 ⟨rfl,?_⟩;exact M0):G:=h
def KO(h:G:=by
 have av:=O (show pE op=false by rw[HB.out];rw[H2];omega);go_enter func180,ntmps180;go_wp2
 go_ret2
 exact⟨by rw[av.out];exact⟨_,rfl⟩,F_ _ _⟩):G:=h
def Lg(h:G:=by
 go_wp2_with fail;go_quiet (fail);go_wp2;go_meet;exact⟨k,rfl,hk,.inr ⟨aX.out,by rw[Nu.out,bD.out];omega⟩,F.drewN _⟩):G:=h
def LQ(h:G:=by
 go_enter func179,ntmps179;go_wp2;go_ret;exact⟨iG (by rw[HA.out];symm;rw[H2];omega),by trivial⟩):G:=h
def MH(h:G:=by
 exact((ap.gr [] w S.size q.drew).setCell (.inr p_) _).setCell (.inr p_) _):G:=h
def MK(h:G:=by
 exact((((Nv.drewN nq).trans Np)).setCell (.inr p_) _).setCell (.inr p_) _):G:=h
def iN(w:World)(B g:Nat):Prop:=∃(A:OA) (n c:Nat) (i:Nat) (zs:QR),Bk w g 112 #[.slice A n c,Y i]/\i<=n/\n<=200/\n<=c/\
 (∃e,Sl w e 1 A n (zs.map (.int .u8)))/\(∀j,0<=zs.getD j 0/\zs.getD j 0<256)/\(0<n->∀b off,A=some (Z b off)->b≠g/\b<B)/\g<B
def iN.iy(h:iN w B g)(j:∀k,k<B->k<w.heap.size->w'.heap[k]?=w.heap[k]?):iN w' B g:=by
 obtain⟨n,y,q,v,zs,f,s,t,o,⟨e,a⟩,p,c,d⟩:=h;refine⟨n,y,q,v,zs,(j g d f.lt).trans f,s,t,o,⟨e,a.1,λl=>?_⟩,p,c,d⟩;obtain⟨b,m,cs,r,i,hb,u⟩:=a.2 l;refine⟨b,m,cs,r,i,(j b (c l b m i).2 ?_).trans hb,u⟩;exact Mx
def iN.hF(h:iN w B g)(a:J [] w w'):iN w' B g:=h.iy λk _ b=>a.block k b H
def iN.ih{M:QY}(h:iN w B g)(a:J M w w')(d:∀x∈M,B<=x):iN w' B g:=h.iy λk f b=>a.block k b (λc=>by have:=d k c;omega)
def iN.app(h:iN w B g)(b:App base e w w')(c:B<=base):iN w' B g:=h.iy λk d a=>by
 rw[b.iy k w.heap[k] (Gb a) (.inl X),Gb a]
def iN.lt(h:iN w B g):g<w.heap.size:=by
 obtain⟨b,f,c,d,zs,a,_⟩:=h;exact a.lt
def iN.wx(h:iN w B g):g<B:=by
 obtain⟨a,d,b,c,zs,_,_,_,_,_,_,_,h⟩:=h;exact h
def iN.bk(h:iN w B g):∃cs,Bk w g 112 cs:=by
 obtain⟨b,f,c,d,zs,a,_⟩:=h;exact⟨_,a⟩
def ij(B g:Nat)(n:Int)(F:iN w B g)(U:1<=n)(N:n<=1000000):
 Calls prog 19 #[q_ g,Y n] w λe w'=>∃r:Int,e=.returned (Y r)/\0<=r/\r<n/\iN w' B g/\J [g] w w':=by
 obtain⟨l,k,i,a,zs,b,S,t,m,⟨q,c⟩,f,d,s⟩:=F;have O:w.cell? (Z g 0)=some (.slice l k i):=(b.f_ 0).trans rfl;have P:w.cell? (Z g 1)=some (Y a):=(b.f_ 1).trans rfl;have Q:=b.hG 1;by_cases R:a<k
 .obtain⟨o,u,j,D⟩:=c.f_ X;have T:=(d X o u j).1;have M:=j;subst j;have V:w.cell? (Z o (u+a))=some (.int .u8 (zs.getD a 0)):=D a _ (by
   have I:a<zs.length:=by have:=c.1;simp at this;omega
   simp[GF,K_ I,List.getD])
  go_enter func19,ntmps19;go_wp2_with fail;go_quiet (fail);go_wp2;have z:IntKind.i64.wrap (a:Int)=(a:Int):=Gm _ X;have y:(a:Int)<(k:Int):=X;have A:(0:Int)<=(a:Int):=X;go_quiet (fail);clear z y A;go_wp2;go_ret;have v:0<=zs[a]?.getD 0/\zs[a]?.getD 0<256:=f a;rw[IntWalk.wrap64_in _ X];refine⟨_,rfl,?_,?_,⟨_,k,i,a+1,zs,((b.drewN _).hU 1 _).drewN _,X,t,m,⟨q,?_⟩,f,λ_=>d X,s⟩,?_⟩;exact Int.tmod_nonneg _ v.1;exact Int.tmod_lt_of_pos _ X;refine Sl.drewN (c.iy λp L E K=>(((F_ [g] w).drewN _).setCell (.inl H) _).block p K ?_) _;have:=(d X p L E).1;exact No;exact(((F_ _ w).drewN _).setCell (.inl H) _).drewN _
 have h:a=k:=X;subst h;go_enter func19,ntmps19;go_wp2_with fail;go_quiet (fail);go_wp2;go_ret;exact⟨0,rfl,X,X,⟨l,a,i,a,zs,b.drewN _,H_ _,t,m,⟨q,c⟩,f,d,s⟩,(F_ _ w).drewN _⟩
def Cx(A:OA)(n c:Nat)(zs:QR)(l:TypeId)(h:Sl w l 1 A n (zs.map (.int .u8)))(t:∀i,0<=zs.getD i 0/\zs.getD i 0<256)(C:n<=c)(I:n<=9223372036854775807):
 Calls prog 54 #[.slice A n c] w λe w'=>∃g,e=.returned (q_ g)/\w.heap.size<=g/\iN w' w'.heap.size g/\J [] w w':=by
 have j:0<n->∀a d,A=some (Z a d)->a<w.heap.size:=by
  intro s a d f;obtain⟨p,u,cs,q,b,m,_⟩:=h.2 s;rw[f]at b;injection b with b;injection b with b _;subst b;rcases Ga a w.heap.size with j|v
  exact j;rw[F8 v]at m;cases m
 by_cases F:200<n
 .have j:=j X;obtain⟨p,u,b,_⟩:=h.f_ X;have E:=b;subst b;have y:Sl w l 1 (some (Z p u)) 200 ((zs.take 200).map (.int .u8)):=by
   refine⟨by have:=h.1;simp at this |-;omega,λ_=>?_⟩;obtain⟨a,d,cs,q,f,m,z⟩:=h.2 X;refine⟨a,d,cs,q,f,m,λi D o=>z i D ?_⟩;rw[GF,G1]at o;split at o;rw[GF];exact o;simp at o
  go_enter func54,ntmps54;go_wp2;go_ret;refine⟨_,rfl,H_ _,⟨_,200,c,0,zs.take 200,P_ w _ _,X,X,X,⟨l,y.alloc _⟩,λi=>?_,λ_ a d f=>by have:=j a d f;simp;omega,H⟩,(F_ _ w).alloc _⟩;by_cases r:i<200;simpa[G1,r]using t i;simp[G1,r]
 go_enter func54,ntmps54;go_wp2;go_ret;exact⟨_,rfl,H_ _,⟨A,n,c,0,zs,P_ w _ _,X,X,C,⟨l,h.alloc _⟩,t,λs a d f=>by have:=j X a d f;simp;omega,H⟩,(F_ _ w).alloc _⟩
def Cb(h:∀n∈zs,(Lit.int .u8 n).wf=true):∀a,0<=(zs.take len).getD a 0/\(zs.take len).getD a 0<256:=by
 intro a;by_cases b:a<(zs.take len).length;have c:(zs.take len).getD a 0∈zs:=by
  simp only[List.getD,K_ b,Hc];exact GX (N_ b)
 have:=bounds_u8 (h _ c);omega;simp[List.getD,Gk (Nat.le_of_not_lt b)]
def v2{k:IntKind}{x:Addr}(r:len<=zs.length)(hc:∀i,i<zs.length->w.cell? (x.add i)=some (.int k (zs.getD i 0))):
 ∃e,Sl w e 1 (some x) len ((zs.take len).map (.int k)):=by
 by_cases n:len=0;subst n;exact⟨0,by simpa using GU w 0 1 (some x)⟩;have a:=hc 0 X;have l:x.add 0=x:=by simp[Addr.add]
 rw[l]at a;obtain⟨d,p,m⟩:=x;unfold World.cell? at a;cases b:w.heap[d]? with
 |none=>rw[b]at a;simp at a
 |some o=>
  rw[b]at a;cases o with
  |cells cs e f=>
   cases m with
   |some c=>simp at a
   |none=>
    refine⟨e,p_,λ_=>⟨d,p,cs,f,rfl,b,λj s c=>?_⟩⟩;rw[GF,G1]at c;split at c;rename_i q;have:=hc j X;rw[m9,cell_of_row w d _ cs e f b]at this;rw[this,<-c];simp[List.getD,K_ (show j<zs.length by omega)];simp at c
  |_=>simp at a
structure Vl where
 r:Bool
 n:Int
 deriving DecidableEq,Inhabited
abbrev QA:=List Vl
structure Ob where
 id:Int
 fs:List Vl
 deriving DecidableEq,Inhabited
abbrev QQ:=List Ob
abbrev V_(x:Vl):Array Value:=#[.bool x.r,Y x.n]
def Vl.E(v:Vl):List Value:=[.bool v.r,Y v.n]
def i5(l:QA):List Value:=l.flatMap Vl.E
def ke(h:QQ)(id:Int):Option Ob:=h.find? λo=>o.id==id
def place(a:QQ)(id:Int):Int:=iM (λo:Ob=>o.id==id) a 0+1
def El(h a:QQ)(v:Vl):List Ob:=
 if v.r=false∨0<place a v.n then a else match ke h v.n with|some o=>a++[o]|none=>a
def look(h a:QQ)(l:QA):List Ob:=l.foldl (El h) a
def vr{h:QQ}{id:Int}{o:Ob}(a:ke h id=some o):o.id=id:=by
 have:=List.find?_some a;exact No
def oE{h:QQ}{id:Int}{o:Ob}(a:ke h id=some o):o∈h:=List.mem_of_find?_eq_some a
def oY{c:Type}(f:α->c){p:c->Bool}(q:α->Bool)(l:List α)(k:Nat)(h:∀a∈l,p (f a)=q a):iM p (l.map f) k=iM q l k:=by
 induction l generalizing k with
 |nil=>rfl
 |cons a l b=>simp only[Gx,iM];rw[h a H,b (k+1) λd i=>h d (by simp[i])]
section
variable{h x:QQ}{roots:QA}{ro:Ob->Ob}{rv:Vl->Vl}
end
def js(h:QQ)(id:Int):Int:=iM (λo:Ob=>o.id==id) h 0
def o1:List Ob->Int->Nat
 |[],_=>0
 |o::l,id=>if o.id<id then o1 l id+1 else 0
def ll(h:QQ)(o:Ob):List Ob:=
 if js h o.id<0 then h.take (o1 h o.id)++[o]++h.drop (o1 h o.id) else h.take (js h o.id).toNat++[o]++h.drop ((js h o.id).toNat+1)
def infoVl:(prog.info? 38).map (λi=>(i.zero,i.size,i.bytes))=some (some (.agg #[.bool false,Y 0]),2,16):=by kernel_rfl
def infoOb:(prog.info? 56).map (λi=>(i.zero,i.size,i.bytes))=some (some (.agg #[Y 0,n_]),2,32):=by kernel_rfl
def wn(f:α->List Value)(c:∀b,(f b).length=2)(l:List α):(l.flatMap f).length=l.length*2:=by
 induction l with
 |nil=>rfl
 |cons x l a=>simp only[Gi,I_,c,a,Y_];omega
def j4(f:α->List Value)(b:∀i,(f i).length=2)(l:List α)(k a:Nat)(c:k<l.length)(j:a<2):(l.flatMap f)[k*2+a]?=(f l[k])[a]?:=by
 induction l generalizing k with
 |nil=>simp at c
 |cons x l d=>
  cases k with
  |zero=>simp only[Gi,H1,X_,Ha];rw[GT (by rw[b];exact j)]
  |succ k=>
   simp only[Gi,HV];rw[Hk (by rw[b];omega),b,show(k+1)*2+a-2=k*2+a by omega];exact d k (zu c)
structure Rw where
 o:Ob
 A:Option Addr
 c:Nat
abbrev QT:=List Rw
def Rw.E(r:Rw):List Value:=[Y r.o.id,.slice r.A r.o.fs.length r.c]
def iT(l:QT):List Value:=l.flatMap Rw.E
def hX(l:QT):List Ob:=l.map Rw.o
def lZ(l:QA):(i5 l).length=l.length*2:=wn Vl.E (λ_=>rfl) l
def lv(l:QT):(iT l).length=l.length*2:=wn Rw.E (λ_=>rfl) l
def om(a b:QA):i5 (a++b)=i5 a++i5 b:=by simp[i5]
def ld(a b:QT):iT (a++b)=iT a++iT b:=by simp[iT]
def mI(l:QA):∀u∈i5 l,u.oneCell'=true:=by
 intro u b;obtain⟨c,_,a⟩:=HT.1 b;simp[Vl.E]at a;rcases a with rfl|rfl<;>rfl
def jA(l:QT):∀u∈iT l,u.oneCell'=true:=by
 intro u b;obtain⟨c,_,a⟩:=HT.1 b;simp[Rw.E]at a;rcases a with rfl|rfl<;>rfl
def mH(n:Int):Prop:=(Lit.int .i64 n).wf=true
def Vs(w:World)(A:OA)(l:QA):Prop:=Sl w 38 2 A l.length (i5 l)
def l5(w:World)(l:QT):Prop:=∀r∈l,Vs w r.A r.o.fs/\r.o.fs.length<=1000000000
def Os(w:World)(A:OA)(l:QT):Prop:=Sl w 56 2 A l.length (iT l)
def Vs.hF{A:OA}{l:QA}(h:Vs w A l)(a:J [] w w'):Vs w' A l:=Sl.hF h a
def Os.hF{A:OA}{l:QT}(h:Os w A l)(a:J [] w w'):Os w' A l:=Sl.hF h a
def l5.hF{l:QT}(h:l5 w l)(c:J [] w w'):l5 w' l:=λb a=>⟨(h b a).1.hF c,(h b a).2⟩
def Vs.alloc{A:OA}{l:QA}(h:Vs w A l)(o:Obj):Vs (w.alloc o) A l:=Sl.alloc h o
def l5.alloc{l:QT}(h:l5 w l)(o:Obj):l5 (w.alloc o) l:=h.hF ((F_ [] w).alloc o)
def Vs.at_{A:OA}{l:QA}(h:Vs w A l)(hk:k<l.length):
 ∃b off,A=some (Z b off)/\w.cell? (Z b (off+k*2))=some (.bool l[k].r)/\w.cell? (Z b (off+k*2+1))=some (Y l[k].n):=by
 exact KN
def Os.at_{A:OA}{l:QT}(h:Os w A l)(hk:k<l.length):
 ∃b off,A=some (Z b off)/\w.cell? (Z b (off+k*2))=some (Y l[k].o.id)/\w.cell? (Z b (off+k*2+1))=some (.slice l[k].A l[k].o.fs.length l[k].c):=by
 exact KM
def BL{r:Rw}(h:Bk w g 56 #[Y r.o.id,.slice r.A r.o.fs.length r.c]):Os w (j_ g) [r]:=
 ⟨rfl,λ_=>⟨g,0,_,_,rfl,h,λb c a=>by
   have:b<2:=by
    rcases Ga b 2 with h|h
    exact h;rw[Gk (by simpa[iT,Rw.E]using h)]at a;cases a
   rcases b with _|_|b
   simpa[iT,Rw.E]using a;simpa[iT,Rw.E]using a;omega⟩⟩
def Dg{v:Vl}(h:Bk w g 38 (V_ v)):Vs w (j_ g) [v]:=
 ⟨rfl,λ_=>⟨g,0,_,_,rfl,h,λb c a=>by
   have:b<2:=by
    rcases Ga b 2 with h|h
    exact h;rw[Gk (by simpa[i5,Vl.E]using h)]at a;cases a
   rcases b with _|_|b
   simpa[i5,Vl.E]using a;simpa[i5,Vl.E]using a;omega⟩⟩
def iE{P:Program}{c:Func}{p u:Tmp}{b:TypeId}(h:c.results=#[.cell p b,.tmp u]){a:Array Value}{w:World}{g:Nat}{t:TypeId}{cs:Array Value}{f:Nat × Nat}{d:TypeDesc}
 (n:a.getD p undef=q_ g) (l:w.heap[g]?=some (.cells cs t f))
 (o:P.underlying b=some d) (j:(match d with| .struct _| .array _ _=>true|_=>false)=true) (m:(P.info? b).map (·.size)=some cs.size):
 (results c a).run P w=.ok (.tuple #[.agg cs,a.getD u undef]) w:=by
 rw[results_cell_tmp h];have i:a[p]?.getD undef=q_ g:=zu n;simp[i,asAddr,run_loadVar_row w g t b cs f d l o j m,Result.andThen]
def BK{i:Int}{fs:QA}{B:OA}{n d:Nat}(h:Bk w g 56 #[Y i,.slice B n d])(a:fs.length=n):Sl w 56 2 (j_ g) 1 (iT [⟨⟨i,fs⟩,B,d⟩]):=by
 subst a;exact BL (r:=⟨⟨i,fs⟩,B,d⟩) h
def l5.iq{l:QT}{t:TypeId}(h:l5 w l)(f:Bk w g t cs)(c:38≠t)(d:J [g] w w'):l5 w' l:=λb a=>⟨Sl.iq (h b a).1 f c d,(h b a).2⟩
def lW{P:Program}{fn:Func}{R:Ending->World->Prop}{a:Act}{w:World}{p u:Tmp}{ty:TypeId}{g:Nat}{t:TypeId}{fr:Nat × Nat}{d:TypeDesc}(cs:Array Value)(y:Value)(hg:w.heap[g]?=some (.cells cs t fr))(hu:P.underlying ty=some d)(hR:R (.returned (.tuple #[.agg cs,y])) w)
 (h:fn.results=#[.cell p ty,.tmp u]:=by rfl) (hp:a.tmps.getD p undef=q_ g:=by rfl) (hd:(match d with|.struct _|.array _ _=>true|_=>false)=true:=by rfl) (hi:(P.info? ty).map (·.size)=some cs.size:=by kernel_rfl) (hy:a.tmps.getD u undef=y:=by rfl) (hf:a.defers=[]:=by rfl):bodyPost P fn R .ret a w:=Gu (v:=.tuple #[.agg cs,y]) (by rw[<-hy];exact iE h hp hg hu hd hi) hf hR
def pO(A:OA)(c:Nat)(l:QT)(id:Int)(h:Os w A l)(d:l.length<=1000000000):
 Calls prog 55 #[.agg #[.slice A l.length c],Y id] w λe w'=>e=.returned (Y (js (hX l) id))/\J [] w w':=by
 exact IW
def ti(o:Ob)(A:OA)(c:Nat)(w:World)(h:Sl w C 2 A o.fs.length (i5 o.fs))(L:o.fs.length<=1000000000):
 Calls prog 56 #[.agg #[Y o.id,.slice A o.fs.length c]] w λe w'=>∃(A':OA) (c':Nat),
  e=.returned (.agg #[Y o.id,.slice A' o.fs.length c'])/\w'.ownsRow w.heap.size 38 2 (.slice A' o.fs.length c') o.fs.length (i5 o.fs)/\J [] w w':=by
 obtain⟨F,z,E,t,s⟩:=info_parts infoVl;obtain⟨id,i⟩:=o;simp only at h L |-;obtain⟨m,-,-⟩:=pZ w 56 #[Y id,.slice A i.length c] 56 #[Y 0,n_];obtain⟨U,V⟩:=m.iA;obtain⟨-,D,-⟩:=pZ w 56 #[Y id,.slice A i.length c] 56 #[Y 0,n_];have r:=(h.alloc (.cells #[Y id,.slice A i.length c] 56)).alloc (.cells #[Y 0,n_] 56);have u:=((F_ [] w).alloc (.cells #[Y id,.slice A i.length c] 56)).alloc (.cells #[Y 0,n_] 56);have q:w.heap.size+1≠w.heap.size:=X;generalize K:i.length=d at*;clear K
 go_enter func56,ntmps56;go_wp2_with (at_builtin;refine iL _ rfl (.const (n_)) (.tmp 4) 54 rfl w.heap.size 38 F _ 2 16 underlying54 z E t s rfl I I none 0 0 [] rfl (iS _ _ _ _) _ d c _ rfl r (mI _) X p_ ?_;intro b a M n j;simp only[X_,Gf]at n;have l:=j.bk m I;have f:=j.bk D I;obtain⟨P,O⟩:=l.iA;have T:=l.hG 1;obtain⟨Q,R⟩:=f.iA;have S:=f.hG 0;have N:=f.hG 1);have v:=((f.ih (p:=(Z w.heap.size 1)) q (.slice b d a)).hU 0 (Y id)).hU 1 (.slice b d a);refine rr_ #[Y id,.slice b d a] v underlying56 ⟨b,a,rfl,?_,?_⟩;have y:=j9 n l I ((F_ [w.heap.size] M).setCell (p:=(Z w.heap.size 1)) (.inl H) (.slice b d a));exact j9 y (f.ih (p:=(Z w.heap.size 1)) q (.slice b d a)) I (((F_ [w.heap.size+1] _).setCell (.inl H) _).setCell (.inl H) _);exact(((j.gr [] w (H_ _) u).setCell (.inr H) _).setCell (.inr H) _).setCell (.inr H) _
def qo(o:Ob)(A:OA)(c:Nat)(w:World)(h:Sl w C 2 A o.fs.length (i5 o.fs))(f:o.fs.length<=1000000000):
 Calls prog 56 #[.agg #[Y o.id,.slice A o.fs.length c]] w λe w'=>∃(A':OA) (c':Nat),
  e=.returned (.agg #[Y o.id,.slice A' o.fs.length c'])/\Vs w' A' o.fs/\J [] w w':=
 (ti o A c w h f).mono λ_ _⟨A',c',a,b,d⟩=>⟨A',c',a,Sl.iP b,d⟩
def CJ{h:QQ}{id:Int}(b:k<h.length)(a:h[k].id<id):o1 (h.drop k) id=o1 (h.drop (k+1)) id+1:=by
 rw[R_ b];simp[o1,a]
def CK{h:QQ}{id:Int}(b:k<h.length)(a:¬h[k].id<id):o1 (h.drop k) id=0:=by
 rw[R_ b];simp[o1,a]
def Bn{h:QQ}{id:Int}(a:h.length<=k):o1 (h.drop k) id=0:=by
 rw[GD a];rfl
def zo(f:α->List Value)(a:∀c,(f c).length=2)(l:List α)(k:Nat):(l.take k).flatMap f=(l.flatMap f).take (k*2):=by
 induction l generalizing k with
 |nil=>simp
 |cons x l b=>
  cases k with
  |zero=>simp
  |succ k=>
   rw[IF,Gi,Gi,b,List.take_append,a,F7 (l:=f x) (by rw[a];omega),show(k+1)*2-2=k*2 by omega]
def Os.take{A:OA}{l:QT}(h:Os w A l)(p:k<=l.length):Sl w 56 2 A k (iT (l.take k)):=by
 refine⟨by rw[lv,Gp];omega,λo=>?_⟩;obtain⟨b,m,cs,c,d,f,i⟩:=h.2 X;refine⟨b,m,cs,c,d,f,λj n a=>i j n ?_⟩;unfold iT at a;rw[zo Rw.E (λ_=>rfl),G1]at a;split at a;exact a;cases a
def Os.drop{A:OA}{l:QT}(h:Os w A l)(u:k<=l.length)(q:Nat)(r:l.length<=q):Sl w 56 2 (if q=k then A else A.map (·.add (k*2))) (l.length-k) (iT (l.drop k)):=by
 refine⟨by rw[lv,GQ],λs=>?_⟩;obtain⟨f,o,cs,i,j,m,n⟩:=h.2 X;subst j;rw[T_ X];refine⟨f,o+k*2,cs,i,by simp[m9],m,λa p b=>?_⟩;rw[HE];refine n _ p ?_;have t:a<(l.length-k)*2:=by
  rcases Ga a ((l.length-k)*2)with h|h
  exact h;rw[Gk (by rw[lv,GQ];exact h)]at b;cases b
 have d:=j4 Rw.E (λ_=>rfl) (l.drop k) (a / 2) (a % 2) (by rw[GQ];omega) (Nat.mod_lt _ X);have c:=j4 Rw.E (λ_=>rfl) l (k+a / 2) (a % 2) X (Nat.mod_lt _ X);rw[show a / 2*2+a % 2=a by omega]at d;rw[show(k+a / 2)*2+a % 2=k*2+a by omega]at c;unfold iT at b |-;rw[c,<-b,d,List.getElem_drop]
def s2(l:QT)(k m:Nat)(r:Rw):List Rw:=l.take k++[r]++l.drop m
def yq(l:QT)(k m:Nat)(r:Rw):hX (s2 l k m r)=(hX l).take k++[r.o]++(hX l).drop m:=by
 simp[s2,hX,List.map_take,List.map_drop]
def App.tQ{t:TypeId}(h:App base e w w')(b:Bk w g t cs)(a:g<base):Bk w' g t cs:=h.iy _ _ b (.inl a)
def v7{h:QT}{m:Nat}{r:Rw}(b:m<=h.length)(a:k<=h.length):(s2 h k m r).length=k+1+(h.length-m):=by
 simp[s2];omega
def yl{h:QT}{m:Nat}{id:Int}{fs:QA}{A:OA}{c:Nat}(d:l5 w h)(i:Vs w A fs)(f:fs.length<=1000000000):l5 w (s2 h k m ⟨⟨id,fs⟩,A,c⟩):=by
 intro b a;unfold s2 at a;rcases W_.1 a with a|a
 rcases W_.1 a with a|a
 .exact d b (GX a)
 have:b=⟨⟨id,fs⟩,A,c⟩:=zu a;subst this;exact⟨i,f⟩;exact d b (Hs a)
def App.k8{l:QT}(h:App base 56 w w')(a:l5 w l):l5 w' l:=λc b=>⟨h.sl (a c b).1 I,(a c b).2⟩
def vj(m:OA)(hc:Nat)(h:QT)(id:Int)(A:OA)(c:Nat)(fs:QA)(M:Os w m h)(hR:l5 w h)(b8:h.length<=hc)(hv:Sl w C 2 A fs.length (i5 fs))(hn1:fs.length<=1000000000)(bI:h.length<=999999999):
 Calls prog 123 #[.agg #[.slice m h.length hc],.agg #[Y id,.slice A fs.length c]] w λe w'=>∃(A':OA) (c':Nat) (rs:QT),
  e=.returned (.agg #[.slice A' rs.length c'])/\rs.length<=c'/\Os w' A' rs/\l5 w' rs/\hX rs=ll (hX h) ⟨id,fs⟩/\J [] w w':=by
 obtain⟨i1,R,U,V,W⟩:=info_parts infoOb;obtain⟨al,bo,-,-,bj⟩:=Df w 35 #[.slice m h.length hc] 56 #[Y id,.slice A fs.length c] 35 #[n_] 35 #[n_];have B:Bk ((((w.alloc (.cells #[.slice m h.length hc] 35)).alloc (.cells #[Y id,.slice A fs.length c] 56)).alloc (.cells #[n_] 35)).alloc (.cells #[n_] 35)) (w.heap.size+2) 35 #[n_]:=zu ((P_ ((w.alloc (.cells #[.slice m h.length hc] 35)).alloc (.cells #[Y id,.slice A fs.length c] 56)) 35 #[n_]).alloc (.cells #[n_] 35));have an:Bk ((((w.alloc (.cells #[.slice m h.length hc] 35)).alloc (.cells #[Y id,.slice A fs.length c] 56)).alloc (.cells #[n_] 35)).alloc (.cells #[n_] 35)) (w.heap.size+3) 35 #[n_]:=zu (P_ (((w.alloc (.cells #[.slice m h.length hc] 35)).alloc (.cells #[Y id,.slice A fs.length c] 56)).alloc (.cells #[n_] 35)) 35 #[n_]);have h0:=al.f_ 0;obtain⟨h1,h2⟩:=bo.iA;go_enter func123,ntmps123;go_wp2_with fail;go_at_call 55;refine(pO m hc h id (M.hF bj) X).mono ?_;rintro e w1⟨rfl,E⟩;have Np:=bj.trans E;have aA:=al.gr E H;have bd:=bo.gr E H;have bH:=B.gr E H;have bq:=an.gr E H;have aS:=bq.lt;clear bj al bo B an h0 h1 h2 E;have T:=O (show -1<=js (hX h) id/\js (hX h) id<h.length by have:=nC (λo:Ob=>o.id==id) (hX h) 0;simp[hX]at this;unfold js;simpa[hX]using this);have aH:w.heap.size=w.heap.size:=rfl;generalize aP:js (hX h) id=s at*;have a2:=O aP;clear aP;have g:=O (show(hX h).length=h.length by simp[hX]);go_upto_if 14 with fail
 go_cut [7] (λQ n=>∃k:Nat,Q=Y k/\k<=h.length/\((0<=s/\s=k)∨(s<0/\k=o1 (hX h) id))/\J [] w1 n)
 case first=>
  obtain⟨y,D⟩:=T.out;by_cases f:s<0
  .obtain rfl:s= -1:=by omega
   have aX:=O f;clear f y D;have z:=O (show o1 (hX h) id=0+o1 ((hX h).drop 0) id by simp);go_wp2_with fail;go_loopw [7] (λQ w'=>∃k:Nat,Q=Y k/\k<=h.length/\o1 (hX h) id=k+o1 ((hX h).drop k) id/\J [] w1 w') (λQ _=>h.length-(intOf Q).toNat)
   case atStart=>exact⟨0,rfl,L_ _,z.out,F_ _ _⟩
   obtain⟨k,rfl,hk,t,F⟩:=hrel;have Nu:=O t;clear t;have bf:=(aA.gr F H).f_ 0;obtain⟨ao,P⟩:=(bd.gr F H).iA;by_cases b:k<h.length;obtain⟨N,off,rfl,i,l⟩:=(M.hF (Np.trans F)).at_ b;have G:=O (show(hX h)[k]'(by rw[g.out];exact b)=h[k].o by simp[hX]);by_cases a:h[k].o.id<id;have bD:=O (CJ (h:=hX h) (id:=id) (k:=k) (by rw[g.out];exact b) (by rw[G.out];exact a));have d:decide (h[k].o.id<id)=true:=zu a;clear a G;generalize h[k]=r at*;obtain⟨⟨u,L⟩,K,v⟩:=r;simp only at i l d;have j:(k:Int)<(h.length:Int):=X;exact K1;have bD:=O (CK (h:=hX h) (id:=id) (k:=k) (by rw[g.out];exact b) (by rw[G.out];exact a));have d:decide (h[k].o.id<id)=false:=zu a;clear a G;generalize h[k]=r at*;obtain⟨⟨u,L⟩,K,v⟩:=r;simp only at i l d;have j:(k:Int)<(h.length:Int):=X;exact Lg;have bD:=O (Bn (h:=hX h) (id:=id) (k:=k) (by rw[g.out];omega));have j:¬(k:Int)<(h.length:Int):=X;exact Lg
  obtain⟨x,rfl⟩:∃x:Nat,s=x:=⟨s.toNat,X⟩;rw[show decide ((x:Int)<0)=false by simp];clear f;go_wp2_with fail;go_meet;have:=T.out;exact⟨x,rfl,X,.inl ⟨X,rfl⟩,F_ _ _⟩
 obtain⟨k,rfl,hk,aT,F⟩:=hcut;have bK:=O aT;clear aT;have S:=Np.trans F;have bf:=aA.gr F H;have bh:=bd.gr F H;have bk:=bH.gr F H;have cq:=bq.gr F H;have bJ:=F.size;clear aA bd bH bq F;obtain⟨bi,bL⟩:=bh.iA;have dR:=bf.f_ 0;have bM:=cq.f_ 0;have aJ:(k:Int)<=(hc:Int):=X;have aQ:(0:Int)<=(k:Int):=X;obtain⟨j,rfl⟩:∃x,x=wc:=⟨wc,rfl⟩;have aZ:w.heap.size+1<j.heap.size:=X;have a6:=Os.take (M.hF S.drew) hk;have bN:=hv.hF S.drew;have aY:=iS j.drew j.heap.size 56 2;have bm:j.heap.size<=j.drew.heap.size:=H_ _;go_upto_region 8 with fail;go_cut [] (λn=>∃(t:OA) (u:Nat) (f:OA) (i:Nat),Bk n w.heap.size 35 #[.slice m h.length hc]/\Bk n (w.heap.size+2) 35 #[n_]/\Bk n (w.heap.size+3) 35 #[.slice t (k+1) u]/\n.ownsRow j.heap.size 56 2 (.slice t (k+1) u) (k+1) (iT (h.take k++[⟨⟨id,fs⟩,f,i⟩]))/\Vs n f fs/\j.heap.size<=n.heap.size/\J [] w n)
 case first=>
  go_region_law (first|(refine ou rfl (.tmp 34) (.tmp 38) 33 rfl j.heap.size 56 i1 2 32 underlying33 R U V W rfl I I none 0 0 [] rfl aY m k hc rfl a6 (jA _) X bm ?_;intro aw aj af z a;simp only[X_,Gf]at z;have bp:=a.bk bf I;have bw:=a.bk bk I;have bB:=a.bk cq I;have bu:=a.tQ bh.drew aZ;obtain⟨hq0,hq1⟩:=bu.iA;have N:=hv.hF (a.gr [] w S.size S.drew))|(go_simp;go_at_call 56;refine(qo ⟨id,fs⟩ A c _ N hn1).mono ?_;rintro e ae⟨f,i,rfl,bv,P⟩;have b:=P.alloc (.cells #[Y id,.slice f fs.length i] 56);have br:=bp.gr b H;have bz:=bw.gr b H;have bC:=bB.gr b H;have D:=iD z b;have L:=BK (fs:=fs) (P_ ae 56 #[Y id,.slice f fs.length i]) rfl;have y:=G_ (G_ bm a.size) b.size)|(refine ou rfl (.tmp 39) (.tmp 42) 33 rfl j.heap.size 56 i1 2 32 underlying33 R U V W rfl I I aw k aj _ rfl D _ 1 1 rfl L (jA _) X y ?_;intro t u K ar d;have bt:=d.bk br I;have bA:=d.bk bz I;have l:=d.bk bC I;have bS:=l.hG 0;have ah:=l.f_ 0))
  all_goals
   go_wp2;go_meet;have v:=(F_ [w.heap.size+3] K).setCell (p:=(Z (w.heap.size+3) 0)) (.inl H) (.slice t (k+1) u);refine⟨t,u,f,i,bt.gr v H,bA.gr v H,l.hU 0 _,?_,?_,G_ (G_ y d.size) v.size,?_⟩;rw[ld];exact j9 ar l I v;exact Sl.iq (d.sl (bv.alloc (.cells #[Y id,.slice f fs.length i] 56)) I) l I v;exact(d.gr [] w S.size ((a.gr [] w S.size S.drew).trans b)).setCell (.inr (show w.heap.size<=w.heap.size+3 by omega)) _
 obtain⟨t,u,f,i,ao,aC,bx,aU,bl,a7,q⟩:=hcut;have dR:=ao.f_ 0;have bM:=bx.f_ 0;have bU:=q.size;obtain⟨a,rfl⟩:∃x,x=h:=⟨h,rfl⟩;have aF:=hR.hF q.drew;clear bN aY bm a6;rcases bK.out with⟨bV,rfl⟩|⟨bV,aE⟩
 .have P:k+1<=a.length:=ov T.out;have bW:(k:Int)+1<=(a.length:Int):=X;have bQ:(0:Int)<=(k:Int)+1:=X;clear bV;have au:=Os.drop (M.hF q.drew) P hc b8;have ai:j.heap.size<=wc.drew.heap.size:=a7;have am:=iD aU (F_ [] wc).drew;have ax:w.heap.size+2≠w.heap.size+3:=X;go_wp2_with fail
  go_region_law (refine ou rfl (.tmp 50) (.tmp 54) 33 rfl j.heap.size 56 i1 2 32 underlying33 R U V W rfl I I t (k+1) u _ rfl am _ (a.length-(k+1)) (hc-(k+1)) rfl au (jA _) X ai ?_;intro d b N D ap;have z:=ap.bk aC I;have l:=ap.bk bx I;have bF:=l.hG 0;have bO:=l.f_ 0;have bG:=z.hG 0;have dn:=z.f_ 0)
  all_goals
   have d3:k+1+(a.length-(k+1))=a.length:=X;rw[d3]at D;have aD:(s2 a k (k+1) ⟨⟨id,fs⟩,f,i⟩).length=a.length:=by rw[v7 P hk];exact d3
   clear d3;have y:=O aD;clear aD;go_wp2;all_goals
    have aN:=l.hU 0 (.slice d a.length b);have v:=z.ih (p:=(Z (w.heap.size+3) 0)) ax (.slice d a.length b);have ay:=v.hU 0 (.slice d a.length b);have K:=(F_ [w.heap.size+3] N).setCell (p:=(Z (w.heap.size+3) 0)) (.inl H) (.slice d a.length b);have L:=(F_ [w.heap.size+2] (N.setCell (Z (w.heap.size+3) 0) (.slice d a.length b))).setCell (p:=(Z (w.heap.size+2) 0)) (.inl H) (.slice d a.length b);have aq:=j9 (j9 D l I K) v I L;have bX:l5 _ (s2 a k (k+1) ⟨⟨id,fs⟩,f,i⟩):=((yl (ap.k8 aF) (ap.sl bl I) hn1).iq l I K).iq v I L;refine Gu (Hb rfl _ _ _ _ _ _ _ rfl ay underlying35 rfl k_) rfl ⟨d,b,s2 a k (k+1) ⟨⟨id,fs⟩,f,i⟩,by rw[y.out];rfl,by rw[y.out];exact iY D,?_,bX,?_,?_⟩;unfold Os;rw[y.out];have:=Sl.iP aq;rw[<-ld]at this;exact this;rw[yq];unfold ll;rw[a2.out,T_ X,GZ];exact MH
 obtain rfl:s= -1:=by have:=T.out;omega
 have P:k<=a.length:=hk;have bW:(k:Int)<=(a.length:Int):=X;have bn:=O aE;clear bV aE;have au:=Os.drop (M.hF q.drew) P hc b8;have ai:j.heap.size<=wc.drew.heap.size:=a7;have am:=iD aU (F_ [] wc).drew;have ax:w.heap.size+2≠w.heap.size+3:=X;go_wp2_with fail
 go_region_law (refine ou rfl (.tmp 50) (.tmp 54) 33 rfl j.heap.size 56 i1 2 32 underlying33 R U V W rfl I I t (k+1) u _ rfl am _ (a.length-(k)) (hc-(k)) rfl au (jA _) X ai ?_;intro d b N D ap;have z:=ap.bk aC I;have l:=ap.bk bx I;have bF:=l.hG 0;have bO:=l.f_ 0;have bG:=z.hG 0;have dn:=z.f_ 0)
 all_goals
  have y:=O (v7 (r:=⟨⟨id,fs⟩,f,i⟩) P hk);go_wp2;all_goals
   have aN:=l.hU 0 (.slice d (k+1+(a.length-(k))) b);have v:=z.ih (p:=(Z (w.heap.size+3) 0)) ax (.slice d (k+1+(a.length-(k))) b);have ay:=v.hU 0 (.slice d (k+1+(a.length-(k))) b);have K:=(F_ [w.heap.size+3] N).setCell (p:=(Z (w.heap.size+3) 0)) (.inl H) (.slice d (k+1+(a.length-(k))) b);have L:=(F_ [w.heap.size+2] (N.setCell (Z (w.heap.size+3) 0) (.slice d (k+1+(a.length-(k))) b))).setCell (p:=(Z (w.heap.size+2) 0)) (.inl H) (.slice d (k+1+(a.length-(k))) b);have aq:=j9 (j9 D l I K) v I L;have bX:l5 _ (s2 a k (k) ⟨⟨id,fs⟩,f,i⟩):=((yl (ap.k8 aF) (ap.sl bl I) hn1).iq l I K).iq v I L;refine Gu (Hb rfl _ _ _ _ _ _ _ rfl ay underlying35 rfl k_) rfl ⟨d,b,s2 a k (k) ⟨⟨id,fs⟩,f,i⟩,by rw[y.out];rfl,by rw[y.out];exact iY D,?_,bX,?_,?_⟩;unfold Os;rw[y.out];have:=Sl.iP aq;rw[<-ld]at this;exact this;rw[yq];unfold ll;rw[a2.out,U_ X,<-bn.out];exact MH
def m5(h:QQ)(id:Int):(js h id<0/\ke h id=none)∨∃k,∃d:k<h.length,js h id=(k:Nat)/\ke h id=some h[k]:=by
 suffices Nw:∀b:Nat,(iM (λa:Ob=>a.id==id) h b<0/\ke h id=none)∨∃k,∃d:k<h.length,iM (λa:Ob=>a.id==id) h b=(b+k:Nat)/\ke h id=some h[k] by
  rcases Nw 0 with c|⟨k,d,c,j⟩
  exact .inl c;exact .inr ⟨k,d,by unfold js;rw[c];simp,j⟩
 induction h with
 |nil=>intro b;left;simp[iM,ke]
 |cons a i l=>
  intro b;by_cases f:a.id=id;right;exact⟨0,H,by simp[iM,f],by simp[ke,f]⟩;have n:iM (λa:Ob=>a.id==id) (a::i) b=iM (λa:Ob=>a.id==id) i (b+1):=by simp[iM,f]
  have m:ke (a::i) id=ke i id:=by simp[ke,f]
  rw[n,m];rcases l (b+1)with c|⟨k,d,c,j⟩
  exact .inl c;exact .inr ⟨k+1,by simpa using d,by rw[c];congr 1;omega,by simpa using j⟩
def get_none(A:OA)(c:Nat)(l:QT)(id:Int)(w:World)(h:Os w A l)(i:l.length<=1000000000)(f:ke (hX l) id=none):
 Calls prog 14 #[.agg #[.slice A l.length c],Y id] w λe w'=>e=.returned (.tuple #[.agg #[Y 0,n_],.bool false])/\J [] w w':=by
 obtain⟨b,bo,Nv⟩:=pZ w 35 #[.slice A l.length c] 56 #[Y 0,n_];have j:((w.alloc (.cells #[.slice A l.length c] 35)).alloc (.cells #[Y 0,n_] 56)).cell? (Z w.heap.size 0)=some (.slice A l.length c):=b.f_ 0;rcases m5 (hX l) id with⟨ag,_⟩|⟨k,m,_,a⟩
 .go_enter func14,ntmps14;go_wp2_with fail;go_at_call 55;refine(pO A c l id (h.hF Nv) i).mono ?_;exact JJ
 rw[f]at a;cases a
def get_some(A:OA)(c:Nat)(l:QT)(id:Int)(o:Ob)(w:World)(h:Os w A l)(hr:l5 w l)(n:l.length<=1000000000)(i:ke (hX l) id=some o):
 Calls prog 14 #[.agg #[.slice A l.length c],Y id] w λe w'=>∃(A':OA) (c':Nat),e=.returned (.tuple #[.agg #[Y o.id,.slice A' o.fs.length c'],.bool true])/\Vs w' A' o.fs/\J [] w w':=by
 obtain⟨a,bo,Nv⟩:=pZ w 35 #[.slice A l.length c] 56 #[Y 0,n_];have r:((w.alloc (.cells #[.slice A l.length c] 35)).alloc (.cells #[Y 0,n_] 56)).cell? (Z w.heap.size 0)=some (.slice A l.length c):=a.f_ 0;rcases m5 (hX l) id with⟨_,f⟩|⟨k,m,j,f⟩
 rw[i]at f;cases f
 rw[i]at f;injection f with f;have aE:=by simpa[hX]using m
 have B:o=l[k].o:=by rw[f];simp[hX]
 subst B;clear f i;have K:=O j;clear j;have p:(k:Int)<(l.length:Int):=X;go_enter func14,ntmps14;go_wp2_with fail;go_at_call 55;refine(pO A c l id (h.hF Nv) n).mono ?_;exact I6
def jw(h:QQ)(id f:Int):Option Vl:=match ke h id with
 |none=>none
 |some o=>if f<0 then none else o.fs[f.toNat]?
def qq{h:QQ}{id f:Int}{v:Vl}(a:jw h id f=some v):∃k,∃d:k<h.length,js h id=(k:Nat)/\ke h id=some h[k]/\0<=f/\∃i:f.toNat<h[k].fs.length,h[k].fs[f.toNat]=v:=by
 unfold jw at a;rcases m5 h id with⟨c,b⟩|⟨k,d,c,b⟩
 rw[b]at a;cases a
 rw[b]at a;simp only at a;split at a
 .cases a
 rename_i i;obtain⟨j,l⟩:=HI.1 a;exact⟨k,d,c,b,X,j,l⟩
def kI(A:OA)(c:Nat)(l:QT)(id f:Int)(w:World)(h:Os w A l)(L:l5 w l)(hn:l.length<=1000000000):
 Calls prog 148 #[.agg #[.slice A l.length c],Y id,Y f] w λe w'=>e=.returned (.tuple #[.agg #[.bool ((jw (hX l) id f).getD default).r,Y ((jw (hX l) id f).getD default).n],.bool (jw (hX l) id f).isSome])/\J [] w w':=by
 obtain⟨s,bo,Nv⟩:=pZ w 35 #[.slice A l.length c] 38 #[.bool false,Y 0];have W:((w.alloc (.cells #[.slice A l.length c] 35)).alloc (.cells #[.bool false,Y 0] 38)).cell? (Z w.heap.size 0)=some (.slice A l.length c):=s.f_ 0;cases b:jw (hX l) id f with
 |none=>
  have g:js (hX l) id<0∨f<0∨∃k,∃m:k<l.length,js (hX l) id=(k:Nat)/\(l[k].o.fs.length:Int)<=f/\0<=f:=by
   rcases m5 (hX l) id with⟨a,_⟩|⟨k,m,a,E⟩
   exact .inl a;have i:=by simpa[hX]using m
   unfold jw at b;rw[E]at b;simp only at b;split at b;exact .inr (.inl ‹_›);rename_i z;refine .inr (.inr ⟨k,i,a,?_,X⟩);have:=List.getElem?_eq_none_iff.1 b;have e:((hX l)[k]).fs.length=l[k].o.fs.length:=by simp[hX]
   omega
  clear b;by_cases v:js (hX l) id<0;exact Jt;by_cases z:f<0
  .exact Jt
  obtain⟨k,i,j,t,u⟩:∃k,∃m:k<l.length,js (hX l) id=(k:Nat)/\(l[k].o.fs.length:Int)<=f/\0<=f:=by
   rcases g with a|a|a
   exact Gc a v;exact Gc a z;exact a
  have D:(k:Int)<(l.length:Int):=X;have p:=O j;clear j g v;go_enter func148,ntmps148;go_wp2_with fail;go_at_call 55;refine(pO A c l id (h.hF Nv) hn).mono ?_;rintro e w2⟨rfl,Np⟩;rw[p.out];have P:=bo.gr Np H;obtain⟨U,ah⟩:=P.iA;have C:=P.hG 0;have d:=P.hG 1;have Q:w2.cell? (Z w.heap.size 0)=some (.slice A l.length c):=(s.gr Np H).f_ 0;obtain⟨F,M,rfl,K,y⟩:=((h.hF Nv).hF Np).at_ i;exact Kr
 |some N=>
  obtain⟨k,m,j,_,u,t,v⟩:=qq b;have i:=by simpa[hX]using m
  have a:(hX l)[k]=l[k].o:=by simp[hX]
  have E:f.toNat<l[k].o.fs.length:=by rw[<-a];exact t
  have z:l[k].o.fs[f.toNat]=N:=by
   rw[<-v];congr 1;rw[a]
  subst z;have D:(k:Int)<(l.length:Int):=X;have p:=O j;clear j v b a t;have S:f<(l[k].o.fs.length:Int):=X;have bL:¬(l[k].o.fs.length:Int)<=f:=X;have G:=Hd u;clear G;go_enter func148,ntmps148;go_wp2_with fail;go_at_call 55;refine(pO A c l id (h.hF Nv) hn).mono ?_;rintro e w2⟨rfl,Np⟩;rw[p.out];have P:=bo.gr Np H;obtain⟨U,ah⟩:=P.iA;have C:=P.hG 0;have d:=P.hG 1;have Q:w2.cell? (Z w.heap.size 0)=some (.slice A l.length c):=(s.gr Np H).f_ 0;obtain⟨I,_⟩:=((L.hF Nv).hF Np) l[k] (N_ i);obtain⟨F,M,rfl,K,y⟩:=((h.hF Nv).hF Np).at_ i;obtain⟨b2,R,B,V,T⟩:=I.at_ E;rw[B]at y;go_wp2;have q:=(P.hU 0 (.bool l[k].o.fs[f.toNat].r)).hU 1 (Y l[k].o.fs[f.toNat].n);refine lW #[.bool l[k].o.fs[f.toNat].r,Y l[k].o.fs[f.toNat].n] (.bool true) q underlying38 ⟨rfl,?_⟩;exact M0
def kk(h:QQ)(id f:Int)(v:Vl):List Ob:=h.modify (js h id).toNat λo=>⟨o.id,o.fs.set f.toNat v⟩
def qF(E:α->List Value)(s:Nat)(f:∀y,(E y).length=s)(t:0<s)(l:List α)(k:Nat)(I:k<l.length)(r:α)(p:Array Value){j:Array Value}(h:∀(i:Nat) (u:Value),(l.flatMap E)[i]?=some u->p[i]?=some u)(H:∀(v:Nat) (u:Value),(E r)[v]?=some u->j[k*s+v]?=some u)(c:∀i:Nat,(i<k*s∨(k+1)*s<=i)->j[i]?=p[i]?):∀(i:Nat) (u:Value),((l.set k r).flatMap E)[i]?=some u->j[i]?=some u:=by
 intro i u o;have iF:((l.set k r).flatMap E).length=l.length*s:=by rw[kj E s f];simp
 have F:i<l.length*s:=by
  rcases Ga i (l.length*s)with h|h
  exact h;rw[Gk (by rw[iF];exact h)]at o;cases o
 have m:i / s<l.length:=by rw[Nat.div_lt_iff_lt_mul t];exact F
 have n:i % s<s:=Nat.mod_lt _ t;have d:i / s*s+i % s=i:=by rw[Nat.mul_comm];exact Nat.div_add_mod i s
 have a:=ja E s f (l.set k r) (i / s) (i % s) (zu m) n;rw[d,o]at a;rcases Nat.lt_trichotomy (i / s) k with z|D|A
 rw[List.getElem_set_ne X]at a;have b:=ja E s f l (i / s) (i % s) m n;rw[d]at b;rw[c i (.inl (by
  have:(i / s+1)*s<=k*s:=HY s z;rw[Hp,Io]at this;omega))]
 exact h i u (by rw[b,<-a]);subst D;rw[List.getElem_set_self]at a;rw[<-d];exact H _ u a.symm;rw[List.getElem_set_ne X]at a;have b:=ja E s f l (i / s) (i % s) m n;rw[d]at b;rw[c i (.inr (by
  have:(k+1)*s<=i / s*s:=HY s A;omega))]
 exact h i u (by rw[b,<-a])
def kK{o:Nat}{A:OA}{n c:Nat}{xs:QW}(h:w.ownsRow base e o (.slice A n c) n xs)(h0:0<n):∃g a,A=some (Z g 0)/\base<=g/\Bk w g e a/\∀(i:Nat) (u:Value),xs[i]?=some u->a[i]?=some u:=by
 rcases h.2 with⟨d,p⟩|⟨g,r,a,d,j,l,_,_,_,m⟩
 omega;injection d with f _ _;refine⟨g,a,f,j,l,λq u b=>?_⟩;rw[<-m,G1]at b;split at b
 .simpa using b
 cases b
def pR(E:α->List Value)(d:∀f,(E f).length=2){b:Array Value}{l:List α}(p:k<l.length)(r:α)(x y:Value)(v:E r=[x,y])(o:Bk w g e b)(h:∀(i:Nat) (u:Value),(l.flatMap E)[i]?=some u->b[i]?=some u)(n:Nat)(t:l.length=n):
 Sl ((w.setCell (Z g (k*2)) x).setCell (Z g (k*2+1)) y) e 2 (j_ g) n ((l.set k r).flatMap E):=by
 subst t;have m:=(o.hU (k*2) x).hU (k*2+1) y;have iF:=kj E 2 d l;have j:k*2+1<b.size:=by
  have s:k*2+1<(l.flatMap E).length:=X;have:=h _ _ (K_ s);rcases Ga (k*2+1) b.size with h|h
  exact h;exact Nj
 refine⟨by rw[kj E 2 d];simp,λ_=>⟨g,0,_,_,rfl,m,λc u a=>?_⟩⟩;rw[X_];refine qF E 2 d X l k p r b h (λc u a=>?_) (λi z=>?_) c u a
 .rw[v]at a
  match c,a with
  |0,a=>simp only[G4,Option.some.injEq]at a;subst a;rw[M_,T_ X,M_,U_ X,U_ X]
  |1,a=>simp only[Ht,G4,Option.some.injEq]at a;subst a;rw[M_,U_ rfl,U_ (zu j)]
  |c+2,a=>simp at a
 rw[M_,T_ X,M_,T_ X]
def qu(A:OA)(c:Nat)(l:QT)(id f:Int)(v:Vl)(h:Os w A l)(m:l5 w l)(j:l.length<=1000000000)(n:jw (hX l) id f=none):
 Calls prog 149 #[.agg #[.slice A l.length c],Y id,Y f,.agg (V_ v)] w λe w'=>e=.returned (.tuple #[.agg #[n_],.bool false])/\J [] w w':=by
 obtain⟨i,-,-,a⟩:=w6 w 35 #[.slice A l.length c] 38 (V_ v) 35 #[n_];have B:Bk (((w.alloc (.cells #[.slice A l.length c] 35)).alloc (.cells (V_ v) 38)).alloc (.cells #[n_] 35)) (w.heap.size+2) 35 #[n_]:=zu (P_ ((w.alloc (.cells #[.slice A l.length c] 35)).alloc (.cells (V_ v) 38)) 35 #[n_]);have p:(((w.alloc (.cells #[.slice A l.length c] 35)).alloc (.cells (V_ v) 38)).alloc (.cells #[n_] 35)).cell? (Z w.heap.size 0)=some (.slice A l.length c):=i.f_ 0;go_enter func149,ntmps149;go_wp2_with fail;go_at_call 148;refine(kI A c l id f _ (h.hF a) (m.hF a) j).mono ?_;rintro e r⟨rfl,d⟩;rw[n];have b:=(B.hF d).alloc (.cells (V_ (default:Vl)) 38);have o:=b.f_ 0;have C:=b.hG 0;simp only[Ie,H3];go_wp2;have q:=b.hU 0 (n_);refine lW #[n_] (.bool false) q underlying35 ⟨rfl,?_⟩;exact((a.trans d).alloc _).setCell (.inr p_) _
def sw(l:QT)(k:Nat)(r:Rw):hX (l.set k r)=(hX l).set k r.o:=by simp[hX,List.map_set]
def zy{h:QQ}{id f:Int}{v:Vl}(b:k<h.length)(a:js h id=(k:Nat)):kk h id f v=h.set k ⟨h[k].id,h[k].fs.set f.toNat v⟩:=by
 unfold kk;rw[a,GZ];apply Ic;intro c;rw[IC,Ik];by_cases e:k=c;subst e;simp[b];simp[e]
def l5.hU{l:QT}(h:l5 w l){r:Rw}(c:Vs w r.A r.o.fs)(b:r.o.fs.length<=1000000000):l5 w (l.set k r):=λx a=>by
 rcases Gw a with a|rfl
 exact h x a;exact⟨c,b⟩
def App.DF{l:QT}(h:App base e w w')(d:38≠e)(a:l5 w l):l5 w' l:=λc b=>⟨h.sl (a c b).1 d,(a c b).2⟩
def oq(A:OA)(c:Nat)(l:QT)(id f:Int)(v u:Vl)(h:Os w A l)(T:l5 w l)(hn:l.length<=1000000000)(al:jw (hX l) id f=some u):
 Calls prog 149 #[.agg #[.slice A l.length c],Y id,Y f,.agg (V_ v)] w λe w'=>∃(A':OA) (c':Nat) (rs:QT),e=.returned (.tuple #[.agg #[.slice A' rs.length c'],.bool true])/\rs.length<=c'/\Os w' A' rs/\l5 w' rs/\hX rs=kk (hX l) id f v/\J [] w w':=by
 obtain⟨i1,bT,cj,cn,cr⟩:=info_parts infoOb;obtain⟨an,bo,-,E⟩:=w6 w 35 #[.slice A l.length c] 38 (V_ v) 35 #[n_];have B:Bk (((w.alloc (.cells #[.slice A l.length c] 35)).alloc (.cells (V_ v) 38)).alloc (.cells #[n_] 35)) (w.heap.size+2) 35 #[n_]:=zu (P_ ((w.alloc (.cells #[.slice A l.length c] 35)).alloc (.cells (V_ v) 38)) 35 #[n_]);have aT:(((w.alloc (.cells #[.slice A l.length c] 35)).alloc (.cells (V_ v) 38)).alloc (.cells #[n_] 35)).cell? (Z w.heap.size 0)=some (.slice A l.length c):=an.f_ 0;obtain⟨k,hk,b0,_,aA,bw,hv⟩:=qq al;have P:=by simpa[hX]using hk
 have bO:(hX l)[k]=l[k].o:=by simp[hX]
 have aj:f.toNat<l[k].o.fs.length:=by rw[<-bO];exact bw
 have bV:=O (show kk (hX l) id f v=(hX l).set k ⟨l[k].o.id,l[k].o.fs.set f.toNat v⟩ by rw[zy hk b0,bO]);have Nr:(k:Int)<(l.length:Int):=X;have aH:=O b0;have Nw:f<(l[k].o.fs.length:Int):=X;go_enter func149,ntmps149;go_wp2_with fail;generalize ((w.alloc (.cells #[.slice A l.length c] 35)).alloc (.cells (V_ v) 38)).alloc (.cells #[n_] 35)=aJ at*
 go_at_call 148;refine(kI A c l id f _ (h.hF E) (T.hF E) hn).mono ?_;rintro e w2⟨rfl,Np⟩;rw[al];simp only[Hc,Hz];have y:=Np.alloc (.cells (V_ u) 38);have aN:=an.hF y;have aO:=bo.hF y;have bH:=B.hF y;have Nt:=(h.hF E).hF y;have cg:=(T.hF E).hF y;have aQ:=aN.f_ 0;have hbs:=(E.trans y).size;go_wp2_with (at_builtin;refine sK _ rfl (.const (n_)) (.tmp 26) 33 rfl w.heap.size 56 i1 _ 2 32 underlying33 bT cj cn cr rfl I I none 0 0 [] rfl (iS _ _ _ _) A l.length c _ rfl Nt (jA _) X hbs ?_;intro z c3 af R N;simp only[X_,Gf]at R;have z0:=((N.bk aN I).alloc (.cells #[.slice z l.length c3] 35)).f_ 0);go_at_call 55;have aS:=N.gr [] w (H_ _) (E.trans y);have aV:=(N.bk aN I).alloc (.cells #[.slice z l.length c3] 35);have V:=(N.bk aO I).alloc (.cells #[.slice z l.length c3] 35);have d:=(N.bk bH I).alloc (.cells #[.slice z l.length c3] 35);have j:=P_ af 35 #[.slice z l.length c3];have cN:=iD R ((F_ [] af).alloc (.cells #[.slice z l.length c3] 35));have cF:=aS.alloc (.cells #[.slice z l.length c3] 35);have ax:=(N.bk bH I).lt;have b8:=iY R;refine(pO A c l id (h.hF cF) hn).mono ?_;rintro e Nq⟨rfl,L⟩;rw[aH.out];have W:=cF.trans L;have aV:=aV.hF L;have V:=V.hF L;have d:=d.hF L;have j:=j.hF L;have ar:=iD cN L;have aD:=W.size;have z0:Nq.cell? (Z w.heap.size 0)=some (.slice A l.length c):=aV.f_ 0;obtain⟨aW,aX⟩:=(T.hF W) l[k] (N_ P);obtain⟨bd,off,rfl,bj,bn⟩:=(h.hF W).at_ P;go_wp2_with fail;go_at_call 56;refine(ti l[k].o l[k].A l[k].c _ aW aX).mono ?_;rintro e M⟨t,b,rfl,cw,s⟩;have bQ:=(W.trans s).alloc (.cells #[Y l[k].o.id,.slice t l[k].o.fs.length b] 56);have V:=(V.hF s).alloc (.cells #[Y l[k].o.id,.slice t l[k].o.fs.length b] 56);have d:=(d.hF s).alloc (.cells #[Y l[k].o.id,.slice t l[k].o.fs.length b] 56);have ay:=(j.hF s).lt;have j:=(j.hF s).alloc (.cells #[Y l[k].o.id,.slice t l[k].o.fs.length b] 56);have C:=P_ M 56 #[Y l[k].o.id,.slice t l[k].o.fs.length b];have ae:∀g cur,Bk Nq g 56 cur->g≠M.heap.size:=λg cur hb=>by
  have:=(hb.hF s).lt;omega
 have R:=iD (iD ar s) ((F_ [] M).alloc (.cells #[Y l[k].o.id,.slice t l[k].o.fs.length b] 56));have cw:=iD cw ((F_ [] M).alloc (.cells #[Y l[k].o.id,.slice t l[k].o.fs.length b] 56));have ap:=T.hF bQ;obtain⟨a,au,rfl,aw,n,be⟩:=kK cw X;obtain⟨i,ao,D,av,ad,_⟩:=kK ar X;subst D;have aB:=ae _ _ ad;obtain⟨G,am,D,_,m,bf⟩:=kK R X;injection D with D;injection D with D _;subst D;have ak:=Bk.l8 m n I;go_upto_region 7 with fail;generalize M.heap.size=aG at*;generalize af.heap.size=aF at*;generalize M.alloc (.cells #[Y l[k].o.id,.slice (j_ a) l[k].o.fs.length b] 56)=K at*;obtain⟨v0,v1⟩:=V.iA;obtain⟨bz,br⟩:=C.iA;have Nu:K.cell? (Z a (f.toNat*2))=some (.bool l[k].o.fs[f.toNat].r):=(n.f_ _).trans (be _ _ (j4 Vl.E (λ_=>rfl) l[k].o.fs f.toNat 0 aj X));have b5:=(n.f_ _).trans (be _ _ (j4 Vl.E (λ_=>rfl) l[k].o.fs f.toNat 1 aj X));have bt:=n.hG (f.toNat*2);have a7:=n.hG (f.toNat*2+1);go_upto_region 8 with fail;have Q:J [a] K ((K.setCell (Z a (f.toNat*2)) (.bool v.r)).setCell (Z a (f.toNat*2+1)) (Y v.n)):=((F_ [a] K).setCell (.inl H) _).setCell (.inl H) _;have aZ:Vs ((K.setCell (Z a (f.toNat*2)) (.bool v.r)).setCell (Z a (f.toNat*2+1)) (Y v.n)) (j_ a) (l[k].o.fs.set f.toNat v):=by
  unfold Vs;rw[Gl];exact pR Vl.E (λ_=>rfl) aj v (.bool v.r) (Y v.n) rfl n be _ rfl
 have d:=d.gr Q (zu (Bk.l8 d n I));have j:=j.gr Q (zu (Bk.l8 j n I));have C:=C.gr Q (zu (Bk.l8 C n I));have m:=m.gr Q (zu ak);have ah:=bQ.hI Q (by intro x U;right;simp at U;omega);have bg:=T.hF ah;generalize (K.setCell (Z a (f.toNat*2)) (.bool v.r)).setCell (Z a (f.toNat*2+1)) (Y v.n)=F at*;have m0:=j.f_ 0;obtain⟨bz,br⟩:=C.iA;have Nu:F.cell? (Z i (k*2))=some (Y l[k].o.id):=(m.f_ _).trans (bf _ _ (j4 Rw.E (λ_=>rfl) l k 0 P X));have b5:=(m.f_ _).trans (bf _ _ (j4 Rw.E (λ_=>rfl) l k 1 P X));have bt:=m.hG (k*2);have a7:=m.hG (k*2+1);go_upto_region 9 with fail;have S:J [i] F ((F.setCell (Z i (k*2)) (Y l[k].o.id)).setCell (Z i (k*2+1)) (.slice (j_ a) l[k].o.fs.length b)):=((F_ [i] F).setCell (.inl H) _).setCell (.inl H) _;have ag:Os ((F.setCell (Z i (k*2)) (Y l[k].o.id)).setCell (Z i (k*2+1)) (.slice (j_ a) l[k].o.fs.length b)) (j_ i) (l.set k ⟨⟨l[k].o.id,l[k].o.fs.set f.toNat v⟩,some (Z a 0),b⟩):=by
  unfold Os;rw[Gl];exact pR Rw.E (λ_=>rfl) P ⟨⟨l[k].o.id,l[k].o.fs.set f.toNat v⟩,some (Z a 0),b⟩ _ _ (by simp[Rw.E]) m bf _ rfl
 have d:=d.gr S (zu (Bk.l8 d m I));have j:=j.gr S (zu (Bk.l8 j m I));have bE:=Sl.iq aZ m I S;have bh:=ah.hI S (by intro x U;right;simp at U;omega);have aq:=bg.iq m I S;generalize (F.setCell (Z i (k*2)) (Y l[k].o.id)).setCell (Z i (k*2+1)) (.slice (j_ a) l[k].o.fs.length b)=bq at*;have m0:=j.f_ 0;have n0:=d.f_ 0;have bt:=d.hG 0;go_wp2;have q:=d.hU 0 (.slice (j_ i) l.length c3);have bi:=(F_ [w.heap.size+2] bq).setCell (p:=(Z (w.heap.size+2) 0)) (.inl H) (.slice (j_ i) l.length c3);have hls:(l.set k ⟨⟨l[k].o.id,l[k].o.fs.set f.toNat v⟩,some (Z a 0),b⟩).length=l.length:=Gl;refine lW #[.slice (j_ i) l.length c3] (.bool true) q underlying35 ⟨some (Z i 0),c3,l.set k ⟨⟨l[k].o.id,l[k].o.fs.set f.toNat v⟩,some (Z a 0),b⟩,by rw[hls],by rw[hls];exact b8,?_,?_,?_,?_⟩;exact Sl.iq ag d I bi;refine(aq.hU (r:=⟨⟨l[k].o.id,l[k].o.fs.set f.toNat v⟩,some (Z a 0),b⟩) bE (zu aX)).iq d I bi;rw[sw,bV.out];exact bh.hI bi (by intro x U;right;simp at U;omega)
def j7{n:Int}:Calls prog 196 #[Y n] w λe w'=>e=.returned (.agg #[.bool false,Y n])/\J [] w w':=by
 go_enter func196,ntmps196;go_wp2;exact Gu (Hb rfl _ _ _ _ _ _ _ rfl (P_ w 38 #[.bool false,Y n]) underlying38 rfl k_) rfl ⟨rfl,(F_ _ _).alloc _⟩
def qQ{b:Bool}:Calls prog 195 #[.bool b] w λe w'=>e=.returned (.agg #[.bool false,Y (if b=true then 1 else 0)])/\J [] w w':=by
 cases b
 all_goals
  go_enter func195,ntmps195;go_wp2_with (go_at_call 196;refine(j7).mono ?_;rintro e j⟨rfl,c⟩;have a:=CX (p:=w.heap.size) c rfl;obtain⟨d,f⟩:=a.iA;have C:=a.hG 0;have i:=a.hG 1);refine Gu (Hb rfl _ _ _ _ _ _ _ rfl ((a.hU 0 _).hU 1 _) underlying38 rfl k_) rfl ⟨rfl,?_⟩;exact((((F_ _ _).alloc _).trans c).setCell (.inr H) _).setCell (.inr H) _
def sQ(v:Vl):Calls prog 166 #[.agg (V_ v)] w λe w'=>e=.returned (.bool (v.n !=0))/\J [] w w':=by
 go_enter func166,ntmps166;go_wp2;go_ret;exact⟨rfl,(F_ _ _).alloc _⟩
def rB(op:Int):Bool:=decide (op=1∨(3<=op/\op<=9/\op≠4))
def uQ(a:Int)(w:World):Calls prog 179 #[Y a] w λe w'=>e=.returned (.bool (rB a))/\w=w':=by
 have HA:=O (show rB a=decide (a=1∨(3<=a/\a<=9/\a≠4)) from rfl);by_cases c:a=1
 .subst c;go_enter func179,ntmps179;go_wp2;go_ret;exact⟨rfl,by trivial⟩
 have j:(a==1)=false:=zu c;by_cases f:3<=a
 .by_cases d:a<=9
  .by_cases b:a=4
   .subst b;go_enter func179,ntmps179;go_wp2;go_ret;exact⟨rfl,by trivial⟩
   have i:(a !=4)=true:=zu b;clear c;go_enter func179,ntmps179;go_wp2;go_ret;exact⟨iG (by rw[HA.out];symm;rw[He];exact .inr ⟨f,d,b⟩),by trivial⟩
  exact LQ
 exact LQ
def Aj(x y:Vl)(w:World):(binOp .eql 38 (.agg (V_ x)) (.agg (V_ y))).run prog w=.ok (.bool (decide (x=y))) w:=by
 obtain⟨c,b⟩:=x;obtain⟨d,f⟩:=y;go_simp;by_cases a:c=d;by_cases i:b=f<;>simp[a,i];simp[a]
def pQ(op x y:Int):Vl × Int:=
 if op=1 then(⟨false,wrap64 (x+y)⟩,0) else if op=2 then(⟨false,wrap64 (x-y)⟩,0) else if op=3 then(⟨false,wrap64 (x*y)⟩,0)
 else if op=4 then(if y=0 then(⟨false,0⟩, -3) else if y= -1 then(⟨false,wrap64 (-x)⟩,0) else(⟨false,wrap64 (x.tdiv y)⟩,0))
 else if op=5 then(⟨false,if y<x then y else x⟩,0) else if op=6 then(⟨false,if x<y then y else x⟩,0)
 else if op=7 then(⟨false,bits .and .i64 x y⟩,0) else if op=8 then(⟨false,bits .or .i64 x y⟩,0) else if op=9 then(⟨false,bits .xor .i64 x y⟩,0)
 else(⟨false,if x<y then 1 else 0⟩,0)
def iI(op:Int)(a b:Vl):Vl × Int:=
 if op=11 then(⟨false,if a=b then 1 else 0⟩,0) else if op<1∨11<op∨a.r=true∨b.r=true then(⟨false,0⟩, -2) else pQ op a.n b.n
def qs(r:Vl × Int)(e:Ending):Prop:=e=.returned (.tuple #[.agg #[.bool r.1.r,Y r.1.n],Y r.2])
def zQ(f:Int)(j b:Vl)(w:World)(o:j.r=false)(r:b.r=false)(A:1<=f)(D:f<=10):
 Calls prog 164 #[Y f,.agg #[.bool j.r,Y j.n],.agg #[.bool b.r,Y b.n]] w λe w'=>qs (pQ f j.n b.n) e/\J [] w w':=by
 obtain⟨-,-,-,Nv⟩:=w6 w 38 #[.bool j.r,Y j.n] 38 #[.bool b.r,Y b.n] 38 #[.bool false,Y 0];have B:Bk (((w.alloc (.cells #[.bool j.r,Y j.n] 38)).alloc (.cells #[.bool b.r,Y b.n] 38)).alloc (.cells #[.bool false,Y 0] 38)) (w.heap.size+2) 38 #[.bool false,Y 0]:=zu (P_ ((w.alloc (.cells #[.bool j.r,Y j.n] 38)).alloc (.cells #[.bool b.r,Y b.n] 38)) 38 #[.bool false,Y 0]);obtain⟨z,x⟩:=j;obtain⟨E,y⟩:=b;simp only at o r;subst o;subst r;simp only at Nv B |-;have s:f=1∨f=2∨f=3∨f=4∨f=5∨f=6∨f=7∨f=8∨f=9∨f=10:=X
 rcases s with rfl|rfl|rfl|rfl|rfl|rfl|rfl|rfl|rfl|rfl
 .have av:=O (show pQ 1 x y=((⟨false,wrap64 (x+y)⟩:Vl),(0:Int)) by simp[pQ]);go_enter func164,ntmps164;go_wp2_with fail;go_quiet (fail);go_wp2_with fail;go_at_call 196;refine(j7).mono ?_;rintro e i⟨rfl,Np⟩;have hB:=(B.drewN nq).hF Np;obtain⟨a,c⟩:=hB.iA;have C:=hB.hG 0;have d:=hB.hG 1;go_wp2;refine Gu (v:=.tuple #[.agg #[.bool false,Y (wrap64 (x+y))],Y 0]) (iE (p:=6) (u:=7) rfl rfl ((hB.hU 0 (.bool false)).hU 1 (Y (wrap64 (x+y)))) underlying38 rfl k_) rfl ⟨by unfold qs;rw[av.out],?_⟩;exact MK
 .have av:=O (show pQ 2 x y=((⟨false,wrap64 (x-y)⟩:Vl),(0:Int)) by simp[pQ]);go_enter func164,ntmps164;go_wp2_with fail;go_quiet (fail);go_wp2_with fail;go_at_call 196;refine(j7).mono ?_;rintro e i⟨rfl,Np⟩;have hB:=(B.drewN nq).hF Np;obtain⟨a,c⟩:=hB.iA;have C:=hB.hG 0;have d:=hB.hG 1;go_wp2;refine Gu (v:=.tuple #[.agg #[.bool false,Y (wrap64 (x-y))],Y 0]) (iE (p:=6) (u:=7) rfl rfl ((hB.hU 0 (.bool false)).hU 1 (Y (wrap64 (x-y)))) underlying38 rfl k_) rfl ⟨by unfold qs;rw[av.out],?_⟩;exact MK
 .have av:=O (show pQ 3 x y=((⟨false,wrap64 (x*y)⟩:Vl),(0:Int)) by simp[pQ]);go_enter func164,ntmps164;go_wp2_with fail;go_quiet (fail);go_wp2_with fail;go_at_call 196;refine(j7).mono ?_;rintro e i⟨rfl,Np⟩;have hB:=(B.drewN nq).hF Np;obtain⟨a,c⟩:=hB.iA;have C:=hB.hG 0;have d:=hB.hG 1;go_wp2;refine Gu (v:=.tuple #[.agg #[.bool false,Y (wrap64 (x*y))],Y 0]) (iE (p:=6) (u:=7) rfl rfl ((hB.hU 0 (.bool false)).hU 1 (Y (wrap64 (x*y)))) underlying38 rfl k_) rfl ⟨by unfold qs;rw[av.out],?_⟩;exact MK
 .by_cases n:y=0
  .subst n;have av:=O (show pQ 4 x 0=((⟨false,0⟩:Vl),((-3):Int)) by simp[pQ]);go_enter func164,ntmps164;go_wp2_with fail;go_quiet (fail);have hB:=B.drewN nq;obtain⟨a,c⟩:=hB.iA;have C:=hB.hG 0;have d:=hB.hG 1;go_wp2;refine lW #[.bool false,Y (0)] (Y (-3)) ((hB.hU 0 (.bool false)).hU 1 (Y (0))) underlying38 ⟨by unfold qs;rw[av.out],?_⟩;exact((Nv.drewN nq).setCell (.inr p_) _).setCell (.inr p_) _
  have g:(y==0)=false:=zu n;by_cases m:y= -1
  .subst m;have av:=O (show pQ 4 x (-1)=((⟨false,wrap64 (-x)⟩:Vl),(0:Int)) by simp[pQ]);go_enter func164,ntmps164;go_wp2_with fail;go_quiet (fail);go_wp2_with fail;go_at_call 196;refine(j7).mono ?_;rintro e i⟨rfl,Np⟩;have hB:=(B.drewN nq).hF Np;obtain⟨a,c⟩:=hB.iA;have C:=hB.hG 0;have d:=hB.hG 1;go_wp2;refine Gu (v:=.tuple #[.agg #[.bool false,Y (wrap64 (-x))],Y 0]) (iE (p:=6) (u:=7) rfl rfl ((hB.hU 0 (.bool false)).hU 1 (Y (wrap64 (-x)))) underlying38 rfl k_) rfl ⟨by unfold qs;rw[av.out],?_⟩;exact MK
  have av:=O (show pQ 4 x y=((⟨false,wrap64 (x.tdiv y)⟩:Vl),(0:Int)) by simp[pQ,n,m]);have t:(y== -1)=false:=zu m;clear m;go_enter func164,ntmps164;go_wp2_with fail;go_quiet (fail);go_wp2_with fail;go_at_call 196;refine(j7).mono ?_;rintro e i⟨rfl,Np⟩;have hB:=(B.drewN nq).hF Np;obtain⟨a,c⟩:=hB.iA;have C:=hB.hG 0;have d:=hB.hG 1;go_wp2;refine Gu (v:=.tuple #[.agg #[.bool false,Y (wrap64 (x.tdiv y))],Y 0]) (iE (p:=6) (u:=7) rfl rfl ((hB.hU 0 (.bool false)).hU 1 (Y (wrap64 (x.tdiv y)))) underlying38 rfl k_) rfl ⟨by unfold qs;rw[av.out],?_⟩;exact MK
 .by_cases l:y<x
  .have av:=O (show pQ 5 x y=((⟨false,y⟩:Vl),(0:Int)) by simp[pQ,l]);go_enter func164,ntmps164;go_wp2_with fail;go_quiet (fail);go_wp2_with fail;go_at_call 196;refine(j7).mono ?_;rintro e i⟨rfl,Np⟩;have hB:=(B.drewN nq).hF Np;obtain⟨a,c⟩:=hB.iA;have C:=hB.hG 0;have d:=hB.hG 1;go_wp2;(try rw[show min x y=y from X]);exact Kf
  have av:=O (show pQ 5 x y=((⟨false,x⟩:Vl),(0:Int)) by simp[pQ,l]);go_enter func164,ntmps164;go_wp2_with fail;go_quiet (fail);go_wp2_with fail;go_at_call 196;refine(j7).mono ?_;rintro e i⟨rfl,Np⟩;have hB:=(B.drewN nq).hF Np;obtain⟨a,c⟩:=hB.iA;have C:=hB.hG 0;have d:=hB.hG 1;go_wp2;(try rw[show min x y=x from X]);exact Kg
 .by_cases l:x<y
  .have av:=O (show pQ 6 x y=((⟨false,y⟩:Vl),(0:Int)) by simp[pQ,l]);go_enter func164,ntmps164;go_wp2_with fail;go_quiet (fail);go_wp2_with fail;go_at_call 196;refine(j7).mono ?_;rintro e i⟨rfl,Np⟩;have hB:=(B.drewN nq).hF Np;obtain⟨a,c⟩:=hB.iA;have C:=hB.hG 0;have d:=hB.hG 1;go_wp2;(try rw[show max x y=y from X]);exact Kf
  have av:=O (show pQ 6 x y=((⟨false,x⟩:Vl),(0:Int)) by simp[pQ,l]);go_enter func164,ntmps164;go_wp2_with fail;go_quiet (fail);go_wp2_with fail;go_at_call 196;refine(j7).mono ?_;rintro e i⟨rfl,Np⟩;have hB:=(B.drewN nq).hF Np;obtain⟨a,c⟩:=hB.iA;have C:=hB.hG 0;have d:=hB.hG 1;go_wp2;(try rw[show max x y=x from X]);exact Kg
 .have av:=O (show pQ 7 x y=((⟨false,bits .and .i64 x y⟩:Vl),(0:Int)) by simp[pQ]);go_enter func164,ntmps164;go_wp2_with fail;go_quiet (fail);go_wp2_with fail;go_at_call 196;refine(j7).mono ?_;rintro e i⟨rfl,Np⟩;have hB:=(B.drewN nq).hF Np;obtain⟨a,c⟩:=hB.iA;have C:=hB.hG 0;have d:=hB.hG 1;go_wp2;refine lW #[.bool false,Y (bits .and .i64 x y)] (Y 0) ((hB.hU 0 (.bool false)).hU 1 (Y (bits .and .i64 x y))) underlying38 ⟨by unfold qs;rw[av.out],?_⟩;exact MK
 .have av:=O (show pQ 8 x y=((⟨false,bits .or .i64 x y⟩:Vl),(0:Int)) by simp[pQ]);go_enter func164,ntmps164;go_wp2_with fail;go_quiet (fail);go_wp2_with fail;go_at_call 196;refine(j7).mono ?_;rintro e i⟨rfl,Np⟩;have hB:=(B.drewN nq).hF Np;obtain⟨a,c⟩:=hB.iA;have C:=hB.hG 0;have d:=hB.hG 1;go_wp2;refine lW #[.bool false,Y (bits .or .i64 x y)] (Y 0) ((hB.hU 0 (.bool false)).hU 1 (Y (bits .or .i64 x y))) underlying38 ⟨by unfold qs;rw[av.out],?_⟩;exact MK
 .have av:=O (show pQ 9 x y=((⟨false,bits .xor .i64 x y⟩:Vl),(0:Int)) by simp[pQ]);go_enter func164,ntmps164;go_wp2_with fail;go_quiet (fail);go_wp2_with fail;go_at_call 196;refine(j7).mono ?_;rintro e i⟨rfl,Np⟩;have hB:=(B.drewN nq).hF Np;obtain⟨a,c⟩:=hB.iA;have C:=hB.hG 0;have d:=hB.hG 1;go_wp2;refine lW #[.bool false,Y (bits .xor .i64 x y)] (Y 0) ((hB.hU 0 (.bool false)).hU 1 (Y (bits .xor .i64 x y))) underlying38 ⟨by unfold qs;rw[av.out],?_⟩;exact MK
 by_cases l:x<y
 .have av:=O (show pQ 10 x y=((⟨false,1⟩:Vl),(0:Int)) by simp[pQ,l]);go_enter func164,ntmps164;go_wp2_with fail;go_quiet (fail);go_wp2_with fail;go_at_call 195;refine(qQ).mono ?_;rintro e i⟨rfl,Np⟩;have hB:=(B.drewN nq).hF Np;obtain⟨a,c⟩:=hB.iA;have C:=hB.hG 0;have d:=hB.hG 1;go_wp2;refine lW #[.bool false,Y (1)] (Y 0) ((hB.hU 0 (.bool false)).hU 1 (Y (1))) underlying38 ⟨by unfold qs;rw[av.out],?_⟩;exact MK
 have av:=O (show pQ 10 x y=((⟨false,0⟩:Vl),(0:Int)) by simp[pQ,l]);go_enter func164,ntmps164;go_wp2_with fail;go_quiet (fail);go_wp2_with fail;go_at_call 195;refine(qQ).mono ?_;rintro e i⟨rfl,Np⟩;have hB:=(B.drewN nq).hF Np;obtain⟨a,c⟩:=hB.iA;have C:=hB.hG 0;have d:=hB.hG 1;go_wp2;refine lW #[.bool false,Y (0)] (Y 0) ((hB.hU 0 (.bool false)).hU 1 (Y (0))) underlying38 ⟨by unfold qs;rw[av.out],?_⟩;exact MK
def mT(c:Int)(a b:Vl):
 Calls prog 164 #[Y c,.agg #[.bool a.r,Y a.n],.agg #[.bool b.r,Y b.n]] w λe w'=>qs (iI c a b) e/\J [] w w':=by
 obtain⟨-,-,-,Nv⟩:=w6 w 38 #[.bool a.r,Y a.n] 38 #[.bool b.r,Y b.n] 38 #[.bool false,Y 0];have B:Bk (((w.alloc (.cells #[.bool a.r,Y a.n] 38)).alloc (.cells #[.bool b.r,Y b.n] 38)).alloc (.cells #[.bool false,Y 0] 38)) (w.heap.size+2) 38 #[.bool false,Y 0]:=zu (P_ ((w.alloc (.cells #[.bool a.r,Y a.n] 38)).alloc (.cells #[.bool b.r,Y b.n] 38)) 38 #[.bool false,Y 0]);by_cases A:c=11
 .subst A;by_cases f:a=b
  .have av:=O (show iI 11 a b=((⟨false,1⟩:Vl),(0:Int)) by simp[iI,f]);have l:=λj=>(Aj a b j).trans (show _=Result.ok (Value.bool true) j by rw[Gv f]);clear f;go_enter func164,ntmps164;go_wp2_with fail;go_wp2_with fail;go_at_call 195;refine(qQ).mono ?_;rintro e m⟨rfl,i⟩;have hB:=(B).hF i;obtain⟨U,ah⟩:=hB.iA;have C:=hB.hG 0;have d:=hB.hG 1;go_wp2;refine lW #[.bool false,Y (1)] (Y 0) ((hB.hU 0 (.bool false)).hU 1 (Y (1))) underlying38 ⟨by unfold qs;rw[av.out],?_⟩;exact(((Nv.trans i)).setCell (.inr p_) _).setCell (.inr p_) _
  have av:=O (show iI 11 a b=((⟨false,0⟩:Vl),(0:Int)) by simp[iI,f]);have l:=λj=>(Aj a b j).trans (show _=Result.ok (Value.bool false) j by rw[G6 f]);clear f;go_enter func164,ntmps164;go_wp2_with fail;go_wp2_with fail;go_at_call 195;refine(qQ).mono ?_;rintro e m⟨rfl,i⟩;have hB:=(B).hF i;obtain⟨U,ah⟩:=hB.iA;have C:=hB.hG 0;have d:=hB.hG 1;go_wp2;refine lW #[.bool false,Y (0)] (Y 0) ((hB.hU 0 (.bool false)).hU 1 (Y (0))) underlying38 ⟨by unfold qs;rw[av.out],?_⟩;exact(((Nv.trans i)).setCell (.inr p_) _).setCell (.inr p_) _
 have m:(c==11)=false:=zu A;by_cases j:c<1;have av:=O (show iI c a b=((⟨false,0⟩:Vl),(-2:Int)) by unfold iI;rw[T_ A,U_ (.inl j)]);exact J3;by_cases l:11<c
 .have av:=O (show iI c a b=((⟨false,0⟩:Vl),(-2:Int)) by unfold iI;rw[T_ A,U_ (.inr (.inl l))]);exact J3
 cases f:a.r with
 |true=>
  have av:=O (show iI c a b=((⟨false,0⟩:Vl),(-2:Int)) by unfold iI;rw[T_ A,U_ (.inr (.inr (.inl f)))]);clear A;rw[f]at B Nv;exact J4
 |false=>
  cases i:b.r with
  |true=>
   have av:=O (show iI c a b=((⟨false,0⟩:Vl),(-2:Int)) by unfold iI;rw[T_ A,U_ (.inr (.inr (.inr i)))]);clear A;rw[f,i]at B Nv;exact J4
  |false=>
   have av:=O (show iI c a b=pQ c a.n b.n by unfold iI;rw[T_ A,T_ (by rw[f,i];simp;omega)]);have:=zQ c a b w f i X X;rw[f,i]at this;exact this.mono λe w' h=>⟨by rw[av.out];exact h.1,h.2⟩
structure In where
 op:Int
 a:Int
 b:Int
 c:Int
 n:Int
 deriving DecidableEq,Inhabited
abbrev QS:=List In
def In.E(i:In):List Value:=[Y i.op,Y i.a,Y i.b,Y i.c,Y i.n]
def l3(l:QS):List Value:=l.flatMap In.E
def ue(a b:QS):l3 (a++b)=l3 a++l3 b:=by simp[l3]
def xP{l:QS}:∀u∈l3 l,u.oneCell'=true:=by
 intro u b;obtain⟨c,_,a⟩:=HT.1 b;simp[In.E]at a;rcases a with rfl|rfl|rfl|rfl|rfl<;>rfl
def Is(w:World)(A:OA)(l:QS):Prop:=Sl w 189 5 A l.length (l3 l)
def Is.hF{A:OA}{l:QS}(h:Is w A l)(a:J [] w w'):Is w' A l:=Sl.hF h a
def Is.at_{A:OA}{l:QS}(h:Is w A l)(f:k<l.length):
 ∃b off,A=some (Z b off)/\w.cell? (Z b (off+k*5))=some (Y l[k].op)/\w.cell? (Z b (off+k*5+1))=some (Y l[k].a)/\w.cell? (Z b (off+k*5+2))=some (Y l[k].b)/\w.cell? (Z b (off+k*5+3))=some (Y l[k].c)/\w.cell? (Z b (off+k*5+4))=some (Y l[k].n):=by
 obtain⟨b,off,hA,hc⟩:=Sl.f_ h X;have g:=λi d=>ja In.E 5 (λ_=>rfl) l k i f d;exact La
def iB(l:QS)(pc:Int):Int:=if pc<0∨(l.length:Int)<=pc then -1 else(l.getD pc.toNat default).op
def qn(A:OA)(c:Nat)(l:QS)(hH hC pc:Int)(h:Is w A l)(n:l.length<=1000000000):
 Calls prog 133 #[.agg #[.slice A l.length c,Y hH,Y hC],Y pc] w λe w'=>e=.returned (Y (iB l pc))/\J [] w w':=by
 have G:=O (show iB l pc=if pc<0∨(l.length:Int)<=pc then -1 else(l.getD pc.toNat default).op from rfl);have a:=(F_ [] w).alloc (.cells #[.slice A l.length c,Y hH,Y hC] 26);by_cases d:pc<0
 .go_enter func133,ntmps133;go_wp2;go_ret;exact⟨kh (by rw[G.out,U_ (.inl d)]),a⟩
 by_cases f:(l.length:Int)<=pc
 .go_enter func133,ntmps133;go_wp2;go_ret;exact⟨kh (by rw[G.out,U_ (.inr f)]),a⟩
 have b:pc.toNat<l.length:=X;obtain⟨k,rfl⟩:∃k:Nat,pc=k:=⟨pc.toNat,(Hd X).symm⟩;rw[GZ]at b;obtain⟨j,o,rfl,m,_,_,_,_⟩:=(h.hF a).at_ b;have i:(k:Int)<(l.length:Int):=X;go_enter func133,ntmps133;go_wp2;go_ret;exact⟨kh (by rw[G.out,T_ X,GZ,List.getD,K_ b];rfl),a⟩
def mr(n:Int)(u:Bool):Bool:=n==0||(u&&(decide (0<n)&&decide (n<16)))
def vg{n:Int}{u:Bool}:Calls prog 178 #[Y n,.bool u] w λe w'=>e=.returned (.bool (mr n u))/\w=w':=by
 have a:=O (show mr n u=(n==0||(u&&(decide (0<n)&&decide (n<16)))) from rfl);by_cases d:n=0
 .subst d;go_enter func178,ntmps178;go_wp2;go_ret;exact⟨iG (by rw[a.out];rfl),by trivial⟩
 have b:(n==0)=false:=zu d;cases u with
 |false=>
  go_enter func178,ntmps178;go_wp2;go_ret;exact⟨iG (by rw[a.out,b];rfl),by trivial⟩
 |true=>
  by_cases c:0<n
  .by_cases f:n<16
   .go_enter func178,ntmps178;go_wp2;go_ret;exact⟨iG (by rw[a.out,b,Gv c,Gv f];rfl),by trivial⟩
   have i:decide (n<16)=false:=zu f;go_enter func178,ntmps178;go_wp2;go_ret;exact⟨iG (by rw[a.out,b,Gv c,i];rfl),by trivial⟩
  have f:decide (0<n)=false:=zu c;go_enter func178,ntmps178;go_wp2;go_ret;exact⟨iG (by rw[a.out,b,f];rfl),by trivial⟩
def pE(op:Int):Bool:=decide (1<=op/\op<=11)
def zt:Calls prog 208 #[] w λe w'=>∃(g:Nat) (cs:Array Value),e=.returned (.slice (j_ g) 12 12)/\Bk w' g 9 cs/\(∀k,k<12->∃s,cs[k]?=some (.string s))/\J [] w w':=by
 go_enter func208,ntmps208;go_wp2;go_ret;refine⟨w.heap.size,_,rfl,P_ w _ _,λk b=>?_,(F_ _ _).alloc _⟩;have a:k=0∨k=1∨k=2∨k=3∨k=4∨k=5∨k=6∨k=7∨k=8∨k=9∨k=10∨k=11:=X;rcases a with rfl|rfl|rfl|rfl|rfl|rfl|rfl|rfl|rfl|rfl|rfl|rfl<;>exact⟨_,rfl⟩
def F6(b:Bool)(e:Ending):Prop:=∃s:ByteArray,e=.returned (.tuple #[.string s,.bool b])
def qM(op:Int):Calls prog 180 #[Y op] w λe w'=>F6 (pE op) e/\J [] w w':=by
 have HB:=O (show pE op=decide (1<=op/\op<=11) from rfl);by_cases j:op<1;exact KO;by_cases l:11<op
 .exact KO
 have av:=O (show pE op=true by rw[HB.out];rw[He];omega);obtain⟨k,rfl⟩:∃k:Nat,op=k:=⟨op.toNat,(Hd X).symm⟩;have f:k<12:=X;have i:(k:Int)<12:=X;go_enter func180,ntmps180;go_wp2_with fail;go_at_call 208;refine(zt).mono ?_;rintro e o⟨g,cs,rfl,d,b,c⟩;obtain⟨n,a⟩:=b k f;have m:=(d.f_ k).trans a;clear b a;go_wp2
 go_ret2
 exact⟨by rw[av.out];exact⟨_,rfl⟩,c⟩
