import Derived.Test.YtenbhdilndfaeaaGreatM01
import Derived.Test.YtenbhdilndfaeaaGreatRows
import Derived.Deep.CutBlock
import Derived.Deep.DeepCutAuto
import Derived.Deep.RegionHeld3
import Derived.Deep.RegionWith
import Derived.Laws.ResultCell
import Derived.WalkArith
set_option maxRecDepth 100000
set_option maxHeartbeats 0
set_option linter.all false
namespace Go.Proofs.YtenbhdilndfaeaaGreat
open Go.RowKit Go.Proofs.Tryz
variable{G:Prop}{w w':World}{B base g k len:Nat}{e:TypeId}{zs:List Int}{α:Type}{cs:Array Value}
def Jc(h:G:=by
 go_enter func148,ntmps148
 go_wp2_with fail
 go_at_call 55
 refine(pM A c l id (h.hF MZ) hn).mono ?_;rintro e w2⟨rfl,M0⟩;have P:=ae.gr M0 J;obtain⟨MV,MU⟩:=P.iC;have L:=P.hG 0;have C:=P.hG 1;exact J5):G:=h
def JK(h:G:=by
 clear A;exact JL):G:=h
def JL(h:G:=by
 go_enter func164,ntmps164
 go_wp2_with fail
 have hB:=B;obtain⟨MV,MU⟩:=hB.iC;have L:=hB.hG 0;have C:=hB.hG 1;go_wp2;refine lO #[.bool false,Y (0)] (Y (-2)) hB underlying38 ⟨by unfold qt;rw[az.out],?_⟩;exact MZ):G:=h
def JU(h:G:=by
 refine lO #[.bool false,Y (x)] (Y 0) ((hB.hV 0 (.bool false)).hV 1 (Y (x))) underlying38 ⟨by unfold qt;rw[az.out],?_⟩;exact Mj):G:=h
def JV(h:G:=by
 refine lO #[.bool false,Y (y)] (Y 0) ((hB.hV 0 (.bool false)).hV 1 (Y (y))) underlying38 ⟨by unfold qt;rw[az.out],?_⟩;exact Mj):G:=h
def J5(h:G:=by
 go_wp2;have d:=(P.hV 0 (.bool false)).hV 1 (Y 0);refine lO #[.bool false,Y 0] (.bool false) d underlying38 ⟨rfl,?_⟩;exact Mu):G:=h
def Ku(h:G:=by
 have az:=U (show pA op=false by rw[bi.out];rw[HC];omega)
 go_enter func180,ntmps180
 go_wp2
 go_ret2
 exact⟨by rw[az.out];exact⟨_,rfl⟩,H _ _⟩):G:=h
def KV(h:G:=by
 go_wp2_with fail
 go_quiet (fail)
 go_wp2;go_meet;exact⟨k,rfl,hk,.inr ⟨a2.out,by rw[z.out,bu.out];omega⟩,F.drewN _⟩):G:=h
def Lr(h:G:=by
 go_enter func179,ntmps179
 go_wp2;go_ret;exact⟨iH (by rw[HA.out];symm;rw[HC];omega),by trivial⟩):G:=h
def Me(h:G:=by
 exact((aV.gr [] w S.size K.drew).setCell (.inr p_) _).setCell (.inr p_) _):G:=h
def Mj(h:G:=by
 exact((((MZ.drewN nq).trans M0)).setCell (.inr p_) _).setCell (.inr p_) _):G:=h
def iQ(w:World)(B g:Nat):Prop:=∃(A:OA) (n c:Nat) (i:Nat) (zs:List Int),Bk w g 112 #[.slice A n c,Y i]/\i<=n/\n<=200/\n<=c/\
 (∃e,Sl w e 1 A n (zs.map (.int .u8)))/\(∀j,0<=zs.getD j 0/\zs.getD j 0<256)/\(0<n->∀b off,A=some (Z b off)->b≠g/\b<B)/\g<B
def iQ.iz(h:iQ w B g)(j:∀k,k<B->k<w.heap.size->w'.heap[k]?=w.heap[k]?):iQ w' B g:=by
 obtain⟨n,y,q,v,zs,f,s,t,p,⟨e,a⟩,o,c,d⟩:=h;refine⟨n,y,q,v,zs,(j g d f.lt).trans f,s,t,p,⟨e,a.1,λl=>?_⟩,o,c,d⟩;obtain⟨b,m,cs,r,i,hb,u⟩:=a.2 l;refine⟨b,m,cs,r,i,(j b (c l b m i).2 ?_).trans hb,u⟩;exact L5
def iQ.hF(h:iQ w B g)(a:I [] w w'):iQ w' B g:=h.iz λk _ b=>a.block k b J
def iQ.ih{M:List Nat}(h:iQ w B g)(a:I M w w')(d:∀x∈M,B<=x):iQ w' B g:=h.iz λk f b=>a.block k b (λc=>by have:=d k c;omega)
def iQ.app(h:iQ w B g)(b:App base e w w')(c:B<=base):iQ w' B g:=h.iz λk d a=>by
 rw[b.iz k w.heap[k] (FR a) (.inl X),FR a]
def iQ.lt(h:iQ w B g):g<w.heap.size:=by
 obtain⟨b,f,c,d,zs,a,_⟩:=h;exact a.lt
def iQ.xw(h:iQ w B g):g<B:=by
 obtain⟨a,d,b,c,zs,_,_,_,_,_,_,_,h⟩:=h;exact h
def iQ.bk(h:iQ w B g):∃cs,Bk w g 112 cs:=by
 obtain⟨b,f,c,d,zs,a,_⟩:=h;exact⟨_,a⟩
def iw(B g:Nat)(n:Int)(E:iQ w B g)(V:1<=n)(R:n<=1000000):
 Calls prog 19 #[q_ g,Y n] w λe w'=>∃r:Int,e=.returned (Y r)/\0<=r/\r<n/\iQ w' B g/\I [g] w w':=by
 obtain⟨l,k,i,a,zs,b,T,t,m,⟨q,c⟩,f,d,s⟩:=E;have P:w.cell? (Z g 0)=some (.slice l k i):=(b.f_ 0).trans rfl;have Q:w.cell? (Z g 1)=some (Y a):=(b.f_ 1).trans rfl;have M:=b.hG 1
 by_cases S:a<k
 .obtain⟨o,u,j,y⟩:=c.f_ X;have U:=(d X o u j).1;have N:=j;subst j
  have O:w.cell? (Z o (u+a))=some (.int .u8 (zs.getD a 0)):=y a _ (by
   have F:a<zs.length:=by have:=c.1;simp at this;omega
   simp[Gf,K_ F,List.getD])
  go_enter func19,ntmps19
  go_wp2_with fail
  go_quiet (fail)
  go_wp2;have A:IntKind.i64.wrap (a:Int)=(a:Int):=F5 _ X;have z:(a:Int)<(k:Int):=X;have C:(0:Int)<=(a:Int):=X
  go_quiet (fail)
  clear A z C;go_wp2;go_ret;have v:0<=zs[a]?.getD 0/\zs[a]?.getD 0<256:=f a;rw[IntWalk.wrap64_in _ X];refine⟨_,rfl,?_,?_,⟨_,k,i,a+1,zs,((b.drewN _).hV 1 _).drewN _,X,t,m,⟨q,?_⟩,f,λ_=>d X,s⟩,?_⟩
  .exact Int.tmod_nonneg _ v.1
  .exact Int.tmod_lt_of_pos _ X
  .refine Sl.drewN (c.iz λp L D K=>(((H [g] w).drewN _).setCell (.inl J) _).block p K ?_) _
   have:=(d X p L D).1
   exact MR
  .exact(((H _ w).drewN _).setCell (.inl J) _).drewN _
 .have j:a=k:=X;subst j
  go_enter func19,ntmps19
  go_wp2_with fail
  go_quiet (fail)
  go_wp2;go_ret;exact⟨0,rfl,X,X,⟨l,a,i,a,zs,b.drewN _,H_ _,t,m,⟨q,c⟩,f,d,s⟩,(H _ w).drewN _⟩
def Cx(A:OA)(n c:Nat)(zs:List Int)(l:TypeId)(h:Sl w l 1 A n (zs.map (.int .u8)))(t:∀i,0<=zs.getD i 0/\zs.getD i 0<256)(G:n<=c)(F:n<=9223372036854775807):
 Calls prog 54 #[.slice A n c] w λe w'=>∃g,e=.returned (q_ g)/\w.heap.size<=g/\iQ w' w'.heap.size g/\I [] w w':=by
 have j:0<n->∀a d,A=some (Z a d)->a<w.heap.size:=by
  intro s a d f;obtain⟨p,u,cs,q,b,m,_⟩:=h.2 s;rw[f]at b;injection b with b;injection b with b _;subst b
  rcases FW a w.heap.size with j|y
  .exact j
  .rw[Y_ y]at m
   cases m
 by_cases E:200<n
 .have j:=j X;obtain⟨p,u,b,_⟩:=h.f_ X;have D:=b;subst b
  have v:Sl w l 1 (some (Z p u)) 200 ((zs.take 200).map (.int .u8)):=by
   refine⟨by have:=h.1;simp at this |-;omega,λ_=>?_⟩;obtain⟨a,d,cs,q,f,m,z⟩:=h.2 X;refine⟨a,d,cs,q,f,m,λi C o=>z i C ?_⟩;rw[Gf,Gv]at o;split at o
   .rw[Gf];exact o
   .simp at o
  go_enter func54,ntmps54
  go_wp2;go_ret;refine⟨_,rfl,H_ _,⟨_,200,c,0,zs.take 200,P_ w _ _,X,X,X,⟨l,v.alloc _⟩,λi=>?_,λ_ a d f=>by have:=j a d f;simp;omega,J⟩,(H _ w).alloc _⟩
  by_cases r:i<200
  .simpa[Gv,r]using t i
  .simp[Gv,r]
 .go_enter func54,ntmps54
  go_wp2;go_ret;exact⟨_,rfl,H_ _,⟨A,n,c,0,zs,P_ w _ _,X,X,G,⟨l,h.alloc _⟩,t,λs a d f=>by have:=j X a d f;simp;omega,J⟩,(H _ w).alloc _⟩
def Ca(h:∀n∈zs,(Lit.int .u8 n).wf=true):∀a,0<=(zs.take len).getD a 0/\(zs.take len).getD a 0<256:=by
 intro a
 by_cases b:a<(zs.take len).length
 .have c:(zs.take len).getD a 0∈zs:=by
   simp only[List.getD,K_ b,GI];exact Gp (O_ b)
  have:=bounds_u8 (h _ c)
  omega
 .simp[List.getD,F2 (Nat.le_of_not_lt b)]
def vA{k:IntKind}{x:Addr}(r:len<=zs.length)(hc:∀i,i<zs.length->w.cell? (x.add i)=some (.int k (zs.getD i 0))):
 ∃e,Sl w e 1 (some x) len ((zs.take len).map (.int k)):=by
 by_cases n:len=0
 .subst n;exact⟨0,by simpa using Gw w 0 1 (some x)⟩
 .have a:=hc 0 X
  have m:x.add 0=x:=by simp[Addr.add]
  rw[m]at a;obtain⟨d,p,l⟩:=x;unfold World.cell? at a
  cases b:w.heap[d]? with
  |none=>rw[b]at a;simp at a
  |some o=>
   rw[b]at a
   cases o with
   |cells cs e f=>
    cases l with
    |some c=>simp at a
    |none=>
     refine⟨e,p_,λ_=>⟨d,p,cs,f,rfl,b,λj s c=>?_⟩⟩;rw[Gf,Gv]at c;split at c
     .rename_i q
      have:=hc j X
      rw[nS,cell_of_row w d _ cs e f b]at this;rw[this,<-c];simp[List.getD,K_ (show j<zs.length by omega)]
     .simp at c
   |_=>simp at a
structure Vl where
 r:Bool
 n:Int
 deriving DecidableEq,Inhabited
structure Ob where
 id:Int
 fs:List Vl
 deriving DecidableEq,Inhabited
abbrev V_(x:Vl):Array Value:=#[.bool x.r,Y x.n]
def Vl.E(v:Vl):List Value:=[.bool v.r,Y v.n]
def iO(l:List Vl):List Value:=l.flatMap Vl.E
def jl(h:List Ob)(id:Int):Option Ob:=h.find? λo=>o.id==id
def place(a:List Ob)(id:Int):Int:=iE (λo:Ob=>o.id==id) a 0+1
def Ec(h a:List Ob)(v:Vl):List Ob:=
 if v.r=false∨0<place a v.n then a else match jl h v.n with|some o=>a++[o]|none=>a
def look(h a:List Ob)(l:List Vl):List Ob:=l.foldl (Ec h) a
def qP{h:List Ob}{id:Int}{o:Ob}(a:jl h id=some o):o.id=id:=by
 have:=List.find?_some a
 exact MR
def nN{h:List Ob}{id:Int}{o:Ob}(a:jl h id=some o):o∈h:=List.mem_of_find?_eq_some a
def oW{c:Type}(f:α->c){p:c->Bool}(q:α->Bool)(l:List α)(k:Nat)(h:∀a∈l,p (f a)=q a):iE p (l.map f) k=iE q l k:=by
 induction l generalizing k with
 |nil=>rfl
 |cons a l b=>simp only[Gm,iE];rw[h a J,b (k+1) λd i=>h d (by simp[i])]
section
variable{h x:List Ob}{roots:List Vl}{ro:Ob->Ob}{rv:Vl->Vl}
end
def jr(h:List Ob)(id:Int):Int:=iE (λo:Ob=>o.id==id) h 0
def m_:List Ob->Int->Nat
 |[],_=>0
 |o::l,id=>if o.id<id then m_ l id+1 else 0
def lv(h:List Ob)(o:Ob):List Ob:=
 if jr h o.id<0 then h.take (m_ h o.id)++[o]++h.drop (m_ h o.id) else h.take (jr h o.id).toNat++[o]++h.drop ((jr h o.id).toNat+1)
def infoVl:(prog.info? 38).map (λi=>(i.zero,i.size,i.bytes))=some (some (.agg #[.bool false,Y 0]),2,16):=by kernel_rfl
def infoOb:(prog.info? 56).map (λi=>(i.zero,i.size,i.bytes))=some (some (.agg #[Y 0,n_]),2,32):=by kernel_rfl
def vQ(f:α->List Value)(c:∀b,(f b).length=2)(l:List α):(l.flatMap f).length=l.length*2:=by
 induction l with
 |nil=>rfl
 |cons x l a=>simp only[Ga,J_,c,a,FK];omega
def j0(f:α->List Value)(b:∀i,(f i).length=2)(l:List α)(k a:Nat)(c:k<l.length)(j:a<2):(l.flatMap f)[k*2+a]?=(f l[k])[a]?:=by
 induction l generalizing k with
 |nil=>simp at c
 |cons x l d=>
  cases k with
  |zero=>simp only[Ga,HB,W_,GG];rw[GH (by rw[b];exact j)]
  |succ k=>
   simp only[Ga,Hr];rw[GT (by rw[b];omega),b,show(k+1)*2+a-2=k*2+a by omega];exact d k (zu c)
structure Rw where
 o:Ob
 A:Option Addr
 c:Nat
def Rw.E(r:Rw):List Value:=[Y r.o.id,.slice r.A r.o.fs.length r.c]
def iV(l:List Rw):List Value:=l.flatMap Rw.E
def hX(l:List Rw):List Ob:=l.map Rw.o
def lU(l:List Vl):(iO l).length=l.length*2:=vQ Vl.E (λ_=>rfl) l
def ln(l:List Rw):(iV l).length=l.length*2:=vQ Rw.E (λ_=>rfl) l
def p4(a b:List Vl):iO (a++b)=iO a++iO b:=by simp[iO]
def lP(a b:List Rw):iV (a++b)=iV a++iV b:=by simp[iV]
def nD(l:List Vl):∀u∈iO l,u.oneCell'=true:=by
 intro u b;obtain⟨c,_,a⟩:=G3.1 b;simp[Vl.E]at a
 rcases a with rfl|rfl<;>rfl
def jT(l:List Rw):∀u∈iV l,u.oneCell'=true:=by
 intro u b;obtain⟨c,_,a⟩:=G3.1 b;simp[Rw.E]at a
 rcases a with rfl|rfl<;>rfl
def mQ(n:Int):Prop:=(Lit.int .i64 n).wf=true
def Vs(w:World)(A:OA)(l:List Vl):Prop:=Sl w 38 2 A l.length (iO l)
def l5(w:World)(l:List Rw):Prop:=∀r∈l,Vs w r.A r.o.fs/\r.o.fs.length<=1000000000
def Os(w:World)(A:OA)(l:List Rw):Prop:=Sl w 56 2 A l.length (iV l)
def Vs.hF{A:OA}{l:List Vl}(h:Vs w A l)(a:I [] w w'):Vs w' A l:=Sl.hF h a
def Os.hF{A:OA}{l:List Rw}(h:Os w A l)(a:I [] w w'):Os w' A l:=Sl.hF h a
def l5.hF{l:List Rw}(h:l5 w l)(c:I [] w w'):l5 w' l:=λb a=>⟨(h b a).1.hF c,(h b a).2⟩
def Vs.alloc{A:OA}{l:List Vl}(h:Vs w A l)(o:Obj):Vs (w.alloc o) A l:=Sl.alloc h o
def Vs.at_{A:OA}{l:List Vl}(h:Vs w A l)(hk:k<l.length):
 ∃b off,A=some (Z b off)/\w.cell? (Z b (off+k*2))=some (.bool l[k].r)/\w.cell? (Z b (off+k*2+1))=some (Y l[k].n):=by
 exact Kr
def Os.at_{A:OA}{l:List Rw}(h:Os w A l)(hk:k<l.length):
 ∃b off,A=some (Z b off)/\w.cell? (Z b (off+k*2))=some (Y l[k].o.id)/\w.cell? (Z b (off+k*2+1))=some (.slice l[k].A l[k].o.fs.length l[k].c):=by
 exact Kt
def BJ{r:Rw}(h:Bk w g 56 #[Y r.o.id,.slice r.A r.o.fs.length r.c]):Os w (j_ g) [r]:=
 ⟨rfl,λ_=>⟨g,0,_,_,rfl,h,λb c a=>by
   have:b<2:=by
    rcases FW b 2 with h|h
    .exact h
    .rw[F2 (by simpa[iV,Rw.E]using h)]at a
     cases a
   rcases b with _|_|b
   .simpa[iV,Rw.E]using a
   .simpa[iV,Rw.E]using a
   .omega⟩⟩
def Eo{v:Vl}(h:Bk w g 38 (V_ v)):Vs w (j_ g) [v]:=
 ⟨rfl,λ_=>⟨g,0,_,_,rfl,h,λb c a=>by
   have:b<2:=by
    rcases FW b 2 with h|h
    .exact h
    .rw[F2 (by simpa[iO,Vl.E]using h)]at a
     cases a
   rcases b with _|_|b
   .simpa[iO,Vl.E]using a
   .simpa[iO,Vl.E]using a
   .omega⟩⟩
def iG{P:Program}{c:Func}{p u:Tmp}{b:TypeId}(h:c.results=#[.cell p b,.tmp u]){a:Array Value}{w:World}{g:Nat}{t:TypeId}{cs:Array Value}{f:Nat × Nat}{d:TypeDesc}
 (n:a.getD p undef=q_ g) (l:w.heap[g]?=some (.cells cs t f))
 (o:P.underlying b=some d) (j:(match d with| .struct _| .array _ _=>true|_=>false)=true) (m:(P.info? b).map (·.size)=some cs.size):
 (results c a).run P w=.ok (.tuple #[.agg cs,a.getD u undef]) w:=by
 rw[results_cell_tmp h];have i:a[p]?.getD undef=q_ g:=zu n;simp[i,asAddr,run_loadVar_row w g t b cs f d l o j m,Result.andThen]
def DL{i:Int}{fs:List Vl}{B:OA}{n d:Nat}(h:Bk w g 56 #[Y i,.slice B n d])(a:fs.length=n):Sl w 56 2 (j_ g) 1 (iV [⟨⟨i,fs⟩,B,d⟩]):=by
 subst a;exact BJ (r:=⟨⟨i,fs⟩,B,d⟩) h
def l5.it{l:List Rw}{t:TypeId}(h:l5 w l)(f:Bk w g t cs)(c:38≠t)(d:I [g] w w'):l5 w' l:=λb a=>⟨Sl.it (h b a).1 f c d,(h b a).2⟩
def lO{P:Program}{fn:Func}{R:Ending->World->Prop}{a:Act}{w:World}{p u:Tmp}{ty:TypeId}{g:Nat}{t:TypeId}{fr:Nat × Nat}{d:TypeDesc}(cs:Array Value)(y:Value)(hg:w.heap[g]?=some (.cells cs t fr))(hu:P.underlying ty=some d)(hR:R (.returned (.tuple #[.agg cs,y])) w)
 (h:fn.results=#[.cell p ty,.tmp u]:=by rfl) (hp:a.tmps.getD p undef=q_ g:=by rfl) (hd:(match d with|.struct _|.array _ _=>true|_=>false)=true:=by rfl) (hi:(P.info? ty).map (·.size)=some cs.size:=by kernel_rfl) (hy:a.tmps.getD u undef=y:=by rfl) (hf:a.defers=[]:=by rfl):bodyPost P fn R .ret a w:=F6 (v:=.tuple #[.agg cs,y]) (by rw[<-hy];exact iG h hp hg hu hd hi) hf hR
def pM(A:OA)(c:Nat)(l:List Rw)(id:Int)(h:Os w A l)(d:l.length<=1000000000):
 Calls prog 55 #[.agg #[.slice A l.length c],Y id] w λe w'=>e=.returned (Y (jr (hX l) id))/\I [] w w':=by
 exact IB
def tb{f:TypeId}(o:Ob)(A:OA)(c:Nat)(w:World)(h:Sl w f 2 A o.fs.length (iO o.fs))(L:o.fs.length<=1000000000):
 Calls prog 56 #[.agg #[Y o.id,.slice A o.fs.length c]] w λe w'=>∃(A':OA) (c':Nat),
  e=.returned (.agg #[Y o.id,.slice A' o.fs.length c'])/\w'.ownsRow w.heap.size 38 2 (.slice A' o.fs.length c') o.fs.length (iO o.fs)/\I [] w w':=by
 obtain⟨z,y,v,s,E⟩:=info_parts infoVl;obtain⟨id,j⟩:=o;simp only at h L |-;obtain⟨n,-,-⟩:=pZ w 56 #[Y id,.slice A j.length c] 56 #[Y 0,n_];obtain⟨V,W⟩:=n.iC;obtain⟨-,C,-⟩:=pZ w 56 #[Y id,.slice A j.length c] 56 #[Y 0,n_];have t:=(h.alloc (.cells #[Y id,.slice A j.length c] 56)).alloc (.cells #[Y 0,n_] 56);have F:=((H [] w).alloc (.cells #[Y id,.slice A j.length c] 56)).alloc (.cells #[Y 0,n_] 56);have r:w.heap.size+1≠w.heap.size:=X;generalize K:j.length=d at*;clear K
 go_enter func56,ntmps56
 go_wp2_with (at_builtin;refine iJ _ rfl (.const (n_)) (.tmp 4) 54 rfl w.heap.size 38 z _ 2 16 underlying54 y v s E rfl O O none 0 0 [] rfl (iT _ _ _ _) _ d c _ rfl t (nD _) X p_ ?_;intro b a M q l;simp only[W_,FY]at q;have m:=l.bk n O;have i:=l.bk C O;obtain⟨S,U⟩:=m.iC;have N:=m.hG 1;obtain⟨R,T⟩:=i.iC;have Q:=i.hG 0;have P:=i.hG 1)
 have u:=((i.ih (p:=(Z w.heap.size 1)) r (.slice b d a)).hV 0 (Y id)).hV 1 (.slice b d a);refine rr_ #[Y id,.slice b d a] u underlying56 ⟨b,a,rfl,?_,?_⟩
 .have D:=kD q m O ((H [w.heap.size] M).setCell (p:=(Z w.heap.size 1)) (.inl J) (.slice b d a));exact kD D (i.ih (p:=(Z w.heap.size 1)) r (.slice b d a)) O (((H [w.heap.size+1] _).setCell (.inl J) _).setCell (.inl J) _)
 .exact(((l.gr [] w (H_ _) F).setCell (.inr J) _).setCell (.inr J) _).setCell (.inr J) _
def qo{f:TypeId}(o:Ob)(A:OA)(c:Nat)(w:World)(h:Sl w f 2 A o.fs.length (iO o.fs))(i:o.fs.length<=1000000000):
 Calls prog 56 #[.agg #[Y o.id,.slice A o.fs.length c]] w λe w'=>∃(A':OA) (c':Nat),
  e=.returned (.agg #[Y o.id,.slice A' o.fs.length c'])/\Vs w' A' o.fs/\I [] w w':=
 (tb o A c w h i).mono λ_ _⟨A',c',a,b,d⟩=>⟨A',c',a,Sl.iR b,d⟩
def CF{h:List Ob}{id:Int}(b:k<h.length)(a:h[k].id<id):m_ (h.drop k) id=m_ (h.drop (k+1)) id+1:=by
 rw[Q_ b];simp[m_,a]
def CH{h:List Ob}{id:Int}(b:k<h.length)(a:¬h[k].id<id):m_ (h.drop k) id=0:=by
 rw[Q_ b];simp[m_,a]
def Bg{h:List Ob}{id:Int}(a:h.length<=k):m_ (h.drop k) id=0:=by
 rw[Gb a]
 rfl
def zd(f:α->List Value)(a:∀c,(f c).length=2)(l:List α)(k:Nat):(l.take k).flatMap f=(l.flatMap f).take (k*2):=by
 induction l generalizing k with
 |nil=>simp
 |cons x l b=>
  cases k with
  |zero=>simp
  |succ k=>
   rw[HP,Ga,Ga,b,List.take_append,a,FP (l:=f x) (by rw[a];omega),show(k+1)*2-2=k*2 by omega]
def Os.take{A:OA}{l:List Rw}(h:Os w A l)(p:k<=l.length):Sl w 56 2 A k (iV (l.take k)):=by
 refine⟨by rw[ln,Gj];omega,λo=>?_⟩;obtain⟨b,m,cs,c,d,f,i⟩:=h.2 X;refine⟨b,m,cs,c,d,f,λj n a=>i j n ?_⟩;unfold iV at a;rw[zd Rw.E (λ_=>rfl),Gv]at a;split at a
 .exact a
 .cases a
def Os.drop{A:OA}{l:List Rw}(h:Os w A l)(u:k<=l.length)(q:Nat)(r:l.length<=q):Sl w 56 2 (if q=k then A else A.map (·.add (k*2))) (l.length-k) (iV (l.drop k)):=by
 refine⟨by rw[ln,G7],λs=>?_⟩;obtain⟨f,o,cs,i,j,m,n⟩:=h.2 X;subst j;rw[R_ X];refine⟨f,o+k*2,cs,i,by simp[nS],m,λa p b=>?_⟩;rw[Hl];refine n _ p ?_
 have t:a<(l.length-k)*2:=by
  rcases FW a ((l.length-k)*2)with h|h
  .exact h
  .rw[F2 (by rw[ln,G7];exact h)]at b
   cases b
 have d:=j0 Rw.E (λ_=>rfl) (l.drop k) (a / 2) (a % 2) (by rw[G7];omega) (Nat.mod_lt _ X);have c:=j0 Rw.E (λ_=>rfl) l (k+a / 2) (a % 2) X (Nat.mod_lt _ X);rw[show a / 2*2+a % 2=a by omega]at d;rw[show(k+a / 2)*2+a % 2=k*2+a by omega]at c;unfold iV at b |-;rw[c,<-b,d,List.getElem_drop]
def s2(l:List Rw)(k m:Nat)(r:Rw):List Rw:=l.take k++[r]++l.drop m
def yb(l:List Rw)(k m:Nat)(r:Rw):hX (s2 l k m r)=(hX l).take k++[r.o]++(hX l).drop m:=by
 simp[s2,hX,List.map_take,List.map_drop]
def App.tK{t:TypeId}(h:App base e w w')(b:Bk w g t cs)(a:g<base):Bk w' g t cs:=h.iz _ _ b (.inl a)
def vD{h:List Rw}{m:Nat}{r:Rw}(b:m<=h.length)(a:k<=h.length):(s2 h k m r).length=k+1+(h.length-m):=by
 simp[s2];omega
def x6{h:List Rw}{m:Nat}{id:Int}{fs:List Vl}{A:OA}{c:Nat}(d:l5 w h)(i:Vs w A fs)(f:fs.length<=1000000000):l5 w (s2 h k m ⟨⟨id,fs⟩,A,c⟩):=by
 intro b a;unfold s2 at a
 rcases X_.1 a with a|a
 .rcases X_.1 a with a|a
  .exact d b (Gp a)
  .have:b=⟨⟨id,fs⟩,A,c⟩:=zu a
   subst this;exact⟨i,f⟩
 .exact d b (Hz a)
def App.k5{l:List Rw}(h:App base 56 w w')(a:l5 w l):l5 w' l:=λc b=>⟨h.sl (a c b).1 O,(a c b).2⟩
def uY{f:TypeId}(m:OA)(hc:Nat)(h:List Rw)(id:Int)(A:OA)(c:Nat)(fs:List Vl)(L:Os w m h)(hR:l5 w h)(aL:h.length<=hc)(hv:Sl w f 2 A fs.length (iO fs))(hn1:fs.length<=1000000000)(ca:h.length<=999999999):
 Calls prog 123 #[.agg #[.slice m h.length hc],.agg #[Y id,.slice A fs.length c]] w λe w'=>∃(A':OA) (c':Nat) (rs:List Rw),
  e=.returned (.agg #[.slice A' rs.length c'])/\rs.length<=c'/\Os w' A' rs/\l5 w' rs/\hX rs=lv (hX h) ⟨id,fs⟩/\I [] w w':=by
 obtain⟨i1,T,V,W,cv⟩:=info_parts infoOb;obtain⟨MY,ae,-,-,al⟩:=Da w 35 #[.slice m h.length hc] 56 #[Y id,.slice A fs.length c] 35 #[n_] 35 #[n_];have B:Bk ((((w.alloc (.cells #[.slice m h.length hc] 35)).alloc (.cells #[Y id,.slice A fs.length c] 56)).alloc (.cells #[n_] 35)).alloc (.cells #[n_] 35)) (w.heap.size+2) 35 #[n_]:=zu ((P_ ((w.alloc (.cells #[.slice m h.length hc] 35)).alloc (.cells #[Y id,.slice A fs.length c] 56)) 35 #[n_]).alloc (.cells #[n_] 35));have q:Bk ((((w.alloc (.cells #[.slice m h.length hc] 35)).alloc (.cells #[Y id,.slice A fs.length c] 56)).alloc (.cells #[n_] 35)).alloc (.cells #[n_] 35)) (w.heap.size+3) 35 #[n_]:=zu (P_ (((w.alloc (.cells #[.slice m h.length hc] 35)).alloc (.cells #[Y id,.slice A fs.length c] 56)).alloc (.cells #[n_] 35)) 35 #[n_]);have h0:=MY.f_ 0;obtain⟨h1,h2⟩:=ae.iC
 go_enter func123,ntmps123
 go_wp2_with fail
 go_at_call 55
 refine(pM m hc h id (L.hF al) X).mono ?_;rintro e w1⟨rfl,D⟩;have M0:=al.trans D;have an:=MY.gr D J;have aA:=ae.gr D J;have br:=B.gr D J;have bD:=q.gr D J;have aP:=bD.lt;clear al MY ae B q h0 h1 h2 D;have R:=U (show -1<=jr (hX h) id/\jr (hX h) id<h.length by have:=mH (λo:Ob=>o.id==id) (hX h) 0;simp[hX]at this;unfold jr;simpa[hX]using this);have aO:w.heap.size=w.heap.size:=rfl;generalize aU:jr (hX h) id=s at*;have av:=U aU;clear aU;have bd:=U (show(hX h).length=h.length by simp[hX])
 go_upto_if 14 with fail
 go_cut [7] (λQ n=>∃k:Nat,Q=Y k/\k<=h.length/\((0<=s/\s=k)∨(s<0/\k=m_ (hX h) id))/\I [] w1 n)
 case first=>
  obtain⟨N,P⟩:=R.out
  by_cases j:s<0
  .obtain rfl:s= -1:=by omega
   have a2:=U j;clear j N P;have M:=U (show m_ (hX h) id=0+m_ ((hX h).drop 0) id by simp)
   go_wp2_with fail
   go_loopw [7] (λQ w'=>∃k:Nat,Q=Y k/\k<=h.length/\m_ (hX h) id=k+m_ ((hX h).drop k) id/\I [] w1 w') (λQ _=>h.length-(intOf Q).toNat)
   case atStart=>exact⟨0,rfl,N_ _,M.out,H _ _⟩
   case round=>
    obtain⟨k,rfl,hk,v,F⟩:=hrel;have z:=U v;clear v;have bf:=(an.gr F J).f_ 0;obtain⟨ar,bO⟩:=(aA.gr F J).iC
    by_cases d:k<h.length
    .obtain⟨bh,off,rfl,t,u⟩:=(L.hF (M0.trans F)).at_ d;have b:=U (show(hX h)[k]'(by rw[bd.out];exact d)=h[k].o by simp[hX])
     by_cases a:h[k].o.id<id
     .have bu:=U (CF (h:=hX h) (id:=id) (k:=k) (by rw[bd.out];exact d) (by rw[b.out];exact a));have i:decide (h[k].o.id<id)=true:=zu a;clear a b;generalize h[k]=r at*;obtain⟨⟨y,C⟩,bk,E⟩:=r;simp only at t u i;have l:(k:Int)<(h.length:Int):=X;exact KF
     .have bu:=U (CH (h:=hX h) (id:=id) (k:=k) (by rw[bd.out];exact d) (by rw[b.out];exact a));have i:decide (h[k].o.id<id)=false:=zu a;clear a b;generalize h[k]=r at*;obtain⟨⟨y,C⟩,bk,E⟩:=r;simp only at t u i;have l:(k:Int)<(h.length:Int):=X;exact KV
    .have bu:=U (Bg (h:=hX h) (id:=id) (k:=k) (by rw[bd.out];omega));have l:¬(k:Int)<(h.length:Int):=X;exact KV
  .obtain⟨x,rfl⟩:∃x:Nat,s=x:=⟨s.toNat,X⟩;rw[show decide ((x:Int)<0)=false by simp];clear j
   go_wp2_with fail
   go_meet
   have:=R.out
   exact⟨x,rfl,X,.inl ⟨X,rfl⟩,H _ _⟩
 case rest=>
  obtain⟨k,rfl,hk,aX,F⟩:=hcut;have bK:=U aX;clear aX;have S:=M0.trans F;have bf:=an.gr F J;have bm:=aA.gr F J;have bv:=br.gr F J;have cp:=bD.gr F J;have bI:=F.size;clear an aA br bD F;obtain⟨bj,bJ⟩:=bm.iC;have dP:=bf.f_ 0;have bL:=cp.f_ 0;have aN:(k:Int)<=(hc:Int):=X;have aT:(0:Int)<=(k:Int):=X;obtain⟨l,rfl⟩:∃x,x=wc:=⟨wc,rfl⟩;have aZ:w.heap.size+1<l.heap.size:=X;have be:=Os.take (L.hF S.drew) hk;have bM:=hv.hF S.drew;have a6:=iT l.drew l.heap.size 56 2;have am:l.heap.size<=l.drew.heap.size:=H_ _
  go_upto_region 8 with fail
  go_cut [] (λn=>∃(t:OA) (u:Nat) (i:OA) (j:Nat),Bk n w.heap.size 35 #[.slice m h.length hc]/\Bk n (w.heap.size+2) 35 #[n_]/\Bk n (w.heap.size+3) 35 #[.slice t (k+1) u]/\n.ownsRow l.heap.size 56 2 (.slice t (k+1) u) (k+1) (iV (h.take k++[⟨⟨id,fs⟩,i,j⟩]))/\Vs n i fs/\l.heap.size<=n.heap.size/\I [] w n)
  case first=>
   go_region_law (first|(refine pn rfl (.tmp 34) (.tmp 38) 33 rfl l.heap.size 56 i1 2 32 underlying33 T V W cv rfl O O none 0 0 [] rfl a6 m k hc rfl be (jT _) X am ?_;intro ap ai ag E a;simp only[W_,FY]at E;have bq:=a.bk bf O;have bA:=a.bk bv O;have bE:=a.bk cp O;have bz:=a.tK bm.drew aZ;obtain⟨hq0,hq1⟩:=bz.iC;have bx:=hv.hF (a.gr [] w S.size S.drew))|(go_simp;go_at_call 56;refine(qo ⟨id,fs⟩ A c _ bx hn1).mono ?_;rintro e ad⟨i,j,rfl,bU,N⟩;have d:=N.alloc (.cells #[Y id,.slice i fs.length j] 56);have bt:=bq.gr d J;have bB:=bA.gr d J;have bF:=bE.gr d J;have M:=iy E d;have aj:=DL (fs:=fs) (P_ ad 56 #[Y id,.slice i fs.length j]) rfl;have C:=G_ (G_ am a.size) d.size)|(refine pn rfl (.tmp 39) (.tmp 42) 33 rfl l.heap.size 56 i1 2 32 underlying33 T V W cv rfl O O ap k ai _ rfl M _ 1 1 rfl aj (jT _) X C ?_;intro t u P aI b;have bw:=b.bk bt O;have bC:=b.bk bB O;have v:=b.bk bF O;have bP:=v.hG 0;have MZ:=v.f_ 0))
   all_goals
    go_wp2;go_meet;have y:=(H [w.heap.size+3] P).setCell (p:=(Z (w.heap.size+3) 0)) (.inl J) (.slice t (k+1) u);refine⟨t,u,i,j,bw.gr y J,bC.gr y J,v.hV 0 _,?_,?_,G_ (G_ C b.size) y.size,?_⟩
    .rw[lP];exact kD aI v O y
    .exact Sl.it (b.sl (bU.alloc (.cells #[Y id,.slice i fs.length j] 56)) O) v O y
    .exact(b.gr [] w S.size ((a.gr [] w S.size S.drew).trans d)).setCell (.inr (show w.heap.size<=w.heap.size+3 by omega)) _
  case rest=>
   obtain⟨t,u,i,j,ar,aG,ak,aY,bn,bi,K⟩:=hcut;have dP:=ar.f_ 0;have bL:=ak.f_ 0;have bR:=K.size;obtain⟨a,rfl⟩:∃x,x=h:=⟨h,rfl⟩;have aS:=hR.hF K.drew;clear bM a6 am be
   rcases bK.out with⟨ck,rfl⟩|⟨ck,aD⟩
   .have N:k+1<=a.length:=ov R.out;have bV:(k:Int)+1<=(a.length:Int):=X;have bN:(0:Int)<=(k:Int)+1:=X;clear ck;have aB:=Os.drop (L.hF K.drew) N hc aL;have ao:l.heap.size<=wc.drew.heap.size:=bi;have aw:=iy aY (H [] wc).drew;have aC:w.heap.size+2≠w.heap.size+3:=X
    go_wp2_with fail
    go_region_law (refine pn rfl (.tmp 50) (.tmp 54) 33 rfl l.heap.size 56 i1 2 32 underlying33 T V W cv rfl O O t (k+1) u _ rfl aw _ (a.length-(k+1)) (hc-(k+1)) rfl aB (jT _) X ao ?_;intro d b M C aV;have G:=aV.bk aG O;have g:=aV.bk ak O;have bG:=g.hG 0;have aQ:=g.f_ 0;have bH:=G.hG 0;have du:=G.f_ 0)
    all_goals
     have d1:k+1+(a.length-(k+1))=a.length:=X;rw[d1]at C
     have aR:(s2 a k (k+1) ⟨⟨id,fs⟩,i,j⟩).length=a.length:=by rw[vD N hk];exact d1
     clear d1;have y:=U aR;clear aR;go_wp2
     all_goals
      have bg:=g.hV 0 (.slice d a.length b);have v:=G.ih (p:=(Z (w.heap.size+3) 0)) aC (.slice d a.length b);have au:=v.hV 0 (.slice d a.length b);have P:=(H [w.heap.size+3] M).setCell (p:=(Z (w.heap.size+3) 0)) (.inl J) (.slice d a.length b);have E:=(H [w.heap.size+2] (M.setCell (Z (w.heap.size+3) 0) (.slice d a.length b))).setCell (p:=(Z (w.heap.size+2) 0)) (.inl J) (.slice d a.length b);have ay:=kD (kD C g O P) v O E;have bW:l5 _ (s2 a k (k+1) ⟨⟨id,fs⟩,i,j⟩):=((x6 (aV.k5 aS) (aV.sl bn O) hn1).it g O P).it v O E;refine F6 (G5 rfl _ _ _ _ _ _ _ rfl au underlying35 rfl k_) rfl ⟨d,b,s2 a k (k+1) ⟨⟨id,fs⟩,i,j⟩,by rw[y.out];rfl,by rw[y.out];exact iY C,?_,bW,?_,?_⟩
      .unfold Os;rw[y.out]
       have:=Sl.iR ay
       rw[<-lP]at this;exact this
      .rw[yb];unfold lv;rw[av.out,R_ X,Gs]
      .exact Me
   .obtain rfl:s= -1:=by have:=R.out;omega
    have N:k<=a.length:=hk;have bV:(k:Int)<=(a.length:Int):=X;have bo:=U aD;clear ck aD;have aB:=Os.drop (L.hF K.drew) N hc aL;have ao:l.heap.size<=wc.drew.heap.size:=bi;have aw:=iy aY (H [] wc).drew;have aC:w.heap.size+2≠w.heap.size+3:=X
    go_wp2_with fail
    go_region_law (refine pn rfl (.tmp 50) (.tmp 54) 33 rfl l.heap.size 56 i1 2 32 underlying33 T V W cv rfl O O t (k+1) u _ rfl aw _ (a.length-(k)) (hc-(k)) rfl aB (jT _) X ao ?_;intro d b M C aV;have G:=aV.bk aG O;have g:=aV.bk ak O;have bG:=g.hG 0;have aQ:=g.f_ 0;have bH:=G.hG 0;have du:=G.f_ 0)
    all_goals
     have y:=U (vD (r:=⟨⟨id,fs⟩,i,j⟩) N hk);go_wp2
     all_goals
      have bg:=g.hV 0 (.slice d (k+1+(a.length-(k))) b);have v:=G.ih (p:=(Z (w.heap.size+3) 0)) aC (.slice d (k+1+(a.length-(k))) b);have au:=v.hV 0 (.slice d (k+1+(a.length-(k))) b);have P:=(H [w.heap.size+3] M).setCell (p:=(Z (w.heap.size+3) 0)) (.inl J) (.slice d (k+1+(a.length-(k))) b);have E:=(H [w.heap.size+2] (M.setCell (Z (w.heap.size+3) 0) (.slice d (k+1+(a.length-(k))) b))).setCell (p:=(Z (w.heap.size+2) 0)) (.inl J) (.slice d (k+1+(a.length-(k))) b);have ay:=kD (kD C g O P) v O E;have bW:l5 _ (s2 a k (k) ⟨⟨id,fs⟩,i,j⟩):=((x6 (aV.k5 aS) (aV.sl bn O) hn1).it g O P).it v O E;refine F6 (G5 rfl _ _ _ _ _ _ _ rfl au underlying35 rfl k_) rfl ⟨d,b,s2 a k (k) ⟨⟨id,fs⟩,i,j⟩,by rw[y.out];rfl,by rw[y.out];exact iY C,?_,bW,?_,?_⟩
      .unfold Os;rw[y.out]
       have:=Sl.iR ay
       rw[<-lP]at this;exact this
      .rw[yb];unfold lv;rw[av.out,U_ X,<-bo.out]
      .exact Me
def mr(h:List Ob)(id:Int):(jr h id<0/\jl h id=none)∨∃k,∃d:k<h.length,jr h id=(k:Nat)/\jl h id=some h[k]:=by
 suffices M0:∀b:Nat,(iE (λa:Ob=>a.id==id) h b<0/\jl h id=none)∨∃k,∃d:k<h.length,iE (λa:Ob=>a.id==id) h b=(b+k:Nat)/\jl h id=some h[k] by
  rcases M0 0 with c|⟨k,d,c,j⟩
  .exact .inl c
  .exact .inr ⟨k,d,by unfold jr;rw[c];simp,j⟩
 induction h with
 |nil=>intro b;left;simp[iE,jl]
 |cons a i l=>
  intro b
  by_cases f:a.id=id
  .right;exact⟨0,J,by simp[iE,f],by simp[jl,f]⟩
  .have n:iE (λa:Ob=>a.id==id) (a::i) b=iE (λa:Ob=>a.id==id) i (b+1):=by simp[iE,f]
   have m:jl (a::i) id=jl i id:=by simp[jl,f]
   rw[n,m]
   rcases l (b+1)with c|⟨k,d,c,j⟩
   .exact .inl c
   .exact .inr ⟨k+1,by simpa using d,by rw[c];congr 1;omega,by simpa using j⟩
def get_none(A:OA)(c:Nat)(l:List Rw)(id:Int)(w:World)(h:Os w A l)(i:l.length<=1000000000)(f:jl (hX l) id=none):
 Calls prog 14 #[.agg #[.slice A l.length c],Y id] w λe w'=>e=.returned (.tuple #[.agg #[Y 0,n_],.bool false])/\I [] w w':=by
 obtain⟨b,ae,MZ⟩:=pZ w 35 #[.slice A l.length c] 56 #[Y 0,n_];have j:((w.alloc (.cells #[.slice A l.length c] 35)).alloc (.cells #[Y 0,n_] 56)).cell? (Z w.heap.size 0)=some (.slice A l.length c):=b.f_ 0
 rcases mr (hX l) id with⟨af,_⟩|⟨k,m,_,a⟩
 .go_enter func14,ntmps14
  go_wp2_with fail
  go_at_call 55
  refine(pM A c l id (h.hF MZ) i).mono ?_;exact Js
 .rw[f]at a
  cases a
def get_some(A:OA)(c:Nat)(l:List Rw)(id:Int)(o:Ob)(w:World)(h:Os w A l)(hr:l5 w l)(m:l.length<=1000000000)(f:jl (hX l) id=some o):
 Calls prog 14 #[.agg #[.slice A l.length c],Y id] w λe w'=>∃(A':OA) (c':Nat),e=.returned (.tuple #[.agg #[Y o.id,.slice A' o.fs.length c'],.bool true])/\Vs w' A' o.fs/\I [] w w':=by
 obtain⟨MY,ae,MZ⟩:=pZ w 35 #[.slice A l.length c] 56 #[Y 0,n_];have p:((w.alloc (.cells #[.slice A l.length c] 35)).alloc (.cells #[Y 0,n_] 56)).cell? (Z w.heap.size 0)=some (.slice A l.length c):=MY.f_ 0
 rcases mr (hX l) id with⟨_,a⟩|⟨k,j,G,a⟩
 .rw[f]at a
  cases a
 .rw[f]at a;injection a with a
  have aD:=by simpa[hX]using j
  have i:o=l[k].o:=by rw[a];simp[hX]
  subst i;clear a f;have aw:=U G;clear G;have n:(k:Int)<(l.length:Int):=X
  go_enter func14,ntmps14
  go_wp2_with fail
  go_at_call 55
  refine(pM A c l id (h.hF MZ) m).mono ?_;exact IL
def jy(h:List Ob)(id f:Int):Option Vl:=match jl h id with
 |none=>none
 |some o=>if f<0 then none else o.fs[f.toNat]?
def qq{h:List Ob}{id f:Int}{v:Vl}(a:jy h id f=some v):∃k,∃d:k<h.length,jr h id=(k:Nat)/\jl h id=some h[k]/\0<=f/\∃i:f.toNat<h[k].fs.length,h[k].fs[f.toNat]=v:=by
 unfold jy at a
 rcases mr h id with⟨c,b⟩|⟨k,d,c,b⟩
 .rw[b]at a
  cases a
 .rw[b]at a;simp only at a;split at a
  .cases a
  .rename_i i;obtain⟨j,l⟩:=He.1 a;exact⟨k,d,c,b,X,j,l⟩
def kB(A:OA)(c:Nat)(l:List Rw)(id f:Int)(w:World)(h:Os w A l)(M:l5 w l)(hn:l.length<=1000000000):
 Calls prog 148 #[.agg #[.slice A l.length c],Y id,Y f] w λe w'=>e=.returned (.tuple #[.agg #[.bool ((jy (hX l) id f).getD default).r,Y ((jy (hX l) id f).getD default).n],.bool (jy (hX l) id f).isSome])/\I [] w w':=by
 obtain⟨p,ae,MZ⟩:=pZ w 35 #[.slice A l.length c] 38 #[.bool false,Y 0];have T:((w.alloc (.cells #[.slice A l.length c] 35)).alloc (.cells #[.bool false,Y 0] 38)).cell? (Z w.heap.size 0)=some (.slice A l.length c):=p.f_ 0
 cases b:jy (hX l) id f with
 |none=>
  have u:jr (hX l) id<0∨f<0∨∃k,∃m:k<l.length,jr (hX l) id=(k:Nat)/\(l[k].o.fs.length:Int)<=f/\0<=f:=by
   rcases mr (hX l) id with⟨a,_⟩|⟨k,m,a,D⟩
   .exact .inl a
   .have i:=by simpa[hX]using m
    unfold jy at b;rw[D]at b;simp only at b;split at b
    .exact .inr (.inl ‹_›)
    .rename_i y;refine .inr (.inr ⟨k,i,a,?_,X⟩)
     have:=List.getElem?_eq_none_iff.1 b
     have e:((hX l)[k]).fs.length=l[k].o.fs.length:=by simp[hX]
     omega
  clear b
  by_cases G:jr (hX l) id<0
  .exact Jc
  .by_cases y:f<0
   .exact Jc
   .obtain⟨k,i,j,s,t⟩:∃k,∃m:k<l.length,jr (hX l) id=(k:Nat)/\(l[k].o.fs.length:Int)<=f/\0<=f:=by
     rcases u with a|a|a
     .exact FU a G
     .exact FU a y
     .exact a
    have z:(k:Int)<(l.length:Int):=X;have q:=U j;clear j u G
    go_enter func148,ntmps148
    go_wp2_with fail
    go_at_call 55
    refine(pM A c l id (h.hF MZ) hn).mono ?_;rintro e w2⟨rfl,M0⟩;rw[q.out];have P:=ae.gr M0 J;obtain⟨MV,MU⟩:=P.iC;have L:=P.hG 0;have C:=P.hG 1;have Q:w2.cell? (Z w.heap.size 0)=some (.slice A l.length c):=(p.gr M0 J).f_ 0;obtain⟨H,N,rfl,K,v⟩:=((h.hF MZ).hF M0).at_ i;exact J5
 |some O=>
  obtain⟨k,m,j,_,t,s,u⟩:=qq b
  have i:=by simpa[hX]using m
  have a:(hX l)[k]=l[k].o:=by simp[hX]
  have F:f.toNat<l[k].o.fs.length:=by rw[<-a];exact s
  have y:l[k].o.fs[f.toNat]=O:=by
   rw[<-u];congr 1;rw[a]
  subst y;have z:(k:Int)<(l.length:Int):=X;have q:=U j;clear j u b a s;have R:f<(l[k].o.fs.length:Int):=X;have bR:¬(l[k].o.fs.length:Int)<=f:=X;have E:=GM t;clear E
  go_enter func148,ntmps148
  go_wp2_with fail
  go_at_call 55
  refine(pM A c l id (h.hF MZ) hn).mono ?_;rintro e w2⟨rfl,M0⟩;rw[q.out];have P:=ae.gr M0 J;obtain⟨MV,MU⟩:=P.iC;have L:=P.hG 0;have C:=P.hG 1;have Q:w2.cell? (Z w.heap.size 0)=some (.slice A l.length c):=(p.gr M0 J).f_ 0;obtain⟨D,_⟩:=((M.hF MZ).hF M0) l[k] (O_ i);obtain⟨H,N,rfl,K,v⟩:=((h.hF MZ).hF M0).at_ i;obtain⟨b2,W,B,V,S⟩:=D.at_ F;rw[B]at v;go_wp2;have d:=(P.hV 0 (.bool l[k].o.fs[f.toNat].r)).hV 1 (Y l[k].o.fs[f.toNat].n);refine lO #[.bool l[k].o.fs[f.toNat].r,Y l[k].o.fs[f.toNat].n] (.bool true) d underlying38 ⟨rfl,?_⟩;exact Mu
def kQ(h:List Ob)(id f:Int)(v:Vl):List Ob:=h.modify (jr h id).toNat λo=>⟨o.id,o.fs.set f.toNat v⟩
def qF(E:α->List Value)(s:Nat)(f:∀y,(E y).length=s)(t:0<s)(l:List α)(k:Nat)(H:k<l.length)(r:α)(p:Array Value){j:Array Value}(h:∀(i:Nat) (u:Value),(l.flatMap E)[i]?=some u->p[i]?=some u)(F:∀(v:Nat) (u:Value),(E r)[v]?=some u->j[k*s+v]?=some u)(c:∀i:Nat,(i<k*s∨(k+1)*s<=i)->j[i]?=p[i]?):∀(i:Nat) (u:Value),((l.set k r).flatMap E)[i]?=some u->j[i]?=some u:=by
 intro i u o
 have iN:((l.set k r).flatMap E).length=l.length*s:=by rw[ko E s f];simp
 have D:i<l.length*s:=by
  rcases FW i (l.length*s)with h|h
  .exact h
  .rw[F2 (by rw[iN];exact h)]at o
   cases o
 have m:i / s<l.length:=by rw[Nat.div_lt_iff_lt_mul t];exact D
 have n:i % s<s:=Nat.mod_lt _ t
 have d:i / s*s+i % s=i:=by rw[Nat.mul_comm];exact Nat.div_add_mod i s
 have a:=jh E s f (l.set k r) (i / s) (i % s) (zu m) n;rw[d,o]at a
 rcases Nat.lt_trichotomy (i / s) k with z|C|A
 .rw[List.getElem_set_ne X]at a;have b:=jh E s f l (i / s) (i % s) m n;rw[d]at b
  rw[c i (.inl (by
   have:(i / s+1)*s<=k*s:=Hy s z
   rw[G1,H3]at this
   omega))]
  exact h i u (by rw[b,<-a])
 .subst C;rw[List.getElem_set_self]at a;rw[<-d];exact F _ u a.symm
 .rw[List.getElem_set_ne X]at a;have b:=jh E s f l (i / s) (i % s) m n;rw[d]at b
  rw[c i (.inr (by
   have:(k+1)*s<=i / s*s:=Hy s A
   omega))]
  exact h i u (by rw[b,<-a])
def kE{p:Nat}{A:OA}{n c:Nat}{f:List Value}(h:w.ownsRow base e p (.slice A n c) n f)(h0:0<n):∃g a,A=some (Z g 0)/\base<=g/\Bk w g e a/\∀(i:Nat) (u:Value),f[i]?=some u->a[i]?=some u:=by
 rcases h.2 with⟨d,q⟩|⟨g,s,a,d,l,m,_,_,_,o⟩
 .omega
 .injection d with j _ _;refine⟨g,a,j,l,m,λr u b=>?_⟩;rw[<-o,Gv]at b;split at b
  .simpa using b
  .cases b
def pP(E:α->List Value)(d:∀f,(E f).length=2){b:Array Value}{l:List α}(p:k<l.length)(r:α)(x y:Value)(v:E r=[x,y])(o:Bk w g e b)(h:∀(i:Nat) (u:Value),(l.flatMap E)[i]?=some u->b[i]?=some u)(n:Nat)(t:l.length=n):
 Sl ((w.setCell (Z g (k*2)) x).setCell (Z g (k*2+1)) y) e 2 (j_ g) n ((l.set k r).flatMap E):=by
 subst t;have m:=(o.hV (k*2) x).hV (k*2+1) y;have iN:=ko E 2 d l
 have j:k*2+1<b.size:=by
  have s:k*2+1<(l.flatMap E).length:=X
  have:=h _ _ (K_ s)
  rcases FW (k*2+1) b.size with h|h
  .exact h
  .exact MM
 refine⟨by rw[ko E 2 d];simp,λ_=>⟨g,0,_,_,rfl,m,λc u a=>?_⟩⟩;rw[W_];refine qF E 2 d X l k p r b h (λc u a=>?_) (λi z=>?_) c u a
 .rw[v]at a
  match c,a with
  |0,a=>simp only[Gz,Option.some.injEq]at a;subst a;rw[L_,R_ X,L_,U_ X,U_ X]
  |1,a=>simp only[G4,Gz,Option.some.injEq]at a;subst a;rw[L_,U_ rfl,U_ (zu j)]
  |c+2,a=>simp at a
 .rw[L_,R_ X,L_,R_ X]
def qv(A:OA)(c:Nat)(l:List Rw)(id f:Int)(v:Vl)(h:Os w A l)(o:l5 w l)(m:l.length<=1000000000)(n:jy (hX l) id f=none):
 Calls prog 149 #[.agg #[.slice A l.length c],Y id,Y f,.agg (V_ v)] w λe w'=>e=.returned (.tuple #[.agg #[n_],.bool false])/\I [] w w':=by
 obtain⟨i,-,-,a⟩:=wI w 35 #[.slice A l.length c] 38 (V_ v) 35 #[n_];have B:Bk (((w.alloc (.cells #[.slice A l.length c] 35)).alloc (.cells (V_ v) 38)).alloc (.cells #[n_] 35)) (w.heap.size+2) 35 #[n_]:=zu (P_ ((w.alloc (.cells #[.slice A l.length c] 35)).alloc (.cells (V_ v) 38)) 35 #[n_]);have s:(((w.alloc (.cells #[.slice A l.length c] 35)).alloc (.cells (V_ v) 38)).alloc (.cells #[n_] 35)).cell? (Z w.heap.size 0)=some (.slice A l.length c):=i.f_ 0
 go_enter func149,ntmps149
 go_wp2_with fail
 go_at_call 148
 refine(kB A c l id f _ (h.hF a) (o.hF a) m).mono ?_;rintro e t⟨rfl,d⟩;rw[n];have b:=(B.hF d).alloc (.cells (V_ (default:Vl)) 38);have r:=b.f_ 0;have p:=b.hG 0;simp only[HN,HV];go_wp2;have j:=b.hV 0 (n_);refine lO #[n_] (.bool false) j underlying35 ⟨rfl,?_⟩;exact((a.trans d).alloc _).setCell (.inr p_) _
def sv(l:List Rw)(k:Nat)(r:Rw):hX (l.set k r)=(hX l).set k r.o:=by simp[hX,List.map_set]
def zk{h:List Ob}{id f:Int}{v:Vl}(b:k<h.length)(a:jr h id=(k:Nat)):kQ h id f v=h.set k ⟨h[k].id,h[k].fs.set f.toNat v⟩:=by
 unfold kQ;rw[a,Gs];apply HK;intro c;rw[Ig,H1]
 by_cases e:k=c
 .subst e;simp[b]
 .simp[e]
def l5.hV{l:List Rw}(h:l5 w l){r:Rw}(c:Vs w r.A r.o.fs)(b:r.o.fs.length<=1000000000):l5 w (l.set k r):=λx a=>by
 rcases F3 a with a|rfl
 .exact h x a
 .exact⟨c,b⟩
def App.Dz{l:List Rw}(h:App base e w w')(d:38≠e)(a:l5 w l):l5 w' l:=λc b=>⟨h.sl (a c b).1 d,(a c b).2⟩
def ol(A:OA)(c:Nat)(l:List Rw)(id f:Int)(v u:Vl)(h:Os w A l)(V:l5 w l)(hn:l.length<=1000000000)(K:jy (hX l) id f=some u):
 Calls prog 149 #[.agg #[.slice A l.length c],Y id,Y f,.agg (V_ v)] w λe w'=>∃(A':OA) (c':Nat) (rs:List Rw),e=.returned (.tuple #[.agg #[.slice A' rs.length c'],.bool true])/\rs.length<=c'/\Os w' A' rs/\l5 w' rs/\hX rs=kQ (hX l) id f v/\I [] w w':=by
 obtain⟨i1,bS,cj,co,cv⟩:=info_parts infoOb;obtain⟨MY,ae,-,M⟩:=wI w 35 #[.slice A l.length c] 38 (V_ v) 35 #[n_];have B:Bk (((w.alloc (.cells #[.slice A l.length c] 35)).alloc (.cells (V_ v) 38)).alloc (.cells #[n_] 35)) (w.heap.size+2) 35 #[n_]:=zu (P_ ((w.alloc (.cells #[.slice A l.length c] 35)).alloc (.cells (V_ v) 38)) 35 #[n_]);have aV:(((w.alloc (.cells #[.slice A l.length c] 35)).alloc (.cells (V_ v) 38)).alloc (.cells #[n_] 35)).cell? (Z w.heap.size 0)=some (.slice A l.length c):=MY.f_ 0;obtain⟨k,hk,bZ,_,al,bi,hv⟩:=qq K
 have S:=by simpa[hX]using hk
 have bD:(hX l)[k]=l[k].o:=by simp[hX]
 have ar:f.toNat<l[k].o.fs.length:=by rw[<-bD];exact bi
 have bU:=U (show kQ (hX l) id f v=(hX l).set k ⟨l[k].o.id,l[k].o.fs.set f.toNat v⟩ by rw[zk hk bZ,bD]);have MS:(k:Int)<(l.length:Int):=X;have aw:=U bZ;have an:f<(l[k].o.fs.length:Int):=X;clear bZ hv bD bi
 go_enter func149,ntmps149
 go_wp2_with fail
 generalize ((w.alloc (.cells #[.slice A l.length c] 35)).alloc (.cells (V_ v) 38)).alloc (.cells #[n_] 35)=aA at*
 go_at_call 148
 refine(kB A c l id f _ (h.hF M) (V.hF M) hn).mono ?_;rintro e w2⟨rfl,M0⟩;rw[K];simp only[GI,Hs];have t:=M0.alloc (.cells (V_ u) 38);have aS:=MY.hF t;have aT:=ae.hF t;have br:=B.hF t;have aU:=(h.hF M).hF t;have ck:=(V.hF M).hF t;have MV:=aS.f_ 0;have hbs:=(M.trans t).size;clear aV K
 go_wp2_with (at_builtin;refine wR _ rfl (.const (n_)) (.tmp 26) 33 rfl w.heap.size 56 i1 _ 2 32 underlying33 bS cj co cv rfl O O none 0 0 [] rfl (iT _ _ _ _) A l.length c _ rfl aU (jT _) X hbs ?_;intro E n ag D F;simp only[W_,FY]at D;have z0:=((F.bk aS O).alloc (.cells #[.slice E l.length n] 35)).f_ 0)
 go_at_call 55
 have aW:=F.gr [] w (H_ _) (M.trans t);have aX:=(F.bk aS O).alloc (.cells #[.slice E l.length n] 35);have L:=(F.bk aT O).alloc (.cells #[.slice E l.length n] 35);have d:=(F.bk br O).alloc (.cells #[.slice E l.length n] 35);have j:=P_ ag 35 #[.slice E l.length n];have cK:=iy D ((H [] ag).alloc (.cells #[.slice E l.length n] 35));have b9:=aW.alloc (.cells #[.slice E l.length n] 35);have aG:=(F.bk br O).lt;have aL:=iY D;refine(pM A c l id (h.hF b9) hn).mono ?_;rintro e MT⟨rfl,C⟩;rw[aw.out];have aY:=b9.trans C;have aX:=aX.hF C;have L:=L.hF C;have d:=d.hF C;have j:=j.hF C;have aI:=iy cK C;have aN:=aY.size;have z0:MT.cell? (Z w.heap.size 0)=some (.slice A l.length c):=aX.f_ 0;obtain⟨ap,aZ⟩:=(V.hF aY) l[k] (O_ S);obtain⟨bd,off,rfl,bj,bz⟩:=(h.hF aY).at_ S;clear D cK F aS aT br aU ck hbs MV MY ae B M0 t
 go_wp2_with fail
 go_at_call 56
 refine(tb l[k].o l[k].A l[k].c _ ap aZ).mono ?_;rintro e R⟨z,b,rfl,cw,y⟩;have aM:=(aY.trans y).alloc (.cells #[Y l[k].o.id,.slice z l[k].o.fs.length b] 56);have L:=(L.hF y).alloc (.cells #[Y l[k].o.id,.slice z l[k].o.fs.length b] 56);have d:=(d.hF y).alloc (.cells #[Y l[k].o.id,.slice z l[k].o.fs.length b] 56);have aJ:=(j.hF y).lt;have j:=(j.hF y).alloc (.cells #[Y l[k].o.id,.slice z l[k].o.fs.length b] 56);have bf:=P_ R 56 #[Y l[k].o.id,.slice z l[k].o.fs.length b]
 have MX:∀g cur,Bk MT g 56 cur->g≠R.heap.size:=λg cur hb=>by
  have:=(hb.hF y).lt
  omega
 have D:=iy (iy aI y) ((H [] R).alloc (.cells #[Y l[k].o.id,.slice z l[k].o.fs.length b] 56));have cw:=iy cw ((H [] R).alloc (.cells #[Y l[k].o.id,.slice z l[k].o.fs.length b] 56));have bh:=V.hF aM;obtain⟨a,am,rfl,az,s,bk⟩:=kE cw X;obtain⟨i,ak,q,av,bl,_⟩:=kE aI X;subst q;have aK:=MX _ _ bl;obtain⟨au,ad,q,_,m,bm⟩:=kE D X;injection q with q;injection q with q _;subst q;have bn:=Bk.l8 m s O;clear aX z0 bj bz D aI aY b9 aW ap C y bl MX
 go_upto_region 7 with fail
 generalize R.heap.size=aR at*;generalize ag.heap.size=aP at*;generalize R.alloc (.cells #[Y l[k].o.id,.slice (j_ a) l[k].o.fs.length b] 56)=Q at*;obtain⟨v0,v1⟩:=L.iC;obtain⟨bq,bo⟩:=bf.iC;have aC:Q.cell? (Z a (f.toNat*2))=some (.bool l[k].o.fs[f.toNat].r):=(s.f_ _).trans (bk _ _ (j0 Vl.E (λ_=>rfl) l[k].o.fs f.toNat 0 ar X));have bV:=(s.f_ _).trans (bk _ _ (j0 Vl.E (λ_=>rfl) l[k].o.fs f.toNat 1 ar X));have bA:=s.hG (f.toNat*2);have a6:=s.hG (f.toNat*2+1)
 go_upto_region 8 with fail
 have N:I [a] Q ((Q.setCell (Z a (f.toNat*2)) (.bool v.r)).setCell (Z a (f.toNat*2+1)) (Y v.n)):=((H [a] Q).setCell (.inl J) _).setCell (.inl J) _
 have a8:Vs ((Q.setCell (Z a (f.toNat*2)) (.bool v.r)).setCell (Z a (f.toNat*2+1)) (Y v.n)) (j_ a) (l[k].o.fs.set f.toNat v):=by
  unfold Vs;rw[F1];exact pP Vl.E (λ_=>rfl) ar v (.bool v.r) (Y v.n) rfl s bk _ rfl
 have d:=d.gr N (zu (Bk.l8 d s O));have j:=j.gr N (zu (Bk.l8 j s O));have bf:=bf.gr N (zu (Bk.l8 bf s O));have m:=m.gr N (zu bn);have ai:=aM.hJ N (by intro x W;right;simp at W;omega);have bp:=V.hF ai;clear aC bV bA a6 v0 v1 bq bo N aM bh L s;generalize (Q.setCell (Z a (f.toNat*2)) (.bool v.r)).setCell (Z a (f.toNat*2+1)) (Y v.n)=P at*;have m0:=j.f_ 0;obtain⟨bq,bo⟩:=bf.iC;have aC:P.cell? (Z i (k*2))=some (Y l[k].o.id):=(m.f_ _).trans (bm _ _ (j0 Rw.E (λ_=>rfl) l k 0 S X));have bV:=(m.f_ _).trans (bm _ _ (j0 Rw.E (λ_=>rfl) l k 1 S X));have bA:=m.hG (k*2);have a6:=m.hG (k*2+1)
 go_upto_region 9 with fail
 have T:I [i] P ((P.setCell (Z i (k*2)) (Y l[k].o.id)).setCell (Z i (k*2+1)) (.slice (j_ a) l[k].o.fs.length b)):=((H [i] P).setCell (.inl J) _).setCell (.inl J) _
 have MU:Os ((P.setCell (Z i (k*2)) (Y l[k].o.id)).setCell (Z i (k*2+1)) (.slice (j_ a) l[k].o.fs.length b)) (j_ i) (l.set k ⟨⟨l[k].o.id,l[k].o.fs.set f.toNat v⟩,some (Z a 0),b⟩):=by
  unfold Os;rw[F1];exact pP Rw.E (λ_=>rfl) S ⟨⟨l[k].o.id,l[k].o.fs.set f.toNat v⟩,some (Z a 0),b⟩ _ _ (by simp[Rw.E]) m bm _ rfl
 have d:=d.gr T (zu (Bk.l8 d m O));have j:=j.gr T (zu (Bk.l8 j m O));have be:=Sl.it a8 m O T;have bt:=ai.hJ T (by intro x W;right;simp at W;omega);have aq:=bp.it m O T;clear aC bV bA a6 bq bo m0 a8 ai bp;generalize (P.setCell (Z i (k*2)) (Y l[k].o.id)).setCell (Z i (k*2+1)) (.slice (j_ a) l[k].o.fs.length b)=bC at*;have m0:=j.f_ 0;have n0:=d.f_ 0;have bA:=d.hG 0;go_wp2;have bu:=d.hV 0 (.slice (j_ i) l.length n);have G:=(H [w.heap.size+2] bC).setCell (p:=(Z (w.heap.size+2) 0)) (.inl J) (.slice (j_ i) l.length n);have hls:(l.set k ⟨⟨l[k].o.id,l[k].o.fs.set f.toNat v⟩,some (Z a 0),b⟩).length=l.length:=F1;refine lO #[.slice (j_ i) l.length n] (.bool true) bu underlying35 ⟨some (Z i 0),n,l.set k ⟨⟨l[k].o.id,l[k].o.fs.set f.toNat v⟩,some (Z a 0),b⟩,by rw[hls],by rw[hls];exact aL,?_,?_,?_,?_⟩
 .exact Sl.it MU d O G
 .refine(aq.hV (r:=⟨⟨l[k].o.id,l[k].o.fs.set f.toNat v⟩,some (Z a 0),b⟩) be (zu aZ)).it d O G
 .rw[sv,bU.out]
 .exact bt.hJ G (by intro x W;right;simp at W;omega)
def j3{n:Int}:Calls prog 196 #[Y n] w λe w'=>e=.returned (.agg #[.bool false,Y n])/\I [] w w':=by
 go_enter func196,ntmps196
 go_wp2;exact F6 (G5 rfl _ _ _ _ _ _ _ rfl (P_ w 38 #[.bool false,Y n]) underlying38 rfl k_) rfl ⟨rfl,(H _ _).alloc _⟩
def qR{b:Bool}:Calls prog 195 #[.bool b] w λe w'=>e=.returned (.agg #[.bool false,Y (if b=true then 1 else 0)])/\I [] w w':=by
 cases b
 all_goals
  go_enter func195,ntmps195
  go_wp2_with (go_at_call 196;refine(j3).mono ?_;rintro e l⟨rfl,c⟩;have a:=CV (p:=w.heap.size) c rfl;obtain⟨j,i⟩:=a.iC;have f:=a.hG 0;have d:=a.hG 1)
  refine F6 (G5 rfl _ _ _ _ _ _ _ rfl ((a.hV 0 _).hV 1 _) underlying38 rfl k_) rfl ⟨rfl,?_⟩;exact((((H _ _).alloc _).trans c).setCell (.inr J) _).setCell (.inr J) _
def sQ(v:Vl):Calls prog 166 #[.agg (V_ v)] w λe w'=>e=.returned (.bool (v.n !=0))/\I [] w w':=by
 go_enter func166,ntmps166
 go_wp2;go_ret;exact⟨rfl,(H _ _).alloc _⟩
def rB(op:Int):Bool:=decide (op=1∨(3<=op/\op<=9/\op≠4))
def uJ(a:Int)(w:World):Calls prog 179 #[Y a] w λe w'=>e=.returned (.bool (rB a))/\w=w':=by
 have HA:=U (show rB a=decide (a=1∨(3<=a/\a<=9/\a≠4)) from rfl)
 by_cases c:a=1
 .subst c
  go_enter func179,ntmps179
  go_wp2;go_ret;exact⟨rfl,by trivial⟩
 .have j:(a==1)=false:=zu c
  by_cases f:3<=a
  .by_cases d:a<=9
   .by_cases b:a=4
    .subst b
     go_enter func179,ntmps179
     go_wp2;go_ret;exact⟨rfl,by trivial⟩
    .have i:(a !=4)=true:=zu b;clear c
     go_enter func179,ntmps179
     go_wp2;go_ret;exact⟨iH (by rw[HA.out];symm;rw[GE];exact .inr ⟨f,d,b⟩),by trivial⟩
   .exact Lr
  .exact Lr
def Ad(x y:Vl)(w:World):(binOp .eql 38 (.agg (V_ x)) (.agg (V_ y))).run prog w=.ok (.bool (decide (x=y))) w:=by
 obtain⟨b,G⟩:=x;obtain⟨c,d⟩:=y;go_simp
 by_cases a:b=c
 .by_cases f:G=d<;>simp[a,f]
 .simp[a]
def pO(op x y:Int):Vl × Int:=
 if op=1 then(⟨false,wrap64 (x+y)⟩,0) else if op=2 then(⟨false,wrap64 (x-y)⟩,0) else if op=3 then(⟨false,wrap64 (x*y)⟩,0)
 else if op=4 then(if y=0 then(⟨false,0⟩, -3) else if y= -1 then(⟨false,wrap64 (-x)⟩,0) else(⟨false,wrap64 (x.tdiv y)⟩,0))
 else if op=5 then(⟨false,if y<x then y else x⟩,0) else if op=6 then(⟨false,if x<y then y else x⟩,0)
 else if op=7 then(⟨false,bits .and .i64 x y⟩,0) else if op=8 then(⟨false,bits .or .i64 x y⟩,0) else if op=9 then(⟨false,bits .xor .i64 x y⟩,0)
 else(⟨false,if x<y then 1 else 0⟩,0)
def iK(op:Int)(a b:Vl):Vl × Int:=
 if op=11 then(⟨false,if a=b then 1 else 0⟩,0) else if op<1∨11<op∨a.r=true∨b.r=true then(⟨false,0⟩, -2) else pO op a.n b.n
def qt(r:Vl × Int)(e:Ending):Prop:=e=.returned (.tuple #[.agg #[.bool r.1.r,Y r.1.n],Y r.2])
def zJ(i:Int)(l b:Vl)(w:World)(r:l.r=false)(s:b.r=false)(D:1<=i)(E:i<=10):
 Calls prog 164 #[Y i,.agg #[.bool l.r,Y l.n],.agg #[.bool b.r,Y b.n]] w λe w'=>qt (pO i l.n b.n) e/\I [] w w':=by
 obtain⟨-,-,-,MZ⟩:=wI w 38 #[.bool l.r,Y l.n] 38 #[.bool b.r,Y b.n] 38 #[.bool false,Y 0];have B:Bk (((w.alloc (.cells #[.bool l.r,Y l.n] 38)).alloc (.cells #[.bool b.r,Y b.n] 38)).alloc (.cells #[.bool false,Y 0] 38)) (w.heap.size+2) 38 #[.bool false,Y 0]:=zu (P_ ((w.alloc (.cells #[.bool l.r,Y l.n] 38)).alloc (.cells #[.bool b.r,Y b.n] 38)) 38 #[.bool false,Y 0]);obtain⟨z,x⟩:=l;obtain⟨F,y⟩:=b;simp only at r s;subst r;subst s;simp only at MZ B |-;have t:i=1∨i=2∨i=3∨i=4∨i=5∨i=6∨i=7∨i=8∨i=9∨i=10:=X
 rcases t with rfl|rfl|rfl|rfl|rfl|rfl|rfl|rfl|rfl|rfl
 .have az:=U (show pO 1 x y=((⟨false,wrap64 (x+y)⟩:Vl),(0:Int)) by simp[pO])
  go_enter func164,ntmps164
  go_wp2_with fail
  go_quiet (fail)
  go_wp2_with fail
  go_at_call 196
  refine(j3).mono ?_;rintro e j⟨rfl,M0⟩;have hB:=(B.drewN nq).hF M0;obtain⟨f,d⟩:=hB.iC;have c:=hB.hG 0;have a:=hB.hG 1;go_wp2;refine F6 (v:=.tuple #[.agg #[.bool false,Y (wrap64 (x+y))],Y 0]) (iG (p:=6) (u:=7) rfl rfl ((hB.hV 0 (.bool false)).hV 1 (Y (wrap64 (x+y)))) underlying38 rfl k_) rfl ⟨by unfold qt;rw[az.out],?_⟩;exact Mj
 .have az:=U (show pO 2 x y=((⟨false,wrap64 (x-y)⟩:Vl),(0:Int)) by simp[pO])
  go_enter func164,ntmps164
  go_wp2_with fail
  go_quiet (fail)
  go_wp2_with fail
  go_at_call 196
  refine(j3).mono ?_;rintro e j⟨rfl,M0⟩;have hB:=(B.drewN nq).hF M0;obtain⟨f,d⟩:=hB.iC;have c:=hB.hG 0;have a:=hB.hG 1;go_wp2;refine F6 (v:=.tuple #[.agg #[.bool false,Y (wrap64 (x-y))],Y 0]) (iG (p:=6) (u:=7) rfl rfl ((hB.hV 0 (.bool false)).hV 1 (Y (wrap64 (x-y)))) underlying38 rfl k_) rfl ⟨by unfold qt;rw[az.out],?_⟩;exact Mj
 .have az:=U (show pO 3 x y=((⟨false,wrap64 (x*y)⟩:Vl),(0:Int)) by simp[pO])
  go_enter func164,ntmps164
  go_wp2_with fail
  go_quiet (fail)
  go_wp2_with fail
  go_at_call 196
  refine(j3).mono ?_;rintro e j⟨rfl,M0⟩;have hB:=(B.drewN nq).hF M0;obtain⟨f,d⟩:=hB.iC;have c:=hB.hG 0;have a:=hB.hG 1;go_wp2;refine F6 (v:=.tuple #[.agg #[.bool false,Y (wrap64 (x*y))],Y 0]) (iG (p:=6) (u:=7) rfl rfl ((hB.hV 0 (.bool false)).hV 1 (Y (wrap64 (x*y)))) underlying38 rfl k_) rfl ⟨by unfold qt;rw[az.out],?_⟩;exact Mj
 .by_cases o:y=0
  .subst o;have az:=U (show pO 4 x 0=((⟨false,0⟩:Vl),((-3):Int)) by simp[pO])
   go_enter func164,ntmps164
   go_wp2_with fail
   go_quiet (fail)
   have hB:=B.drewN nq;obtain⟨f,d⟩:=hB.iC;have c:=hB.hG 0;have a:=hB.hG 1;go_wp2;refine lO #[.bool false,Y (0)] (Y (-3)) ((hB.hV 0 (.bool false)).hV 1 (Y (0))) underlying38 ⟨by unfold qt;rw[az.out],?_⟩;exact((MZ.drewN nq).setCell (.inr p_) _).setCell (.inr p_) _
  .have C:(y==0)=false:=zu o
   by_cases n:y= -1
   .subst n;have az:=U (show pO 4 x (-1)=((⟨false,wrap64 (-x)⟩:Vl),(0:Int)) by simp[pO])
    go_enter func164,ntmps164
    go_wp2_with fail
    go_quiet (fail)
    go_wp2_with fail
    go_at_call 196
    refine(j3).mono ?_;rintro e j⟨rfl,M0⟩;have hB:=(B.drewN nq).hF M0;obtain⟨f,d⟩:=hB.iC;have c:=hB.hG 0;have a:=hB.hG 1;go_wp2;refine F6 (v:=.tuple #[.agg #[.bool false,Y (wrap64 (-x))],Y 0]) (iG (p:=6) (u:=7) rfl rfl ((hB.hV 0 (.bool false)).hV 1 (Y (wrap64 (-x)))) underlying38 rfl k_) rfl ⟨by unfold qt;rw[az.out],?_⟩;exact Mj
   .have az:=U (show pO 4 x y=((⟨false,wrap64 (x.tdiv y)⟩:Vl),(0:Int)) by simp[pO,o,n]);have A:(y== -1)=false:=zu n;clear n
    go_enter func164,ntmps164
    go_wp2_with fail
    go_quiet (fail)
    go_wp2_with fail
    go_at_call 196
    refine(j3).mono ?_;rintro e j⟨rfl,M0⟩;have hB:=(B.drewN nq).hF M0;obtain⟨f,d⟩:=hB.iC;have c:=hB.hG 0;have a:=hB.hG 1;go_wp2;refine F6 (v:=.tuple #[.agg #[.bool false,Y (wrap64 (x.tdiv y))],Y 0]) (iG (p:=6) (u:=7) rfl rfl ((hB.hV 0 (.bool false)).hV 1 (Y (wrap64 (x.tdiv y)))) underlying38 rfl k_) rfl ⟨by unfold qt;rw[az.out],?_⟩;exact Mj
 .by_cases m:y<x
  .have az:=U (show pO 5 x y=((⟨false,y⟩:Vl),(0:Int)) by simp[pO,m])
   go_enter func164,ntmps164
   go_wp2_with fail
   go_quiet (fail)
   go_wp2_with fail
   go_at_call 196
   refine(j3).mono ?_;rintro e j⟨rfl,M0⟩;have hB:=(B.drewN nq).hF M0;obtain⟨f,d⟩:=hB.iC;have c:=hB.hG 0;have a:=hB.hG 1;go_wp2
   (try rw[show min x y=y from X])
   exact JV
  .have az:=U (show pO 5 x y=((⟨false,x⟩:Vl),(0:Int)) by simp[pO,m])
   go_enter func164,ntmps164
   go_wp2_with fail
   go_quiet (fail)
   go_wp2_with fail
   go_at_call 196
   refine(j3).mono ?_;rintro e j⟨rfl,M0⟩;have hB:=(B.drewN nq).hF M0;obtain⟨f,d⟩:=hB.iC;have c:=hB.hG 0;have a:=hB.hG 1;go_wp2
   (try rw[show min x y=x from X])
   exact JU
 .by_cases m:x<y
  .have az:=U (show pO 6 x y=((⟨false,y⟩:Vl),(0:Int)) by simp[pO,m])
   go_enter func164,ntmps164
   go_wp2_with fail
   go_quiet (fail)
   go_wp2_with fail
   go_at_call 196
   refine(j3).mono ?_;rintro e j⟨rfl,M0⟩;have hB:=(B.drewN nq).hF M0;obtain⟨f,d⟩:=hB.iC;have c:=hB.hG 0;have a:=hB.hG 1;go_wp2
   (try rw[show max x y=y from X])
   exact JV
  .have az:=U (show pO 6 x y=((⟨false,x⟩:Vl),(0:Int)) by simp[pO,m])
   go_enter func164,ntmps164
   go_wp2_with fail
   go_quiet (fail)
   go_wp2_with fail
   go_at_call 196
   refine(j3).mono ?_;rintro e j⟨rfl,M0⟩;have hB:=(B.drewN nq).hF M0;obtain⟨f,d⟩:=hB.iC;have c:=hB.hG 0;have a:=hB.hG 1;go_wp2
   (try rw[show max x y=x from X])
   exact JU
 .have az:=U (show pO 7 x y=((⟨false,bits .and .i64 x y⟩:Vl),(0:Int)) by simp[pO])
  go_enter func164,ntmps164
  go_wp2_with fail
  go_quiet (fail)
  go_wp2_with fail
  go_at_call 196
  refine(j3).mono ?_;rintro e j⟨rfl,M0⟩;have hB:=(B.drewN nq).hF M0;obtain⟨f,d⟩:=hB.iC;have c:=hB.hG 0;have a:=hB.hG 1;go_wp2;refine lO #[.bool false,Y (bits .and .i64 x y)] (Y 0) ((hB.hV 0 (.bool false)).hV 1 (Y (bits .and .i64 x y))) underlying38 ⟨by unfold qt;rw[az.out],?_⟩;exact Mj
 .have az:=U (show pO 8 x y=((⟨false,bits .or .i64 x y⟩:Vl),(0:Int)) by simp[pO])
  go_enter func164,ntmps164
  go_wp2_with fail
  go_quiet (fail)
  go_wp2_with fail
  go_at_call 196
  refine(j3).mono ?_;rintro e j⟨rfl,M0⟩;have hB:=(B.drewN nq).hF M0;obtain⟨f,d⟩:=hB.iC;have c:=hB.hG 0;have a:=hB.hG 1;go_wp2;refine lO #[.bool false,Y (bits .or .i64 x y)] (Y 0) ((hB.hV 0 (.bool false)).hV 1 (Y (bits .or .i64 x y))) underlying38 ⟨by unfold qt;rw[az.out],?_⟩;exact Mj
 .have az:=U (show pO 9 x y=((⟨false,bits .xor .i64 x y⟩:Vl),(0:Int)) by simp[pO])
  go_enter func164,ntmps164
  go_wp2_with fail
  go_quiet (fail)
  go_wp2_with fail
  go_at_call 196
  refine(j3).mono ?_;rintro e j⟨rfl,M0⟩;have hB:=(B.drewN nq).hF M0;obtain⟨f,d⟩:=hB.iC;have c:=hB.hG 0;have a:=hB.hG 1;go_wp2;refine lO #[.bool false,Y (bits .xor .i64 x y)] (Y 0) ((hB.hV 0 (.bool false)).hV 1 (Y (bits .xor .i64 x y))) underlying38 ⟨by unfold qt;rw[az.out],?_⟩;exact Mj
 .by_cases m:x<y
  .have az:=U (show pO 10 x y=((⟨false,1⟩:Vl),(0:Int)) by simp[pO,m])
   go_enter func164,ntmps164
   go_wp2_with fail
   go_quiet (fail)
   go_wp2_with fail
   go_at_call 195
   refine(qR).mono ?_;rintro e j⟨rfl,M0⟩;have hB:=(B.drewN nq).hF M0;obtain⟨f,d⟩:=hB.iC;have c:=hB.hG 0;have a:=hB.hG 1;go_wp2;refine lO #[.bool false,Y (1)] (Y 0) ((hB.hV 0 (.bool false)).hV 1 (Y (1))) underlying38 ⟨by unfold qt;rw[az.out],?_⟩;exact Mj
  .have az:=U (show pO 10 x y=((⟨false,0⟩:Vl),(0:Int)) by simp[pO,m])
   go_enter func164,ntmps164
   go_wp2_with fail
   go_quiet (fail)
   go_wp2_with fail
   go_at_call 195
   refine(qR).mono ?_;rintro e j⟨rfl,M0⟩;have hB:=(B.drewN nq).hF M0;obtain⟨f,d⟩:=hB.iC;have c:=hB.hG 0;have a:=hB.hG 1;go_wp2;refine lO #[.bool false,Y (0)] (Y 0) ((hB.hV 0 (.bool false)).hV 1 (Y (0))) underlying38 ⟨by unfold qt;rw[az.out],?_⟩;exact Mj
def mL(c:Int)(a b:Vl):
 Calls prog 164 #[Y c,.agg #[.bool a.r,Y a.n],.agg #[.bool b.r,Y b.n]] w λe w'=>qt (iK c a b) e/\I [] w w':=by
 obtain⟨-,-,-,MZ⟩:=wI w 38 #[.bool a.r,Y a.n] 38 #[.bool b.r,Y b.n] 38 #[.bool false,Y 0];have B:Bk (((w.alloc (.cells #[.bool a.r,Y a.n] 38)).alloc (.cells #[.bool b.r,Y b.n] 38)).alloc (.cells #[.bool false,Y 0] 38)) (w.heap.size+2) 38 #[.bool false,Y 0]:=zu (P_ ((w.alloc (.cells #[.bool a.r,Y a.n] 38)).alloc (.cells #[.bool b.r,Y b.n] 38)) 38 #[.bool false,Y 0])
 by_cases A:c=11
 .subst A
  by_cases d:a=b
  .have az:=U (show iK 11 a b=((⟨false,1⟩:Vl),(0:Int)) by simp[iK,d])
   have j:=λi=>(Ad a b i).trans (show _=Result.ok (Value.bool true) i by rw[Gd d])
   clear d
   go_enter func164,ntmps164
   go_wp2_with fail
   go_wp2_with fail
   go_at_call 195
   refine(qR).mono ?_;rintro e l⟨rfl,f⟩;have hB:=(B).hF f;obtain⟨MV,MU⟩:=hB.iC;have L:=hB.hG 0;have C:=hB.hG 1;go_wp2;refine lO #[.bool false,Y (1)] (Y 0) ((hB.hV 0 (.bool false)).hV 1 (Y (1))) underlying38 ⟨by unfold qt;rw[az.out],?_⟩;exact(((MZ.trans f)).setCell (.inr p_) _).setCell (.inr p_) _
  .have az:=U (show iK 11 a b=((⟨false,0⟩:Vl),(0:Int)) by simp[iK,d])
   have j:=λi=>(Ad a b i).trans (show _=Result.ok (Value.bool false) i by rw[GX d])
   clear d
   go_enter func164,ntmps164
   go_wp2_with fail
   go_wp2_with fail
   go_at_call 195
   refine(qR).mono ?_;rintro e l⟨rfl,f⟩;have hB:=(B).hF f;obtain⟨MV,MU⟩:=hB.iC;have L:=hB.hG 0;have C:=hB.hG 1;go_wp2;refine lO #[.bool false,Y (0)] (Y 0) ((hB.hV 0 (.bool false)).hV 1 (Y (0))) underlying38 ⟨by unfold qt;rw[az.out],?_⟩;exact(((MZ.trans f)).setCell (.inr p_) _).setCell (.inr p_) _
 .have l:(c==11)=false:=zu A
  by_cases i:c<1
  .have az:=U (show iK c a b=((⟨false,0⟩:Vl),(-2:Int)) by unfold iK;rw[R_ A,U_ (.inl i)]);exact JK
  .by_cases j:11<c
   .have az:=U (show iK c a b=((⟨false,0⟩:Vl),(-2:Int)) by unfold iK;rw[R_ A,U_ (.inr (.inl j))]);exact JK
   .cases d:a.r with
    |true=>
     have az:=U (show iK c a b=((⟨false,0⟩:Vl),(-2:Int)) by unfold iK;rw[R_ A,U_ (.inr (.inr (.inl d)))]);clear A;rw[d]at B MZ;exact JL
    |false=>
     cases f:b.r with
     |true=>
      have az:=U (show iK c a b=((⟨false,0⟩:Vl),(-2:Int)) by unfold iK;rw[R_ A,U_ (.inr (.inr (.inr f)))]);clear A;rw[d,f]at B MZ;exact JL
     |false=>
      have az:=U (show iK c a b=pO c a.n b.n by unfold iK;rw[R_ A,R_ (by rw[d,f];simp;omega)])
      have:=zJ c a b w d f X X
      rw[d,f]at this
      exact this.mono λe w' h=>⟨by rw[az.out];exact h.1,h.2⟩
structure In where
 op:Int
 a:Int
 b:Int
 c:Int
 n:Int
 deriving DecidableEq,Inhabited
def In.E(i:In):List Value:=[Y i.op,Y i.a,Y i.b,Y i.c,Y i.n]
def lV(l:List In):List Value:=l.flatMap In.E
def t_(a b:List In):lV (a++b)=lV a++lV b:=by simp[lV]
def xA{l:List In}:∀u∈lV l,u.oneCell'=true:=by
 intro u b;obtain⟨c,_,a⟩:=G3.1 b;simp[In.E]at a
 rcases a with rfl|rfl|rfl|rfl|rfl<;>rfl
def Is(w:World)(A:OA)(l:List In):Prop:=Sl w 189 5 A l.length (lV l)
def Is.hF{A:OA}{l:List In}(h:Is w A l)(a:I [] w w'):Is w' A l:=Sl.hF h a
def Is.at_{A:OA}{l:List In}(h:Is w A l)(f:k<l.length):
 ∃b off,A=some (Z b off)/\w.cell? (Z b (off+k*5))=some (Y l[k].op)/\w.cell? (Z b (off+k*5+1))=some (Y l[k].a)/\w.cell? (Z b (off+k*5+2))=some (Y l[k].b)/\w.cell? (Z b (off+k*5+3))=some (Y l[k].c)/\w.cell? (Z b (off+k*5+4))=some (Y l[k].n):=by
 obtain⟨b,off,hA,hc⟩:=Sl.f_ h X
 have g:=λi d=>jh In.E 5 (λ_=>rfl) l k i f d
 exact KN
def iB(l:List In)(pc:Int):Int:=if pc<0∨(l.length:Int)<=pc then -1 else(l.getD pc.toNat default).op
def qn(A:OA)(c:Nat)(l:List In)(hH hC pc:Int)(h:Is w A l)(o:l.length<=1000000000):
 Calls prog 133 #[.agg #[.slice A l.length c,Y hH,Y hC],Y pc] w λe w'=>e=.returned (Y (iB l pc))/\I [] w w':=by
 have b:=U (show iB l pc=if pc<0∨(l.length:Int)<=pc then -1 else(l.getD pc.toNat default).op from rfl);have a:=(H [] w).alloc (.cells #[.slice A l.length c,Y hH,Y hC] 26)
 by_cases f:pc<0
 .go_enter func133,ntmps133
  go_wp2;go_ret;exact⟨jZ (by rw[b.out,U_ (.inl f)]),a⟩
 .by_cases i:(l.length:Int)<=pc
  .go_enter func133,ntmps133
   go_wp2;go_ret;exact⟨jZ (by rw[b.out,U_ (.inr i)]),a⟩
  .have d:pc.toNat<l.length:=X;obtain⟨k,rfl⟩:∃k:Nat,pc=k:=⟨pc.toNat,(GM X).symm⟩;rw[Gs]at d;obtain⟨m,p,rfl,n,_,_,_,_⟩:=(h.hF a).at_ d;have j:(k:Int)<(l.length:Int):=X
   go_enter func133,ntmps133
   go_wp2;go_ret;exact⟨jZ (by rw[b.out,R_ X,Gs,List.getD,K_ d];rfl),a⟩
def mi(n:Int)(u:Bool):Bool:=n==0||(u&&(decide (0<n)&&decide (n<16)))
def uV{n:Int}{u:Bool}:Calls prog 178 #[Y n,.bool u] w λe w'=>e=.returned (.bool (mi n u))/\w=w':=by
 have a:=U (show mi n u=(n==0||(u&&(decide (0<n)&&decide (n<16)))) from rfl)
 by_cases d:n=0
 .subst d
  go_enter func178,ntmps178
  go_wp2;go_ret;exact⟨iH (by rw[a.out];rfl),by trivial⟩
 .have b:(n==0)=false:=zu d
  cases u with
  |false=>
   go_enter func178,ntmps178
   go_wp2;go_ret;exact⟨iH (by rw[a.out,b];rfl),by trivial⟩
  |true=>
   by_cases c:0<n
   .by_cases f:n<16
    .go_enter func178,ntmps178
     go_wp2;go_ret;exact⟨iH (by rw[a.out,b,Gd c,Gd f];rfl),by trivial⟩
    .have i:decide (n<16)=false:=zu f
     go_enter func178,ntmps178
     go_wp2;go_ret;exact⟨iH (by rw[a.out,b,Gd c,i];rfl),by trivial⟩
   .have f:decide (0<n)=false:=zu c
    go_enter func178,ntmps178
    go_wp2;go_ret;exact⟨iH (by rw[a.out,b,f];rfl),by trivial⟩
def pA(op:Int):Bool:=decide (1<=op/\op<=11)
def zh:Calls prog 208 #[] w λe w'=>∃(g:Nat) (cs:Array Value),e=.returned (.slice (j_ g) 12 12)/\Bk w' g 9 cs/\(∀k,k<12->∃s,cs[k]?=some (.string s))/\I [] w w':=by
 go_enter func208,ntmps208
 go_wp2;go_ret;refine⟨w.heap.size,_,rfl,P_ w _ _,λk b=>?_,(H _ _).alloc _⟩;have a:k=0∨k=1∨k=2∨k=3∨k=4∨k=5∨k=6∨k=7∨k=8∨k=9∨k=10∨k=11:=X
 rcases a with rfl|rfl|rfl|rfl|rfl|rfl|rfl|rfl|rfl|rfl|rfl|rfl<;>exact⟨_,rfl⟩
def FJ(b:Bool)(e:Ending):Prop:=∃s:ByteArray,e=.returned (.tuple #[.string s,.bool b])
def qM(op:Int):Calls prog 180 #[Y op] w λe w'=>FJ (pA op) e/\I [] w w':=by
 have bi:=U (show pA op=decide (1<=op/\op<=11) from rfl)
 by_cases j:op<1
 .exact Ku
 .by_cases l:11<op
  .exact Ku
  .have az:=U (show pA op=true by rw[bi.out];rw[GE];omega);obtain⟨k,rfl⟩:∃k:Nat,op=k:=⟨op.toNat,(GM X).symm⟩;have f:k<12:=X;have i:(k:Int)<12:=X
   go_enter func180,ntmps180
   go_wp2_with fail
   go_at_call 208
   refine(zh).mono ?_;rintro e o⟨g,cs,rfl,d,b,c⟩;obtain⟨n,a⟩:=b k f;have m:=(d.f_ k).trans a;clear b a;go_wp2
   go_ret2
   exact⟨by rw[az.out];exact⟨_,rfl⟩,c⟩
