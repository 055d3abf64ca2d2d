import Derived.Test.YtenbhdilndfaeaaGreatH01
import Derived.Test.YtenbhdilndfaeaaGreatRows
import Derived.Deep.CutBlock
import Derived.Deep.DeepCutAuto
import Derived.Deep.RegionHeld3
import Derived.Deep.RegionWith
import Derived.Laws.ResultCell
import Derived.WalkArith
set_option maxRecDepth 100000
set_option maxHeartbeats 0
set_option linter.all false
namespace Go.Proofs.YtenbhdilndfaeaaGreat
open Go.RowKit Go.Proofs.Tryz
variable{G:Prop}{w w':World}{B base g k len:Nat}{e:TypeId}{zs:QS}{α:Type}{cs:Array Value}
def JZ(h:G:=by
 go_enter func148,ntmps148;go_wp2_with fail;go_at_call 55;refine(qe A c l id (h.hF N2) hn).mono ?_;rintro e w2⟨rfl,N3⟩;have E:=P.gr N3 s_;obtain⟨U,af⟩:=E.iN;have D:=E.hG 0;have C:=E.hG 1;exact KV):G:=h
def KA(h:G:=by
 clear A;exact KC):G:=h
def KC(h:G:=by
 go_enter func164,ntmps164;go_wp2_with fail;have hB:=B;obtain⟨U,af⟩:=hB.iN;have D:=hB.hG 0;have C:=hB.hG 1;go_wp2;refine me #[.bool false,Y<|0] (Y<|-2) hB underlying38 ⟨by unfold qX;rw[aL.out],?_⟩;exact N2):G:=h
def KK(h:G:=by
 refine me #[.bool false,Y<|x] (Y 0) ((hB.hW 0<|.bool false).hW 1<|Y<|x) underlying38 ⟨by unfold qX;rw[aL.out],?_⟩;exact Nh):G:=h
def KL(h:G:=by
 refine me #[.bool false,Y<|y] (Y 0) ((hB.hW 0<|.bool false).hW 1<|Y<|y) underlying38 ⟨by unfold qX;rw[aL.out],?_⟩;exact Nh):G:=h
def KV(h:G:=by
 go_wp2;have q:=(E.hW 0<|.bool false).hW 1<|Y 0;refine me #[.bool false,Y 0] (.bool false) q underlying38 ⟨rfl,?_⟩;exact Nv):G:=h
def Lk(h:G:=by
 have aL:=O (show pX op=false by rw[a8.out];rw[IB];omega);go_enter func180,ntmps180;go_wp2
 go_ret2
 exact⟨by rw[aL.out];exact⟨_,rfl⟩,G_ _ _⟩):G:=h
def LM(h:G:=by
 go_wp2_with fail;go_quiet (fail);go_wp2;go_meet;exact⟨k,rfl,hk,.inr ⟨aZ.out,by rw[K.out,ao.out];omega⟩,F.drewN _⟩):G:=h
def Ml(h:G:=by
 go_enter func179,ntmps179;go_wp2;go_ret;exact⟨iJ (by rw[HA.out];symm;rw[IB];omega),by trivial⟩):G:=h
def Na(h:G:=by
 exact((a2.gr [] w S.size bo.drew).setCell (.inr p_) _).setCell (.inr p_) _):G:=h
def Nh(h:G:=by
 exact((((N2.drewN nq).trans N3)).setCell (.inr p_) _).setCell (.inr p_) _):G:=h
def Nv(h:G:=by
 exact((N2.trans N3).setCell (.inr s_) _).setCell (.inr s_) _):G:=h
def iV(w:World)(B g:Nat):Prop:=∃(A:OA) (n c:Nat) (i:Nat) (zs:QS),Bk w g 112 #[.slice A n c,Y i]/\i<=n/\n<=200/\n<=c/\
 (∃e,Sl w e 1 A n<|zs.map<|.int .u8)/\(∀j,0<=zs.getD j 0/\zs.getD j 0<256)/\(0<n->∀b off,A=some (Z b off)->b≠g/\b<B)/\g<B
def iV.iF(h:iV w B g)(j:∀k,k<B->k<w.heap.size->w'.heap[k]?=w.heap[k]?):iV w' B g:=by
 obtain⟨n,y,q,v,zs,f,s,t,p,⟨e,a⟩,o,c,d⟩:=h;refine⟨n,y,q,v,zs,(j g d f.lt).trans f,s,t,p,⟨e,a.1,λl=>?_⟩,o,c,d⟩;obtain⟨b,m,cs,r,i,hb,u⟩:=a.2 l;refine⟨b,m,cs,r,i,(j b (c l b m i).2 ?_).trans hb,u⟩;exact M1
def iV.hF(h:iV w B g)(a:J [] w w'):iV w' B g:=h.iF λk _ b=>a.block k b s_
def iV.ir{M:QY}(h:iV w B g)(a:J M w w')(z:∀x∈M,B<=x):iV w' B g:=h.iF λk d b=>a.block k b (λc=>by have:=z k c;omega)
def iV.app(h:iV w B g)(b:App base e w w')(c:B<=base):iV w' B g:=h.iF λk d a=>by
 rw[b.iF k w.heap[k] (GQ a)<|.inl X,GQ a]
def iV.lt(h:iV w B g):g<w.heap.size:=by
 obtain⟨b,f,c,d,zs,a,_⟩:=h;exact a.lt
def iV.yw(h:iV w B g):g<B:=by
 obtain⟨a,d,b,c,zs,_,_,_,_,_,_,_,h⟩:=h;exact h
def iV.bk(h:iV w B g):∃cs,Bk w g 112 cs:=by
 obtain⟨b,f,c,d,zs,a,_⟩:=h;exact⟨_,a⟩
def iD(B g:Nat)(n:Int)(F:iV w B g)(T:1<=n)(M:n<=1000000):
 Calls prog 19 #[q_ g,Y n] w λe w'=>∃r:Int,e=.returned (Y r)/\0<=r/\r<n/\iV w' B g/\J [g] w w':=by
 obtain⟨l,k,i,a,zs,b,R,t,m,⟨q,c⟩,f,d,s⟩:=F;have P:w.cell? (Z g 0)=some (.slice l k i):=(b.f_ 0).trans rfl;have O:w.cell? (Z g 1)=some (Y a):=(b.f_ 1).trans rfl;have K:=b.hG 1;by_cases Q:a<k
 .obtain⟨o,u,j,C⟩:=c.f_ X;have S:=(d X o u j).1;have N:=j;subst j;have L:w.cell? (Z o<|u+a)=some (.int .u8<|zs.getD a 0):=C a _ (by
   have H:a<zs.length:=by have:=c.1;simp at this;omega
   simp[Hg,O_ H,List.getD])
  go_enter func19,ntmps19;go_wp2_with fail;go_quiet (fail);go_wp2;have z:IntKind.i64.wrap (a:Int)=(a:Int):=G9 _ X;have A:(a:Int)<(k:Int):=X;have D:(0:Int)<=(a:Int):=X;go_quiet (fail);clear z A D;go_wp2;go_ret;have y:0<=zs[a]?.getD 0/\zs[a]?.getD 0<256:=f a;rw[IntWalk.wrap64_in _ X];refine⟨_,rfl,?_,?_,⟨_,k,i,a+1,zs,((b.drewN _).hW 1 _).drewN _,X,t,m,⟨q,?_⟩,f,λ_=>d X,s⟩,?_⟩;exact Int.tmod_nonneg _ y.1;exact Int.tmod_lt_of_pos _ X;refine Sl.drewN (c.iF λp v E I=>(((G_ [g] w).drewN _).setCell (.inl s_) _).block p I ?_) _;have:=(d X p v E).1;exact NW;exact(((G_ _ w).drewN _).setCell (.inl s_) _).drewN _
 have j:a=k:=X;subst j;go_enter func19,ntmps19;go_wp2_with fail;go_quiet (fail);go_wp2;go_ret;exact⟨0,rfl,X,X,⟨l,a,i,a,zs,b.drewN _,I_ _,t,m,⟨q,c⟩,f,d,s⟩,(G_ _ w).drewN _⟩
def Di(A:OA)(n c:Nat)(zs:QS)(l:TypeId)(h:Sl w l 1 A n<|zs.map<|.int .u8)(t:∀i,0<=zs.getD i 0/\zs.getD i 0<256)(G:n<=c)(F:n<=9223372036854775807):
 Calls prog 54 #[.slice A n c] w λe w'=>∃g,e=.returned (q_ g)/\w.heap.size<=g/\iV w' w'.heap.size g/\J [] w w':=by
 have j:0<n->∀a d,A=some (Z a d)->a<w.heap.size:=by
  intro s a d f;obtain⟨p,u,cs,q,b,m,_⟩:=h.2 s;rw[f]at b;injection b with b;injection b with b _;subst b;rcases GU a w.heap.size with j|y
  exact j;rw[GH y]at m;cases m
 by_cases D:200<n
 .have j:=j X;obtain⟨p,u,b,_⟩:=h.f_ X;have E:=b;subst b;have v:Sl w l 1 (some<|Z p u) 200 ((zs.take 200).map<|.int .u8):=by
   refine⟨by have:=h.1;simp at this |-;omega,λ_=>?_⟩;obtain⟨a,d,cs,q,f,m,z⟩:=h.2 X;refine⟨a,d,cs,q,f,m,λi C o=>z i C ?_⟩;rw[Hg,Hv]at o;split at o;rw[Hg];exact o;simp at o
  go_enter func54,ntmps54;go_wp2;go_ret;refine⟨_,rfl,I_ _,⟨_,200,c,0,zs.take 200,T_ w _ _,X,X,X,⟨l,v.alloc _⟩,λi=>?_,λ_ a d f=>by have:=j a d f;simp;omega,s_⟩,(G_ _ w).alloc _⟩;by_cases r:i<200;simpa[Hv,r]using t i;simp[Hv,r]
 go_enter func54,ntmps54;go_wp2;go_ret;exact⟨_,rfl,I_ _,⟨A,n,c,0,zs,T_ w _ _,X,X,G,⟨l,h.alloc _⟩,t,λs a d f=>by have:=j X a d f;simp;omega,s_⟩,(G_ _ w).alloc _⟩
def CW(h:∀n∈zs,(Lit.int .u8 n).wf=true):∀a,0<=(zs.take len).getD a 0/\(zs.take len).getD a 0<256:=by
 intro a;by_cases b:a<(zs.take len).length;have c:(zs.take len).getD a 0∈zs:=by
  simp only[List.getD,O_ b,HO];exact Hk<|P_ b
 have:=bounds_u8<|h _ c;omega;simp[List.getD,G7<|Nat.le_of_not_lt b]
def wH{k:IntKind}{x:Addr}(r:len<=zs.length)(hc:∀i,i<zs.length->w.cell? (x.add i)=some (.int k<|zs.getD i 0)):
 ∃e,Sl w e 1 (some x) len ((zs.take len).map<|.int k):=by
 by_cases n:len=0;subst n;exact⟨0,by simpa using HB w 0 1 (some x)⟩;have a:=hc 0 X;have l:x.add 0=x:=by simp[Addr.add]
 rw[l]at a;obtain⟨d,p,m⟩:=x;unfold World.cell? at a;cases b:w.heap[d]? with
 |none=>rw[b]at a;simp at a
 |some o=>
  rw[b]at a;cases o with
  |cells cs e f=>
   cases m with
   |some c=>simp at a
   |none=>
    refine⟨e,p_,λ_=>⟨d,p,cs,f,rfl,b,λj s c=>?_⟩⟩;rw[Hg,Hv]at c;split at c;rename_i q;have:=hc j X;rw[oV,cell_of_row w d _ cs e f b]at this;rw[this,<-c];simp[List.getD,O_ (show j<zs.length by omega)];simp at c
  |_=>simp at a
structure Vl where
 r:Bool
 n:Int
 deriving DecidableEq,Inhabited
abbrev QB:=List Vl
structure Ob where
 id:Int
 fs:List Vl
 deriving DecidableEq,Inhabited
abbrev QQ:=List Ob
abbrev V_(x:Vl):Array Value:=#[.bool x.r,Y x.n]
def Vl.E(v:Vl):List Value:=[.bool v.r,Y v.n]
def jo(l:QB):List Value:=l.flatMap Vl.E
def jy(h:QQ)(id:Int):Option Ob:=h.find? λo=>o.id==id
def ph{h:QQ}{id:Int}{a:Ob}(b:jy h id=some a):a.id=id:=by
 have:=List.find?_some b;exact NW
def pZ{h:QQ}{id:Int}{a:Ob}(b:jy h id=some a):a∈h:=List.mem_of_find?_eq_some b
def qP{c:Type}(f:α->c){p:c->Bool}(q:α->Bool)(l:List α)(k:Nat)(h:∀a∈l,p (f a)=q a):iK p (l.map f) k=iK q l k:=by
 induction l generalizing k with
 |nil=>rfl
 |cons a l b=>simp only[Hs,iK];rw[h a s_,b (k+1) λd i=>h d<|by simp[i]]
section
variable{h x:QQ}{roots:QB}{ro:Ob->Ob}{rv:Vl->Vl}
end
def jx(h:QQ)(id:Int):Int:=iK (λo:Ob=>o.id==id) h 0
def mI:List Ob->Int->Nat
 |[],_=>0
 |o::l,id=>if o.id<id then mI l id+1 else 0
def kS(h:QQ)(o:Ob):List Ob:=
 if jx h o.id<0 then h.take (mI h o.id)++[o]++h.drop (mI h o.id) else h.take (jx h o.id).toNat++[o]++h.drop ((jx h o.id).toNat+1)
def infoVl:(prog.info? 38).map (λi=>(i.zero,i.size,i.bytes))=some (some<|.agg #[.bool false,Y 0],2,16):=by kernel_rfl
def infoOb:(prog.info? 56).map (λi=>(i.zero,i.size,i.bytes))=some (some<|.agg #[Y 0,n_],2,32):=by kernel_rfl
def wX(f:α->List Value)(c:∀b,(f b).length=2)(l:List α):(l.flatMap f).length=l.length*2:=by
 induction l with
 |nil=>rfl
 |cons x l a=>simp only[Hc,M_,c,a,GI];omega
def j7(f:α->List Value)(b:∀i,(f i).length=2)(l:List α)(k a:Nat)(c:k<l.length)(j:a<2):(l.flatMap f)[k*2+a]?=(f l[k])[a]?:=by
 induction l generalizing k with
 |nil=>simp at c
 |cons x l d=>
  cases k with
  |zero=>simp only[Hc,IA,U_,HL];rw[HN<|by rw[b];exact j]
  |succ k=>
   simp only[Hc,Iq];rw[HV (by rw[b];omega),b,show(k+1)*2+a-2=k*2+a by omega];exact d k<|zu c
structure Rw where
 o:Ob
 A:Option Addr
 c:Nat
abbrev QT:=List Rw
def Rw.E(r:Rw):List Value:=[Y r.o.id,.slice r.A r.o.fs.length r.c]
def jw(l:QT):List Value:=l.flatMap Rw.E
def hY(l:QT):List Ob:=l.map Rw.o
def l3(l:QB):(jo l).length=l.length*2:=wX Vl.E (λ_=>rfl) l
def lC(l:QT):(jw l).length=l.length*2:=wX Rw.E (λ_=>rfl) l
def qz(a b:QB):jo (a++b)=jo a++jo b:=by simp[jo]
def mY(a b:QT):jw (a++b)=jw a++jw b:=by simp[jw]
def nM(l:QB):∀u∈jo l,u.oneCell'=true:=by
 intro u b;obtain⟨c,_,a⟩:=H0.1 b;simp[Vl.E]at a;rcases a with rfl|rfl<;>rfl
def j9(l:QT):∀u∈jw l,u.oneCell'=true:=by
 intro u b;obtain⟨c,_,a⟩:=H0.1 b;simp[Rw.E]at a;rcases a with rfl|rfl<;>rfl
def m5(n:Int):Prop:=(Lit.int .i64 n).wf=true
def Vs(w:World)(A:OA)(l:QB):Prop:=Sl w 38 2 A l.length<|jo l
def nv(w:World)(l:QT):Prop:=∀r∈l,Vs w r.A r.o.fs/\r.o.fs.length<=1000000000
def Os(w:World)(A:OA)(l:QT):Prop:=Sl w 56 2 A l.length<|jw l
def Vs.hF{A:OA}{l:QB}(h:Vs w A l)(a:J [] w w'):Vs w' A l:=Sl.hF h a
def Os.hF{A:OA}{l:QT}(h:Os w A l)(a:J [] w w'):Os w' A l:=Sl.hF h a
def nv.hF{l:QT}(h:nv w l)(c:J [] w w'):nv w' l:=λb a=>⟨(h b a).1.hF c,(h b a).2⟩
def Vs.alloc{A:OA}{l:QB}(h:Vs w A l)(a:Obj):Vs (w.alloc a) A l:=Sl.alloc h a
def Os.alloc{A:OA}{l:QT}(h:Os w A l)(a:Obj):Os (w.alloc a) A l:=Sl.alloc h a
def nv.alloc{l:QT}(h:nv w l)(a:Obj):nv (w.alloc a) l:=h.hF<|(G_ [] w).alloc a
def Vs.drew{A:OA}{l:QB}(h:Vs w A l):Vs w.drew A l:=h
def Os.drew{A:OA}{l:QT}(h:Os w A l):Os w.drew A l:=h
def nv.drew{l:QT}(h:nv w l):nv w.drew l:=h
def Vs.at_{A:OA}{l:QB}(h:Vs w A l)(hk:k<l.length):
 ∃b off,A=some (Z b off)/\w.cell? (Z b<|off+k*2)=some (.bool l[k].r)/\w.cell? (Z b<|off+k*2+1)=some (Y l[k].n):=by
 exact Li
def Os.at_{A:OA}{l:QT}(h:Os w A l)(hk:k<l.length):
 ∃b off,A=some (Z b off)/\w.cell? (Z b<|off+k*2)=some (Y l[k].o.id)/\w.cell? (Z b<|off+k*2+1)=some (.slice l[k].A l[k].o.fs.length l[k].c):=by
 exact Lj
def Ct{r:Rw}(h:Bk w g 56 #[Y r.o.id,.slice r.A r.o.fs.length r.c]):Os w (j_ g) [r]:=
 ⟨rfl,λ_=>⟨g,0,_,_,rfl,h,λb c a=>by
   have:b<2:=by
    rcases GU b 2 with h|h
    exact h;rw[G7<|by simpa[jw,Rw.E]using h]at a;cases a
   rcases b with _|_|b
   simpa[jw,Rw.E]using a;simpa[jw,Rw.E]using a;omega⟩⟩
def Fm{v:Vl}(h:Bk w g 38<|V_ v):Vs w (j_ g) [v]:=
 ⟨rfl,λ_=>⟨g,0,_,_,rfl,h,λb c a=>by
   have:b<2:=by
    rcases GU b 2 with h|h
    exact h;rw[G7<|by simpa[jo,Vl.E]using h]at a;cases a
   rcases b with _|_|b
   simpa[jo,Vl.E]using a;simpa[jo,Vl.E]using a;omega⟩⟩
def iI{P:Program}{c:Func}{p u:Tmp}{b:TypeId}(h:c.results=#[.cell p b,.tmp u]){a:Array Value}{w:World}{g:Nat}{t:TypeId}{cs:Array Value}{f:Nat × Nat}{d:TypeDesc}
 (n:a.getD p undef=q_ g) (l:w.heap[g]?=some (.cells cs t f))
 (o:P.underlying b=some d) (j:(match d with| .struct _| .array _ _=>true|_=>false)=true) (m:(P.info? b).map (·.size)=some cs.size):
 (results c a).run P w=.ok (.tuple #[.agg cs,a.getD u undef]) w:=by
 rw[results_cell_tmp h];have i:a[p]?.getD undef=q_ g:=zu n;simp[i,asAddr,run_loadVar_row w g t b cs f d l o j m,Result.andThen]
def EC{i:Int}{fs:QB}{B:OA}{n d:Nat}(h:Bk w g 56 #[Y i,.slice B n d])(a:fs.length=n):Sl w 56 2 (j_ g) 1 (jw [⟨⟨i,fs⟩,B,d⟩]):=by
 subst a;exact Ct (r:=⟨⟨i,fs⟩,B,d⟩) h
def nv.iy{l:QT}{t:TypeId}(h:nv w l)(f:Bk w g t cs)(c:38≠t)(d:J [g] w w'):nv w' l:=λb a=>⟨Sl.iy (h b a).1 f c d,(h b a).2⟩
def me{P:Program}{fn:Func}{R:Ending->World->Prop}{a:Act}{w:World}{p u:Tmp}{ty:TypeId}{g:Nat}{t:TypeId}{fr:Nat × Nat}{d:TypeDesc}(cs:Array Value)(y:Value)(hg:w.heap[g]?=some (.cells cs t fr))(hu:P.underlying ty=some d)(hR:R (.returned<|.tuple #[.agg cs,y]) w)
 (h:fn.results=#[.cell p ty,.tmp u]:=by rfl) (hp:a.tmps.getD p undef=q_ g:=by rfl) (hd:(match d with|.struct _|.array _ _=>true|_=>false)=true:=by rfl) (hi:(P.info? ty).map (·.size)=some cs.size:=by kernel_rfl) (hy:a.tmps.getD u undef=y:=by rfl) (hf:a.defers=[]:=by rfl):bodyPost P fn R .ret a w:=Ha (v:=.tuple #[.agg cs,y]) (by rw[<-hy];exact iI h hp hg hu hd hi) hf hR
def qe(A:OA)(c:Nat)(l:QT)(id:Int)(h:Os w A l)(y:l.length<=1000000000):
 Calls prog 55 #[.agg #[.slice A l.length c],Y id] w λe w'=>e=.returned (Y<|jx (hY l) id)/\J [] w w':=by
 have n:=O (show jx (hY l) id=iK (λi:Rw=>i.o.id==id) l 0 by unfold jx hY;exact qP _ _ _ _ λ_ _=>rfl);generalize u:l.length=a at*;have m:Bk (w.alloc<|.cells #[.slice A a c] 35) w.heap.size 35 #[.slice A a c]:=T_ w _ _;have t:(w.alloc<|.cells #[.slice A a c] 35).cell? (Z w.heap.size 0)=some (.slice A a c):=m.f_ 0;go_enter func55,ntmps55;go_wp2;go_loopw [10] (λf w'=>∃k:Nat,k<=a/\f=Y k/\jx (hY l) id=iK (λi:Rw=>i.o.id==id) (l.drop k) k/\J [] w w') (λf _=>a-(intOf f).toNat)
 case atStart=>exact⟨0,R_ _,rfl,n.out,(G_ _ _).alloc _⟩
 obtain⟨k,v,rfl,G,F⟩:=hrel;have HI:=O G;clear G;by_cases p:k<a
 .have j:k<l.length:=X;obtain⟨q,z,rfl,s,r⟩:=(h.hF F).at_ j;by_cases d:l[k].o.id=id
  .have b:(l[k].o.id==id)=true:=by simp[d]
   clear d;go_wp2;go_ret;exact⟨kD (by rw[HI.out,l4 _ _ _ _ X b]),F.alloc _⟩
  have b:(l[k].o.id==id)=false:=by simp[d]
  go_wp2;go_roundw;exact⟨k+1,X,gn,by rw[HI.out,kO _ _ _ _ X b],F.alloc _⟩;exact mz
 exact Nu
def tV{f:TypeId}(a:Ob)(A:OA)(c:Nat)(w:World)(h:Sl w f 2 A a.fs.length<|jo a.fs)(K:a.fs.length<=1000000000):
 Calls prog 56 #[.agg #[Y a.id,.slice A a.fs.length c]] w λe w'=>∃(A':OA) (c':Nat),
  e=.returned (.agg #[Y a.id,.slice A' a.fs.length c'])/\w'.ownsRow w.heap.size 38 2 (.slice A' a.fs.length c') a.fs.length (jo a.fs)/\J [] w w':=by
 obtain⟨D,C,y,E,F⟩:=info_parts infoVl;obtain⟨id,l⟩:=a;simp only at h K |-;obtain⟨o,-,-⟩:=qU w 56 #[Y id,.slice A l.length c] 56 #[Y 0,n_];obtain⟨T,U⟩:=o.iN;obtain⟨-,z,-⟩:=qU w 56 #[Y id,.slice A l.length c] 56 #[Y 0,n_];have s:=(h.alloc<|.cells #[Y id,.slice A l.length c] 56).alloc<|.cells #[Y 0,n_] 56;have t:=((G_ [] w).alloc<|.cells #[Y id,.slice A l.length c] 56).alloc<|.cells #[Y 0,n_] 56;have r:w.heap.size+1≠w.heap.size:=X;generalize H:l.length=i at*;clear H
 go_enter func56,ntmps56;go_wp2_with (at_builtin;refine iQ _ rfl (.const<|n_) (.tmp 4) 54 rfl w.heap.size 38 D _ 2 16 underlying54 C y E F rfl I I none 0 0 [] rfl (i4 _ _ _ _) _ i c _ rfl s (nM _) X p_ ?_;intro d b L q m;simp only[U_,G0]at q;have n:=m.bk o I;have j:=m.bk z I;obtain⟨S,R⟩:=n.iN;have M:=n.hG 1;obtain⟨P,Q⟩:=j.iN;have O:=j.hG 0;have N:=j.hG 1);have u:=((j.ir (p:=(Z w.heap.size 1)) r<|.slice d i b).hW 0<|Y id).hW 1<|.slice d i b;refine rr_ #[Y id,.slice d i b] u underlying56 ⟨d,b,rfl,?_,?_⟩;have v:=kX q n I<|(G_ [w.heap.size] L).setCell (p:=(Z w.heap.size 1)) (.inl s_)<|.slice d i b;exact kX v (j.ir (p:=(Z w.heap.size 1)) r<|.slice d i b) I<|((G_ [w.heap.size+1] _).setCell (.inl s_) _).setCell (.inl s_) _;exact(((m.gr [] w (I_ _) t).setCell (.inr s_) _).setCell (.inr s_) _).setCell (.inr s_) _
def tW{f:TypeId}(a:Ob)(A:OA)(c:Nat)(w:World)(h:Sl w f 2 A a.fs.length<|jo a.fs)(j:a.fs.length<=1000000000):
 Calls prog 56 #[.agg #[Y a.id,.slice A a.fs.length c]] w λe w'=>∃(A':OA) (c':Nat),
  e=.returned (.agg #[Y a.id,.slice A' a.fs.length c'])/\Vs w' A' a.fs/\J [] w w':=
 (tV a A c w h j).mono λ_ _⟨A',c',b,d,i⟩=>⟨A',c',b,Sl.iZ d,i⟩
def Dr{h:QQ}{id:Int}(b:k<h.length)(a:h[k].id<id):mI (h.drop k) id=mI (h.drop<|k+1) id+1:=by
 rw[W_ b];simp[mI,a]
def Dt{h:QQ}{id:Int}(b:k<h.length)(a:¬h[k].id<id):mI (h.drop k) id=0:=by
 rw[W_ b];simp[mI,a]
def B8{h:QQ}{id:Int}(a:h.length<=k):mI (h.drop k) id=0:=by
 rw[Hd a];rfl
def Ae(f:α->List Value)(a:∀c,(f c).length=2)(l:List α)(k:Nat):(l.take k).flatMap f=(l.flatMap f).take (k*2):=by
 induction l generalizing k with
 |nil=>simp
 |cons x l b=>
  cases k with
  |zero=>simp
  |succ k=>
   rw[IQ,Hc,Hc,b,List.take_append,a,GY (l:=f x) (by rw[a];omega),show(k+1)*2-2=k*2 by omega]
def Os.take{A:OA}{l:QT}(h:Os w A l)(p:k<=l.length):Sl w 56 2 A k (jw<|l.take k):=by
 refine⟨by rw[lC,Hj];omega,λo=>?_⟩;obtain⟨b,m,cs,c,d,f,i⟩:=h.2 X;refine⟨b,m,cs,c,d,f,λj n a=>i j n ?_⟩;unfold jw at a;rw[Ae Rw.E λ_=>rfl,Hv]at a;split at a;exact a;cases a
def Os.drop{A:OA}{l:QT}(h:Os w A l)(u:k<=l.length)(q:Nat)(r:l.length<=q):Sl w 56 2 (if q=k then A else A.map (·.add (k*2))) (l.length-k) (jw<|l.drop k):=by
 refine⟨by rw[lC,Ib],λs=>?_⟩;obtain⟨f,o,cs,i,j,m,n⟩:=h.2 X;subst j;rw[K_ X];refine⟨f,o+k*2,cs,i,by simp[oV],m,λa p b=>?_⟩;rw[Ik];refine n _ p ?_;have t:a<(l.length-k)*2:=by
  rcases GU a ((l.length-k)*2)with h|h
  exact h;rw[G7<|by rw[lC,Ib];exact h]at b;cases b
 have c:=j7 Rw.E (λ_=>rfl) (l.drop k) (a / 2) (a % 2) (by rw[Ib];omega)<|Nat.mod_lt _ X;have d:=j7 Rw.E (λ_=>rfl) l (k+a / 2) (a % 2) X<|Nat.mod_lt _ X;rw[show a / 2*2+a % 2=a by omega]at c;rw[show(k+a / 2)*2+a % 2=k*2+a by omega]at d;unfold jw at b |-;rw[d,<-b,c,List.getElem_drop]
def tM(l:QT)(k m:Nat)(r:Rw):List Rw:=l.take k++[r]++l.drop m
def ze(l:QT)(k m:Nat)(r:Rw):hY (tM l k m r)=(hY l).take k++[r.o]++(hY l).drop m:=by
 simp[tM,hY,List.map_take,List.map_drop]
def App.uo{t:TypeId}(h:App base e w w')(b:Bk w g t cs)(a:g<base):Bk w' g t cs:=h.iF _ _ b<|.inl a
def wJ{h:QT}{m:Nat}{r:Rw}(b:m<=h.length)(a:k<=h.length):(tM h k m r).length=k+1+(h.length-m):=by
 simp[tM];omega
def y8{h:QT}{m:Nat}{id:Int}{fs:QB}{A:OA}{c:Nat}(d:nv w h)(i:Vs w A fs)(f:fs.length<=1000000000):nv w (tM h k m ⟨⟨id,fs⟩,A,c⟩):=by
 intro b a;unfold tM at a;rcases X_.1 a with a|a
 rcases X_.1 a with a|a
 .exact d b<|Hk a
 have:b=⟨⟨id,fs⟩,A,c⟩:=zu a;subst this;exact⟨i,f⟩;exact d b<|If a
def App.ll{l:QT}(h:App base 56 w w')(a:nv w l):nv w' l:=λc b=>⟨h.sl (a c b).1 I,(a c b).2⟩
def vU{f:TypeId}(m:OA)(hc:Nat)(h:QT)(id:Int)(A:OA)(c:Nat)(fs:QB)(E:Os w m h)(hR:nv w h)(bZ:h.length<=hc)(hv:Sl w f 2 A fs.length<|jo fs)(hn1:fs.length<=1000000000)(aK:h.length<=999999999):
 Calls prog 123 #[.agg #[.slice m h.length hc],.agg #[Y id,.slice A fs.length c]] w λe w'=>∃(A':OA) (c':Nat) (rs:QT),
  e=.returned (.agg #[.slice A' rs.length c'])/\rs.length<=c'/\Os w' A' rs/\nv w' rs/\hY rs=kS (hY h) ⟨id,fs⟩/\J [] w w':=by
 obtain⟨i1,T,U,V,W⟩:=info_parts infoOb;obtain⟨ad,al,-,-,bt⟩:=DX w 35 #[.slice m h.length hc] 56 #[Y id,.slice A fs.length c] 35 #[n_] 35 #[n_];have B:Bk ((((w.alloc<|.cells #[.slice m h.length hc] 35).alloc<|.cells #[Y id,.slice A fs.length c] 56).alloc<|.cells #[n_] 35).alloc<|.cells #[n_] 35) (w.heap.size+2) 35 #[n_]:=zu<|(T_ ((w.alloc<|.cells #[.slice m h.length hc] 35).alloc<|.cells #[Y id,.slice A fs.length c] 56) 35 #[n_]).alloc<|.cells #[n_] 35;have an:Bk ((((w.alloc<|.cells #[.slice m h.length hc] 35).alloc<|.cells #[Y id,.slice A fs.length c] 56).alloc<|.cells #[n_] 35).alloc<|.cells #[n_] 35) (w.heap.size+3) 35 #[n_]:=zu<|T_ (((w.alloc<|.cells #[.slice m h.length hc] 35).alloc<|.cells #[Y id,.slice A fs.length c] 56).alloc<|.cells #[n_] 35) 35 #[n_];have h0:=ad.f_ 0;obtain⟨h1,h2⟩:=al.iN;go_enter func123,ntmps123;go_wp2_with fail;go_at_call 55;refine(qe m hc h id (E.hF bt) X).mono ?_;rintro e w1⟨rfl,D⟩;have N3:=bt.trans D;have aA:=ad.gr D s_;have bd:=al.gr D s_;have br:=B.gr D s_;have bJ:=an.gr D s_;have ak:=bJ.lt;clear bt ad al B an h0 h1 h2 D;have R:=O (show -1<=jx (hY h) id/\jx (hY h) id<h.length by have:=nI (λo:Ob=>o.id==id) (hY h) 0;simp[hY]at this;unfold jx;simpa[hY]using this);have aJ:w.heap.size=w.heap.size:=rfl;generalize aQ:jx (hY h) id=s at*;have a7:=O aQ;clear aQ;have Q:=O (show(hY h).length=h.length by simp[hY]);go_upto_if 14 with fail
 go_cut [7] (λP n=>∃k:Nat,P=Y k/\k<=h.length/\((0<=s/\s=k)\/(s<0/\k=mI (hY h) id))/\J [] w1 n)
 case first=>
  obtain⟨C,H⟩:=R.out;by_cases i:s<0
  .obtain rfl:s= -1:=by omega
   have aZ:=O i;clear i C H;have z:=O (show mI (hY h) id=0+mI ((hY h).drop 0) id by simp);go_wp2_with fail;go_loopw [7] (λP w'=>∃k:Nat,P=Y k/\k<=h.length/\mI (hY h) id=k+mI ((hY h).drop k) id/\J [] w1 w') (λP _=>h.length-(intOf P).toNat)
   case atStart=>exact⟨0,rfl,R_ _,z.out,G_ _ _⟩
   obtain⟨k,rfl,hk,u,F⟩:=hrel;have K:=O u;clear u;have bf:=(aA.gr F s_).f_ 0;obtain⟨bh,bM⟩:=(bd.gr F s_).iN;by_cases b:k<h.length;obtain⟨N,off,rfl,l,j⟩:=(E.hF<|N3.trans F).at_ b;have G:=O (show(hY h)[k]'(by rw[Q.out];exact b)=h[k].o by simp[hY]);by_cases a:h[k].o.id<id;have ao:=O (Dr (h:=hY h) (id:=id) (k:=k) (by rw[Q.out];exact b)<|by rw[G.out];exact a);have d:decide (h[k].o.id<id)=true:=zu a;clear a G;generalize h[k]=r at*;obtain⟨⟨y,M⟩,L,v⟩:=r;simp only at l j d;have t:(k:Int)<(h.length:Int):=X;exact Lx;have ao:=O (Dt (h:=hY h) (id:=id) (k:=k) (by rw[Q.out];exact b)<|by rw[G.out];exact a);have d:decide (h[k].o.id<id)=false:=zu a;clear a G;generalize h[k]=r at*;obtain⟨⟨y,M⟩,L,v⟩:=r;simp only at l j d;have t:(k:Int)<(h.length:Int):=X;exact LM;have ao:=O (B8 (h:=hY h) (id:=id) (k:=k)<|by rw[Q.out];omega);have t:¬(k:Int)<(h.length:Int):=X;exact LM
  obtain⟨x,rfl⟩:∃x:Nat,s=x:=⟨s.toNat,X⟩;rw[show decide ((x:Int)<0)=false by simp];clear i;go_wp2_with fail;go_meet;have:=R.out;exact⟨x,rfl,X,.inl ⟨X,rfl⟩,G_ _ _⟩
 obtain⟨k,rfl,hk,aR,F⟩:=hcut;have bO:=O aR;clear aR;have S:=N3.trans F;have bf:=aA.gr F s_;have bk:=bd.gr F s_;have bm:=br.gr F s_;have cr:=bJ.gr F s_;have bD:=F.size;clear aA bd br bJ F;obtain⟨aY,bE⟩:=bk.iN;have dL:=bf.f_ 0;have bF:=cr.f_ 0;have aC:(k:Int)<=(hc:Int):=X;have aT:(0:Int)<=(k:Int):=X;obtain⟨g,rfl⟩:∃x,x=wc:=⟨wc,rfl⟩;have cG:w.heap.size+1<g.heap.size:=X;have aV:=Os.take (E.hF S.drew) hk;have bI:=hv.hF S.drew;have aU:=i4 g.drew g.heap.size 56 2;have am:g.heap.size<=g.drew.heap.size:=I_ _;go_upto_region 8 with fail;go_cut [] (λn=>∃(t:OA) (u:Nat) (i:OA) (j:Nat),Bk n w.heap.size 35 #[.slice m h.length hc]/\Bk n (w.heap.size+2) 35 #[n_]/\Bk n (w.heap.size+3) 35 #[.slice t (k+1) u]/\n.ownsRow g.heap.size 56 2 (.slice t (k+1) u) (k+1) (jw<|h.take k++[⟨⟨id,fs⟩,i,j⟩])/\Vs n i fs/\g.heap.size<=n.heap.size/\J [] w n)
 case first=>
  go_region_law (first|(refine pK rfl (.tmp 34) (.tmp 38) 33 rfl g.heap.size 56 i1 2 32 underlying33 T U V W rfl I I none 0 0 [] rfl aU m k hc rfl aV (j9 _) X am ?_;intro aw N ae y a;simp only[U_,G0]at y;have bg:=a.bk bf I;have bq:=a.bk bm I;have bz:=a.bk cr I;have bp:=a.uo bk.drew cG;obtain⟨hq0,hq1⟩:=bp.iN;have ay:=hv.hF<|a.gr [] w S.size S.drew)|(go_simp;go_at_call 56;refine(tW ⟨id,fs⟩ A c _ ay hn1).mono ?_;rintro e M⟨i,j,rfl,bG,H⟩;have b:=H.alloc<|.cells #[Y id,.slice i fs.length j] 56;have bi:=bg.gr b s_;have bu:=bq.gr b s_;have bA:=bz.gr b s_;have z:=iO y b;have L:=EC (fs:=fs) (T_ M 56 #[Y id,.slice i fs.length j]) rfl;have q:=H_ (H_ am a.size) b.size)|(refine pK rfl (.tmp 39) (.tmp 42) 33 rfl g.heap.size 56 i1 2 32 underlying33 T U V W rfl I I aw k N _ rfl z _ 1 1 rfl L (j9 _) X q ?_;intro t u C aj d;have bj:=d.bk bi I;have bw:=d.bk bu I;have v:=d.bk bA I;have bN:=v.hG 0;have az:=v.f_ 0))
  all_goals
   go_wp2;go_meet;have l:=(G_ [w.heap.size+3] C).setCell (p:=(Z (w.heap.size+3) 0)) (.inl s_)<|.slice t (k+1) u;refine⟨t,u,i,j,bj.gr l s_,bw.gr l s_,v.hW 0 _,?_,?_,H_ (H_ q d.size) l.size,?_⟩;rw[mY];exact kX aj v I l;exact Sl.iy (d.sl (bG.alloc<|.cells #[Y id,.slice i fs.length j] 56) I) v I l;exact(d.gr [] w S.size<|(a.gr [] w S.size S.drew).trans b).setCell (.inr (show w.heap.size<=w.heap.size+3 by omega)) _
 obtain⟨t,u,i,j,bh,aG,ah,aS,a8,aW,bo⟩:=hcut;have dL:=bh.f_ 0;have bF:=ah.f_ 0;have bP:=bo.size;obtain⟨a,rfl⟩:∃x,x=h:=⟨h,rfl⟩;have aO:=hR.hF bo.drew;clear bI aU am aV;rcases bO.out with⟨cp,rfl⟩|⟨cp,aF⟩
 .have N:k+1<=a.length:=ov R.out;have bv:(k:Int)+1<=(a.length:Int):=X;have bL:(0:Int)<=(k:Int)+1:=X;clear cp;have ax:=Os.drop (E.hF bo.drew) N hc bZ;have ap:g.heap.size<=wc.drew.heap.size:=aW;have ar:=iO aS (G_ [] wc).drew;have aD:w.heap.size+2≠w.heap.size+3:=X;go_wp2_with fail
  go_region_law (refine pK rfl (.tmp 50) (.tmp 54) 33 rfl g.heap.size 56 i1 2 32 underlying33 T U V W rfl I I t (k+1) u _ rfl ar _ (a.length-(k+1)) (hc-(k+1)) rfl ax (j9 _) X ap ?_;intro d b M C a2;have z:=a2.bk aG I;have l:=a2.bk ah I;have bB:=l.hG 0;have bK:=l.f_ 0;have bC:=z.hG 0;have di:=z.f_ 0)
  all_goals
   have dV:k+1+(a.length-(k+1))=a.length:=X;rw[dV]at C;have aH:(tM a k (k+1) ⟨⟨id,fs⟩,i,j⟩).length=a.length:=by rw[wJ N hk];exact dV
   clear dV;have y:=O aH;clear aH;go_wp2;all_goals
    have bn:=l.hW 0<|.slice d a.length b;have v:=z.ir (p:=(Z (w.heap.size+3) 0)) aD<|.slice d a.length b;have bx:=v.hW 0<|.slice d a.length b;have H:=(G_ [w.heap.size+3] M).setCell (p:=(Z (w.heap.size+3) 0)) (.inl s_)<|.slice d a.length b;have L:=(G_ [w.heap.size+2]<|M.setCell (Z (w.heap.size+3) 0)<|.slice d a.length b).setCell (p:=(Z (w.heap.size+2) 0)) (.inl s_)<|.slice d a.length b;have au:=kX (kX C l I H) v I L;have bS:nv _ (tM a k (k+1) ⟨⟨id,fs⟩,i,j⟩):=((y8 (a2.ll aO) (a2.sl a8 I) hn1).iy l I H).iy v I L;refine Ha (Ia rfl _ _ _ _ _ _ _ rfl bx underlying35 rfl k_) rfl ⟨d,b,tM a k (k+1) ⟨⟨id,fs⟩,i,j⟩,by rw[y.out];rfl,by rw[y.out];exact jq C,?_,bS,?_,?_⟩;unfold Os;rw[y.out];have:=Sl.iZ au;rw[<-mY]at this;exact this;rw[ze];unfold kS;rw[a7.out,K_ X,Hh];exact Na
 obtain rfl:s= -1:=by have:=R.out;omega
 have N:k<=a.length:=hk;have bv:(k:Int)<=(a.length:Int):=X;have be:=O aF;clear cp aF;have ax:=Os.drop (E.hF bo.drew) N hc bZ;have ap:g.heap.size<=wc.drew.heap.size:=aW;have ar:=iO aS (G_ [] wc).drew;have aD:w.heap.size+2≠w.heap.size+3:=X;go_wp2_with fail
 go_region_law (refine pK rfl (.tmp 50) (.tmp 54) 33 rfl g.heap.size 56 i1 2 32 underlying33 T U V W rfl I I t (k+1) u _ rfl ar _ (a.length-(k)) (hc-(k)) rfl ax (j9 _) X ap ?_;intro d b M C a2;have z:=a2.bk aG I;have l:=a2.bk ah I;have bB:=l.hG 0;have bK:=l.f_ 0;have bC:=z.hG 0;have di:=z.f_ 0)
 all_goals
  have y:=O<|wJ (r:=⟨⟨id,fs⟩,i,j⟩) N hk;go_wp2;all_goals
   have bn:=l.hW 0<|.slice d (k+1+(a.length-(k))) b;have v:=z.ir (p:=(Z (w.heap.size+3) 0)) aD<|.slice d (k+1+(a.length-(k))) b;have bx:=v.hW 0<|.slice d (k+1+(a.length-(k))) b;have H:=(G_ [w.heap.size+3] M).setCell (p:=(Z (w.heap.size+3) 0)) (.inl s_)<|.slice d (k+1+(a.length-(k))) b;have L:=(G_ [w.heap.size+2]<|M.setCell (Z (w.heap.size+3) 0)<|.slice d (k+1+(a.length-(k))) b).setCell (p:=(Z (w.heap.size+2) 0)) (.inl s_)<|.slice d (k+1+(a.length-(k))) b;have au:=kX (kX C l I H) v I L;have bS:nv _ (tM a k (k) ⟨⟨id,fs⟩,i,j⟩):=((y8 (a2.ll aO) (a2.sl a8 I) hn1).iy l I H).iy v I L;refine Ha (Ia rfl _ _ _ _ _ _ _ rfl bx underlying35 rfl k_) rfl ⟨d,b,tM a k (k) ⟨⟨id,fs⟩,i,j⟩,by rw[y.out];rfl,by rw[y.out];exact jq C,?_,bS,?_,?_⟩;unfold Os;rw[y.out];have:=Sl.iZ au;rw[<-mY]at this;exact this;rw[ze];unfold kS;rw[a7.out,L_ X,<-be.out];exact Na
def nc(h:QQ)(id:Int):(jx h id<0/\jy h id=none)\/∃k,∃d:k<h.length,jx h id=(k:Nat)/\jy h id=some h[k]:=by
 suffices H:∀b:Nat,(iK (λa:Ob=>a.id==id) h b<0/\jy h id=none)\/∃k,∃d:k<h.length,iK (λa:Ob=>a.id==id) h b=(b+k:Nat)/\jy h id=some h[k] by
  rcases H 0 with c|⟨k,d,c,j⟩
  exact .inl c;exact .inr ⟨k,d,by unfold jx;rw[c];simp,j⟩
 induction h with
 |nil=>intro b;left;simp[iK,jy]
 |cons a i l=>
  intro b;by_cases f:a.id=id;right;exact⟨0,s_,by simp[iK,f],by simp[jy,f]⟩;have m:iK (λa:Ob=>a.id==id) (a::i) b=iK (λa:Ob=>a.id==id) i (b+1):=by simp[iK,f]
  have n:jy (a::i) id=jy i id:=by simp[jy,f]
  rw[m,n];rcases l (b+1)with c|⟨k,d,c,j⟩
  exact .inl c;exact .inr ⟨k+1,by simpa using d,by rw[c];congr 1;omega,by simpa using j⟩
def get_none(A:OA)(c:Nat)(l:QT)(id:Int)(w:World)(h:Os w A l)(m:l.length<=1000000000)(j:jy (hY l) id=none):
 Calls prog 14 #[.agg #[.slice A l.length c],Y id] w λe w'=>e=.returned (.tuple #[.agg #[Y 0,n_],.bool false])/\J [] w w':=by
 obtain⟨f,d,N2⟩:=qU w 35 #[.slice A l.length c] 56 #[Y 0,n_];have r:((w.alloc<|.cells #[.slice A l.length c] 35).alloc<|.cells #[Y 0,n_] 56).cell? (Z w.heap.size 0)=some (.slice A l.length c):=f.f_ 0;rcases nc (hY l) id with⟨i,_⟩|⟨k,u,_,b⟩
 .go_enter func14,ntmps14;go_wp2_with fail;go_at_call 55;refine(qe A c l id (h.hF N2) m).mono ?_;rintro e v⟨rfl,N3⟩;have a:=d.gr N3 s_;obtain⟨q,s⟩:=a.iN;have p:=a.hG 0;have o:=a.hG 1;have t:¬0<=jx (hY l) id:=X;clear i;go_wp2;have n:=(a.hW 0<|Y 0).hW 1<|n_;refine me #[Y 0,n_] (.bool false) n underlying56 ⟨rfl,?_⟩;exact Nv
 rw[j]at b;cases b
def get_some(A:OA)(c:Nat)(l:QT)(id:Int)(o:Ob)(w:World)(h:Os w A l)(F:nv w l)(E:l.length<=1000000000)(m:jy (hY l) id=some o):
 Calls prog 14 #[.agg #[.slice A l.length c],Y id] w λe w'=>∃(A':OA) (c':Nat),e=.returned (.tuple #[.agg #[Y o.id,.slice A' o.fs.length c'],.bool true])/\Vs w' A' o.fs/\J [] w w':=by
 obtain⟨q,t,f⟩:=qU w 35 #[.slice A l.length c] 56 #[Y 0,n_];have S:((w.alloc<|.cells #[.slice A l.length c] 35).alloc<|.cells #[Y 0,n_] 56).cell? (Z w.heap.size 0)=some (.slice A l.length c):=q.f_ 0;rcases nc (hY l) id with⟨_,a⟩|⟨k,D,G,a⟩
 rw[m]at a;cases a
 rw[m]at a;injection a with a;have p:=by simpa[hY]using D
 have s:o=l[k].o:=by rw[a];simp[hY]
 subst s;clear a m;have r:=O G;clear G;have Q:(k:Int)<(l.length:Int):=X;go_enter func14,ntmps14;go_wp2_with fail;go_at_call 55;refine(qe A c l id (h.hF f) E).mono ?_;rintro e M⟨rfl,d⟩;rw[r.out];have b:=t.gr d s_;have L:=q.gr d s_;have z0:M.cell? (Z w.heap.size 0)=some (.slice A l.length c):=L.f_ 0;have u:=(h.hF f).hF d;have C:=(F.hF f).hF d;obtain⟨U,off,rfl,W,V⟩:=u.at_ p;obtain⟨H,v⟩:=C l[k]<|P_ p;go_wp2_with fail;go_at_call 56;refine(tW l[k].o l[k].A l[k].c _ H v).mono ?_;rintro e y⟨j,i,rfl,z,n⟩;have b:=b.gr n s_;obtain⟨R,T⟩:=b.iN;have P:=b.hG 0;have N:=b.hG 1;go_wp2;have K:=(b.hW 0<|Y l[k].o.id).hW 1<|.slice j l[k].o.fs.length i;refine me #[Y l[k].o.id,.slice j l[k].o.fs.length i] (.bool true) K underlying56 ⟨j,i,rfl,?_,?_⟩;exact Sl.iy z b I<|((G_ [w.heap.size+1] y).setCell (.inl s_) _).setCell (.inl s_) _;exact(((f.trans d).trans n).setCell (.inr s_) _).setCell (.inr s_) _
def iw(h:QQ)(id f:Int):Option Vl:=match jy h id with
 |none=>none
 |some o=>if f<0 then none else o.fs[f.toNat]?
def mQ{h:QQ}{id f:Int}{v:Vl}(a:iw h id f=some v):∃k,∃d:k<h.length,jx h id=(k:Nat)/\jy h id=some h[k]/\0<=f/\∃i:f.toNat<h[k].fs.length,h[k].fs[f.toNat]=v:=by
 unfold iw at a;rcases nc h id with⟨c,b⟩|⟨k,d,c,b⟩
 rw[b]at a;cases a
 rw[b]at a;simp only at a;split at a
 .cases a
 rename_i i;obtain⟨j,l⟩:=Ie.1 a;exact⟨k,d,c,b,X,j,l⟩
def kL(A:OA)(c:Nat)(l:QT)(id f:Int)(w:World)(h:Os w A l)(M:nv w l)(hn:l.length<=1000000000):
 Calls prog 148 #[.agg #[.slice A l.length c],Y id,Y f] w λe w'=>e=.returned (.tuple #[.agg #[.bool ((iw (hY l) id f).getD default).r,Y ((iw (hY l) id f).getD default).n],.bool (iw (hY l) id f).isSome])/\J [] w w':=by
 obtain⟨s,P,N2⟩:=qU w 35 #[.slice A l.length c] 38 #[.bool false,Y 0];have T:((w.alloc<|.cells #[.slice A l.length c] 35).alloc<|.cells #[.bool false,Y 0] 38).cell? (Z w.heap.size 0)=some (.slice A l.length c):=s.f_ 0;cases b:iw (hY l) id f with
 |none=>
  have u:jx (hY l) id<0\/f<0\/∃k,∃j:k<l.length,jx (hY l) id=(k:Nat)/\(l[k].o.fs.length:Int)<=f/\0<=f:=by
   rcases nc (hY l) id with⟨a,_⟩|⟨k,j,a,F⟩
   exact .inl a;have d:=by simpa[hY]using j
   unfold iw at b;rw[F]at b;simp only at b;split at b;exact .inr<|.inl ‹_›;rename_i y;refine .inr<|.inr ⟨k,d,a,?_,X⟩;have:=List.getElem?_eq_none_iff.1 b;have e:((hY l)[k]).fs.length=l[k].o.fs.length:=by simp[hY]
   omega
  clear b;by_cases G:jx (hY l) id<0;exact JZ;by_cases y:f<0
  .exact JZ
  obtain⟨k,d,i,p,t⟩:∃k,∃j:k<l.length,jx (hY l) id=(k:Nat)/\(l[k].o.fs.length:Int)<=f/\0<=f:=by
   rcases u with a|a|a
   exact GR a G;exact GR a y;exact a
  have z:(k:Int)<(l.length:Int):=X;have m:=O i;clear i u G;go_enter func148,ntmps148;go_wp2_with fail;go_at_call 55;refine(qe A c l id (h.hF N2) hn).mono ?_;rintro e w2⟨rfl,N3⟩;rw[m.out];have E:=P.gr N3 s_;obtain⟨U,af⟩:=E.iN;have D:=E.hG 0;have C:=E.hG 1;have R:w2.cell? (Z w.heap.size 0)=some (.slice A l.length c):=(s.gr N3 s_).f_ 0;obtain⟨I,N,rfl,L,v⟩:=((h.hF N2).hF N3).at_ d;exact KV
 |some Q=>
  obtain⟨k,j,i,_,t,p,u⟩:=mQ b;have d:=by simpa[hY]using j
  have a:(hY l)[k]=l[k].o:=by simp[hY]
  have F:f.toNat<l[k].o.fs.length:=by rw[<-a];exact p
  have H:l[k].o.fs[f.toNat]=Q:=by
   rw[<-u];congr 1;rw[a]
  subst H;have z:(k:Int)<(l.length:Int):=X;have m:=O i;clear i u b a p;have S:f<(l[k].o.fs.length:Int):=X;have bT:¬(l[k].o.fs.length:Int)<=f:=X;have y:=HQ t;clear y;go_enter func148,ntmps148;go_wp2_with fail;go_at_call 55;refine(qe A c l id (h.hF N2) hn).mono ?_;rintro e w2⟨rfl,N3⟩;rw[m.out];have E:=P.gr N3 s_;obtain⟨U,af⟩:=E.iN;have D:=E.hG 0;have C:=E.hG 1;have R:w2.cell? (Z w.heap.size 0)=some (.slice A l.length c):=(s.gr N3 s_).f_ 0;obtain⟨K,_⟩:=((M.hF N2).hF N3) l[k]<|P_ d;obtain⟨I,N,rfl,L,v⟩:=((h.hF N2).hF N3).at_ d;obtain⟨W,ae,B,V,bg⟩:=K.at_ F;rw[B]at v;go_wp2;have q:=(E.hW 0<|.bool l[k].o.fs[f.toNat].r).hW 1<|Y l[k].o.fs[f.toNat].n;refine me #[.bool l[k].o.fs[f.toNat].r,Y l[k].o.fs[f.toNat].n] (.bool true) q underlying38 ⟨rfl,?_⟩;exact Nv
def kC(h:QQ)(id f:Int)(v:Vl):List Ob:=h.modify (jx h id).toNat λo=>⟨o.id,o.fs.set f.toNat v⟩
def q8(E:α->List Value)(s:Nat)(d:∀y,(E y).length=s)(t:0<s)(l:List α)(k:Nat)(H:k<l.length)(r:α)(p:Array Value){j:Array Value}(h:∀(i:Nat) (u:Value),(l.flatMap E)[i]?=some u->p[i]?=some u)(F:∀(v:Nat) (u:Value),(E r)[v]?=some u->j[k*s+v]?=some u)(b:∀i:Nat,(i<k*s\/(k+1)*s<=i)->j[i]?=p[i]?):∀(i:Nat) (u:Value),((l.set k r).flatMap E)[i]?=some u->j[i]?=some u:=by
 intro i u o;have iS:((l.set k r).flatMap E).length=l.length*s:=by rw[kA E s d];simp
 have D:i<l.length*s:=by
  rcases GU i (l.length*s)with h|h
  exact h;rw[G7<|by rw[iS];exact h]at o;cases o
 have m:i / s<l.length:=by rw[Nat.div_lt_iff_lt_mul t];exact D
 have n:i % s<s:=Nat.mod_lt _ t;have f:i / s*s+i % s=i:=by rw[Nat.mul_comm];exact Nat.div_add_mod i s
 have a:=jr E s d (l.set k r) (i / s) (i % s) (zu m) n;rw[f,o]at a;rcases Nat.lt_trichotomy (i / s) k with z|C|A
 rw[List.getElem_set_ne X]at a;have c:=jr E s d l (i / s) (i % s) m n;rw[f]at c;rw[b i (.inl (by
  have:(i / s+1)*s<=k*s:=Iy s z;rw[HY,I1]at this;omega))]
 exact h i u (by rw[c,<-a]);subst C;rw[List.getElem_set_self]at a;rw[<-f];exact F _ u a.symm;rw[List.getElem_set_ne X]at a;have c:=jr E s d l (i / s) (i % s) m n;rw[f]at c;rw[b i (.inr (by
  have:(k+1)*s<=i / s*s:=Iy s A;omega))]
 exact h i u (by rw[c,<-a])
def kN{p:Nat}{A:OA}{n c:Nat}{f:QX}(h:w.ownsRow base e p (.slice A n c) n f)(h0:0<n):∃g a,A=some (Z g 0)/\base<=g/\Bk w g e a/\∀(i:Nat) (u:Value),f[i]?=some u->a[i]?=some u:=by
 rcases h.2 with⟨d,q⟩|⟨g,s,a,d,l,m,_,_,_,o⟩
 omega;injection d with j _ _;refine⟨g,a,j,l,m,λr u b=>?_⟩;rw[<-o,Hv]at b;split at b
 .simpa using b
 cases b
def ql(E:α->List Value)(d:∀j,(E j).length=2){b:Array Value}{l:List α}(p:k<l.length)(r:α)(x y:Value)(v:E r=[x,y])(o:Bk w g e b)(h:∀(i:Nat) (u:Value),(l.flatMap E)[i]?=some u->b[i]?=some u)(n:Nat)(t:l.length=n):
 Sl ((w.setCell (Z g<|k*2) x).setCell (Z g<|k*2+1) y) e 2 (j_ g) n ((l.set k r).flatMap E):=by
 subst t;have m:=(o.hW (k*2) x).hW (k*2+1) y;have iS:=kA E 2 d l;have f:k*2+1<b.size:=by
  have s:k*2+1<(l.flatMap E).length:=X;have:=h _ _<|O_ s;rcases GU (k*2+1) b.size with h|h
  exact h;exact NR
 refine⟨by rw[kA E 2 d];simp,λ_=>⟨g,0,_,_,rfl,m,λc u a=>?_⟩⟩;rw[U_];refine q8 E 2 d X l k p r b h (λc u a=>?_) (λi z=>?_) c u a
 .rw[v]at a
  match c,a with
  |0,a=>simp only[Hz,Option.some.injEq]at a;subst a;rw[Q_,K_ X,Q_,L_ X,L_ X]
  |1,a=>simp only[H2,Hz,Option.some.injEq]at a;subst a;rw[Q_,L_ rfl,L_<|zu f]
  |c+2,a=>simp at a
 rw[Q_,K_ X,Q_,K_ X]
def qZ(A:OA)(c:Nat)(l:QT)(id f:Int)(v:Vl)(h:Os w A l)(m:nv w l)(j:l.length<=1000000000)(z:iw (hY l) id f=none):
 Calls prog 149 #[.agg #[.slice A l.length c],Y id,Y f,.agg<|V_ v] w λe w'=>e=.returned (.tuple #[.agg #[n_],.bool false])/\J [] w w':=by
 obtain⟨i,-,-,a⟩:=xO w 35 #[.slice A l.length c] 38 (V_ v) 35 #[n_];have B:Bk (((w.alloc<|.cells #[.slice A l.length c] 35).alloc<|.cells (V_ v) 38).alloc<|.cells #[n_] 35) (w.heap.size+2) 35 #[n_]:=zu<|T_ ((w.alloc<|.cells #[.slice A l.length c] 35).alloc<|.cells (V_ v) 38) 35 #[n_];have p:(((w.alloc<|.cells #[.slice A l.length c] 35).alloc<|.cells (V_ v) 38).alloc<|.cells #[n_] 35).cell? (Z w.heap.size 0)=some (.slice A l.length c):=i.f_ 0;go_enter func149,ntmps149;go_wp2_with fail;go_at_call 148;refine(kL A c l id f _ (h.hF a) (m.hF a) j).mono ?_;rintro e r⟨rfl,d⟩;rw[z];have b:=(B.hF d).alloc<|.cells (V_ (default:Vl)) 38;have o:=b.f_ 0;have n:=b.hG 0;simp only[IN,IW];go_wp2;have q:=b.hW 0<|n_;refine me #[n_] (.bool false) q underlying35 ⟨rfl,?_⟩;exact((a.trans d).alloc _).setCell (.inr p_) _
def s8(l:QT)(k:Nat)(r:Rw):hY (l.set k r)=(hY l).set k r.o:=by simp[hY,List.map_set]
def Am{h:QQ}{id f:Int}{v:Vl}(b:k<h.length)(a:jx h id=(k:Nat)):kC h id f v=h.set k ⟨h[k].id,h[k].fs.set f.toNat v⟩:=by
 unfold kC;rw[a,Hh];apply IK;intro c;rw[Jc,IJ];by_cases e:k=c;subst e;simp[b];simp[e]
def nv.hW{l:QT}(h:nv w l){r:Rw}(c:Vs w r.A r.o.fs)(b:r.o.fs.length<=1000000000):nv w (l.set k r):=λx a=>by
 rcases GX a with a|rfl
 exact h x a;exact⟨c,b⟩
def App.El{l:QT}(h:App base e w w')(d:38≠e)(a:nv w l):nv w' l:=λc b=>⟨h.sl (a c b).1 d,(a c b).2⟩
def oG(A:OA)(c:Nat)(l:QT)(id f:Int)(v u:Vl)(h:Os w A l)(T:nv w l)(hn:l.length<=1000000000)(al:iw (hY l) id f=some u):
 Calls prog 149 #[.agg #[.slice A l.length c],Y id,Y f,.agg<|V_ v] w λe w'=>∃(A':OA) (c':Nat) (rs:QT),e=.returned (.tuple #[.agg #[.slice A' rs.length c'],.bool true])/\rs.length<=c'/\Os w' A' rs/\nv w' rs/\hY rs=kC (hY l) id f v/\J [] w w':=by
 obtain⟨i1,bR,cf,cg,ct⟩:=info_parts infoOb;obtain⟨ad,an,-,E⟩:=xO w 35 #[.slice A l.length c] 38 (V_ v) 35 #[n_];have B:Bk (((w.alloc<|.cells #[.slice A l.length c] 35).alloc<|.cells (V_ v) 38).alloc<|.cells #[n_] 35) (w.heap.size+2) 35 #[n_]:=zu<|T_ ((w.alloc<|.cells #[.slice A l.length c] 35).alloc<|.cells (V_ v) 38) 35 #[n_];have aR:(((w.alloc<|.cells #[.slice A l.length c] 35).alloc<|.cells (V_ v) 38).alloc<|.cells #[n_] 35).cell? (Z w.heap.size 0)=some (.slice A l.length c):=ad.f_ 0;obtain⟨k,hk,bY,_,aA,aJ,hv⟩:=mQ al;have P:=by simpa[hY]using hk
 have bJ:(hY l)[k]=l[k].o:=by simp[hY]
 have aU:f.toNat<l[k].o.fs.length:=by rw[<-bJ];exact aJ
 have bo:=O (show kC (hY l) id f v=(hY l).set k ⟨l[k].o.id,l[k].o.fs.set f.toNat v⟩ by rw[Am hk bY,bJ]);have NZ:(k:Int)<(l.length:Int):=X;have N0:=O bY;have aV:f<(l[k].o.fs.length:Int):=X;go_enter func149,ntmps149;go_wp2_with fail;generalize ((w.alloc<|.cells #[.slice A l.length c] 35).alloc<|.cells (V_ v) 38).alloc (.cells #[n_] 35)=aW at*
 go_at_call 148;refine(kL A c l id f _ (h.hF E) (T.hF E) hn).mono ?_;rintro e w2⟨rfl,N3⟩;rw[al];simp only[HO,Ir];have y:=N3.alloc<|.cells (V_ u) 38;have aX:=ad.hF y;have aZ:=an.hF y;have br:=B.hF y;have bd:=(h.hF E).hF y;have ck:=(T.hF E).hF y;have bf:=aX.f_ 0;have hbs:=(E.trans y).size;go_wp2_with (at_builtin;refine xW _ rfl (.const<|n_) (.tmp 26) 33 rfl w.heap.size 56 i1 _ 2 32 underlying33 bR cf cg ct rfl I I none 0 0 [] rfl (i4 _ _ _ _) A l.length c _ rfl bd (j9 _) X hbs ?_;intro C n ae R F;simp only[U_,G0]at R;have z0:=((F.bk aX I).alloc<|.cells #[.slice C l.length n] 35).f_ 0);go_at_call 55;have bg:=F.gr [] w (I_ _)<|E.trans y;have bh:=(F.bk aX I).alloc<|.cells #[.slice C l.length n] 35;have V:=(F.bk aZ I).alloc<|.cells #[.slice C l.length n] 35;have d:=(F.bk br I).alloc<|.cells #[.slice C l.length n] 35;have j:=T_ ae 35 #[.slice C l.length n];have cN:=iO R<|(G_ [] ae).alloc<|.cells #[.slice C l.length n] 35;have b5:=bg.alloc<|.cells #[.slice C l.length n] 35;have ax:=(F.bk br I).lt;have bZ:=jq R;refine(qe A c l id (h.hF b5) hn).mono ?_;rintro e NY⟨rfl,L⟩;rw[N0.out];have W:=b5.trans L;have bh:=bh.hF L;have V:=V.hF L;have d:=d.hF L;have j:=j.hF L;have aj:=iO cN L;have aM:=W.size;have z0:NY.cell? (Z w.heap.size 0)=some (.slice A l.length c):=bh.f_ 0;obtain⟨ai,N1⟩:=(T.hF W) l[k]<|P_ P;obtain⟨bi,off,rfl,bt,bA⟩:=(h.hF W).at_ P;go_wp2_with fail;go_at_call 56;refine(tV l[k].o l[k].A l[k].c _ ai N1).mono ?_;rintro e H⟨z,b,rfl,ce,t⟩;have aP:=(W.trans t).alloc<|.cells #[Y l[k].o.id,.slice z l[k].o.fs.length b] 56;have V:=(V.hF t).alloc<|.cells #[Y l[k].o.id,.slice z l[k].o.fs.length b] 56;have d:=(d.hF t).alloc<|.cells #[Y l[k].o.id,.slice z l[k].o.fs.length b] 56;have az:=(j.hF t).lt;have j:=(j.hF t).alloc<|.cells #[Y l[k].o.id,.slice z l[k].o.fs.length b] 56;have N:=T_ H 56 #[Y l[k].o.id,.slice z l[k].o.fs.length b];have bj:∀g cur,Bk NY g 56 cur->g≠H.heap.size:=λg cur hb=>by
  have:=(hb.hF t).lt;omega
 have R:=iO (iO aj t)<|(G_ [] H).alloc<|.cells #[Y l[k].o.id,.slice z l[k].o.fs.length b] 56;have ce:=iO ce<|(G_ [] H).alloc<|.cells #[Y l[k].o.id,.slice z l[k].o.fs.length b] 56;have bk:=T.hF aP;obtain⟨a,ao,rfl,aw,s,bl⟩:=kN ce X;obtain⟨i,am,D,ar,bm,_⟩:=kN aj X;subst D;have aC:=bj _ _ bm;obtain⟨aq,ak,D,_,m,bn⟩:=kN R X;injection D with D;injection D with D _;subst D;have ag:=Bk.mm m s I;go_upto_region 7 with fail;generalize H.heap.size=aT at*;generalize ae.heap.size=aS at*;generalize H.alloc (.cells #[Y l[k].o.id,.slice (j_ a) l[k].o.fs.length b] 56)=K at*;obtain⟨v0,v1⟩:=V.iN;obtain⟨bq,aY⟩:=N.iN;have aH:K.cell? (Z a<|f.toNat*2)=some (.bool l[k].o.fs[f.toNat].r):=(s.f_ _).trans<|bl _ _<|j7 Vl.E (λ_=>rfl) l[k].o.fs f.toNat 0 aU X;have b0:=(s.f_ _).trans<|bl _ _<|j7 Vl.E (λ_=>rfl) l[k].o.fs f.toNat 1 aU X;have bC:=s.hG<|f.toNat*2;have be:=s.hG<|f.toNat*2+1;go_upto_region 8 with fail;have Q:J [a] K ((K.setCell (Z a<|f.toNat*2)<|.bool v.r).setCell (Z a<|f.toNat*2+1)<|Y v.n):=((G_ [a] K).setCell (.inl s_) _).setCell (.inl s_) _;have bw:Vs ((K.setCell (Z a<|f.toNat*2)<|.bool v.r).setCell (Z a<|f.toNat*2+1)<|Y v.n) (j_ a) (l[k].o.fs.set f.toNat v):=by
  unfold Vs;rw[G3];exact ql Vl.E (λ_=>rfl) aU v (.bool v.r) (Y v.n) rfl s bl _ rfl
 have d:=d.gr Q<|zu<|Bk.mm d s I;have j:=j.gr Q<|zu<|Bk.mm j s I;have N:=N.gr Q<|zu<|Bk.mm N s I;have m:=m.gr Q<|zu ag;have af:=aP.hJ Q (by intro x U;right;simp at U;omega);have bp:=T.hF af;generalize (K.setCell (Z a<|f.toNat*2)<|.bool v.r).setCell (Z a<|f.toNat*2+1) (Y v.n)=M at*;have m0:=j.f_ 0;obtain⟨bq,aY⟩:=N.iN;have aH:M.cell? (Z i<|k*2)=some (Y l[k].o.id):=(m.f_ _).trans<|bn _ _<|j7 Rw.E (λ_=>rfl) l k 0 P X;have b0:=(m.f_ _).trans<|bn _ _<|j7 Rw.E (λ_=>rfl) l k 1 P X;have bC:=m.hG<|k*2;have be:=m.hG<|k*2+1;go_upto_region 9 with fail;have S:J [i] M ((M.setCell (Z i<|k*2)<|Y l[k].o.id).setCell (Z i<|k*2+1)<|.slice (j_ a) l[k].o.fs.length b):=((G_ [i] M).setCell (.inl s_) _).setCell (.inl s_) _;have bu:Os ((M.setCell (Z i<|k*2)<|Y l[k].o.id).setCell (Z i<|k*2+1)<|.slice (j_ a) l[k].o.fs.length b) (j_ i) (l.set k ⟨⟨l[k].o.id,l[k].o.fs.set f.toNat v⟩,some<|Z a 0,b⟩):=by
  unfold Os;rw[G3];exact ql Rw.E (λ_=>rfl) P ⟨⟨l[k].o.id,l[k].o.fs.set f.toNat v⟩,some<|Z a 0,b⟩ _ _ (by simp[Rw.E]) m bn _ rfl
 have d:=d.gr S<|zu<|Bk.mm d m I;have j:=j.gr S<|zu<|Bk.mm j m I;have bM:=Sl.iy bw m I S;have bv:=af.hJ S (by intro x U;right;simp at U;omega);have ap:=bp.iy m I S;generalize (M.setCell (Z i<|k*2)<|Y l[k].o.id).setCell (Z i<|k*2+1) (.slice (j_ a) l[k].o.fs.length b)=b4 at*;have m0:=j.f_ 0;have n0:=d.f_ 0;have bC:=d.hG 0;go_wp2;have q:=d.hW 0<|.slice (j_ i) l.length n;have G:=(G_ [w.heap.size+2] b4).setCell (p:=(Z (w.heap.size+2) 0)) (.inl s_)<|.slice (j_ i) l.length n;have hls:(l.set k ⟨⟨l[k].o.id,l[k].o.fs.set f.toNat v⟩,some<|Z a 0,b⟩).length=l.length:=G3;refine me #[.slice (j_ i) l.length n] (.bool true) q underlying35 ⟨some<|Z i 0,n,l.set k ⟨⟨l[k].o.id,l[k].o.fs.set f.toNat v⟩,some<|Z a 0,b⟩,by rw[hls],by rw[hls];exact bZ,?_,?_,?_,?_⟩;exact Sl.iy bu d I G;refine(ap.hW (r:=⟨⟨l[k].o.id,l[k].o.fs.set f.toNat v⟩,some<|Z a 0,b⟩) bM<|zu N1).iy d I G;rw[s8,bo.out];exact bv.hJ G (by intro x U;right;simp at U;omega)
def ka{n:Int}:Calls prog 196 #[Y n] w λe w'=>e=.returned (.agg #[.bool false,Y n])/\J [] w w':=by
 go_enter func196,ntmps196;go_wp2;exact Ha (Ia rfl _ _ _ _ _ _ _ rfl (T_ w 38 #[.bool false,Y n]) underlying38 rfl k_) rfl ⟨rfl,(G_ _ _).alloc _⟩
def ru{b:Bool}:Calls prog 195 #[.bool b] w λe w'=>e=.returned (.agg #[.bool false,Y (if b=true then 1 else 0)])/\J [] w w':=by
 cases b
 all_goals
  go_enter func195,ntmps195;go_wp2_with (go_at_call 196;refine(ka).mono ?_;rintro e l⟨rfl,c⟩;have a:=DG (p:=w.heap.size) c rfl;obtain⟨i,j⟩:=a.iN;have f:=a.hG 0;have d:=a.hG 1);refine Ha (Ia rfl _ _ _ _ _ _ _ rfl ((a.hW 0 _).hW 1 _) underlying38 rfl k_) rfl ⟨rfl,?_⟩;exact((((G_ _ _).alloc _).trans c).setCell (.inr s_) _).setCell (.inr s_) _
def tC(v:Vl):Calls prog 166 #[.agg<|V_ v] w λe w'=>e=.returned (.bool<|v.n !=0)/\J [] w w':=by
 go_enter func166,ntmps166;go_wp2;go_ret;exact⟨rfl,(G_ _ _).alloc _⟩
def qV(op:Int):Bool:=decide (op=1\/(3<=op/\op<=9/\op≠4))
def vB(a:Int)(w:World):Calls prog 179 #[Y a] w λe w'=>e=.returned (.bool<|qV a)/\w=w':=by
 have HA:=O (show qV a=decide (a=1\/(3<=a/\a<=9/\a≠4)) from rfl);by_cases c:a=1
 .subst c;go_enter func179,ntmps179;go_wp2;go_ret;exact⟨rfl,by trivial⟩
 have j:(a==1)=false:=zu c;by_cases f:3<=a
 .by_cases d:a<=9
  .by_cases b:a=4
   .subst b;go_enter func179,ntmps179;go_wp2;go_ret;exact⟨rfl,by trivial⟩
   have i:(a !=4)=true:=zu b;clear c;go_enter func179,ntmps179;go_wp2;go_ret;exact⟨iJ (by rw[HA.out];symm;rw[HH];exact .inr ⟨f,d,b⟩),by trivial⟩
  exact Ml
 exact Ml
def x0(x y:Vl)(w:World):(binOp .eql 38 (.agg<|V_ x)<|.agg<|V_ y).run prog w=.ok (.bool<|decide (x=y)) w:=by
 obtain⟨b,G⟩:=x;obtain⟨c,d⟩:=y;go_simp;by_cases a:b=c;by_cases f:G=d<;>simp[a,f];simp[a]
def qj(op x y:Int):Vl × Int:=
 if op=1 then(⟨false,wrap64<|x+y⟩,0) else if op=2 then(⟨false,wrap64<|x-y⟩,0) else if op=3 then(⟨false,wrap64<|x*y⟩,0)
 else if op=4 then(if y=0 then(⟨false,0⟩, -3) else if y= -1 then(⟨false,wrap64<|-x⟩,0) else(⟨false,wrap64<|x.tdiv y⟩,0))
 else if op=5 then(⟨false,if y<x then y else x⟩,0) else if op=6 then(⟨false,if x<y then y else x⟩,0)
 else if op=7 then(⟨false,bits .and .i64 x y⟩,0) else if op=8 then(⟨false,bits .or .i64 x y⟩,0) else if op=9 then(⟨false,bits .xor .i64 x y⟩,0)
 else(⟨false,if x<y then 1 else 0⟩,0)
def iA(op:Int)(a b:Vl):Vl × Int:=
 if op=11 then(⟨false,if a=b then 1 else 0⟩,0) else if op<1\/11<op\/a.r=true\/b.r=true then(⟨false,0⟩, -2) else qj op a.n b.n
def qX(r:Vl × Int)(e:Ending):Prop:=e=.returned (.tuple #[.agg #[.bool r.1.r,Y r.1.n],Y r.2])
def AK(i:Int)(l b:Vl)(w:World)(r:l.r=false)(s:b.r=false)(D:1<=i)(E:i<=10):
 Calls prog 164 #[Y i,.agg #[.bool l.r,Y l.n],.agg #[.bool b.r,Y b.n]] w λe w'=>qX (qj i l.n b.n) e/\J [] w w':=by
 obtain⟨-,-,-,N2⟩:=xO w 38 #[.bool l.r,Y l.n] 38 #[.bool b.r,Y b.n] 38 #[.bool false,Y 0];have B:Bk (((w.alloc<|.cells #[.bool l.r,Y l.n] 38).alloc<|.cells #[.bool b.r,Y b.n] 38).alloc<|.cells #[.bool false,Y 0] 38) (w.heap.size+2) 38 #[.bool false,Y 0]:=zu<|T_ ((w.alloc<|.cells #[.bool l.r,Y l.n] 38).alloc<|.cells #[.bool b.r,Y b.n] 38) 38 #[.bool false,Y 0];obtain⟨z,x⟩:=l;obtain⟨F,y⟩:=b;simp only at r s;subst r;subst s;simp only at N2 B |-;have t:i=1\/i=2\/i=3\/i=4\/i=5\/i=6\/i=7\/i=8\/i=9\/i=10:=X
 rcases t with rfl|rfl|rfl|rfl|rfl|rfl|rfl|rfl|rfl|rfl
 .have aL:=O (show qj 1 x y=((⟨false,wrap64<|x+y⟩:Vl),(0:Int)) by simp[qj]);go_enter func164,ntmps164;go_wp2_with fail;go_quiet (fail);go_wp2_with fail;go_at_call 196;refine(ka).mono ?_;rintro e j⟨rfl,N3⟩;have hB:=(B.drewN nq).hF N3;obtain⟨d,f⟩:=hB.iN;have c:=hB.hG 0;have a:=hB.hG 1;go_wp2;refine Ha (v:=.tuple #[.agg #[.bool false,Y<|wrap64<|x+y],Y 0]) (iI (p:=6) (u:=7) rfl rfl ((hB.hW 0<|.bool false).hW 1<|Y<|wrap64<|x+y) underlying38 rfl k_) rfl ⟨by unfold qX;rw[aL.out],?_⟩;exact Nh
 .have aL:=O (show qj 2 x y=((⟨false,wrap64<|x-y⟩:Vl),(0:Int)) by simp[qj]);go_enter func164,ntmps164;go_wp2_with fail;go_quiet (fail);go_wp2_with fail;go_at_call 196;refine(ka).mono ?_;rintro e j⟨rfl,N3⟩;have hB:=(B.drewN nq).hF N3;obtain⟨d,f⟩:=hB.iN;have c:=hB.hG 0;have a:=hB.hG 1;go_wp2;refine Ha (v:=.tuple #[.agg #[.bool false,Y<|wrap64<|x-y],Y 0]) (iI (p:=6) (u:=7) rfl rfl ((hB.hW 0<|.bool false).hW 1<|Y<|wrap64<|x-y) underlying38 rfl k_) rfl ⟨by unfold qX;rw[aL.out],?_⟩;exact Nh
 .have aL:=O (show qj 3 x y=((⟨false,wrap64<|x*y⟩:Vl),(0:Int)) by simp[qj]);go_enter func164,ntmps164;go_wp2_with fail;go_quiet (fail);go_wp2_with fail;go_at_call 196;refine(ka).mono ?_;rintro e j⟨rfl,N3⟩;have hB:=(B.drewN nq).hF N3;obtain⟨d,f⟩:=hB.iN;have c:=hB.hG 0;have a:=hB.hG 1;go_wp2;refine Ha (v:=.tuple #[.agg #[.bool false,Y<|wrap64<|x*y],Y 0]) (iI (p:=6) (u:=7) rfl rfl ((hB.hW 0<|.bool false).hW 1<|Y<|wrap64<|x*y) underlying38 rfl k_) rfl ⟨by unfold qX;rw[aL.out],?_⟩;exact Nh
 .by_cases o:y=0
  .subst o;have aL:=O (show qj 4 x 0=((⟨false,0⟩:Vl),((-3):Int)) by simp[qj]);go_enter func164,ntmps164;go_wp2_with fail;go_quiet (fail);have hB:=B.drewN nq;obtain⟨d,f⟩:=hB.iN;have c:=hB.hG 0;have a:=hB.hG 1;go_wp2;refine me #[.bool false,Y<|0] (Y<|-3) ((hB.hW 0<|.bool false).hW 1<|Y<|0) underlying38 ⟨by unfold qX;rw[aL.out],?_⟩;exact((N2.drewN nq).setCell (.inr p_) _).setCell (.inr p_) _
  have C:(y==0)=false:=zu o;by_cases n:y= -1
  .subst n;have aL:=O (show qj 4 x (-1)=((⟨false,wrap64<|-x⟩:Vl),(0:Int)) by simp[qj]);go_enter func164,ntmps164;go_wp2_with fail;go_quiet (fail);go_wp2_with fail;go_at_call 196;refine(ka).mono ?_;rintro e j⟨rfl,N3⟩;have hB:=(B.drewN nq).hF N3;obtain⟨d,f⟩:=hB.iN;have c:=hB.hG 0;have a:=hB.hG 1;go_wp2;refine Ha (v:=.tuple #[.agg #[.bool false,Y<|wrap64<|-x],Y 0]) (iI (p:=6) (u:=7) rfl rfl ((hB.hW 0<|.bool false).hW 1<|Y<|wrap64<|-x) underlying38 rfl k_) rfl ⟨by unfold qX;rw[aL.out],?_⟩;exact Nh
  have aL:=O (show qj 4 x y=((⟨false,wrap64<|x.tdiv y⟩:Vl),(0:Int)) by simp[qj,o,n]);have A:(y== -1)=false:=zu n;clear n;go_enter func164,ntmps164;go_wp2_with fail;go_quiet (fail);go_wp2_with fail;go_at_call 196;refine(ka).mono ?_;rintro e j⟨rfl,N3⟩;have hB:=(B.drewN nq).hF N3;obtain⟨d,f⟩:=hB.iN;have c:=hB.hG 0;have a:=hB.hG 1;go_wp2;refine Ha (v:=.tuple #[.agg #[.bool false,Y<|wrap64<|x.tdiv y],Y 0]) (iI (p:=6) (u:=7) rfl rfl ((hB.hW 0<|.bool false).hW 1<|Y<|wrap64<|x.tdiv y) underlying38 rfl k_) rfl ⟨by unfold qX;rw[aL.out],?_⟩;exact Nh
 .by_cases m:y<x
  .have aL:=O (show qj 5 x y=((⟨false,y⟩:Vl),(0:Int)) by simp[qj,m]);go_enter func164,ntmps164;go_wp2_with fail;go_quiet (fail);go_wp2_with fail;go_at_call 196;refine(ka).mono ?_;rintro e j⟨rfl,N3⟩;have hB:=(B.drewN nq).hF N3;obtain⟨d,f⟩:=hB.iN;have c:=hB.hG 0;have a:=hB.hG 1;go_wp2;(try rw[show min x y=y from X]);exact KL
  have aL:=O (show qj 5 x y=((⟨false,x⟩:Vl),(0:Int)) by simp[qj,m]);go_enter func164,ntmps164;go_wp2_with fail;go_quiet (fail);go_wp2_with fail;go_at_call 196;refine(ka).mono ?_;rintro e j⟨rfl,N3⟩;have hB:=(B.drewN nq).hF N3;obtain⟨d,f⟩:=hB.iN;have c:=hB.hG 0;have a:=hB.hG 1;go_wp2;(try rw[show min x y=x from X]);exact KK
 .by_cases m:x<y
  .have aL:=O (show qj 6 x y=((⟨false,y⟩:Vl),(0:Int)) by simp[qj,m]);go_enter func164,ntmps164;go_wp2_with fail;go_quiet (fail);go_wp2_with fail;go_at_call 196;refine(ka).mono ?_;rintro e j⟨rfl,N3⟩;have hB:=(B.drewN nq).hF N3;obtain⟨d,f⟩:=hB.iN;have c:=hB.hG 0;have a:=hB.hG 1;go_wp2;(try rw[show max x y=y from X]);exact KL
  have aL:=O (show qj 6 x y=((⟨false,x⟩:Vl),(0:Int)) by simp[qj,m]);go_enter func164,ntmps164;go_wp2_with fail;go_quiet (fail);go_wp2_with fail;go_at_call 196;refine(ka).mono ?_;rintro e j⟨rfl,N3⟩;have hB:=(B.drewN nq).hF N3;obtain⟨d,f⟩:=hB.iN;have c:=hB.hG 0;have a:=hB.hG 1;go_wp2;(try rw[show max x y=x from X]);exact KK
 .have aL:=O (show qj 7 x y=((⟨false,bits .and .i64 x y⟩:Vl),(0:Int)) by simp[qj]);go_enter func164,ntmps164;go_wp2_with fail;go_quiet (fail);go_wp2_with fail;go_at_call 196;refine(ka).mono ?_;rintro e j⟨rfl,N3⟩;have hB:=(B.drewN nq).hF N3;obtain⟨d,f⟩:=hB.iN;have c:=hB.hG 0;have a:=hB.hG 1;go_wp2;refine me #[.bool false,Y<|bits .and .i64 x y] (Y 0) ((hB.hW 0<|.bool false).hW 1<|Y<|bits .and .i64 x y) underlying38 ⟨by unfold qX;rw[aL.out],?_⟩;exact Nh
 .have aL:=O (show qj 8 x y=((⟨false,bits .or .i64 x y⟩:Vl),(0:Int)) by simp[qj]);go_enter func164,ntmps164;go_wp2_with fail;go_quiet (fail);go_wp2_with fail;go_at_call 196;refine(ka).mono ?_;rintro e j⟨rfl,N3⟩;have hB:=(B.drewN nq).hF N3;obtain⟨d,f⟩:=hB.iN;have c:=hB.hG 0;have a:=hB.hG 1;go_wp2;refine me #[.bool false,Y<|bits .or .i64 x y] (Y 0) ((hB.hW 0<|.bool false).hW 1<|Y<|bits .or .i64 x y) underlying38 ⟨by unfold qX;rw[aL.out],?_⟩;exact Nh
 .have aL:=O (show qj 9 x y=((⟨false,bits .xor .i64 x y⟩:Vl),(0:Int)) by simp[qj]);go_enter func164,ntmps164;go_wp2_with fail;go_quiet (fail);go_wp2_with fail;go_at_call 196;refine(ka).mono ?_;rintro e j⟨rfl,N3⟩;have hB:=(B.drewN nq).hF N3;obtain⟨d,f⟩:=hB.iN;have c:=hB.hG 0;have a:=hB.hG 1;go_wp2;refine me #[.bool false,Y<|bits .xor .i64 x y] (Y 0) ((hB.hW 0<|.bool false).hW 1<|Y<|bits .xor .i64 x y) underlying38 ⟨by unfold qX;rw[aL.out],?_⟩;exact Nh
 by_cases m:x<y
 .have aL:=O (show qj 10 x y=((⟨false,1⟩:Vl),(0:Int)) by simp[qj,m]);go_enter func164,ntmps164;go_wp2_with fail;go_quiet (fail);go_wp2_with fail;go_at_call 195;refine(ru).mono ?_;rintro e j⟨rfl,N3⟩;have hB:=(B.drewN nq).hF N3;obtain⟨d,f⟩:=hB.iN;have c:=hB.hG 0;have a:=hB.hG 1;go_wp2;refine me #[.bool false,Y<|1] (Y 0) ((hB.hW 0<|.bool false).hW 1<|Y<|1) underlying38 ⟨by unfold qX;rw[aL.out],?_⟩;exact Nh
 have aL:=O (show qj 10 x y=((⟨false,0⟩:Vl),(0:Int)) by simp[qj,m]);go_enter func164,ntmps164;go_wp2_with fail;go_quiet (fail);go_wp2_with fail;go_at_call 195;refine(ru).mono ?_;rintro e j⟨rfl,N3⟩;have hB:=(B.drewN nq).hF N3;obtain⟨d,f⟩:=hB.iN;have c:=hB.hG 0;have a:=hB.hG 1;go_wp2;refine me #[.bool false,Y<|0] (Y 0) ((hB.hW 0<|.bool false).hW 1<|Y<|0) underlying38 ⟨by unfold qX;rw[aL.out],?_⟩;exact Nh
def mV(c:Int)(a b:Vl):
 Calls prog 164 #[Y c,.agg #[.bool a.r,Y a.n],.agg #[.bool b.r,Y b.n]] w λe w'=>qX (iA c a b) e/\J [] w w':=by
 obtain⟨-,-,-,N2⟩:=xO w 38 #[.bool a.r,Y a.n] 38 #[.bool b.r,Y b.n] 38 #[.bool false,Y 0];have B:Bk (((w.alloc<|.cells #[.bool a.r,Y a.n] 38).alloc<|.cells #[.bool b.r,Y b.n] 38).alloc<|.cells #[.bool false,Y 0] 38) (w.heap.size+2) 38 #[.bool false,Y 0]:=zu<|T_ ((w.alloc<|.cells #[.bool a.r,Y a.n] 38).alloc<|.cells #[.bool b.r,Y b.n] 38) 38 #[.bool false,Y 0];by_cases A:c=11
 .subst A;by_cases d:a=b
  .have aL:=O (show iA 11 a b=((⟨false,1⟩:Vl),(0:Int)) by simp[iA,d]);have j:=λi=>(x0 a b i).trans (show _=Result.ok (Value.bool true) i by rw[Hn d]);clear d;go_enter func164,ntmps164;go_wp2_with fail;go_wp2_with fail;go_at_call 195;refine(ru).mono ?_;rintro e l⟨rfl,f⟩;have hB:=(B).hF f;obtain⟨U,af⟩:=hB.iN;have D:=hB.hG 0;have C:=hB.hG 1;go_wp2;refine me #[.bool false,Y<|1] (Y 0) ((hB.hW 0<|.bool false).hW 1<|Y<|1) underlying38 ⟨by unfold qX;rw[aL.out],?_⟩;exact(((N2.trans f)).setCell (.inr p_) _).setCell (.inr p_) _
  have aL:=O (show iA 11 a b=((⟨false,0⟩:Vl),(0:Int)) by simp[iA,d]);have j:=λi=>(x0 a b i).trans (show _=Result.ok (Value.bool false) i by rw[H4 d]);clear d;go_enter func164,ntmps164;go_wp2_with fail;go_wp2_with fail;go_at_call 195;refine(ru).mono ?_;rintro e l⟨rfl,f⟩;have hB:=(B).hF f;obtain⟨U,af⟩:=hB.iN;have D:=hB.hG 0;have C:=hB.hG 1;go_wp2;refine me #[.bool false,Y<|0] (Y 0) ((hB.hW 0<|.bool false).hW 1<|Y<|0) underlying38 ⟨by unfold qX;rw[aL.out],?_⟩;exact(((N2.trans f)).setCell (.inr p_) _).setCell (.inr p_) _
 have l:(c==11)=false:=zu A;by_cases i:c<1;have aL:=O (show iA c a b=((⟨false,0⟩:Vl),(-2:Int)) by unfold iA;rw[K_ A,L_<|.inl i]);exact KA;by_cases j:11<c
 .have aL:=O (show iA c a b=((⟨false,0⟩:Vl),(-2:Int)) by unfold iA;rw[K_ A,L_<|.inr<|.inl j]);exact KA
 cases d:a.r with
 |true=>
  have aL:=O (show iA c a b=((⟨false,0⟩:Vl),(-2:Int)) by unfold iA;rw[K_ A,L_<|.inr<|.inr<|.inl d]);clear A;rw[d]at B N2;exact KC
 |false=>
  cases f:b.r with
  |true=>
   have aL:=O (show iA c a b=((⟨false,0⟩:Vl),(-2:Int)) by unfold iA;rw[K_ A,L_<|.inr<|.inr<|.inr f]);clear A;rw[d,f]at B N2;exact KC
  |false=>
   have aL:=O (show iA c a b=qj c a.n b.n by unfold iA;rw[K_ A,K_<|by rw[d,f];simp;omega]);have:=AK c a b w d f X X;rw[d,f]at this;exact this.mono λe w' h=>⟨by rw[aL.out];exact h.1,h.2⟩
structure In where
 op:Int
 a:Int
 b:Int
 c:Int
 n:Int
 deriving DecidableEq,Inhabited
abbrev QR:=List In
def In.E(i:In):List Value:=[Y i.op,Y i.a,Y i.b,Y i.c,Y i.n]
def l5(l:QR):List Value:=l.flatMap In.E
def uK(a b:QR):l5 (a++b)=l5 a++l5 b:=by simp[l5]
def yA{l:QR}:∀u∈l5 l,u.oneCell'=true:=by
 intro u b;obtain⟨c,_,a⟩:=H0.1 b;simp[In.E]at a;rcases a with rfl|rfl|rfl|rfl|rfl<;>rfl
def Is(w:World)(A:OA)(l:QR):Prop:=Sl w 189 5 A l.length<|l5 l
def Is.hF{A:OA}{l:QR}(h:Is w A l)(a:J [] w w'):Is w' A l:=Sl.hF h a
def Is.at_{A:OA}{l:QR}(h:Is w A l)(f:k<l.length):
 ∃b off,A=some (Z b off)/\w.cell? (Z b<|off+k*5)=some (Y l[k].op)/\w.cell? (Z b<|off+k*5+1)=some (Y l[k].a)/\w.cell? (Z b<|off+k*5+2)=some (Y l[k].b)/\w.cell? (Z b<|off+k*5+3)=some (Y l[k].c)/\w.cell? (Z b<|off+k*5+4)=some (Y l[k].n):=by
 obtain⟨b,off,hA,hc⟩:=Sl.f_ h X;have g:=λi d=>jr In.E 5 (λ_=>rfl) l k i f d;exact LG
def iG(l:QR)(pc:Int):Int:=if pc<0\/(l.length:Int)<=pc then -1 else(l.getD pc.toNat default).op
def qM(A:OA)(c:Nat)(l:QR)(hH hC pc:Int)(h:Is w A l)(n:l.length<=1000000000):
 Calls prog 133 #[.agg #[.slice A l.length c,Y hH,Y hC],Y pc] w λe w'=>e=.returned (Y<|iG l pc)/\J [] w w':=by
 have G:=O (show iG l pc=if pc<0\/(l.length:Int)<=pc then -1 else(l.getD pc.toNat default).op from rfl);have a:=(G_ [] w).alloc<|.cells #[.slice A l.length c,Y hH,Y hC] 26;by_cases d:pc<0
 .go_enter func133,ntmps133;go_wp2;go_ret;exact⟨kD (by rw[G.out,L_<|.inl d]),a⟩
 by_cases f:(l.length:Int)<=pc
 .go_enter func133,ntmps133;go_wp2;go_ret;exact⟨kD (by rw[G.out,L_<|.inr f]),a⟩
 have b:pc.toNat<l.length:=X;obtain⟨k,rfl⟩:∃k:Nat,pc=k:=⟨pc.toNat,(HQ X).symm⟩;rw[Hh]at b;obtain⟨j,o,rfl,m,_,_,_,_⟩:=(h.hF a).at_ b;have i:(k:Int)<(l.length:Int):=X;go_enter func133,ntmps133;go_wp2;go_ret;exact⟨kD (by rw[G.out,K_ X,Hh,List.getD,O_ b];rfl),a⟩
def mC(n:Int)(u:Bool):Bool:=n==0||(u&&(decide (0<n)&&decide (n<16)))
def vQ{n:Int}{u:Bool}:Calls prog 178 #[Y n,.bool u] w λe w'=>e=.returned (.bool<|mC n u)/\w=w':=by
 have a:=O (show mC n u=(n==0||(u&&(decide (0<n)&&decide (n<16)))) from rfl);by_cases d:n=0
 .subst d;go_enter func178,ntmps178;go_wp2;go_ret;exact⟨iJ (by rw[a.out];rfl),by trivial⟩
 have b:(n==0)=false:=zu d;cases u with
 |false=>
  go_enter func178,ntmps178;go_wp2;go_ret;exact⟨iJ (by rw[a.out,b];rfl),by trivial⟩
 |true=>
  by_cases c:0<n
  .by_cases f:n<16
   .go_enter func178,ntmps178;go_wp2;go_ret;exact⟨iJ (by rw[a.out,b,Hn c,Hn f];rfl),by trivial⟩
   have i:decide (n<16)=false:=zu f;go_enter func178,ntmps178;go_wp2;go_ret;exact⟨iJ (by rw[a.out,b,Hn c,i];rfl),by trivial⟩
  have f:decide (0<n)=false:=zu c;go_enter func178,ntmps178;go_wp2;go_ret;exact⟨iJ (by rw[a.out,b,f];rfl),by trivial⟩
def pX(op:Int):Bool:=decide (1<=op/\op<=11)
def Aj:Calls prog 208 #[] w λe w'=>∃(g:Nat) (cs:Array Value),e=.returned (.slice (j_ g) 12 12)/\Bk w' g 9 cs/\(∀k,k<12->∃s,cs[k]?=some (.string s))/\J [] w w':=by
 go_enter func208,ntmps208;go_wp2;go_ret;refine⟨w.heap.size,_,rfl,T_ w _ _,λk b=>?_,(G_ _ _).alloc _⟩;have a:k=0\/k=1\/k=2\/k=3\/k=4\/k=5\/k=6\/k=7\/k=8\/k=9\/k=10\/k=11:=X;rcases a with rfl|rfl|rfl|rfl|rfl|rfl|rfl|rfl|rfl|rfl|rfl|rfl<;>exact⟨_,rfl⟩
def GF(b:Bool)(e:Ending):Prop:=∃s:ByteArray,e=.returned (.tuple #[.string s,.bool b])
def rk(op:Int):Calls prog 180 #[Y op] w λe w'=>GF (pX op) e/\J [] w w':=by
 have a8:=O (show pX op=decide (1<=op/\op<=11) from rfl);by_cases j:op<1;exact Lk;by_cases l:11<op
 .exact Lk
 have aL:=O (show pX op=true by rw[a8.out];rw[HH];omega);obtain⟨k,rfl⟩:∃k:Nat,op=k:=⟨op.toNat,(HQ X).symm⟩;have f:k<12:=X;have i:(k:Int)<12:=X;go_enter func180,ntmps180;go_wp2_with fail;go_at_call 208;refine(Aj).mono ?_;rintro e o⟨g,cs,rfl,d,b,c⟩;obtain⟨n,a⟩:=b k f;have m:=(d.f_ k).trans a;clear b a;go_wp2
 go_ret2
 exact⟨by rw[aL.out];exact⟨_,rfl⟩,c⟩
