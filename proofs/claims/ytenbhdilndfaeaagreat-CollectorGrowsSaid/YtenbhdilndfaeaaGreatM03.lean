import Derived.Test.YtenbhdilndfaeaaGreatM01
import Derived.Test.YtenbhdilndfaeaaGreatRows
import Derived.Deep.CutBlock
import Derived.Deep.DeepCutAuto
import Derived.Deep.RegionHeld3
import Derived.Deep.RegionWith
import Derived.Laws.ResultCell
import Derived.WalkArith
set_option maxRecDepth 100000
set_option maxHeartbeats 0
set_option linter.all false
namespace Go.Proofs.YtenbhdilndfaeaaGreat
open Go.RowKit Go.Proofs.Tryz
variable{G:Prop}{w w':World}{B base g k len:Nat}{e:TypeId}{zs:List Int}{α:Type}{cs:Array Value}
theorem H6(h:G:=by
 go_enter func148,ntmps148
 go_wp2_with fail
 go_at_call 55
 refine(pD A c l id _ (h.hG I) hn).mono ?_;rintro e w2⟨rfl,J⟩;have E:=P.gr J s_;obtain⟨U,ad⟩:=E.iH;have H:=E.hH 0;have C:=E.hH 1;exact I3):G:=h
theorem IG(h:G:=by
 clear A;exact IH):G:=h
theorem IH(h:G:=by
 go_enter func164,ntmps164
 go_wp2_with fail
 have hB:=B;obtain⟨U,ad⟩:=hB.iH;have H:=hB.hH 0;have C:=hB.hH 1;go_wp2;refine lT #[.bool false,i_ (0)] (i_ (-2)) hB underlying38 ⟨by unfold qi;rw[ay.out],?_⟩;exact I):G:=h
theorem IU(h:G:=by
 refine lT #[.bool false,i_ (y)] (i_ 0) ((hB.hW 0 (.bool false)).hW 1 (i_ (y))) underlying38 ⟨by unfold qi;rw[ay.out],?_⟩;exact La):G:=h
theorem IW(h:G:=by
 refine lT #[.bool false,i_ (x)] (i_ 0) ((hB.hW 0 (.bool false)).hW 1 (i_ (x))) underlying38 ⟨by unfold qi;rw[ay.out],?_⟩;exact La):G:=h
theorem I3(h:G:=by
 go_wp2;have j:=(E.hW 0 (.bool false)).hW 1 (i_ 0);refine lT #[.bool false,i_ 0] (.bool false) j underlying38 ⟨rfl,?_⟩;exact Lq):G:=h
theorem Jp(h:G:=by
 have ay:=h_ (show pn op=false by rw[a6.out];rw[Gk];omega)
 go_enter func180,ntmps180
 go_wp2
 go_ret2
 exact⟨by rw[ay.out];exact⟨_,rfl⟩,F_ _ _⟩):G:=h
theorem JP(h:G:=by
 go_wp2_with fail
 go_quiet (fail)
 go_wp2;go_meet;exact⟨k,rfl,hk,.inr ⟨aW.out,by rw[H.out,bG.out];omega⟩,F.drewN _⟩):G:=h
theorem Kl(h:G:=by
 go_enter func179,ntmps179
 go_wp2;go_ret;exact⟨iD (by rw[HA.out];symm;rw[Gk];omega),by trivial⟩):G:=h
theorem K4(h:G:=by
 exact((aM.gr [] w S.size G.drew).setCell (.inr p_) _).setCell (.inr p_) _):G:=h
theorem La(h:G:=by
 exact((((I.drewN nq).trans J)).setCell (.inr p_) _).setCell (.inr p_) _):G:=h
theorem Lq(h:G:=by
 exact((I.trans J).setCell (.inr s_) _).setCell (.inr s_) _):G:=h
def iQ(w:World)(B g:Nat):Prop:=∃(A:OA) (n c:Nat) (i:Nat) (zs:List Int),Bk w g 112 #[.slice A n c,i_ i]/\i<=n/\n<=200/\n<=c/\
 (∃e,Sl w e 1 A n (zs.map (.int .u8)))/\(∀j,0<=zs.getD j 0/\zs.getD j 0<256)/\(0<n->∀b off,A=some (c_ b off)->b≠g/\b<B)/\g<B
theorem iQ.iy(h:iQ w B g)(hk:∀k,k<B->k<w.heap.size->w'.heap[k]?=w.heap[k]?):iQ w' B g:=by
 obtain⟨A,n,c,i,zs,h1,h2,h3,au,⟨e,aq⟩,aU,bG,bL⟩:=h;refine⟨A,n,c,i,zs,(hk g bL h1.lt).trans h1,h2,h3,au,⟨e,aq.1,λhn=>?_⟩,aU,bG,bL⟩;obtain⟨b,off,cs,fz,hA,hb,hc⟩:=aq.2 hn;refine⟨b,off,cs,fz,hA,(hk b (bG hn b off hA).2 ?_).trans hb,hc⟩;exact KW
theorem iQ.hG(h:iQ w B g)(hg:Gr [] w w'):iQ w' B g:=h.iy λk _ hk=>hg.block k hk s_
theorem iQ.ih{M:List Nat}(h:iQ w B g)(hg:Gr M w w')(z:∀x∈M,B<=x):iQ w' B g:=h.iy λk hB hk=>hg.block k hk (λhm=>by have:=z k hm;omega)
theorem iQ.app(h:iQ w B g)(hg:App base e w w')(hB:B<=base):iQ w' B g:=h.iy λk hk ag=>by
 rw[hg.iy k w.heap[k] (EH ag) (.inl o_),EH ag]
theorem iQ.lt(h:iQ w B g):g<w.heap.size:=by
 obtain⟨A,n,c,i,zs,h1,_⟩:=h;exact h1.lt
theorem iQ.xa(h:iQ w B g):g<B:=by
 obtain⟨A,n,c,i,zs,_,_,_,_,_,_,_,h⟩:=h;exact h
theorem iQ.bk(h:iQ w B g):∃cs,Bk w g 112 cs:=by
 obtain⟨A,n,c,i,zs,h1,_⟩:=h;exact⟨_,h1⟩
theorem iw(B g:Nat)(n:Int)(w:World)(hd:iQ w B g)(hn:1<=n)(bC:n<=1000000):
 Calls prog 19 #[q_ g,i_ n] w λe w'=>∃r:Int,e=.returned (i_ r)/\0<=r/\r<n/\iQ w' B g/\Gr [g] w w':=by
 obtain⟨A,k,c,i,zs,h1,h2,h3,au,⟨bS,aq⟩,aU,bG,bL⟩:=hd;have bi:w.cell? (c_ g 0)=some (.slice A k c):=(h1.f_ 0).trans rfl;have bq:w.cell? (c_ g 1)=some (i_ i):=(h1.f_ 1).trans rfl;have C:=h1.hH 1
 by_cases dN:i<k
 .obtain⟨b,off,hA,av⟩:=aq.f_ o_;have hbg:=(bG o_ b off hA).1;have V:=hA;subst hA
  have a:w.cell? (c_ b (off+i))=some (.int .u8 (zs.getD i 0)):=av i _ (by
   have hl:i<zs.length:=by have:=aq.1;simp at this;omega
   simp[E7,M_ hl,List.getD])
  go_enter func19,ntmps19
  go_wp2_with fail
  go_quiet (fail)
  go_wp2;have aJ:IntKind.i64.wrap (i:Int)=(i:Int):=E2 _ o_;have aG:(i:Int)<(k:Int):=o_;have bQ:(0:Int)<=(i:Int):=o_
  go_quiet (fail)
  clear aJ aG bQ;go_wp2;go_ret;have K:0<=zs[i]?.getD 0/\zs[i]?.getD 0<256:=aU i;rw[IntWalk.wrap64_in _ o_];refine⟨_,rfl,?_,?_,⟨_,k,c,i+1,zs,((h1.drewN _).hW 1 _).drewN _,o_,h3,au,⟨bS,?_⟩,aU,λ_=>bG o_,bL⟩,?_⟩
  .exact Int.tmod_nonneg _ K.1
  .exact Hg _ o_
  .refine Sl.drewN (aq.iy λb' z f o=>(((F_ [g] w).drewN _).setCell (.inl s_) _).block b' o ?_) _
   have:=(bG o_ b' z f).1
   exact LO
  .exact(((F_ _ w).drewN _).setCell (.inl s_) _).drewN _
 .have d:i=k:=o_;subst d
  go_enter func19,ntmps19
  go_wp2_with fail
  go_quiet (fail)
  go_wp2;go_ret;exact⟨0,rfl,o_,o_,⟨A,i,c,i,zs,h1.drewN _,H_ _,h3,au,⟨bS,aq⟩,aU,bG,bL⟩,(F_ _ w).drewN _⟩
theorem BA(A:OA)(n c:Nat)(zs:List Int)(w:World)(bS:TypeId)(h:Sl w bS 1 A n (zs.map (.int .u8)))(hz:∀j,0<=zs.getD j 0/\zs.getD j 0<256)(aN:n<=c)(hn:n<=9223372036854775807):
 Calls prog 54 #[.slice A n c] w λe w'=>∃g,e=.returned (q_ g)/\w.heap.size<=g/\iQ w' w'.heap.size g/\Gr [] w w':=by
 have ag:0<n->∀b' z,A=some (c_ b' z)->b'<w.heap.size:=by
  intro hn0 b' z f;obtain⟨b,off,cs,fz,hA,hb,_⟩:=h.2 hn0;rw[f]at hA;injection hA with hA;injection hA with hA _;subst hA
  rcases EJ b' w.heap.size with ag|bA
  .exact ag
  .rw[Y_ bA]at hb
   cases hb
 by_cases bC:200<n
 .have ag:=ag o_;obtain⟨b,off,hA,_⟩:=h.f_ o_;have V:=hA;subst hA
  have a:Sl w bS 1 (some (c_ b off)) 200 ((zs.take 200).map (.int .u8)):=by
   refine⟨by have:=h.1;simp at this |-;omega,λ_=>?_⟩;obtain⟨b',z,cs,fz,f,hb,hc⟩:=h.2 o_;refine⟨b',z,cs,fz,f,hb,λj u hu=>hc j u ?_⟩;rw[E7,Fk]at hu;split at hu
   .rw[E7];exact hu
   .simp at hu
  go_enter func54,ntmps54
  go_wp2;go_ret;refine⟨_,rfl,H_ _,⟨_,200,c,0,zs.take 200,P_ w _ _,o_,o_,o_,⟨bS,a.alloc _⟩,λj=>?_,λ_ b' z f=>by have:=ag b' z f;simp;omega,s_⟩,(F_ _ w).alloc _⟩
  by_cases hj:j<200
  .simpa[Fk,hj]using hz j
  .simp[Fk,hj]
 .go_enter func54,ntmps54
  go_wp2;go_ret;exact⟨_,rfl,H_ _,⟨A,n,c,0,zs,P_ w _ _,o_,o_,aN,⟨bS,h.alloc _⟩,hz,λhn0 b' z f=>by have:=ag o_ b' z f;simp;omega,s_⟩,(F_ _ w).alloc _⟩
theorem Bg(h:∀n∈zs,(Lit.int .u8 n).wf=true):∀j,0<=(zs.take len).getD j 0/\(zs.take len).getD j 0<256:=by
 intro j
 by_cases hj:j<(zs.take len).length
 .have hm:(zs.take len).getD j 0∈zs:=by
   simp only[List.getD,M_ hj,Fw];exact Ff (N_ hj)
  have:=bounds_u8 (h _ hm)
  omega
 .simp[List.getD,EW (Nat.le_of_not_lt hj)]
theorem vl{k:IntKind}{x:Addr}(hl:len<=zs.length)(hc:∀i,i<zs.length->w.cell? (x.add i)=some (.int k (zs.getD i 0))):
 ∃e,Sl w e 1 (some x) len ((zs.take len).map (.int k)):=by
 by_cases h0:len=0
 .subst h0;exact⟨0,by simpa using Fm w 0 1 (some x)⟩
 .have hx:=hc 0 o_
  have aS:x.add 0=x:=by simp[Addr.add]
  rw[aS]at hx;obtain⟨b,off,a⟩:=x;unfold World.cell? at hx
  cases hb:w.heap[b]? with
  |none=>rw[hb]at hx;simp at hx
  |some o=>
   rw[hb]at hx
   cases o with
   |cells cs e fz=>
    cases a with
    |some s=>simp at hx
    |none=>
     refine⟨e,p_,λ_=>⟨b,off,cs,fz,rfl,hb,λj u hu=>?_⟩⟩;rw[E7,Fk]at hu;split at hu
     .rename_i hj
      have:=hc j o_
      rw[pF,cell_of_row w b _ cs e fz hb]at this;rw[this,<-hu];simp[List.getD,M_ (show j<zs.length by omega)]
     .simp at hu
   |_=>simp at hx
structure Vl where
 r:Bool
 n:Int
 deriving DecidableEq,Inhabited
structure Ob where
 id:Int
 fs:List Vl
 deriving DecidableEq,Inhabited
abbrev V_(x:Vl):Array Value:=#[.bool x.r,i_ x.n]
def Vl.E(v:Vl):List Value:=[.bool v.r,i_ v.n]
def jd(l:List Vl):List Value:=l.flatMap Vl.E
def kn(h:List Ob)(id:Int):Option Ob:=h.find? λo=>o.id==id
theorem xZ{h:List Ob}{id:Int}{o:Ob}(hg:kn h id=some o):o.id=id:=by
 have:=List.find?_some hg
 exact LO
theorem qG{h:List Ob}{id:Int}{o:Ob}(hg:kn h id=some o):o∈h:=List.mem_of_find?_eq_some hg
theorem qd{c:Type}(f:α->c)(p:c->Bool)(q:α->Bool)(l:List α)(k:Nat)(h:∀a∈l,p (f a)=q a):iO p (l.map f) k=iO q l k:=by
 induction l generalizing k with
 |nil=>rfl
 |cons a l Z=>simp only[Fg,iO];rw[h a s_,Z (k+1) λb hb=>h b (by simp[hb])]
section
variable{h x:List Ob}{roots:List Vl}{ro:Ob->Ob}{rv:Vl->Vl}
end
def jz(h:List Ob)(id:Int):Int:=iO (λo:Ob=>o.id==id) h 0
def mV:List Ob->Int->Nat
 |[],_=>0
 |o::l,id=>if o.id<id then mV l id+1 else 0
def lp(h:List Ob)(o:Ob):List Ob:=
 if jz h o.id<0 then h.take (mV h o.id)++[o]++h.drop (mV h o.id) else h.take (jz h o.id).toNat++[o]++h.drop ((jz h o.id).toNat+1)
theorem infoVl:(prog.info? 38).map (λi=>(i.zero,i.size,i.bytes))=some (some (.agg #[.bool false,i_ 0]),2,16):=by kernel_rfl
theorem infoOb:(prog.info? 56).map (λi=>(i.zero,i.size,i.bytes))=some (some (.agg #[i_ 0,n_]),2,32):=by kernel_rfl
theorem vA(f:α->List Value)(hf:∀a,(f a).length=2)(l:List α):(l.flatMap f).length=l.length*2:=by
 induction l with
 |nil=>rfl
 |cons x l Z=>simp only[E0,J_,hf,Z,Z_];omega
theorem jV(f:α->List Value)(hf:∀a,(f a).length=2)(l:List α)(k j:Nat)(hk:k<l.length)(hj:j<2):(l.flatMap f)[k*2+j]?=(f l[k])[j]?:=by
 induction l generalizing k with
 |nil=>simp at hk
 |cons x l Z=>
  cases k with
  |zero=>simp only[E0,Gj,U_,Fu];rw[Fv (by rw[hf];exact hj)]
  |succ k=>
   simp only[E0,F9];rw[FE (by rw[hf];omega),hf,show(k+1)*2+j-2=k*2+j by omega];exact Z k (zu hk)
structure Rw where
 o:Ob
 A:Option Addr
 c:Nat
def Rw.E(r:Rw):List Value:=[i_ r.o.id,.slice r.A r.o.fs.length r.c]
def jl(l:List Rw):List Value:=l.flatMap Rw.E
def hY(l:List Rw):List Ob:=l.map Rw.o
theorem lN(l:List Vl):(jd l).length=l.length*2:=vA Vl.E (λ_=>rfl) l
theorem lk(l:List Rw):(jl l).length=l.length*2:=vA Rw.E (λ_=>rfl) l
theorem pU(a b:List Vl):jd (a++b)=jd a++jd b:=by simp[jd]
theorem mG(a b:List Rw):jl (a++b)=jl a++jl b:=by simp[jl]
theorem np(l:List Vl):∀u∈jd l,u.oneCell'=true:=by
 intro u hu;obtain⟨v,_,hv⟩:=F5.1 hu;simp[Vl.E]at hv
 rcases hv with rfl|rfl<;>rfl
theorem jZ(l:List Rw):∀u∈jl l,u.oneCell'=true:=by
 intro u hu;obtain⟨v,_,hv⟩:=F5.1 hu;simp[Rw.E]at hv
 rcases hv with rfl|rfl<;>rfl
def mJ(n:Int):Prop:=(Lit.int .i64 n).wf=true
def Vs(w:World)(A:OA)(l:List Vl):Prop:=Sl w 38 2 A l.length (jd l)
def oa(w:World)(l:List Rw):Prop:=∀r∈l,Vs w r.A r.o.fs/\r.o.fs.length<=1000000000
def Os(w:World)(A:OA)(l:List Rw):Prop:=Sl w 56 2 A l.length (jl l)
theorem Vs.hG{A:OA}{l:List Vl}(h:Vs w A l)(hg:Gr [] w w'):Vs w' A l:=Sl.hG h hg
theorem Os.hG{A:OA}{l:List Rw}(h:Os w A l)(hg:Gr [] w w'):Os w' A l:=Sl.hG h hg
theorem oa.hG{l:List Rw}(h:oa w l)(hg:Gr [] w w'):oa w' l:=λr hr=>⟨(h r hr).1.hG hg,(h r hr).2⟩
theorem Vs.alloc{A:OA}{l:List Vl}(h:Vs w A l)(o:Obj):Vs (w.alloc o) A l:=Sl.alloc h o
theorem Vs.at_{A:OA}{l:List Vl}(h:Vs w A l)(hk:k<l.length):
 ∃b off,A=some (c_ b off)/\w.cell? (c_ b (off+k*2))=some (.bool l[k].r)/\w.cell? (c_ b (off+k*2+1))=some (i_ l[k].n):=by
 exact Jn
theorem Os.at_{A:OA}{l:List Rw}(h:Os w A l)(hk:k<l.length):
 ∃b off,A=some (c_ b off)/\w.cell? (c_ b (off+k*2))=some (i_ l[k].o.id)/\w.cell? (c_ b (off+k*2+1))=some (.slice l[k].A l[k].o.fs.length l[k].c):=by
 exact Jo
theorem AR{r:Rw}(h:Bk w g 56 #[i_ r.o.id,.slice r.A r.o.fs.length r.c]):Os w (j_ g) [r]:=
 ⟨rfl,λ_=>⟨g,0,_,_,rfl,h,λj u hu=>by
   have:j<2:=by
    rcases EJ j 2 with h|h
    .exact h
    .rw[EW (by simpa[jl,Rw.E]using h)]at hu
     cases hu
   rcases j with _|_|j
   .simpa[jl,Rw.E]using hu
   .simpa[jl,Rw.E]using hu
   .omega⟩⟩
theorem Dt{v:Vl}(h:Bk w g 38 (V_ v)):Vs w (j_ g) [v]:=
 ⟨rfl,λ_=>⟨g,0,_,_,rfl,h,λj u hu=>by
   have:j<2:=by
    rcases EJ j 2 with h|h
    .exact h
    .rw[EW (by simpa[jd,Vl.E]using h)]at hu
     cases hu
   rcases j with _|_|j
   .simpa[jd,Vl.E]using hu
   .simpa[jd,Vl.E]using hu
   .omega⟩⟩
theorem iC{P:Program}{fn:Func}{p u:Tmp}{ty:TypeId}(h:fn.results=#[.cell p ty,.tmp u])(tmps:Array Value)(w:World)(g:Nat)(t:TypeId)(cs:Array Value)(fr:Nat × Nat)(d:TypeDesc)
 (hp:tmps.getD p undef=q_ g) (hg:w.heap[g]?=some (.cells cs t fr))
 (hu:P.underlying ty=some d) (hd:(match d with| .struct _| .array _ _=>true|_=>false)=true) (hi:(P.info? ty).map (·.size)=some cs.size):
 (results fn tmps).run P w=.ok (.tuple #[.agg cs,tmps.getD u undef]) w:=by
 rw[results_cell_tmp h];have f:tmps[p]?.getD undef=q_ g:=zu hp;simp[f,asAddr,run_loadVar_row w g t ty cs fr d hg hu hd hi,Result.andThen]
theorem CN{i:Int}{fs:List Vl}{B:OA}{n d:Nat}(h:Bk w g 56 #[i_ i,.slice B n d])(hn:fs.length=n):Sl w 56 2 (j_ g) 1 (jl [⟨⟨i,fs⟩,B,d⟩]):=by
 subst hn;exact AR (r:=⟨⟨i,fs⟩,B,d⟩) h
theorem oa.iu{l:List Rw}{t:TypeId}(h:oa w l)(hk:Bk w g t cs)(ao:38≠t)(hg:Gr [g] w w'):oa w' l:=λr hr=>⟨Sl.iu (h r hr).1 hk ao hg,(h r hr).2⟩
theorem lT{P:Program}{fn:Func}{R:Ending->World->Prop}{a:Act}{w:World}{p u:Tmp}{ty:TypeId}{g:Nat}{t:TypeId}{fr:Nat × Nat}{d:TypeDesc}(cs:Array Value)(y:Value)(hg:w.heap[g]?=some (.cells cs t fr))(hu:P.underlying ty=some d)(hR:R (.returned (.tuple #[.agg cs,y])) w)
 (h:fn.results=#[.cell p ty,.tmp u]:=by rfl) (hp:a.tmps.getD p undef=q_ g:=by rfl) (hd:(match d with|.struct _|.array _ _=>true|_=>false)=true:=by rfl) (hi:(P.info? ty).map (·.size)=some cs.size:=by kernel_rfl) (hy:a.tmps.getD u undef=y:=by rfl) (hf:a.defers=[]:=by rfl):bodyPost P fn R .ret a w:=EX (v:=.tuple #[.agg cs,y]) (by rw[<-hy];exact iC h _ _ _ _ _ _ _ hp hg hu hd hi) hf hR
theorem pD(A:OA)(c:Nat)(l:List Rw)(id:Int)(w:World)(h:Os w A l)(hn:l.length<=1000000000):
 Calls prog 55 #[.agg #[.slice A l.length c],i_ id] w λe w'=>e=.returned (i_ (jz (hY l) id))/\Gr [] w w':=by
 have be:=h_ (show jz (hY l) id=iO (λr:Rw=>r.o.id==id) l 0 by unfold jz hY;exact qd _ _ _ _ _ λ_ _=>rfl);generalize hL:l.length=n at*;have aQ:Bk (w.alloc (.cells #[.slice A n c] 35)) w.heap.size 35 #[.slice A n c]:=P_ w _ _;have h0:(w.alloc (.cells #[.slice A n c] 35)).cell? (c_ w.heap.size 0)=some (.slice A n c):=aQ.f_ 0
 go_enter func55,ntmps55
 go_wp2
 go_loopw [10] (λi w'=>∃k:Nat,k<=n/\i=i_ k/\jz (hY l) id=iO (λr:Rw=>r.o.id==id) (l.drop k) k/\Gr [] w w') (λi _=>n-(intOf i).toNat)
 case atStart=>exact⟨0,O_ _,rfl,be.out,(F_ _ _).alloc _⟩
 case round=>
  obtain⟨k,hk,rfl,G,F⟩:=hrel;have aI:=h_ G;clear G
  by_cases ag:k<n
  .have az:k<l.length:=o_;obtain⟨b,off,rfl,bi,bq⟩:=(h.hG F).at_ az
   by_cases hv:l[k].o.id=id
   .have a:(l[k].o.id==id)=true:=by simp[hv]
    clear hv;go_wp2;go_ret;exact⟨j9 (by rw[aI.out,lO _ _ _ _ o_ a]),F.alloc _⟩
   .have a:(l[k].o.id==id)=false:=by simp[hv]
    go_wp2;go_roundw
    case rel=>exact⟨k+1,o_,gn,by rw[aI.out,kB _ _ _ _ o_ a],F.alloc _⟩
    case measure=>exact mz
  .exact Lp
theorem sW{f:TypeId}(o:Ob)(A:OA)(c:Nat)(w:World)(h:Sl w f 2 A o.fs.length (jd o.fs))(hn:o.fs.length<=1000000000):
 Calls prog 56 #[.agg #[i_ o.id,.slice A o.fs.length c]] w λe w'=>∃(A':OA) (c':Nat),
  e=.returned (.agg #[i_ o.id,.slice A' o.fs.length c'])/\w'.ownsRow w.heap.size 38 2 (.slice A' o.fs.length c') o.fs.length (jd o.fs)/\Gr [] w w':=by
 obtain⟨bF,bE,bt,a8,bo⟩:=info_parts infoVl;obtain⟨id,fs⟩:=o;simp only at h hn |-;obtain⟨aQ,-,-⟩:=qh w 56 #[i_ id,.slice A fs.length c] 56 #[i_ 0,n_];obtain⟨h0,h1⟩:=aQ.iH;obtain⟨-,bU,-⟩:=qh w 56 #[i_ id,.slice A fs.length c] 56 #[i_ 0,n_];have Q:=(h.alloc (.cells #[i_ id,.slice A fs.length c] 56)).alloc (.cells #[i_ 0,n_] 56);have a2:=((F_ [] w).alloc (.cells #[i_ id,.slice A fs.length c] 56)).alloc (.cells #[i_ 0,n_] 56);have j:w.heap.size+1≠w.heap.size:=o_;generalize hL:fs.length=n at*;clear hL
 go_enter func56,ntmps56
 go_wp2_with (at_builtin;refine iL _ rfl (.const (n_)) (.tmp 4) 54 rfl w.heap.size 38 bF _ 2 16 underlying54 bE bt a8 bo rfl d_ d_ none 0 0 [] rfl (iV _ _ _ _) _ n c _ rfl Q (np _) o_ p_ ?_;intro av ai w2 aq ao;simp only[U_,EO]at aq;have cU:=ao.bk aQ d_;have a:=ao.bk bU d_;obtain⟨bP,ck⟩:=cU.iH;have C:=cU.hH 1;obtain⟨ca,ce⟩:=a.iH;have b9:=a.hH 0;have bV:=a.hH 1)
 have b:=((a.ih (p:=(c_ w.heap.size 1)) j (.slice av n ai)).hW 0 (i_ id)).hW 1 (.slice av n ai);refine rr_ #[i_ id,.slice av n ai] b underlying56 ⟨av,ai,rfl,?_,?_⟩
 .have bS:=kH aq cU d_ ((F_ [w.heap.size] w2).setCell (p:=(c_ w.heap.size 1)) (.inl s_) (.slice av n ai));exact kH bS (a.ih (p:=(c_ w.heap.size 1)) j (.slice av n ai)) d_ (((F_ [w.heap.size+1] _).setCell (.inl s_) _).setCell (.inl s_) _)
 .exact(((ao.gr [] w (H_ _) a2).setCell (.inr s_) _).setCell (.inr s_) _).setCell (.inr s_) _
theorem sX{f:TypeId}(o:Ob)(A:OA)(c:Nat)(w:World)(h:Sl w f 2 A o.fs.length (jd o.fs))(hn:o.fs.length<=1000000000):
 Calls prog 56 #[.agg #[i_ o.id,.slice A o.fs.length c]] w λe w'=>∃(A':OA) (c':Nat),
  e=.returned (.agg #[i_ o.id,.slice A' o.fs.length c'])/\Vs w' A' o.fs/\Gr [] w w':=
 (sW o A c w h hn).mono λ_ _⟨A',c',h1,h2,h3⟩=>⟨A',c',h1,Sl.iT h2,h3⟩
theorem BI{h:List Ob}{id:Int}(hk:k<h.length)(ag:h[k].id<id):mV (h.drop k) id=mV (h.drop (k+1)) id+1:=by
 rw[R_ hk];simp[mV,ag]
theorem BJ{h:List Ob}{id:Int}(hk:k<h.length)(ag:¬h[k].id<id):mV (h.drop k) id=0:=by
 rw[R_ hk];simp[mV,ag]
theorem Aw{h:List Ob}{id:Int}(hk:h.length<=k):mV (h.drop k) id=0:=by
 rw[E3 hk]
 rfl
theorem yK(f:α->List Value)(hf:∀a,(f a).length=2)(l:List α)(k:Nat):(l.take k).flatMap f=(l.flatMap f).take (k*2):=by
 induction l generalizing k with
 |nil=>simp
 |cons x l Z=>
  cases k with
  |zero=>simp
  |succ k=>
   rw[Gz,E0,E0,Z,List.take_append,hf,EI (l:=f x) (by rw[hf];omega),show(k+1)*2-2=k*2 by omega]
theorem Os.take{A:OA}{l:List Rw}(h:Os w A l)(hk:k<=l.length):Sl w 56 2 A k (jl (l.take k)):=by
 refine⟨by rw[lk,E1];omega,λh0=>?_⟩;obtain⟨b,off,cs,fz,hA,hb,hc⟩:=h.2 o_;refine⟨b,off,cs,fz,hA,hb,λj u hu=>hc j u ?_⟩;unfold jl at hu;rw[yK Rw.E (λ_=>rfl),Fk]at hu;split at hu
 .exact hu
 .cases hu
theorem Os.drop{A:OA}{l:List Rw}(h:Os w A l)(hk:k<=l.length)(q:Nat)(am:l.length<=q):Sl w 56 2 (if q=k then A else A.map (·.add (k*2))) (l.length-k) (jl (l.drop k)):=by
 refine⟨by rw[lk,FQ],λh0=>?_⟩;obtain⟨b,off,cs,fz,hA,hb,hc⟩:=h.2 o_;subst hA;rw[Q_ o_];refine⟨b,off+k*2,cs,fz,by simp[pF],hb,λj u hu=>?_⟩;rw[Gd];refine hc _ u ?_
 have hj:j<(l.length-k)*2:=by
  rcases EJ j ((l.length-k)*2)with h|h
  .exact h
  .rw[EW (by rw[lk,FQ];exact h)]at hu
   cases hu
 have aJ:=jV Rw.E (λ_=>rfl) (l.drop k) (j / 2) (j % 2) (by rw[FQ];omega) (Nat.mod_lt _ o_);have aG:=jV Rw.E (λ_=>rfl) l (k+j / 2) (j % 2) o_ (Nat.mod_lt _ o_);rw[show j / 2*2+j % 2=j by omega]at aJ;rw[show(k+j / 2)*2+j % 2=k*2+j by omega]at aG;unfold jl at hu |-;rw[aG,<-hu,aJ,List.getElem_drop]
def sO(l:List Rw)(k m:Nat)(r:Rw):List Rw:=l.take k++[r]++l.drop m
theorem xT(l:List Rw)(k m:Nat)(r:Rw):hY (sO l k m r)=(hY l).take k++[r.o]++(hY l).drop m:=by
 simp[sO,hY,Hf,List.map_drop]
theorem App.tv{t:TypeId}(h:App base e w w')(hb:Bk w g t cs)(ag:g<base):Bk w' g t cs:=h.iy _ _ hb (.inl ag)
theorem vn{h:List Rw}{m:Nat}{r:Rw}(hm:m<=h.length)(hk:k<=h.length):(sO h k m r).length=k+1+(h.length-m):=by
 simp[sO];omega
theorem xO{h:List Rw}{m:Nat}{id:Int}{fs:List Vl}{A:OA}{c:Nat}(hR:oa w h)(hv:Vs w A fs)(hn:fs.length<=1000000000):oa w (sO h k m ⟨⟨id,fs⟩,A,c⟩):=by
 intro r hr;unfold sO at hr
 rcases X_.1 hr with hr|hr
 .rcases X_.1 hr with hr|hr
  .exact hR r (Ff hr)
  .have:r=⟨⟨id,fs⟩,A,c⟩:=zu hr
   subst this;exact⟨hv,hn⟩
 .exact hR r (Gh hr)
theorem App.kZ{l:List Rw}(h:App base 56 w w')(hR:oa w l):oa w' l:=λr hr=>⟨h.sl (hR r hr).1 d_,(hR r hr).2⟩
theorem uH{f:TypeId}(hA:OA)(hc:Nat)(h:List Rw)(id:Int)(A:OA)(c:Nat)(fs:List Vl)(w:World)(g:Os w hA h)(hR:oa w h)(cj:h.length<=hc)
 (hv:Sl w f 2 A fs.length (jd fs)) (hn1:fs.length<=1000000000) (bC:h.length<=999999999):
 Calls prog 123 #[.agg #[.slice hA h.length hc],.agg #[i_ id,.slice A fs.length c]] w λe w'=>∃(A':OA) (c':Nat) (rs:List Rw),
  e=.returned (.agg #[.slice A' rs.length c'])/\rs.length<=c'/\Os w' A' rs/\oa w' rs/\hY rs=lp (hY h) ⟨id,fs⟩/\Gr [] w w':=by
 obtain⟨i1,bM,ca,ce,cp⟩:=info_parts infoOb;obtain⟨V,P,-,-,t⟩:=B8 w 35 #[.slice hA h.length hc] 56 #[i_ id,.slice A fs.length c] 35 #[n_] 35 #[n_];have B:Bk ((((w.alloc (.cells #[.slice hA h.length hc] 35)).alloc (.cells #[i_ id,.slice A fs.length c] 56)).alloc (.cells #[n_] 35)).alloc (.cells #[n_] 35)) (w.heap.size+2) 35 #[n_]:=zu ((P_ ((w.alloc (.cells #[.slice hA h.length hc] 35)).alloc (.cells #[i_ id,.slice A fs.length c] 56)) 35 #[n_]).alloc (.cells #[n_] 35));have af:Bk ((((w.alloc (.cells #[.slice hA h.length hc] 35)).alloc (.cells #[i_ id,.slice A fs.length c] 56)).alloc (.cells #[n_] 35)).alloc (.cells #[n_] 35)) (w.heap.size+3) 35 #[n_]:=zu (P_ (((w.alloc (.cells #[.slice hA h.length hc] 35)).alloc (.cells #[i_ id,.slice A fs.length c] 56)).alloc (.cells #[n_] 35)) 35 #[n_]);have h0:=V.f_ 0;obtain⟨h1,h2⟩:=P.iH
 go_enter func123,ntmps123
 go_wp2_with fail
 go_at_call 55
 refine(pD hA hc h id _ (g.hG t) o_).mono ?_;rintro e w1⟨rfl,hg1⟩;have J:=t.trans hg1;have s:=V.gr hg1 s_;have E:=P.gr hg1 s_;have bz:=B.gr hg1 s_;have bu:=af.gr hg1 s_;have aL:=bu.lt;clear t V P B af h0 h1 h2 hg1;have bl:=h_ (show -1<=jz (hY h) id/\jz (hY h) id<h.length by have:=nf (λo:Ob=>o.id==id) (hY h) 0;simp[hY]at this;unfold jz;simpa[hY]using this);have aE:w.heap.size=w.heap.size:=rfl;generalize aQ:jz (hY h) id=X at*;have a7:=h_ aQ;clear aQ;have N:=h_ (show(hY h).length=h.length by simp[hY])
 go_upto_if 14 with fail
 go_cut [7] (λy aX=>∃k:Nat,y=i_ k/\k<=h.length/\((0<=X/\X=k)∨(X<0/\k=mV (hY h) id))/\Gr [] w1 aX)
 case first=>
  obtain⟨ck,ct⟩:=bl.out
  by_cases bW:X<0
  .obtain rfl:X= -1:=by omega
   have aW:=h_ bW;clear bW ck ct;have be:=h_ (show mV (hY h) id=0+mV ((hY h).drop 0) id by simp)
   go_wp2_with fail
   go_loopw [7] (λy w'=>∃k:Nat,y=i_ k/\k<=h.length/\mV (hY h) id=k+mV ((hY h).drop k) id/\Gr [] w1 w') (λy _=>h.length-(intOf y).toNat)
   case atStart=>exact⟨0,rfl,O_ _,be.out,F_ _ _⟩
   case round=>
    obtain⟨k,rfl,hk,cQ,F⟩:=hrel;have H:=h_ cQ;clear cQ;have M:=(s.gr F s_).f_ 0;obtain⟨ak,bO⟩:=(E.gr F s_).iH
    by_cases ag:k<h.length
    .obtain⟨b,off,rfl,ad,aT⟩:=(g.hG (J.trans F)).at_ ag;have D:=h_ (show(hY h)[k]'(by rw[N.out];exact ag)=h[k].o by simp[hY])
     by_cases hid:h[k].o.id<id
     .have bG:=h_ (BI (h:=hY h) (id:=id) (k:=k) (by rw[N.out];exact ag) (by rw[D.out];exact hid));have aq:decide (h[k].o.id<id)=true:=zu hid;clear hid D;generalize h[k]=r at*;obtain⟨⟨O,K⟩,v,L⟩:=r;simp only at ad aT aq;have aG:(k:Int)<(h.length:Int):=o_;exact JA
     .have bG:=h_ (BJ (h:=hY h) (id:=id) (k:=k) (by rw[N.out];exact ag) (by rw[D.out];exact hid));have aq:decide (h[k].o.id<id)=false:=zu hid;clear hid D;generalize h[k]=r at*;obtain⟨⟨O,K⟩,v,L⟩:=r;simp only at ad aT aq;have aG:(k:Int)<(h.length:Int):=o_;exact JP
    .have bG:=h_ (Aw (h:=hY h) (id:=id) (k:=k) (by rw[N.out];omega));have aG:¬(k:Int)<(h.length:Int):=o_;exact JP
  .obtain⟨x,rfl⟩:∃x:Nat,X=x:=⟨X.toNat,o_⟩;rw[show decide ((x:Int)<0)=false by simp];clear bW
   go_wp2_with fail
   go_meet
   have:=bl.out
   exact⟨x,rfl,o_,.inl ⟨o_,rfl⟩,F_ _ _⟩
 case rest=>
  obtain⟨k,rfl,hk,aU,F⟩:=hcut;have bQ:=h_ aU;clear aU;have S:=J.trans F;have M:=s.gr F s_;have C:=E.gr F s_;have d:=bz.gr F s_;have co:=bu.gr F s_;have bH:=F.size;clear s E bz bu F;obtain⟨bg,bI⟩:=C.iH;have dj:=M.f_ 0;have bJ:=co.f_ 0;have aJ:(k:Int)<=(hc:Int):=o_;have aS:(0:Int)<=(k:Int):=o_;obtain⟨j,rfl⟩:∃x,x=wc:=⟨wc,rfl⟩;have aV:w.heap.size+1<j.heap.size:=o_;have a6:=Os.take (g.hG S.drew) hk;have bK:=hv.hG S.drew;have a2:=iV j.drew j.heap.size 56 2;have ao:j.heap.size<=j.drew.heap.size:=H_ _
  go_upto_region 8 with fail
  go_cut [] (λaX=>∃(aY:OA) (c5:Nat) (aO:OA) (c4:Nat),Bk aX w.heap.size 35 #[.slice hA h.length hc]/\Bk aX (w.heap.size+2) 35 #[n_]/\Bk aX (w.heap.size+3) 35 #[.slice aY (k+1) c5]/\aX.ownsRow j.heap.size 56 2 (.slice aY (k+1) c5) (k+1) (jl (h.take k++[⟨⟨id,fs⟩,aO,c4⟩]))/\Vs aX aO fs/\j.heap.size<=aX.heap.size/\Gr [] w aX)
  case first=>
   go_region_law (first|(refine pb rfl (.tmp 34) (.tmp 38) 33 rfl j.heap.size 56 i1 _ 2 32 underlying33 bM ca ce cp rfl d_ d_ none 0 0 [] rfl a2 hA k hc _ rfl a6 (jZ _) o_ ao ?_;intro av ai ae b5 i;simp only[U_,EO]at b5;have bo:=i.bk M d_;have bt:=i.bk d d_;have bB:=i.bk co d_;have br:=i.tv C.drew aV;obtain⟨hq0,hq1⟩:=br.iH;have aR:=hv.hG (i.gr [] w S.size S.drew))|(go_simp;go_at_call 56;refine(sX ⟨id,fs⟩ A c _ aR hn1).mono ?_;rintro e T⟨aO,c4,rfl,bU,Z⟩;have aP:=Z.alloc (.cells #[i_ id,.slice aO fs.length c4] 56);have bp:=bo.gr aP s_;have bw:=bt.gr aP s_;have bD:=bB.gr aP s_;have z:=iK b5 aP;have Q:=CN (fs:=fs) (P_ T 56 #[i_ id,.slice aO fs.length c4]) rfl;have q:=G_ (G_ ao i.size) aP.size)|(refine pb rfl (.tmp 39) (.tmp 42) 33 rfl j.heap.size 56 i1 _ 2 32 underlying33 bM ca ce cp rfl d_ d_ av k ai _ rfl z _ 1 1 _ rfl Q (jZ _) o_ q ?_;intro aY c5 Y am m;have bq:=m.bk bp d_;have bA:=m.bk bw d_;have R:=m.bk bD d_;have bR:=R.hH 0;have I:=R.f_ 0))
   all_goals
    go_wp2;go_meet;have a:=(F_ [w.heap.size+3] Y).setCell (p:=(c_ (w.heap.size+3) 0)) (.inl s_) (.slice aY (k+1) c5);refine⟨aY,c5,aO,c4,bq.gr a s_,bA.gr a s_,R.hW 0 _,?_,?_,G_ (G_ q m.size) a.size,?_⟩
    .rw[mG];exact kH am R d_ a
    .exact Sl.iu (m.sl (bU.alloc (.cells #[i_ id,.slice aO fs.length c4] 56)) d_) R d_ a
    .exact(m.gr [] w S.size ((i.gr [] w S.size S.drew).trans aP)).setCell (.inr (show w.heap.size<=w.heap.size+3 by omega)) _
  case rest=>
   obtain⟨aY,c5,aO,c4,ak,aD,ah,aZ,bj,a8,G⟩:=hcut;have dj:=ak.f_ 0;have bJ:=ah.f_ 0;have bS:=G.size;obtain⟨ay,rfl⟩:∃x,x=h:=⟨h,rfl⟩;have aN:=hR.hG G.drew;clear bK a2 ao a6
   rcases bQ.out with⟨bP,rfl⟩|⟨bP,az⟩
   .have hm:k+1<=ay.length:=ov bl.out;have aj:(k:Int)+1<=(ay.length:Int):=o_;have bN:(0:Int)<=(k:Int)+1:=o_;clear bP;have aB:=Os.drop (g.hG G.drew) hm hc cj;have ap:j.heap.size<=wc.drew.heap.size:=a8;have au:=iK aZ (F_ [] wc).drew;have aC:w.heap.size+2≠w.heap.size+3:=o_
    go_wp2_with fail
    go_region_law (refine pb rfl (.tmp 50) (.tmp 54) 33 rfl j.heap.size 56 i1 _ 2 32 underlying33 bM ca ce cp rfl d_ d_ aY (k+1) c5 _ rfl au _ (ay.length-(k+1)) (hc-(k+1)) _ rfl aB (jZ _) o_ ap ?_;intro aI aF ax cr aM;have u:=aM.bk aD d_;have l:=aM.bk ah d_;have bE:=l.hH 0;have bL:=l.f_ 0;have bF:=u.hH 0;have c8:=u.f_ 0)
    all_goals
     have dY:k+1+(ay.length-(k+1))=ay.length:=o_;rw[dY]at cr
     have aK:(sO ay k (k+1) ⟨⟨id,fs⟩,aO,c4⟩).length=ay.length:=by rw[vn hm hk];exact dY
     clear dY;have cv:=h_ aK;clear aK;go_wp2
     all_goals
      have aH:=l.hW 0 (.slice aI ay.length aF);have bi:=u.ih (p:=(c_ (w.heap.size+3) 0)) aC (.slice aI ay.length aF);have ar:=bi.hW 0 (.slice aI ay.length aF);have U:=(F_ [w.heap.size+3] ax).setCell (p:=(c_ (w.heap.size+3) 0)) (.inl s_) (.slice aI ay.length aF);have W:=(F_ [w.heap.size+2] (ax.setCell (c_ (w.heap.size+3) 0) (.slice aI ay.length aF))).setCell (p:=(c_ (w.heap.size+2) 0)) (.inl s_) (.slice aI ay.length aF);have aw:=kH (kH cr l d_ U) bi d_ W;have n:oa _ (sO ay k (k+1) ⟨⟨id,fs⟩,aO,c4⟩):=((xO (aM.kZ aN) (aM.sl bj d_) hn1).iu l d_ U).iu bi d_ W;refine EX (FP rfl _ _ _ _ _ _ _ rfl ar underlying35 rfl k_) rfl ⟨aI,aF,sO ay k (k+1) ⟨⟨id,fs⟩,aO,c4⟩,by rw[cv.out];rfl,by rw[cv.out];exact jf cr,?_,n,?_,?_⟩
      .unfold Os;rw[cv.out]
       have:=Sl.iT aw
       rw[<-mG]at this;exact this
      .rw[xT];unfold lp;rw[a7.out,Q_ o_,Fi]
      .exact K4
   .obtain rfl:X= -1:=by have:=bl.out;omega
    have hm:k<=ay.length:=hk;have aj:(k:Int)<=(ay.length:Int):=o_;have bn:=h_ az;clear bP az;have aB:=Os.drop (g.hG G.drew) hm hc cj;have ap:j.heap.size<=wc.drew.heap.size:=a8;have au:=iK aZ (F_ [] wc).drew;have aC:w.heap.size+2≠w.heap.size+3:=o_
    go_wp2_with fail
    go_region_law (refine pb rfl (.tmp 50) (.tmp 54) 33 rfl j.heap.size 56 i1 _ 2 32 underlying33 bM ca ce cp rfl d_ d_ aY (k+1) c5 _ rfl au _ (ay.length-(k)) (hc-(k)) _ rfl aB (jZ _) o_ ap ?_;intro aI aF ax cr aM;have u:=aM.bk aD d_;have l:=aM.bk ah d_;have bE:=l.hH 0;have bL:=l.f_ 0;have bF:=u.hH 0;have c8:=u.f_ 0)
    all_goals
     have cv:=h_ (vn (r:=⟨⟨id,fs⟩,aO,c4⟩) hm hk);go_wp2
     all_goals
      have aH:=l.hW 0 (.slice aI (k+1+(ay.length-(k))) aF);have bi:=u.ih (p:=(c_ (w.heap.size+3) 0)) aC (.slice aI (k+1+(ay.length-(k))) aF);have ar:=bi.hW 0 (.slice aI (k+1+(ay.length-(k))) aF);have U:=(F_ [w.heap.size+3] ax).setCell (p:=(c_ (w.heap.size+3) 0)) (.inl s_) (.slice aI (k+1+(ay.length-(k))) aF);have W:=(F_ [w.heap.size+2] (ax.setCell (c_ (w.heap.size+3) 0) (.slice aI (k+1+(ay.length-(k))) aF))).setCell (p:=(c_ (w.heap.size+2) 0)) (.inl s_) (.slice aI (k+1+(ay.length-(k))) aF);have aw:=kH (kH cr l d_ U) bi d_ W;have n:oa _ (sO ay k (k) ⟨⟨id,fs⟩,aO,c4⟩):=((xO (aM.kZ aN) (aM.sl bj d_) hn1).iu l d_ U).iu bi d_ W;refine EX (FP rfl _ _ _ _ _ _ _ rfl ar underlying35 rfl k_) rfl ⟨aI,aF,sO ay k (k) ⟨⟨id,fs⟩,aO,c4⟩,by rw[cv.out];rfl,by rw[cv.out];exact jf cr,?_,n,?_,?_⟩
      .unfold Os;rw[cv.out]
       have:=Sl.iT aw
       rw[<-mG]at this;exact this
      .rw[xT];unfold lp;rw[a7.out,T_ o_,<-bn.out]
      .exact K4
theorem nE(h:List Ob)(id:Int):(jz h id<0/\kn h id=none)∨∃k,∃hk:k<h.length,jz h id=(k:Nat)/\kn h id=some h[k]:=by
 suffices H:∀j:Nat,(iO (λo:Ob=>o.id==id) h j<0/\kn h id=none)∨∃k,∃hk:k<h.length,iO (λo:Ob=>o.id==id) h j=(j+k:Nat)/\kn h id=some h[k] by
  rcases H 0 with h1|⟨k,hk,h1,h2⟩
  .exact .inl h1
  .exact .inr ⟨k,hk,by unfold jz;rw[h1];simp,h2⟩
 induction h with
 |nil=>intro j;left;simp[iO,kn]
 |cons o l Z=>
  intro j
  by_cases hp:o.id=id
  .right;exact⟨0,s_,by simp[iO,hp],by simp[kn,hp]⟩
  .have aJ:iO (λo:Ob=>o.id==id) (o::l) j=iO (λo:Ob=>o.id==id) l (j+1):=by simp[iO,hp]
   have aG:kn (o::l) id=kn l id:=by simp[kn,hp]
   rw[aJ,aG]
   rcases Z (j+1)with h1|⟨k,hk,h1,h2⟩
   .exact .inl h1
   .exact .inr ⟨k+1,by simpa using hk,by rw[h1];congr 1;omega,by simpa using h2⟩
theorem get_none(A:OA)(c:Nat)(l:List Rw)(id:Int)(w:World)(h:Os w A l)(hn:l.length<=1000000000)(hg:kn (hY l) id=none):
 Calls prog 14 #[.agg #[.slice A l.length c],i_ id] w λe w'=>e=.returned (.tuple #[.agg #[i_ 0,n_],.bool false])/\Gr [] w w':=by
 obtain⟨V,P,I⟩:=qh w 35 #[.slice A l.length c] 56 #[i_ 0,n_];have aQ:((w.alloc (.cells #[.slice A l.length c] 35)).alloc (.cells #[i_ 0,n_] 56)).cell? (c_ w.heap.size 0)=some (.slice A l.length c):=V.f_ 0
 rcases nE (hY l) id with⟨ag,_⟩|⟨k,hk,_,h2⟩
 .go_enter func14,ntmps14
  go_wp2_with fail
  go_at_call 55
  refine(pD A c l id _ (h.hG I) hn).mono ?_;rintro e w2⟨rfl,J⟩;have E:=P.gr J s_;obtain⟨U,ad⟩:=E.iH;have H:=E.hH 0;have C:=E.hH 1;have bA:¬0<=jz (hY l) id:=o_;clear ag;go_wp2;have j:=(E.hW 0 (i_ 0)).hW 1 (n_);refine lT #[i_ 0,n_] (.bool false) j underlying56 ⟨rfl,?_⟩;exact Lq
 .rw[hg]at h2
  cases h2
theorem get_some(A:OA)(c:Nat)(l:List Rw)(id:Int)(o:Ob)(w:World)(h:Os w A l)(hr:oa w l)(hn:l.length<=1000000000)(hg:kn (hY l) id=some o):
 Calls prog 14 #[.agg #[.slice A l.length c],i_ id] w λe w'=>∃(A':OA) (c':Nat),e=.returned (.tuple #[.agg #[i_ o.id,.slice A' o.fs.length c'],.bool true])/\Vs w' A' o.fs/\Gr [] w w':=by
 obtain⟨V,P,I⟩:=qh w 35 #[.slice A l.length c] 56 #[i_ 0,n_];have aQ:((w.alloc (.cells #[.slice A l.length c] 35)).alloc (.cells #[i_ 0,n_] 56)).cell? (c_ w.heap.size 0)=some (.slice A l.length c):=V.f_ 0
 rcases nE (hY l) id with⟨_,h2⟩|⟨k,hk,G,h2⟩
 .rw[hg]at h2
  cases h2
 .rw[hg]at h2;injection h2 with h2
  have az:=by simpa[hY]using hk
  have R:o=l[k].o:=by rw[h2];simp[hY]
  subst R;clear h2 hg;have au:=h_ G;clear G;have Z:(k:Int)<(l.length:Int):=o_
  go_enter func14,ntmps14
  go_wp2_with fail
  go_at_call 55
  refine(pD A c l id _ (h.hG I) hn).mono ?_;rintro e w2⟨rfl,J⟩;rw[au.out];have E:=P.gr J s_;have s:=V.gr J s_;have z0:w2.cell? (c_ w.heap.size 0)=some (.slice A l.length c):=s.f_ 0;have m:=(h.hG I).hG J;have cf:=(hr.hG I).hG J;obtain⟨b,off,rfl,bi,bq⟩:=m.at_ az;obtain⟨hv,aE⟩:=cf l[k] (N_ az)
  go_wp2_with fail
  go_at_call 56
  refine(sX l[k].o l[k].A l[k].c _ hv aE).mono ?_;rintro e ae⟨aG,aC,rfl,aR,S⟩;have E:=E.gr S s_;obtain⟨U,ad⟩:=E.iH;have H:=E.hH 0;have C:=E.hH 1;go_wp2;have j:=(E.hW 0 (i_ l[k].o.id)).hW 1 (.slice aG l[k].o.fs.length aC);refine lT #[i_ l[k].o.id,.slice aG l[k].o.fs.length aC] (.bool true) j underlying56 ⟨aG,aC,rfl,?_,?_⟩
  .exact Sl.iu aR E d_ (((F_ [w.heap.size+1] ae).setCell (.inl s_) _).setCell (.inl s_) _)
  .exact(((I.trans J).trans S).setCell (.inr s_) _).setCell (.inr s_) _
def jx(h:List Ob)(id f:Int):Option Vl:=match kn h id with
 |none=>none
 |some o=>if f<0 then none else o.fs[f.toNat]?
theorem qe{h:List Ob}{id f:Int}{v:Vl}(hr:jx h id f=some v):∃k,∃hk:k<h.length,jz h id=(k:Nat)/\kn h id=some h[k]/\0<=f/\∃hf:f.toNat<h[k].fs.length,h[k].fs[f.toNat]=v:=by
 unfold jx at hr
 rcases nE h id with⟨h1,h2⟩|⟨k,hk,h1,h2⟩
 .rw[h2]at hr
  cases hr
 .rw[h2]at hr;simp only at hr;split at hr
  .cases hr
  .rename_i hf;obtain⟨hl,hv⟩:=FX.1 hr;exact⟨k,hk,h1,h2,o_,hl,hv⟩
theorem ky(A:OA)(c:Nat)(l:List Rw)(id f:Int)(w:World)(h:Os w A l)(hr:oa w l)(hn:l.length<=1000000000):
 Calls prog 148 #[.agg #[.slice A l.length c],i_ id,i_ f] w λe w'=>e=.returned (.tuple #[.agg #[.bool ((jx (hY l) id f).getD default).r,i_ ((jx (hY l) id f).getD default).n],.bool (jx (hY l) id f).isSome])/\Gr [] w w':=by
 obtain⟨V,P,I⟩:=qh w 35 #[.slice A l.length c] 38 #[.bool false,i_ 0];have aQ:((w.alloc (.cells #[.slice A l.length c] 35)).alloc (.cells #[.bool false,i_ 0] 38)).cell? (c_ w.heap.size 0)=some (.slice A l.length c):=V.f_ 0
 cases y:jx (hY l) id f with
 |none=>
  have a:jz (hY l) id<0∨f<0∨∃k,∃hk:k<l.length,jz (hY l) id=(k:Nat)/\(l[k].o.fs.length:Int)<=f/\0<=f:=by
   rcases nE (hY l) id with⟨h1,_⟩|⟨k,hk,h1,h2⟩
   .exact .inl h1
   .have az:=by simpa[hY]using hk
    unfold jx at y;rw[h2]at y;simp only at y;split at y
    .exact .inr (.inl ‹_›)
    .rename_i hf;refine .inr (.inr ⟨k,az,h1,?_,o_⟩)
     have:=List.getElem?_eq_none_iff.1 y
     have e:((hY l)[k]).fs.length=l[k].o.fs.length:=by simp[hY]
     omega
  clear y
  by_cases G:jz (hY l) id<0
  .exact H6
  .by_cases hf:f<0
   .exact H6
   .obtain⟨k,az,bV,aE,L⟩:∃k,∃hk:k<l.length,jz (hY l) id=(k:Nat)/\(l[k].o.fs.length:Int)<=f/\0<=f:=by
     rcases a with h1|h1|h1
     .exact EK h1 G
     .exact EK h1 hf
     .exact h1
    have Z:(k:Int)<(l.length:Int):=o_;have au:=h_ bV;clear bV a G
    go_enter func148,ntmps148
    go_wp2_with fail
    go_at_call 55
    refine(pD A c l id _ (h.hG I) hn).mono ?_;rintro e w2⟨rfl,J⟩;rw[au.out];have E:=P.gr J s_;obtain⟨U,ad⟩:=E.iH;have H:=E.hH 0;have C:=E.hH 1;have z0:w2.cell? (c_ w.heap.size 0)=some (.slice A l.length c):=(V.gr J s_).f_ 0;obtain⟨b,off,rfl,bi,bq⟩:=((h.hG I).hG J).at_ az;exact I3
 |some v=>
  obtain⟨k,hk,bV,_,L,aE,hv⟩:=qe y
  have az:=by simpa[hY]using hk
  have bw:(hY l)[k]=l[k].o:=by simp[hY]
  have ag:f.toNat<l[k].o.fs.length:=by rw[<-bw];exact aE
  have aV:l[k].o.fs[f.toNat]=v:=by
   rw[<-hv];congr 1;rw[bw]
  subst aV;have Z:(k:Int)<(l.length:Int):=o_;have au:=h_ bV;clear bV hv y bw aE;have z:f<(l[k].o.fs.length:Int):=o_;have bO:¬(l[k].o.fs.length:Int)<=f:=o_;have ap:=Fz L;clear ap
  go_enter func148,ntmps148
  go_wp2_with fail
  go_at_call 55
  refine(pD A c l id _ (h.hG I) hn).mono ?_;rintro e w2⟨rfl,J⟩;rw[au.out];have E:=P.gr J s_;obtain⟨U,ad⟩:=E.iH;have H:=E.hH 0;have C:=E.hH 1;have z0:w2.cell? (c_ w.heap.size 0)=some (.slice A l.length c):=(V.gr J s_).f_ 0;obtain⟨bN,_⟩:=((hr.hG I).hG J) l[k] (N_ az);obtain⟨b,off,rfl,bi,bq⟩:=((h.hG I).hG J).at_ az;obtain⟨b2,i,B,ai,bg⟩:=bN.at_ ag;rw[B]at bq;go_wp2;have j:=(E.hW 0 (.bool l[k].o.fs[f.toNat].r)).hW 1 (i_ l[k].o.fs[f.toNat].n);refine lT #[.bool l[k].o.fs[f.toNat].r,i_ l[k].o.fs[f.toNat].n] (.bool true) j underlying38 ⟨rfl,?_⟩;exact Lq
def kO(h:List Ob)(id f:Int)(v:Vl):List Ob:=h.modify (jz h id).toNat λo=>⟨o.id,o.fs.set f.toNat v⟩
theorem qu(E:α->List Value)(s:Nat)(hE:∀a,(E a).length=s)(hs:0<s)(l:List α)(k:Nat)(hk:k<l.length)(r:α)(cur bM:Array Value)(h:∀(i:Nat) (u:Value),(l.flatMap E)[i]?=some u->cur[i]?=some u)(kh:∀(j:Nat) (u:Value),(E r)[j]?=some u->bM[k*s+j]?=some u)(c:∀i:Nat,(i<k*s∨(k+1)*s<=i)->bM[i]?=cur[i]?):∀(i:Nat) (u:Value),((l.set k r).flatMap E)[i]?=some u->bM[i]?=some u:=by
 intro i u hu
 have iM:((l.set k r).flatMap E).length=l.length*s:=by rw[kj E s hE];simp
 have hi:i<l.length*s:=by
  rcases EJ i (l.length*s)with h|h
  .exact h
  .rw[EW (by rw[iM];exact h)]at hu
   cases hu
 have ha:i / s<l.length:=by rw[Nat.div_lt_iff_lt_mul hs];exact hi
 have hb:i % s<s:=Nat.mod_lt _ hs
 have b:i / s*s+i % s=i:=by rw[Nat.mul_comm];exact Nat.div_add_mod i s
 have aJ:=jh E s hE (l.set k r) (i / s) (i % s) (zu ha) hb;rw[b,hu]at aJ
 rcases Nat.lt_trichotomy (i / s) k with ag|f|av
 .rw[List.getElem_set_ne o_]at aJ;have aG:=jh E s hE l (i / s) (i % s) ha hb;rw[b]at aG
  rw[c i (.inl (by
   have:(i / s+1)*s<=k*s:=Gg s ag
   rw[FJ,GX]at this
   omega))]
  exact h i u (by rw[aG,<-aJ])
 .subst f;rw[List.getElem_set_self]at aJ;rw[<-b];exact kh _ u aJ.symm
 .rw[List.getElem_set_ne o_]at aJ;have aG:=jh E s hE l (i / s) (i % s) ha hb;rw[b]at aG
  rw[c i (.inr (by
   have:(k+1)*s<=i / s*s:=Gg s av
   omega))]
  exact h i u (by rw[aG,<-aJ])
theorem kA{size:Nat}{A:OA}{n c:Nat}{xs:List Value}(h:w.ownsRow base e size (.slice A n c) n xs)(h0:0<n):∃g cur,A=some (c_ g 0)/\base<=g/\Bk w g e cur/\∀(i:Nat) (u:Value),xs[i]?=some u->cur[i]?=some u:=by
 rcases h.2 with⟨hv,hx⟩|⟨g,lW,cur,hv,hb,hg,_,_,_,ht⟩
 .omega
 .injection hv with hA _ _;refine⟨g,cur,hA,hb,hg,λj u hu=>?_⟩;rw[<-ht,Fk]at hu;split at hu
  .simpa using hu
  .cases hu
theorem pI(E:α->List Value)(hE:∀a,(E a).length=2){cur:Array Value}{l:List α}(hk:k<l.length)(r:α)(x y:Value)(hr:E r=[x,y])(hb:Bk w g e cur)(h:∀(i:Nat) (u:Value),(l.flatMap E)[i]?=some u->cur[i]?=some u)(n:Nat)(hn:l.length=n):
 Sl ((w.setCell (c_ g (k*2)) x).setCell (c_ g (k*2+1)) y) e 2 (j_ g) n ((l.set k r).flatMap E):=by
 subst hn;have bU:=(hb.hW (k*2) x).hW (k*2+1) y;have iM:=kj E 2 hE l
 have az:k*2+1<cur.size:=by
  have hl:k*2+1<(l.flatMap E).length:=o_
  have:=h _ _ (M_ hl)
  rcases EJ (k*2+1) cur.size with h|h
  .exact h
  .exact LK
 refine⟨by rw[kj E 2 hE];simp,λ_=>⟨g,0,_,_,rfl,bU,λj u hu=>?_⟩⟩;rw[U_];refine qu E 2 hE o_ l k hk r cur _ h (λj u hu=>?_) (λi hi=>?_) j u hu
 .rw[hr]at hu
  match j,hu with
  |0,hu=>simp only[Fp,Option.some.injEq]at hu;subst hu;rw[K_,Q_ o_,K_,T_ o_,T_ o_]
  |1,hu=>simp only[FK,Fp,Option.some.injEq]at hu;subst hu;rw[K_,T_ rfl,T_ (zu az)]
  |j+2,hu=>simp at hu
 .rw[K_,Q_ o_,K_,Q_ o_]
theorem qk(A:OA)(c:Nat)(l:List Rw)(id f:Int)(v:Vl)(w:World)(h:Os w A l)(hr:oa w l)(hn:l.length<=1000000000)(m:jx (hY l) id f=none):
 Calls prog 149 #[.agg #[.slice A l.length c],i_ id,i_ f,.agg (V_ v)] w λe w'=>e=.returned (.tuple #[.agg #[n_],.bool false])/\Gr [] w w':=by
 obtain⟨V,-,-,I⟩:=wt w 35 #[.slice A l.length c] 38 (V_ v) 35 #[n_];have B:Bk (((w.alloc (.cells #[.slice A l.length c] 35)).alloc (.cells (V_ v) 38)).alloc (.cells #[n_] 35)) (w.heap.size+2) 35 #[n_]:=zu (P_ ((w.alloc (.cells #[.slice A l.length c] 35)).alloc (.cells (V_ v) 38)) 35 #[n_]);have aQ:(((w.alloc (.cells #[.slice A l.length c] 35)).alloc (.cells (V_ v) 38)).alloc (.cells #[n_] 35)).cell? (c_ w.heap.size 0)=some (.slice A l.length c):=V.f_ 0
 go_enter func149,ntmps149
 go_wp2_with fail
 go_at_call 148
 refine(ky A c l id f _ (h.hG I) (hr.hG I) hn).mono ?_;rintro e w2⟨rfl,J⟩;rw[m];have bz:=(B.hG J).alloc (.cells (V_ (default:Vl)) 38);have U:=bz.f_ 0;have H:=bz.hH 0;simp only[Gx,GH];go_wp2;have j:=bz.hW 0 (n_);refine lT #[n_] (.bool false) j underlying35 ⟨rfl,?_⟩;exact((I.trans J).alloc _).setCell (.inr p_) _
theorem se(l:List Rw)(k:Nat)(r:Rw):hY (l.set k r)=(hY l).set k r.o:=by simp[hY,List.map_set]
theorem yR{h:List Ob}{id f:Int}{v:Vl}(hk:k<h.length)(hi:jz h id=(k:Nat)):kO h id f v=h.set k ⟨h[k].id,h[k].fs.set f.toNat v⟩:=by
 unfold kO;rw[hi,Fi];apply Gv;intro i;rw[G9,GT]
 by_cases e:k=i
 .subst e;simp[hk]
 .simp[e]
theorem oa.hW{l:List Rw}(h:oa w l){r:Rw}(hv:Vs w r.A r.o.fs)(hn:r.o.fs.length<=1000000000):oa w (l.set k r):=λx hx=>by
 rcases EU hx with hx|rfl
 .exact h x hx
 .exact⟨hv,hn⟩
theorem App.Cx{l:List Rw}(h:App base e w w')(ao:38≠e)(hR:oa w l):oa w' l:=λr hr=>⟨h.sl (hR r hr).1 ao,(hR r hr).2⟩
theorem ob(A:OA)(c:Nat)(l:List Rw)(id f:Int)(v u:Vl)(w:World)(h:Os w A l)(hr:oa w l)(hn:l.length<=1000000000)(n:jx (hY l) id f=some u):
 Calls prog 149 #[.agg #[.slice A l.length c],i_ id,i_ f,.agg (V_ v)] w λe w'=>∃(A':OA) (c':Nat) (rs:List Rw),e=.returned (.tuple #[.agg #[.slice A' rs.length c'],.bool true])/\rs.length<=c'/\Os w' A' rs/\oa w' rs/\hY rs=kO (hY l) id f v/\Gr [] w w':=by
 obtain⟨i1,bM,ca,ce,cp⟩:=info_parts infoOb;obtain⟨V,P,-,I⟩:=wt w 35 #[.slice A l.length c] 38 (V_ v) 35 #[n_];have B:Bk (((w.alloc (.cells #[.slice A l.length c] 35)).alloc (.cells (V_ v) 38)).alloc (.cells #[n_] 35)) (w.heap.size+2) 35 #[n_]:=zu (P_ ((w.alloc (.cells #[.slice A l.length c] 35)).alloc (.cells (V_ v) 38)) 35 #[n_]);have aQ:(((w.alloc (.cells #[.slice A l.length c] 35)).alloc (.cells (V_ v) 38)).alloc (.cells #[n_] 35)).cell? (c_ w.heap.size 0)=some (.slice A l.length c):=V.f_ 0;obtain⟨k,hk,bV,_,L,aE,hv⟩:=qe n
 have az:=by simpa[hY]using hk
 have bw:(hY l)[k]=l[k].o:=by simp[hY]
 have ag:f.toNat<l[k].o.fs.length:=by rw[<-bw];exact aE
 have bP:=h_ (show kO (hY l) id f v=(hY l).set k ⟨l[k].o.id,l[k].o.fs.set f.toNat v⟩ by rw[yR hk bV,bw]);have Z:(k:Int)<(l.length:Int):=o_;have au:=h_ bV;have z:f<(l[k].o.fs.length:Int):=o_;clear bV hv bw aE
 go_enter func149,ntmps149
 go_wp2_with fail
 generalize ((w.alloc (.cells #[.slice A l.length c] 35)).alloc (.cells (V_ v) 38)).alloc (.cells #[n_] 35)=W at*
 go_at_call 148
 refine(ky A c l id f _ (h.hG I) (hr.hG I) hn).mono ?_;rintro e w2⟨rfl,J⟩;rw[n];simp only[Fw,Ga];have aP:=J.alloc (.cells (V_ u) 38);have s:=V.hG aP;have E:=P.hG aP;have bz:=B.hG aP;have m:=(h.hG I).hG aP;have cf:=(hr.hG I).hG aP;have U:=s.f_ 0;have hbs:=(I.trans aP).size;clear aQ n
 go_wp2_with (at_builtin;refine wC _ rfl (.const (n_)) (.tmp 26) 33 rfl w.heap.size 56 i1 _ 2 32 underlying33 bM ca ce cp rfl d_ d_ none 0 0 [] rfl (iV _ _ _ _) A l.length c _ rfl m (jZ _) o_ hbs ?_;intro aG aC ae b5 i;simp only[U_,EO]at b5;have z0:=((i.bk s d_).alloc (.cells #[.slice aG l.length aC] 35)).f_ 0)
 go_at_call 55
 have t:=i.gr [] w (H_ _) (I.trans aP);have M:=(i.bk s d_).alloc (.cells #[.slice aG l.length aC] 35);have C:=(i.bk E d_).alloc (.cells #[.slice aG l.length aC] 35);have d:=(i.bk bz d_).alloc (.cells #[.slice aG l.length aC] 35);have a:=P_ ae 35 #[.slice aG l.length aC];have cG:=iK b5 ((F_ [] ae).alloc (.cells #[.slice aG l.length aC] 35));have cv:=t.alloc (.cells #[.slice aG l.length aC] 35);have aD:=(i.bk bz d_).lt;have cj:=jf b5;refine(pD A c l id _ (h.hG cv) hn).mono ?_;rintro e Y⟨rfl,ah⟩;rw[au.out];have K:=cv.trans ah;have M:=M.hG ah;have C:=C.hG ah;have d:=d.hG ah;have a:=a.hG ah;have am:=iK cG ah;have aL:=K.size;have z0:Y.cell? (c_ w.heap.size 0)=some (.slice A l.length c):=M.f_ 0;obtain⟨ai,R⟩:=(hr.hG K) l[k] (N_ az);obtain⟨b,off,rfl,bi,bq⟩:=(h.hG K).at_ az;clear b5 cG i s E bz m cf hbs U V P B J aP
 go_wp2_with fail
 go_at_call 56
 refine(sW l[k].o l[k].A l[k].c _ ai R).mono ?_;rintro e ax⟨aI,aF,rfl,cr,aB⟩;have bT:=(K.trans aB).alloc (.cells #[i_ l[k].o.id,.slice aI l[k].o.fs.length aF] 56);have C:=(C.hG aB).alloc (.cells #[i_ l[k].o.id,.slice aI l[k].o.fs.length aF] 56);have d:=(d.hG aB).alloc (.cells #[i_ l[k].o.id,.slice aI l[k].o.fs.length aF] 56);have aH:=(a.hG aB).lt;have a:=(a.hG aB).alloc (.cells #[i_ l[k].o.id,.slice aI l[k].o.fs.length aF] 56);have q:=P_ ax 56 #[i_ l[k].o.id,.slice aI l[k].o.fs.length aF]
 have T:∀g cur,Bk Y g 56 cur->g≠ax.heap.size:=λg cur hb=>by
  have:=(hb.hG aB).lt
  omega
 have b5:=iK (iK am aB) ((F_ [] ax).alloc (.cells #[i_ l[k].o.id,.slice aI l[k].o.fs.length aF] 56));have cr:=iK cr ((F_ [] ax).alloc (.cells #[i_ l[k].o.id,.slice aI l[k].o.fs.length aF] 56));have X:=hr.hG bT;obtain⟨aK,aq,rfl,ay,cu,F⟩:=kA cr o_;obtain⟨y,ao,af,aw,O,_⟩:=kA am o_;subst af;have aJ:=T _ _ O;obtain⟨av,ak,af,_,aW,D⟩:=kA b5 o_;injection af with af;injection af with af _;subst af;have aj:=Bk.lZ aW cu d_;clear M z0 bi bq b5 am K cv t ai ah aB O T
 go_upto_region 7 with fail
 generalize ax.heap.size=aO at*;generalize ae.heap.size=aM at*;generalize ax.alloc (.cells #[i_ l[k].o.id,.slice (j_ aK) l[k].o.fs.length aF] 56)=aR at*;obtain⟨v0,v1⟩:=C.iH;obtain⟨bj,bn⟩:=q.iH;have H:aR.cell? (c_ aK (f.toNat*2))=some (.bool l[k].o.fs[f.toNat].r):=(cu.f_ _).trans (F _ _ (jV Vl.E (λ_=>rfl) l[k].o.fs f.toNat 0 ag o_));have bS:=(cu.f_ _).trans (F _ _ (jV Vl.E (λ_=>rfl) l[k].o.fs f.toNat 1 ag o_));have bt:=cu.hH (f.toNat*2);have a8:=cu.hH (f.toNat*2+1)
 go_upto_region 8 with fail
 have aN:Gr [aK] aR ((aR.setCell (c_ aK (f.toNat*2)) (.bool v.r)).setCell (c_ aK (f.toNat*2+1)) (i_ v.n)):=((F_ [aK] aR).setCell (.inl s_) _).setCell (.inl s_) _
 have be:Vs ((aR.setCell (c_ aK (f.toNat*2)) (.bool v.r)).setCell (c_ aK (f.toNat*2+1)) (i_ v.n)) (j_ aK) (l[k].o.fs.set f.toNat v):=by
  unfold Vs;rw[ER];exact pI Vl.E (λ_=>rfl) ag v (.bool v.r) (i_ v.n) rfl cu F _ rfl
 have d:=d.gr aN (zu (Bk.lZ d cu d_));have a:=a.gr aN (zu (Bk.lZ a cu d_));have q:=q.gr aN (zu (Bk.lZ q cu d_));have aW:=aW.gr aN (zu aj);have ad:=bT.hK aN (by intro x hx;right;simp at hx;omega);have ar:=hr.hG ad;clear H bS bt a8 v0 v1 bj bn aN bT X C cu;generalize (aR.setCell (c_ aK (f.toNat*2)) (.bool v.r)).setCell (c_ aK (f.toNat*2+1)) (i_ v.n)=Q at*;have m0:=a.f_ 0;obtain⟨bj,bn⟩:=q.iH;have H:Q.cell? (c_ y (k*2))=some (i_ l[k].o.id):=(aW.f_ _).trans (D _ _ (jV Rw.E (λ_=>rfl) l k 0 az o_));have bS:=(aW.f_ _).trans (D _ _ (jV Rw.E (λ_=>rfl) l k 1 az o_));have bt:=aW.hH (k*2);have a8:=aW.hH (k*2+1)
 go_upto_region 9 with fail
 have br:Gr [y] Q ((Q.setCell (c_ y (k*2)) (i_ l[k].o.id)).setCell (c_ y (k*2+1)) (.slice (j_ aK) l[k].o.fs.length aF)):=((F_ [y] Q).setCell (.inl s_) _).setCell (.inl s_) _
 have S:Os ((Q.setCell (c_ y (k*2)) (i_ l[k].o.id)).setCell (c_ y (k*2+1)) (.slice (j_ aK) l[k].o.fs.length aF)) (j_ y) (l.set k ⟨⟨l[k].o.id,l[k].o.fs.set f.toNat v⟩,some (c_ aK 0),aF⟩):=by
  unfold Os;rw[ER];exact pI Rw.E (λ_=>rfl) az ⟨⟨l[k].o.id,l[k].o.fs.set f.toNat v⟩,some (c_ aK 0),aF⟩ _ _ (by simp[Rw.E]) aW D _ rfl
 have d:=d.gr br (zu (Bk.lZ d aW d_));have a:=a.gr br (zu (Bk.lZ a aW d_));have bo:=Sl.iu be aW d_ br;have N:=ad.hK br (by intro x hx;right;simp at hx;omega);have ap:=ar.iu aW d_ br;clear H bS bt a8 bj bn m0 be ad ar;generalize (Q.setCell (c_ y (k*2)) (i_ l[k].o.id)).setCell (c_ y (k*2+1)) (.slice (j_ aK) l[k].o.fs.length aF)=bl at*;have m0:=a.f_ 0;have n0:=d.f_ 0;have bt:=d.hH 0;go_wp2;have j:=d.hW 0 (.slice (j_ y) l.length aC);have G:=(F_ [w.heap.size+2] bl).setCell (p:=(c_ (w.heap.size+2) 0)) (.inl s_) (.slice (j_ y) l.length aC);have hls:(l.set k ⟨⟨l[k].o.id,l[k].o.fs.set f.toNat v⟩,some (c_ aK 0),aF⟩).length=l.length:=ER;refine lT #[.slice (j_ y) l.length aC] (.bool true) j underlying35 ⟨some (c_ y 0),aC,l.set k ⟨⟨l[k].o.id,l[k].o.fs.set f.toNat v⟩,some (c_ aK 0),aF⟩,by rw[hls],by rw[hls];exact cj,?_,?_,?_,?_⟩
 .exact Sl.iu S d d_ G
 .refine(ap.hW (r:=⟨⟨l[k].o.id,l[k].o.fs.set f.toNat v⟩,some (c_ aK 0),aF⟩) bo (zu R)).iu d d_ G
 .rw[se,bP.out]
 .exact N.hK G (by intro x hx;right;simp at hx;omega)
theorem j0(n:Int)(w:World):Calls prog 196 #[i_ n] w λe w'=>e=.returned (.agg #[.bool false,i_ n])/\Gr [] w w':=by
 go_enter func196,ntmps196
 go_wp2;exact EX (FP rfl _ _ _ _ _ _ _ rfl (P_ w 38 #[.bool false,i_ n]) underlying38 rfl k_) rfl ⟨rfl,(F_ _ _).alloc _⟩
theorem qI(b:Bool)(w:World):Calls prog 195 #[.bool b] w λe w'=>e=.returned (.agg #[.bool false,i_ (if b=true then 1 else 0)])/\Gr [] w w':=by
 cases b
 all_goals
  go_enter func195,ntmps195
  go_wp2_with (go_at_call 196;refine(j0 _ _).mono ?_;rintro e w2⟨rfl,J⟩;have hB:=BU (p:=w.heap.size) J rfl;obtain⟨U,ad⟩:=hB.iH;have H:=hB.hH 0;have C:=hB.hH 1)
  refine EX (FP rfl _ _ _ _ _ _ _ rfl ((hB.hW 0 _).hW 1 _) underlying38 rfl k_) rfl ⟨rfl,?_⟩;exact((((F_ _ _).alloc _).trans J).setCell (.inr s_) _).setCell (.inr s_) _
theorem sC(v:Vl)(w:World):Calls prog 166 #[.agg (V_ v)] w λe w'=>e=.returned (.bool (v.n !=0))/\Gr [] w w':=by
 go_enter func166,ntmps166
 go_wp2;go_ret;exact⟨rfl,(F_ _ _).alloc _⟩
def rl(op:Int):Bool:=decide (op=1∨(3<=op/\op<=9/\op≠4))
theorem ur(op:Int)(w:World):Calls prog 179 #[i_ op] w λe w'=>e=.returned (.bool (rl op))/\w=w':=by
 have HA:=h_ (show rl op=decide (op=1∨(3<=op/\op<=9/\op≠4)) from rfl)
 by_cases h1:op=1
 .subst h1
  go_enter func179,ntmps179
  go_wp2;go_ret;exact⟨rfl,by trivial⟩
 .have h1':(op==1)=false:=zu h1
  by_cases h3:3<=op
  .by_cases aM:op<=9
   .by_cases au:op=4
    .subst au
     go_enter func179,ntmps179
     go_wp2;go_ret;exact⟨rfl,by trivial⟩
    .have b:(op !=4)=true:=zu au;clear h1
     go_enter func179,ntmps179
     go_wp2;go_ret;exact⟨iD (by rw[HA.out];symm;rw[Fr];exact .inr ⟨h3,aM,au⟩),by trivial⟩
   .exact Kl
  .exact Kl
theorem zx(x y:Vl)(w:World):(binOp .eql 38 (.agg (V_ x)) (.agg (V_ y))).run prog w=.ok (.bool (decide (x=y))) w:=by
 obtain⟨a1,G⟩:=x;obtain⟨b1,b2⟩:=y;go_simp
 by_cases h1:a1=b1
 .by_cases h2:G=b2<;>simp[h1,h2]
 .simp[h1]
def pG(op x y:Int):Vl × Int:=
 if op=1 then(⟨false,wrap64 (x+y)⟩,0) else if op=2 then(⟨false,wrap64 (x-y)⟩,0) else if op=3 then(⟨false,wrap64 (x*y)⟩,0)
 else if op=4 then(if y=0 then(⟨false,0⟩, -3) else if y= -1 then(⟨false,wrap64 (-x)⟩,0) else(⟨false,wrap64 (x.tdiv y)⟩,0))
 else if op=5 then(⟨false,if y<x then y else x⟩,0) else if op=6 then(⟨false,if x<y then y else x⟩,0)
 else if op=7 then(⟨false,bits .and .i64 x y⟩,0) else if op=8 then(⟨false,bits .or .i64 x y⟩,0) else if op=9 then(⟨false,bits .xor .i64 x y⟩,0)
 else(⟨false,if x<y then 1 else 0⟩,0)
def iF(op:Int)(a b:Vl):Vl × Int:=
 if op=11 then(⟨false,if a=b then 1 else 0⟩,0) else if op<1∨11<op∨a.r=true∨b.r=true then(⟨false,0⟩, -2) else pG op a.n b.n
def qi(r:Vl × Int)(e:Ending):Prop:=e=.returned (.tuple #[.agg #[.bool r.1.r,i_ r.1.n],i_ r.2])
theorem y9(op:Int)(a b:Vl)(w:World)(ha:a.r=false)(hb:b.r=false)(h1:1<=op)(h2:op<=10):
 Calls prog 164 #[i_ op,.agg #[.bool a.r,i_ a.n],.agg #[.bool b.r,i_ b.n]] w λe w'=>qi (pG op a.n b.n) e/\Gr [] w w':=by
 obtain⟨-,-,-,I⟩:=wt w 38 #[.bool a.r,i_ a.n] 38 #[.bool b.r,i_ b.n] 38 #[.bool false,i_ 0];have B:Bk (((w.alloc (.cells #[.bool a.r,i_ a.n] 38)).alloc (.cells #[.bool b.r,i_ b.n] 38)).alloc (.cells #[.bool false,i_ 0] 38)) (w.heap.size+2) 38 #[.bool false,i_ 0]:=zu (P_ ((w.alloc (.cells #[.bool a.r,i_ a.n] 38)).alloc (.cells #[.bool b.r,i_ b.n] 38)) 38 #[.bool false,i_ 0]);obtain⟨d,x⟩:=a;obtain⟨s,y⟩:=b;simp only at ha hb;subst ha;subst hb;simp only at I B |-;have aq:op=1∨op=2∨op=3∨op=4∨op=5∨op=6∨op=7∨op=8∨op=9∨op=10:=o_
 rcases aq with rfl|rfl|rfl|rfl|rfl|rfl|rfl|rfl|rfl|rfl
 .have ay:=h_ (show pG 1 x y=((⟨false,wrap64 (x+y)⟩:Vl),(0:Int)) by simp[pG])
  go_enter func164,ntmps164
  go_wp2_with fail
  go_quiet (fail)
  go_wp2_with fail
  go_at_call 196
  refine(j0 _ _).mono ?_;rintro e w2⟨rfl,J⟩;have hB:=(B.drewN nq).hG J;obtain⟨U,ad⟩:=hB.iH;have H:=hB.hH 0;have C:=hB.hH 1;go_wp2;refine EX (v:=.tuple #[.agg #[.bool false,i_ (wrap64 (x+y))],i_ 0]) (iC (p:=6) (u:=7) rfl _ _ _ _ _ _ _ rfl ((hB.hW 0 (.bool false)).hW 1 (i_ (wrap64 (x+y)))) underlying38 rfl k_) rfl ⟨by unfold qi;rw[ay.out],?_⟩;exact La
 .have ay:=h_ (show pG 2 x y=((⟨false,wrap64 (x-y)⟩:Vl),(0:Int)) by simp[pG])
  go_enter func164,ntmps164
  go_wp2_with fail
  go_quiet (fail)
  go_wp2_with fail
  go_at_call 196
  refine(j0 _ _).mono ?_;rintro e w2⟨rfl,J⟩;have hB:=(B.drewN nq).hG J;obtain⟨U,ad⟩:=hB.iH;have H:=hB.hH 0;have C:=hB.hH 1;go_wp2;refine EX (v:=.tuple #[.agg #[.bool false,i_ (wrap64 (x-y))],i_ 0]) (iC (p:=6) (u:=7) rfl _ _ _ _ _ _ _ rfl ((hB.hW 0 (.bool false)).hW 1 (i_ (wrap64 (x-y)))) underlying38 rfl k_) rfl ⟨by unfold qi;rw[ay.out],?_⟩;exact La
 .have ay:=h_ (show pG 3 x y=((⟨false,wrap64 (x*y)⟩:Vl),(0:Int)) by simp[pG])
  go_enter func164,ntmps164
  go_wp2_with fail
  go_quiet (fail)
  go_wp2_with fail
  go_at_call 196
  refine(j0 _ _).mono ?_;rintro e w2⟨rfl,J⟩;have hB:=(B.drewN nq).hG J;obtain⟨U,ad⟩:=hB.iH;have H:=hB.hH 0;have C:=hB.hH 1;go_wp2;refine EX (v:=.tuple #[.agg #[.bool false,i_ (wrap64 (x*y))],i_ 0]) (iC (p:=6) (u:=7) rfl _ _ _ _ _ _ _ rfl ((hB.hW 0 (.bool false)).hW 1 (i_ (wrap64 (x*y)))) underlying38 rfl k_) rfl ⟨by unfold qi;rw[ay.out],?_⟩;exact La
 .by_cases hy:y=0
  .subst hy;have ay:=h_ (show pG 4 x 0=((⟨false,0⟩:Vl),((-3):Int)) by simp[pG])
   go_enter func164,ntmps164
   go_wp2_with fail
   go_quiet (fail)
   have hB:=B.drewN nq;obtain⟨U,ad⟩:=hB.iH;have H:=hB.hH 0;have C:=hB.hH 1;go_wp2;refine lT #[.bool false,i_ (0)] (i_ (-3)) ((hB.hW 0 (.bool false)).hW 1 (i_ (0))) underlying38 ⟨by unfold qi;rw[ay.out],?_⟩;exact((I.drewN nq).setCell (.inr p_) _).setCell (.inr p_) _
  .have f:(y==0)=false:=zu hy
   by_cases hm:y= -1
   .subst hm;have ay:=h_ (show pG 4 x (-1)=((⟨false,wrap64 (-x)⟩:Vl),(0:Int)) by simp[pG])
    go_enter func164,ntmps164
    go_wp2_with fail
    go_quiet (fail)
    go_wp2_with fail
    go_at_call 196
    refine(j0 _ _).mono ?_;rintro e w2⟨rfl,J⟩;have hB:=(B.drewN nq).hG J;obtain⟨U,ad⟩:=hB.iH;have H:=hB.hH 0;have C:=hB.hH 1;go_wp2;refine EX (v:=.tuple #[.agg #[.bool false,i_ (wrap64 (-x))],i_ 0]) (iC (p:=6) (u:=7) rfl _ _ _ _ _ _ _ rfl ((hB.hW 0 (.bool false)).hW 1 (i_ (wrap64 (-x)))) underlying38 rfl k_) rfl ⟨by unfold qi;rw[ay.out],?_⟩;exact La
   .have ay:=h_ (show pG 4 x y=((⟨false,wrap64 (x.tdiv y)⟩:Vl),(0:Int)) by simp[pG,hy,hm]);have dD:(y== -1)=false:=zu hm;clear hm
    go_enter func164,ntmps164
    go_wp2_with fail
    go_quiet (fail)
    go_wp2_with fail
    go_at_call 196
    refine(j0 _ _).mono ?_;rintro e w2⟨rfl,J⟩;have hB:=(B.drewN nq).hG J;obtain⟨U,ad⟩:=hB.iH;have H:=hB.hH 0;have C:=hB.hH 1;go_wp2;refine EX (v:=.tuple #[.agg #[.bool false,i_ (wrap64 (x.tdiv y))],i_ 0]) (iC (p:=6) (u:=7) rfl _ _ _ _ _ _ _ rfl ((hB.hW 0 (.bool false)).hW 1 (i_ (wrap64 (x.tdiv y)))) underlying38 rfl k_) rfl ⟨by unfold qi;rw[ay.out],?_⟩;exact La
 .by_cases c:y<x
  .have ay:=h_ (show pG 5 x y=((⟨false,y⟩:Vl),(0:Int)) by simp[pG,c])
   go_enter func164,ntmps164
   go_wp2_with fail
   go_quiet (fail)
   go_wp2_with fail
   go_at_call 196
   refine(j0 _ _).mono ?_;rintro e w2⟨rfl,J⟩;have hB:=(B.drewN nq).hG J;obtain⟨U,ad⟩:=hB.iH;have H:=hB.hH 0;have C:=hB.hH 1;go_wp2
   (try rw[show min x y=y from o_])
   exact IU
  .have ay:=h_ (show pG 5 x y=((⟨false,x⟩:Vl),(0:Int)) by simp[pG,c])
   go_enter func164,ntmps164
   go_wp2_with fail
   go_quiet (fail)
   go_wp2_with fail
   go_at_call 196
   refine(j0 _ _).mono ?_;rintro e w2⟨rfl,J⟩;have hB:=(B.drewN nq).hG J;obtain⟨U,ad⟩:=hB.iH;have H:=hB.hH 0;have C:=hB.hH 1;go_wp2
   (try rw[show min x y=x from o_])
   exact IW
 .by_cases c:x<y
  .have ay:=h_ (show pG 6 x y=((⟨false,y⟩:Vl),(0:Int)) by simp[pG,c])
   go_enter func164,ntmps164
   go_wp2_with fail
   go_quiet (fail)
   go_wp2_with fail
   go_at_call 196
   refine(j0 _ _).mono ?_;rintro e w2⟨rfl,J⟩;have hB:=(B.drewN nq).hG J;obtain⟨U,ad⟩:=hB.iH;have H:=hB.hH 0;have C:=hB.hH 1;go_wp2
   (try rw[show max x y=y from o_])
   exact IU
  .have ay:=h_ (show pG 6 x y=((⟨false,x⟩:Vl),(0:Int)) by simp[pG,c])
   go_enter func164,ntmps164
   go_wp2_with fail
   go_quiet (fail)
   go_wp2_with fail
   go_at_call 196
   refine(j0 _ _).mono ?_;rintro e w2⟨rfl,J⟩;have hB:=(B.drewN nq).hG J;obtain⟨U,ad⟩:=hB.iH;have H:=hB.hH 0;have C:=hB.hH 1;go_wp2
   (try rw[show max x y=x from o_])
   exact IW
 .have ay:=h_ (show pG 7 x y=((⟨false,bits .and .i64 x y⟩:Vl),(0:Int)) by simp[pG])
  go_enter func164,ntmps164
  go_wp2_with fail
  go_quiet (fail)
  go_wp2_with fail
  go_at_call 196
  refine(j0 _ _).mono ?_;rintro e w2⟨rfl,J⟩;have hB:=(B.drewN nq).hG J;obtain⟨U,ad⟩:=hB.iH;have H:=hB.hH 0;have C:=hB.hH 1;go_wp2;refine lT #[.bool false,i_ (bits .and .i64 x y)] (i_ 0) ((hB.hW 0 (.bool false)).hW 1 (i_ (bits .and .i64 x y))) underlying38 ⟨by unfold qi;rw[ay.out],?_⟩;exact La
 .have ay:=h_ (show pG 8 x y=((⟨false,bits .or .i64 x y⟩:Vl),(0:Int)) by simp[pG])
  go_enter func164,ntmps164
  go_wp2_with fail
  go_quiet (fail)
  go_wp2_with fail
  go_at_call 196
  refine(j0 _ _).mono ?_;rintro e w2⟨rfl,J⟩;have hB:=(B.drewN nq).hG J;obtain⟨U,ad⟩:=hB.iH;have H:=hB.hH 0;have C:=hB.hH 1;go_wp2;refine lT #[.bool false,i_ (bits .or .i64 x y)] (i_ 0) ((hB.hW 0 (.bool false)).hW 1 (i_ (bits .or .i64 x y))) underlying38 ⟨by unfold qi;rw[ay.out],?_⟩;exact La
 .have ay:=h_ (show pG 9 x y=((⟨false,bits .xor .i64 x y⟩:Vl),(0:Int)) by simp[pG])
  go_enter func164,ntmps164
  go_wp2_with fail
  go_quiet (fail)
  go_wp2_with fail
  go_at_call 196
  refine(j0 _ _).mono ?_;rintro e w2⟨rfl,J⟩;have hB:=(B.drewN nq).hG J;obtain⟨U,ad⟩:=hB.iH;have H:=hB.hH 0;have C:=hB.hH 1;go_wp2;refine lT #[.bool false,i_ (bits .xor .i64 x y)] (i_ 0) ((hB.hW 0 (.bool false)).hW 1 (i_ (bits .xor .i64 x y))) underlying38 ⟨by unfold qi;rw[ay.out],?_⟩;exact La
 .by_cases c:x<y
  .have ay:=h_ (show pG 10 x y=((⟨false,1⟩:Vl),(0:Int)) by simp[pG,c])
   go_enter func164,ntmps164
   go_wp2_with fail
   go_quiet (fail)
   go_wp2_with fail
   go_at_call 195
   refine(qI _ _).mono ?_;rintro e w2⟨rfl,J⟩;have hB:=(B.drewN nq).hG J;obtain⟨U,ad⟩:=hB.iH;have H:=hB.hH 0;have C:=hB.hH 1;go_wp2;refine lT #[.bool false,i_ (1)] (i_ 0) ((hB.hW 0 (.bool false)).hW 1 (i_ (1))) underlying38 ⟨by unfold qi;rw[ay.out],?_⟩;exact La
  .have ay:=h_ (show pG 10 x y=((⟨false,0⟩:Vl),(0:Int)) by simp[pG,c])
   go_enter func164,ntmps164
   go_wp2_with fail
   go_quiet (fail)
   go_wp2_with fail
   go_at_call 195
   refine(qI _ _).mono ?_;rintro e w2⟨rfl,J⟩;have hB:=(B.drewN nq).hG J;obtain⟨U,ad⟩:=hB.iH;have H:=hB.hH 0;have C:=hB.hH 1;go_wp2;refine lT #[.bool false,i_ (0)] (i_ 0) ((hB.hW 0 (.bool false)).hW 1 (i_ (0))) underlying38 ⟨by unfold qi;rw[ay.out],?_⟩;exact La
theorem mD(op:Int)(a b:Vl)(w:World):
 Calls prog 164 #[i_ op,.agg #[.bool a.r,i_ a.n],.agg #[.bool b.r,i_ b.n]] w λe w'=>qi (iF op a b) e/\Gr [] w w':=by
 obtain⟨-,-,-,I⟩:=wt w 38 #[.bool a.r,i_ a.n] 38 #[.bool b.r,i_ b.n] 38 #[.bool false,i_ 0];have B:Bk (((w.alloc (.cells #[.bool a.r,i_ a.n] 38)).alloc (.cells #[.bool b.r,i_ b.n] 38)).alloc (.cells #[.bool false,i_ 0] 38)) (w.heap.size+2) 38 #[.bool false,i_ 0]:=zu (P_ ((w.alloc (.cells #[.bool a.r,i_ a.n] 38)).alloc (.cells #[.bool b.r,i_ b.n] 38)) 38 #[.bool false,i_ 0])
 by_cases A:op=11
 .subst A
  by_cases hab:a=b
  .have ay:=h_ (show iF 11 a b=((⟨false,1⟩:Vl),(0:Int)) by simp[iF,hab])
   have am:=λW=>(zx a b W).trans (show _=Result.ok (Value.bool true) W by rw[E8 hab])
   clear hab
   go_enter func164,ntmps164
   go_wp2_with fail
   go_wp2_with fail
   go_at_call 195
   refine(qI _ _).mono ?_;rintro e w2⟨rfl,J⟩;have hB:=(B).hG J;obtain⟨U,ad⟩:=hB.iH;have H:=hB.hH 0;have C:=hB.hH 1;go_wp2;refine lT #[.bool false,i_ (1)] (i_ 0) ((hB.hW 0 (.bool false)).hW 1 (i_ (1))) underlying38 ⟨by unfold qi;rw[ay.out],?_⟩;exact(((I.trans J)).setCell (.inr p_) _).setCell (.inr p_) _
  .have ay:=h_ (show iF 11 a b=((⟨false,0⟩:Vl),(0:Int)) by simp[iF,hab])
   have am:=λW=>(zx a b W).trans (show _=Result.ok (Value.bool false) W by rw[FH hab])
   clear hab
   go_enter func164,ntmps164
   go_wp2_with fail
   go_wp2_with fail
   go_at_call 195
   refine(qI _ _).mono ?_;rintro e w2⟨rfl,J⟩;have hB:=(B).hG J;obtain⟨U,ad⟩:=hB.iH;have H:=hB.hH 0;have C:=hB.hH 1;go_wp2;refine lT #[.bool false,i_ (0)] (i_ 0) ((hB.hW 0 (.bool false)).hW 1 (i_ (0))) underlying38 ⟨by unfold qi;rw[ay.out],?_⟩;exact(((I.trans J)).setCell (.inr p_) _).setCell (.inr p_) _
 .have d:(op==11)=false:=zu A
  by_cases h1:op<1
  .have ay:=h_ (show iF op a b=((⟨false,0⟩:Vl),(-2:Int)) by unfold iF;rw[Q_ A,T_ (.inl h1)]);exact IG
  .by_cases h2:11<op
   .have ay:=h_ (show iF op a b=((⟨false,0⟩:Vl),(-2:Int)) by unfold iF;rw[Q_ A,T_ (.inr (.inl h2))]);exact IG
   .cases c:a.r with
    |true=>
     have ay:=h_ (show iF op a b=((⟨false,0⟩:Vl),(-2:Int)) by unfold iF;rw[Q_ A,T_ (.inr (.inr (.inl c)))]);clear A;rw[c]at B I;exact IH
    |false=>
     cases F:b.r with
     |true=>
      have ay:=h_ (show iF op a b=((⟨false,0⟩:Vl),(-2:Int)) by unfold iF;rw[Q_ A,T_ (.inr (.inr (.inr F)))]);clear A;rw[c,F]at B I;exact IH
     |false=>
      have ay:=h_ (show iF op a b=pG op a.n b.n by unfold iF;rw[Q_ A,Q_ (by rw[c,F];simp;omega)])
      have:=y9 op a b w c F o_ o_
      rw[c,F]at this
      exact this.mono λe w' h=>⟨by rw[ay.out];exact h.1,h.2⟩
structure In where
 op:Int
 a:Int
 b:Int
 c:Int
 n:Int
 deriving DecidableEq,Inhabited
def In.E(i:In):List Value:=[i_ i.op,i_ i.a,i_ i.b,i_ i.c,i_ i.n]
def lP(l:List In):List Value:=l.flatMap In.E
theorem tQ(a b:List In):lP (a++b)=lP a++lP b:=by simp[lP]
theorem xf(l:List In):∀u∈lP l,u.oneCell'=true:=by
 intro u hu;obtain⟨v,_,hv⟩:=F5.1 hu;simp[In.E]at hv
 rcases hv with rfl|rfl|rfl|rfl|rfl<;>rfl
def Is(w:World)(A:OA)(l:List In):Prop:=Sl w 189 5 A l.length (lP l)
theorem Is.hG{A:OA}{l:List In}(h:Is w A l)(hg:Gr [] w w'):Is w' A l:=Sl.hG h hg
theorem Is.at_{A:OA}{l:List In}(h:Is w A l)(hk:k<l.length):
 ∃b off,A=some (c_ b off)/\w.cell? (c_ b (off+k*5))=some (i_ l[k].op)/\w.cell? (c_ b (off+k*5+1))=some (i_ l[k].a)/\w.cell? (c_ b (off+k*5+2))=some (i_ l[k].b)/\w.cell? (c_ b (off+k*5+3))=some (i_ l[k].c)/\w.cell? (c_ b (off+k*5+4))=some (i_ l[k].n):=by
 obtain⟨b,off,hA,hc⟩:=Sl.f_ h o_
 have g:=λj hj=>jh In.E 5 (λ_=>rfl) l k j hk hj
 exact JI
def iA(l:List In)(pc:Int):Int:=if pc<0∨(l.length:Int)<=pc then -1 else(l.getD pc.toNat default).op
theorem qb(A:OA)(c:Nat)(l:List In)(hI hF pc:Int)(w:World)(h:Is w A l)(hn:l.length<=1000000000):
 Calls prog 133 #[.agg #[.slice A l.length c,i_ hI,i_ hF],i_ pc] w λe w'=>e=.returned (i_ (iA l pc))/\Gr [] w w':=by
 have D:=h_ (show iA l pc=if pc<0∨(l.length:Int)<=pc then -1 else(l.getD pc.toNat default).op from rfl);have I:=(F_ [] w).alloc (.cells #[.slice A l.length c,i_ hI,i_ hF] 26)
 by_cases h0:pc<0
 .go_enter func133,ntmps133
  go_wp2;go_ret;exact⟨j9 (by rw[D.out,T_ (.inl h0)]),I⟩
 .by_cases h1:(l.length:Int)<=pc
  .go_enter func133,ntmps133
   go_wp2;go_ret;exact⟨j9 (by rw[D.out,T_ (.inr h1)]),I⟩
  .have hk:pc.toNat<l.length:=o_;obtain⟨k,rfl⟩:∃k:Nat,pc=k:=⟨pc.toNat,(Fz o_).symm⟩;rw[Fi]at hk;obtain⟨b,off,rfl,bi,_,_,_,_⟩:=(h.hG I).at_ hk;have ag:(k:Int)<(l.length:Int):=o_
   go_enter func133,ntmps133
   go_wp2;go_ret;exact⟨j9 (by rw[D.out,Q_ o_,Fi,List.getD,M_ hk];rfl),I⟩
def l8(n:Int)(u:Bool):Bool:=n==0||(u&&(decide (0<n)&&decide (n<16)))
theorem uE(n:Int)(u:Bool)(w:World):Calls prog 178 #[i_ n,.bool u] w λe w'=>e=.returned (.bool (l8 n u))/\w=w':=by
 have bg:=h_ (show l8 n u=(n==0||(u&&(decide (0<n)&&decide (n<16)))) from rfl)
 by_cases h0:n=0
 .subst h0
  go_enter func178,ntmps178
  go_wp2;go_ret;exact⟨iD (by rw[bg.out];rfl),by trivial⟩
 .have a:(n==0)=false:=zu h0
  cases u with
  |false=>
   go_enter func178,ntmps178
   go_wp2;go_ret;exact⟨iD (by rw[bg.out,a];rfl),by trivial⟩
  |true=>
   by_cases h1:0<n
   .by_cases h2:n<16
    .go_enter func178,ntmps178
     go_wp2;go_ret;exact⟨iD (by rw[bg.out,a,E8 h1,E8 h2];rfl),by trivial⟩
    .have d:decide (n<16)=false:=zu h2
     go_enter func178,ntmps178
     go_wp2;go_ret;exact⟨iD (by rw[bg.out,a,E8 h1,d];rfl),by trivial⟩
   .have h1':decide (0<n)=false:=zu h1
    go_enter func178,ntmps178
    go_wp2;go_ret;exact⟨iD (by rw[bg.out,a,h1'];rfl),by trivial⟩
def pn(op:Int):Bool:=decide (1<=op/\op<=11)
theorem yO(w:World):Calls prog 208 #[] w λe w'=>∃(g:Nat) (cs:Array Value),e=.returned (.slice (j_ g) 12 12)/\Bk w' g 9 cs/\(∀k,k<12->∃s,cs[k]?=some (.string s))/\Gr [] w w':=by
 go_enter func208,ntmps208
 go_wp2;go_ret;refine⟨w.heap.size,_,rfl,P_ w _ _,λk hk=>?_,(F_ _ _).alloc _⟩;have cy:k=0∨k=1∨k=2∨k=3∨k=4∨k=5∨k=6∨k=7∨k=8∨k=9∨k=10∨k=11:=o_
 rcases cy with rfl|rfl|rfl|rfl|rfl|rfl|rfl|rfl|rfl|rfl|rfl|rfl<;>exact⟨_,rfl⟩
def EC(b:Bool)(e:Ending):Prop:=∃s:ByteArray,e=.returned (.tuple #[.string s,.bool b])
theorem qC(op:Int)(w:World):Calls prog 180 #[i_ op] w λe w'=>EC (pn op) e/\Gr [] w w':=by
 have a6:=h_ (show pn op=decide (1<=op/\op<=11) from rfl)
 by_cases h1:op<1
 .exact Jp
 .by_cases h2:11<op
  .exact Jp
  .have ay:=h_ (show pn op=true by rw[a6.out];rw[Fr];omega);obtain⟨k,rfl⟩:∃k:Nat,op=k:=⟨op.toNat,(Fz o_).symm⟩;have hk:k<12:=o_;have bV:(k:Int)<12:=o_
   go_enter func180,ntmps180
   go_wp2_with fail
   go_at_call 208
   refine(yO _).mono ?_;rintro e w2⟨g,cs,rfl,hB,hs,J⟩;obtain⟨st,bz⟩:=hs k hk;have hc:=(hB.f_ k).trans bz;clear hs bz;go_wp2
   go_ret2
   exact⟨by rw[ay.out];exact⟨_,rfl⟩,J⟩
end Go.Proofs.YtenbhdilndfaeaaGreat
