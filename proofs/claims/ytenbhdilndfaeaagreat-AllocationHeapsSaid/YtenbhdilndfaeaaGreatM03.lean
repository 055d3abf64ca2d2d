import Derived.Test.YtenbhdilndfaeaaGreatM01
import Derived.Test.YtenbhdilndfaeaaGreatRows
import Derived.Deep.CutBlock
import Derived.Deep.DeepCutAuto
import Derived.Deep.RegionHeld3
import Derived.Deep.RegionWith
import Derived.Laws.ResultCell
import Derived.WalkArith
set_option maxRecDepth 100000
set_option maxHeartbeats 0
set_option linter.all false
namespace Go.Proofs.YtenbhdilndfaeaaGreat
open Go.RowKit Go.Proofs.Tryz
variable{G:Prop}{w w':World}{B base g k len:Nat}{e q:TypeId}{zs:List Int}{α:Type}{cs:Array Value}
theorem G9(h:G:=by
 go_enter func148,ntmps148
 go_wp2_with fail
 go_at_call 55
 refine(pw A c l id _ (h.g_ J) hn).mono ?_;rintro e w2⟨rfl,ad⟩;have az:=P.gr ad s_;obtain⟨Z,ah⟩:=az.iB;have O:=az.hm 0;have C:=az.hm 1;exact H1):G:=h
theorem H1(h:G:=by
 go_wp2;have d:=(az.hJ 0 (.bool false)).hJ 1 (i_ 0);refine lA #[.bool false,i_ 0] (.bool false) d underlying38 ⟨rfl,?_⟩;exact Li):G:=h
theorem IT(h:G:=by
 go_wp2_with fail
 go_quiet (fail)
 go_wp2;go_meet;exact⟨k,rfl,hk,.inr ⟨a2.out,by rw[O.out,ap.out];omega⟩,F.drewN _⟩):G:=h
theorem Jj(h:G:=by
 go_enter func179,ntmps179
 go_wp2;go_ret;exact⟨iq (by rw[HA.out];symm;rw[FI];omega),by trivial⟩):G:=h
theorem J2(h:G:=by
 exact((aT.gr [] w S.size u.drew).setCell (.inr p_) _).setCell (.inr p_) _):G:=h
def iE(w:World)(B g:Nat):Prop:=∃(A:Option Addr) (n c:Nat) (i:Nat) (zs:List Int),Bk w g 112 #[.slice A n c,i_ i]/\i<=n/\n<=200/\n<=c/\
 (∃e,Sl w e 1 A n (zs.map (.int .u8)))/\(∀j,0<=zs.getD j 0/\zs.getD j 0<256)/\(0<n->∀b off,A=some (c_ b off)->b≠g/\b<B)/\g<B
theorem iE.ir(h:iE w B g)(hk:∀k,k<B->k<w.heap.size->w'.heap[k]?=w.heap[k]?):iE w' B g:=by
 obtain⟨A,n,c,i,zs,h1,h2,h3,aw,⟨e,ax⟩,aY,bA,aU⟩:=h;refine⟨A,n,c,i,zs,(hk g aU h1.lt).trans h1,h2,h3,aw,⟨e,ax.1,λhn=>?_⟩,aY,bA,aU⟩;obtain⟨b,off,cs,fz,U,hb,hc⟩:=ax.2 hn;refine⟨b,off,cs,fz,U,(hk b (bA hn b off U).2 ?_).trans hb,hc⟩;exact JV
theorem iE.g_(h:iE w B g)(hg:Gr [] w w'):iE w' B g:=h.ir λk _ hk=>hg.block k hk s_
theorem iE.h7{M:List Nat}(h:iE w B g)(hg:Gr M w w')(z:∀x∈M,B<=x):iE w' B g:=h.ir λk hB hk=>hg.block k hk (λY=>by have:=z k Y;omega)
theorem iE.app(h:iE w B g)(hg:App base e w w')(hB:B<=base):iE w' B g:=h.ir λk hk aj=>by
 rw[hg.ir k w.heap[k] (D7 aj) (.inl o_),D7 aj]
theorem iE.lt(h:iE w B g):g<w.heap.size:=by
 obtain⟨A,n,c,i,zs,h1,_⟩:=h;exact h1.lt
theorem iE.vl(h:iE w B g):g<B:=by
 obtain⟨A,n,c,i,zs,_,_,_,_,_,_,_,h⟩:=h;exact h
theorem iE.bk(h:iE w B g):∃cs,Bk w g 112 cs:=by
 obtain⟨A,n,c,i,zs,h1,_⟩:=h;exact⟨_,h1⟩
theorem h8(B g:Nat)(n:Int)(w:World)(hd:iE w B g)(hn:1<=n)(bq:n<=1000000):
 Calls prog 19 #[q_ g,i_ n] w λe w'=>∃r:Int,e=.returned (i_ r)/\0<=r/\r<n/\iE w' B g/\Gr [g] w w':=by
 obtain⟨A,k,c,i,zs,h1,h2,h3,aw,⟨a6,ax⟩,aY,bA,aU⟩:=hd;have bj:w.cell? (c_ g 0)=some (.slice A k c):=(h1.f_ 0).trans rfl;have be:w.cell? (c_ g 1)=some (i_ i):=(h1.f_ 1).trans rfl;have C:=h1.hm 1
 by_cases dI:i<k
 .obtain⟨b,off,U,N⟩:=ax.f_ o_;have hbg:=(bA o_ b off U).1;have K:=U;subst U
  have d:w.cell? (c_ b (off+i))=some (.int .u8 (zs.getD i 0)):=N i _ (by
   have hl:i<zs.length:=by have:=ax.1;simp at this;omega
   simp[Eq,K_ hl,List.getD])
  go_enter func19,ntmps19
  go_wp2_with fail
  go_quiet (fail)
  go_wp2;have aP:IntKind.i64.wrap (i:Int)=(i:Int):=Eg _ o_
  have aL:(i:Int)<(k:Int):=by omega
  have bN:(0:Int)<=(i:Int):=by omega
  go_quiet (fail)
  clear aP aL bN;go_wp2;go_ret;have v:0<=zs[i]?.getD 0/\zs[i]?.getD 0<256:=aY i;rw[IntWalk.wrap64_in _ o_];refine⟨_,rfl,?_,?_,⟨_,k,c,i+1,zs,((h1.drewN _).hJ 1 _).drewN _,by omega,h3,aw,⟨a6,?_⟩,aY,λ_=>bA o_,aU⟩,?_⟩
  .exact Int.tmod_nonneg _ v.1
  .exact Int.tmod_lt_of_pos _ o_
  .refine Sl.drewN (ax.ir λb' z f y=>(((D_ [g] w).drewN _).setCell (.inl s_) _).block b' y ?_) _
   have:=(bA o_ b' z f).1
   simpa using this
  .exact(((D_ _ w).drewN _).setCell (.inl s_) _).drewN _
 .have a:i=k:=by omega
  subst a
  go_enter func19,ntmps19
  go_wp2_with fail
  go_quiet (fail)
  go_wp2;go_ret;exact⟨0,rfl,by omega,by omega,⟨A,i,c,i,zs,h1.drewN _,G_ _,h3,aw,⟨a6,ax⟩,aY,bA,aU⟩,(D_ _ w).drewN _⟩
theorem A4(A:Option Addr)(n c:Nat)(zs:List Int)(w:World)(a6:TypeId)(h:Sl w a6 1 A n (zs.map (.int .u8)))(hz:∀j,0<=zs.getD j 0/\zs.getD j 0<256)(r:n<=c)(hn:n<=9223372036854775807):
 Calls prog 54 #[.slice A n c] w λe w'=>∃g,e=.returned (q_ g)/\w.heap.size<=g/\iE w' w'.heap.size g/\Gr [] w w':=by
 have aj:0<n->∀b' z,A=some (c_ b' z)->b'<w.heap.size:=by
  intro hn0 b' z f;obtain⟨b,off,cs,fz,U,hb,_⟩:=h.2 hn0;rw[f]at U;injection U with U;injection U with U _;subst U
  rcases D5 b' w.heap.size with aj|bC
  .exact aj
  .rw[Y_ bC]at hb
   cases hb
 by_cases bq:200<n
 .have aj:=aj o_;obtain⟨b,off,U,_⟩:=h.f_ o_;have K:=U;subst U
  have a:Sl w a6 1 (some (c_ b off)) 200 ((zs.take 200).map (.int .u8)):=by
   refine⟨by have:=h.1;simp at this |-;omega,λ_=>?_⟩;obtain⟨b',z,cs,fz,f,hb,hc⟩:=h.2 o_;refine⟨b',z,cs,fz,f,hb,λj u hu=>hc j u ?_⟩;rw[Eq,EL]at hu;split at hu
   .rw[Eq];exact hu
   .simp at hu
  go_enter func54,ntmps54
  go_wp2;go_ret;refine⟨_,rfl,G_ _,⟨_,200,c,0,zs.take 200,L_ w _ _,by omega,by omega,by omega,⟨a6,a.alloc _⟩,λj=>?_,λ_ b' z f=>by have:=aj b' z f;simp;omega,by simp⟩,(D_ _ w).alloc _⟩
  by_cases hj:j<200
  .simpa[EL,hj]using hz j
  .simp[EL,hj]
 .go_enter func54,ntmps54
  go_wp2;go_ret;exact⟨_,rfl,G_ _,⟨A,n,c,0,zs,L_ w _ _,by omega,by omega,r,⟨a6,h.alloc _⟩,hz,λhn0 b' z f=>by have:=aj o_ b' z f;simp;omega,by simp⟩,(D_ _ w).alloc _⟩
theorem AH(h:∀n∈zs,(Lit.int .u8 n).wf=true):∀j,0<=(zs.take len).getD j 0/\(zs.take len).getD j 0<256:=by
 intro j
 by_cases hj:j<(zs.take len).length
 .have Y:(zs.take len).getD j 0∈zs:=by
   simp only[List.getD,K_ hj,EW];exact Eu (J_ hj)
  have:=bounds_u8 (h _ Y)
  omega
 .simp[List.getD,Eh (Nat.le_of_not_lt hj)]
theorem rq{k:IntKind}{x:Addr}(hl:len<=zs.length)(hc:∀i,i<zs.length->w.cell? (x.add i)=some (.int k (zs.getD i 0))):
 ∃e,Sl w e 1 (some x) len ((zs.take len).map (.int k)):=by
 by_cases h0:len=0
 .subst h0;exact⟨0,by simpa using EM w 0 1 (some x)⟩
 .have I:=hc 0 o_
  have e0:x.add 0=x:=by simp[Addr.add]
  rw[e0]at I;obtain⟨b,off,c⟩:=x;unfold World.cell? at I
  cases hb:w.heap[b]? with
  |none=>rw[hb]at I;simp at I
  |some o=>
   rw[hb]at I
   cases o with
   |cells cs e fz=>
    cases c with
    |some s=>simp at I
    |none=>
     refine⟨e,by simp;omega,λ_=>⟨b,off,cs,fz,rfl,hb,λj u hu=>?_⟩⟩;rw[Eq,EL]at hu;split at hu
     .rename_i hj
      have:=hc j o_
      rw[mD,cell_of_row w b _ cs e fz hb]at this;rw[this,<-hu];simp[List.getD,K_ (show j<zs.length by omega)]
     .simp at hu
   |_=>simp at I
structure Vl where
 r:Bool
 n:Int
 deriving DecidableEq,Inhabited
structure Ob where
 id:Int
 fs:List Vl
 deriving DecidableEq,Inhabited
abbrev V_(x:Vl):Array Value:=#[.bool x.r,i_ x.n]
def Vl.E(v:Vl):List Value:=[.bool v.r,i_ v.n]
def iR(l:List Vl):List Value:=l.flatMap Vl.E
def jn(h:List Ob)(id:Int):Option Ob:=h.find? λo=>o.id==id
def place(found:List Ob)(id:Int):Int:=iO (λo:Ob=>o.id==id) found 0+1
def nn(h found:List Ob)(v:Vl):List Ob:=
 if v.r=false∨0<place found v.n then found else match jn h v.n with|some o=>found++[o]|none=>found
def look(h found:List Ob)(l:List Vl):List Ob:=l.foldl (nn h) found
def jM(h:List Ob):Nat->Nat->List Ob->List Ob
 |0,_,found=>found
 |f+1,i,found=>if hi:i<found.length then jM h f (i+1) (look h found found[i].fs) else found
def ny(h:List Ob)(roots:List Vl):List Ob:=jM h (h.length+1) 0 (look h [] roots)
theorem x_(found:List Ob)(id:Int):0<place found id↔∃o∈found,o.id=id:=by
 have:=tB (λo:Ob=>o.id==id) found 0
 unfold place;constructor
 .intro h;obtain⟨o,ho,e⟩:=this.1 o_;exact⟨o,ho,by simpa using e⟩
 .rintro⟨o,ho,e⟩
  have:=this.2 ⟨o,ho,by simpa using e⟩
  omega
theorem Bc{h:List Ob}{id:Int}{o:Ob}(hg:jn h id=some o):o.id=id:=by
 have:=List.find?_some hg
 simpa using this
theorem zU{h:List Ob}{id:Int}{o:Ob}(hg:jn h id=some o):o∈h:=List.mem_of_find?_eq_some hg
structure Found(h found:List Ob):Prop where
 get:∀o∈found,jn h o.id=some o
 nodup:(found.map Ob.id).Nodup
theorem Found.nil(h:List Ob):Found h []:=⟨by simp,by simp⟩
theorem Found.nn{h found:List Ob}(hf:Found h found)(v:Vl):Found h (nn h found v):=by
 unfold Proofs.YtenbhdilndfaeaaGreat.nn;split
 .exact hf
 .rename_i hv
  cases hg:jn h v.n with
  |none=>exact hf
  |some o=>
   have hid:=Bc hg;refine⟨λx I=>?_,?_⟩
   .rcases T_.1 I with I|I
    .exact hf.get x I
    .simp at I;subst I;rw[hid];exact hg
   .rw[Ed,Fj];refine⟨hf.nodup,by simp,λa ha b hb=>?_⟩;simp at hb;subst hb;rintro rfl;apply hv;right;rw[x_];obtain⟨x,I,e⟩:=D2.1 ha;exact⟨x,I,by rw[e,hid]⟩
theorem Found.look{h found:List Ob}(hf:Found h found)(l:List Vl):Found h (look h found l):=by
 unfold Proofs.YtenbhdilndfaeaaGreat.look
 induction l generalizing found with
 |nil=>exact hf
 |cons v l ad=>exact ad (hf.nn v)
theorem qx:∀(l m:List Int),l.Nodup->(∀x∈l,x∈m)->l.length<=m.length
 |[],_,_,_=>by simp
 |x::l,m,hn,hs=>by
  have I:=hs x s_;have D:=FJ.1 hn
  have:=qx l (m.erase x) D.2 λy hy=>by
   have av:y≠x:=by rintro rfl;exact D.1 hy
   exact(List.mem_erase_of_ne av).2 (hs y (by simp[hy]))
  rw[List.length_erase_of_mem I]at this;have L:=List.length_pos_of_mem I;simp only[D3];omega
theorem Found.length{h found:List Ob}(hf:Found h found):found.length<=h.length:=by
 have:=qx (found.map Ob.id) (h.map Ob.id) hf.nodup λx I=>by
  obtain⟨o,ho,e⟩:=D2.1 I;exact D2.2 ⟨o,zU (hf.get o ho),e⟩
 simpa using this
theorem ut(h found:List Ob)(v:Vl):∃m,nn h found v=found++m:=by
 unfold nn;split
 .exact⟨[],by simp⟩
 .cases jn h v.n with
  |none=>exact⟨[],by simp⟩
  |some o=>exact⟨[o],rfl⟩
theorem pj(h:List Ob)(l:List Vl)(found:List Ob):∃m,look h found l=found++m:=by
 unfold look
 induction l generalizing found with
 |nil=>exact⟨[],by simp⟩
 |cons v l ad=>
  obtain⟨m,Y⟩:=ut h found v;obtain⟨m',c7⟩:=ad (nn h found v);exact⟨m++m',by rw[Fl,c7,Y,Er]⟩
theorem rK(h:List Ob)(f i:Nat)(found:List Ob):∃m,jM h f i found=found++m:=by
 induction f generalizing i found with
 |zero=>exact⟨[],by simp[jM]⟩
 |succ f ad=>
  unfold jM;split
  .rename_i hi;obtain⟨m,Y⟩:=pj h found[i].fs found;obtain⟨m',c7⟩:=ad (i+1) (look h found found[i].fs);exact⟨m++m',by rw[c7,Y,Er]⟩
  .exact⟨[],by simp⟩
theorem Found.loop{h found:List Ob}(hf:Found h found)(f i:Nat):Found h (jM h f i found):=by
 induction f generalizing i found with
 |zero=>exact hf
 |succ f ad=>
  unfold jM;split
  .exact ad (hf.look _) (i+1)
  .exact hf
structure Alike(h x:List Ob)(roots:List Vl)(ro:Ob->Ob)(rv:Vl->Vl):Prop where
 hT:∀v,(rv v).r=v.r
 num:∀v,v.r=false->rv v=v
 fields:∀o∈ny h roots,(ro o).fs=o.fs.map rv
 none_:∀v,(v∈roots∨∃o∈ny h roots,v∈o.fs)->v.r=true->jn h v.n=none->jn x (rv v).n=none
 some_:∀v,(v∈roots∨∃o∈ny h roots,v∈o.fs)->v.r=true->∀o,jn h v.n=some o->jn x (rv v).n=some (ro o)
 ids:∀v,(v∈roots∨∃o∈ny h roots,v∈o.fs)->v.r=true->∀o∈ny h roots,((ro o).id=(rv v).n↔o.id=v.n)
theorem ns{c:Type}(f:α->c)(p:c->Bool)(q:α->Bool)(l:List α)(k:Nat)(h:∀a∈l,p (f a)=q a):iO p (l.map f) k=iO q l k:=by
 induction l generalizing k with
 |nil=>rfl
 |cons a l ad=>simp only[E1,iO];rw[h a s_,ad (k+1) λb hb=>h b (by simp[hb])]
section
variable{h x:List Ob}{roots:List Vl}{ro:Ob->Ob}{rv:Vl->Vl}
theorem Alike.place(A:Alike h x roots ro rv){v:Vl}(hv:v∈roots∨∃o∈ny h roots,v∈o.fs)(hr:v.r=true)(found:List Ob)(hf:∀o∈found,o∈ny h roots):
 place (found.map ro) (rv v).n=place found v.n:=by
 unfold Proofs.YtenbhdilndfaeaaGreat.place;rw[ns ro _ (λo:Ob=>o.id==v.n)];intro o ho
 have:=A.ids v hv hr o (hf o ho)
 rw[Bool.eq_iff_iff]
 simpa using this
theorem Alike.nn(A:Alike h x roots ro rv){v:Vl}(hv:v∈roots∨∃o∈ny h roots,v∈o.fs)(found:List Ob)(hf:∀o∈found,o∈ny h roots):
 nn x (found.map ro) (rv v)=(nn h found v).map ro:=by
 unfold Proofs.YtenbhdilndfaeaaGreat.nn;rw[A.hT v]
 by_cases hr:v.r=true
 .rw[A.place hv hr found hf]
  by_cases hs:v.r=false∨0<Proofs.YtenbhdilndfaeaaGreat.place found v.n
  .rw[Q_ hs,Q_ hs]
  .rw[P_ hs,P_ hs]
   cases hg:jn h v.n with
   |none=>rw[A.none_ v hv hr hg]
   |some o=>rw[A.some_ v hv hr o hg];simp
 .have dX:=by simpa using hr
  rw[Q_ (.inl dX),Q_ (.inl dX)]
theorem Alike.look(A:Alike h x roots ro rv):∀(l:List Vl) (found:List Ob),(∀v∈l,v∈roots∨∃o∈ny h roots,v∈o.fs)->(∀o∈look h found l,o∈ny h roots)->
 look x (found.map ro) (l.map rv)=(look h found l).map ro
 |[],_,_,_=>rfl
 |v::l,found,hl,hf=>by
  have aP:Proofs.YtenbhdilndfaeaaGreat.look h found (v::l)=Proofs.YtenbhdilndfaeaaGreat.look h (Proofs.YtenbhdilndfaeaaGreat.nn h found v) l:=rfl;have aL:Proofs.YtenbhdilndfaeaaGreat.look x (found.map ro) ((v::l).map rv)=Proofs.YtenbhdilndfaeaaGreat.look x (Proofs.YtenbhdilndfaeaaGreat.nn x (found.map ro) (rv v)) (l.map rv):=rfl
  have L:∀o∈found,o∈ny h roots:=λo ho=>by
   obtain⟨m,Y⟩:=pj h (v::l) found;exact hf o (by rw[Y];exact D4 _ ho)
  rw[aL,A.nn (hl v s_) found L,aP];exact Alike.look A l _ (λu hu=>hl u (by simp[hu])) (by rw[<-aP];exact hf)
theorem Alike.loop(A:Alike h x roots ro rv):∀(f i:Nat) (found:List Ob),(∀o∈jM h f i found,o∈ny h roots)->jM x f i (found.map ro)=(jM h f i found).map ro
 |0,_,_,_=>rfl
 |f+1,i,found,hf=>by
  by_cases aj:i<found.length
  .have aP:jM h (f+1) i found=jM h f (i+1) (Proofs.YtenbhdilndfaeaaGreat.look h found found[i].fs):=by rw[jM,dif_pos aj]
   have aL:jM x (f+1) i (found.map ro)=jM x f (i+1) (Proofs.YtenbhdilndfaeaaGreat.look x (found.map ro) (ro found[i]).fs):=by
    rw[jM,dif_pos (by simpa using aj),E7]
   rw[aP]at hf
   have L:∀o∈Proofs.YtenbhdilndfaeaaGreat.look h found found[i].fs,o∈ny h roots:=λo ho=>by
    obtain⟨m,Y⟩:=rK h f (i+1) (Proofs.YtenbhdilndfaeaaGreat.look h found found[i].fs);exact hf o (by rw[Y];exact D4 _ ho)
   have hi:found[i]∈ny h roots:=by
    obtain⟨m,Y⟩:=pj h found[i].fs found;exact L _ (by rw[Y];exact D4 _ (J_ aj))
   rw[aL,aP,A.fields _ hi,A.look _ found (λv hv=>.inr ⟨_,hi,hv⟩) L];exact Alike.loop A f (i+1) _ hf
  .rw[jM,dif_neg (by simpa using aj),jM,dif_neg aj]
end
def js(h:List Ob)(id:Int):Int:=iO (λo:Ob=>o.id==id) h 0
def pl:List Ob->Int->Nat
 |[],_=>0
 |o::l,id=>if o.id<id then pl l id+1 else 0
def lY(h:List Ob)(o:Ob):List Ob:=
 if js h o.id<0 then h.take (pl h o.id)++[o]++h.drop (pl h o.id) else h.take (js h o.id).toNat++[o]++h.drop ((js h o.id).toNat+1)
theorem infoVl:(prog.info? 38).map (λi=>(i.zero,i.size,i.bytes))=some (some (.agg #[.bool false,i_ 0]),2,16):=by kernel_rfl
theorem infoOb:(prog.info? 56).map (λi=>(i.zero,i.size,i.bytes))=some (some (.agg #[i_ 0,n_]),2,32):=by kernel_rfl
theorem va(f:α->List Value)(hf:∀a,(f a).length=2)(l:List α):(l.flatMap f).length=l.length*2:=by
 induction l with
 |nil=>rfl
 |cons x l ad=>simp only[Ez,H_,hf,ad,D3];omega
theorem jL(f:α->List Value)(hf:∀a,(f a).length=2)(l:List α)(k j:Nat)(hk:k<l.length)(hj:j<2):(l.flatMap f)[k*2+j]?=(f l[k])[j]?:=by
 induction l generalizing k with
 |nil=>simp at hk
 |cons x l ad=>
  cases k with
  |zero=>simp only[Ez,FH,U_,ES];rw[Fi (by rw[hf];exact hj)]
  |succ k=>
   simp only[Ez,Fv];rw[E3 (by rw[hf];omega),hf,show(k+1)*2+j-2=k*2+j by omega];exact ad k (by simpa using hk)
structure Rw where
 o:Ob
 A:Option Addr
 c:Nat
def Rw.E(r:Rw):List Value:=[i_ r.o.id,.slice r.A r.o.fs.length r.c]
def jy(l:List Rw):List Value:=l.flatMap Rw.E
def hN(l:List Rw):List Ob:=l.map Rw.o
theorem lD(l:List Vl):(iR l).length=l.length*2:=va Vl.E (λ_=>rfl) l
theorem ni(l:List Rw):(jy l).length=l.length*2:=va Rw.E (λ_=>rfl) l
theorem nU(a b:List Vl):iR (a++b)=iR a++iR b:=by simp[iR]
theorem lx(a b:List Rw):jy (a++b)=jy a++jy b:=by simp[jy]
theorem l7(l:List Vl):∀u∈iR l,u.oneCell'=true:=by
 intro u hu;obtain⟨v,_,hv⟩:=E2.1 hu;simp[Vl.E]at hv
 rcases hv with rfl|rfl<;>rfl
theorem jO(l:List Rw):∀u∈jy l,u.oneCell'=true:=by
 intro u hu;obtain⟨v,_,hv⟩:=E2.1 hu;simp[Rw.E]at hv
 rcases hv with rfl|rfl<;>rfl
def j9(n:Int):Prop:=(Lit.int .i64 n).wf=true
def Vs(w:World)(A:Option Addr)(l:List Vl):Prop:=Sl w 38 2 A l.length (iR l)
def mW(w:World)(l:List Rw):Prop:=∀r∈l,Vs w r.A r.o.fs/\r.o.fs.length<=1000000000
def Os(w:World)(A:Option Addr)(l:List Rw):Prop:=Sl w 56 2 A l.length (jy l)
theorem Vs.g_{A:Option Addr}{l:List Vl}(h:Vs w A l)(hg:Gr [] w w'):Vs w' A l:=Sl.g_ h hg
theorem Os.g_{A:Option Addr}{l:List Rw}(h:Os w A l)(hg:Gr [] w w'):Os w' A l:=Sl.g_ h hg
theorem mW.g_{l:List Rw}(h:mW w l)(hg:Gr [] w w'):mW w' l:=λr hr=>⟨(h r hr).1.g_ hg,(h r hr).2⟩
theorem Vs.alloc{A:Option Addr}{l:List Vl}(h:Vs w A l)(o:Obj):Vs (w.alloc o) A l:=Sl.alloc h o
theorem Os.alloc{A:Option Addr}{l:List Rw}(h:Os w A l)(o:Obj):Os (w.alloc o) A l:=Sl.alloc h o
theorem mW.alloc{l:List Rw}(h:mW w l)(o:Obj):mW (w.alloc o) l:=h.g_ ((D_ [] w).alloc o)
theorem Vs.drew{A:Option Addr}{l:List Vl}(h:Vs w A l):Vs w.drew A l:=h
theorem Os.drew{A:Option Addr}{l:List Rw}(h:Os w A l):Os w.drew A l:=h
theorem mW.drew{l:List Rw}(h:mW w l):mW w.drew l:=h
theorem Vs.drewN{A:Option Addr}{l:List Vl}(h:Vs w A l)(n:Nat):Vs (w.drewN n) A l:=h
theorem Os.drewN{A:Option Addr}{l:List Rw}(h:Os w A l)(n:Nat):Os (w.drewN n) A l:=h
theorem mW.drewN{l:List Rw}(h:mW w l)(n:Nat):mW (w.drewN n) l:=h
theorem Vs.at_{A:Option Addr}{l:List Vl}(h:Vs w A l)(hk:k<l.length):
 ∃b off,A=some (c_ b off)/\w.cell? (c_ b (off+k*2))=some (.bool l[k].r)/\w.cell? (c_ b (off+k*2+1))=some (i_ l[k].n):=by
 exact K0
theorem Os.at_{A:Option Addr}{l:List Rw}(h:Os w A l)(hk:k<l.length):
 ∃b off,A=some (c_ b off)/\w.cell? (c_ b (off+k*2))=some (i_ l[k].o.id)/\w.cell? (c_ b (off+k*2+1))=some (.slice l[k].A l[k].o.fs.length l[k].c):=by
 exact KY
theorem xw{r:Rw}(h:Bk w g 56 #[i_ r.o.id,.slice r.A r.o.fs.length r.c]):Os w (j_ g) [r]:=
 ⟨rfl,λ_=>⟨g,0,_,_,rfl,h,λj u hu=>by
   have:j<2:=by
    rcases D5 j 2 with h|h
    .exact h
    .rw[Eh (by simpa[jy,Rw.E]using h)]at hu
     cases hu
   rcases j with _|_|j
   .simpa[jy,Rw.E]using hu
   .simpa[jy,Rw.E]using hu
   .omega⟩⟩
theorem BD{v:Vl}(h:Bk w g 38 (V_ v)):Vs w (j_ g) [v]:=
 ⟨rfl,λ_=>⟨g,0,_,_,rfl,h,λj u hu=>by
   have:j<2:=by
    rcases D5 j 2 with h|h
    .exact h
    .rw[Eh (by simpa[iR,Vl.E]using h)]at hu
     cases hu
   rcases j with _|_|j
   .simpa[iR,Vl.E]using hu
   .simpa[iR,Vl.E]using hu
   .omega⟩⟩
theorem it{P:Program}{fn:Func}{p u:Tmp}{ty:TypeId}(h:fn.results=#[.cell p ty,.tmp u])(tmps:Array Value)(w:World)(g:Nat)(t:TypeId)(cs:Array Value)(fr:Nat × Nat)(d:TypeDesc)
 (hp:tmps.getD p undef=q_ g) (hg:w.heap[g]?=some (.cells cs t fr))
 (hu:P.underlying ty=some d) (hd:(match d with| .struct _| .array _ _=>true|_=>false)=true) (hi:(P.info? ty).map (·.size)=some cs.size):
 (results fn tmps).run P w=.ok (.tuple #[.agg cs,tmps.getD u undef]) w:=by
 rw[results_cell_tmp h]
 have f:tmps[p]?.getD undef=q_ g:=by simpa using hp
 simp[f,asAddr,run_loadVar_row w g t ty cs fr d hg hu hd hi,Result.andThen]
theorem Ae{i:Int}{fs:List Vl}{B:Option Addr}{n d:Nat}(h:Bk w g 56 #[i_ i,.slice B n d])(hn:fs.length=n):Sl w 56 2 (j_ g) 1 (jy [⟨⟨i,fs⟩,B,d⟩]):=by
 subst hn;exact xw (r:=⟨⟨i,fs⟩,B,d⟩) h
theorem mW.ig{l:List Rw}{t:TypeId}(h:mW w l)(hk:Bk w g t cs)(av:38≠t)(hg:Gr [g] w w'):mW w' l:=λr hr=>⟨Sl.ig (h r hr).1 hk av hg,(h r hr).2⟩
theorem lA{P:Program}{fn:Func}{R:Ending->World->Prop}{a:Act}{w:World}{p u:Tmp}{ty:TypeId}{g:Nat}{t:TypeId}{fr:Nat × Nat}{d:TypeDesc}(cs:Array Value)(y:Value)(hg:w.heap[g]?=some (.cells cs t fr))(hu:P.underlying ty=some d)(hR:R (.returned (.tuple #[.agg cs,y])) w)
 (h:fn.results=#[.cell p ty,.tmp u]:=by rfl) (hp:a.tmps.getD p undef=q_ g:=by rfl) (hd:(match d with|.struct _|.array _ _=>true|_=>false)=true:=by rfl) (hi:(P.info? ty).map (·.size)=some cs.size:=by kernel_rfl) (hy:a.tmps.getD u undef=y:=by rfl) (hf:a.defers=[]:=by rfl):bodyPost P fn R .ret a w:=D8 (v:=.tuple #[.agg cs,y]) (by rw[<-hy];exact it h _ _ _ _ _ _ _ hp hg hu hd hi) hf hR
theorem pw(A:Option Addr)(c:Nat)(l:List Rw)(id:Int)(w:World)(h:Os w A l)(hn:l.length<=1000000000):
 Calls prog 55 #[.agg #[.slice A l.length c],i_ id] w λe w'=>e=.returned (i_ (js (hN l) id))/\Gr [] w w':=by
 exact KD
theorem sN(o:Ob)(A:Option Addr)(c:Nat)(w:World)(h:Sl w q 2 A o.fs.length (iR o.fs))(hn:o.fs.length<=1000000000):
 Calls prog 56 #[.agg #[i_ o.id,.slice A o.fs.length c]] w λe w'=>∃(A':Option Addr) (c':Nat),
  e=.returned (.agg #[i_ o.id,.slice A' o.fs.length c'])/\w'.ownsRow w.heap.size 38 2 (.slice A' o.fs.length c') o.fs.length (iR o.fs)/\Gr [] w w':=by
 obtain⟨bz,bw,br,bi,bf⟩:=info_parts infoVl;obtain⟨id,fs⟩:=o;simp only at h hn |-;obtain⟨aT,-,-⟩:=pG w 56 #[i_ id,.slice A fs.length c] 56 #[i_ 0,n_];obtain⟨h0,h1⟩:=aT.iB;obtain⟨-,bB,-⟩:=pG w 56 #[i_ id,.slice A fs.length c] 56 #[i_ 0,n_];have V:=(h.alloc (.cells #[i_ id,.slice A fs.length c] 56)).alloc (.cells #[i_ 0,n_] 56);have aV:=((D_ [] w).alloc (.cells #[i_ id,.slice A fs.length c] 56)).alloc (.cells #[i_ 0,n_] 56)
 have j:w.heap.size+1≠w.heap.size:=by omega
 generalize hL:fs.length=n at*;clear hL
 go_enter func56,ntmps56
 go_wp2_with (at_builtin;refine iD _ rfl (.const (n_)) (.tmp 4) 54 rfl w.heap.size 38 bz _ 2 16 underlying54 bw br bi bf rfl d_ d_ none 0 0 [] rfl (iJ _ _ _ _) _ n c _ rfl V (l7 _) o_ p_ ?_;intro ay an w2 aY av;simp only[U_,Ea]at aY;have b9:=av.bk aT d_;have a:=av.bk bB d_;obtain⟨bX,cg⟩:=b9.iB;have C:=b9.hm 1;obtain⟨b0,b5⟩:=a.iB;have b8:=a.hm 0;have bW:=a.hm 1)
 have b:=((a.h7 (p:=(c_ w.heap.size 1)) j (.slice ay n an)).hJ 0 (i_ id)).hJ 1 (.slice ay n an);refine rr_ #[i_ id,.slice ay n an] b underlying56 ⟨ay,an,rfl,?_,?_⟩
 .have bT:=j1 aY b9 d_ ((D_ [w.heap.size] w2).setCell (p:=(c_ w.heap.size 1)) (.inl s_) (.slice ay n an));exact j1 bT (a.h7 (p:=(c_ w.heap.size 1)) j (.slice ay n an)) d_ (((D_ [w.heap.size+1] _).setCell (.inl s_) _).setCell (.inl s_) _)
 .exact(((av.gr [] w (G_ _) aV).setCell (.inr s_) _).setCell (.inr s_) _).setCell (.inr s_) _
theorem p5(o:Ob)(A:Option Addr)(c:Nat)(w:World)(h:Sl w q 2 A o.fs.length (iR o.fs))(hn:o.fs.length<=1000000000):
 Calls prog 56 #[.agg #[i_ o.id,.slice A o.fs.length c]] w λe w'=>∃(A':Option Addr) (c':Nat),
  e=.returned (.agg #[i_ o.id,.slice A' o.fs.length c'])/\Vs w' A' o.fs/\Gr [] w w':=
 (sN o A c w h hn).mono λ_ _⟨A',c',h1,h2,h3⟩=>⟨A',c',h1,Sl.iG h2,h3⟩
theorem Ba{h:List Ob}{id:Int}(hk:k<h.length)(aj:h[k].id<id):pl (h.drop k) id=pl (h.drop (k+1)) id+1:=by
 rw[X_ hk];simp[pl,aj]
theorem Bb{h:List Ob}{id:Int}(hk:k<h.length)(aj:¬h[k].id<id):pl (h.drop k) id=0:=by
 rw[X_ hk];simp[pl,aj]
theorem zT{h:List Ob}{id:Int}(hk:h.length<=k):pl (h.drop k) id=0:=by
 rw[El hk]
 rfl
theorem yb(f:α->List Value)(hf:∀a,(f a).length=2)(l:List α)(k:Nat):(l.take k).flatMap f=(l.flatMap f).take (k*2):=by
 induction l generalizing k with
 |nil=>simp
 |cons x l ad=>
  cases k with
  |zero=>simp
  |succ k=>
   rw[List.take_succ_cons,Ez,Ez,ad,List.take_append,hf,W_ (l:=f x) (by rw[hf];omega),show(k+1)*2-2=k*2 by omega]
theorem Os.take{A:Option Addr}{l:List Rw}(h:Os w A l)(hk:k<=l.length):Sl w 56 2 A k (jy (l.take k)):=by
 refine⟨by rw[ni,Ey];omega,λh0=>?_⟩;obtain⟨b,off,cs,fz,U,hb,hc⟩:=h.2 o_;refine⟨b,off,cs,fz,U,hb,λj u hu=>hc j u ?_⟩;unfold jy at hu;rw[yb Rw.E (λ_=>rfl),EL]at hu;split at hu
 .exact hu
 .cases hu
theorem Os.drop{A:Option Addr}{l:List Rw}(h:Os w A l)(hk:k<=l.length)(q:Nat)(aq:l.length<=q):Sl w 56 2 (if q=k then A else A.map (·.add (k*2))) (l.length-k) (jy (l.drop k)):=by
 refine⟨by rw[ni,Fd],λh0=>?_⟩;obtain⟨b,off,cs,fz,U,hb,hc⟩:=h.2 o_;subst U;rw[P_ o_];refine⟨b,off+k*2,cs,fz,by simp[mD],hb,λj u hu=>?_⟩;rw[Fr];refine hc _ u ?_
 have hj:j<(l.length-k)*2:=by
  rcases D5 j ((l.length-k)*2)with h|h
  .exact h
  .rw[Eh (by rw[ni,Fd];exact h)]at hu
   cases hu
 have aP:=jL Rw.E (λ_=>rfl) (l.drop k) (j / 2) (j % 2) (by rw[Fd];omega) (Nat.mod_lt _ o_);have aL:=jL Rw.E (λ_=>rfl) l (k+j / 2) (j % 2) o_ (Nat.mod_lt _ o_);rw[show j / 2*2+j % 2=j by omega]at aP;rw[show(k+j / 2)*2+j % 2=k*2+j by omega]at aL;unfold jy at hu |-;rw[aL,<-hu,aP,List.getElem_drop]
def sE(l:List Rw)(k m:Nat)(r:Rw):List Rw:=l.take k++[r]++l.drop m
theorem xk(l:List Rw)(k m:Nat)(r:Rw):hN (sE l k m r)=(hN l).take k++[r.o]++(hN l).drop m:=by
 simp[sE,hN,List.map_take,List.map_drop]
theorem App.s9{t:TypeId}(h:App base e w w')(hb:Bk w g t cs)(aj:g<base):Bk w' g t cs:=h.ir _ _ hb (.inl aj)
theorem u1{h:List Rw}{m:Nat}{r:Rw}(Y:m<=h.length)(hk:k<=h.length):(sE h k m r).length=k+1+(h.length-m):=by
 simp[sE];omega
theorem xe{h:List Rw}{m:Nat}{id:Int}{fs:List Vl}{A:Option Addr}{c:Nat}(hR:mW w h)(hv:Vs w A fs)(hn:fs.length<=1000000000):mW w (sE h k m ⟨⟨id,fs⟩,A,c⟩):=by
 intro r hr;unfold sE at hr
 rcases T_.1 hr with hr|hr
 .rcases T_.1 hr with hr|hr
  .exact hR r (Eu hr)
  .have:r=⟨⟨id,fs⟩,A,c⟩:=by simpa using hr
   subst this;exact⟨hv,hn⟩
 .exact hR r (FC hr)
theorem App.la{l:List Rw}(h:App base 56 w w')(hR:mW w l):mW w' l:=λr hr=>⟨h.sl (hR r hr).1 d_,(hR r hr).2⟩
theorem up(U:Option Addr)(hc:Nat)(h:List Rw)(id:Int)(A:Option Addr)(c:Nat)(fs:List Vl)(w:World)(W:Os w U h)(hR:mW w h)(b6:h.length<=hc)(hv:Sl w q 2 A fs.length (iR fs))(hn1:fs.length<=1000000000)(bq:h.length<=999999999):
 Calls prog 123 #[.agg #[.slice U h.length hc],.agg #[i_ id,.slice A fs.length c]] w λe w'=>∃(A':Option Addr) (c':Nat) (rs:List Rw),
  e=.returned (.agg #[.slice A' rs.length c'])/\rs.length<=c'/\Os w' A' rs/\mW w' rs/\hN rs=lY (hN h) ⟨id,fs⟩/\Gr [] w w':=by
 obtain⟨i1,bK,b0,b5,cf⟩:=info_parts infoOb;obtain⟨K,P,-,-,bv⟩:=BC w 35 #[.slice U h.length hc] 56 #[i_ id,.slice A fs.length c] 35 #[n_] 35 #[n_]
 have m:Bk ((((w.alloc (.cells #[.slice U h.length hc] 35)).alloc (.cells #[i_ id,.slice A fs.length c] 56)).alloc (.cells #[n_] 35)).alloc (.cells #[n_] 35)) (w.heap.size+2) 35 #[n_]:=by simpa using(L_ ((w.alloc (.cells #[.slice U h.length hc] 35)).alloc (.cells #[i_ id,.slice A fs.length c] 56)) 35 #[n_]).alloc (.cells #[n_] 35)
 have E:Bk ((((w.alloc (.cells #[.slice U h.length hc] 35)).alloc (.cells #[i_ id,.slice A fs.length c] 56)).alloc (.cells #[n_] 35)).alloc (.cells #[n_] 35)) (w.heap.size+3) 35 #[n_]:=by simpa using L_ (((w.alloc (.cells #[.slice U h.length hc] 35)).alloc (.cells #[i_ id,.slice A fs.length c] 56)).alloc (.cells #[n_] 35)) 35 #[n_]
 have h0:=K.f_ 0;obtain⟨h1,h2⟩:=P.iB
 go_enter func123,ntmps123
 go_wp2_with fail
 go_at_call 55
 refine(pw U hc h id _ (W.g_ bv) o_).mono ?_;rintro e w1⟨rfl,hg1⟩;have ad:=bv.trans hg1;have s:=K.gr hg1 s_;have az:=P.gr hg1 s_;have bo:=m.gr hg1 s_;have a8:=E.gr hg1 s_;have au:=a8.lt;clear bv K P m E h0 h1 h2 hg1;have M:=h_ (show -1<=js (hN h) id/\js (hN h) id<h.length by have:=m6 (λo:Ob=>o.id==id) (hN h) 0;simp[hN]at this;unfold js;simpa[hN]using this);have aM:w.heap.size=w.heap.size:=rfl;generalize aQ:js (hN h) id=X at*;have aD:=h_ aQ;clear aQ;have g:=h_ (show(hN h).length=h.length by simp[hN])
 go_upto_if 14 with fail
 go_cut [7] (λy a7=>∃k:Nat,y=i_ k/\k<=h.length/\((0<=X/\X=k)∨(X<0/\k=pl (hN h) id))/\Gr [] w1 a7)
 case first=>
  obtain⟨cg,cp⟩:=M.out
  by_cases bH:X<0
  .obtain rfl:X= -1:=by omega
   have a2:=h_ bH;clear bH cg cp;have bg:=h_ (show pl (hN h) id=0+pl ((hN h).drop 0) id by simp)
   go_wp2_with fail
   go_loopw [7] (λy w'=>∃k:Nat,y=i_ k/\k<=h.length/\pl (hN h) id=k+pl ((hN h).drop k) id/\Gr [] w1 w') (λy _=>h.length-(intOf y).toNat)
   case atStart=>exact⟨0,rfl,N_ _,bg.out,D_ _ _⟩
   case round=>
    obtain⟨k,rfl,hk,cO,F⟩:=hrel;have O:=h_ cO;clear cO;have D:=(s.gr F s_).f_ 0;obtain⟨R,bM⟩:=(az.gr F s_).iB
    by_cases aj:k<h.length
    .obtain⟨b,off,rfl,Z,ah⟩:=(W.g_ (ad.trans F)).at_ aj;have z:=h_ (show(hN h)[k]'(by rw[g.out];exact aj)=h[k].o by simp[hN])
     by_cases hid:h[k].o.id<id
     .have ap:=h_ (Ba (h:=hN h) (id:=id) (k:=k) (by rw[g.out];exact aj) (by rw[z.out];exact hid))
      have av:decide (h[k].o.id<id)=true:=by simpa using hid
      clear hid z;generalize h[k]=r at*;obtain⟨⟨G,B⟩,j,L⟩:=r;simp only at Z ah av
      have aL:(k:Int)<(h.length:Int):=by omega
      exact Ij
     .have ap:=h_ (Bb (h:=hN h) (id:=id) (k:=k) (by rw[g.out];exact aj) (by rw[z.out];exact hid))
      have av:decide (h[k].o.id<id)=false:=by simpa using hid
      clear hid z;generalize h[k]=r at*;obtain⟨⟨G,B⟩,j,L⟩:=r;simp only at Z ah av
      have aL:(k:Int)<(h.length:Int):=by omega
      exact IT
    .have ap:=h_ (zT (h:=hN h) (id:=id) (k:=k) (by rw[g.out];omega))
     have aL:¬(k:Int)<(h.length:Int):=by omega
     exact IT
  .obtain⟨x,rfl⟩:∃x:Nat,X=x:=⟨X.toNat,by omega⟩;rw[show decide ((x:Int)<0)=false by simp];clear bH
   go_wp2_with fail
   go_meet
   have:=M.out
   exact⟨x,rfl,by omega,.inl ⟨by omega,rfl⟩,D_ _ _⟩
 case rest=>
  obtain⟨k,rfl,hk,aU,F⟩:=hcut;have bQ:=h_ aU;clear aU;have S:=ad.trans F;have D:=s.gr F s_;have t:=az.gr F s_;have i:=bo.gr F s_;have ck:=a8.gr F s_;have bC:=F.size;clear s az bo a8 F;obtain⟨be,bD⟩:=t.iB;have ey:=D.f_ 0;have bF:=ck.f_ 0
  have aP:(k:Int)<=(hc:Int):=by omega
  have e0:(0:Int)<=(k:Int):=by omega
  obtain⟨d,rfl⟩:∃x,x=wc:=⟨wc,rfl⟩
  have bB:w.heap.size+1<d.heap.size:=by omega
  have aY:=Os.take (W.g_ S.drew) hk;have bI:=hv.g_ S.drew;have aW:=iJ d.drew d.heap.size 56 2;have aq:d.heap.size<=d.drew.heap.size:=G_ _
  go_upto_region 8 with fail
  go_cut [] (λa7=>∃(a6:Option Addr) (c5:Nat) (aR:Option Addr) (c4:Nat),Bk a7 w.heap.size 35 #[.slice U h.length hc]/\Bk a7 (w.heap.size+2) 35 #[n_]/\Bk a7 (w.heap.size+3) 35 #[.slice a6 (k+1) c5]/\a7.ownsRow d.heap.size 56 2 (.slice a6 (k+1) c5) (k+1) (jy (h.take k++[⟨⟨id,fs⟩,aR,c4⟩]))/\Vs a7 aR fs/\d.heap.size<=a7.heap.size/\Gr [] w a7)
  case first=>
   go_region_law (first|(refine nZ rfl (.tmp 34) (.tmp 38) 33 rfl d.heap.size 56 i1 _ 2 32 underlying33 bK b0 b5 cf rfl d_ d_ none 0 0 [] rfl aW U k hc _ rfl aY (jO _) o_ aq ?_;intro ay an ai bE a;simp only[U_,Ea]at bE;have bj:=a.bk D d_;have bp:=a.bk i d_;have bu:=a.bk ck d_;have bn:=a.s9 t.drew bB;obtain⟨hq0,hq1⟩:=bn.iB;have am:=hv.g_ (a.gr [] w S.size S.drew))|(go_simp;go_at_call 56;refine(p5 ⟨id,fs⟩ A c _ am hn1).mono ?_;rintro e T⟨aR,c4,rfl,bG,af⟩;have aE:=af.alloc (.cells #[i_ id,.slice aR fs.length c4] 56);have bl:=bj.gr aE s_;have br:=bp.gr aE s_;have bw:=bu.gr aE s_;have C:=iu bE aE;have V:=Ae (fs:=fs) (L_ T 56 #[i_ id,.slice aR fs.length c4]) rfl;have Q:=F_ (F_ aq a.size) aE.size)|(refine nZ rfl (.tmp 39) (.tmp 42) 33 rfl d.heap.size 56 i1 _ 2 32 underlying33 bK b0 b5 cf rfl d_ d_ ay k an _ rfl C _ 1 1 _ rfl V (jO _) o_ Q ?_;intro a6 c5 ae aX n;have bm:=n.bk bl d_;have bt:=n.bk br d_;have I:=n.bk bw d_;have bN:=I.hm 0;have J:=I.f_ 0))
   all_goals
    go_wp2;go_meet;have H:=(D_ [w.heap.size+3] ae).setCell (p:=(c_ (w.heap.size+3) 0)) (.inl s_) (.slice a6 (k+1) c5);refine⟨a6,c5,aR,c4,bm.gr H s_,bt.gr H s_,I.hJ 0 _,?_,?_,F_ (F_ Q n.size) H.size,?_⟩
    .rw[lx];exact j1 aX I d_ H
    .exact Sl.ig (n.sl (bG.alloc (.cells #[i_ id,.slice aR fs.length c4] 56)) d_) I d_ H
    .exact(n.gr [] w S.size ((a.gr [] w S.size S.drew).trans aE)).setCell (.inr (show w.heap.size<=w.heap.size+3 by omega)) _
  case rest=>
   obtain⟨a6,c5,aR,c4,R,aI,ao,aV,bf,aZ,u⟩:=hcut;have ey:=R.f_ 0;have bF:=ao.f_ 0;have bO:=u.size;obtain⟨aB,rfl⟩:∃x,x=h:=⟨h,rfl⟩;have aO:=hR.g_ u.drew;clear bI aW aq aY
   rcases bQ.out with⟨bX,rfl⟩|⟨bX,aH⟩
   .have Y:k+1<=aB.length:=by have:=M.out;omega
    have em:(k:Int)+1<=(aB.length:Int):=by omega
    have bL:(0:Int)<=(k:Int)+1:=by omega
    clear bX;have aC:=Os.drop (W.g_ u.drew) Y hc b6;have ar:d.heap.size<=wc.drew.heap.size:=aZ;have aw:=iu aV (D_ [] wc).drew
    have aG:w.heap.size+2≠w.heap.size+3:=by omega
    go_wp2_with fail
    go_region_law (refine nZ rfl (.tmp 50) (.tmp 54) 33 rfl d.heap.size 56 i1 _ 2 32 underlying33 bK b0 b5 cf rfl d_ d_ a6 (k+1) c5 _ rfl aw _ (aB.length-(k+1)) (hc-(k+1)) _ rfl aC (jO _) o_ ar ?_;intro aJ aK aF cj aT;have l:=aT.bk aI d_;have f:=aT.bk ao d_;have bz:=f.hm 0;have bJ:=f.f_ 0;have bA:=l.hm 0;have db:=l.f_ 0)
    all_goals
     have dS:k+1+(aB.length-(k+1))=aB.length:=by omega
     rw[dS]at cj
     have aN:(sE aB k (k+1) ⟨⟨id,fs⟩,aR,c4⟩).length=aB.length:=by rw[u1 Y hk];exact dS
     clear dS;have N:=h_ aN;clear aN;go_wp2
     all_goals
      have bh:=f.hJ 0 (.slice aJ aB.length aK);have aS:=l.h7 (p:=(c_ (w.heap.size+3) 0)) aG (.slice aJ aB.length aK);have dz:=aS.hJ 0 (.slice aJ aB.length aK);have ag:=(D_ [w.heap.size+3] aF).setCell (p:=(c_ (w.heap.size+3) 0)) (.inl s_) (.slice aJ aB.length aK);have ak:=(D_ [w.heap.size+2] (aF.setCell (c_ (w.heap.size+3) 0) (.slice aJ aB.length aK))).setCell (p:=(c_ (w.heap.size+2) 0)) (.inl s_) (.slice aJ aB.length aK);have ax:=j1 (j1 cj f d_ ag) aS d_ ak;have v:mW _ (sE aB k (k+1) ⟨⟨id,fs⟩,aR,c4⟩):=((xe (aT.la aO) (aT.sl bf d_) hn1).ig f d_ ag).ig aS d_ ak;refine D8 (EV rfl _ _ _ _ _ _ _ rfl dz underlying35 rfl k_) rfl ⟨aJ,aK,sE aB k (k+1) ⟨⟨id,fs⟩,aR,c4⟩,by rw[N.out];rfl,by rw[N.out];exact iQ cj,?_,v,?_,?_⟩
      .unfold Os;rw[N.out]
       have:=Sl.iG ax
       rw[<-lx]at this;exact this
      .rw[xk];unfold lY;rw[aD.out,P_ o_,ED]
      .exact J2
   .obtain rfl:X= -1:=by have:=M.out;omega
    have Y:k<=aB.length:=hk
    have em:(k:Int)<=(aB.length:Int):=by omega
    have bi:=h_ aH;clear bX aH;have aC:=Os.drop (W.g_ u.drew) Y hc b6;have ar:d.heap.size<=wc.drew.heap.size:=aZ;have aw:=iu aV (D_ [] wc).drew
    have aG:w.heap.size+2≠w.heap.size+3:=by omega
    go_wp2_with fail
    go_region_law (refine nZ rfl (.tmp 50) (.tmp 54) 33 rfl d.heap.size 56 i1 _ 2 32 underlying33 bK b0 b5 cf rfl d_ d_ a6 (k+1) c5 _ rfl aw _ (aB.length-(k)) (hc-(k)) _ rfl aC (jO _) o_ ar ?_;intro aJ aK aF cj aT;have l:=aT.bk aI d_;have f:=aT.bk ao d_;have bz:=f.hm 0;have bJ:=f.f_ 0;have bA:=l.hm 0;have db:=l.f_ 0)
    all_goals
     have N:=h_ (u1 (r:=⟨⟨id,fs⟩,aR,c4⟩) Y hk);go_wp2
     all_goals
      have bh:=f.hJ 0 (.slice aJ (k+1+(aB.length-(k))) aK);have aS:=l.h7 (p:=(c_ (w.heap.size+3) 0)) aG (.slice aJ (k+1+(aB.length-(k))) aK);have dz:=aS.hJ 0 (.slice aJ (k+1+(aB.length-(k))) aK);have ag:=(D_ [w.heap.size+3] aF).setCell (p:=(c_ (w.heap.size+3) 0)) (.inl s_) (.slice aJ (k+1+(aB.length-(k))) aK);have ak:=(D_ [w.heap.size+2] (aF.setCell (c_ (w.heap.size+3) 0) (.slice aJ (k+1+(aB.length-(k))) aK))).setCell (p:=(c_ (w.heap.size+2) 0)) (.inl s_) (.slice aJ (k+1+(aB.length-(k))) aK);have ax:=j1 (j1 cj f d_ ag) aS d_ ak;have v:mW _ (sE aB k (k) ⟨⟨id,fs⟩,aR,c4⟩):=((xe (aT.la aO) (aT.sl bf d_) hn1).ig f d_ ag).ig aS d_ ak;refine D8 (EV rfl _ _ _ _ _ _ _ rfl dz underlying35 rfl k_) rfl ⟨aJ,aK,sE aB k (k) ⟨⟨id,fs⟩,aR,c4⟩,by rw[N.out];rfl,by rw[N.out];exact iQ cj,?_,v,?_,?_⟩
      .unfold Os;rw[N.out]
       have:=Sl.iG ax
       rw[<-lx]at this;exact this
      .rw[xk];unfold lY;rw[aD.out,Q_ o_,<-bi.out]
      .exact J2
theorem nv(h:List Ob)(id:Int):(js h id<0/\jn h id=none)∨∃k,∃hk:k<h.length,js h id=(k:Nat)/\jn h id=some h[k]:=by
 suffices H:∀j:Nat,(iO (λo:Ob=>o.id==id) h j<0/\jn h id=none)∨∃k,∃hk:k<h.length,iO (λo:Ob=>o.id==id) h j=(j+k:Nat)/\jn h id=some h[k] by
  rcases H 0 with h1|⟨k,hk,h1,h2⟩
  .exact .inl h1
  .exact .inr ⟨k,hk,by unfold js;rw[h1];simp,h2⟩
 induction h with
 |nil=>intro j;left;simp[iO,jn]
 |cons o l ad=>
  intro j
  by_cases hp:o.id=id
  .right;exact⟨0,by simp,by simp[iO,hp],by simp[jn,hp]⟩
  .have aP:iO (λo:Ob=>o.id==id) (o::l) j=iO (λo:Ob=>o.id==id) l (j+1):=by simp[iO,hp]
   have aL:jn (o::l) id=jn l id:=by simp[jn,hp]
   rw[aP,aL]
   rcases ad (j+1)with h1|⟨k,hk,h1,h2⟩
   .exact .inl h1
   .exact .inr ⟨k+1,by simpa using hk,by rw[h1];congr 1;omega,by simpa using h2⟩
theorem get_none(A:Option Addr)(c:Nat)(l:List Rw)(id:Int)(w:World)(h:Os w A l)(hn:l.length<=1000000000)(hg:jn (hN l) id=none):
 Calls prog 14 #[.agg #[.slice A l.length c],i_ id] w λe w'=>e=.returned (.tuple #[.agg #[i_ 0,n_],.bool false])/\Gr [] w w':=by
 obtain⟨K,P,J⟩:=pG w 35 #[.slice A l.length c] 56 #[i_ 0,n_];have aU:((w.alloc (.cells #[.slice A l.length c] 35)).alloc (.cells #[i_ 0,n_] 56)).cell? (c_ w.heap.size 0)=some (.slice A l.length c):=K.f_ 0
 rcases nv (hN l) id with⟨aj,_⟩|⟨k,hk,_,h2⟩
 .go_enter func14,ntmps14
  go_wp2_with fail
  go_at_call 55
  refine(pw A c l id _ (h.g_ J) hn).mono ?_;exact Hl
 .rw[hg]at h2
  cases h2
theorem get_some(A:Option Addr)(c:Nat)(l:List Rw)(id:Int)(o:Ob)(w:World)(h:Os w A l)(hr:mW w l)(hn:l.length<=1000000000)(hg:jn (hN l) id=some o):
 Calls prog 14 #[.agg #[.slice A l.length c],i_ id] w λe w'=>∃(A':Option Addr) (c':Nat),e=.returned (.tuple #[.agg #[i_ o.id,.slice A' o.fs.length c'],.bool true])/\Vs w' A' o.fs/\Gr [] w w':=by
 obtain⟨K,P,J⟩:=pG w 35 #[.slice A l.length c] 56 #[i_ 0,n_];have aU:((w.alloc (.cells #[.slice A l.length c] 35)).alloc (.cells #[i_ 0,n_] 56)).cell? (c_ w.heap.size 0)=some (.slice A l.length c):=K.f_ 0
 rcases nv (hN l) id with⟨_,h2⟩|⟨k,hk,G,h2⟩
 .rw[hg]at h2
  cases h2
 .rw[hg]at h2;injection h2 with h2
  have aH:=by simpa[hN]using hk
  have M:o=l[k].o:=by rw[h2];simp[hN]
  subst M;clear h2 hg;have ag:=h_ G;clear G
  have R:(k:Int)<(l.length:Int):=by omega
  go_enter func14,ntmps14
  go_wp2_with fail
  go_at_call 55
  refine(pw A c l id _ (h.g_ J) hn).mono ?_;exact Gx
def ji(h:List Ob)(id f:Int):Option Vl:=match jn h id with
 |none=>none
 |some o=>if f<0 then none else o.fs[f.toNat]?
theorem p7{h:List Ob}{id f:Int}{v:Vl}(hr:ji h id f=some v):∃k,∃hk:k<h.length,js h id=(k:Nat)/\jn h id=some h[k]/\0<=f/\∃hf:f.toNat<h[k].fs.length,h[k].fs[f.toNat]=v:=by
 unfold ji at hr
 rcases nv h id with⟨h1,h2⟩|⟨k,hk,h1,h2⟩
 .rw[h2]at hr
  cases hr
 .rw[h2]at hr;simp only at hr;split at hr
  .cases hr
  .rename_i hf;obtain⟨hl,hv⟩:=Fh.1 hr;exact⟨k,hk,h1,h2,by omega,hl,hv⟩
theorem km(A:Option Addr)(c:Nat)(l:List Rw)(id f:Int)(w:World)(h:Os w A l)(hr:mW w l)(hn:l.length<=1000000000):
 Calls prog 148 #[.agg #[.slice A l.length c],i_ id,i_ f] w λe w'=>e=.returned (.tuple #[.agg #[.bool ((ji (hN l) id f).getD default).r,i_ ((ji (hN l) id f).getD default).n],.bool (ji (hN l) id f).isSome])/\Gr [] w w':=by
 obtain⟨K,P,J⟩:=pG w 35 #[.slice A l.length c] 38 #[.bool false,i_ 0];have aU:((w.alloc (.cells #[.slice A l.length c] 35)).alloc (.cells #[.bool false,i_ 0] 38)).cell? (c_ w.heap.size 0)=some (.slice A l.length c):=K.f_ 0
 cases y:ji (hN l) id f with
 |none=>
  have a:js (hN l) id<0∨f<0∨∃k,∃hk:k<l.length,js (hN l) id=(k:Nat)/\(l[k].o.fs.length:Int)<=f/\0<=f:=by
   rcases nv (hN l) id with⟨h1,_⟩|⟨k,hk,h1,h2⟩
   .exact .inl h1
   .have aH:=by simpa[hN]using hk
    unfold ji at y;rw[h2]at y;simp only at y;split at y
    .exact .inr (.inl ‹_›)
    .rename_i hf;refine .inr (.inr ⟨k,aH,h1,?_,by omega⟩)
     have:=List.getElem?_eq_none_iff.1 y
     have e:((hN l)[k]).fs.length=l[k].o.fs.length:=by simp[hN]
     omega
  clear y
  by_cases G:js (hN l) id<0
  .exact G9
  .by_cases hf:f<0
   .exact G9
   .obtain⟨k,aH,bW,aI,F⟩:∃k,∃hk:k<l.length,js (hN l) id=(k:Nat)/\(l[k].o.fs.length:Int)<=f/\0<=f:=by
     rcases a with h1|h1|h1
     .exact D6 h1 G
     .exact D6 h1 hf
     .exact h1
    have R:(k:Int)<(l.length:Int):=by omega
    have ag:=h_ bW;clear bW a G
    go_enter func148,ntmps148
    go_wp2_with fail
    go_at_call 55
    refine(pw A c l id _ (h.g_ J) hn).mono ?_;rintro e w2⟨rfl,ad⟩;rw[ag.out];have az:=P.gr ad s_;obtain⟨Z,ah⟩:=az.iB;have O:=az.hm 0;have C:=az.hm 1;have z0:w2.cell? (c_ w.heap.size 0)=some (.slice A l.length c):=(K.gr ad s_).f_ 0;obtain⟨b,off,rfl,bj,be⟩:=((h.g_ J).g_ ad).at_ aH;exact H1
 |some v=>
  obtain⟨k,hk,bW,_,F,aI,hv⟩:=p7 y
  have aH:=by simpa[hN]using hk
  have bF:(hN l)[k]=l[k].o:=by simp[hN]
  have aj:f.toNat<l[k].o.fs.length:=by rw[<-bF];exact aI
  have bX:l[k].o.fs[f.toNat]=v:=by
   rw[<-hv];congr 1;rw[bF]
  subst bX
  have R:(k:Int)<(l.length:Int):=by omega
  have ag:=h_ bW;clear bW hv y bF aI
  have V:f<(l[k].o.fs.length:Int):=by omega
  have bJ:¬(l[k].o.fs.length:Int)<=f:=by omega
  have W:=EX F;clear W
  go_enter func148,ntmps148
  go_wp2_with fail
  go_at_call 55
  refine(pw A c l id _ (h.g_ J) hn).mono ?_;rintro e w2⟨rfl,ad⟩;rw[ag.out];have az:=P.gr ad s_;obtain⟨Z,ah⟩:=az.iB;have O:=az.hm 0;have C:=az.hm 1;have z0:w2.cell? (c_ w.heap.size 0)=some (.slice A l.length c):=(K.gr ad s_).f_ 0;obtain⟨bI,_⟩:=((hr.g_ J).g_ ad) l[k] (J_ aH);obtain⟨b,off,rfl,bj,be⟩:=((h.g_ J).g_ ad).at_ aH;obtain⟨b2,p,m,ao,bh⟩:=bI.at_ aj;rw[m]at be;go_wp2;have d:=(az.hJ 0 (.bool l[k].o.fs[f.toNat].r)).hJ 1 (i_ l[k].o.fs[f.toNat].n);refine lA #[.bool l[k].o.fs[f.toNat].r,i_ l[k].o.fs[f.toNat].n] (.bool true) d underlying38 ⟨rfl,?_⟩;exact Li
def kT(h:List Ob)(id f:Int)(v:Vl):List Ob:=h.modify (js h id).toNat λo=>⟨o.id,o.fs.set f.toNat v⟩
theorem qq(E:α->List Value)(s:Nat)(hE:∀a,(E a).length=s)(hs:0<s)(l:List α)(k:Nat)(hk:k<l.length)(r:α)(cur dH:Array Value)(h:∀(i:Nat) (u:Value),(l.flatMap E)[i]?=some u->cur[i]?=some u)(kb:∀(j:Nat) (u:Value),(E r)[j]?=some u->dH[k*s+j]?=some u)(c:∀i:Nat,(i<k*s∨(k+1)*s<=i)->dH[i]?=cur[i]?):∀(i:Nat) (u:Value),((l.set k r).flatMap E)[i]?=some u->dH[i]?=some u:=by
 intro i u hu
 have iv:((l.set k r).flatMap E).length=l.length*s:=by rw[j3 E s hE];simp
 have hi:i<l.length*s:=by
  rcases D5 i (l.length*s)with h|h
  .exact h
  .rw[Eh (by rw[iv];exact h)]at hu
   cases hu
 have ha:i / s<l.length:=by rw[Nat.div_lt_iff_lt_mul hs];exact hi
 have hb:i % s<s:=Nat.mod_lt _ hs
 have b:i / s*s+i % s=i:=by rw[Nat.mul_comm];exact Nat.div_add_mod i s
 have aP:=iW E s hE (l.set k r) (i / s) (i % s) (by simpa using ha) hb;rw[b,hu]at aP
 rcases Nat.lt_trichotomy (i / s) k with aj|f|bM
 .rw[List.getElem_set_ne o_]at aP;have aL:=iW E s hE l (i / s) (i % s) ha hb;rw[b]at aL
  rw[c i (.inl (by
   have:(i / s+1)*s<=k*s:=FB s aj
   rw[Fa,F0]at this
   omega))]
  exact h i u (by rw[aL,<-aP])
 .subst f;rw[List.getElem_set_self]at aP;rw[<-b];exact kb _ u aP.symm
 .rw[List.getElem_set_ne o_]at aP;have aL:=iW E s hE l (i / s) (i % s) ha hb;rw[b]at aL
  rw[c i (.inr (by
   have:(k+1)*s<=i / s*s:=FB s bM
   omega))]
  exact h i u (by rw[aL,<-aP])
theorem ky{size:Nat}{A:Option Addr}{n c:Nat}{xs:List Value}(h:w.ownsRow base e size (.slice A n c) n xs)(h0:0<n):∃g cur,A=some (c_ g 0)/\base<=g/\Bk w g e cur/\∀(i:Nat) (u:Value),xs[i]?=some u->cur[i]?=some u:=by
 rcases h.2 with⟨hv,I⟩|⟨g,kX,cur,hv,hb,hg,_,_,_,X⟩
 .omega
 .injection hv with U _ _;refine⟨g,cur,U,hb,hg,λj u hu=>?_⟩;rw[<-X,EL]at hu;split at hu
  .simpa using hu
  .cases hu
theorem qm(E:α->List Value)(hE:∀a,(E a).length=2){cur:Array Value}{l:List α}(hk:k<l.length)(r:α)(x y:Value)(hr:E r=[x,y])(hb:Bk w g e cur)(h:∀(i:Nat) (u:Value),(l.flatMap E)[i]?=some u->cur[i]?=some u)(n:Nat)(hn:l.length=n):
 Sl ((w.setCell (c_ g (k*2)) x).setCell (c_ g (k*2+1)) y) e 2 (j_ g) n ((l.set k r).flatMap E):=by
 subst hn;have bB:=(hb.hJ (k*2) x).hJ (k*2+1) y;have iv:=j3 E 2 hE l
 have d:k*2+1<cur.size:=by
  have hl:k*2+1<(l.flatMap E).length:=by omega
  have:=h _ _ (K_ hl)
  rcases D5 (k*2+1) cur.size with h|h
  .exact h
  .exact Ku
 refine⟨by rw[j3 E 2 hE];simp,λ_=>⟨g,0,_,_,rfl,bB,λj u hu=>?_⟩⟩;rw[U_];refine qq E 2 hE o_ l k hk r cur _ h (λj u hu=>?_) (λi hi=>?_) j u hu
 .rw[hr]at hu
  match j,hu with
  |0,hu=>simp only[EI,Option.some.injEq]at hu;subst hu;rw[I_,P_ o_,I_,Q_ o_,Q_ o_]
  |1,hu=>simp only[E9,EI,Option.some.injEq]at hu;subst hu;rw[I_,Q_ rfl,Q_ (by simpa using d)]
  |j+2,hu=>simp at hu
 .rw[I_,P_ o_,I_,P_ o_]
theorem qd(A:Option Addr)(c:Nat)(l:List Rw)(id f:Int)(v:Vl)(w:World)(h:Os w A l)(hr:mW w l)(hn:l.length<=1000000000)(n:ji (hN l) id f=none):
 Calls prog 149 #[.agg #[.slice A l.length c],i_ id,i_ f,.agg (V_ v)] w λe w'=>e=.returned (.tuple #[.agg #[n_],.bool false])/\Gr [] w w':=by
 obtain⟨K,-,-,J⟩:=vQ w 35 #[.slice A l.length c] 38 (V_ v) 35 #[n_]
 have m:Bk (((w.alloc (.cells #[.slice A l.length c] 35)).alloc (.cells (V_ v) 38)).alloc (.cells #[n_] 35)) (w.heap.size+2) 35 #[n_]:=by simpa using L_ ((w.alloc (.cells #[.slice A l.length c] 35)).alloc (.cells (V_ v) 38)) 35 #[n_]
 have aU:(((w.alloc (.cells #[.slice A l.length c] 35)).alloc (.cells (V_ v) 38)).alloc (.cells #[n_] 35)).cell? (c_ w.heap.size 0)=some (.slice A l.length c):=K.f_ 0
 go_enter func149,ntmps149
 go_wp2_with fail
 go_at_call 148
 refine(km A c l id f _ (h.g_ J) (hr.g_ J) hn).mono ?_;rintro e w2⟨rfl,ad⟩;rw[n];have bo:=(m.g_ ad).alloc (.cells (V_ (default:Vl)) 38);have Z:=bo.f_ 0;have O:=bo.hm 0;simp only[FQ,FV];go_wp2;have d:=bo.hJ 0 (n_);refine lA #[n_] (.bool false) d underlying35 ⟨rfl,?_⟩;exact((J.trans ad).alloc _).setCell (.inr p_) _
theorem uq(l:List Rw)(k:Nat)(r:Rw):hN (l.set k r)=(hN l).set k r.o:=by simp[hN,List.map_set]
theorem yl{h:List Ob}{id f:Int}{v:Vl}(hk:k<h.length)(hi:js h id=(k:Nat)):kT h id f v=h.set k ⟨h[k].id,h[k].fs.set f.toNat v⟩:=by
 unfold kT;rw[hi,ED];apply FY;intro i;rw[F9,List.getElem?_set]
 by_cases e:k=i
 .subst e;simp[hk]
 .simp[e]
theorem mW.hJ{l:List Rw}(h:mW w l){r:Rw}(hv:Vs w r.A r.o.fs)(hn:r.o.fs.length<=1000000000):mW w (l.set k r):=λx I=>by
 rcases Ee I with I|rfl
 .exact h x I
 .exact⟨hv,hn⟩
theorem App.BY{l:List Rw}(h:App base e w w')(av:38≠e)(hR:mW w l):mW w' l:=λr hr=>⟨h.sl (hR r hr).1 av,(hR r hr).2⟩
theorem nW(A:Option Addr)(c:Nat)(l:List Rw)(id f:Int)(v u:Vl)(w:World)(h:Os w A l)(hr:mW w l)(hn:l.length<=1000000000)(j:ji (hN l) id f=some u):
 Calls prog 149 #[.agg #[.slice A l.length c],i_ id,i_ f,.agg (V_ v)] w λe w'=>∃(A':Option Addr) (c':Nat) (rs:List Rw),e=.returned (.tuple #[.agg #[.slice A' rs.length c'],.bool true])/\rs.length<=c'/\Os w' A' rs/\mW w' rs/\hN rs=kT (hN l) id f v/\Gr [] w w':=by
 obtain⟨i1,bK,b0,b5,cf⟩:=info_parts infoOb;obtain⟨K,P,-,J⟩:=vQ w 35 #[.slice A l.length c] 38 (V_ v) 35 #[n_]
 have m:Bk (((w.alloc (.cells #[.slice A l.length c] 35)).alloc (.cells (V_ v) 38)).alloc (.cells #[n_] 35)) (w.heap.size+2) 35 #[n_]:=by simpa using L_ ((w.alloc (.cells #[.slice A l.length c] 35)).alloc (.cells (V_ v) 38)) 35 #[n_]
 have aU:(((w.alloc (.cells #[.slice A l.length c] 35)).alloc (.cells (V_ v) 38)).alloc (.cells #[n_] 35)).cell? (c_ w.heap.size 0)=some (.slice A l.length c):=K.f_ 0;obtain⟨k,hk,bW,_,F,aI,hv⟩:=p7 j
 have aH:=by simpa[hN]using hk
 have bF:(hN l)[k]=l[k].o:=by simp[hN]
 have aj:f.toNat<l[k].o.fs.length:=by rw[<-bF];exact aI
 have bl:=h_ (show kT (hN l) id f v=(hN l).set k ⟨l[k].o.id,l[k].o.fs.set f.toNat v⟩ by rw[yl hk bW,bF])
 have R:(k:Int)<(l.length:Int):=by omega
 have ag:=h_ bW
 have V:f<(l[k].o.fs.length:Int):=by omega
 clear bW hv bF aI
 go_enter func149,ntmps149
 go_wp2_with fail
 generalize ((w.alloc (.cells #[.slice A l.length c] 35)).alloc (.cells (V_ v) 38)).alloc (.cells #[n_] 35)=W at*
 go_at_call 148
 refine(km A c l id f _ (h.g_ J) (hr.g_ J) hn).mono ?_;rintro e w2⟨rfl,ad⟩;rw[j];simp only[EW,Fw];have aE:=ad.alloc (.cells (V_ u) 38);have s:=K.g_ aE;have az:=P.g_ aE;have bo:=m.g_ aE;have X:=(h.g_ J).g_ aE;have bX:=(hr.g_ J).g_ aE;have Z:=s.f_ 0;have hbs:=(J.trans aE).size;clear aU j
 go_wp2_with (at_builtin;refine si _ rfl (.const (n_)) (.tmp 26) 33 rfl w.heap.size 56 i1 _ 2 32 underlying33 bK b0 b5 cf rfl d_ d_ none 0 0 [] rfl (iJ _ _ _ _) A l.length c _ rfl X (jO _) o_ hbs ?_;intro a8 aN ai bE a;simp only[U_,Ea]at bE;have z0:=((a.bk s d_).alloc (.cells #[.slice a8 l.length aN] 35)).f_ 0)
 go_at_call 55
 have N:=a.gr [] w (G_ _) (J.trans aE);have D:=(a.bk s d_).alloc (.cells #[.slice a8 l.length aN] 35);have t:=(a.bk az d_).alloc (.cells #[.slice a8 l.length aN] 35);have i:=(a.bk bo d_).alloc (.cells #[.slice a8 l.length aN] 35);have n:=L_ ai 35 #[.slice a8 l.length aN];have cv:=iu bE ((D_ [] ai).alloc (.cells #[.slice a8 l.length aN] 35));have b8:=N.alloc (.cells #[.slice a8 l.length aN] 35);have av:=(a.bk bo d_).lt;have b6:=iQ bE;refine(pw A c l id _ (h.g_ b8) hn).mono ?_;rintro e ae⟨rfl,am⟩;rw[ag.out];have B:=b8.trans am;have D:=D.g_ am;have t:=t.g_ am;have i:=i.g_ am;have n:=n.g_ am;have aX:=iu cv am;have ay:=B.size;have z0:ae.cell? (c_ w.heap.size 0)=some (.slice A l.length c):=D.f_ 0;obtain⟨af,O⟩:=(hr.g_ B) l[k] (J_ aH);obtain⟨b,off,rfl,bj,be⟩:=(h.g_ B).at_ aH;clear bE cv a s az bo X bX hbs Z K P m ad aE
 go_wp2_with fail
 go_at_call 56
 refine(sN l[k].o l[k].A l[k].c _ af O).mono ?_;rintro e aF⟨aJ,aK,rfl,cj,aC⟩;have bP:=(B.trans aC).alloc (.cells #[i_ l[k].o.id,.slice aJ l[k].o.fs.length aK] 56);have t:=(t.g_ aC).alloc (.cells #[i_ l[k].o.id,.slice aJ l[k].o.fs.length aK] 56);have i:=(i.g_ aC).alloc (.cells #[i_ l[k].o.id,.slice aJ l[k].o.fs.length aK] 56);have aw:=(n.g_ aC).lt;have n:=(n.g_ aC).alloc (.cells #[i_ l[k].o.id,.slice aJ l[k].o.fs.length aK] 56);have q:=L_ aF 56 #[i_ l[k].o.id,.slice aJ l[k].o.fs.length aK]
 have T:∀g cur,Bk ae g 56 cur->g≠aF.heap.size:=λg cur hb=>by
  have:=(hb.g_ aC).lt
  omega
 have bE:=iu (iu aX aC) ((D_ [] aF).alloc (.cells #[i_ l[k].o.id,.slice aJ l[k].o.fs.length aK] 56));have cj:=iu cj ((D_ [] aF).alloc (.cells #[i_ l[k].o.id,.slice aJ l[k].o.fs.length aK] 56));have M:=hr.g_ bP;obtain⟨aT,ap,rfl,au,ci,C⟩:=ky cj o_;obtain⟨y,ao,E,ar,L,_⟩:=ky aX o_;subst E;have ax:=T _ _ L;obtain⟨aq,an,E,_,aS,z⟩:=ky bE o_;injection E with E;injection E with E _;subst E;have ak:=Bk.lF aS ci d_;clear D z0 bj be bE aX B b8 N af am aC L T
 go_upto_region 7 with fail
 generalize aF.heap.size=aD at*;generalize ai.heap.size=aB at*;generalize aF.alloc (.cells #[i_ l[k].o.id,.slice (j_ aT) l[k].o.fs.length aK] 56)=Y at*;obtain⟨v0,v1⟩:=t.iB;obtain⟨bM,bp⟩:=q.iB;have H:Y.cell? (c_ aT (f.toNat*2))=some (.bool l[k].o.fs[f.toNat].r):=(ci.f_ _).trans (C _ _ (jL Vl.E (λ_=>rfl) l[k].o.fs f.toNat 0 aj o_));have bT:=(ci.f_ _).trans (C _ _ (jL Vl.E (λ_=>rfl) l[k].o.fs f.toNat 1 aj o_));have br:=ci.hm (f.toNat*2);have bi:=ci.hm (f.toNat*2+1)
 go_upto_region 8 with fail
 have aO:Gr [aT] Y ((Y.setCell (c_ aT (f.toNat*2)) (.bool v.r)).setCell (c_ aT (f.toNat*2+1)) (i_ v.n)):=((D_ [aT] Y).setCell (.inl s_) _).setCell (.inl s_) _
 have bm:Vs ((Y.setCell (c_ aT (f.toNat*2)) (.bool v.r)).setCell (c_ aT (f.toNat*2+1)) (i_ v.n)) (j_ aT) (l[k].o.fs.set f.toNat v):=by
  unfold Vs;rw[Eb];exact qm Vl.E (λ_=>rfl) aj v (.bool v.r) (i_ v.n) rfl ci C _ rfl
 have i:=i.gr aO (by simpa using Bk.lF i ci d_);have n:=n.gr aO (by simpa using Bk.lF n ci d_);have q:=q.gr aO (by simpa using Bk.lF q ci d_);have aS:=aS.gr aO (by simpa using ak);have ah:=bP.hx aO (by intro x I;right;simp at I;omega);have aQ:=hr.g_ ah;clear H bT br bi v0 v1 bM bp aO bP M t ci;generalize (Y.setCell (c_ aT (f.toNat*2)) (.bool v.r)).setCell (c_ aT (f.toNat*2+1)) (i_ v.n)=Q at*;have m0:=n.f_ 0;obtain⟨bM,bp⟩:=q.iB;have H:Q.cell? (c_ y (k*2))=some (i_ l[k].o.id):=(aS.f_ _).trans (z _ _ (jL Rw.E (λ_=>rfl) l k 0 aH o_));have bT:=(aS.f_ _).trans (z _ _ (jL Rw.E (λ_=>rfl) l k 1 aH o_));have br:=aS.hm (k*2);have bi:=aS.hm (k*2+1)
 go_upto_region 9 with fail
 have aW:Gr [y] Q ((Q.setCell (c_ y (k*2)) (i_ l[k].o.id)).setCell (c_ y (k*2+1)) (.slice (j_ aT) l[k].o.fs.length aK)):=((D_ [y] Q).setCell (.inl s_) _).setCell (.inl s_) _
 have U:Os ((Q.setCell (c_ y (k*2)) (i_ l[k].o.id)).setCell (c_ y (k*2+1)) (.slice (j_ aT) l[k].o.fs.length aK)) (j_ y) (l.set k ⟨⟨l[k].o.id,l[k].o.fs.set f.toNat v⟩,some (c_ aT 0),aK⟩):=by
  unfold Os;rw[Eb];exact qm Rw.E (λ_=>rfl) aH ⟨⟨l[k].o.id,l[k].o.fs.set f.toNat v⟩,some (c_ aT 0),aK⟩ _ _ (by simp[Rw.E]) aS z _ rfl
 have i:=i.gr aW (by simpa using Bk.lF i aS d_);have n:=n.gr aW (by simpa using Bk.lF n aS d_);have bN:=Sl.ig bm aS d_ aW;have S:=ah.hx aW (by intro x I;right;simp at I;omega);have a2:=aQ.ig aS d_ aW;clear H bT br bi bM bp m0 bm ah aQ;generalize (Q.setCell (c_ y (k*2)) (i_ l[k].o.id)).setCell (c_ y (k*2+1)) (.slice (j_ aT) l[k].o.fs.length aK)=bR at*;have m0:=n.f_ 0;have n0:=i.f_ 0;have br:=i.hm 0;go_wp2;have d:=i.hJ 0 (.slice (j_ y) l.length aN);have G:=(D_ [w.heap.size+2] bR).setCell (p:=(c_ (w.heap.size+2) 0)) (.inl s_) (.slice (j_ y) l.length aN);have hls:(l.set k ⟨⟨l[k].o.id,l[k].o.fs.set f.toNat v⟩,some (c_ aT 0),aK⟩).length=l.length:=Eb;refine lA #[.slice (j_ y) l.length aN] (.bool true) d underlying35 ⟨some (c_ y 0),aN,l.set k ⟨⟨l[k].o.id,l[k].o.fs.set f.toNat v⟩,some (c_ aT 0),aK⟩,by rw[hls],by rw[hls];exact b6,?_,?_,?_,?_⟩
 .exact Sl.ig U i d_ G
 .refine(a2.hJ (r:=⟨⟨l[k].o.id,l[k].o.fs.set f.toNat v⟩,some (c_ aT 0),aK⟩) bN (by simpa using O)).ig i d_ G
 .rw[uq,bl.out]
 .exact S.hx G (by intro x I;right;simp at I;omega)
theorem jP(n:Int)(w:World):Calls prog 196 #[i_ n] w λe w'=>e=.returned (.agg #[.bool false,i_ n])/\Gr [] w w':=by
 go_enter func196,ntmps196
 go_wp2;exact D8 (EV rfl _ _ _ _ _ _ _ rfl (L_ w 38 #[.bool false,i_ n]) underlying38 rfl k_) rfl ⟨rfl,(D_ _ _).alloc _⟩
theorem qG(b:Bool)(w:World):Calls prog 195 #[.bool b] w λe w'=>e=.returned (.agg #[.bool false,i_ (if b=true then 1 else 0)])/\Gr [] w w':=by
 cases b
 all_goals
  go_enter func195,ntmps195
  go_wp2_with (go_at_call 196;refine(jP _ _).mono ?_;rintro e w2⟨rfl,ad⟩;have hB:=Bi (p:=w.heap.size) ad rfl;obtain⟨Z,ah⟩:=hB.iB;have O:=hB.hm 0;have C:=hB.hm 1)
  refine D8 (EV rfl _ _ _ _ _ _ _ rfl ((hB.hJ 0 _).hJ 1 _) underlying38 rfl k_) rfl ⟨rfl,?_⟩;exact((((D_ _ _).alloc _).trans ad).setCell (.inr s_) _).setCell (.inr s_) _
theorem sp(v:Vl)(w:World):Calls prog 166 #[.agg (V_ v)] w λe w'=>e=.returned (.bool (v.n !=0))/\Gr [] w w':=by
 go_enter func166,ntmps166
 go_wp2;go_ret;exact⟨rfl,(D_ _ _).alloc _⟩
def ri(op:Int):Bool:=decide (op=1∨(3<=op/\op<=9/\op≠4))
theorem uc(op:Int)(w:World):Calls prog 179 #[i_ op] w λe w'=>e=.returned (.bool (ri op))/\w=w':=by
 have HA:=h_ (show ri op=decide (op=1∨(3<=op/\op<=9/\op≠4)) from rfl)
 by_cases h1:op=1
 .subst h1
  go_enter func179,ntmps179
  go_wp2;go_ret;exact⟨rfl,by trivial⟩
 .have h1':(op==1)=false:=by simpa using h1
  by_cases h3:3<=op
  .by_cases aJ:op<=9
   .by_cases aw:op=4
    .subst aw
     go_enter func179,ntmps179
     go_wp2;go_ret;exact⟨rfl,by trivial⟩
    .have b:(op !=4)=true:=by simpa using aw
     clear h1
     go_enter func179,ntmps179
     go_wp2;go_ret;exact⟨iq (by rw[HA.out];symm;rw[EP];exact .inr ⟨h3,aJ,aw⟩),by trivial⟩
   .exact Jj
  .exact Jj
theorem y0(x y:Vl)(w:World):(binOp .eql 38 (.agg (V_ x)) (.agg (V_ y))).run prog w=.ok (.bool (decide (x=y))) w:=by
 obtain⟨a1,f⟩:=x;obtain⟨b1,b2⟩:=y;go_simp
 by_cases h1:a1=b1
 .by_cases h2:f=b2<;>simp[h1,h2]
 .simp[h1]
end Go.Proofs.YtenbhdilndfaeaaGreat
