import Derived.Test.YtenbhdilndfaeaaGreatM02
import Derived.Test.YtenbhdilndfaeaaGreatM08
set_option maxRecDepth 100000
set_option maxHeartbeats 0
set_option linter.all false
namespace Go.Proofs.YtenbhdilndfaeaaGreat
open Go.RowKit Go.Proofs.Tryz
variable{G:Nat->World->World->Prop}{a a' a0:Act}{f:Nat->Bool}{vs:Nat->Value}{D i:Nat}{o:Oper}{w:World}{listed:Array Bool}{kh:List (List Nat)}{kF:Bool}{l:List Oper}{t:ST}{tr:TypeId}{V:List ByteArray}(k:Int)(S:World->Prop)
theorem Gg{G:Prop} (h:G:=by
 go_upto_region 5 with fail
 have i:=hR.lt;have N:=(Y.alloc (.cells lO 9)).f_ 0;have dg:=((Y.alloc (.cells lO 9)).alloc (.cells lO 9)).f_ 0
 go_region_law (first|(go_simp;go_at_call 177;refine(lC _).mono ?_;rintro e L⟨rfl,rfl⟩;try(have b:=L_ w2 9 lO;have ao:=(b.f_ r.toNat).trans bI;replace hR:=hR.alloc (.cells lO 9);replace hd:=hd.g_ ((D_ [] w2).alloc (.cells lO 9));replace J:=J.alloc (.cells lO 9)))|(go_simp;go_at_call 19;refine(h8 B g 5 _ (hd.g_ (by first|exact(((D_ [] w1).alloc _).alloc _).drew|exact((D_ [] w1).alloc _).drew)) o_ o_).mono ?_;rintro e w2⟨r,rfl,bu,bD,aZ,F⟩;obtain⟨s,hs,bI⟩:=v8 r bu bD;(first|(have q:=(((L_ w1 9 lO).alloc (.cells lO 9)).drew).gr F p_;have f:=((L_ (w1.alloc (.cells lO 9)) 9 lO).drew).gr F p_;have bn:=(q.f_ r.toNat).trans bI;have P:=(f.f_ r.toNat).trans bI;simp at P;replace hR:=(((hR.alloc (.cells lO 9)).alloc (.cells lO 9)).drew).gr F p_;replace J:=(((J.alloc (.cells lO 9)).alloc (.cells lO 9)).drew).trans F;replace hd:=aZ)|(replace hR:=((hR.alloc (.cells lO 9)).drew).gr F p_;replace J:=((J.alloc (.cells lO 9)).drew).trans F;replace hd:=aZ)))|(go_simp;go_at_call 145;refine(j2 s _).mono ?_;rintro e ai⟨he,S⟩;replace he:e=.returned (.agg #[i_ 3,i_ 0,.string s,i_ 0,n_]):=he;subst he;replace hR:=hR.g_ S;replace hd:=hd.g_ S;replace J:=J.trans (S.mono s_);have bB:=hR.hm 0;have z0:=hR.f_ 0;have bH:=hR.hm 1;have aS:=hR.f_ 1;have bZ:=hR.hm 2;have aX:=hR.f_ 2;have dq:=hR.hm 3;have z3:=hR.f_ 3;have dM:=hR.hm 4;have z4:=hR.f_ 4))
 all_goals
  go_wp2;have az:=(((((hR.hJ 0 (i_ 3)).hJ 1 (i_ 0)).hJ 2 (.string s)).hJ 3 (i_ 0)).hJ 4 (n_));have G:=((((((D_ [R0] ai).setCell (p:=(c_ R0 0)) (.inl s_) (i_ 3)).setCell (p:=(c_ R0 1)) (.inl s_) (i_ 0)).setCell (p:=(c_ R0 2)) (.inl s_) (.string s)).setCell (p:=(c_ R0 3)) (.inl s_) (i_ 0)).setCell (p:=(c_ R0 4)) (.inl s_) (n_));exact rr_ (jl s).g8 az underlying226 ⟨jl s,rfl,kc.leaf _ _ _ _ _ _,EG.var _ _ hs,hd.h7 G p_,(J.sR G di)⟩):G:=h
theorem GJ{G:Prop} (h:G:=by
 go_upto_region 3 with fail
 go_wp2_with (first|((go_at_call 19;refine(h8 B g 9 _ hd o_ o_).mono ?_;rintro e w2⟨r,rfl,bu,bD,aZ,F⟩);have bN:IntKind.i64.wrap (r-2)=r-2:=Eg _ o_)|(go_at_call 144;refine(jY (r-2) _).mono ?_;rintro e ai⟨rfl,S⟩;replace hR:=(hR.gr F p_).g_ S;replace hd:=aZ.g_ S;replace J:=(J.trans F).trans (S.mono s_))|(refine kG (jj (r-2)).g8 hR (ET.one _) ?_;intro ag az G))
 exact rr_ (jj (r-2)).g8 az underlying226 ⟨jj (r-2),rfl,kc.leaf _ _ _ _ _ _,EG.num _ _ o_ o_,hd.h7 G p_,(J.sR G di)⟩):G:=h
theorem Ig{G:Prop} (h:G:=by
 intro vs Q C O K H;obtain⟨o, -⟩:=O;replace o:_=_:=o
 try simp only[b_,o]at H |-
 obtain⟨cU,a,bC,cH⟩:=id C;have Z:=a.f_ 0;exact Kn):G:=h
theorem KW{G:Prop} (h:G:=by
 rw[<-hd,<-oB]at h1
 refine wpOp_step (ju ho) λe H=>h1 e (λv w' n J b=>H _ _ ⟨v,rfl,?_⟩)
 have hz:l.toArray.size=l.length:=by simp
 rw[hz,hl];exact⟨n,J,b⟩):G:=h
theorem KX{G:Prop} (h:G:=by
 rw[<-hd,<-oB]at h1
 refine wpOp_step (ju ho) λe H=>h1 e (λv w' V=>H _ _ ⟨v,rfl,?_⟩)
 have hz:l.toArray.size=l.length:=by simp
 rw[hz,hl];exact V):G:=h
section
variable{P:Program}{ops:Array Oper}{Q:Exit->Act->World->Prop}{md:Region.Mode}
def jA(ops:Array Oper)(i:Nat):Option Tmp:=(ops[i]?).bind (·.dst)
def oC(ops:Array Oper)(vs:Nat->Value):List Nat->Act->Act
 |[],a=>a
 |i::l,a=>oC ops vs l (a.put (jA ops i) (vs i))
structure sa(ops:Array Oper)(a0:Act)(f:Nat->Bool)(vs:Nat->Value)(a:Act):Prop where
 defers:a.defers=a0.defers
 size:a.tmps.size=a0.tmps.size
 put:∀i d,f i=true->jA ops i=some d->d<a0.tmps.size->a.tmps[d]?=some (vs i)
 ir:∀d,(∀i,f i=true->jA ops i≠some d)->a.tmps[d]?=a0.tmps[d]?
theorem sa.ext(h:sa ops a0 f vs a)(k:sa ops a0 f vs a'):a=a':=by
 have X:a.tmps=a'.tmps:=by
  apply Array.ext_getElem?;intro d
  by_cases hd:∃i,f i=true/\jA ops i=some d
  .obtain⟨i,hf,hi⟩:=hd
   rcases D5 d a0.tmps.size with aj|bC
   .rw[h.put i d hf hi aj,k.put i d hf hi aj]
   .rw[Y_ (by rw[h.size];exact bC),Y_ (by rw[k.size];exact bC)]
  .have hn:∀i,f i=true->jA ops i≠some d:=λi hf hi=>hd ⟨i,hf,hi⟩
   rw[h.ir d hn,k.ir d hn]
 have j:=h.defers.trans k.defers.symm
 cases a;cases a'
 simp only at X j;rw[X,j]
theorem sa.refl(a0:Act)(vs:Nat->Value):sa ops a0 (λ_=>false) vs a0:=⟨rfl,rfl,λ_ _ h=>by(cases h),λ_ _=>rfl⟩
theorem sa.congr{g:Nat->Bool}{us:Nat->Value}(h:sa ops a0 f vs a)(hf:∀j,f j=g j)(hv:∀j,f j=true->vs j=us j):sa ops a0 g us a:=
 ⟨h.defers,h.size,λi d hi hd aj=>by rw[h.put i d ((hf i).trans hi) hd aj,hv i ((hf i).trans hi)],λd hn=>h.ir d λi hi=>hn i ((hf i).symm.trans hi)⟩
def Cp(ops:Array Oper):Prop:=∀i j d,jA ops i=some d->jA ops j=some d->i=j
theorem sa.add(h:sa ops a0 f vs a)(hd:Cp ops)(i:Nat)(hi:f i=false)(v:Value):
 sa ops a0 (λj=>j==i||f j) (λj=>if j=i then v else vs j) (a.put (jA ops i) v):=by
 refine⟨?_,?_,?_,?_⟩
 .cases A:jA ops i<;>exact h.defers
 .cases A:jA ops i
  .exact h.size
  .simpa[Act.put]using h.size
 .intro j d hj l aj
  by_cases s:j=i
  .subst s;rw[l];simp[Act.put,h.size,aj]
  .have k:=by simpa[s]using hj
   have h1:=h.put j d k l aj
   cases A:jA ops i with
   |none=>simpa[Act.put,s]using h1
   |some e=>
    have av:e≠d:=λhe=>s (hd j i d l (he▸A))
    simp only[Act.put,E4 av,s,if_false];exact h1
 .intro d hn;have N:=hn i s_;have h1:=h.ir d (λj hj=>hn j (by simp[hj]))
  cases A:jA ops i with
  |none=>exact h1
  |some e=>
   have av:e≠d:=λhe=>N (he▸A)
   simp only[Act.put,E4 av];exact h1
theorem sa.oC{a0:Act}{vs:Nat->Value}(hd:Cp ops):∀(l:List Nat) (a:Act) (f:Nat->Bool),sa ops a0 f vs a->(∀j∈l,f j=false)->l.Nodup->sa ops a0 (λj=>l.contains j||f j) vs (oC ops vs l a)
 |[],a,f,h,_,_=>h.congr (λj=>by simp) (λ_ _=>rfl)
 |i::l,a,f,h,hf,hn=>by
  have h1:=h.add hd i (hf i s_) (vs i)
  have h2:=sa.oC hd l _ _ (h1.congr (λ_=>rfl) (λj _=>show(if j=i then vs i else vs j)=vs j by(split<;>simp_all))) (λj hj=>by
   have av:j≠i:=λe=>(FJ.1 hn).1 (e▸hj)
   simp[av,hf j (Eo _ hj)]) (FJ.1 hn).2
  refine h2.congr (λj=>?_) (λ_ _=>rfl);simp only[List.contains_cons,Bool.or_assoc,Bool.or_left_comm]
theorem zy{x:Option Tmp}{u v:Value}(h:a'.put x u=a'.put x v)(hs:a.tmps.size=a'.tmps.size):a.put x u=a.put x v:=by
 cases x with
 |none=>rfl
 |some d=>
  have h1:=D9 (λb:Act=>b.tmps[d]?) h;simp only[Act.put]at h1
  rcases D5 d a'.tmps.size with aj|bC
  .simp[aj]at h1;rw[h1]
  .simp only[Act.put];congr 1;rw[Array.setIfInBounds,Array.setIfInBounds,dif_neg o_,dif_neg o_]
theorem rA(b:Act)(x:Option Tmp)(v:Value):(b.put x v).defers=b.defers:=by cases x<;>rfl
theorem uO{R:Value->World->Prop}(ho:ops[i]?=some o)(hs:∀cs b,o.op≠ .select cs b)(hl:∀d∈o.looksAt ops,a.tmps[d]?=a'.tmps[d]?)(au:a.tmps.size=a'.tmps.size)(j:a.defers=a'.defers)(ah:∀c t t' d w,Q (.panic c) ⟨t,d⟩ w->Q (.panic c) ⟨t',d⟩ w)(h:wpOp P ops Q i (λb w'=>∃v,b=a'.put o.dst v/\R v w') a' w):wpOp P ops Q i (λb w'=>∃v,b=a.put o.dst v/\R v w') a w:=by
 have he:execOp a.eval o=execOp a'.eval o:=execOp_congr o hs λx I=>by
  cases x with
  |tmp t=>
   have:=hl t (D4 _ (Gc.2 ⟨.tmp t,by simpa using I,rfl⟩))
   simp only[Act.eval,Z_,this]
  |_=>rfl
 have aK:Region.wanted o (yielded ops a.tmps)=Region.wanted o (yielded ops a'.tmps):=by
  unfold Region.wanted
  cases hg:o.guard with
  |none=>rfl
  |some gw=>
   obtain⟨g,z⟩:=gw
   have hy:yielded ops a.tmps g=yielded ops a'.tmps g:=by
    unfold yielded
    cases X:(ops[g]?).bind (·.dst)with
    |none=>rfl
    |some t=>
     have:=hl t (by simp[Oper.looksAt,hg,X])
     simp only[Option.bind_some,this]
   simp only[hy]
 have k:∀c w',Q (.panic c) a' w'->Q (.panic c) a w':=by
  cases a;cases a'
  simp only at j;subst j
  exact λc w' h=>ah c _ _ _ _ h
 have m:∀u w',(∃v,a'.put o.dst u=a'.put o.dst v/\R v w')->∃v,a.put o.dst u=a.put o.dst v/\R v w':=λu w'⟨v,hv,hr⟩=>⟨v,zy hv au,hr⟩
 unfold wpOp at*;simp only[ho]at*;rw[aK];split
 .rename_i A;simp only[A,if_true]at h
  rcases h with h|⟨l,p⟩
  case inr=>exact .inr ⟨by unfold Oper.asks at*;rw[he];exact l,p⟩
  refine .inl ?_;unfold Oper.wp at*;rw[he];generalize (execOp a'.eval o).run P w=r at*
  cases r with
  |ok n w'=>
   cases n<;>simp only[Oper.upon]at h |-
   case value u=>exact m u _ h
   case skip=>exact m _ _ h
   case defer d=>
    obtain⟨v,hv,_⟩:=h;have h1:=D9 Act.defers hv;rw[rA,rA]at h1;have h2:=D9 List.length h1;simp at h2
   case enter f args=>
    refine Calls.mono h λe w'' he=>?_
    cases e with
    |returned u=>exact m u _ he
    |panicked c=>exact k _ _ he
    |outgrown=>exact he
   case row row args=>exact Rows.mono h λu w'' he=>m u _ he
  |halt x w'=>
   cases x<;>simp only[Oper.upon]at h |-
   case panic u=>exact k _ _ h
 .rename_i A;simp only[A]at h;exact m _ _ h
structure SU(G:Nat->World->World->Prop) where
 U:(Nat->Value)->Value->World->Prop
 ex:List Nat
 st:∀i,i∉ex->∀vs v w w',G i w w'->U vs v w->U vs v w'
 dp:List Nat
 loc:∀vs us v w,(∀j∈dp,vs j=us j)->U vs v w->U us v w
def SU.of{G:World->World->Prop}(U:Value->World->Prop)(st:∀v w w',G w w'->U v w->U v w'):SU (λ_=>G):=⟨λ_ v w=>U v w,[],λ_ _ _ v w w' hg h=>st v w w' hg h,[],λ_ _ _ _ _ h=>h⟩
def SU.yI{G:Nat->World->World->Prop}(ex:List Nat)(U:Value->World->Prop)(st:∀i,i∉ex->∀v w w',G i w w'->U v w->U v w'):SU G:=⟨λ_ v w=>U v w,ex,λi hi _ v w w' hg h=>st i hi v w w' hg h,[],λ_ _ _ _ _ h=>h⟩
def SU.uI{G:World->World->Prop}{H:Nat->World->World->Prop}(s:SU (λ_=>G))(h:∀i a b,H i a b->G a b):SU H:=⟨s.U,s.ex,λi hi vs v w w' hg hu=>s.st i hi vs v w w' (h i _ _ hg) hu,s.dp,s.loc⟩
def mO{G:Nat->World->World->Prop}(p:Nat->SU G)(vs:Nat->Value)(w:World):List Nat->Prop
 |[]=>True
 |j::l=>(p j).U vs (vs j) w/\mO p vs w l
theorem mO.of{G:Nat->World->World->Prop}{p:Nat->SU G}{vs:Nat->Value}{w:World}:∀{l:List Nat},(∀j∈l,(p j).U vs (vs j) w)->mO p vs w l
 |[],_=>trivial
 |_::_,h=>⟨h _ s_,mO.of λj hj=>h j (by simp[hj])⟩
theorem w7{listed:Array Bool}(h:listed.getD i true=false):((listed.setIfInBounds i true).toList.filter (!·)).length+1<=(listed.toList.filter (!·)).length:=by
 have aj:i<listed.size:=by
  rcases D5 i listed.size with o|o
  .exact o
  .rw[Z_,Y_ o]at h
   cases h
 have hf:listed.toList[i]?=some false:=by
  rw[Z_,D7 aj]at h;simp at h;simp[aj,h]
 rw[FU];generalize listed.toList=l at hf;clear h aj listed
 induction l generalizing i with
 |nil=>simp at hf
 |cons x l ad=>
  cases i with
  |zero=>
   simp at hf;subst hf;simp
  |succ i=>
   have:=ad (i:=i) (by simpa using hf)
   cases x<;>simp only[EZ,List.filter_cons]<;>simp<;>simpa using this
structure Cj(md:Region.Mode)(ops:Array Oper)(kh:Nat->List Nat)(kF:Bool):Prop where
 DJ:Region.noSelect ops=true
 yx:Cp ops
 back:∀i o,ops[i]?=some o->∀e∈o.after,Region.binds md e=true->e.on<i
 DK:∀i,i<ops.size->(kh i).Nodup
 pre:∀i,i<ops.size->∀j∈kh i,k4 md ops 16 i j=true
 look:∀i o,ops[i]?=some o->∀k d,jA ops k=some d->d∈o.looksAt ops->k∈kh i∨k4 md ops 16 k i=true
 some:kF=true->0<ops.size
 last:kF=true->∀j,j+1<ops.size->k4 md ops 16 (ops.size-1) j=true
theorem Aj(hb:∀i o,ops[i]?=some o->∀e∈o.after,Region.binds md e=true->e.on<i)(h:Region.ready md ops listed=[])(hz:listed.size=ops.size):∀i,i<ops.size->listed.getD i false=true:=by
 intro i
 induction i using Nat.strongRecOn with
 |ind i ad=>
  intro hi
  cases hl:listed.getD i false with
  |true=>rfl
  |false=>
   exfalso
   have hu:listed.getD i true=false:=by
    rw[Z_,D7 o_]at hl |-
    simpa using hl
   have:i∈Region.ready md ops listed:=mem_ready.2 ⟨hu,ops[i],D7 hi,λe he J=>ad e.on (hb i _ (D7 hi) e he J) (by have:=hb i _ (D7 hi) e he J;omega)⟩
   rw[h]at this
   cases this
def xA(b:Bool)(A B:Prop):Prop:=match b with|true=>A|false=>B
def rU(vs:Nat->Value)(i:Nat)(u:Value)(j:Nat):Value:=if j=i then u else vs j
theorem yY{S:(Nat->Bool)->(Nat->Value)->World->Prop}{T:(Nat->Value)->World->Prop}{p:Nat->SU G}{kh:Nat->List Nat}(hc:Cj md ops kh kF)(ah:∀c t t' d w,Q (.panic c) ⟨t,d⟩ w->Q (.panic c) ⟨t',d⟩ w)(y:∀i,∀j∈(p i).dp,j∈kh i)(z:∀j,j<ops.size->∀i∈(p j).ex,i=j∨k4 md ops 16 j i=true)(H:∀i o,ops[i]?=some o->∀f vs w,f i=false->(∀j∈kh i,f j=true)->S f vs w->mO p vs w (kh i)->wpOp P ops Q i (λb w'=>∃v,b=(oC ops vs (kh i) a0).put o.dst v/\xA (kF&&i+1==ops.size) (∀u,T (rU vs i u) w') (S (λj=>j==i||f j) (rU vs i v) w'/\G i w w'/\(p i).U vs v w')) (oC ops vs (kh i) a0) w)(x:∀f vs w,(∀j,j<ops.size->f j=true)->xA kF (T vs w) (S f vs w/\mO p vs w (List.range ops.size))->Q .normal (oC ops vs (List.range ops.size) a0) w):
 ∀(fuel:Nat) (listed:Array Bool) (vs:Nat->Value) (a:Act) (w:World),rG md ops listed->listed.size=ops.size->(listed.toList.filter (!·)).length<=fuel->
  sa ops a0 (λj=>listed.getD j false) vs a->((kF=true/\(∀j,j<ops.size->listed.getD j false=true)/\T vs w)∨(¬(kF=true/\∀j,j<ops.size->listed.getD j false=true)/\S (λj=>listed.getD j false) vs w/\∀j,listed.getD j false=true->(p j).U vs (vs j) w))->wpAny P md ops Q fuel listed a w:=by
 have fin:∀(listed:Array Bool) (vs:Nat->Value) (a:Act) (w:World),listed.size=ops.size->sa ops a0 (λj=>listed.getD j false) vs a->((kF=true/\(∀j,j<ops.size->listed.getD j false=true)/\T vs w)∨(¬(kF=true/\∀j,j<ops.size->listed.getD j false=true)/\S (λj=>listed.getD j false) vs w/\∀j,listed.getD j false=true->(p j).U vs (vs j) w))->
  Region.ready md ops listed=[]->Q .normal a w:=by
  intro listed vs a w hz ai C hr;have F:=Aj hc.back hr hz;have h1:=(sa.refl (ops:=ops) a0 vs).oC hc.yx (List.range ops.size) a0 _ (λ_ _=>rfl) List.nodup_range
  have h2:=ai.congr (g:=λj=>(List.range ops.size).contains j||false) (us:=vs) (λj=>by
   rcases D5 j ops.size with hj|hj
   .rw[F j hj];simp[hj]
   .rw[Z_,Y_ o_];simp
    omega) (λ_ _=>rfl)
  rw[h2.ext h1]
  exact x _ vs w F (by
   rcases C with⟨hl,_,V⟩|⟨hl,C,O⟩
   .rw[hl];exact V
   .cases I:kF with
    |true=>exact D6 ⟨I,F⟩ hl
    |false=>exact⟨C,mO.of λj hj=>O j (F j (Ep.1 hj))⟩)
 intro fuel
 induction fuel with
 |zero=>
  intro listed vs a w m hz hn ai C
  have hr:Region.ready md ops listed=[]:=by
   cases hr:Region.ready md ops listed with
   |nil=>rfl
   |cons i r=>
    have hi:i∈Region.ready md ops listed:=by rw[hr];simp
    have:=w7 (mem_ready.1 hi).1
    omega
  exact⟨hr,fin listed vs a w hz ai C hr⟩
 |succ fuel ad=>
  intro listed vs a w m hz hn ai C;refine⟨λhr=>fin listed vs a w hz ai C hr,λi hi=>?_⟩;obtain⟨W,o,ho,N⟩:=mem_ready.1 hi;have q:=nh hi;have M:=(Ew.1 ho).1
  obtain⟨bA,O⟩:S (λj=>listed.getD j false) vs w/\∀j,listed.getD j false=true->(p j).U vs (vs j) w:=by
   rcases C with⟨_,C,_⟩|C
   .rw[C i M]at q
    cases q
   .exact C.2
  have bW:=λj hj=>kn m 16 i (hc.pre i M j hj) (λoj l e he hb=>by rw[ho]at l;injection l with l;subst l;exact N e he hb)
  have h1:=H i o ho _ vs w q bW bA (mO.of λj hj=>O j (bW j hj));have hP:=(sa.refl (ops:=ops) a0 vs).oC hc.yx (kh i) a0 _ (λ_ _=>rfl) (hc.DK i M);have au:=ai.size.trans hP.size.symm
  have aQ:∀d∈o.looksAt ops,a.tmps[d]?=(oC ops vs (kh i) a0).tmps[d]?:=by
   intro d hd
   by_cases hk:∃k,listed.getD k false=true/\jA ops k=some d
   .obtain⟨k,aH,E⟩:=hk
    have b0:k∈kh i:=by
     rcases hc.look i o ho k d E hd with h|h
     .exact h
     .have:=kn m 16 k h (λoj l e he hb=>m _ oj l aH e he hb)
      rw[this]at q
      cases q
    rcases D5 d a0.tmps.size with aj|bC
    .rw[ai.put k d aH E aj,hP.put k d (by simp[b0]) E aj]
    .rw[Y_ (by rw[ai.size];exact bC),Y_ (by rw[hP.size];exact bC)]
   .have hn:∀k,listed.getD k false=true->jA ops k≠some d:=λk aH E=>hk ⟨k,aH,E⟩
    rw[ai.ir d hn,hP.ir d (λk b0=>hn k (bW k (by simpa using b0)))]
  have h2:=uO ho (λcs b=>Region.noSelect_spec hc.DJ i o cs b ho) aQ au (ai.defers.trans hP.defers.symm) ah h1;refine wpOp_mono (λb w' hb=>?_) h2;obtain⟨v,rfl,n⟩:=hb
  have A:o.dst=jA ops i:=by unfold jA;rw[ho];rfl
  have K:=ai.add hc.yx i q v;rw[<-A]at K
  have dT:∀j,(listed.setIfInBounds i true).getD j false=(j==i||listed.getD j false):=by
   intro j
   by_cases s:j=i
   .subst s;rw[Z_,I_,Q_ rfl,Q_ o_];simp
   .rw[Z_,I_,P_ (Ne.symm s)];simp[s]
  refine ad (listed.setIfInBounds i true) (λj=>if j=i then v else vs j) _ w' (m.set hi) (by simpa using hz) (by have:=w7 W;omega) (K.congr (λj=>(dT j).symm) (λ_ _=>rfl)) ?_
  by_cases cT:kF=true/\i+1=ops.size
  .obtain⟨hl,bF⟩:=cT;rw[hl,bF]at n;refine .inl ⟨hl,λj hj=>?_,?_⟩
   .rw[dT]
    by_cases s:j=i
    .simp[s]
    .have h3:=hc.last hl j o_
     have he:ops.size-1=i:=by omega
     rw[he]at h3;rw[kn m 16 i h3 (λoj l e he hb=>by rw[ho]at l;injection l with l;subst l;exact N e he hb)];simp
   .have aw:=by simpa[xA]using n
    exact aw v
  .have hb:(kF&&i+1==ops.size)=false:=by
    cases I:kF with
    |false=>rfl
    |true=>simp;exact λh=>cT ⟨I,h⟩
   rw[hb]at n;obtain⟨n,J,L⟩:=n;refine .inr ⟨λ⟨hl,cW⟩=>?_,by(have he:=funext dT);rw[he];exact n,?_⟩
   .have hn:=cW (ops.size-1) o_;rw[dT]at hn
    have av:ops.size-1≠i:=λh=>cT ⟨hl,by omega⟩
    have D:listed.getD (ops.size-1) false=true:=by simpa[av]using hn
    have h3:=hc.last hl i o_
    have:=kn m 16 (ops.size-1) h3 (λoj l e he hb=>m _ oj l D e he hb)
    rw[this]at q
    cases q
   .intro j hj;rw[dT]at hj
    by_cases s:j=i
    .subst s;simp only[if_true];refine(p j).loc vs _ _ _ (λk hk=>?_) L;have aH:=bW k (y j k hk)
     have av:k≠j:=λh=>by rw[h,q]at aH;cases aH
     simp[av]
    .have B:listed.getD j false=true:=by simpa[s]using hj
     simp only[s,if_false]
     have R:j<ops.size:=by
      rcases D5 j ops.size with h|h
      .exact h
      .rw[Z_,Y_ o_]at B
       cases B
     have bF:i∉(p j).ex:=λY=>by
      rcases z j R i Y with h|h
      .exact s h.symm
      .have:=kn m 16 j h (λoj l e he hb=>m _ oj l B e he hb)
       rw[this]at q
       cases q
     refine(p j).loc vs _ _ _ (λk hk=>?_) ((p j).st i bF _ _ _ _ J (O j B));have aH:=kn m 16 j (hc.pre j R k (y j k hk)) (λoj l e he hb=>m _ oj l B e he hb)
     have av:k≠i:=λh=>by rw[h,q]at aH;cases aH
     simp[av]
def mJ(md:Region.Mode)(ops:Array Oper)(i j:Nat):Bool:=(((ops[i]?).map λo=>o.after.any λe=>Region.binds md e&&e.on==j).getD false)||k4 md ops 16 i j
theorem pC{j:Nat}(h:mJ md ops i j=true):k4 md ops 16 i j=true:=by
 unfold mJ at h;simp only[FL]at h
 rcases h with h|h
 .unfold k4
  cases ho:ops[i]? with
  |none=>rw[ho]at h;cases h
  |some o=>
   rw[ho]at h;simp only[F5,EW]at h;obtain⟨q,aq,hb⟩:=FZ.1 h;simp only[Ec]at hb;exact FZ.2 ⟨q,aq,by simp only[hb.1,hb.2,F7,Bool.and_true]⟩
 .exact h
def Bu(md:Region.Mode)(ops:Array Oper)(kh:List (List Nat))(kF:Bool):Bool:=
 Region.noSelect ops&&
 ((List.range ops.size).all λi=>(List.range ops.size).all λj=>i==j||(jA ops i).isNone||jA ops i !=jA ops j)&&
 ((List.range ops.size).all λi=>((ops[i]?).map λo=>o.after.all λe=> !Region.binds md e||decide (e.on<i)).getD true)&&
 ((List.range ops.size).all λi=>decide ((kh.getD i []).Nodup)&&(kh.getD i []).all λj=>mJ md ops i j)&&
 ((List.range ops.size).all λi=>(List.range ops.size).all λk=>(kh.getD i []).contains k||((ops[i]?).map λo=>match jA ops k with|none=>true|some d=> !(o.looksAt ops).contains d).getD true||mJ md ops k i)&&
 ((!kF||decide (0<ops.size))&&(!kF||(List.range (ops.size-1)).all λj=>mJ md ops (ops.size-1) j))
theorem wN{d:Tmp}(h:jA ops i=some d):i<ops.size:=by
 rcases D5 i ops.size with o|o
 .exact o
 .unfold jA at h;rw[Y_ o]at h
  cases h
theorem wu(h:Bu md ops kh kF=true):Cj md ops (λi=>kh.getD i []) kF:=by
 unfold Bu at h;simp only[Ec]at h;obtain⟨⟨⟨⟨⟨h1,h2⟩,h3⟩,aw⟩,ax⟩,bA,aY⟩:=h;refine⟨h1,?_,?_,?_,?_,?_,?_,?_⟩
 .intro i j d hi hj
  have:=Ei.1 (Ei.1 h2 i (Ep.2 (wN hi))) j (Ep.2 (wN hj))
  rw[hi,hj]at this
  simpa using this
 .intro i o ho e he hb
  have:=Ei.1 h3 i (Ep.2 (Ew.1 ho).1)
  rw[ho]at this;simp only[F5,EW]at this
  have:=(FN.1 this) e he
  rw[hb]at this
  simpa using this
 .intro i hi
  have:=Ei.1 aw i (Ep.2 hi)
  simp only[Ec,EP]at this;exact this.1
 .intro i hi j hj
  have:=Ei.1 aw i (Ep.2 hi)
  simp only[Ec]at this;exact pC (Ei.1 this.2 j hj)
 .intro i o ho k d hk hd
  have:=Ei.1 (Ei.1 ax i (Ep.2 (Ew.1 ho).1)) k (Ep.2 (wN hk))
  rw[ho,hk]at this;simp only[F5,EW,FL,Bool.not_eq_true']at this
  rcases this with(h|h)|h
  .exact .inl (by simpa using h)
  .rw[List.contains_iff_mem.2 hd]at h
   cases h
  .exact .inr (pC h)
 .intro hl;rw[hl]at bA
  simpa using bA
 .intro hl j hj;rw[hl]at aY;simp only[Bool.not_true,FM]at aY;exact pC (Ei.1 aY j (Ep.2 o_))
def rO(P:Program)(ops:Array Oper)(Q:Exit->Act->World->Prop)(a0:Act)(S:(Nat->Bool)->(Nat->Value)->World->Prop)(T:(Nat->Value)->World->Prop){G:Nat->World->World->Prop}(p:Nat->SU G)(kh:List (List Nat))(kF:Bool)(i:Nat):Prop:=
 ∀o,ops[i]?=some o->∀f vs w,f i=false->(∀j∈kh.getD i [],f j=true)->S f vs w->mO p vs w (kh.getD i [])->wpOp P ops Q i (λb w'=>∃v,b=(oC ops vs (kh.getD i []) a0).put o.dst v/\xA (kF&&i+1==ops.size) (∀u,T (rU vs i u) w') (S (λj=>j==i||f j) (rU vs i v) w'/\G i w w'/\(p i).U vs v w')) (oC ops vs (kh.getD i []) a0) w
def rQ(p:Nat->Prop)(k:Nat):Nat->Prop
 |0=>True
 |n+1=>p k/\rQ p (k+1) n
theorem rQ.get{p:Nat->Prop}:∀(n k:Nat),rQ p k n->∀i,k<=i->i<k+n->p i
 |0,_,_,_,h1,h2=>by omega
 |n+1,k,h,i,h1,h2=>by
  rcases Nat.eq_or_lt_of_le h1 with rfl|h3
  .exact h.1
  .exact rQ.get n (k+1) h.2 i h3 o_
theorem BB{p:List (SU G)}{b:SU G}{n:Nat}(h:((List.range n).all λi=>(p.getD i b).dp.all λj=>(kh.getD i []).contains j)=true)(g:b.dp=[])(hn:p.length=n):∀i,∀j∈(p.getD i b).dp,j∈kh.getD i []:=by
 intro i j hj
 rcases D5 i n with hi|hi
 .have:=Ei.1 (Ei.1 h i (Ep.2 hi)) j hj
  simpa using this
 .rw[List.getD_eq_getElem?_getD,Eh o_,FQ,g]at hj
  cases hj
theorem BA{p:List (SU G)}{b:SU G}(h:((List.range ops.size).all λj=>(p.getD j b).ex.all λi=>i==j||mJ md ops j i)=true):∀j,j<ops.size->∀i∈(p.getD j b).ex,i=j∨k4 md ops 16 j i=true:=λj hj i hi=>by
 have:=Ei.1 (Ei.1 h j (Ep.2 hj)) i hi
 simp only[FL,beq_iff_eq]at this;exact this.imp id pC
def k5(vs:Nat->Value):List (Option Tmp × Nat)->Act->Act
 |[],a=>a
 |p::l,a=>k5 vs l (a.put p.1 (vs p.2))
theorem b_:(∀ (vs:Nat->Value) (d:Option Tmp) (j:Nat) (ds:List (Option Tmp × Nat)) (a:Act),k5 vs ((d,j)::ds) a=k5 vs ds (a.put d (vs j))) /\ (∀ (vs:Nat->Value) (a:Act),k5 vs [] a=a) /\ (∀ (a:Act) (i:Tmp) (v:Value),a.put (some i) v=⟨a.tmps.setIfInBounds i v,a.defers⟩) /\ (∀ (a:Act) (v:Value),a.put none v=a) /\
 (∀ {α:Type} (l:List α) (i:Nat) (a:α),l.toArray.setIfInBounds i a=(l.set i a).toArray) /\ (∀ {α:Type} (x y:α) (l:List α),(x::l).set 0 y=y::l) /\ (∀ {α:Type} (x y:α) (l:List α) (i:Nat),(x::l).set (i+1) y=x::l.set i y):=by
 refine⟨λ_ _ _ _ _=>?_,λ_ _=>rfl,λ_ _ _=>rfl,λ_ _=>rfl,λ_ _ _=>by simp,λ_ _ _=>rfl,λ_ _ _ _=>rfl⟩
 rfl
theorem oB(ops:Array Oper)(vs:Nat->Value):∀(l:List Nat) (a:Act),oC ops vs l a=k5 vs (l.map λi=>(jA ops i,i)) a
 |[],_=>rfl
 |_::l,_=>oB ops vs l _
theorem nS(S:(Nat->Bool)->(Nat->Value)->World->Prop)(T:(Nat->Value)->World->Prop)(G:Nat->World->World->Prop)(p:List (SU G))(b:SU G)(kh:List (List Nat))(kF:Bool)(dA:List (Option Tmp × Nat)){id:Nat}(Y:P.follows .mixedOrders=true)(hc:Bu .any l.toArray kh kF=true)(U:((List.range l.length).map λi=>(jA l.toArray i,i))=dA)(ah:∀c t t' d w,Q (.panic c) ⟨t,d⟩ w->Q (.panic c) ⟨t',d⟩ w)(y:((List.range l.length).all λi=>(p.getD i b).dp.all λj=>(kh.getD i []).contains j)=true)(g:b.dp=[])(e:p.length=l.length)(z:((List.range l.toArray.size).all λj=>(p.getD j b).ex.all λi=>i==j||mJ .any l.toArray j i)=true)(C:∀vs,S (λ_=>false) vs w.drew)(H:rQ (rO P l.toArray Q a S T (λi=>p.getD i b) kh kF) 0 l.length)(x:∀f vs w',(∀j,j<l.length->f j=true)->xA kF (T vs w') (S f vs w'/\mO (λi=>p.getD i b) vs w' (List.range l.length))->Q .normal (k5 vs dA a) w'):(Code.region id l.toArray true).wp P Q a w:=by
 refine wp_region_any Y ?_
 have hz:l.toArray.size=l.length:=by simp
 refine yY (wu hc) ah (BB y g e) (BA z) (λi o ho=>rQ.get _ _ H i (N_ _) (by have:=(Ew.1 ho).1;omega) o ho) (by rw[hz];intro f vs w' hf h1;rw[oB,U];exact x f vs w' hf h1) _ _ (λ_=>undef) a _ ?_ s_ ?_ ?_ (.inr ⟨?_,by(have he:(λj=>(Array.replicate l.toArray.size false).getD j false)=(λ_=>false):=by(funext j;rw[Z_,Fn];split<;>rfl));rw[he];exact C _,?_⟩)
 .intro k ok hk hl
  exfalso
  have aj:=(Ew.1 hk).1;rw[Z_,Fn,Q_ aj]at hl
  cases hl
 .refine F_ (Em _ _) ?_;simp
 .refine(sa.refl a _).congr (λj=>?_) (λ_ _=>rfl);rw[Z_,Fn];split<;>rfl
 .rintro⟨hl,cW⟩;have h0:=(wu hc).some hl
  have:=cW 0 h0
  rw[Z_,Fn,Q_ h0]at this
  cases this
 .intro j hj;rw[Z_,Fn]at hj;split at hj<;>cases hj
theorem nT(S:(Nat->Bool)->World->Prop)(T:(Nat->Value)->World->Prop)(G:Nat->World->World->Prop)(p:List (SU G))(b:SU G)(kh:List (List Nat))(kF:Bool)(dA:List (Option Tmp × Nat)){id:Nat}(Y:P.follows .mixedOrders=true)(hc:Bu .any l.toArray kh kF=true)(U:((List.range l.length).map λi=>(jA l.toArray i,i))=dA)(ah:∀c t t' d w,Q (.panic c) ⟨t,d⟩ w->Q (.panic c) ⟨t',d⟩ w)(y:((List.range l.length).all λi=>(p.getD i b).dp.all λj=>(kh.getD i []).contains j)=true)(g:b.dp=[])(e:p.length=l.length)(z:((List.range l.toArray.size).all λj=>(p.getD j b).ex.all λi=>i==j||mJ .any l.toArray j i)=true)(C:S (λ_=>false) w.drew)(H:rQ (rO P l.toArray Q a (λf _=>S f) T (λi=>p.getD i b) kh kF) 0 l.length)(x:∀f vs w',(∀j,j<l.length->f j=true)->xA kF (T vs w') (S f w'/\mO (λi=>p.getD i b) vs w' (List.range l.length))->Q .normal (k5 vs dA a) w'):(Code.region id l.toArray true).wp P Q a w:=
 nS (λf _=>S f) T G p b kh kF dA Y hc U ah y g e z (λ_=>C) H x
theorem j8(T:(Nat->Value)->World->Prop)(G:World->World->Prop)(p:List (SU (λ_=>G)))(b:SU (λ_=>G))(kh:List (List Nat))(kF:Bool)(dA:List (Option Tmp × Nat)){id:Nat}(Y:P.follows .mixedOrders=true)(hc:Bu .any l.toArray kh kF=true)(U:((List.range l.length).map λi=>(jA l.toArray i,i))=dA)(ah:∀c t t' d w,Q (.panic c) ⟨t,d⟩ w->Q (.panic c) ⟨t',d⟩ w)(y:((List.range l.length).all λi=>(p.getD i b).dp.all λj=>(kh.getD i []).contains j)=true)(g:b.dp=[])(e:p.length=l.length)(z:((List.range l.toArray.size).all λj=>(p.getD j b).ex.all λi=>i==j||mJ .any l.toArray j i)=true)(C:S w.drew)(H:rQ (rO P l.toArray Q a (λ_ _=>S) T (λi=>p.getD i b) kh kF) 0 l.length)(x:∀vs w',xA kF (T vs w') (S w'/\mO (λi=>p.getD i b) vs w' (List.range l.length))->Q .normal (k5 vs dA a) w'):(Code.region id l.toArray true).wp P Q a w:=
 nT (λ_=>S) T (λ_=>G) p b kh kF dA Y hc U ah y g e z C H (λ_ vs w' _ h=>x vs w' h)
theorem pa(hb:∀i o,ops[i]?=some o->∀e∈o.after,Region.binds md e=true->e.on<i):∀(f j i:Nat),k4 md ops f j i=true->i<j
 |0,_,_,h=>by cases h
 |f+1,j,i,h=>by
  unfold k4 at h
  cases ho:ops[j]? with
  |none=>rw[ho]at h;cases h
  |some oj=>
   rw[ho]at h;simp only at h;obtain⟨q,aq,J⟩:=FZ.1 h;simp only[Ec,FL,beq_iff_eq]at J;have h1:=hb j oj ho _ (Array.getElem_mem aq) J.1
   rcases J.2 with h2|h2
   .omega
   .have:=pa hb f _ i h2
    omega
theorem yX{S:(Nat->Bool)->(Nat->Value)->World->Prop}{T:(Nat->Value)->World->Prop}{p:Nat->SU G}{kh:Nat->List Nat}(hc:Cj md ops kh kF)(ah:∀c t t' d w,Q (.panic c) ⟨t,d⟩ w->Q (.panic c) ⟨t',d⟩ w)(y:∀i,∀j∈(p i).dp,j∈kh i)(z:∀j,j<ops.size->∀i∈(p j).ex,i=j∨k4 md ops 16 j i=true)(H:∀i o,ops[i]?=some o->∀f vs w,f i=false->(∀j∈kh i,f j=true)->S f vs w->mO p vs w (kh i)->wpOp P ops Q i (λb w'=>∃v,b=(oC ops vs (kh i) a0).put o.dst v/\xA (kF&&i+1==ops.size) (∀u,T (rU vs i u) w') (S (λj=>j==i||f j) (rU vs i v) w'/\G i w w'/\(p i).U vs v w')) (oC ops vs (kh i) a0) w)(x:∀f vs w,(∀j,j<ops.size->f j=true)->xA kF (T vs w) (S f vs w/\mO p vs w (List.range ops.size))->Q .normal (oC ops vs (List.range ops.size) a0) w):
 ∀(m k:Nat) (vs:Nat->Value) (a:Act) (w:World),k+m=ops.size->sa ops a0 (λj=>decide (j<k)) vs a->xA (kF&&k==ops.size) (T vs w) (S (λj=>decide (j<k)) vs w/\∀j,j<k->(p j).U vs (vs j) w)->wpOps P ops Q (List.range' k m) a w:=by
 intro m
 induction m with
 |zero=>
  intro k vs a w hk ai C;have h1:=(sa.refl (ops:=ops) a0 vs).oC hc.yx (List.range ops.size) a0 _ (λ_ _=>rfl) List.nodup_range
  have h2:=ai.congr (g:=λj=>(List.range ops.size).contains j||false) (us:=vs) (λj=>by
   have:k=ops.size:=by omega
   subst this
   simp) (λ_ _=>rfl)
  show Q .normal a w
  rw[h2.ext h1]
  have aK:k=ops.size:=by omega
  refine x (λj=>decide (j<k)) vs w (λj hj=>by simp;omega) ?_;rw[aK]at C
  cases I:kF with
  |true=>rw[I]at C;simpa[xA]using C
  |false=>
   rw[I]at C;have C:S _ vs w/\∀j,j<ops.size->(p j).U vs (vs j) w:=C;exact⟨by rw[aK];exact C.1,mO.of λj hj=>C.2 j (Ep.1 hj)⟩
 |succ m ad=>
  intro k vs a w hk ai C;rw[List.range'_succ,wpOps_cons]
  have aj:k<ops.size:=by omega
  obtain⟨o,ho⟩:∃o,ops[k]?=some o:=⟨_,D7 aj⟩
  have av:(kF&&k==ops.size)=false:=by
   have:(k==ops.size)=false:=by simp;omega
   rw[this,Bool.and_false]
  rw[av]at C;obtain⟨C,O⟩:S (λj=>decide (j<k)) vs w/\∀j,j<k->(p j).U vs (vs j) w:=C
  have bW:=λj hj=>pa hc.back 16 k j (hc.pre k aj j hj)
  have h1:=H k o ho _ vs w s_ (λj hj=>by simpa using bW j hj) C (mO.of λj hj=>O j (bW j hj));have hP:=(sa.refl (ops:=ops) a0 vs).oC hc.yx (kh k) a0 _ (λ_ _=>rfl) (hc.DK k aj)
  have aQ:∀d∈o.looksAt ops,a.tmps[d]?=(oC ops vs (kh k) a0).tmps[d]?:=by
   intro d hd
   by_cases hj:∃j,j<k/\jA ops j=some d
   .obtain⟨j,B,l⟩:=hj
    have b0:j∈kh k:=by
     rcases hc.look k o ho j d l hd with h|h
     .exact h
     .have:=pa hc.back 16 j k h
      omega
    rcases D5 d a0.tmps.size with aL|bC
    .rw[ai.put j d (by simpa using B) l aL,hP.put j d (by simp[b0]) l aL]
    .rw[Y_ (by rw[ai.size];exact bC),Y_ (by rw[hP.size];exact bC)]
   .have hn:∀j,j<k->jA ops j≠some d:=λj B l=>hj ⟨j,B,l⟩
    rw[ai.ir d (λj hj=>hn j (by simpa using hj)),hP.ir d (λj e=>hn j (bW j (by simpa using e)))]
  have h2:=uO ho (λcs b=>Region.noSelect_spec hc.DJ k o cs b ho) aQ (ai.size.trans hP.size.symm) (ai.defers.trans hP.defers.symm) ah h1;refine wpOp_mono (λb w' hb=>?_) h2;obtain⟨v,rfl,n⟩:=hb
  have A:o.dst=jA ops k:=by unfold jA;rw[ho];rfl
  have K:=ai.add hc.yx k s_ v;rw[<-A]at K;refine ad (k+1) (λj=>if j=k then v else vs j) _ w' o_ (K.congr (λj=>?_) (λ_ _=>rfl)) ?_
  .rw[Bool.eq_iff_iff];simp;omega
  .cases ef:(kF&&k+1==ops.size)with
   |true=>rw[ef]at n;exact n v
   |false=>
    rw[ef]at n;obtain⟨n,J,L⟩:=n;refine⟨by(have he:(λj=>decide (j<k+1))=(λj=>j==k||decide (j<k)):=by(funext j;rw[Bool.eq_iff_iff];simp;omega));rw[he];exact n,λj hj=>?_⟩
    by_cases s:j=k
    .subst s;simp only[if_true];refine(p j).loc vs _ _ _ (λk hk=>?_) L
     have:=bW k (y j k hk)
     have av:k≠j:=by omega
     simp[av]
    .simp only[s,if_false]
     have bF:k∉(p j).ex:=λY=>by
      rcases z j o_ k Y with h|h
      .exact s h.symm
      .have:=pa hc.back 16 j k h
       omega
     refine(p j).loc vs _ _ _ (λq aq=>?_) ((p j).st k bF _ _ _ _ J (O j o_))
     have:=pa hc.back 16 j q (hc.pre j o_ q (y j q aq))
     have av:q≠k:=by omega
     simp[av]
theorem tq(S:(Nat->Bool)->(Nat->Value)->World->Prop)(T:(Nat->Value)->World->Prop)(G:Nat->World->World->Prop)(p:List (SU G))(b:SU G)(kh:List (List Nat))(kF:Bool)(dA:List (Option Tmp × Nat)){id:Nat}(hc:Bu .any l.toArray kh kF=true)(U:((List.range l.length).map λi=>(jA l.toArray i,i))=dA)(ah:∀c t t' d w,Q (.panic c) ⟨t,d⟩ w->Q (.panic c) ⟨t',d⟩ w)(y:((List.range l.length).all λi=>(p.getD i b).dp.all λj=>(kh.getD i []).contains j)=true)(g:b.dp=[])(e:p.length=l.length)(z:((List.range l.toArray.size).all λj=>(p.getD j b).ex.all λi=>i==j||mJ .any l.toArray j i)=true)(C:∀vs,S (λ_=>false) vs w)(H:rQ (rO P l.toArray Q a S T (λi=>p.getD i b) kh kF) 0 l.length)(x:∀f vs w',(∀j,j<l.length->f j=true)->xA kF (T vs w') (S f vs w'/\mO (λi=>p.getD i b) vs w' (List.range l.length))->Q .normal (k5 vs dA a) w'):(Code.region id l.toArray false).wp P Q a w:=by
 refine wp_region ?_
 have hz:l.toArray.size=l.length:=by simp
 have bL:=wu hc;rw[List.range_eq_range'];refine yX bL ah (BB y g e) (BA z) (λi o ho=>rQ.get _ _ H i (N_ _) (by have:=(Ew.1 ho).1;omega) o ho) (by rw[hz];intro f vs w' hf h1;rw[oB,U];exact x f vs w' hf h1) l.toArray.size 0 (λ_=>undef) a w o_ ?_ ?_
 .exact(sa.refl a _).congr (λj=>by simp) (λ_ _=>rfl)
 .cases hl:kF with
  |false=>exact⟨by simpa using C _,λj hj=>by omega⟩
  |true=>
   have h0:=bL.some hl
   have:((0:Nat)==l.toArray.size)=false:=by simp at h0 |-;intro h;omega
   rw[this];exact⟨by simpa using C _,λj hj=>by omega⟩
theorem pN(S:(Nat->Bool)->World->Prop)(T:(Nat->Value)->World->Prop)(G:Nat->World->World->Prop)(p:List (SU G))(b:SU G)(kh:List (List Nat))(kF:Bool)(dA:List (Option Tmp × Nat)){id:Nat}(hc:Bu .any l.toArray kh kF=true)(U:((List.range l.length).map λi=>(jA l.toArray i,i))=dA)(ah:∀c t t' d w,Q (.panic c) ⟨t,d⟩ w->Q (.panic c) ⟨t',d⟩ w)(y:((List.range l.length).all λi=>(p.getD i b).dp.all λj=>(kh.getD i []).contains j)=true)(g:b.dp=[])(e:p.length=l.length)(z:((List.range l.toArray.size).all λj=>(p.getD j b).ex.all λi=>i==j||mJ .any l.toArray j i)=true)(C:S (λ_=>false) w)(H:rQ (rO P l.toArray Q a (λf _=>S f) T (λi=>p.getD i b) kh kF) 0 l.length)(x:∀f vs w',(∀j,j<l.length->f j=true)->xA kF (T vs w') (S f w'/\mO (λi=>p.getD i b) vs w' (List.range l.length))->Q .normal (k5 vs dA a) w'):(Code.region id l.toArray false).wp P Q a w:=
 tq (λf _=>S f) T G p b kh kF dA hc U ah y g e z (λ_=>C) H x
theorem iF(T:(Nat->Value)->World->Prop)(G:World->World->Prop)(p:List (SU (λ_=>G)))(b:SU (λ_=>G))(kh:List (List Nat))(kF:Bool)(dA:List (Option Tmp × Nat)){id:Nat}(hc:Bu .any l.toArray kh kF=true)(U:((List.range l.length).map λi=>(jA l.toArray i,i))=dA)(ah:∀c t t' d w,Q (.panic c) ⟨t,d⟩ w->Q (.panic c) ⟨t',d⟩ w)(y:((List.range l.length).all λi=>(p.getD i b).dp.all λj=>(kh.getD i []).contains j)=true)(g:b.dp=[])(e:p.length=l.length)(z:((List.range l.toArray.size).all λj=>(p.getD j b).ex.all λi=>i==j||mJ .any l.toArray j i)=true)(C:S w)(H:rQ (rO P l.toArray Q a (λ_ _=>S) T (λi=>p.getD i b) kh kF) 0 l.length)(x:∀vs w',xA kF (T vs w') (S w'/\mO (λi=>p.getD i b) vs w' (List.range l.length))->Q .normal (k5 vs dA a) w'):(Code.region id l.toArray false).wp P Q a w:=
 pN (λ_=>S) T (λ_=>G) p b kh kF dA hc U ah y g e z C H (λ_ vs w' _ h=>x vs w' h)
theorem hH{S:World->Prop}{T:(Nat->Value)->World->Prop}{G:World->World->Prop}{p:Nat->SU (λ_=>G)}{r:List Oper}(ds:List (Option Tmp × Nat))(h:∀vs w,S w->mO p vs w (kh.getD i [])->∀e:Act->World->Prop,Shut (∀v w',S w'->G w w'->(p i).U vs v w'->e ((k5 vs ds a0).put o.dst v) w')->
   if Region.wanted o (yielded l.toArray (k5 vs ds a0).tmps)=true then Oper.wp P o (k5 vs ds a0) w e Q else e ((k5 vs ds a0).put o.dst undef) w)(hl:(kF&&i+1==l.length)=false:=by rfl)(ho:l.drop i=o::r:=by rfl)(hd:((kh.getD i []).map λj=>(jA l.toArray j,j))=ds:=by kernel_rfl):
 rO P l.toArray Q a0 (λ_ _=>S) T p kh kF i:=by
 intro c a f vs w hf hp C O;rw[ju ho]at a;injection a with a;subst a;have h1:=h vs w C O;exact KW
theorem i3{S:(Nat->Bool)->World->Prop}{T:(Nat->Value)->World->Prop}{p:Nat->SU G}{r:List Oper}(ds:List (Option Tmp × Nat))(h:∀f vs w,f i=false->S f w->mO p vs w (kh.getD i [])->∀e:Act->World->Prop,Shut (∀v w',S (λj=>j==i||f j) w'->G i w w'->(p i).U vs v w'->e ((k5 vs ds a0).put o.dst v) w')->
   if Region.wanted o (yielded l.toArray (k5 vs ds a0).tmps)=true then Oper.wp P o (k5 vs ds a0) w e Q else e ((k5 vs ds a0).put o.dst undef) w)(hl:(kF&&i+1==l.length)=false:=by rfl)(ho:l.drop i=o::r:=by rfl)(hd:((kh.getD i []).map λj=>(jA l.toArray j,j))=ds:=by kernel_rfl):
 rO P l.toArray Q a0 (λf _=>S f) T p kh kF i:=by
 intro c a f vs w hf hp C O;rw[ju ho]at a;injection a with a;subst a;have h1:=h f vs w hf C O;exact KW
theorem jC{S:(Nat->Bool)->(Nat->Value)->World->Prop}{T:(Nat->Value)->World->Prop}{p:Nat->SU G}{r:List Oper}(ds:List (Option Tmp × Nat))(h:∀f vs w,f i=false->(∀j∈kh.getD i [],f j=true)->S f vs w->mO p vs w (kh.getD i [])->∀e:Act->World->Prop,Shut (∀v w',S (λj=>j==i||f j) (rU vs i v) w'->G i w w'->(p i).U vs v w'->e ((k5 vs ds a0).put o.dst v) w')->
   if Region.wanted o (yielded l.toArray (k5 vs ds a0).tmps)=true then Oper.wp P o (k5 vs ds a0) w e Q else e ((k5 vs ds a0).put o.dst undef) w)(hl:(kF&&i+1==l.length)=false:=by rfl)(ho:l.drop i=o::r:=by rfl)(hd:((kh.getD i []).map λj=>(jA l.toArray j,j))=ds:=by kernel_rfl):
 rO P l.toArray Q a0 S T p kh kF i:=by
 intro c a f vs w hf hp C O;rw[ju ho]at a;injection a with a;subst a;have h1:=h f vs w hf hp C O;exact KW
theorem jf{S:World->Prop}{T:(Nat->Value)->World->Prop}{G:World->World->Prop}{p:Nat->SU (λ_=>G)}{r:List Oper}(ds:List (Option Tmp × Nat))(h:∀vs w,S w->mO p vs w (kh.getD i [])->∀e:Act->World->Prop,Shut (∀v w',(∀u,T (rU vs i u) w')->e ((k5 vs ds a0).put o.dst v) w')->
   if Region.wanted o (yielded l.toArray (k5 vs ds a0).tmps)=true then Oper.wp P o (k5 vs ds a0) w e Q else e ((k5 vs ds a0).put o.dst undef) w)(hl:(kF&&i+1==l.length)=true:=by rfl)(ho:l.drop i=o::r:=by rfl)(hd:((kh.getD i []).map λj=>(jA l.toArray j,j))=ds:=by kernel_rfl):
 rO P l.toArray Q a0 (λ_ _=>S) T p kh kF i:=by
 intro c a f vs w hf hp C O;rw[ju ho]at a;injection a with a;subst a;have h1:=h vs w C O;exact KX
theorem u3{S:(Nat->Bool)->World->Prop}{T:(Nat->Value)->World->Prop}{p:Nat->SU G}{r:List Oper}(ds:List (Option Tmp × Nat))(h:∀f vs w,f i=false->S f w->mO p vs w (kh.getD i [])->∀e:Act->World->Prop,Shut (∀v w',(∀u,T (rU vs i u) w')->e ((k5 vs ds a0).put o.dst v) w')->
   if Region.wanted o (yielded l.toArray (k5 vs ds a0).tmps)=true then Oper.wp P o (k5 vs ds a0) w e Q else e ((k5 vs ds a0).put o.dst undef) w)(hl:(kF&&i+1==l.length)=true:=by rfl)(ho:l.drop i=o::r:=by rfl)(hd:((kh.getD i []).map λj=>(jA l.toArray j,j))=ds:=by kernel_rfl):
 rO P l.toArray Q a0 (λf _=>S f) T p kh kF i:=by
 intro c a f vs w hf hp C O;rw[ju ho]at a;injection a with a;subst a;have h1:=h f vs w hf C O;exact KX
theorem u2{S:(Nat->Bool)->(Nat->Value)->World->Prop}{T:(Nat->Value)->World->Prop}{p:Nat->SU G}{r:List Oper}(ds:List (Option Tmp × Nat))(h:∀f vs w,f i=false->(∀j∈kh.getD i [],f j=true)->S f vs w->mO p vs w (kh.getD i [])->∀e:Act->World->Prop,Shut (∀v w',(∀u,T (rU vs i u) w')->e ((k5 vs ds a0).put o.dst v) w')->
   if Region.wanted o (yielded l.toArray (k5 vs ds a0).tmps)=true then Oper.wp P o (k5 vs ds a0) w e Q else e ((k5 vs ds a0).put o.dst undef) w)(hl:(kF&&i+1==l.length)=true:=by rfl)(ho:l.drop i=o::r:=by rfl)(hd:((kh.getD i []).map λj=>(jA l.toArray j,j))=ds:=by kernel_rfl):
 rO P l.toArray Q a0 S T p kh kF i:=by
 intro c a f vs w hf hp C O;rw[ju ho]at a;injection a with a;subst a;have h1:=h f vs w hf hp C O;exact KX
theorem iL{c A B:Prop}[Decidable c](hc:c)(h:A):if c then A else B:=by rw[Q_ hc];exact h
theorem h4{K:Act->World->Prop}(ty:TypeId)(x y:Operand)(ho:o.op=.store ty x y)(g:Nat)(I:a.eval x=q_ g)(vs:Array Value)(hy:a.eval y=.agg vs)(t:TypeId)(cs:Array Value)(hB:Bk w g t cs)(hs:vs.size=cs.size)(hi:(P.info? ty).map (·.size)=some vs.size)(h1:vs.all (·.oneCell')=true)(h:∀w',Bk w' g t vs->Gr [g] w w'->K (a.put o.dst undef) w'):o.wp P a w K Q:=
 jq ty x y ho g 0 I vs hy t cs hB o_ hi h1 λw' h2 h3=>h w' (by rw[ql cs vs hs]at h2;exact h2) h3
def SU.val(G:World->World->Prop)(v0:Value):SU (λ_=>G):=SU.of (λv _=>v=v0) (λ_ _ _ _ h=>h)
def SU.num(G:World->World->Prop)(lo hi:Int):SU (λ_=>G):=SU.of (λv _=>∃r:Int,v=i_ r/\lo<=r/\r<hi) (λ_ _ _ _ h=>h)
def SU.yC{M:List Nat}{lo:Nat}(z:∀y∈M,y<lo)(t:TypeId)(cs:Array Value)(n:Nat):SU (λ_=>Gr M):=
 SU.of (λv w=>∃x,v=.slice (j_ x) n n/\lo<=x/\Bk w x t cs) (λ_ _ _ hg⟨x,h1,h2,h3⟩=>⟨x,h1,h2,h3.gr hg (λY=>by have:=z x Y;omega)⟩)
def SU.elem{M:List Nat}{lo:Nat}(z:∀y∈M,y<lo)(t:TypeId)(cs:Array Value)(n:Nat):SU (λ_=>Gr M):=
 SU.of (λv w=>∃x k:Nat,v=.pointer (some (c_ x k))/\k<n/\lo<=x/\Bk w x t cs) (λ_ _ _ hg⟨x,k,h1,hk,h2,h3⟩=>⟨x,k,h1,hk,h2,h3.gr hg (λY=>by have:=z x Y;omega)⟩)
def SU.pure(G:World->World->Prop)(U:Value->Prop):SU (λ_=>G):=SU.of (λv _=>U v) (λ_ _ _ _ h=>h)
def SU.any(G:World->World->Prop):SU (λ_=>G):=SU.of (λ_ _=>True) (λ_ _ _ _ h=>h)
def SU.anyI(G:Nat->World->World->Prop):SU G:=SU.yI [] (λ_ _=>True) (λ_ _ _ _ _ _ h=>h)
def SU.l4(G:Nat->World->World->Prop)(v0:Value):SU G:=SU.yI [] (λv _=>v=v0) (λ_ _ _ _ _ _ h=>h)
def SU.less{G H:World->World->Prop}(h:∀a b,H a b->G a b)(s:SU (λ_=>G)):SU (λ_=>H):=⟨s.U,s.ex,λi hi vs v w w' hg hu=>s.st i hi vs v w w' (h _ _ hg) hu,s.dp,s.loc⟩
end
theorem ET.one(t:ET):t.g8.all (·.oneCell')=true:=by unfold ET.g8;simp[Value.oneCell']
def pp(n:Int)(A:Option Addr)(a:ET):ET:=.mk 4 n ByteArray.empty 0 A 1 [a]
inductive EG(V:List ByteArray):Nat->ET->Prop
 |num (d:Nat) (n:Int) (h0: -10<=n) (h1:n<=10):EG V d (jj n)
 |var (d:Nat) (s:ByteArray) (h:s∈V):EG V d (jl s)
 |new (d:Nat) (n:Int) (h0:0<=n) (h1:n<=3):EG V d (eNew n)
 |field (d:Nat) (n:Int) (A:Option Addr) (s:ByteArray) (h0:0<=n) (h1:n<=2) (h:s∈V):EG V (d+1) (pp n A (jl s))
 |bin (d:Nat) (o:Int) (A:Option Addr) (a b:ET) (h0:1<=o) (h1:o<=11) (ha:EG V d a) (hb:EG V d b):EG V (d+1) (pK o A a b)
structure Ex(B g m R:Nat)(tr:TypeId)(mc zc:Array Value)(W w:World):Prop where
 d:iE w B g
 m:Bk w m 222 mc
 r:Bk w R tr zc
 g:Gr [g] W w
theorem Ex.step{B g m R:Nat}{mc zc:Array Value}{W w':World}(h:Ex B g m R tr mc zc W w)(hg:Gr [g] w w')(hd:iE w' B g)(h1:m≠g)(h2:R≠g):Ex B g m R tr mc zc W w':=
 ⟨hd,h.m.gr hg (by simpa using h1),h.r.gr hg (by simpa using h2),h.g.trans hg⟩
theorem Ex.g_{B g m R:Nat}{mc zc:Array Value}{W w':World}(h:Ex B g m R tr mc zc W w)(hg:Gr [] w w'):Ex B g m R tr mc zc W w':=
 ⟨h.d.g_ hg,h.m.g_ hg,h.r.g_ hg,h.g.trans (hg.mono s_)⟩
def SU.tree{M:List Nat}{lo:Nat}(z:∀y∈M,y<lo)(d:Nat):SU (λ_=>Gr M):=
 SU.of (λv w=>∃t:ET,v=.agg t.g8/\kc (jp lo) w t/\EG hI d t) (λ_ _ _ hg⟨t,h1,h2,h3⟩=>⟨t,h1,h2.h7 hg (λx I=>EH.2 (z x I)),h3⟩)
theorem BM(i:Int)(h0:0<=i)(h1:i<2):∃s,s∈hI/\(#[.string {data:=#[112]},.string {data:=#[113]}]:Array Value)[i.toNat]?=some (.string s):=by
 obtain⟨k,rfl⟩:∃k:Nat,i=k:=⟨i.toNat,by omega⟩
 match k,h1 with
 |0,_=>exact⟨oW,by simp[hI],rfl⟩
 |1,_=>exact⟨mH,by simp[hI],rfl⟩
theorem Gr.sR{g R:Nat}{a b c:World}(h:Gr [g] a b)(k:Gr [R] b c)(hR:a.heap.size<=R):Gr [g] a c:=h.hx k (by intro x I;right;simp at I;omega)
theorem kq(B g m:Nat)(left loops fn:Int)(d:Nat)(aR:d<=100):∀(D:Int) (_:D=d) (w:World) (_:iE w B g) (_:Bk w m 222 #[q_ g,i_ left,i_ loops,i_ fn]) (_:B<=m),
 Calls prog 140 #[q_ m,i_ D] w λe w'=>∃t,e=.returned (.agg t.g8)/\kc (jp w.heap.size) w' t/\EG hI d t/\iE w' B g/\Gr [g] w w':=by
 induction d with
 |zero=>
  intro D hD w hd Y hBm;have a8:=hd.vl;have cv:=Y.lt;have R:D=0:=hD;subst R;clear hD
  go_enter func140,ntmps140
  go_upto_region 1 with fail
  have aV:Gr [] w (w.alloc (.cells E_ 226)):=(D_ [] w).alloc _;replace hd:=hd.g_ aV;replace Y:=Y.g_ aV;have hR:=L_ w 226 E_;have J:Gr [g] w (w.alloc (.cells E_ 226)):=(D_ [g] w).alloc _;clear aV;obtain⟨bm,b3⟩:=nm_ (w.alloc (.cells E_ 226));rw[<-b3]at hd Y hR J |-;clear b3;obtain⟨R0,cn⟩:=nm_ w.heap.size;rw[<-cn]at hR |-
  have di:w.heap.size<=R0:=by omega
  have cI:g<R0:=by omega
  have j:B<=R0:=by omega
  have cR:m<R0:=by have:=cv;omega
  clear cn;have Z:=Y.f_ 0
  go_upto_region 2 with(go_at_call 19;refine(h8 B g 12 _ hd o_ o_).mono ?_;rintro e w1⟨k,rfl,b8,bW,bt,aO⟩)
  replace Y:=Y.gr aO p_;replace hR:=hR.gr aO p_;replace J:=J.trans aO;replace hd:=bt;clear aO Z;have Z:=Y.f_ 0
  by_cases aw:k<4
  .exact GJ
  by_cases aU:k<8
  .exact Gg
  .exact Gg
 |succ d ad=>
  intro D hD w hd Y hBm;have a8:=hd.vl;have cv:=Y.lt
  have aB:(D==0)=false:=by simp;omega
  have aC:¬D=0:=by omega
  have ay:IntKind.i64.wrap (D-1)=D-1:=Eg _ o_;have b5:=h_ (show D-1=d by omega);clear hD
  go_enter func140,ntmps140
  go_upto_region 1 with fail
  have aV:Gr [] w (w.alloc (.cells E_ 226)):=(D_ [] w).alloc _;replace hd:=hd.g_ aV;replace Y:=Y.g_ aV;have hR:=L_ w 226 E_;have J:Gr [g] w (w.alloc (.cells E_ 226)):=(D_ [g] w).alloc _;clear aV;obtain⟨bm,b3⟩:=nm_ (w.alloc (.cells E_ 226));rw[<-b3]at hd Y hR J |-;clear b3;obtain⟨R0,cn⟩:=nm_ w.heap.size;rw[<-cn]at hR |-
  have di:w.heap.size<=R0:=by omega
  have cI:g<R0:=by omega
  have j:B<=R0:=by omega
  have cR:m<R0:=by have:=cv;omega
  clear cn;have Z:=Y.f_ 0
  go_upto_region 2 with(go_at_call 19;refine(h8 B g 12 _ hd o_ o_).mono ?_;rintro e w1⟨k,rfl,b8,bW,bt,aO⟩)
  replace Y:=Y.gr aO p_;replace hR:=hR.gr aO p_;replace J:=J.trans aO;replace hd:=bt;clear aO Z;have Z:=Y.f_ 0
  by_cases aw:k<4
  .exact GJ
  by_cases aU:k<8
  .exact Gg
  by_cases eD:k=8
  .subst eD
   go_upto_region 7 with fail
   obtain⟨W,aM⟩:=nm_ w1;rw[<-aM]at hd Y hR J |-;clear aM Z
   have aN:∀y∈[g,R0],y<R0+1:=by simp;omega
   have U:m≠g:=by omega
   have aj:R0≠g:=by omega
   have aD:Ex B g m R0 226 #[q_ g,i_ left,i_ loops,i_ fn] E_ W W.drew:=⟨hd.g_ (D_ [] W).drew,Y.g_ (D_ [] W).drew,hR.g_ (D_ [] W).drew,(D_ [g] W).drew⟩;refine j8 (Ex B g m R0 226 #[q_ g,i_ left,i_ loops,i_ fn] E_ W) (λ_ ag=>∃t,Bk ag R0 226 t.g8/\kc (jp (R0+1)) ag t/\EG hI (d+1) t/\iE ag B g/\Gr [g,R0] W ag) (Gr [g,R0]) [SU.val _ (q_ m),SU.val _ (q_ m),SU.val _ (q_ m),SU.val _ (q_ g),SU.num _ 0 3,SU.yC aN 9 #[.string {data:=#[112]},.string {data:=#[113]}] 2,SU.val _ (q_ m),SU.val _ (q_ m),SU.val _ (q_ m),SU.val _ (q_ g),SU.num _ 0 2,SU.elem aN 9 #[.string {data:=#[112]},.string {data:=#[113]}] 2,SU.pure _ (λv=>∃s,s∈hI/\v=.string s),SU.pure _ (λv=>∃s,s∈hI/\v=.agg #[i_ 3,i_ 0,.string s,i_ 0,n_]),SU.of (λv w=>∃x s,s∈hI/\v=.slice (j_ x) 1 1/\R0+1<=x/\Bk w x 226 #[i_ 3,i_ 0,.string s,i_ 0,n_]) (λ_ _ _ hg⟨x,s,h0,h1,h2,h3⟩=>⟨x,s,h0,h1,h2,h3.gr hg (λY=>by have:=aN x Y;omega)⟩),SU.tree aN (d+1),SU.any _] (SU.any _) [[],[0],[1],[2],[3],[],[],[6],[7],[8],[9],[5,10],[11],[12],[13],[4,14],[15]] true [(some 42,0),(some 43,1),(some 44,2),(some 45,3),(some 46,4),(some 47,5),(some 48,6),(some 49,7),(some 50,8),(some 51,9),(some 52,10),(some 53,11),(some 54,12),(some 55,13),(some 56,14),(some 57,15),(none,16)] k_ k_ k_ (λ_ _ _ _ _ h=>h) k_ rfl rfl k_ aD ⟨?_,?_,?_,?_,?_,?_,?_,?_,?_,?_,?_,?_,?_,?_,?_,?_,?_,trivial⟩ ?_
   .exact I4
   .refine hH [(some 42,0)] ?_;exact IP
   .refine hH [(some 43,1)] ?_;exact IP
   .refine hH [(some 44,2)] ?_;exact Ig
   .refine hH [(some 45,3)] ?_;intro vs Q C O K H;obtain⟨o, -⟩:=O;replace o:_=_:=o
    try simp only[b_,o]at H |-
    go_simp
    go_at_call 19
    refine(h8 B g 3 _ C.d o_ o_).mono ?_;exact Jb
   .exact Ih
   .exact I4
   .refine hH [(some 48,6)] ?_;exact IP
   .refine hH [(some 49,7)] ?_;exact IP
   .refine hH [(some 50,8)] ?_;exact Ig
   .refine hH [(some 51,9)] ?_;intro vs Q C O K H;obtain⟨o, -⟩:=O;replace o:_=_:=o
    try simp only[b_,o]at H |-
    go_simp
    go_at_call 19
    refine(h8 B g 2 _ C.d o_ o_).mono ?_;exact Jb
   .refine hH [(some 47,5),(some 52,10)] ?_;exact HJ
   .refine hH [(some 53,11)] ?_;intro vs Q C O K H;obtain⟨⟨a7,E,o,bp,bj,bf⟩, -⟩:=O
    try simp only[b_,o]at H |-
    obtain⟨s,hs,bI⟩:=BM E o_ o_;exact JW
   .refine hH [(some 54,12)] ?_;intro vs Q C O K H;obtain⟨⟨bw,bS,o⟩, -⟩:=O
    try simp only[b_,o]at H |-
    go_simp
    go_at_call 145
    refine(j2 bw _).mono ?_;rintro e w1⟨rfl,hg1⟩;exact H.out _ _ (C.g_ hg1) (hg1.mono s_) ⟨bw,bS,rfl⟩
   .refine hH [(some 55,13)] ?_;intro vs Q C O K H;obtain⟨⟨bw,bS,o⟩, -⟩:=O
    try simp only[b_,o]at H |-
    go_simp;exact H.out _ _ (C.g_ ((D_ [] _).alloc _)) ((D_ _ _).alloc _) ⟨_,bw,bS,rfl,C.r.lt,L_ _ _ _⟩
   .refine hH [(some 46,4),(some 56,14)] ?_;intro vs Q C O K H;obtain⟨⟨aJ,o,cD,bp⟩,⟨aI,sb,mb,ar,cw,bv⟩, -⟩:=O
    try simp only[b_,o,ar]at H |-
    go_simp;exact H.out (.agg (pp aJ (j_ aI) (jl sb)).g8) _ C (D_ _ _) ⟨pp aJ (j_ aI) (jl sb),rfl,.mk _ (i5 (n:=1) bv rfl) (G_ _) (λx off h _=>by injection h with h;injection h with h;omega) (by intro u hu;rcases M_.1 hu with rfl|hu;exact kc.leaf _ _ _ _ _ _;cases hu),EG.field _ _ _ _ o_ o_ mb⟩
   .refine jf [(some 57,15)] ?_;exact Hr
   exact IF
  by_cases A:k=9
  .subst A
   go_upto_region 9 with fail
   go_wp2_with ((go_at_call 19;refine(h8 B g 4 _ hd o_ o_).mono ?_;rintro e w2⟨r,rfl,bu,bD,aZ,F⟩);replace hR:=hR.gr F p_;replace hd:=aZ;replace J:=J.trans F;have bB:=hR.hm 0;have z0:=hR.f_ 0;have bH:=hR.hm 1;have aS:=hR.f_ 1;have bZ:=hR.hm 2;have aX:=hR.f_ 2;have dq:=hR.hm 3;have z3:=hR.f_ 3;have dM:=hR.hm 4;have z4:=hR.f_ 4)
   have az:=(((((hR.hJ 0 (i_ 6)).hJ 1 (i_ r)).hJ 2 (e_)).hJ 3 (i_ 0)).hJ 4 (n_));have G:=((((((D_ [R0] w2).setCell (p:=(c_ R0 0)) (.inl s_) (i_ 6)).setCell (p:=(c_ R0 1)) (.inl s_) (i_ r)).setCell (p:=(c_ R0 2)) (.inl s_) (e_)).setCell (p:=(c_ R0 3)) (.inl s_) (i_ 0)).setCell (p:=(c_ R0 4)) (.inl s_) (n_));exact rr_ (eNew r).g8 az underlying226 ⟨eNew r,rfl,kc.leaf _ _ _ _ _ _,EG.new _ _ o_ o_,hd.h7 G p_,(J.sR G di)⟩
  have cF:(k==8)=false:=by simp;omega
  have aF:(k==9)=false:=by simp;omega
  go_upto_region 10 with fail
  have av:True:=trivial;have i:=hR.lt
  go_wp2_with (first|((go_at_call 19;refine(h8 B g 11 _ hd o_ o_).mono ?_;rintro e w2⟨r,rfl,bu,bD,aZ,F⟩);have bY:IntKind.i64.wrap (1+r)=1+r:=Eg _ o_;replace Y:=Y.gr F p_;replace hR:=hR.gr F p_;replace J:=J.trans F;replace hd:=aZ;clear Z;have Z:=Y.f_ 0;have T:R0+1<=w2.heap.size:=hR.lt)|(go_at_call 140;clear av;refine(ad o_ (D-1) b5.out _ hd Y hBm).mono ?_;rintro e ax⟨t1,rfl,z,hq1,an,l⟩;replace z:=z.le T;replace Y:=Y.gr l p_;replace hR:=hR.gr l p_;replace J:=J.trans l;replace hd:=an;clear Z;have Z:=Y.f_ 0;have aE:=J.size;have X:R0+1<=ax.heap.size:=hR.lt)|(go_at_call 140;refine(ad o_ (D-1) b5.out _ hd Y hBm).mono ?_;rintro e aG⟨ak,rfl,M,cl,au,c⟩;replace z:=z.h7 c (by intro x I;simp at I;omega);replace M:=M.le X;replace Y:=Y.gr c p_;replace hR:=hR.gr c p_;replace J:=J.trans c;replace hd:=au;clear Z;have Z:=Y.f_ 0)|(go_at_call 143;refine(ol (R0+1) (1+r) t1 ak _ hR.lt z M).mono ?_;rintro e ae⟨a6,rfl,ci,am⟩;replace hR:=hR.g_ am;replace hd:=hd.g_ am;replace J:=J.trans (am.mono s_))|(refine kG (pK (1+r) a6 t1 ak).g8 hR (ET.one _) ?_;intro ag az G))
  exact rr_ (pK (1+r) a6 t1 ak).g8 az underlying226 ⟨pK (1+r) a6 t1 ak,rfl,(ci.h7 G (by intro x I;simp at I;omega)).le o_,EG.bin _ _ _ _ _ o_ o_ hq1 cl,hd.h7 G p_,(J.sR G di)⟩
def iU:ByteArray:={data:=#[]}
inductive mE(V:List ByteArray):Int->ByteArray->ByteArray->Int->Int->Nat->Bool->Bool->Prop
 |uE (x:ByteArray) (h:x∈V):mE V 1 x iU 0 0 1 false false
 |C9 (n:Int) (h0:0<=n) (h1:n<=2):mE V 2 iU iU n 0 2 false false
 |vB (x:ByteArray) (h:x∈V):mE V 3 x pJ 0 0 2 false false
 |vA (x:ByteArray) (h:x∈V):mE V 3 x pf 0 0 1 false false
 |Cv:mE V 4 iU iU 0 0 1 true true
 |zh (x:ByteArray) (h:x∈V):mE V 5 x iU 0 0 2 true false
 |C8:mE V 6 iU iU 0 0 1 true false
 |ret:mE V 7 iU iU 0 0 1 false false
 |C7:mE V 8 iU iU 0 0 1 false false
 |AI (x:ByteArray) (h:x∈V):mE V 9 x iU 0 0 0 true true
 |Dd:mE V 10 iU iU 0 0 1 false false
 |ask (x:ByteArray) (h:x∈V):mE V 11 x iU 0 0 1 false false
 |red (x:ByteArray) (h:x∈V) (o:Int) (ho:o=1∨o=6∨o=9):mE V 12 x iU 0 o 1 false false
inductive lJ(V:List ByteArray):Nat->Nat->List ST->Prop
 |nil (D:Nat):lJ V D 0 []
 |cons (D a b nb nl:Nat) (t:ST) (l:List ST) (B L:Bool) (h:mE V t.hT t.name t.fn t.n t.op t.es.length B L) (hB:B=false->t.bs=[]) (hL:L=false->t.ls=[]) (hes:∀e∈t.es,EG V 2 e)
   (hb:lJ V D nb t.bs) (hl:lJ V D nl t.ls) (ha:a=1+nb+nl) (hr:lJ V (D+1) b l):lJ V (D+1) (a+b) (t::l)
def SG(V:List ByteArray)(D N:Nat)(t:ST):Prop:=lJ V D N [t]
theorem lJ.append{a b:Nat}{l m:List ST}(h:lJ V D a l)(k:lJ V D b m):lJ V D (a+b) (l++m):=by
 induction h with
 |nil D=>simpa using k
 |cons D a b nb nl t l B L h hB hL hes hb hl ha hr _ _ ad=>
  have:=ad k
  rw[Fr];exact .cons D a _ nb nl t _ B L h hB hL hes hb hl ha this
theorem EG.mono{d e:Nat}{t:ET}(h:EG V d t)(f:d<=e):EG V e t:=by
 induction h generalizing e with
 |num d n h0 h1=>exact .num _ n h0 h1
 |var d s h=>exact .var _ s h
 |new d n h0 h1=>exact .new _ n h0 h1
 |field d n A s h0 h1 h=>
  obtain⟨e,rfl⟩:∃k,e=k+1:=⟨e-1,by omega⟩;exact .field _ n A s h0 h1 h
 |bin d o A a b h0 h1 _ _ i c=>
  obtain⟨e,rfl⟩:∃k,e=k+1:=⟨e-1,by omega⟩;exact .bin _ o A a b h0 h1 (i o_) (c o_)
theorem EG.sub{W:List ByteArray}{d:Nat}{t:ET}(h:EG V d t)(aq:∀s∈V,s∈W):EG W d t:=by
 induction h with
 |num d n h0 h1=>exact .num _ n h0 h1
 |var d s h=>exact .var _ s (aq s h)
 |new d n h0 h1=>exact .new _ n h0 h1
 |field d n A s h0 h1 h=>exact .field _ n A s h0 h1 (aq s h)
 |bin d o A a b h0 h1 _ _ i c=>exact .bin _ o A a b h0 h1 i c
theorem mE.sub{W:List ByteArray}{k n o:Int}{x f:ByteArray}{m:Nat}{B L:Bool}(h:mE V k x f n o m B L)(aq:∀s∈V,s∈W):mE W k x f n o m B L:=by
 cases h with
 |uE x h=>exact .uE _ (aq _ h)
 |C9 n h0 h1=>exact .C9 _ h0 h1
 |vB x h=>exact .vB _ (aq _ h)
 |vA x h=>exact .vA _ (aq _ h)
 |Cv=>exact .Cv
 |zh x h=>exact .zh _ (aq _ h)
 |C8=>exact .C8
 |ret=>exact .ret
 |C7=>exact .C7
 |AI x h=>exact .AI _ (aq _ h)
 |Dd=>exact .Dd
 |ask x h=>exact .ask _ (aq _ h)
 |red x h o ho=>exact .red _ (aq _ h) _ ho
theorem lJ.sub{W:List ByteArray}{N:Nat}{l:List ST}(h:lJ V D N l)(aq:∀s∈V,s∈W):lJ W D N l:=by
 induction h with
 |nil D=>exact .nil D
 |cons D a b nb nl t l B L h hB hL hes _ _ ha _ c d f=>exact .cons D a b nb nl t l B L (h.sub aq) hB hL (λe he=>(hes e he).sub aq) c d ha f
theorem lJ.mono{r N:Nat}{l:List ST}(h:lJ V D N l)(hD:D<=r):lJ V r N l:=by
 induction h generalizing r with
 |nil D=>exact .nil r
 |cons D a b nb nl t l B L h hB hL hes _ _ ha _ c d f=>
  obtain⟨e,rfl⟩:∃k,r=k+1:=⟨r-1,by omega⟩;exact .cons e a b nb nl t l B L h hB hL hes (c o_) (d o_) ha (f hD)
theorem SG.leaf(h:mE V t.hT t.name t.fn t.n t.op t.es.length false false)(hb:t.bs=[])(hl:t.ls=[])(hes:∀e∈t.es,EG V 2 e):SG V (D+1) 1 t:=
 .cons D 1 0 0 0 t [] false false h (λ_=>hb) (λ_=>hl) hes (by rw[hb];exact .nil D) (by rw[hl];exact .nil D) rfl (.nil _)
theorem SG.node{nb nl:Nat}(h:mE V t.hT t.name t.fn t.n t.op t.es.length true true)(hes:∀e∈t.es,EG V 2 e)(hb:lJ V D nb t.bs)(hl:lJ V D nl t.ls):SG V (D+1) (1+nb+nl) t:=
 .cons D (1+nb+nl) 0 nb nl t [] true true h (λh=>by cases h) (λh=>by cases h) hes hb hl rfl (.nil _)
theorem SG.loop{nb:Nat}(h:mE V t.hT t.name t.fn t.n t.op t.es.length true false)(hls:t.ls=[])(hes:∀e∈t.es,EG V 2 e)(hb:lJ V D nb t.bs):SG V (D+1) (1+nb) t:=
 .cons D (1+nb) 0 nb 0 t [] true false h (λh=>by cases h) (λ_=>hls) hes hb (by rw[hls];exact .nil D) rfl (.nil _)
def lw(k:Int)(x f:ByteArray)(n o:Int)(A:Option Addr)(c:Nat)(es:List ET):ST:=.mk k x f n o A c es none 0 [] none 0 []
theorem jx.es{p:Nat->Prop}(x f:ByteArray)(n o:Int){b:Nat}{es:List ET}(hs:Sl w 226 5 (j_ b) es.length (es.flatMap ET.E))(hp:p b)(hes:∀u∈es,kc p w u):jx p w (lw k x f n o (j_ b) es.length es):=
 .mk _ hs (G_ _) (λy off h _=>by injection h with h;injection h with h;subst h;exact hp) hes (EM _ _ _ _) (G_ _) (λ_ _ h _=>by cases h) (λu hu=>by cases hu) (EM _ _ _ _) (G_ _) (λ_ _ h _=>by cases h) (λu hu=>by cases hu)
def SU.trees{M:List Nat}{lo:Nat}(z:∀y∈M,y<lo)(d n:Nat):SU (λ_=>Gr M):=
 SU.of (λv w=>∃(x:Nat) (ts:List ET),v=.slice (j_ x) n n/\ts.length=n/\lo<=x/\Sl w 226 5 (j_ x) n (ts.flatMap ET.E)/\∀t∈ts,kc (jp lo) w t/\EG hI d t)
  (λ_ _ _ hg⟨x,ts,h1,h2,h3,aw,ax⟩=>⟨x,ts,h1,h2,h3,aw.ir λy off U I=>hg.block y I (λY=>by injection U with U;injection U with U;have:=z y Y;omega),λt X=>⟨(ax t X).1.h7 hg (λx I=>EH.2 (z x I)),(ax t X).2⟩⟩)
def SU.stmt{M:List Nat}{lo:Nat}(z:∀y∈M,y<lo)(D N:Nat):SU (λ_=>Gr M):=
 SU.of (λv w=>∃t:ST,v=.agg t.g8/\jx (jp lo) w t/\SG hI D N t) (λ_ _ _ hg⟨t,h1,h2,h3⟩=>⟨t,h1,h2.h7 hg (λx I=>EH.2 (z x I)),h3⟩)
theorem ST.one(t:ST):t.g8.all (·.oneCell')=true:=by unfold ST.g8;simp[Value.oneCell']
theorem ET.h9(n:Int)(s:ByteArray)(o:Int)(A:Option Addr)(c:Nat)(l:List ET):(ET.mk k n s o A c l).g8=#[i_ k,i_ n,.string s,i_ o,.slice A l.length c]:=rfl
theorem ST.h9(x f:ByteArray)(n o:Int)(A:Option Addr)(c:Nat)(es:List ET)(A1:Option Addr)(c1:Nat)(bs:List ST)(ay:Option Addr)(an:Nat)(ls:List ST):(ST.mk k x f n o A c es A1 c1 bs ay an ls).g8=#[i_ k,.string x,.string f,i_ n,i_ o,.slice A es.length c,.slice A1 bs.length c1,.slice ay ls.length an]:=rfl
theorem nf{x:Nat}(t:ET)(h:Bk w x 226 t.g8):Sl w 226 5 (j_ x) 1 ([t].flatMap ET.E):=i5 (n:=1) h rfl
theorem sy{x:Nat}(a b:ET)(h:Bk w x 226 (a.g8++b.g8)):Sl w 226 5 (j_ x) 2 ([a,b].flatMap ET.E):=by
 have:=i5 (n:=2) (s:=5) h rfl
 rw[Array.toList_append]at this;exact this
end Go.Proofs.YtenbhdilndfaeaaGreat
