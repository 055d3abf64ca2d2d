import Derived.Test.YtenbhdilndfaeaaGreatM11
set_option maxRecDepth 100000
set_option maxHeartbeats 0
set_option linter.all false
namespace Go.Proofs.YtenbhdilndfaeaaGreat
open Go.RowKit Go.Proofs.Tryz
variable{G:Nat->World->World->Prop}{a a' a0:Act}{e f tr:TypeId}{vs:Nat->Value}{D N base i x:Nat}{v:Value}{o:Oper}{w w':World}{listed:Array Bool}{kt:List (List Nat)}{kR:Bool}{l:List Oper}{K:Act->World->Prop}{t:ST}{V:List ByteArray}{A:OA}{xs:List Value}{M:List Nat}{ts:List ST}(k:Int)(ty:TypeId)(S:World->Prop)
theorem Hh{G:Prop} (h:G:=by
 rw[<-aE]at hd hm hR I |-;clear aE;have aC:Ex B g m R0 229 #[q_ g,i_ left,i_ loops,i_ fn] S_ W W:=⟨hd,hm,hR,F_ [g] W⟩;refine iN (Ex B g m R0 229 #[q_ g,i_ left,i_ loops,i_ fn] S_ W) (λ_ X=>∃t,Bk X R0 229 t.g_/\jK (jE (R0+1)) X t/\SG hV 1 1 t/\iQ X B g/\Gr [g,R0] W X) (Gr [g,R0]) [SU.val _ (.string v),SU.val _ (q_ m),SU.tree aH (1),SU.trees aH 2 1,SU.stmt aH (1) (1),SU.any _] (SU.any _) [[],[],[1],[2],[0,3],[4]] true [(some 29,0),(some 30,1),(some 31,2),(some 32,3),(some 33,4),(none,5)] k_ k_ (λ_ _ _ _ _ h=>h) k_ rfl rfl k_ aC ⟨?_,?_,?_,?_,?_,?_,trivial⟩ ?_
 .exact J5
 .exact J5
 .refine hT [(some 30,1)] ?_;exact Ip
 .refine hT [(some 31,2)] ?_;exact H1
 .refine hT [(some 29,0),(some 32,3)] ?_;intro vs Q C J K H;obtain⟨o,⟨aN,tb,ap,nb,cD,bB,cR⟩, -⟩:=J;replace o:_=_:=o
  try simp only[b_,o,ap]at H |-
  go_simp;have aD:tb.length=_:=nb
  have a7:Sl Q 226 5 (j_ aN) tb.length (tb.flatMap ET.E):=by rw[aD];exact bB
  have hcl:(lI 3 v pm 0 0 (j_ aN) tb.length tb).g_=_:=rfl;simp only[ST.ip,lI,aD]at hcl;refine H.out _ _ C (F_ _ _) ⟨lI 3 v pm 0 0 (j_ aN) tb.length tb,?_,jK.es _ _ _ _ _ a7 cD (λu hu=>(cR u hu).1),SG.leaf (t:=lI 3 v pm 0 0 (j_ aN) tb.length tb) (by show mP _ 3 v pm 0 0 tb.length _ _;rw[aD];exact .vZ _ hv) rfl rfl (λu hu=>(cR u hu).2)⟩
  show Value.agg _=Value.agg (lI 3 v pm 0 0 (j_ aN) tb.length tb).g_
  exact LM
 .refine ju [(some 33,4)] ?_;exact Iu
 exact JE):G:=h
theorem Hm{G:Prop} (h:G:=by
 go_upto_region 5 with fail
 have c:=hR.lt;have q:=(hm.alloc (.cells lY 9)).f_ 0;have dq:=((hm.alloc (.cells lY 9)).alloc (.cells lY 9)).f_ 0
 go_region_law (first|(go_simp;go_at_call 177;refine(lM _).mono ?_;rintro e A⟨rfl,rfl⟩;try(have a:=P_ w2 9 lY;have aj:=(a.f_ r.toNat).trans bN;replace hR:=hR.alloc (.cells lY 9);replace hd:=hd.hG ((F_ [] w2).alloc (.cells lY 9));replace I:=I.alloc (.cells lY 9)))|(go_simp;go_at_call 19;refine(iw B g 5 _ (hd.hG (by first|exact(((F_ [] w1).alloc _).alloc _).drew|exact((F_ [] w1).alloc _).drew)) o_ o_).mono ?_;rintro e w2⟨r,rfl,bD,bJ,b6,F⟩;obtain⟨s,hs,bN⟩:=wF r bD bJ;(first|(have z:=(((P_ w1 9 lY).alloc (.cells lY 9)).drew).gr F p_;have f:=((P_ (w1.alloc (.cells lY 9)) 9 lY).drew).gr F p_;have bj:=(z.f_ r.toNat).trans bN;have P:=(f.f_ r.toNat).trans bN;simp at P;replace hR:=(((hR.alloc (.cells lY 9)).alloc (.cells lY 9)).drew).gr F p_;replace I:=(((I.alloc (.cells lY 9)).alloc (.cells lY 9)).drew).trans F;replace hd:=b6)|(replace hR:=((hR.alloc (.cells lY 9)).drew).gr F p_;replace I:=((I.alloc (.cells lY 9)).drew).trans F;replace hd:=b6)))|(go_simp;go_at_call 145;refine(ka s _).mono ?_;rintro e ae⟨he,S⟩;replace he:e=.returned (.agg #[i_ 3,i_ 0,.string s,i_ 0,n_]):=he;subst he;replace hR:=hR.hG S;replace hd:=hd.hG S;replace I:=I.trans (S.mono s_);have br:=hR.hH 0;have z0:=hR.f_ 0;have bH:=hR.hH 1;have aM:=hR.f_ 1;have b8:=hR.hH 2;have aV:=hR.f_ 2;have dr:=hR.hH 3;have z3:=hR.f_ 3;have dR:=hR.hH 4;have z4:=hR.f_ 4))
 all_goals
  go_wp2;have aw:=(((((hR.hW 0 (i_ 3)).hW 1 (i_ 0)).hW 2 (.string s)).hW 3 (i_ 0)).hW 4 (n_));have G:=((((((F_ [R0] ae).setCell (p:=(c_ R0 0)) (.inl s_) (i_ 3)).setCell (p:=(c_ R0 1)) (.inl s_) (i_ 0)).setCell (p:=(c_ R0 2)) (.inl s_) (.string s)).setCell (p:=(c_ R0 3)) (.inl s_) (i_ 0)).setCell (p:=(c_ R0 4)) (.inl s_) (n_));exact rr_ (jA s).g_ aw underlying226 ⟨jA s,rfl,kk.leaf _ _ _ _ _ _,EG.var _ _ hs,hd.ih G p_,(I.s3 G dt)⟩):G:=h
theorem HQ{G:Prop} (h:G:=by
 go_upto_region 3 with fail
 go_wp2_with (first|((go_at_call 19;refine(iw B g 9 _ hd o_ o_).mono ?_;rintro e w2⟨r,rfl,bD,bJ,b6,F⟩);have bQ:IntKind.i64.wrap (r-2)=r-2:=E2 _ o_)|(go_at_call 144;refine(j7 (r-2) _).mono ?_;rintro e ae⟨rfl,S⟩;replace hR:=(hR.gr F p_).hG S;replace hd:=b6.hG S;replace I:=(I.trans F).trans (S.mono s_))|(refine kQ (jy (r-2)).g_ hR (ET.one _) ?_;intro X aw G))
 exact rr_ (jy (r-2)).g_ aw underlying226 ⟨jy (r-2),rfl,kk.leaf _ _ _ _ _ _,EG.num _ _ o_ o_,hd.ih G p_,(I.s3 G dt)⟩):G:=h
theorem Iv{G:Prop} (h:G:=by
 intro vs Q C J K H;obtain⟨⟨ta,o,V,E⟩, -⟩:=J
 try simp only[b_,o]at H |-
 refine iW k_ ?_;refine ij 226 _ _ rfl R0 r_ ta.g_ r_ 226 _ C.r rfl k_ (ET.one _) ?_;exact J3):G:=h
theorem Jd{G:Prop} (h:G:=by
 intro vs Q C J K H;obtain⟨o, -⟩:=J;replace o:_=_:=o
 try simp only[b_,o]at H |-
 obtain⟨c6,j,bz,cK⟩:=id C;have U:=j.f_ 0;exact LD):G:=h
theorem Jg{G:Prop} (h:G:=by
 rw[<-hd,<-oH]at h1
 refine wpOp_step (jn ho) λe H=>h1 e (λv w' n I b=>H _ _ ⟨v,rfl,?_⟩)
 have hz:l.toArray.size=l.length:=s_;rw[hz,hl];exact⟨n,I,b⟩):G:=h
theorem Ju{G:Prop} (h:G:=by
 rw[<-hd,<-oH]at h1
 refine wpOp_step (jn ho) λe H=>h1 e (λv w' O=>H _ _ ⟨v,rfl,?_⟩)
 have hz:l.toArray.size=l.length:=s_;rw[hz,hl];exact O):G:=h
theorem JF{G:Prop} (h:G:=by
 intro vs bu C;simp only[b_];obtain⟨t,aw,O,am,aZ,G⟩:=C;go_wp2;exact rr_ t.g_ aw underlying226 ⟨t,rfl,O.le o_,am,aZ,I.hK G p_⟩):G:=h
section
variable{P:Program}{ops:Array Oper}{Q:Exit->Act->World->Prop}{md:Region.Mode}
def jN(ops:Array Oper)(i:Nat):Option Tmp:=(ops[i]?).bind (·.dst)
def oI(ops:Array Oper)(vs:Nat->Value):List Nat->Act->Act
 |[],a=>a
 |i::l,a=>oI ops vs l (a.put (jN ops i) (vs i))
structure so(ops:Array Oper)(a0:Act)(f:Nat->Bool)(vs:Nat->Value)(a:Act):Prop where
 defers:a.defers=a0.defers
 size:a.tmps.size=a0.tmps.size
 put:∀i d,f i=true->jN ops i=some d->d<a0.tmps.size->a.tmps[d]?=some (vs i)
 iy:∀d,(∀i,f i=true->jN ops i≠some d)->a.tmps[d]?=a0.tmps[d]?
theorem so.ext{f:Nat->Bool}(h:so ops a0 f vs a)(k:so ops a0 f vs a'):a=a':=by
 have ht:a.tmps=a'.tmps:=by
  apply Array.ext_getElem?;intro d
  by_cases hd:∃i,f i=true/\jN ops i=some d
  .obtain⟨i,hf,hi⟩:=hd
   rcases EJ d a0.tmps.size with ag|bA
   .rw[h.put i d hf hi ag,k.put i d hf hi ag]
   .rw[Y_ (by rw[h.size];exact bA),Y_ (by rw[k.size];exact bA)]
  .have hn:∀i,f i=true->jN ops i≠some d:=λi hf hi=>hd ⟨i,hf,hi⟩
   rw[h.iy d hn,k.iy d hn]
 have j:=h.defers.trans k.defers.symm
 cases a;cases a'
 simp only at ht j;rw[ht,j]
theorem so.refl(a0:Act)(vs:Nat->Value):so ops a0 (λ_=>false) vs a0:=⟨rfl,rfl,λ_ _ h=>by(cases h),λ_ _=>rfl⟩
theorem so.congr{f g:Nat->Bool}{us:Nat->Value}(h:so ops a0 f vs a)(hf:∀j,f j=g j)(hv:∀j,f j=true->vs j=us j):so ops a0 g us a:=
 ⟨h.defers,h.size,λi d hi hd ag=>by rw[h.put i d ((hf i).trans hi) hd ag,hv i ((hf i).trans hi)],λd hn=>h.iy d λi hi=>hn i ((hf i).symm.trans hi)⟩
def CZ(ops:Array Oper):Prop:=∀i j d,jN ops i=some d->jN ops j=some d->i=j
theorem so.add{f:Nat->Bool}(h:so ops a0 f vs a)(hd:CZ ops)(i:Nat)(hi:f i=false)(v:Value):
 so ops a0 (λj=>j==i||f j) (λj=>if j=i then v else vs j) (a.put (jN ops i) v):=by
 refine⟨?_,?_,?_,?_⟩
 .cases D:jN ops i<;>exact h.defers
 .cases D:jN ops i
  .exact h.size
  .simpa[Act.put]using h.size
 .intro j d hj l ag
  by_cases s:j=i
  .subst s;rw[l];simp[Act.put,h.size,ag]
  .have k:=by simpa[s]using hj
   have h1:=h.put j d k l ag
   cases D:jN ops i with
   |none=>simpa[Act.put,s]using h1
   |some e=>
    have ao:e≠d:=λhe=>s (hd j i d l (he▸D))
    simp only[Act.put,FF ao,s,if_false];exact h1
 .intro d hn;have m:=hn i s_;have h1:=h.iy d (λj hj=>hn j (by simp[hj]))
  cases D:jN ops i with
  |none=>exact h1
  |some e=>
   have ao:e≠d:=λhe=>m (he▸D)
   simp only[Act.put,FF ao];exact h1
theorem so.oI{a0:Act}{vs:Nat->Value}(hd:CZ ops):∀(l:List Nat) (a:Act) (f:Nat->Bool),so ops a0 f vs a->(∀j∈l,f j=false)->l.Nodup->so ops a0 (λj=>l.contains j||f j) vs (oI ops vs l a)
 |[],a,f,h,_,_=>h.congr (λj=>by simp) (λ_ _=>rfl)
 |i::l,a,f,h,hf,hn=>by
  have h1:=h.add hd i (hf i s_) (vs i)
  have h2:=so.oI hd l _ _ (h1.congr (λ_=>rfl) (λj _=>show(if j=i then vs i else vs j)=vs j by(split<;>simp_all))) (λj hj=>by
   have ao:j≠i:=λe=>(GC.1 hn).1 (e▸hj)
   simp[ao,hf j (EQ _ hj)]) (GC.1 hn).2
  refine h2.congr (λj=>?_) (λ_ _=>rfl);simp only[List.contains_cons,Bool.or_assoc,Bool.or_left_comm]
theorem z8{x:Option Tmp}{u:Value}(h:a'.put x u=a'.put x v)(hs:a.tmps.size=a'.tmps.size):a.put x u=a.put x v:=by
 cases x with
 |none=>rfl
 |some d=>
  have h1:=ED (λb:Act=>b.tmps[d]?) h;simp only[Act.put]at h1
  rcases EJ d a'.tmps.size with ag|bA
  .simp[ag]at h1;rw[h1]
  .simp only[Act.put];congr 1;rw[Array.setIfInBounds,Array.setIfInBounds,dif_neg o_,dif_neg o_]
theorem rF(b:Act)(x:Option Tmp)(v:Value):(b.put x v).defers=b.defers:=by cases x<;>rfl
theorem u7{R:Value->World->Prop}(ho:ops[i]?=some o)(hs:∀cs b,o.op≠ .select cs b)(hl:∀d∈o.looksAt ops,a.tmps[d]?=a'.tmps[d]?)(aL:a.tmps.size=a'.tmps.size)(j:a.defers=a'.defers)(ad:∀c t t' d w,Q (.panic c) ⟨t,d⟩ w->Q (.panic c) ⟨t',d⟩ w)(h:wpOp P ops Q i (λb w'=>∃v,b=a'.put o.dst v/\R v w') a' w):wpOp P ops Q i (λb w'=>∃v,b=a.put o.dst v/\R v w') a w:=by
 have he:execOp a.eval o=execOp a'.eval o:=execOp_congr o hs λx hx=>by
  cases x with
  |tmp t=>
   have:=hl t (E4 _ (He.2 ⟨.tmp t,by simpa using hx,rfl⟩))
   simp only[Act.eval,EE,this]
  |_=>rfl
 have aM:Region.wanted o (yielded ops a.tmps)=Region.wanted o (yielded ops a'.tmps):=by
  unfold Region.wanted
  cases hg:o.guard with
  |none=>rfl
  |some gw=>
   obtain⟨g,p⟩:=gw
   have hy:yielded ops a.tmps g=yielded ops a'.tmps g:=by
    unfold yielded
    cases ht:(ops[g]?).bind (·.dst)with
    |none=>rfl
    |some t=>
     have:=hl t (by simp[Oper.looksAt,hg,ht])
     simp only[Option.bind_some,this]
   simp only[hy]
 have k:∀c w',Q (.panic c) a' w'->Q (.panic c) a w':=by
  cases a;cases a'
  simp only at j;subst j
  exact λc w' h=>ad c _ _ _ _ h
 have B:∀u w',(∃v,a'.put o.dst u=a'.put o.dst v/\R v w')->∃v,a.put o.dst u=a.put o.dst v/\R v w':=λu w'⟨v,hv,hr⟩=>⟨v,z8 hv aL,hr⟩
 unfold wpOp at*;simp only[ho]at*;rw[aM];split
 .rename_i A;simp only[A,if_true]at h
  rcases h with h|⟨l,m⟩
  case inr=>exact .inr ⟨by unfold Oper.asks at*;rw[he];exact l,m⟩
  refine .inl ?_;unfold Oper.wp at*;rw[he];generalize (execOp a'.eval o).run P w=r at*
  cases r with
  |ok n w'=>
   cases n<;>simp only[Oper.upon]at h |-
   case value u=>exact B u _ h
   case skip=>exact B _ _ h
   case defer d=>
    obtain⟨v,hv,_⟩:=h;have h1:=ED Act.defers hv;rw[rF,rF]at h1;have h2:=ED List.length h1;simp at h2
   case enter f args=>
    refine Calls.mono h λe w'' he=>?_
    cases e with
    |returned u=>exact B u _ he
    |panicked c=>exact k _ _ he
    |outgrown=>exact he
   case row row args=>exact Rows.mono h λu w'' he=>B u _ he
  |halt x w'=>
   cases x<;>simp only[Oper.upon]at h |-
   case panic u=>exact k _ _ h
 .rename_i A;simp only[A]at h;exact B _ _ h
structure SU(G:Nat->World->World->Prop) where
 U:(Nat->Value)->Value->World->Prop
 ex:List Nat
 st:∀i,i∉ex->∀vs v w w',G i w w'->U vs v w->U vs v w'
 dp:List Nat
 loc:∀vs us v w,(∀j∈dp,vs j=us j)->U vs v w->U us v w
def SU.of{G:World->World->Prop}(U:Value->World->Prop)(st:∀v w w',G w w'->U v w->U v w'):SU (λ_=>G):=⟨λ_ v w=>U v w,[],λ_ _ _ v w w' hg h=>st v w w' hg h,[],λ_ _ _ _ _ h=>h⟩
def SU.zd{G:Nat->World->World->Prop}(ex:List Nat)(U:Value->World->Prop)(st:∀i,i∉ex->∀v w w',G i w w'->U v w->U v w'):SU G:=⟨λ_ v w=>U v w,ex,λi hi _ v w w' hg h=>st i hi v w w' hg h,[],λ_ _ _ _ _ h=>h⟩
def SU.uY{G:World->World->Prop}{H:Nat->World->World->Prop}(s:SU (λ_=>G))(h:∀i a b,H i a b->G a b):SU H:=⟨s.U,s.ex,λi hi vs v w w' hg hu=>s.st i hi vs v w w' (h i _ _ hg) hu,s.dp,s.loc⟩
def mZ{G:Nat->World->World->Prop}(p:Nat->SU G)(vs:Nat->Value)(w:World):List Nat->Prop
 |[]=>True
 |j::l=>(p j).U vs (vs j) w/\mZ p vs w l
theorem mZ.of{G:Nat->World->World->Prop}{p:Nat->SU G}{vs:Nat->Value}{w:World}:∀{l:List Nat},(∀j∈l,(p j).U vs (vs j) w)->mZ p vs w l
 |[],_=>trivial
 |_::_,h=>⟨h _ s_,mZ.of λj hj=>h j (by simp[hj])⟩
theorem xG{listed:Array Bool}(h:listed.getD i true=false):((listed.setIfInBounds i true).toList.filter (!·)).length+1<=(listed.toList.filter (!·)).length:=by
 have ag:i<listed.size:=by
  rcases EJ i listed.size with j|j
  .exact j
  .rw[EE,Y_ j]at h
   cases h
 have hf:listed.toList[i]?=some false:=by
  rw[EE,EH ag]at h;simp at h;simp[ag,h]
 rw[GG];generalize listed.toList=l at hf;clear h ag listed
 induction l generalizing i with
 |nil=>simp at hf
 |cons x l Z=>
  cases i with
  |zero=>
   simp at hf;subst hf;simp
  |succ i=>
   have:=Z (i:=i) (zu hf)
   cases x<;>simp only[FC,Gi]<;>simp<;>simpa using this
structure CW(md:Region.Mode)(ops:Array Oper)(kt:Nat->List Nat)(kR:Bool):Prop where
 Ee:Region.noSelect ops=true
 y1:CZ ops
 back:∀i o,ops[i]?=some o->∀e∈o.after,Region.binds md e=true->e.on<i
 Eg:∀i,i<ops.size->(kt i).Nodup
 pre:∀i,i<ops.size->∀j∈kt i,lj md ops 16 i j=true
 look:∀i o,ops[i]?=some o->∀k d,jN ops k=some d->d∈o.looksAt ops->k∈kt i∨lj md ops 16 k i=true
 some:kR=true->0<ops.size
 last:kR=true->∀j,j+1<ops.size->lj md ops 16 (ops.size-1) j=true
theorem AX(hb:∀i o,ops[i]?=some o->∀e∈o.after,Region.binds md e=true->e.on<i)(h:Region.ready md ops listed=[])(hz:listed.size=ops.size):∀i,i<ops.size->listed.getD i false=true:=by
 intro i
 induction i using Nat.strongRecOn with
 |ind i Z=>
  intro hi
  cases hl:listed.getD i false with
  |true=>rfl
  |false=>
   exfalso
   have hu:listed.getD i true=false:=by
    rw[EE,EH o_]at hl |-
    simpa using hl
   have:i∈Region.ready md ops listed:=mem_ready.2 ⟨hu,ops[i],EH hi,λe he U=>Z e.on (hb i _ (EH hi) e he U) (ov (hb i _ (EH hi) e he U))⟩
   rw[h]at this
   cases this
def x7(b:Bool)(A B:Prop):Prop:=match b with|true=>A|false=>B
def r6(vs:Nat->Value)(i:Nat)(u:Value)(j:Nat):Value:=if j=i then u else vs j
theorem zv{S:(Nat->Bool)->(Nat->Value)->World->Prop}{T:(Nat->Value)->World->Prop}{p:Nat->SU G}{kt:Nat->List Nat}(hc:CW md ops kt kR)(ad:∀c t t' d w,Q (.panic c) ⟨t,d⟩ w->Q (.panic c) ⟨t',d⟩ w)(y:∀i,∀j∈(p i).dp,j∈kt i)(A:∀j,j<ops.size->∀i∈(p j).ex,i=j∨lj md ops 16 j i=true)(N:∀i o,ops[i]?=some o->∀f vs w,f i=false->(∀j∈kt i,f j=true)->S f vs w->mZ p vs w (kt i)->wpOp P ops Q i (λb w'=>∃v,b=(oI ops vs (kt i) a0).put o.dst v/\x7 (kR&&i+1==ops.size) (∀u,T (r6 vs i u) w') (S (λj=>j==i||f j) (r6 vs i v) w'/\G i w w'/\(p i).U vs v w')) (oI ops vs (kt i) a0) w)(x:∀f vs w,(∀j,j<ops.size->f j=true)->x7 kR (T vs w) (S f vs w/\mZ p vs w (List.range ops.size))->Q .normal (oI ops vs (List.range ops.size) a0) w):
 ∀(fuel:Nat) (listed:Array Bool) (vs:Nat->Value) (a:Act) (w:World),rN md ops listed->listed.size=ops.size->(listed.toList.filter (!·)).length<=fuel->
  so ops a0 (λj=>listed.getD j false) vs a->((kR=true/\(∀j,j<ops.size->listed.getD j false=true)/\T vs w)∨(¬(kR=true/\∀j,j<ops.size->listed.getD j false=true)/\S (λj=>listed.getD j false) vs w/\∀j,listed.getD j false=true->(p j).U vs (vs j) w))->wpAny P md ops Q fuel listed a w:=by
 have fin:∀(listed:Array Bool) (vs:Nat->Value) (a:Act) (w:World),listed.size=ops.size->so ops a0 (λj=>listed.getD j false) vs a->((kR=true/\(∀j,j<ops.size->listed.getD j false=true)/\T vs w)∨(¬(kR=true/\∀j,j<ops.size->listed.getD j false=true)/\S (λj=>listed.getD j false) vs w/\∀j,listed.getD j false=true->(p j).U vs (vs j) w))->
  Region.ready md ops listed=[]->Q .normal a w:=by
  intro listed vs a w hz aj C hr;have B:=AX hc.back hr hz;have h1:=(so.refl (ops:=ops) a0 vs).oI hc.y1 (List.range ops.size) a0 _ (λ_ _=>rfl) List.nodup_range
  have h2:=aj.congr (g:=λj=>(List.range ops.size).contains j||false) (us:=vs) (λj=>by
   rcases EJ j ops.size with hj|hj
   .rw[B j hj];simp[hj]
   .rw[EE,Y_ o_];simp
    omega) (λ_ _=>rfl)
  rw[h2.ext h1]
  exact x _ vs w B (by
   rcases C with⟨hl,_,O⟩|⟨hl,C,J⟩
   .rw[hl];exact O
   .cases F:kR with
    |true=>exact EK ⟨F,B⟩ hl
    |false=>exact⟨C,mZ.of λj hj=>J j (B j (Fe.1 hj))⟩)
 intro fuel
 induction fuel with
 |zero=>
  intro listed vs a w z hz hn aj C
  have hr:Region.ready md ops listed=[]:=by
   cases hr:Region.ready md ops listed with
   |nil=>rfl
   |cons i r=>
    have hi:i∈Region.ready md ops listed:=by rw[hr];simp
    have:=xG (mem_ready.1 hi).1
    omega
  exact⟨hr,fin listed vs a w hz aj C hr⟩
 |succ fuel Z=>
  intro listed vs a w z hz hn aj C;refine⟨λhr=>fin listed vs a w hz aj C hr,λi hi=>?_⟩;obtain⟨V,o,ho,M⟩:=mem_ready.1 hi;have m:=nz hi;have L:=(Fb.1 ho).1
  obtain⟨bR,J⟩:S (λj=>listed.getD j false) vs w/\∀j,listed.getD j false=true->(p j).U vs (vs j) w:=by
   rcases C with⟨_,C,_⟩|C
   .rw[C i L]at m
    cases m
   .exact C.2
  have bV:=λj hj=>kz z 16 i (hc.pre i L j hj) (λoj l e he hb=>by rw[ho]at l;injection l with l;subst l;exact M e he hb)
  have h1:=N i o ho _ vs w m bV bR (mZ.of λj hj=>J j (bV j hj));have hP:=(so.refl (ops:=ops) a0 vs).oI hc.y1 (kt i) a0 _ (λ_ _=>rfl) (hc.Eg i L);have aL:=aj.size.trans hP.size.symm
  have bQ:∀d∈o.looksAt ops,a.tmps[d]?=(oI ops vs (kt i) a0).tmps[d]?:=by
   intro d hd
   by_cases hk:∃k,listed.getD k false=true/\jN ops k=some d
   .obtain⟨k,az,E⟩:=hk
    have bM:k∈kt i:=by
     rcases hc.look i o ho k d E hd with h|h
     .exact h
     .have:=kz z 16 k h (λoj l e he hb=>z _ oj l az e he hb)
      rw[this]at m
      cases m
    rcases EJ d a0.tmps.size with ag|bA
    .rw[aj.put k d az E ag,hP.put k d (by simp[bM]) E ag]
    .rw[Y_ (by rw[aj.size];exact bA),Y_ (by rw[hP.size];exact bA)]
   .have hn:∀k,listed.getD k false=true->jN ops k≠some d:=λk az E=>hk ⟨k,az,E⟩
    rw[aj.iy d hn,hP.iy d (λk bM=>hn k (bV k (zu bM)))]
  have h2:=u7 ho (λcs b=>Region.noSelect_spec hc.Ee i o cs b ho) bQ aL (aj.defers.trans hP.defers.symm) ad h1;refine wpOp_mono (λb w' hb=>?_) h2;obtain⟨v,rfl,n⟩:=hb
  have D:o.dst=jN ops i:=by unfold jN;rw[ho];rfl
  have H:=aj.add hc.y1 i m v;rw[<-D]at H
  have dZ:∀j,(listed.setIfInBounds i true).getD j false=(j==i||listed.getD j false):=by
   intro j
   by_cases s:j=i
   .subst s;rw[EE,K_,T_ rfl,T_ o_];simp
   .rw[EE,K_,Q_ (Ne.symm s)];simp[s]
  refine Z (listed.setIfInBounds i true) (λj=>if j=i then v else vs j) _ w' (z.set hi) (zu hz) (ov (xG V)) (H.congr (λj=>(dZ j).symm) (λ_ _=>rfl)) ?_
  by_cases cW:kR=true/\i+1=ops.size
  .obtain⟨hl,aw⟩:=cW;rw[hl,aw]at n;refine .inl ⟨hl,λj hj=>?_,?_⟩
   .rw[dZ]
    by_cases s:j=i
    .simp[s]
    .have h3:=hc.last hl j o_;have he:ops.size-1=i:=o_;rw[he]at h3;rw[kz z 16 i h3 (λoj l e he hb=>by rw[ho]at l;injection l with l;subst l;exact M e he hb)];simp
   .have au:=by simpa[x7]using n
    exact au v
  .have hb:(kR&&i+1==ops.size)=false:=by
    cases F:kR with
    |false=>rfl
    |true=>simp;exact λh=>cW ⟨F,h⟩
   rw[hb]at n;obtain⟨n,I,K⟩:=n;refine .inr ⟨λ⟨hl,cZ⟩=>?_,by(have he:=funext dZ);rw[he];exact n,?_⟩
   .have hn:=cZ (ops.size-1) o_;rw[dZ]at hn
    have ao:ops.size-1≠i:=λh=>cW ⟨hl,o_⟩
    have q:listed.getD (ops.size-1) false=true:=by simpa[ao]using hn
    have h3:=hc.last hl i o_
    have:=kz z 16 (ops.size-1) h3 (λoj l e he hb=>z _ oj l q e he hb)
    rw[this]at m
    cases m
   .intro j hj;rw[dZ]at hj
    by_cases s:j=i
    .subst s;simp only[if_true];refine(p j).loc vs _ _ _ (λk hk=>?_) K;have az:=bV k (y j k hk)
     have ao:k≠j:=λh=>by rw[h,m]at az;cases az
     simp[ao]
    .have bp:listed.getD j false=true:=by simpa[s]using hj
     simp only[s,if_false]
     have R:j<ops.size:=by
      rcases EJ j ops.size with h|h
      .exact h
      .rw[EE,Y_ o_]at bp
       cases bp
     have aw:i∉(p j).ex:=λhm=>by
      rcases A j R i hm with h|h
      .exact s h.symm
      .have:=kz z 16 j h (λoj l e he hb=>z _ oj l bp e he hb)
       rw[this]at m
       cases m
     refine(p j).loc vs _ _ _ (λk hk=>?_) ((p j).st i aw _ _ _ _ I (J j bp));have az:=kz z 16 j (hc.pre j R k (y j k hk)) (λoj l e he hb=>z _ oj l bp e he hb)
     have ao:k≠i:=λh=>by rw[h,m]at az;cases az
     simp[ao]
def mT(md:Region.Mode)(ops:Array Oper)(i j:Nat):Bool:=(((ops[i]?).map λo=>o.after.any λe=>Region.binds md e&&e.on==j).getD false)||lj md ops 16 i j
theorem pL{j:Nat}(h:mT md ops i j=true):lj md ops 16 i j=true:=by
 unfold mT at h;simp only[Gn]at h
 rcases h with h|h
 .unfold lj
  cases ho:ops[i]? with
  |none=>rw[ho]at h;cases h
  |some o=>
   rw[ho]at h;simp only[G3,Fw]at h;obtain⟨q,am,hb⟩:=GU.1 h;simp only[ES]at hb;exact GU.2 ⟨q,am,by simp only[hb.1,hb.2,G6,Bool.and_true]⟩
 .exact h
def B2(md:Region.Mode)(ops:Array Oper)(kt:List (List Nat))(kR:Bool):Bool:=
 Region.noSelect ops&&
 ((List.range ops.size).all λi=>(List.range ops.size).all λj=>i==j||(jN ops i).isNone||jN ops i !=jN ops j)&&
 ((List.range ops.size).all λi=>((ops[i]?).map λo=>o.after.all λe=> !Region.binds md e||decide (e.on<i)).getD true)&&
 ((List.range ops.size).all λi=>decide ((kt.getD i []).Nodup)&&(kt.getD i []).all λj=>mT md ops i j)&&
 ((List.range ops.size).all λi=>(List.range ops.size).all λk=>(kt.getD i []).contains k||((ops[i]?).map λo=>match jN ops k with|none=>true|some d=> !(o.looksAt ops).contains d).getD true||mT md ops k i)&&
 ((!kR||decide (0<ops.size))&&(!kR||(List.range (ops.size-1)).all λj=>mT md ops (ops.size-1) j))
theorem xn{d:Tmp}(h:jN ops i=some d):i<ops.size:=by
 rcases EJ i ops.size with j|j
 .exact j
 .unfold jN at h;rw[Y_ j]at h
  cases h
theorem wV(h:B2 md ops kt kR=true):CW md ops (λi=>kt.getD i []) kR:=by
 unfold B2 at h;simp only[ES]at h;obtain⟨⟨⟨⟨⟨h1,h2⟩,h3⟩,au⟩,aq⟩,bG,aU⟩:=h;refine⟨h1,?_,?_,?_,?_,?_,?_,?_⟩
 .intro i j d hi hj
  have:=EV.1 (EV.1 h2 i (Fe.2 (xn hi))) j (Fe.2 (xn hj))
  rw[hi,hj]at this;exact LO
 .intro i o ho e he hb
  have:=EV.1 h3 i (Fe.2 (Fb.1 ho).1)
  rw[ho]at this;simp only[G3,Fw]at this
  have:=(Gq.1 this) e he
  rw[hb]at this;exact LO
 .intro i hi
  have:=EV.1 au i (Fe.2 hi)
  simp only[ES,Fr]at this;exact this.1
 .intro i hi j hj
  have:=EV.1 au i (Fe.2 hi)
  simp only[ES]at this;exact pL (EV.1 this.2 j hj)
 .intro i o ho k d hk hd
  have:=EV.1 (EV.1 aq i (Fe.2 (Fb.1 ho).1)) k (Fe.2 (xn hk))
  rw[ho,hk]at this;simp only[G3,Fw,Gn,Bool.not_eq_true']at this
  rcases this with(h|h)|h
  .exact .inl (zu h)
  .rw[List.contains_iff_mem.2 hd]at h
   cases h
  .exact .inr (pL h)
 .intro hl;rw[hl]at bG
  simpa using bG
 .intro hl j hj;rw[hl]at aU;simp only[Bool.not_true,Gp]at aU;exact pL (EV.1 aU j (Fe.2 o_))
def rW(P:Program)(ops:Array Oper)(Q:Exit->Act->World->Prop)(a0:Act)(S:(Nat->Bool)->(Nat->Value)->World->Prop)(T:(Nat->Value)->World->Prop){G:Nat->World->World->Prop}(p:Nat->SU G)(kt:List (List Nat))(kR:Bool)(i:Nat):Prop:=
 ∀o,ops[i]?=some o->∀f vs w,f i=false->(∀j∈kt.getD i [],f j=true)->S f vs w->mZ p vs w (kt.getD i [])->wpOp P ops Q i (λb w'=>∃v,b=(oI ops vs (kt.getD i []) a0).put o.dst v/\x7 (kR&&i+1==ops.size) (∀u,T (r6 vs i u) w') (S (λj=>j==i||f j) (r6 vs i v) w'/\G i w w'/\(p i).U vs v w')) (oI ops vs (kt.getD i []) a0) w
def rY(p:Nat->Prop)(k:Nat):Nat->Prop
 |0=>True
 |n+1=>p k/\rY p (k+1) n
theorem rY.get{p:Nat->Prop}:∀(n k:Nat),rY p k n->∀i,k<=i->i<k+n->p i
 |0,_,_,_,h1,h2=>by omega
 |n+1,k,h,i,h1,h2=>by
  rcases Nat.eq_or_lt_of_le h1 with rfl|h3
  .exact h.1
  .exact rY.get n (k+1) h.2 i h3 o_
theorem B7{p:List (SU G)}{b:SU G}{n:Nat}(h:((List.range n).all λi=>(p.getD i b).dp.all λj=>(kt.getD i []).contains j)=true)(g:b.dp=[])(hn:p.length=n):∀i,∀j∈(p.getD i b).dp,j∈kt.getD i []:=by
 intro i j hj
 rcases EJ i n with hi|hi
 .have:=EV.1 (EV.1 h i (Fe.2 hi)) j hj
  exact LO
 .rw[List.getD_eq_getElem?_getD,EW o_,Gx,g]at hj
  cases hj
theorem B6{p:List (SU G)}{b:SU G}(h:((List.range ops.size).all λj=>(p.getD j b).ex.all λi=>i==j||mT md ops j i)=true):∀j,j<ops.size->∀i∈(p.getD j b).ex,i=j∨lj md ops 16 j i=true:=λj hj i hi=>by
 have:=EV.1 (EV.1 h j (Fe.2 hj)) i hi
 simp only[Gn,beq_iff_eq]at this;exact this.imp id pL
def ll(vs:Nat->Value):List (Option Tmp × Nat)->Act->Act
 |[],a=>a
 |p::l,a=>ll vs l (a.put p.1 (vs p.2))
theorem b_:(∀ (vs:Nat->Value) (d:Option Tmp) (j:Nat) (ds:List (Option Tmp × Nat)) (a:Act),ll vs ((d,j)::ds) a=ll vs ds (a.put d (vs j))) /\ (∀ (vs:Nat->Value) (a:Act),ll vs [] a=a) /\ (∀ (a:Act) (i:Tmp) (v:Value),a.put (some i) v=⟨a.tmps.setIfInBounds i v,a.defers⟩) /\ (∀ (a:Act) (v:Value),a.put none v=a) /\
 (∀ {α:Type} (l:List α) (i:Nat) (a:α),l.toArray.setIfInBounds i a=(l.set i a).toArray) /\ (∀ {α:Type} (x y:α) (l:List α),(x::l).set 0 y=y::l) /\ (∀ {α:Type} (x y:α) (l:List α) (i:Nat),(x::l).set (i+1) y=x::l.set i y):=by
 refine⟨λ_ _ _ _ _=>?_,λ_ _=>rfl,λ_ _ _=>rfl,λ_ _=>rfl,λ_ _ _=>by simp,λ_ _ _=>rfl,λ_ _ _ _=>rfl⟩
 rfl
theorem oH(ops:Array Oper)(vs:Nat->Value):∀(l:List Nat) (a:Act),oI ops vs l a=ll vs (l.map λi=>(jN ops i,i)) a
 |[],_=>rfl
 |_::l,_=>oH ops vs l _
theorem nY(S:(Nat->Bool)->(Nat->Value)->World->Prop)(T:(Nat->Value)->World->Prop)(G:Nat->World->World->Prop)(p:List (SU G))(b:SU G)(kt:List (List Nat))(kR:Bool)(dA:List (Option Tmp × Nat)){id:Nat}(hm:P.follows .mixedOrders=true)(hc:B2 .any l.toArray kt kR=true)(hA:((List.range l.length).map λi=>(jN l.toArray i,i))=dA)(ad:∀c t t' d w,Q (.panic c) ⟨t,d⟩ w->Q (.panic c) ⟨t',d⟩ w)(y:((List.range l.length).all λi=>(p.getD i b).dp.all λj=>(kt.getD i []).contains j)=true)(g:b.dp=[])(e:p.length=l.length)(A:((List.range l.toArray.size).all λj=>(p.getD j b).ex.all λi=>i==j||mT .any l.toArray j i)=true)(C:∀vs,S (λ_=>false) vs w.drew)(N:rY (rW P l.toArray Q a S T (λi=>p.getD i b) kt kR) 0 l.length)(x:∀f vs w',(∀j,j<l.length->f j=true)->x7 kR (T vs w') (S f vs w'/\mZ (λi=>p.getD i b) vs w' (List.range l.length))->Q .normal (ll vs dA a) w'):(Code.region id l.toArray true).wp P Q a w:=by
 refine wp_region_any hm ?_;have hz:l.toArray.size=l.length:=s_;refine zv (wV hc) ad (B7 y g e) (B6 A) (λi o ho=>rY.get _ _ N i (O_ _) (ov ((Fb.1 ho).1)) o ho) (by rw[hz];intro f vs w' hf h1;rw[oH,hA];exact x f vs w' hf h1) _ _ (λ_=>undef) a _ ?_ s_ ?_ ?_ (.inr ⟨?_,by(have he:(λj=>(Array.replicate l.toArray.size false).getD j false)=(λ_=>false):=by(funext j;rw[EE,F0];split<;>rfl));rw[he];exact C _,?_⟩)
 .intro k ok hk hl
  exfalso
  have ag:=(Fb.1 hk).1;rw[EE,F0,T_ ag]at hl
  cases hl
 .refine G_ (Fl _ _) ?_;simp
 .refine(so.refl a _).congr (λj=>?_) (λ_ _=>rfl);rw[EE,F0];split<;>rfl
 .rintro⟨hl,cZ⟩;have h0:=(wV hc).some hl
  have:=cZ 0 h0
  rw[EE,F0,T_ h0]at this
  cases this
 .intro j hj;rw[EE,F0]at hj;split at hj<;>cases hj
theorem nZ(S:(Nat->Bool)->World->Prop)(T:(Nat->Value)->World->Prop)(G:Nat->World->World->Prop)(p:List (SU G))(b:SU G)(kt:List (List Nat))(kR:Bool)(dA:List (Option Tmp × Nat)){id:Nat}(hm:P.follows .mixedOrders=true)(hc:B2 .any l.toArray kt kR=true)(hA:((List.range l.length).map λi=>(jN l.toArray i,i))=dA)(ad:∀c t t' d w,Q (.panic c) ⟨t,d⟩ w->Q (.panic c) ⟨t',d⟩ w)(y:((List.range l.length).all λi=>(p.getD i b).dp.all λj=>(kt.getD i []).contains j)=true)(g:b.dp=[])(e:p.length=l.length)(A:((List.range l.toArray.size).all λj=>(p.getD j b).ex.all λi=>i==j||mT .any l.toArray j i)=true)(C:S (λ_=>false) w.drew)(N:rY (rW P l.toArray Q a (λf _=>S f) T (λi=>p.getD i b) kt kR) 0 l.length)(x:∀f vs w',(∀j,j<l.length->f j=true)->x7 kR (T vs w') (S f w'/\mZ (λi=>p.getD i b) vs w' (List.range l.length))->Q .normal (ll vs dA a) w'):(Code.region id l.toArray true).wp P Q a w:=
 nY (λf _=>S f) T G p b kt kR dA hm hc hA ad y g e A (λ_=>C) N x
theorem ke(T:(Nat->Value)->World->Prop)(G:World->World->Prop)(p:List (SU (λ_=>G)))(b:SU (λ_=>G))(kt:List (List Nat))(kR:Bool)(dA:List (Option Tmp × Nat)){id:Nat}(hm:P.follows .mixedOrders=true)(hc:B2 .any l.toArray kt kR=true)(hA:((List.range l.length).map λi=>(jN l.toArray i,i))=dA)(ad:∀c t t' d w,Q (.panic c) ⟨t,d⟩ w->Q (.panic c) ⟨t',d⟩ w)(y:((List.range l.length).all λi=>(p.getD i b).dp.all λj=>(kt.getD i []).contains j)=true)(g:b.dp=[])(e:p.length=l.length)(A:((List.range l.toArray.size).all λj=>(p.getD j b).ex.all λi=>i==j||mT .any l.toArray j i)=true)(C:S w.drew)(N:rY (rW P l.toArray Q a (λ_ _=>S) T (λi=>p.getD i b) kt kR) 0 l.length)(x:∀vs w',x7 kR (T vs w') (S w'/\mZ (λi=>p.getD i b) vs w' (List.range l.length))->Q .normal (ll vs dA a) w'):(Code.region id l.toArray true).wp P Q a w:=
 nZ (λ_=>S) T (λ_=>G) p b kt kR dA hm hc hA ad y g e A C N (λ_ vs w' _ h=>x vs w' h)
theorem pj(hb:∀i o,ops[i]?=some o->∀e∈o.after,Region.binds md e=true->e.on<i):∀(f j i:Nat),lj md ops f j i=true->i<j
 |0,_,_,h=>by cases h
 |f+1,j,i,h=>by
  unfold lj at h
  cases ho:ops[j]? with
  |none=>rw[ho]at h;cases h
  |some oj=>
   rw[ho]at h;simp only at h;obtain⟨q,am,U⟩:=GU.1 h;simp only[ES,Gn,beq_iff_eq]at U;have h1:=hb j oj ho _ (Array.getElem_mem am) U.1
   rcases U.2 with h2|h2
   .omega
   .have:=pj hb f _ i h2
    omega
theorem zt{S:(Nat->Bool)->(Nat->Value)->World->Prop}{T:(Nat->Value)->World->Prop}{p:Nat->SU G}{kt:Nat->List Nat}(hc:CW md ops kt kR)(ad:∀c t t' d w,Q (.panic c) ⟨t,d⟩ w->Q (.panic c) ⟨t',d⟩ w)(y:∀i,∀j∈(p i).dp,j∈kt i)(A:∀j,j<ops.size->∀i∈(p j).ex,i=j∨lj md ops 16 j i=true)(N:∀i o,ops[i]?=some o->∀f vs w,f i=false->(∀j∈kt i,f j=true)->S f vs w->mZ p vs w (kt i)->wpOp P ops Q i (λb w'=>∃v,b=(oI ops vs (kt i) a0).put o.dst v/\x7 (kR&&i+1==ops.size) (∀u,T (r6 vs i u) w') (S (λj=>j==i||f j) (r6 vs i v) w'/\G i w w'/\(p i).U vs v w')) (oI ops vs (kt i) a0) w)(x:∀f vs w,(∀j,j<ops.size->f j=true)->x7 kR (T vs w) (S f vs w/\mZ p vs w (List.range ops.size))->Q .normal (oI ops vs (List.range ops.size) a0) w):
 ∀(m k:Nat) (vs:Nat->Value) (a:Act) (w:World),k+m=ops.size->so ops a0 (λj=>decide (j<k)) vs a->x7 (kR&&k==ops.size) (T vs w) (S (λj=>decide (j<k)) vs w/\∀j,j<k->(p j).U vs (vs j) w)->wpOps P ops Q (List.range' k m) a w:=by
 intro m
 induction m with
 |zero=>
  intro k vs a w hk aj C;have h1:=(so.refl (ops:=ops) a0 vs).oI hc.y1 (List.range ops.size) a0 _ (λ_ _=>rfl) List.nodup_range
  have h2:=aj.congr (g:=λj=>(List.range ops.size).contains j||false) (us:=vs) (λj=>by
   have:k=ops.size:=o_
   subst this
   simp) (λ_ _=>rfl)
  show Q .normal a w
  rw[h2.ext h1];have cr:k=ops.size:=o_;refine x (λj=>decide (j<k)) vs w (λj hj=>by simp;omega) ?_;rw[cr]at C
  cases F:kR with
  |true=>rw[F]at C;simpa[x7]using C
  |false=>
   rw[F]at C;have C:S _ vs w/\∀j,j<ops.size->(p j).U vs (vs j) w:=C;exact⟨by rw[cr];exact C.1,mZ.of λj hj=>C.2 j (Fe.1 hj)⟩
 |succ m Z=>
  intro k vs a w hk aj C;rw[List.range'_succ,wpOps_cons];have ag:k<ops.size:=o_;obtain⟨o,ho⟩:∃o,ops[k]?=some o:=⟨_,EH ag⟩
  have ao:(kR&&k==ops.size)=false:=by
   have:(k==ops.size)=false:=p_
   rw[this,Bool.and_false]
  rw[ao]at C;obtain⟨C,J⟩:S (λj=>decide (j<k)) vs w/\∀j,j<k->(p j).U vs (vs j) w:=C
  have bV:=λj hj=>pj hc.back 16 k j (hc.pre k ag j hj)
  have h1:=N k o ho _ vs w s_ (λj hj=>by simpa using bV j hj) C (mZ.of λj hj=>J j (bV j hj));have hP:=(so.refl (ops:=ops) a0 vs).oI hc.y1 (kt k) a0 _ (λ_ _=>rfl) (hc.Eg k ag)
  have bQ:∀d∈o.looksAt ops,a.tmps[d]?=(oI ops vs (kt k) a0).tmps[d]?:=by
   intro d hd
   by_cases hj:∃j,j<k/\jN ops j=some d
   .obtain⟨j,bp,l⟩:=hj
    have bM:j∈kt k:=by
     rcases hc.look k o ho j d l hd with h|h
     .exact h
     .have:=pj hc.back 16 j k h
      omega
    rcases EJ d a0.tmps.size with aJ|bA
    .rw[aj.put j d (zu bp) l aJ,hP.put j d (by simp[bM]) l aJ]
    .rw[Y_ (by rw[aj.size];exact bA),Y_ (by rw[hP.size];exact bA)]
   .have hn:∀j,j<k->jN ops j≠some d:=λj bp l=>hj ⟨j,bp,l⟩
    rw[aj.iy d (λj hj=>hn j (zu hj)),hP.iy d (λj e=>hn j (bV j (zu e)))]
  have h2:=u7 ho (λcs b=>Region.noSelect_spec hc.Ee k o cs b ho) bQ (aj.size.trans hP.size.symm) (aj.defers.trans hP.defers.symm) ad h1;refine wpOp_mono (λb w' hb=>?_) h2;obtain⟨v,rfl,n⟩:=hb
  have D:o.dst=jN ops k:=by unfold jN;rw[ho];rfl
  have H:=aj.add hc.y1 k s_ v;rw[<-D]at H;refine Z (k+1) (λj=>if j=k then v else vs j) _ w' o_ (H.congr (λj=>?_) (λ_ _=>rfl)) ?_
  .rw[Bool.eq_iff_iff];simp;omega
  .cases ev:(kR&&k+1==ops.size)with
   |true=>rw[ev]at n;exact n v
   |false=>
    rw[ev]at n;obtain⟨n,I,K⟩:=n;refine⟨by(have he:(λj=>decide (j<k+1))=(λj=>j==k||decide (j<k)):=by(funext j;rw[Bool.eq_iff_iff];simp;omega));rw[he];exact n,λj hj=>?_⟩
    by_cases s:j=k
    .subst s;simp only[if_true];refine(p j).loc vs _ _ _ (λk hk=>?_) K
     have:=bV k (y j k hk)
     have ao:k≠j:=o_;simp[ao]
    .simp only[s,if_false]
     have aw:k∉(p j).ex:=λhm=>by
      rcases A j o_ k hm with h|h
      .exact s h.symm
      .have:=pj hc.back 16 j k h
       omega
     refine(p j).loc vs _ _ _ (λq am=>?_) ((p j).st k aw _ _ _ _ I (J j o_))
     have:=pj hc.back 16 j q (hc.pre j o_ q (y j q am))
     have ao:q≠k:=o_;simp[ao]
theorem tI(S:(Nat->Bool)->(Nat->Value)->World->Prop)(T:(Nat->Value)->World->Prop)(G:Nat->World->World->Prop)(p:List (SU G))(b:SU G)(kt:List (List Nat))(kR:Bool)(dA:List (Option Tmp × Nat)){id:Nat}(hc:B2 .any l.toArray kt kR=true)(hA:((List.range l.length).map λi=>(jN l.toArray i,i))=dA)(ad:∀c t t' d w,Q (.panic c) ⟨t,d⟩ w->Q (.panic c) ⟨t',d⟩ w)(y:((List.range l.length).all λi=>(p.getD i b).dp.all λj=>(kt.getD i []).contains j)=true)(g:b.dp=[])(e:p.length=l.length)(A:((List.range l.toArray.size).all λj=>(p.getD j b).ex.all λi=>i==j||mT .any l.toArray j i)=true)(C:∀vs,S (λ_=>false) vs w)(N:rY (rW P l.toArray Q a S T (λi=>p.getD i b) kt kR) 0 l.length)(x:∀f vs w',(∀j,j<l.length->f j=true)->x7 kR (T vs w') (S f vs w'/\mZ (λi=>p.getD i b) vs w' (List.range l.length))->Q .normal (ll vs dA a) w'):(Code.region id l.toArray false).wp P Q a w:=by
 refine wp_region ?_;have hz:l.toArray.size=l.length:=s_;have bw:=wV hc;rw[List.range_eq_range'];refine zt bw ad (B7 y g e) (B6 A) (λi o ho=>rY.get _ _ N i (O_ _) (ov ((Fb.1 ho).1)) o ho) (by rw[hz];intro f vs w' hf h1;rw[oH,hA];exact x f vs w' hf h1) l.toArray.size 0 (λ_=>undef) a w o_ ?_ ?_
 .exact(so.refl a _).congr (λj=>by simp) (λ_ _=>rfl)
 .cases hl:kR with
  |false=>exact⟨by simpa using C _,λj hj=>by omega⟩
  |true=>
   have h0:=bw.some hl
   have:((0:Nat)==l.toArray.size)=false:=by simp at h0 |-;intro h;omega
   rw[this];exact⟨by simpa using C _,λj hj=>by omega⟩
theorem pT(S:(Nat->Bool)->World->Prop)(T:(Nat->Value)->World->Prop)(G:Nat->World->World->Prop)(p:List (SU G))(b:SU G)(kt:List (List Nat))(kR:Bool)(dA:List (Option Tmp × Nat)){id:Nat}(hc:B2 .any l.toArray kt kR=true)(hA:((List.range l.length).map λi=>(jN l.toArray i,i))=dA)(ad:∀c t t' d w,Q (.panic c) ⟨t,d⟩ w->Q (.panic c) ⟨t',d⟩ w)(y:((List.range l.length).all λi=>(p.getD i b).dp.all λj=>(kt.getD i []).contains j)=true)(g:b.dp=[])(e:p.length=l.length)(A:((List.range l.toArray.size).all λj=>(p.getD j b).ex.all λi=>i==j||mT .any l.toArray j i)=true)(C:S (λ_=>false) w)(N:rY (rW P l.toArray Q a (λf _=>S f) T (λi=>p.getD i b) kt kR) 0 l.length)(x:∀f vs w',(∀j,j<l.length->f j=true)->x7 kR (T vs w') (S f w'/\mZ (λi=>p.getD i b) vs w' (List.range l.length))->Q .normal (ll vs dA a) w'):(Code.region id l.toArray false).wp P Q a w:=
 tI (λf _=>S f) T G p b kt kR dA hc hA ad y g e A (λ_=>C) N x
theorem iN(T:(Nat->Value)->World->Prop)(G:World->World->Prop)(p:List (SU (λ_=>G)))(b:SU (λ_=>G))(kt:List (List Nat))(kR:Bool)(dA:List (Option Tmp × Nat)){id:Nat}(hc:B2 .any l.toArray kt kR=true)(hA:((List.range l.length).map λi=>(jN l.toArray i,i))=dA)(ad:∀c t t' d w,Q (.panic c) ⟨t,d⟩ w->Q (.panic c) ⟨t',d⟩ w)(y:((List.range l.length).all λi=>(p.getD i b).dp.all λj=>(kt.getD i []).contains j)=true)(g:b.dp=[])(e:p.length=l.length)(A:((List.range l.toArray.size).all λj=>(p.getD j b).ex.all λi=>i==j||mT .any l.toArray j i)=true)(C:S w)(N:rY (rW P l.toArray Q a (λ_ _=>S) T (λi=>p.getD i b) kt kR) 0 l.length)(x:∀vs w',x7 kR (T vs w') (S w'/\mZ (λi=>p.getD i b) vs w' (List.range l.length))->Q .normal (ll vs dA a) w'):(Code.region id l.toArray false).wp P Q a w:=
 pT (λ_=>S) T (λ_=>G) p b kt kR dA hc hA ad y g e A C N (λ_ vs w' _ h=>x vs w' h)
theorem hT{S:World->Prop}{T:(Nat->Value)->World->Prop}{G:World->World->Prop}{p:Nat->SU (λ_=>G)}{r:List Oper}(ds:List (Option Tmp × Nat))(h:∀vs w,S w->mZ p vs w (kt.getD i [])->∀e:Act->World->Prop,Shut (∀v w',S w'->G w w'->(p i).U vs v w'->e ((ll vs ds a0).put o.dst v) w')->
   if Region.wanted o (yielded l.toArray (ll vs ds a0).tmps)=true then Oper.wp P o (ll vs ds a0) w e Q else e ((ll vs ds a0).put o.dst undef) w)(hl:(kR&&i+1==l.length)=false:=by rfl)(ho:l.drop i=o::r:=by rfl)(hd:((kt.getD i []).map λj=>(jN l.toArray j,j))=ds:=by kernel_rfl):
 rW P l.toArray Q a0 (λ_ _=>S) T p kt kR i:=by
 intro g a f vs w hf hp C J;rw[jn ho]at a;injection a with a;subst a;have h1:=h vs w C J;exact Jg
theorem je{S:(Nat->Bool)->World->Prop}{T:(Nat->Value)->World->Prop}{p:Nat->SU G}{r:List Oper}(ds:List (Option Tmp × Nat))(h:∀f vs w,f i=false->S f w->mZ p vs w (kt.getD i [])->∀e:Act->World->Prop,Shut (∀v w',S (λj=>j==i||f j) w'->G i w w'->(p i).U vs v w'->e ((ll vs ds a0).put o.dst v) w')->
   if Region.wanted o (yielded l.toArray (ll vs ds a0).tmps)=true then Oper.wp P o (ll vs ds a0) w e Q else e ((ll vs ds a0).put o.dst undef) w)(hl:(kR&&i+1==l.length)=false:=by rfl)(ho:l.drop i=o::r:=by rfl)(hd:((kt.getD i []).map λj=>(jN l.toArray j,j))=ds:=by kernel_rfl):
 rW P l.toArray Q a0 (λf _=>S f) T p kt kR i:=by
 intro g a f vs w hf hp C J;rw[jn ho]at a;injection a with a;subst a;have h1:=h f vs w hf C J;exact Jg
theorem jP{S:(Nat->Bool)->(Nat->Value)->World->Prop}{T:(Nat->Value)->World->Prop}{p:Nat->SU G}{r:List Oper}(ds:List (Option Tmp × Nat))(h:∀f vs w,f i=false->(∀j∈kt.getD i [],f j=true)->S f vs w->mZ p vs w (kt.getD i [])->∀e:Act->World->Prop,Shut (∀v w',S (λj=>j==i||f j) (r6 vs i v) w'->G i w w'->(p i).U vs v w'->e ((ll vs ds a0).put o.dst v) w')->
   if Region.wanted o (yielded l.toArray (ll vs ds a0).tmps)=true then Oper.wp P o (ll vs ds a0) w e Q else e ((ll vs ds a0).put o.dst undef) w)(hl:(kR&&i+1==l.length)=false:=by rfl)(ho:l.drop i=o::r:=by rfl)(hd:((kt.getD i []).map λj=>(jN l.toArray j,j))=ds:=by kernel_rfl):
 rW P l.toArray Q a0 S T p kt kR i:=by
 intro g a f vs w hf hp C J;rw[jn ho]at a;injection a with a;subst a;have h1:=h f vs w hf hp C J;exact Jg
theorem ju{S:World->Prop}{T:(Nat->Value)->World->Prop}{G:World->World->Prop}{p:Nat->SU (λ_=>G)}{r:List Oper}(ds:List (Option Tmp × Nat))(h:∀vs w,S w->mZ p vs w (kt.getD i [])->∀e:Act->World->Prop,Shut (∀v w',(∀u,T (r6 vs i u) w')->e ((ll vs ds a0).put o.dst v) w')->
   if Region.wanted o (yielded l.toArray (ll vs ds a0).tmps)=true then Oper.wp P o (ll vs ds a0) w e Q else e ((ll vs ds a0).put o.dst undef) w)(hl:(kR&&i+1==l.length)=true:=by rfl)(ho:l.drop i=o::r:=by rfl)(hd:((kt.getD i []).map λj=>(jN l.toArray j,j))=ds:=by kernel_rfl):
 rW P l.toArray Q a0 (λ_ _=>S) T p kt kR i:=by
 intro g a f vs w hf hp C J;rw[jn ho]at a;injection a with a;subst a;have h1:=h vs w C J;exact Ju
theorem vq{S:(Nat->Bool)->World->Prop}{T:(Nat->Value)->World->Prop}{p:Nat->SU G}{r:List Oper}(ds:List (Option Tmp × Nat))(h:∀f vs w,f i=false->S f w->mZ p vs w (kt.getD i [])->∀e:Act->World->Prop,Shut (∀v w',(∀u,T (r6 vs i u) w')->e ((ll vs ds a0).put o.dst v) w')->
   if Region.wanted o (yielded l.toArray (ll vs ds a0).tmps)=true then Oper.wp P o (ll vs ds a0) w e Q else e ((ll vs ds a0).put o.dst undef) w)(hl:(kR&&i+1==l.length)=true:=by rfl)(ho:l.drop i=o::r:=by rfl)(hd:((kt.getD i []).map λj=>(jN l.toArray j,j))=ds:=by kernel_rfl):
 rW P l.toArray Q a0 (λf _=>S f) T p kt kR i:=by
 intro g a f vs w hf hp C J;rw[jn ho]at a;injection a with a;subst a;have h1:=h f vs w hf C J;exact Ju
theorem vp{S:(Nat->Bool)->(Nat->Value)->World->Prop}{T:(Nat->Value)->World->Prop}{p:Nat->SU G}{r:List Oper}(ds:List (Option Tmp × Nat))(h:∀f vs w,f i=false->(∀j∈kt.getD i [],f j=true)->S f vs w->mZ p vs w (kt.getD i [])->∀e:Act->World->Prop,Shut (∀v w',(∀u,T (r6 vs i u) w')->e ((ll vs ds a0).put o.dst v) w')->
   if Region.wanted o (yielded l.toArray (ll vs ds a0).tmps)=true then Oper.wp P o (ll vs ds a0) w e Q else e ((ll vs ds a0).put o.dst undef) w)(hl:(kR&&i+1==l.length)=true:=by rfl)(ho:l.drop i=o::r:=by rfl)(hd:((kt.getD i []).map λj=>(jN l.toArray j,j))=ds:=by kernel_rfl):
 rW P l.toArray Q a0 S T p kt kR i:=by
 intro g a f vs w hf hp C J;rw[jn ho]at a;injection a with a;subst a;have h1:=h f vs w hf hp C J;exact Ju
theorem iW{c A B:Prop}[Decidable c](hc:c)(h:A):if c then A else B:=by rw[T_ hc];exact h
theorem ij(x y:Operand)(ho:o.op=.store ty x y)(g:Nat)(hx:a.eval x=q_ g)(vs:Array Value)(hy:a.eval y=.agg vs)(t:TypeId)(cs:Array Value)(hB:Bk w g t cs)(hs:vs.size=cs.size)(hi:(P.info? ty).map (·.size)=some vs.size)(h1:vs.all (·.oneCell')=true)(h:∀w',Bk w' g t vs->Gr [g] w w'->K (a.put o.dst undef) w'):o.wp P a w K Q:=
 jF ty x y ho g 0 hx vs hy t cs hB o_ hi h1 λw' h2 h3=>h w' (by rw[qq cs vs hs]at h2;exact h2) h3
def SU.val(G:World->World->Prop)(v0:Value):SU (λ_=>G):=SU.of (λv _=>v=v0) (λ_ _ _ _ h=>h)
def SU.num(G:World->World->Prop)(lo hi:Int):SU (λ_=>G):=SU.of (λv _=>∃r:Int,v=i_ r/\lo<=r/\r<hi) (λ_ _ _ _ h=>h)
def SU.AO{M:List Nat}{lo:Nat}(z:∀y∈M,y<lo)(t:TypeId)(cs:Array Value)(n:Nat):SU (λ_=>Gr M):=
 SU.of (λv w=>∃x,v=.slice (j_ x) n n/\lo<=x/\Bk w x t cs) (λ_ _ _ hg⟨x,h1,h2,h3⟩=>⟨x,h1,h2,h3.gr hg (λhm=>by have:=z x hm;omega)⟩)
def SU.elem{M:List Nat}{lo:Nat}(z:∀y∈M,y<lo)(t:TypeId)(cs:Array Value)(n:Nat):SU (λ_=>Gr M):=
 SU.of (λv w=>∃x k:Nat,v=.pointer (some (c_ x k))/\k<n/\lo<=x/\Bk w x t cs) (λ_ _ _ hg⟨x,k,h1,hk,h2,h3⟩=>⟨x,k,h1,hk,h2,h3.gr hg (λhm=>by have:=z x hm;omega)⟩)
def SU.pure(G:World->World->Prop)(U:Value->Prop):SU (λ_=>G):=SU.of (λv _=>U v) (λ_ _ _ _ h=>h)
def SU.any(G:World->World->Prop):SU (λ_=>G):=SU.of (λ_ _=>True) (λ_ _ _ _ h=>h)
def SU.anyI(G:Nat->World->World->Prop):SU G:=SU.zd [] (λ_ _=>True) (λ_ _ _ _ _ _ h=>h)
def SU.mh(G:Nat->World->World->Prop)(v0:Value):SU G:=SU.zd [] (λv _=>v=v0) (λ_ _ _ _ _ _ h=>h)
def SU.less{G H:World->World->Prop}(h:∀a b,H a b->G a b)(s:SU (λ_=>G)):SU (λ_=>H):=⟨s.U,s.ex,λi hi vs v w w' hg hu=>s.st i hi vs v w w' (h _ _ hg) hu,s.dp,s.loc⟩
end
theorem ET.one(t:ET):t.g_.all (·.oneCell')=true:=by unfold ET.g_;simp[Value.oneCell']
def px(n:Int)(A:OA)(a:ET):ET:=.mk 4 n ByteArray.empty 0 A 1 [a]
inductive EG(V:List ByteArray):Nat->ET->Prop
 |num (d:Nat) (n:Int) (h0: -10<=n) (h1:n<=10):EG V d (jy n)
 |var (d:Nat) (s:ByteArray) (h:s∈V):EG V d (jA s)
 |new (d:Nat) (n:Int) (h0:0<=n) (h1:n<=3):EG V d (eNew n)
 |field (d:Nat) (n:Int) (A:OA) (s:ByteArray) (h0:0<=n) (h1:n<=2) (h:s∈V):EG V (d+1) (px n A (jA s))
 |bin (d:Nat) (o:Int) (A:OA) (a b:ET) (h0:1<=o) (h1:o<=11) (ha:EG V d a) (hb:EG V d b):EG V (d+1) (pR o A a b)
structure Ex(B g m R:Nat)(tr:TypeId)(mc zc:Array Value)(W w:World):Prop where
 d:iQ w B g
 m:Bk w m 222 mc
 r:Bk w R tr zc
 g:Gr [g] W w
theorem Ex.step{B g m R:Nat}{mc zc:Array Value}{W:World}(h:Ex B g m R tr mc zc W w)(hg:Gr [g] w w')(hd:iQ w' B g)(h1:m≠g)(h2:R≠g):Ex B g m R tr mc zc W w':=
 ⟨hd,h.m.gr hg (zu h1),h.r.gr hg (zu h2),h.g.trans hg⟩
theorem Ex.hG{B g m R:Nat}{mc zc:Array Value}{W:World}(h:Ex B g m R tr mc zc W w)(hg:Gr [] w w'):Ex B g m R tr mc zc W w':=
 ⟨h.d.hG hg,h.m.hG hg,h.r.hG hg,h.g.trans (hg.mono s_)⟩
def SU.tree{M:List Nat}{lo:Nat}(z:∀y∈M,y<lo)(d:Nat):SU (λ_=>Gr M):=
 SU.of (λv w=>∃t:ET,v=.agg t.g_/\kk (jE lo) w t/\EG hV d t) (λ_ _ _ hg⟨t,h1,h2,h3⟩=>⟨t,h1,h2.ih hg (λx hx=>Fn.2 (z x hx)),h3⟩)
theorem Ci(i:Int)(h0:0<=i)(h1:i<2):∃s,s∈hV/\(#[.string {data:=#[112]},.string {data:=#[113]}]:Array Value)[i.toNat]?=some (.string s):=by
 obtain⟨k,rfl⟩:∃k:Nat,i=k:=⟨i.toNat,o_⟩
 match k,h1 with
 |0,_=>exact⟨oZ,by simp[hV],rfl⟩
 |1,_=>exact⟨mR,by simp[hV],rfl⟩
theorem Gr.s3{g R:Nat}{a b c:World}(h:Gr [g] a b)(k:Gr [R] b c)(hR:a.heap.size<=R):Gr [g] a c:=h.hK k (by intro x hx;right;simp at hx;omega)
theorem kC(B g m:Nat)(left loops fn:Int)(d:Nat)(aZ:d<=100):∀(D:Int) (_:D=d) (w:World) (_:iQ w B g) (_:Bk w m 222 #[q_ g,i_ left,i_ loops,i_ fn]) (_:B<=m),
 Calls prog 140 #[q_ m,i_ D] w λe w'=>∃t,e=.returned (.agg t.g_)/\kk (jE w.heap.size) w' t/\EG hV d t/\iQ w' B g/\Gr [g] w w':=by
 induction d with
 |zero=>
  intro D hD w hd hm hBm;have bl:=hd.xa;have ct:=hm.lt;have ak:D=0:=hD;subst ak;clear hD
  go_enter func140,ntmps140
  go_upto_region 1 with fail
  have a2:Gr [] w (w.alloc (.cells E_ 226)):=(F_ [] w).alloc _;replace hd:=hd.hG a2;replace hm:=hm.hG a2;have hR:=P_ w 226 E_;have I:Gr [g] w (w.alloc (.cells E_ 226)):=(F_ [g] w).alloc _;clear a2;obtain⟨bp,b5⟩:=nm_ (w.alloc (.cells E_ 226));rw[<-b5]at hd hm hR I |-;clear b5;obtain⟨R0,cw⟩:=nm_ w.heap.size;rw[<-cw]at hR |-;have dt:w.heap.size<=R0:=o_;have cU:g<R0:=o_;have aF:B<=R0:=o_;have cW:m<R0:=ov ct;clear cw;have U:=hm.f_ 0
  go_upto_region 2 with(go_at_call 19;refine(iw B g 12 _ hd o_ o_).mono ?_;rintro e w1⟨k,rfl,b9,bV,bK,aT⟩)
  replace hm:=hm.gr aT p_;replace hR:=hR.gr aT p_;replace I:=I.trans aT;replace hd:=bK;clear aT U;have U:=hm.f_ 0
  by_cases au:k<4
  .exact HQ
  by_cases bL:k<8
  .exact Hm
  .exact Hm
 |succ d Z=>
  intro D hD w hd hm hBm;have bl:=hd.xa;have ct:=hm.lt;have av:(D==0)=false:=p_;have ax:¬D=0:=o_;have ar:IntKind.i64.wrap (D-1)=D-1:=E2 _ o_;have ca:=h_ (show D-1=d by omega);clear hD
  go_enter func140,ntmps140
  go_upto_region 1 with fail
  have a2:Gr [] w (w.alloc (.cells E_ 226)):=(F_ [] w).alloc _;replace hd:=hd.hG a2;replace hm:=hm.hG a2;have hR:=P_ w 226 E_;have I:Gr [g] w (w.alloc (.cells E_ 226)):=(F_ [g] w).alloc _;clear a2;obtain⟨bp,b5⟩:=nm_ (w.alloc (.cells E_ 226));rw[<-b5]at hd hm hR I |-;clear b5;obtain⟨R0,cw⟩:=nm_ w.heap.size;rw[<-cw]at hR |-;have dt:w.heap.size<=R0:=o_;have cU:g<R0:=o_;have aF:B<=R0:=o_;have cW:m<R0:=ov ct;clear cw;have U:=hm.f_ 0
  go_upto_region 2 with(go_at_call 19;refine(iw B g 12 _ hd o_ o_).mono ?_;rintro e w1⟨k,rfl,b9,bV,bK,aT⟩)
  replace hm:=hm.gr aT p_;replace hR:=hR.gr aT p_;replace I:=I.trans aT;replace hd:=bK;clear aT U;have U:=hm.f_ 0
  by_cases au:k<4
  .exact HQ
  by_cases bL:k<8
  .exact Hm
  by_cases dN:k=8
  .subst dN
   go_upto_region 7 with fail
   obtain⟨W,aE⟩:=nm_ w1;rw[<-aE]at hd hm hR I |-;clear aE U;have aH:∀y∈[g,R0],y<R0+1:=p_;have ag:m≠g:=o_;have aI:R0≠g:=o_;have aC:Ex B g m R0 226 #[q_ g,i_ left,i_ loops,i_ fn] E_ W W.drew:=⟨hd.hG (F_ [] W).drew,hm.hG (F_ [] W).drew,hR.hG (F_ [] W).drew,(F_ [g] W).drew⟩;refine ke (Ex B g m R0 226 #[q_ g,i_ left,i_ loops,i_ fn] E_ W) (λ_ X=>∃t,Bk X R0 226 t.g_/\kk (jE (R0+1)) X t/\EG hV (d+1) t/\iQ X B g/\Gr [g,R0] W X) (Gr [g,R0]) [SU.val _ (q_ m),SU.val _ (q_ m),SU.val _ (q_ m),SU.val _ (q_ g),SU.num _ 0 3,SU.AO aH 9 #[.string {data:=#[112]},.string {data:=#[113]}] 2,SU.val _ (q_ m),SU.val _ (q_ m),SU.val _ (q_ m),SU.val _ (q_ g),SU.num _ 0 2,SU.elem aH 9 #[.string {data:=#[112]},.string {data:=#[113]}] 2,SU.pure _ (λv=>∃s,s∈hV/\v=.string s),SU.pure _ (λv=>∃s,s∈hV/\v=.agg #[i_ 3,i_ 0,.string s,i_ 0,n_]),SU.of (λv w=>∃x s,s∈hV/\v=.slice (j_ x) 1 1/\R0+1<=x/\Bk w x 226 #[i_ 3,i_ 0,.string s,i_ 0,n_]) (λ_ _ _ hg⟨x,s,h0,h1,h2,h3⟩=>⟨x,s,h0,h1,h2,h3.gr hg (λhm=>by have:=aH x hm;omega)⟩),SU.tree aH (d+1),SU.any _] (SU.any _) [[],[0],[1],[2],[3],[],[],[6],[7],[8],[9],[5,10],[11],[12],[13],[4,14],[15]] true [(some 42,0),(some 43,1),(some 44,2),(some 45,3),(some 46,4),(some 47,5),(some 48,6),(some 49,7),(some 50,8),(some 51,9),(some 52,10),(some 53,11),(some 54,12),(some 55,13),(some 56,14),(some 57,15),(none,16)] k_ k_ k_ (λ_ _ _ _ _ h=>h) k_ rfl rfl k_ aC ⟨?_,?_,?_,?_,?_,?_,?_,?_,?_,?_,?_,?_,?_,?_,?_,?_,?_,trivial⟩ ?_
   .exact J5
   .refine hT [(some 42,0)] ?_;exact JM
   .refine hT [(some 43,1)] ?_;exact JM
   .refine hT [(some 44,2)] ?_;exact Jd
   .refine hT [(some 45,3)] ?_;intro vs Q C J K H;obtain⟨o, -⟩:=J;replace o:_=_:=o
    try simp only[b_,o]at H |-
    go_simp
    go_at_call 19
    refine(iw B g 3 _ C.d o_ o_).mono ?_;exact J9
   .exact Je
   .exact J5
   .refine hT [(some 48,6)] ?_;exact JM
   .refine hT [(some 49,7)] ?_;exact JM
   .refine hT [(some 50,8)] ?_;exact Jd
   .refine hT [(some 51,9)] ?_;intro vs Q C J K H;obtain⟨o, -⟩:=J;replace o:_=_:=o
    try simp only[b_,o]at H |-
    go_simp
    go_at_call 19
    refine(iw B g 2 _ C.d o_ o_).mono ?_;exact J9
   .refine hT [(some 47,5),(some 52,10)] ?_;exact IL
   .refine hT [(some 53,11)] ?_;intro vs Q C J K H;obtain⟨⟨aX,E,o,bn,bi,a6⟩, -⟩:=J
    try simp only[b_,o]at H |-
    obtain⟨s,hs,bN⟩:=Ci E o_ o_;exact KX
   .refine hT [(some 54,12)] ?_;intro vs Q C J K H;obtain⟨⟨bo,cr,o⟩, -⟩:=J
    try simp only[b_,o]at H |-
    go_simp
    go_at_call 145
    refine(ka bo _).mono ?_;rintro e w1⟨rfl,hg1⟩;exact H.out _ _ (C.hG hg1) (hg1.mono s_) ⟨bo,cr,rfl⟩
   .refine hT [(some 55,13)] ?_;intro vs Q C J K H;obtain⟨⟨bo,cr,o⟩, -⟩:=J
    try simp only[b_,o]at H |-
    go_simp;exact H.out _ _ (C.hG ((F_ [] _).alloc _)) ((F_ _ _).alloc _) ⟨_,bo,cr,rfl,C.r.lt,P_ _ _ _⟩
   .refine hT [(some 46,4),(some 56,14)] ?_;intro vs Q C J K H;obtain⟨⟨a8,o,cM,bn⟩,⟨aN,sb,mb,ap,cD,bB⟩, -⟩:=J
    try simp only[b_,o,ap]at H |-
    go_simp;exact H.out (.agg (px a8 (j_ aN) (jA sb)).g_) _ C (F_ _ _) ⟨px a8 (j_ aN) (jA sb),rfl,.mk _ (jj (n:=1) bB rfl) (H_ _) (λx off h _=>by injection h with h;injection h with h;omega) (by intro u hu;rcases L_.1 hu with rfl|hu;exact kk.leaf _ _ _ _ _ _;cases hu),EG.field _ _ _ _ o_ o_ mb⟩
   .refine ju [(some 57,15)] ?_;exact Iv
   exact JF
  by_cases l:k=9
  .subst l
   go_upto_region 9 with fail
   go_wp2_with ((go_at_call 19;refine(iw B g 4 _ hd o_ o_).mono ?_;rintro e w2⟨r,rfl,bD,bJ,b6,F⟩);replace hR:=hR.gr F p_;replace hd:=b6;replace I:=I.trans F;have br:=hR.hH 0;have z0:=hR.f_ 0;have bH:=hR.hH 1;have aM:=hR.f_ 1;have b8:=hR.hH 2;have aV:=hR.f_ 2;have dr:=hR.hH 3;have z3:=hR.f_ 3;have dR:=hR.hH 4;have z4:=hR.f_ 4)
   have aw:=(((((hR.hW 0 (i_ 6)).hW 1 (i_ r)).hW 2 (e_)).hW 3 (i_ 0)).hW 4 (n_));have G:=((((((F_ [R0] w2).setCell (p:=(c_ R0 0)) (.inl s_) (i_ 6)).setCell (p:=(c_ R0 1)) (.inl s_) (i_ r)).setCell (p:=(c_ R0 2)) (.inl s_) (e_)).setCell (p:=(c_ R0 3)) (.inl s_) (i_ 0)).setCell (p:=(c_ R0 4)) (.inl s_) (n_));exact rr_ (eNew r).g_ aw underlying226 ⟨eNew r,rfl,kk.leaf _ _ _ _ _ _,EG.new _ _ o_ o_,hd.ih G p_,(I.s3 G dt)⟩
  have cQ:(k==8)=false:=p_;have az:(k==9)=false:=p_
  go_upto_region 10 with fail
  have ao:True:=trivial;have c:=hR.lt
  go_wp2_with (first|((go_at_call 19;refine(iw B g 11 _ hd o_ o_).mono ?_;rintro e w2⟨r,rfl,bD,bJ,b6,F⟩);have b4:IntKind.i64.wrap (1+r)=1+r:=E2 _ o_;replace hm:=hm.gr F p_;replace hR:=hR.gr F p_;replace I:=I.trans F;replace hd:=b6;clear U;have U:=hm.f_ 0;have L:R0+1<=w2.heap.size:=hR.lt)|(go_at_call 140;clear ao;refine(Z o_ (D-1) ca.out _ hd hm hBm).mono ?_;rintro e aq⟨t1,rfl,ai,hq1,R,i⟩;replace ai:=ai.le L;replace hm:=hm.gr i p_;replace hR:=hR.gr i p_;replace I:=I.trans i;replace hd:=R;clear U;have U:=hm.f_ 0;have ay:=I.size;have N:R0+1<=aq.heap.size:=hR.lt)|(go_at_call 140;refine(Z o_ (D-1) ca.out _ hd hm hBm).mono ?_;rintro e aB⟨af,rfl,M,cA,T,b⟩;replace ai:=ai.ih b (by intro x hx;simp at hx;omega);replace M:=M.le N;replace hm:=hm.gr b p_;replace hR:=hR.gr b p_;replace I:=I.trans b;replace hd:=T;clear U;have U:=hm.f_ 0)|(go_at_call 143;refine(ot (R0+1) (1+r) t1 af _ hR.lt ai M).mono ?_;rintro e Y⟨aY,rfl,cn,ah⟩;replace hR:=hR.hG ah;replace hd:=hd.hG ah;replace I:=I.trans (ah.mono s_))|(refine kQ (pR (1+r) aY t1 af).g_ hR (ET.one _) ?_;intro X aw G))
  exact rr_ (pR (1+r) aY t1 af).g_ aw underlying226 ⟨pR (1+r) aY t1 af,rfl,(cn.ih G (by intro x hx;simp at hx;omega)).le o_,EG.bin _ _ _ _ _ o_ o_ hq1 cA,hd.ih G p_,(I.s3 G dt)⟩
def i4:ByteArray:={data:=#[]}
inductive mP(V:List ByteArray):Int->ByteArray->ByteArray->Int->Int->Nat->Bool->Bool->Prop
 |uU (x:ByteArray) (h:x∈V):mP V 1 x i4 0 0 1 false false
 |DJ (n:Int) (h0:0<=n) (h1:n<=2):mP V 2 i4 i4 n 0 2 false false
 |v2 (x:ByteArray) (h:x∈V):mP V 3 x pQ 0 0 2 false false
 |vZ (x:ByteArray) (h:x∈V):mP V 3 x pm 0 0 1 false false
 |C7:mP V 4 i4 i4 0 0 1 true true
 |zP (x:ByteArray) (h:x∈V):mP V 5 x i4 0 0 2 true false
 |DI:mP V 6 i4 i4 0 0 1 true false
 |ret:mP V 7 i4 i4 0 0 1 false false
 |DH:mP V 8 i4 i4 0 0 1 false false
 |Bh (x:ByteArray) (h:x∈V):mP V 9 x i4 0 0 0 true true
 |DN:mP V 10 i4 i4 0 0 1 false false
 |ask (x:ByteArray) (h:x∈V):mP V 11 x i4 0 0 1 false false
 |red (x:ByteArray) (h:x∈V) (o:Int) (ho:o=1∨o=6∨o=9):mP V 12 x i4 0 o 1 false false
inductive lR(V:List ByteArray):Nat->Nat->List ST->Prop
 |nil (D:Nat):lR V D 0 []
 |cons (D a b nb nl:Nat) (t:ST) (l:List ST) (B L:Bool) (h:mP V t.h6 t.name t.fn t.n t.op t.es.length B L) (hB:B=false->t.bs=[]) (hL:L=false->t.ls=[]) (hes:∀e∈t.es,EG V 2 e)
   (hb:lR V D nb t.bs) (hl:lR V D nl t.ls) (ha:a=1+nb+nl) (hr:lR V (D+1) b l):lR V (D+1) (a+b) (t::l)
def SG(V:List ByteArray)(D N:Nat)(t:ST):Prop:=lR V D N [t]
theorem lR.append{a b:Nat}{l m:List ST}(h:lR V D a l)(k:lR V D b m):lR V D (a+b) (l++m):=by
 induction h with
 |nil D=>simpa using k
 |cons D a b nb nl t l B L h hB hL hes hb hl ha hr _ _ Z=>
  have:=Z k
  rw[Gd];exact .cons D a _ nb nl t _ B L h hB hL hes hb hl ha this
theorem EG.mono{d e:Nat}{t:ET}(h:EG V d t)(g:d<=e):EG V e t:=by
 induction h generalizing e with
 |num d n h0 h1=>exact .num _ n h0 h1
 |var d s h=>exact .var _ s h
 |new d n h0 h1=>exact .new _ n h0 h1
 |field d n A s h0 h1 h=>
  obtain⟨e,rfl⟩:∃k,e=k+1:=⟨e-1,o_⟩;exact .field _ n A s h0 h1 h
 |bin d o A a b h0 h1 _ _ f c=>
  obtain⟨e,rfl⟩:∃k,e=k+1:=⟨e-1,o_⟩;exact .bin _ o A a b h0 h1 (f o_) (c o_)
theorem EG.sub{W:List ByteArray}{d:Nat}{t:ET}(h:EG V d t)(aZ:∀s∈V,s∈W):EG W d t:=by
 induction h with
 |num d n h0 h1=>exact .num _ n h0 h1
 |var d s h=>exact .var _ s (aZ s h)
 |new d n h0 h1=>exact .new _ n h0 h1
 |field d n A s h0 h1 h=>exact .field _ n A s h0 h1 (aZ s h)
 |bin d o A a b h0 h1 _ _ f c=>exact .bin _ o A a b h0 h1 f c
theorem mP.sub{W:List ByteArray}{k n o:Int}{x f:ByteArray}{m:Nat}{B L:Bool}(h:mP V k x f n o m B L)(aZ:∀s∈V,s∈W):mP W k x f n o m B L:=by
 cases h with
 |uU x h=>exact .uU _ (aZ _ h)
 |DJ n h0 h1=>exact .DJ _ h0 h1
 |v2 x h=>exact .v2 _ (aZ _ h)
 |vZ x h=>exact .vZ _ (aZ _ h)
 |C7=>exact .C7
 |zP x h=>exact .zP _ (aZ _ h)
 |DI=>exact .DI
 |ret=>exact .ret
 |DH=>exact .DH
 |Bh x h=>exact .Bh _ (aZ _ h)
 |DN=>exact .DN
 |ask x h=>exact .ask _ (aZ _ h)
 |red x h o ho=>exact .red _ (aZ _ h) _ ho
theorem lR.sub{W:List ByteArray}{l:List ST}(h:lR V D N l)(aZ:∀s∈V,s∈W):lR W D N l:=by
 induction h with
 |nil D=>exact .nil D
 |cons D a b nb nl t l B L h hB hL hes _ _ ha _ c d f=>exact .cons D a b nb nl t l B L (h.sub aZ) hB hL (λe he=>(hes e he).sub aZ) c d ha f
theorem lR.mono{r:Nat}{l:List ST}(h:lR V D N l)(hD:D<=r):lR V r N l:=by
 induction h generalizing r with
 |nil D=>exact .nil r
 |cons D a b nb nl t l B L h hB hL hes _ _ ha _ c d f=>
  obtain⟨e,rfl⟩:∃k,r=k+1:=⟨r-1,o_⟩;exact .cons e a b nb nl t l B L h hB hL hes (c o_) (d o_) ha (f hD)
theorem SG.leaf(h:mP V t.h6 t.name t.fn t.n t.op t.es.length false false)(hb:t.bs=[])(hl:t.ls=[])(hes:∀e∈t.es,EG V 2 e):SG V (D+1) 1 t:=
 .cons D 1 0 0 0 t [] false false h (λ_=>hb) (λ_=>hl) hes (by rw[hb];exact .nil D) (by rw[hl];exact .nil D) rfl (.nil _)
theorem SG.node{nb nl:Nat}(h:mP V t.h6 t.name t.fn t.n t.op t.es.length true true)(hes:∀e∈t.es,EG V 2 e)(hb:lR V D nb t.bs)(hl:lR V D nl t.ls):SG V (D+1) (1+nb+nl) t:=
 .cons D (1+nb+nl) 0 nb nl t [] true true h (λh=>by cases h) (λh=>by cases h) hes hb hl rfl (.nil _)
theorem SG.loop{nb:Nat}(h:mP V t.h6 t.name t.fn t.n t.op t.es.length true false)(hls:t.ls=[])(hes:∀e∈t.es,EG V 2 e)(hb:lR V D nb t.bs):SG V (D+1) (1+nb) t:=
 .cons D (1+nb) 0 nb 0 t [] true false h (λh=>by cases h) (λ_=>hls) hes hb (by rw[hls];exact .nil D) rfl (.nil _)
def lI(k:Int)(x f:ByteArray)(n o:Int)(A:OA)(c:Nat)(es:List ET):ST:=.mk k x f n o A c es none 0 [] none 0 []
theorem jK.es{p:Nat->Prop}(x f:ByteArray)(n o:Int){b:Nat}{es:List ET}(hs:Sl w 226 5 (j_ b) es.length (es.flatMap ET.E))(hp:p b)(hes:∀u∈es,kk p w u):jK p w (lI k x f n o (j_ b) es.length es):=
 .mk _ hs (H_ _) (λy off h _=>by injection h with h;injection h with h;subst h;exact hp) hes (Fm _ _ _ _) (H_ _) (λ_ _ h _=>by cases h) (λu hu=>by cases hu) (Fm _ _ _ _) (H_ _) (λ_ _ h _=>by cases h) (λu hu=>by cases hu)
def SU.trees{M:List Nat}{lo:Nat}(z:∀y∈M,y<lo)(d n:Nat):SU (λ_=>Gr M):=
 SU.of (λv w=>∃(x:Nat) (ts:List ET),v=.slice (j_ x) n n/\ts.length=n/\lo<=x/\Sl w 226 5 (j_ x) n (ts.flatMap ET.E)/\∀t∈ts,kk (jE lo) w t/\EG hV d t)
  (λ_ _ _ hg⟨x,ts,h1,h2,h3,au,aq⟩=>⟨x,ts,h1,h2,h3,au.iy λy off hA hx=>hg.block y hx (λhm=>by injection hA with hA;injection hA with hA;have:=z y hm;omega),λt ht=>⟨(aq t ht).1.ih hg (λx hx=>Fn.2 (z x hx)),(aq t ht).2⟩⟩)
def SU.stmt{M:List Nat}{lo:Nat}(z:∀y∈M,y<lo)(D N:Nat):SU (λ_=>Gr M):=
 SU.of (λv w=>∃t:ST,v=.agg t.g_/\jK (jE lo) w t/\SG hV D N t) (λ_ _ _ hg⟨t,h1,h2,h3⟩=>⟨t,h1,h2.ih hg (λx hx=>Fn.2 (z x hx)),h3⟩)
theorem ST.one(t:ST):t.g_.all (·.oneCell')=true:=by unfold ST.g_;simp[Value.oneCell']
theorem ET.ip(n:Int)(s:ByteArray)(o:Int)(A:OA)(c:Nat)(l:List ET):(ET.mk k n s o A c l).g_=#[i_ k,i_ n,.string s,i_ o,.slice A l.length c]:=rfl
theorem ST.ip(x f:ByteArray)(n o:Int)(A:OA)(c:Nat)(es:List ET)(A1:OA)(c1:Nat)(bs:List ST)(av:OA)(ai:Nat)(ls:List ST):(ST.mk k x f n o A c es A1 c1 bs av ai ls).g_=#[i_ k,.string x,.string f,i_ n,i_ o,.slice A es.length c,.slice A1 bs.length c1,.slice av ls.length ai]:=rfl
theorem nu(t:ET)(h:Bk w x 226 t.g_):Sl w 226 5 (j_ x) 1 ([t].flatMap ET.E):=jj (n:=1) h rfl
theorem sK(a b:ET)(h:Bk w x 226 (a.g_++b.g_)):Sl w 226 5 (j_ x) 2 ([a,b].flatMap ET.E):=by
 have:=jj (n:=2) (s:=5) h rfl
 rw[Array.toList_append]at this;exact this
section
variable{P:Program}
theorem zS(w:World)(base:Nat)(t ty e:TypeId)(i:TypeInfo)(z:Value)(size bytes:Nat)(ht:P.underlying t=some (.slice e))(hi:P.info? e=some i)(hz:i.zero=some z)(q:i.size=size)(p:i.bytes=bytes)(C:z.cells.size=size)(aL:0<size)(B:OA)(aw n:Nat)(xs:List Value)(aF:w.ownsRow base e size (.slice B n aw) n xs)(A:OA)(m c:Nat)(news:List Value)(hr:Sl w f size A m news)(h1:∀u∈news,u.oneCell'=true)(y:(n+m)*bytes<=140737488355328)(L:0<bytes)(br:base<=w.heap.size):
 ∃A' c' w',(Builtin.append_ #[t,t] ty #[.slice B n aw,.slice A m c]).run P w=.ok (.slice A' (n+m) c') w'/\w'.ownsRow base e size (.slice A' (n+m) c') (n+m) (xs++news)/\w.grownBy w' (Value.slice B n aw).ownBlock/\((Value.slice A' (n+m) c').ownBlock=(Value.slice B n aw).ownBlock∨(Value.slice A' (n+m) c').ownBlock=some w.heap.size):=by
 by_cases hm:m=0
 .subst hm;have hn:=EP (zu hr.1);subst hn;exact⟨B,aw,w,by simpa using l7 w base t ty e i size ht hi _ n xs aF A c,by simpa using aF,World.grownBy.refl w _,.inl rfl⟩
 .obtain⟨d,rfl,j⟩:=hr.nG o_
  have l:n+m<=maxLen:=by
   have:n+m<=(n+m)*bytes:=F2 _ L
   simp only[maxLen];omega
  obtain⟨v',w',N,h2,h3,_,aq⟩:=run_append_own_at (P:=P) w base t ty e i z size bytes ht hi hz q p C aL _ n xs aF d m c news hr.1 j h1 l y br;have hf:∃A' c',v'=.slice A' (n+m) c':=J6;obtain⟨A',c',rfl⟩:=hf;exact⟨A',c',w',N,h2,h3,aq⟩
theorem oE{Q:Exit->Act->World->Prop}(s x:Operand)(t:TypeId)(ho:o.op=.call {callee:=.builtin .append,args:=#[s,x],argTypes:=#[t,t]})(base:Nat)(e:TypeId)(i:TypeInfo)(z:Value)(size bytes:Nat)(ht:P.underlying t=some (.slice e))(hi:P.info? e=some i)(hz:i.zero=some z)(q:i.size=size)(p:i.bytes=bytes)(C:z.cells.size=size)(aL:0<size)(L:0<bytes)(B:OA)(n aw:Nat)(xs:List Value)(hs:a.eval s=.slice B n aw)(aF:w.ownsRow base e size (.slice B n aw) n xs)(A:OA)(m c:Nat)(news:List Value)(hx:a.eval x=.slice A m c)(hr:Sl w f size A m news)(h1:∀u∈news,u.oneCell'=true)(y:(n+m)*bytes<=140737488355328)(br:base<=w.heap.size)(h:∀(A':OA) (c':Nat) (w':World),w'.ownsRow base e size (.slice A' (n+m) c') (n+m) (xs++news)->w.grownBy w' (Value.slice B n aw).ownBlock->((Value.slice A' (n+m) c').ownBlock=(Value.slice B n aw).ownBlock∨(Value.slice A' (n+m) c').ownBlock=some w.heap.size)->K (a.put o.dst (.slice A' (n+m) c')) w'):o.wp P a w K Q:=by
 obtain⟨A',c',w',N,h2,h3,au⟩:=zS (P:=P) w base t o.type e i z size bytes ht hi hz q p C aL B aw n xs aF A m c news hr h1 y L br;exact Jx
theorem j4{ops:Array Oper}{rest:List Oper}{Q:Exit->Act->World->Prop}(V:o.guard=none)(s x:Operand)(t:TypeId)(ho:o.op=.call {callee:=.builtin .append,args:=#[s,x],argTypes:=#[t,t]})(base:Nat)(e:TypeId)(i:TypeInfo)(z:Value)(size bytes:Nat)(ht:P.underlying t=some (.slice e))(hi:P.info? e=some i)(hz:i.zero=some z)(q:i.size=size)(p:i.bytes=bytes)(C:z.cells.size=size)(aL:0<size)(L:0<bytes)(B:OA)(n aw:Nat)(xs:List Value)(hs:a.eval s=.slice B n aw)(aF:w.ownsRow base e size (.slice B n aw) n xs)(A:OA)(m c:Nat)(news:List Value)(hx:a.eval x=.slice A m c)(hr:Sl w f size A m news)(h1:∀u∈news,u.oneCell'=true)(y:(n+m)*bytes<=140737488355328)(br:base<=w.heap.size)(h:∀(A':OA) (c':Nat) (w':World),w'.ownsRow base e size (.slice A' (n+m) c') (n+m) (xs++news)->w.grownBy w' (Value.slice B n aw).ownBlock->((Value.slice A' (n+m) c').ownBlock=(Value.slice B n aw).ownBlock∨(Value.slice A' (n+m) c').ownBlock=some w.heap.size)->wpList P ops Q rest (a.put o.dst (.slice A' (n+m) c')) w'):wpList P ops Q (o::rest) a w:=
 wpList_plain V λ_ H=>oE s x t ho base e i z size bytes ht hi hz q p C aL L B n aw xs hs aF A m c news hx hr h1 y br λA' c' w' h2 h3 au=>H _ _ (h A' c' w' h2 h3 au)
end
def yM(base:Nat)(o:Option Nat)(x:Nat):Prop:=base<=x/\o≠some x
def oA(o:Option Nat):List Nat:=match o with|some b=>[b]|none=>[]
theorem jJ{o:Option Nat}:x∈oA o↔o=some x:=by
 cases o with
 |none=>simp[oA]
 |some b=>simp[oA,eq_comm]
theorem Gr.iX{o:Option Nat}(h:w.grownBy w' o):Gr (oA o) w w':=
 ⟨h.os,h.tape,h.output,h.size,λk hk hn=>h.block k hk (λhe=>hn (jJ.2 he.symm))⟩
theorem nP{size n:Nat}(h:w.ownsRow base e size v n xs)(hg:Gr M w w')(z:∀x∈M,v.ownBlock≠some x):w'.ownsRow base e size v n xs:=by
 refine⟨h.1,?_⟩
 rcases h.2 with h0|⟨g,lW,cur,rfl,h2,h3,au⟩
 .exact .inl h0
 .refine .inr ⟨g,lW,cur,rfl,h2,?_,au⟩;rw[hg.block g (k6 h3) (λhm=>z g hm rfl)];exact h3
theorem ku{size n:Nat}(h:w.ownsRow base e size v n xs)(hx:v.ownBlock=some x):base<=x/\x<w.heap.size:=by
 rcases h.2 with⟨rfl,_⟩|⟨g,lW,cur,rfl,h2,h3,_⟩
 .cases hx
 .have:g=x:=by simpa[Value.ownBlock]using hx
  subst this;exact⟨h2,k6 h3⟩
structure lC(V:List ByteArray)(base D N:Nat)(w:World)(A:OA)(c:Nat)(ts:List ST):Prop where
 own:w.ownsRow base 229 8 (.slice A ts.length c) ts.length (ts.flatMap ST.E)
 js:∀t∈ts,jK (yM base (Value.slice A ts.length c).ownBlock) w t
 sg:lR V D N ts
theorem lC.iy{c:Nat}(h:lC V base D N w A c ts)(hg:Gr M w w')(z:∀x∈M,x<base):lC V base D N w' A c ts:=
 ⟨nP h.own hg (λx hx he=>by have:=(ku h.own he).1;have:=z x hx;omega),λt ht=>(h.js t ht).ih hg (λx hx hp=>by have:=z x hx;have:=hp.1;omega),h.sg⟩
theorem lC.nil(V:List ByteArray)(base D:Nat)(w:World):lC V base D 0 w none 0 []:=⟨iV _ _ _ _,(λ_ h=>by cases h),.nil _⟩
theorem lC.le{d c:Nat}(h:lC V base D N w A c ts)(hb:d<=base):lC V d D N w A c ts:=
 ⟨oi h.own hb,λt ht=>(h.js t ht).imp λx hx=>⟨G_ hb hx.1,hx.2⟩,h.sg⟩
theorem lC.add{K c c':Nat}{A':OA}{us:List ST}(h:lC V base D N w A c ts)(aF:w'.ownsRow base 229 8 (.slice A' (ts.length+us.length) c') (ts.length+us.length) (ts.flatMap ST.E++us.flatMap ST.E))(hg:w.grownBy w' (Value.slice A ts.length c).ownBlock)(hb:(Value.slice A' (ts.length+us.length) c').ownBlock=(Value.slice A ts.length c).ownBlock∨(Value.slice A' (ts.length+us.length) c').ownBlock=some w.heap.size)(hu:∀u∈us,jK (yM base (Value.slice A ts.length c).ownBlock) w u)(bO:lR V D K us):lC V base D (N+K) w' A' c' (ts++us):=by
 refine⟨?_,?_,h.sg.append bO⟩
 .rw[J_,EZ];exact aF
 .intro t ht
  have h1:jK (yM base (Value.slice A ts.length c).ownBlock) w t:=by
   rcases X_.1 ht with ht|ht
   .exact h.js t ht
   .exact hu t ht
  have h2:=h1.lt.ih (Gr.iX hg) (λx hx hp=>hp.1.2 (jJ.1 hx))
  refine h2.imp λx hx=>⟨hx.1.1,?_⟩
  rw[J_]
  rcases hb with hb|hb
  .rw[hb];exact hx.1.2
  .rw[hb];intro he;injection he with he
   have:=hx.2
   omega
theorem infoSt:(prog.info? 229).map (λi=>(i.zero,i.size,i.bytes))=some (some (.agg S_),8,128):=by kernel_rfl
theorem infoStr:(prog.info? 9).map (λi=>(i.zero,i.size,i.bytes))=some (some (e_),1,16):=by kernel_rfl
theorem kX(ts:List ST):∀u∈ts.flatMap ST.E,u.oneCell'=true:=by
 intro u hu;obtain⟨t,_,hu⟩:=F5.1 hu;simp[ST.E]at hu
 rcases hu with rfl|rfl|rfl|rfl|rfl|rfl|rfl|rfl<;>rfl
theorem q0(t:ST)(h:Bk w x 229 t.g_):Sl w 229 8 (j_ x) 1 ([t].flatMap ST.E):=jj (n:=1) h rfl
theorem AW:∀k,k<2->∃s,s∈hV/\(#[.string {data:=#[112]},.string {data:=#[113]}]:Array Value)[k]?=some (.string s)
 |0,_=>⟨oZ,by simp[hV],rfl⟩
 |1,_=>⟨mR,by simp[hV],rfl⟩
theorem pk(B g m:Nat)(left loops fn:Int)(w:World)(hd:iQ w B g)(hm:Bk w m 222 #[q_ g,i_ left,i_ loops,i_ fn])(hBm:B<=m):
 Calls prog 218 #[q_ m] w λe w'=>∃t,e=.returned (.agg t.g_)/\kk (jE w.heap.size) w' t/\EG hV 1 t/\iQ w' B g/\Gr [g] w w':=by
 have bl:=hd.xa;have ct:=hm.lt
 go_enter func218,ntmps218
 go_upto_region 1 with fail
 have a2:Gr [] w (w.alloc (.cells E_ 226)):=(F_ [] w).alloc _;replace hd:=hd.hG a2;replace hm:=hm.hG a2;have hR:=P_ w 226 E_;have I:Gr [g] w (w.alloc (.cells E_ 226)):=(F_ [g] w).alloc _;clear a2;obtain⟨bp,b5⟩:=nm_ (w.alloc (.cells E_ 226));rw[<-b5]at hd hm hR I |-;clear b5;obtain⟨R0,cw⟩:=nm_ w.heap.size;rw[<-cw]at hR |-;have dt:w.heap.size<=R0:=o_;have cU:g<R0:=o_;have aF:B<=R0:=o_;have cW:m<R0:=ov ct;clear cw;have aH:∀y∈[g,R0],y<R0+1:=p_;have ag:m≠g:=o_;have aI:R0≠g:=o_;have U:=hm.f_ 0
 go_upto_region 2 with(go_at_call 19;refine(iw B g 4 _ hd o_ o_).mono ?_;rintro e w1⟨k,rfl,b9,bV,bK,aT⟩)
 clear U;replace hm:=hm.gr aT p_;replace hR:=hR.gr aT p_;replace I:=I.trans aT;replace hd:=bK;clear aT
 rcases(by omega:(k=0)∨(k=1)∨(k=2∨k=3))with b9|bV|aj
 .subst b9
  go_upto_region 3 with fail
  obtain⟨W,aE⟩:=nm_ w1;rw[<-aE]at hd hm hR I |-;clear aE;have aC:Ex B g m R0 226 #[q_ g,i_ left,i_ loops,i_ fn] E_ W W:=⟨hd,hm,hR,F_ [g] W⟩;refine iN (Ex B g m R0 226 #[q_ g,i_ left,i_ loops,i_ fn] E_ W) (λ_ X=>∃t,Bk X R0 226 t.g_/\kk (jE (R0+1)) X t/\EG hV (1) t/\iQ X B g/\Gr [g,R0] W X) (Gr [g,R0]) [SU.val _ (q_ m),SU.tree aH (1),SU.any _] (SU.any _) [[],[0],[1]] true [(some 10,0),(some 11,1),(none,2)] k_ k_ (λ_ _ _ _ _ h=>h) k_ rfl rfl k_ aC ⟨?_,?_,?_,trivial⟩ ?_
  .exact J5
  .refine hT [(some 10,0)] ?_;exact Ip
  .refine ju [(some 11,1)] ?_;exact Iv
  exact JF
 .subst bV
  go_upto_region 5 with fail
  obtain⟨W,aE⟩:=nm_ w1;rw[<-aE]at hd hm hR I |-;clear aE;have aC:Ex B g m R0 226 #[q_ g,i_ left,i_ loops,i_ fn] E_ W W:=⟨hd,hm,hR,F_ [g] W⟩;refine iN (Ex B g m R0 226 #[q_ g,i_ left,i_ loops,i_ fn] E_ W) (λ_ X=>∃t,Bk X R0 226 t.g_/\kk (jE (R0+1)) X t/\EG hV (1) t/\iQ X B g/\Gr [g,R0] W X) (Gr [g,R0]) [SU.val _ (q_ m),SU.val _ (q_ m),SU.val _ (q_ m),SU.val _ (q_ g),SU.num _ 0 2,SU.pure _ (λv=>v=.agg (jA oZ).g_),SU.AO aH 226 (jA oZ).g_ 1,SU.tree aH (0+1),SU.any _] (SU.any _) [[],[0],[1],[2],[3],[],[5],[4,6],[7]] true [(some 14,0),(some 15,1),(some 16,2),(some 17,3),(some 18,4),(some 19,5),(some 20,6),(some 21,7),(none,8)] k_ k_ (λ_ _ _ _ _ h=>h) k_ rfl rfl k_ aC ⟨?_,?_,?_,?_,?_,?_,?_,?_,?_,trivial⟩ ?_
  .exact J5
  .refine hT [(some 14,0)] ?_;exact JM
  .refine hT [(some 15,1)] ?_;exact JM
  .refine hT [(some 16,2)] ?_;exact II
  .refine hT [(some 17,3)] ?_;exact Iz
  .refine hT [] ?_;intro vs Q C J K H;clear J
   try simp only[b_]at H |-
   go_simp
   go_at_call 145
   refine(ka oZ _).mono ?_;exact Lh
  .refine hT [(some 19,5)] ?_;intro vs Q C J K H;obtain⟨o, -⟩:=J;have o:vs 5=.agg (jA oZ).g_:=o
   try simp only[b_,o]at H |-
   simp only[jA,ET.ip]at H |-;exact Ko
  .refine hT [(some 18,4),(some 20,6)] ?_;intro vs Q C J K H;obtain⟨⟨a8,o,cM,bn⟩,⟨aN,ap,cD,bB⟩, -⟩:=J
   try simp only[b_,o,ap]at H |-
   go_simp;exact H.out (.agg (px a8 (j_ aN) (jA oZ)).g_) _ C (F_ _ _) ⟨px a8 (j_ aN) (jA oZ),rfl,.mk _ (jj (n:=1) bB rfl) (H_ _) (λx off h _=>by injection h with h;injection h with h;omega) (by intro u hu;rcases L_.1 hu with rfl|hu;exact kk.leaf _ _ _ _ _ _;cases hu),EG.field _ _ _ _ o_ o_ (by simp[hV])⟩
  .refine ju [(some 21,7)] ?_;exact Iv
  exact JF
 .rcases aj with rfl|rfl
  all_goals
   go_upto_region 6 with fail
   obtain⟨W,aE⟩:=nm_ w1;rw[<-aE]at hd hm hR I |-;clear aE;have aC:Ex B g m R0 226 #[q_ g,i_ left,i_ loops,i_ fn] E_ W W:=⟨hd,hm,hR,F_ [g] W⟩;refine iN (Ex B g m R0 226 #[q_ g,i_ left,i_ loops,i_ fn] E_ W) (λ_ X=>∃t,Bk X R0 226 t.g_/\kk (jE (R0+1)) X t/\EG hV (1) t/\iQ X B g/\Gr [g,R0] W X) (Gr [g,R0]) [SU.AO aH 9 #[.string {data:=#[112]},.string {data:=#[113]}] 2,SU.val _ (q_ m),SU.val _ (q_ m),SU.val _ (q_ m),SU.val _ (q_ g),SU.num _ 0 2,SU.elem aH 9 #[.string {data:=#[112]},.string {data:=#[113]}] 2,SU.pure _ (λv=>∃s,s∈hV/\v=.string s),SU.tree aH (0),SU.any _] (SU.any _) [[],[],[1],[2],[3],[4],[0,5],[6],[7],[8]] true [(some 22,0),(some 23,1),(some 24,2),(some 25,3),(some 26,4),(some 27,5),(some 28,6),(some 29,7),(some 30,8),(none,9)] k_ k_ (λ_ _ _ _ _ h=>h) k_ rfl rfl k_ aC ⟨?_,?_,?_,?_,?_,?_,?_,?_,?_,?_,trivial⟩ ?_
   .exact Je
   .exact J5
   .refine hT [(some 23,1)] ?_;exact JM
   .refine hT [(some 24,2)] ?_;exact JM
   .refine hT [(some 25,3)] ?_;exact II
   .refine hT [(some 26,4)] ?_;exact Iz
   .refine hT [(some 22,0),(some 27,5)] ?_;exact IL
   .refine hT [(some 28,6)] ?_;exact IZ
   .refine hT [(some 29,7)] ?_;intro vs Q C J K H;obtain⟨⟨bo,cr,o⟩, -⟩:=J
    try simp only[b_,o]at H |-
    go_simp
    go_at_call 145
    refine(ka _ _).mono ?_;rintro e w1⟨rfl,hg1⟩;exact H.out _ _ (C.hG hg1) (hg1.mono s_) ⟨jA bo,rfl,kk.leaf _ _ _ _ _ _,.var _ _ cr⟩
   .refine ju [(some 30,8)] ?_;intro vs Q C J K H;obtain⟨⟨ta,o,V,E⟩, -⟩:=J
    try simp only[b_,o]at H |-
    refine iW k_ ?_;refine ij 226 _ _ rfl R0 r_ ta.g_ r_ 226 _ C.r rfl k_ (ET.one _) ?_;intro X aw G;exact H.out undef _ (λ_=>⟨ta,aw,V.ih G s_,E.mono o_,C.d.ih G p_,(C.g.mono s_).trans (G.mono s_)⟩)
   intro vs bu C;simp only[b_];obtain⟨t,aw,O,am,aZ,G⟩:=C;go_wp2;exact rr_ t.g_ aw underlying226 ⟨t,rfl,O.le o_,am,aZ,I.hK G p_⟩
theorem AN(B g m:Nat)(left loops fn:Int)(v:ByteArray)(hv:v∈hV)(w:World)(hd:iQ w B g)(hm:Bk w m 222 #[q_ g,i_ left,i_ loops,i_ fn])(hBm:B<=m):
 Calls prog 219 #[q_ m,.string v] w λe w'=>∃t,e=.returned (.agg t.g_)/\jK (jE w.heap.size) w' t/\SG hV 1 1 t/\iQ w' B g/\Gr [g] w w':=by
 have ay:=h_ hv;have bl:=hd.xa;have ct:=hm.lt
 go_enter func219,ntmps219
 go_upto_region 1 with fail
 have a2:Gr [] w (w.alloc (.cells S_ 229)):=(F_ [] w).alloc _;replace hd:=hd.hG a2;replace hm:=hm.hG a2;have hR:=P_ w 229 S_;have I:Gr [g] w (w.alloc (.cells S_ 229)):=(F_ [g] w).alloc _;clear a2;obtain⟨bp,b5⟩:=nm_ (w.alloc (.cells S_ 229));rw[<-b5]at hd hm hR I |-;clear b5;obtain⟨R0,cw⟩:=nm_ w.heap.size;rw[<-cw]at hR |-;have dt:w.heap.size<=R0:=o_;have cU:g<R0:=o_;have aF:B<=R0:=o_;have cW:m<R0:=ov ct;clear cw;have aH:∀y∈[g,R0],y<R0+1:=p_;have ag:m≠g:=o_;have aI:R0≠g:=o_;have U:=hm.f_ 0;have aL:=hm.f_ 3
 by_cases hf:fn=0
 .have D:(fn==0)=true:=by simp[hf]
  clear hf
  go_wp2_with fail
  go_at_call 19
  refine(iw B g 2 _ hd o_ o_).mono ?_;rintro e w1⟨k,rfl,b9,bV,bK,aT⟩;replace hm:=hm.gr aT p_;replace hR:=hR.gr aT p_;replace I:=I.trans aT;replace hd:=bK;clear aT;clear U aL
  by_cases hk:k=0
  .subst hk
   go_upto_region 2 with fail
   obtain⟨W,aE⟩:=nm_ w1;rw[<-aE]at hd hm hR I |-;clear aE;have aC:Ex B g m R0 229 #[q_ g,i_ left,i_ loops,i_ fn] S_ W W.drew:=⟨hd.hG (F_ [] W).drew,hm.hG (F_ [] W).drew,hR.hG (F_ [] W).drew,(F_ [g] W).drew⟩;refine ke (Ex B g m R0 229 #[q_ g,i_ left,i_ loops,i_ fn] S_ W) (λ_ X=>∃t,Bk X R0 229 t.g_/\jK (jE (R0+1)) X t/\SG hV 1 1 t/\iQ X B g/\Gr [g,R0] W X) (Gr [g,R0]) [SU.val _ (.string v),SU.val _ (q_ m),SU.tree aH (1),SU.val _ (q_ m),SU.val _ (q_ m),SU.val _ (q_ m),SU.val _ (q_ g),SU.num _ 0 4,SU.tree aH (0),SU.trees aH 2 2,SU.stmt aH (1) (1),SU.any _] (SU.any _) [[],[],[1],[],[3],[4],[5],[6],[7],[2,8],[0,9],[10]] true [(some 18,0),(some 19,1),(some 20,2),(some 21,3),(some 22,4),(some 23,5),(some 24,6),(some 25,7),(some 26,8),(some 27,9),(some 28,10),(none,11)] k_ k_ k_ (λ_ _ _ _ _ h=>h) k_ rfl rfl k_ aC ⟨?_,?_,?_,?_,?_,?_,?_,?_,?_,?_,?_,?_,trivial⟩ ?_
   .exact J5
   .exact J5
   .refine hT [(some 19,1)] ?_;exact Ip
   .exact J5
   .refine hT [(some 21,3)] ?_;exact JM
   .refine hT [(some 22,4)] ?_;exact JM
   .refine hT [(some 23,5)] ?_;exact II
   .refine hT [(some 24,6)] ?_;exact Iz
   .refine hT [(some 25,7)] ?_;intro vs Q C J K H;exact IF
   .refine hT [(some 20,2),(some 26,8)] ?_;exact HI
   .refine hT [(some 18,0),(some 27,9)] ?_;intro vs Q C J K H;obtain⟨o,⟨aN,tb,ap,nb,cD,bB,cR⟩, -⟩:=J;replace o:_=_:=o
    try simp only[b_,o,ap]at H |-
    go_simp;have aD:tb.length=_:=nb
    have a7:Sl Q 226 5 (j_ aN) tb.length (tb.flatMap ET.E):=by rw[aD];exact bB
    have hcl:(lI 3 v pQ 0 0 (j_ aN) tb.length tb).g_=_:=rfl;simp only[ST.ip,lI,aD]at hcl;refine H.out _ _ C (F_ _ _) ⟨lI 3 v pQ 0 0 (j_ aN) tb.length tb,?_,jK.es _ _ _ _ _ a7 cD (λu hu=>(cR u hu).1),SG.leaf (t:=lI 3 v pQ 0 0 (j_ aN) tb.length tb) (by show mP _ 3 v pQ 0 0 tb.length _ _;rw[aD];exact .v2 _ hv) rfl rfl (λu hu=>(cR u hu).2)⟩
    show Value.agg _=Value.agg (lI 3 v pQ 0 0 (j_ aN) tb.length tb).g_
    exact LM
   .refine ju [(some 28,10)] ?_;exact Iu
   exact JE
  .have be:(k==0)=false:=by simp[hk]
   go_upto_region 3 with fail
   obtain⟨W,aE⟩:=nm_ w1;exact Hh
 .have D:(fn==0)=false:=by simp[hf]
  go_upto_region 3 with fail
  clear U aL;obtain⟨W,aE⟩:=nm_ bp;exact Hh
end Go.Proofs.YtenbhdilndfaeaaGreat
