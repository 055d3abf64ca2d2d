import Derived.Test.YtenbhdilndfaeaaGreatR05
import Derived.Test.YtenbhdilndfaeaaGreatR12
set_option maxRecDepth 100000
set_option maxHeartbeats 0
set_option linter.all false
namespace Go.Proofs.YtenbhdilndfaeaaGreat
open Go.RowKit Go.Proofs.Tryz
variable{G:Nat->World->World->Prop}{a a' a0:Act}{f:Nat->Bool}{vs:Nat->Value}{D N base i x:Nat}{v:Value}{o:Oper}{w w':World}{listed:Array Bool}{ku:List (List Nat)}{kX:Bool}{l:List Oper}{K:Act->World->Prop}{t:ST}{e q tr:TypeId}{V:List ByteArray}{A:OA}{xs:List Value}{M:List Nat}{ts:List ST}(k:Int)(ty:TypeId)(S:World->Prop)
def Ia{G:Prop} (h:G:=by
 rw[<-aM]at hd MM hR MR |-;clear aM;have aI:Ex B g m R0 229 #[q_ g,Y left,Y loops,Y fn] S_ W W:=⟨hd,MM,hR,H [g] W⟩;refine iI (Ex B g m R0 229 #[q_ g,Y left,Y loops,Y fn] S_ W) (λ_ ae=>∃t,Bk ae R0 229 t.g8/\jD (jx (R0+1)) ae t/\SG hM 1 1 t/\iL ae B g/\J [g,R0] W ae) (J [g,R0]) [SU.val _ (.string v),SU.val _ (q_ m),SU.tree ap (1),SU.trees ap 2 1,SU.stmt ap (1) (1),SU.any _] (SU.any _) [[],[],[1],[2],[0,3],[4]] true [(some 29,0),(some 30,1),(some 31,2),(some 32,3),(some 33,4),(none,5)] k_ k_ (λ_ _ _ _ _ h=>h) k_ rfl rfl k_ aI ⟨?_,?_,?_,?_,?_,?_,trivial⟩ ?_
 .exact KV
 .exact KV
 .refine hK [(some 30,1)] ?_;exact Jb
 .refine hK [(some 31,2)] ?_;exact IL
 .refine hK [(some 29,0),(some 32,3)] ?_;intro vs Q C MS K MT;obtain⟨o,⟨aG,tb,aq,nb,cp,bn,cF⟩, -⟩:=MS;replace o:_=_:=o
  try simp only[b_,o,aq]at MT |-
  go_simp;have aH:tb.length=_:=nb
  have a8:Sl Q 226 5 (j_ aG) tb.length (tb.flatMap ET.E):=by rw[aH];exact bn
  have hcl:(lR 3 v pV 0 0 (j_ aG) tb.length tb).g8=_:=rfl;simp only[ST.ic,lR,aH]at hcl;refine MT.out _ _ C (H _ _) ⟨lR 3 v pV 0 0 (j_ aG) tb.length tb,?_,jD.es _ _ _ _ _ a8 cp (λu hu=>(cF u hu).1),SG.leaf (t:=lR 3 v pV 0 0 (j_ aG) tb.length tb) (by show m7 _ 3 v pV 0 0 tb.length _ _;rw[aH];exact .wV _ hv) rfl rfl (λu hu=>(cF u hu).2)⟩
  show Value.agg _=Value.agg (lR 3 v pV 0 0 (j_ aG) tb.length tb).g8
  exact MK
 .refine jr [(some 33,4)] ?_;exact Jd
 exact Kx):G:=h
def Id{G:Prop} (h:G:=by
 go_upto_region 5 with fail
 have i:=hR.lt;have A:=(MM.alloc (.cells l_ 9)).f_ 0;have df:=((MM.alloc (.cells l_ 9)).alloc (.cells l_ 9)).f_ 0
 go_region_law (first|(go_simp;go_at_call 177;refine(lW).mono ?_;rintro e au⟨rfl,rfl⟩;try(have b:=Q_ w2 9 l_;have ao:=(b.f_ r.toNat).trans bM;replace hR:=hR.alloc (.cells l_ 9);replace hd:=hd.g_ ((H [] w2).alloc (.cells l_ 9));replace MR:=MR.alloc (.cells l_ 9)))|(go_simp;go_at_call 19;refine(iq B g 5 (hd.g_ (by first|exact(((H [] w1).alloc _).alloc _).drew|exact((H [] w1).alloc _).drew)) X X).mono ?_;rintro e w2⟨r,rfl,bp,bA,bO,F⟩;obtain⟨s,hs,bM⟩:=xz r bp bA;(first|(have L:=(((Q_ w1 9 l_).alloc (.cells l_ 9)).drew).gr F p_;have f:=((Q_ (w1.alloc (.cells l_ 9)) 9 l_).drew).gr F p_;have bi:=(L.f_ r.toNat).trans bM;have P:=(f.f_ r.toNat).trans bM;simp at P;replace hR:=(((hR.alloc (.cells l_ 9)).alloc (.cells l_ 9)).drew).gr F p_;replace MR:=(((MR.alloc (.cells l_ 9)).alloc (.cells l_ 9)).drew).trans F;replace hd:=bO)|(replace hR:=((hR.alloc (.cells l_ 9)).drew).gr F p_;replace MR:=((MR.alloc (.cells l_ 9)).drew).trans F;replace hd:=bO)))|(go_simp;go_at_call 145;refine(j5 s).mono ?_;rintro e ah⟨he,S⟩;replace he:e=.returned (.agg #[Y 3,Y 0,.string s,Y 0,n_]):=he;subst he;replace hR:=hR.g_ S;replace hd:=hd.g_ S;replace MR:=MR.trans (S.mono s_);have f0:=hR.hm 0;have z0:=hR.f_ 0;have f1:=hR.hm 1;have aR:=hR.f_ 1;have bW:=hR.hm 2;have aU:=hR.f_ 2;have c9:=hR.hm 3;have z3:=hR.f_ 3;have f4:=hR.hm 4;have z4:=hR.f_ 4))
 all_goals
  go_wp2;have ax:=(((((hR.hN 0 (Y 3)).hN 1 (Y 0)).hN 2 (.string s)).hN 3 (Y 0)).hN 4 (n_));have G:=((((((H [R0] ah).setCell (p:=(Z R0 0)) (.inl s_) (Y 3)).setCell (p:=(Z R0 1)) (.inl s_) (Y 0)).setCell (p:=(Z R0 2)) (.inl s_) (.string s)).setCell (p:=(Z R0 3)) (.inl s_) (Y 0)).setCell (p:=(Z R0 4)) (.inl s_) (n_));exact rr_ (jv s).g8 ax underlying226 ⟨jv s,rfl,kl.leaf _ _ _ _ _ _,EG.var _ _ hs,hd.ib G p_,(MR.tP G de)⟩):G:=h
def IF{G:Prop} (h:G:=by
 go_upto_region 3 with fail
 go_wp2_with (first|((go_at_call 19;refine(iq B g 9 hd X X).mono ?_;rintro e w2⟨r,rfl,bp,bA,bO,F⟩);have bE:IntKind.i64.wrap (r-2)=r-2:=F1 _ X)|(go_at_call 144;refine(j3 (r-2)).mono ?_;rintro e ah⟨rfl,S⟩;replace hR:=(hR.gr F p_).g_ S;replace hd:=bO.g_ S;replace MR:=(MR.trans F).trans (S.mono s_))|(refine kZ (ju (r-2)).g8 hR (ET.one _) ?_;intro ae ax G))
 exact rr_ (ju (r-2)).g8 ax underlying226 ⟨ju (r-2),rfl,kl.leaf _ _ _ _ _ _,EG.num _ _ X X,hd.ib G p_,(MR.tP G de)⟩):G:=h
def Jc{G:Prop} (h:G:=by
 intro vs Q C MS K MT;obtain⟨⟨ta,o,aE,E⟩, -⟩:=MS
 try simp only[b_,o]at MT |-
 refine iV k_ ?_;refine ie 226 rfl R0 r_ ta.g8 r_ 226 C.r rfl k_ (ET.one _) ?_;exact KR):G:=h
def JW{G:Prop} (h:G:=by
 intro vs Q C MS K MT;obtain⟨o, -⟩:=MS;replace o:_=_:=o
 try simp only[b_,o]at MT |-
 obtain⟨cR,a,cn,cA⟩:=id C;have MN:=a.f_ 0;exact MC):G:=h
def JY{G:Prop} (h:G:=by
 rw[<-hd,<-o0]at h1
 refine wpOp_step (jT ho) λc MT=>h1 c (λv w' n MR a=>MT _ _ ⟨v,rfl,?_⟩)
 have hz:l.toArray.size=l.length:=s_;rw[hz,hl];exact⟨n,MR,a⟩):G:=h
def Kh{G:Prop} (h:G:=by
 rw[<-hd,<-o0]at h1
 refine wpOp_step (jT ho) λc MT=>h1 c (λv w' MP=>MT _ _ ⟨v,rfl,?_⟩)
 have hz:l.toArray.size=l.length:=s_;rw[hz,hl];exact MP):G:=h
def Kw{G:Prop} (h:G:=by
 intro vs bo C;simp only[b_];obtain⟨t,ax,MP,V,bl,G⟩:=C;go_wp2;exact rr_ t.g8 ax underlying226 ⟨t,rfl,MP.le X,V,bl,MR.hA G p_⟩):G:=h
section
variable{P:Program}{ops:Array Oper}{Q:Exit->Act->World->Prop}{md:Region.Mode}
def jG(ops:Array Oper)(i:Nat):Option Tmp:=(ops[i]?).bind (·.dst)
def o3(ops:Array Oper)(vs:Nat->Value):List Nat->Act->Act
 |[],a=>a
 |i::l,a=>o3 ops vs l (a.put (jG ops i) (vs i))
structure s9(ops:Array Oper)(a0:Act)(f:Nat->Bool)(vs:Nat->Value)(a:Act):Prop where
 defers:a.defers=a0.defers
 size:a.tmps.size=a0.tmps.size
 put:∀i d,f i=true->jG ops i=some d->d<a0.tmps.size->a.tmps[d]?=some (vs i)
 iy:∀d,(∀i,f i=true->jG ops i≠some d)->a.tmps[d]?=a0.tmps[d]?
def s9.ext(h:s9 ops a0 f vs a)(k:s9 ops a0 f vs a'):a=a':=by
 have g:a.tmps=a'.tmps:=by
  apply Array.ext_getElem?;intro b
  by_cases n:∃i,f i=true/\jG ops i=some b
  .obtain⟨i,c,d⟩:=n
   rcases FO b a0.tmps.size with j|m
   .rw[h.put i b c d j,k.put i b c d j]
   .rw[FF (by rw[h.size];exact m),FF (by rw[k.size];exact m)]
  .have j:∀i,f i=true->jG ops i≠some b:=λi c d=>n ⟨i,c,d⟩
   rw[h.iy b j,k.iy b j]
 have p:=h.defers.trans k.defers.symm
 cases a;cases a'
 simp only at g p;rw[g,p]
def s9.refl(a0:Act)(vs:Nat->Value):s9 ops a0 (λ_=>false) vs a0:=⟨rfl,rfl,λ_ _ b=>by(cases b),λ_ _=>rfl⟩
def s9.congr{g:Nat->Bool}{us:Nat->Value}(h:s9 ops a0 f vs a)(j:∀b,f b=g b)(r:∀b,f b=true->vs b=us b):s9 ops a0 g us a:=
 ⟨h.defers,h.size,λi d c n m=>by rw[h.put i d ((j i).trans c) n m,r i ((j i).trans c)],λd p=>h.iy d λi c=>p i ((j i).symm.trans c)⟩
def DR(ops:Array Oper):Prop:=∀i j d,jG ops i=some d->jG ops j=some d->i=j
def s9.add(h:s9 ops a0 f vs a)(r:DR ops)(i:Nat)(s:f i=false)(v:Value):
 s9 ops a0 (λb=>b==i||f b) (λb=>if b=i then v else vs b) (a.put (jG ops i) v):=by
 refine⟨?_,?_,?_,?_⟩
 .cases D:jG ops i<;>exact h.defers
 .cases D:jG ops i
  .exact h.size
  .simpa[Act.put]using h.size
 .intro b c n l p
  by_cases g:b=i
  .subst g;rw[l];simp[Act.put,h.size,p]
  .have k:=by simpa[g]using n
   have d:=h.put b c k l p
   cases D:jG ops i with
   |none=>simpa[Act.put,g]using d
   |some e=>
    have j:e≠c:=λm=>g (r b i c l (m▸D))
    simp only[Act.put,GQ j,g,if_false];exact d
 .intro c g;have p:=g i s_;have d:=h.iy c (λb n=>g b (by simp[n]))
  cases D:jG ops i with
  |none=>exact d
  |some e=>
   have j:e≠c:=λm=>p (m▸D)
   simp only[Act.put,GQ j];exact d
def s9.o3{a0:Act}{vs:Nat->Value}(c:DR ops):∀(l:List Nat) (a:Act) (f:Nat->Bool),s9 ops a0 f vs a->(∀b∈l,f b=false)->l.Nodup->s9 ops a0 (λb=>l.contains b||f b) vs (o3 ops vs l a)
 |[],a,f,h,_,_=>h.congr (λb=>by simp) (λ_ _=>rfl)
 |i::l,a,f,h,d,j=>by
  have n:=h.add c i (d i s_) (vs i)
  have p:=s9.o3 c l _ _ (n.congr (λ_=>rfl) (λb _=>show(if b=i then vs i else vs b)=vs b by(split<;>simp_all))) (λb g=>by
   have m:b≠i:=λe=>(G6.1 j).1 (e▸g)
   simp[m,d b (FQ _ g)]) (G6.1 j).2
  refine p.congr (λb=>?_) (λ_ _=>rfl);simp only[List.contains_cons,Bool.or_assoc,Bool.or_left_comm]
def A_{x:Option Tmp}{u:Value}(h:a'.put x u=a'.put x v)(m:a.tmps.size=a'.tmps.size):a.put x u=a.put x v:=by
 cases x with
 |none=>rfl
 |some c=>
  have b:=FN (λg:Act=>g.tmps[c]?) h;simp only[Act.put]at b
  rcases FO c a'.tmps.size with d|j
  .simp[d]at b;rw[b]
  .simp only[Act.put];congr 1;rw[Array.setIfInBounds,Array.setIfInBounds,dif_neg X,dif_neg X]
def sv(b:Act)(x:Option Tmp)(v:Value):(b.put x v).defers=b.defers:=by cases x<;>rfl
def vS{R:Value->World->Prop}(F:ops[i]?=some o)(I:∀cs b,o.op≠ .select cs b)(r:∀d∈o.looksAt ops,a.tmps[d]?=a'.tmps[d]?)(y:a.tmps.size=a'.tmps.size)(s:a.defers=a'.defers)(B:∀c t t' d w,Q (.panic c) ⟨t,d⟩ w->Q (.panic c) ⟨t',d⟩ w)(h:wpOp P ops Q i (λb w'=>∃v,b=a'.put o.dst v/\R v w') a' w):wpOp P ops Q i (λb w'=>∃v,b=a.put o.dst v/\R v w') a w:=by
 have j:execOp a.eval o=execOp a'.eval o:=execOp_congr o I λx J=>by
  cases x with
  |tmp t=>
   have:=r t (FL _ (H8.2 ⟨.tmp t,by simpa using J,rfl⟩))
   simp only[Act.eval,FH,this]
  |_=>rfl
 have z:Region.wanted o (yielded ops a.tmps)=Region.wanted o (yielded ops a'.tmps):=by
  unfold Region.wanted
  cases E:o.guard with
  |none=>rfl
  |some C=>
   obtain⟨n,O⟩:=C
   have L:yielded ops a.tmps n=yielded ops a'.tmps n:=by
    unfold yielded
    cases u:(ops[n]?).bind (·.dst)with
    |none=>rfl
    |some t=>
     have:=r t (by simp[Oper.looksAt,E,u])
     simp only[Option.bind_some,this]
   simp only[L]
 have k:∀c w',Q (.panic c) a' w'->Q (.panic c) a w':=by
  cases a;cases a'
  simp only at s;subst s
  exact λc w' h=>B c _ _ _ _ h
 have m:∀g w',(∃v,a'.put o.dst g=a'.put o.dst v/\R v w')->∃v,a.put o.dst g=a.put o.dst v/\R v w':=λg w'⟨v,p,H⟩=>⟨v,A_ p y,H⟩
 unfold wpOp at*;simp only[F]at*;rw[z];split
 .rename_i A;simp only[A,if_true]at h
  rcases h with h|⟨l,L⟩
  case inr=>exact .inr ⟨by unfold Oper.asks at*;rw[j];exact l,L⟩
  refine .inl ?_;unfold Oper.wp at*;rw[j];generalize (execOp a'.eval o).run P w=T at*
  cases T with
  |ok O w'=>
   cases O<;>simp only[Oper.upon]at h |-
   case value g=>exact m g _ h
   case skip=>exact m _ _ h
   case defer d=>
    obtain⟨v,p,_⟩:=h;have n:=FN Act.defers p;rw[sv,sv]at n;have C:=FN List.length n;simp at C
   case enter f u=>
    refine Calls.mono h λe U j=>?_
    cases e with
    |returned g=>exact m g _ j
    |panicked c=>exact k _ _ j
    |outgrown=>exact j
   case row row u=>exact Rows.mono h λg U j=>m g _ j
  |halt x w'=>
   cases x<;>simp only[Oper.upon]at h |-
   case panic g=>exact k _ _ h
 .rename_i A;simp only[A]at h;exact m _ _ h
structure SU(G:Nat->World->World->Prop) where
 U:(Nat->Value)->Value->World->Prop
 ex:List Nat
 st:∀i,i∉ex->∀vs v w w',G i w w'->U vs v w->U vs v w'
 dp:List Nat
 loc:∀vs us v w,(∀j∈dp,vs j=us j)->U vs v w->U us v w
def SU.of{G:World->World->Prop}(U:Value->World->Prop)(st:∀v w w',G w w'->U v w->U v w'):SU (λ_=>G):=⟨λ_ v w=>U v w,[],λ_ _ _ v w w' hg h=>st v w w' hg h,[],λ_ _ _ _ _ h=>h⟩
def SU.Aa{G:Nat->World->World->Prop}(ex:List Nat)(U:Value->World->Prop)(st:∀i,i∉ex->∀v w w',G i w w'->U v w->U v w'):SU G:=⟨λ_ v w=>U v w,ex,λi hi _ v w w' hg h=>st i hi v w w' hg h,[],λ_ _ _ _ _ h=>h⟩
def SU.vK{G:World->World->Prop}{MT:Nat->World->World->Prop}(s:SU (λ_=>G))(h:∀i a b,MT i a b->G a b):SU MT:=⟨s.U,s.ex,λi hi vs v w w' hg hu=>s.st i hi vs v w w' (h i _ _ hg) hu,s.dp,s.loc⟩
def nj{G:Nat->World->World->Prop}(p:Nat->SU G)(vs:Nat->Value)(w:World):List Nat->Prop
 |[]=>True
 |j::l=>(p j).U vs (vs j) w/\nj p vs w l
def nj.of{G:Nat->World->World->Prop}{p:Nat->SU G}{vs:Nat->Value}{w:World}:∀{l:List Nat},(∀b∈l,(p b).U vs (vs b) w)->nj p vs w l
 |[],_=>trivial
 |_::_,h=>⟨h _ s_,nj.of λb c=>h b (by simp[c])⟩
def yu{listed:Array Bool}(h:listed.getD i true=false):((listed.setIfInBounds i true).toList.filter (!·)).length+1<=(listed.toList.filter (!·)).length:=by
 have c:i<listed.size:=by
  rcases FO i listed.size with o|o
  .exact o
  .rw[FH,FF o]at h
   cases h
 have b:listed.toList[i]?=some false:=by
  rw[FH,FM c]at h;simp at h;simp[c,h]
 rw[HJ];generalize listed.toList=l at b;clear h c listed
 induction l generalizing i with
 |nil=>simp at b
 |cons x l d=>
  cases i with
  |zero=>
   simp at b;subst b;simp
  |succ i=>
   have:=d (i:=i) (zu b)
   cases x<;>simp only[GJ,List.filter_cons]<;>simp<;>simpa using this
structure DM(md:Region.Mode)(ops:Array Oper)(ku:Nat->List Nat)(kX:Bool):Prop where
 Ff:Region.noSelect ops=true
 zT:DR ops
 back:∀i o,ops[i]?=some o->∀e∈o.after,Region.binds md e=true->e.on<i
 Fg:∀i,i<ops.size->(ku i).Nodup
 pre:∀i,i<ops.size->∀j∈ku i,lv md ops 16 i j=true
 look:∀i o,ops[i]?=some o->∀k d,jG ops k=some d->d∈o.looksAt ops->k∈ku i∨lv md ops 16 k i=true
 some:kX=true->0<ops.size
 last:kX=true->∀j,j+1<ops.size->lv md ops 16 (ops.size-1) j=true
def BT(d:∀i o,ops[i]?=some o->∀e∈o.after,Region.binds md e=true->e.on<i)(h:Region.ready md ops listed=[])(p:listed.size=ops.size):∀i,i<ops.size->listed.getD i false=true:=by
 intro i
 induction i using Nat.strongRecOn with
 |ind i m=>
  intro b
  cases j:listed.getD i false with
  |true=>rfl
  |false=>
   exfalso
   have n:listed.getD i true=false:=by
    rw[FH,FM X]at j |-
    simpa using j
   have:i∈Region.ready md ops listed:=mem_ready.2 ⟨n,ops[i],FM b,λe g c=>m e.on (d i _ (FM b) e g c) (ov (d i _ (FM b) e g c))⟩
   rw[h]at this
   cases this
def yT(b:Bool)(A B:Prop):Prop:=match b with|true=>A|false=>B
def sV(vs:Nat->Value)(i:Nat)(u:Value)(j:Nat):Value:=if j=i then u else vs j
def Aq{S:(Nat->Bool)->(Nat->Value)->World->Prop}{T:(Nat->Value)->World->Prop}{p:Nat->SU G}{ku:Nat->List Nat}(C:DM md ops ku kX)(ai:∀c t t' d w,Q (.panic c) ⟨t,d⟩ w->Q (.panic c) ⟨t',d⟩ w)(y:∀i,∀h∈(p i).dp,h∈ku i)(A:∀h,h<ops.size->∀i∈(p h).ex,i=h∨lv md ops 16 h i=true)(MT:∀i o,ops[i]?=some o->∀f vs w,f i=false->(∀h∈ku i,f h=true)->S f vs w->nj p vs w (ku i)->wpOp P ops Q i (λb w'=>∃v,b=(o3 ops vs (ku i) a0).put o.dst v/\yT (kX&&i+1==ops.size) (∀u,T (sV vs i u) w') (S (λh=>h==i||f h) (sV vs i v) w'/\G i w w'/\(p i).U vs v w')) (o3 ops vs (ku i) a0) w)(x:∀f vs w,(∀h,h<ops.size->f h=true)->yT kX (T vs w) (S f vs w/\nj p vs w (List.range ops.size))->Q .normal (o3 ops vs (List.range ops.size) a0) w):
 ∀(fuel:Nat) (listed:Array Bool) (vs:Nat->Value) (a:Act) (w:World),sC md ops listed->listed.size=ops.size->(listed.toList.filter (!·)).length<=fuel->
  s9 ops a0 (λh=>listed.getD h false) vs a->((kX=true/\(∀h,h<ops.size->listed.getD h false=true)/\T vs w)∨(¬(kX=true/\∀h,h<ops.size->listed.getD h false=true)/\S (λh=>listed.getD h false) vs w/\∀h,listed.getD h false=true->(p h).U vs (vs h) w))->wpAny P md ops Q fuel listed a w:=by
 have fin:∀(listed:Array Bool) (vs:Nat->Value) (a:Act) (w:World),listed.size=ops.size->s9 ops a0 (λh=>listed.getD h false) vs a->((kX=true/\(∀h,h<ops.size->listed.getD h false=true)/\T vs w)∨(¬(kX=true/\∀h,h<ops.size->listed.getD h false=true)/\S (λh=>listed.getD h false) vs w/\∀h,listed.getD h false=true->(p h).U vs (vs h) w))->
  Region.ready md ops listed=[]->Q .normal a w:=by
  intro listed vs a w W B s L;have ad:=BT C.back L W;have h1:=(s9.refl (ops:=ops) a0 vs).o3 C.zT (List.range ops.size) a0 _ (λ_ _=>rfl) List.nodup_range
  have h2:=B.congr (g:=λh=>(List.range ops.size).contains h||false) (us:=vs) (λh=>by
   rcases FO h ops.size with r|r
   .rw[ad h r];simp[r]
   .rw[FH,FF X];simp
    omega) (λ_ _=>rfl)
  rw[h2.ext h1]
  exact x _ vs w ad (by
   rcases s with⟨F,_,MP⟩|⟨F,s,MS⟩
   .rw[F];exact MP
   .cases K:kX with
    |true=>exact U_ ⟨K,ad⟩ F
    |false=>exact⟨s,nj.of λh r=>MS h (ad h (Gb.1 r))⟩)
 intro fuel
 induction fuel with
 |zero=>
  intro listed vs a w z W O B s
  have L:Region.ready md ops listed=[]:=by
   cases L:Region.ready md ops listed with
   |nil=>rfl
   |cons i j=>
    have hi:i∈Region.ready md ops listed:=by rw[L];simp
    have:=yu (mem_ready.1 hi).1
    omega
  exact⟨L,fin listed vs a w W B s L⟩
 |succ fuel af=>
  intro listed vs a w z W O B s;refine⟨λL=>fin listed vs a w W B s L,λi hi=>?_⟩;obtain⟨MO,o,J,V⟩:=mem_ready.1 hi;have q:=nI hi;have ae:=(Gc.1 J).1
  obtain⟨bq,MS⟩:S (λh=>listed.getD h false) vs w/\∀h,listed.getD h false=true->(p h).U vs (vs h) w:=by
   rcases s with⟨_,s,_⟩|s
   .rw[s i ae]at q
    cases q
   .exact s.2
  have bL:=λh r=>kB z 16 i (C.pre i ae h r) (λI l e n m=>by rw[J]at l;injection l with l;subst l;exact V e n m)
  have h1:=MT i o J _ vs w q bL bq (nj.of λh r=>MS h (bL h r));have hP:=(s9.refl (ops:=ops) a0 vs).o3 C.zT (ku i) a0 _ (λ_ _=>rfl) (C.Fg i ae);have aB:=B.size.trans hP.size.symm
  have bQ:∀d∈o.looksAt ops,a.tmps[d]?=(o3 ops vs (ku i) a0).tmps[d]?:=by
   intro d hd
   by_cases R:∃k,listed.getD k false=true/\jG ops k=some d
   .obtain⟨k,E,ag⟩:=R
    have a2:k∈ku i:=by
     rcases C.look i o J k d ag hd with j|j
     .exact j
     .have:=kB z 16 k j (λI l e n m=>z _ I l E e n m)
      rw[this]at q
      cases q
    rcases FO d a0.tmps.size with Z|bt
    .rw[B.put k d E ag Z,hP.put k d (by simp[a2]) ag Z]
    .rw[FF (by rw[B.size];exact bt),FF (by rw[hP.size];exact bt)]
   .have O:∀k,listed.getD k false=true->jG ops k≠some d:=λk E ag=>R ⟨k,E,ag⟩
    rw[B.iy d O,hP.iy d (λk a2=>O k (bL k (zu a2)))]
  have h2:=vS J (λcs b=>Region.noSelect_spec C.Ff i o cs b J) bQ aB (B.defers.trans hP.defers.symm) ai h1;refine wpOp_mono (λb w' m=>?_) h2;obtain⟨v,rfl,Y⟩:=m
  have D:o.dst=jG ops i:=by unfold jG;rw[J];rfl
  have M:=B.add C.zT i q v;rw[<-D]at M
  have dN:∀h,(listed.setIfInBounds i true).getD h false=(h==i||listed.getD h false):=by
   intro h
   by_cases H:h=i
   .subst H;rw[FH,J_,O_ rfl,O_ X];simp
   .rw[FH,J_,I_ (Ne.symm H)];simp[H]
  refine af (listed.setIfInBounds i true) (λh=>if h=i then v else vs h) _ w' (z.set hi) (zu W) (ov (yu MO)) (M.congr (λh=>(dN h).symm) (λ_ _=>rfl)) ?_
  by_cases cQ:kX=true/\i+1=ops.size
  .obtain⟨F,aS⟩:=cQ;rw[F,aS]at Y;refine .inl ⟨F,λh r=>?_,?_⟩
   .rw[dN]
    by_cases H:h=i
    .simp[H]
    .have h3:=C.last F h X;have n:ops.size-1=i:=X;rw[n]at h3;rw[kB z 16 i h3 (λI l e n m=>by rw[J]at l;injection l with l;subst l;exact V e n m)];simp
   .have Z:=by simpa[yT]using Y
    exact Z v
  .have m:(kX&&i+1==ops.size)=false:=by
    cases K:kX with
    |false=>rfl
    |true=>simp;exact λj=>cQ ⟨K,j⟩
   rw[m]at Y;obtain⟨Y,MR,N⟩:=Y;refine .inr ⟨λ⟨F,cO⟩=>?_,by(have n:=funext dN);rw[n];exact Y,?_⟩
   .have O:=cO (ops.size-1) X;rw[dN]at O
    have au:ops.size-1≠i:=λj=>cQ ⟨F,X⟩
    have Z:listed.getD (ops.size-1) false=true:=by simpa[au]using O
    have h3:=C.last F i X
    have:=kB z 16 (ops.size-1) h3 (λI l e n m=>z _ I l Z e n m)
    rw[this]at q
    cases q
   .intro h r;rw[dN]at r
    by_cases H:h=i
    .subst H;simp only[if_true];refine(p h).loc vs _ _ _ (λk R=>?_) N;have E:=bL k (y h k R)
     have au:k≠h:=λj=>by rw[j,q]at E;cases E
     simp[au]
    .have Z:listed.getD h false=true:=by simpa[H]using r
     simp only[H,if_false]
     have ah:h<ops.size:=by
      rcases FO h ops.size with j|j
      .exact j
      .rw[FH,FF X]at Z
       cases Z
     have aS:i∉(p h).ex:=λMM=>by
      rcases A h ah i MM with j|j
      .exact H j.symm
      .have:=kB z 16 h j (λI l e n m=>z _ I l Z e n m)
       rw[this]at q
       cases q
     refine(p h).loc vs _ _ _ (λk R=>?_) ((p h).st i aS _ _ _ _ MR (MS h Z));have E:=kB z 16 h (C.pre h ah k (y h k R)) (λI l e n m=>z _ I l Z e n m)
     have au:k≠i:=λj=>by rw[j,q]at E;cases E
     simp[au]
def nc(md:Region.Mode)(ops:Array Oper)(i j:Nat):Bool:=(((ops[i]?).map λo=>o.after.any λe=>Region.binds md e&&e.on==j).getD false)||lv md ops 16 i j
def qi{d:Nat}(h:nc md ops i d=true):lv md ops 16 i d=true:=by
 unfold nc at h;simp only[Hw]at h
 rcases h with h|h
 .unfold lv
  cases c:ops[i]? with
  |none=>rw[c]at h;cases h
  |some o=>
   rw[c]at h;simp only[HH,GE]at h;obtain⟨q,V,b⟩:=HQ.1 h;simp only[FP]at b;exact HQ.2 ⟨q,V,by simp only[b.1,b.2,HY,Bool.and_true]⟩
 .exact h
def CZ(md:Region.Mode)(ops:Array Oper)(ku:List (List Nat))(kX:Bool):Bool:=
 Region.noSelect ops&&
 ((List.range ops.size).all λi=>(List.range ops.size).all λj=>i==j||(jG ops i).isNone||jG ops i !=jG ops j)&&
 ((List.range ops.size).all λi=>((ops[i]?).map λo=>o.after.all λe=> !Region.binds md e||decide (e.on<i)).getD true)&&
 ((List.range ops.size).all λi=>decide ((ku.getD i []).Nodup)&&(ku.getD i []).all λj=>nc md ops i j)&&
 ((List.range ops.size).all λi=>(List.range ops.size).all λk=>(ku.getD i []).contains k||((ops[i]?).map λo=>match jG ops k with|none=>true|some d=> !(o.looksAt ops).contains d).getD true||nc md ops k i)&&
 ((!kX||decide (0<ops.size))&&(!kX||(List.range (ops.size-1)).all λj=>nc md ops (ops.size-1) j))
def yb{d:Tmp}(h:jG ops i=some d):i<ops.size:=by
 rcases FO i ops.size with o|o
 .exact o
 .unfold jG at h;rw[FF o]at h
  cases h
def xO(h:CZ md ops ku kX=true):DM md ops (λi=>ku.getD i []) kX:=by
 unfold CZ at h;simp only[FP]at h;obtain⟨⟨⟨⟨⟨y,z⟩,B⟩,n⟩,s⟩,p,j⟩:=h;refine⟨y,?_,?_,?_,?_,?_,?_,?_⟩
 .intro i g u b c
  have:=FZ.1 (FZ.1 z i (Gb.2 (yb b))) g (Gb.2 (yb c))
  rw[b,c]at this;exact ML
 .intro i o d e C r
  have:=FZ.1 B i (Gb.2 (Gc.1 d).1)
  rw[d]at this;simp only[HH,GE]at this
  have:=(Hy.1 this) e C
  rw[r]at this;exact ML
 .intro i b
  have:=FZ.1 n i (Gb.2 b)
  simp only[FP,Gx]at this;exact this.1
 .intro i b g c
  have:=FZ.1 n i (Gb.2 b)
  simp only[FP]at this;exact qi (FZ.1 this.2 g c)
 .intro i o d k u r C
  have:=FZ.1 (FZ.1 s i (Gb.2 (Gc.1 d).1)) k (Gb.2 (yb r))
  rw[d,r]at this;simp only[HH,GE,Hw,Bool.not_eq_true']at this
  rcases this with(h|h)|h
  .exact .inl (zu h)
  .rw[List.contains_iff_mem.2 C]at h
   cases h
  .exact .inr (qi h)
 .intro m;rw[m]at p
  simpa using p
 .intro m g c;rw[m]at j;simp only[Bool.not_true,Hx]at j;exact qi (FZ.1 j g (Gb.2 X))
def sN(P:Program)(ops:Array Oper)(Q:Exit->Act->World->Prop)(a0:Act)(S:(Nat->Bool)->(Nat->Value)->World->Prop)(T:(Nat->Value)->World->Prop){G:Nat->World->World->Prop}(p:Nat->SU G)(ku:List (List Nat))(kX:Bool)(i:Nat):Prop:=
 ∀o,ops[i]?=some o->∀f vs w,f i=false->(∀j∈ku.getD i [],f j=true)->S f vs w->nj p vs w (ku.getD i [])->wpOp P ops Q i (λb w'=>∃v,b=(o3 ops vs (ku.getD i []) a0).put o.dst v/\yT (kX&&i+1==ops.size) (∀u,T (sV vs i u) w') (S (λj=>j==i||f j) (sV vs i v) w'/\G i w w'/\(p i).U vs v w')) (o3 ops vs (ku.getD i []) a0) w
def sP(p:Nat->Prop)(k:Nat):Nat->Prop
 |0=>True
 |n+1=>p k/\sP p (k+1) n
def sP.get{p:Nat->Prop}:∀(n k:Nat),sP p k n->∀i,k<=i->i<k+n->p i
 |0,_,_,_,b,c=>by omega
 |n+1,k,h,i,b,c=>by
  rcases Nat.eq_or_lt_of_le b with rfl|h3
  .exact h.1
  .exact sP.get n (k+1) h.2 i h3 X
def C5{p:List (SU G)}{b:SU G}{n:Nat}(h:((List.range n).all λi=>(p.getD i b).dp.all λc=>(ku.getD i []).contains c)=true)(g:b.dp=[])(m:p.length=n):∀i,∀c∈(p.getD i b).dp,c∈ku.getD i []:=by
 intro i c d
 rcases FO i n with j|j
 .have:=FZ.1 (FZ.1 h i (Gb.2 j)) c d
  exact ML
 .rw[List.getD_eq_getElem?_getD,F8 X,HE,g]at d
  cases d
def C4{p:List (SU G)}{b:SU G}(h:((List.range ops.size).all λc=>(p.getD c b).ex.all λi=>i==c||nc md ops c i)=true):∀c,c<ops.size->∀i∈(p.getD c b).ex,i=c∨lv md ops 16 c i=true:=λc g i d=>by
 have:=FZ.1 (FZ.1 h c (Gb.2 g)) i d
 simp only[Hw,beq_iff_eq]at this;exact this.imp id qi
def lw(vs:Nat->Value):List (Option Tmp × Nat)->Act->Act
 |[],a=>a
 |p::l,a=>lw vs l (a.put p.1 (vs p.2))
def b_:(∀ (vs:Nat->Value) (d:Option Tmp) (c:Nat) (ds:List (Option Tmp × Nat)) (a:Act),lw vs ((d,c)::ds) a=lw vs ds (a.put d (vs c))) /\ (∀ (vs:Nat->Value) (a:Act),lw vs [] a=a) /\ (∀ (a:Act) (i:Tmp) (v:Value),a.put (some i) v=⟨a.tmps.setIfInBounds i v,a.defers⟩) /\ (∀ (a:Act) (v:Value),a.put none v=a) /\
 (∀ {b:Type} (l:List b) (i:Nat) (a:b),l.toArray.setIfInBounds i a=(l.set i a).toArray) /\ (∀ {b:Type} (x y:b) (l:List b),(x::l).set 0 y=y::l) /\ (∀ {b:Type} (x y:b) (l:List b) (i:Nat),(x::l).set (i+1) y=x::l.set i y):=by
 refine⟨λ_ _ _ _ _=>?_,λ_ _=>rfl,λ_ _ _=>rfl,λ_ _=>rfl,λ_ _ _=>by simp,λ_ _ _=>rfl,λ_ _ _ _=>rfl⟩
 rfl
def o0(ops:Array Oper)(vs:Nat->Value):∀(l:List Nat) (a:Act),o3 ops vs l a=lw vs (l.map λi=>(jG ops i,i)) a
 |[],_=>rfl
 |_::l,_=>o0 ops vs l _
def oo(S:(Nat->Bool)->(Nat->Value)->World->Prop)(T:(Nat->Value)->World->Prop)(G:Nat->World->World->Prop)(p:List (SU G))(b:SU G)(ku:List (List Nat))(kX:Bool)(dA:List (Option Tmp × Nat)){id:Nat}(s:P.follows .mixedOrders=true)(n:CZ .any l.toArray ku kX=true)(z:((List.range l.length).map λi=>(jG l.toArray i,i))=dA)(B:∀c t t' d w,Q (.panic c) ⟨t,d⟩ w->Q (.panic c) ⟨t',d⟩ w)(y:((List.range l.length).all λi=>(p.getD i b).dp.all λh=>(ku.getD i []).contains h)=true)(g:b.dp=[])(e:p.length=l.length)(A:((List.range l.toArray.size).all λh=>(p.getD h b).ex.all λi=>i==h||nc .any l.toArray h i)=true)(C:∀vs,S (λ_=>false) vs w.drew)(u:sP (sN P l.toArray Q a S T (λi=>p.getD i b) ku kX) 0 l.length)(x:∀f vs w',(∀h,h<l.length->f h=true)->yT kX (T vs w') (S f vs w'/\nj (λi=>p.getD i b) vs w' (List.range l.length))->Q .normal (lw vs dA a) w'):(Code.region id l.toArray true).wp P Q a w:=by
 refine wp_region_any s ?_;have J:l.toArray.size=l.length:=s_;refine Aq (xO n) B (C5 y g e) (C4 A) (λi o r=>sP.get _ _ u i (P_ _) (ov ((Gc.1 r).1)) o r) (by rw[J];intro f vs w' I F;rw[o0,z];exact x f vs w' I F) _ _ (λ_=>undef) a _ ?_ s_ ?_ ?_ (.inr ⟨?_,by(have H:(λh=>(Array.replicate l.toArray.size false).getD h false)=(λ_=>false):=by(funext h;rw[FH,Hd];split<;>rfl));rw[H];exact C _,?_⟩)
 .intro k ok E j
  exfalso
  have m:=(Gc.1 E).1;rw[FH,Hd,O_ m]at j
  cases j
 .refine G_ (F7 _ _) ?_;simp
 .refine(s9.refl a _).congr (λh=>?_) (λ_ _=>rfl);rw[FH,Hd];split<;>rfl
 .rintro⟨j,E⟩;have m:=(xO n).some j
  have:=E 0 m
  rw[FH,Hd,O_ m]at this
  cases this
 .intro h m;rw[FH,Hd]at m;split at m<;>cases m
def oq(S:(Nat->Bool)->World->Prop)(T:(Nat->Value)->World->Prop)(G:Nat->World->World->Prop)(p:List (SU G))(b:SU G)(ku:List (List Nat))(kX:Bool)(dA:List (Option Tmp × Nat)){id:Nat}(j:P.follows .mixedOrders=true)(s:CZ .any l.toArray ku kX=true)(n:((List.range l.length).map λi=>(jG l.toArray i,i))=dA)(r:∀c t t' d w,Q (.panic c) ⟨t,d⟩ w->Q (.panic c) ⟨t',d⟩ w)(y:((List.range l.length).all λi=>(p.getD i b).dp.all λh=>(ku.getD i []).contains h)=true)(g:b.dp=[])(e:p.length=l.length)(A:((List.range l.toArray.size).all λh=>(p.getD h b).ex.all λi=>i==h||nc .any l.toArray h i)=true)(C:S (λ_=>false) w.drew)(m:sP (sN P l.toArray Q a (λf _=>S f) T (λi=>p.getD i b) ku kX) 0 l.length)(x:∀f vs w',(∀h,h<l.length->f h=true)->yT kX (T vs w') (S f w'/\nj (λi=>p.getD i b) vs w' (List.range l.length))->Q .normal (lw vs dA a) w'):(Code.region id l.toArray true).wp P Q a w:=
 oo (λf _=>S f) T G p b ku kX dA j s n r y g e A (λ_=>C) m x
def kf(T:(Nat->Value)->World->Prop)(G:World->World->Prop)(p:List (SU (λ_=>G)))(b:SU (λ_=>G))(ku:List (List Nat))(kX:Bool)(dA:List (Option Tmp × Nat)){id:Nat}(j:P.follows .mixedOrders=true)(u:CZ .any l.toArray ku kX=true)(n:((List.range l.length).map λi=>(jG l.toArray i,i))=dA)(r:∀c t t' d w,Q (.panic c) ⟨t,d⟩ w->Q (.panic c) ⟨t',d⟩ w)(y:((List.range l.length).all λi=>(p.getD i b).dp.all λh=>(ku.getD i []).contains h)=true)(g:b.dp=[])(e:p.length=l.length)(A:((List.range l.toArray.size).all λh=>(p.getD h b).ex.all λi=>i==h||nc .any l.toArray h i)=true)(C:S w.drew)(m:sP (sN P l.toArray Q a (λ_ _=>S) T (λi=>p.getD i b) ku kX) 0 l.length)(x:∀vs w',yT kX (T vs w') (S w'/\nj (λi=>p.getD i b) vs w' (List.range l.length))->Q .normal (lw vs dA a) w'):(Code.region id l.toArray true).wp P Q a w:=
 oq (λ_=>S) T (λ_=>G) p b ku kX dA j u n r y g e A C m (λ_ vs w' _ s=>x vs w' s)
def pQ(j:∀i o,ops[i]?=some o->∀e∈o.after,Region.binds md e=true->e.on<i):∀(f b i:Nat),lv md ops f b i=true->i<b
 |0,_,_,h=>by cases h
 |f+1,b,i,h=>by
  unfold lv at h
  cases d:ops[b]? with
  |none=>rw[d]at h;cases h
  |some m=>
   rw[d]at h;simp only at h;obtain⟨q,V,c⟩:=HQ.1 h;simp only[FP,Hw,beq_iff_eq]at c;have n:=j b m d _ (Array.getElem_mem V) c.1
   rcases c.2 with g|g
   .omega
   .have:=pQ j f _ i g
    omega
def Ap{S:(Nat->Bool)->(Nat->Value)->World->Prop}{T:(Nat->Value)->World->Prop}{p:Nat->SU G}{ku:Nat->List Nat}(n:DM md ops ku kX)(ai:∀c t t' d w,Q (.panic c) ⟨t,d⟩ w->Q (.panic c) ⟨t',d⟩ w)(y:∀i,∀h∈(p i).dp,h∈ku i)(A:∀h,h<ops.size->∀i∈(p h).ex,i=h∨lv md ops 16 h i=true)(MT:∀i o,ops[i]?=some o->∀f vs w,f i=false->(∀h∈ku i,f h=true)->S f vs w->nj p vs w (ku i)->wpOp P ops Q i (λb w'=>∃v,b=(o3 ops vs (ku i) a0).put o.dst v/\yT (kX&&i+1==ops.size) (∀u,T (sV vs i u) w') (S (λh=>h==i||f h) (sV vs i v) w'/\G i w w'/\(p i).U vs v w')) (o3 ops vs (ku i) a0) w)(x:∀f vs w,(∀h,h<ops.size->f h=true)->yT kX (T vs w) (S f vs w/\nj p vs w (List.range ops.size))->Q .normal (o3 ops vs (List.range ops.size) a0) w):
 ∀(F k:Nat) (vs:Nat->Value) (a:Act) (w:World),k+F=ops.size->s9 ops a0 (λh=>decide (h<k)) vs a->yT (kX&&k==ops.size) (T vs w) (S (λh=>decide (h<k)) vs w/\∀h,h<k->(p h).U vs (vs h) w)->wpOps P ops Q (List.range' k F) a w:=by
 intro F
 induction F with
 |zero=>
  intro k vs a w R r m;have L:=(s9.refl (ops:=ops) a0 vs).o3 n.zT (List.range ops.size) a0 _ (λ_ _=>rfl) List.nodup_range
  have O:=r.congr (g:=λh=>(List.range ops.size).contains h||false) (us:=vs) (λh=>by
   have:k=ops.size:=X
   subst this
   simp) (λ_ _=>rfl)
  show Q .normal a w
  rw[O.ext L];have s:k=ops.size:=X;refine x (λh=>decide (h<k)) vs w (λh j=>by simp;omega) ?_;rw[s]at m
  cases K:kX with
  |true=>rw[K]at m;simpa[yT]using m
  |false=>
   rw[K]at m;have m:S _ vs w/\∀h,h<ops.size->(p h).U vs (vs h) w:=m;exact⟨by rw[s];exact m.1,nj.of λh j=>m.2 h (Gb.1 j)⟩
 |succ F af=>
  intro k vs a w R r m;rw[List.range'_succ,wpOps_cons];have J:k<ops.size:=X;obtain⟨o,E⟩:∃o,ops[k]?=some o:=⟨_,FM J⟩
  have B:(kX&&k==ops.size)=false:=by
   have:(k==ops.size)=false:=p_
   rw[this,Bool.and_false]
  rw[B]at m;obtain⟨m,Y⟩:S (λh=>decide (h<k)) vs w/\∀h,h<k->(p h).U vs (vs h) w:=m
  have H:=λh j=>pQ n.back 16 k h (n.pre k J h j)
  have L:=MT k o E _ vs w s_ (λh j=>by simpa using H h j) m (nj.of λh j=>Y h (H h j));have C:=(s9.refl (ops:=ops) a0 vs).o3 n.zT (ku k) a0 _ (λ_ _=>rfl) (n.Fg k J)
  have bQ:∀d∈o.looksAt ops,a.tmps[d]?=(o3 ops vs (ku k) a0).tmps[d]?:=by
   intro d hd
   by_cases j:∃h,h<k/\jG ops h=some d
   .obtain⟨h,I,l⟩:=j
    have a2:h∈ku k:=by
     rcases n.look k o E h d l hd with s|s
     .exact s
     .have:=pQ n.back 16 h k s
      omega
    rcases FO d a0.tmps.size with W|Z
    .rw[r.put h d (zu I) l W,C.put h d (by simp[a2]) l W]
    .rw[FF (by rw[r.size];exact Z),FF (by rw[C.size];exact Z)]
   .have W:∀h,h<k->jG ops h≠some d:=λh I l=>j ⟨h,I,l⟩
    rw[r.iy d (λh j=>W h (zu j)),C.iy d (λh e=>W h (H h (zu e)))]
  have O:=vS E (λcs b=>Region.noSelect_spec n.Ff k o cs b E) bQ (r.size.trans C.size.symm) (r.defers.trans C.defers.symm) ai L;refine wpOp_mono (λb w' hb=>?_) O;obtain⟨v,rfl,z⟩:=hb
  have D:o.dst=jG ops k:=by unfold jG;rw[E];rfl
  have M:=r.add n.zT k s_ v;rw[<-D]at M;refine af (k+1) (λh=>if h=k then v else vs h) _ w' X (M.congr (λh=>?_) (λ_ _=>rfl)) ?_
  .rw[Bool.eq_iff_iff];simp;omega
  .cases Z:(kX&&k+1==ops.size)with
   |true=>rw[Z]at z;exact z v
   |false=>
    rw[Z]at z;obtain⟨z,MR,N⟩:=z;refine⟨by(have he:(λh=>decide (h<k+1))=(λh=>h==k||decide (h<k)):=by(funext h;rw[Bool.eq_iff_iff];simp;omega));rw[he];exact z,λh j=>?_⟩
    by_cases W:h=k
    .subst W;simp only[if_true];refine(p h).loc vs _ _ _ (λk R=>?_) N
     have:=H k (y h k R)
     have B:k≠h:=X;simp[B]
    .simp only[W,if_false]
     have aS:k∉(p h).ex:=λMM=>by
      rcases A h X k MM with s|s
      .exact W s.symm
      .have:=pQ n.back 16 h k s
       omega
     refine(p h).loc vs _ _ _ (λq V=>?_) ((p h).st k aS _ _ _ _ MR (Y h X))
     have:=pQ n.back 16 h q (n.pre h X q (y h q V))
     have B:q≠k:=X;simp[B]
def ur(S:(Nat->Bool)->(Nat->Value)->World->Prop)(T:(Nat->Value)->World->Prop)(G:Nat->World->World->Prop)(p:List (SU G))(b:SU G)(ku:List (List Nat))(kX:Bool)(dA:List (Option Tmp × Nat)){id:Nat}(B:CZ .any l.toArray ku kX=true)(r:((List.range l.length).map λi=>(jG l.toArray i,i))=dA)(s:∀c t t' d w,Q (.panic c) ⟨t,d⟩ w->Q (.panic c) ⟨t',d⟩ w)(y:((List.range l.length).all λi=>(p.getD i b).dp.all λh=>(ku.getD i []).contains h)=true)(g:b.dp=[])(e:p.length=l.length)(A:((List.range l.toArray.size).all λh=>(p.getD h b).ex.all λi=>i==h||nc .any l.toArray h i)=true)(C:∀vs,S (λ_=>false) vs w)(n:sP (sN P l.toArray Q a S T (λi=>p.getD i b) ku kX) 0 l.length)(x:∀f vs w',(∀h,h<l.length->f h=true)->yT kX (T vs w') (S f vs w'/\nj (λi=>p.getD i b) vs w' (List.range l.length))->Q .normal (lw vs dA a) w'):(Code.region id l.toArray false).wp P Q a w:=by
 refine wp_region ?_;have I:l.toArray.size=l.length:=s_;have j:=xO B;rw[List.range_eq_range'];refine Ap j s (C5 y g e) (C4 A) (λi o m=>sP.get _ _ n i (P_ _) (ov ((Gc.1 m).1)) o m) (by rw[I];intro f vs w' E z;rw[o0,r];exact x f vs w' E z) l.toArray.size 0 (λ_=>undef) a w X ?_ ?_
 .exact(s9.refl a _).congr (λh=>by simp) (λ_ _=>rfl)
 .cases H:kX with
  |false=>exact⟨by simpa using C _,λh F=>by omega⟩
  |true=>
   have u:=j.some H
   have:((0:Nat)==l.toArray.size)=false:=by simp at u |-;intro J;omega
   rw[this];exact⟨by simpa using C _,λh F=>by omega⟩
def qw(S:(Nat->Bool)->World->Prop)(T:(Nat->Value)->World->Prop)(G:Nat->World->World->Prop)(p:List (SU G))(b:SU G)(ku:List (List Nat))(kX:Bool)(dA:List (Option Tmp × Nat)){id:Nat}(r:CZ .any l.toArray ku kX=true)(m:((List.range l.length).map λi=>(jG l.toArray i,i))=dA)(n:∀c t t' d w,Q (.panic c) ⟨t,d⟩ w->Q (.panic c) ⟨t',d⟩ w)(y:((List.range l.length).all λi=>(p.getD i b).dp.all λh=>(ku.getD i []).contains h)=true)(g:b.dp=[])(e:p.length=l.length)(A:((List.range l.toArray.size).all λh=>(p.getD h b).ex.all λi=>i==h||nc .any l.toArray h i)=true)(C:S (λ_=>false) w)(j:sP (sN P l.toArray Q a (λf _=>S f) T (λi=>p.getD i b) ku kX) 0 l.length)(x:∀f vs w',(∀h,h<l.length->f h=true)->yT kX (T vs w') (S f w'/\nj (λi=>p.getD i b) vs w' (List.range l.length))->Q .normal (lw vs dA a) w'):(Code.region id l.toArray false).wp P Q a w:=
 ur (λf _=>S f) T G p b ku kX dA r m n y g e A (λ_=>C) j x
def iI(T:(Nat->Value)->World->Prop)(G:World->World->Prop)(p:List (SU (λ_=>G)))(b:SU (λ_=>G))(ku:List (List Nat))(kX:Bool)(dA:List (Option Tmp × Nat)){id:Nat}(s:CZ .any l.toArray ku kX=true)(m:((List.range l.length).map λi=>(jG l.toArray i,i))=dA)(n:∀c t t' d w,Q (.panic c) ⟨t,d⟩ w->Q (.panic c) ⟨t',d⟩ w)(y:((List.range l.length).all λi=>(p.getD i b).dp.all λh=>(ku.getD i []).contains h)=true)(g:b.dp=[])(e:p.length=l.length)(A:((List.range l.toArray.size).all λh=>(p.getD h b).ex.all λi=>i==h||nc .any l.toArray h i)=true)(C:S w)(j:sP (sN P l.toArray Q a (λ_ _=>S) T (λi=>p.getD i b) ku kX) 0 l.length)(x:∀vs w',yT kX (T vs w') (S w'/\nj (λi=>p.getD i b) vs w' (List.range l.length))->Q .normal (lw vs dA a) w'):(Code.region id l.toArray false).wp P Q a w:=
 qw (λ_=>S) T (λ_=>G) p b ku kX dA s m n y g e A C j (λ_ vs w' _ r=>x vs w' r)
def hK{S:World->Prop}{T:(Nat->Value)->World->Prop}{G:World->World->Prop}{p:Nat->SU (λ_=>G)}{r:List Oper}(ds:List (Option Tmp × Nat))(h:∀vs w,S w->nj p vs w (ku.getD i [])->∀c:Act->World->Prop,Shut (∀v w',S w'->G w w'->(p i).U vs v w'->c ((lw vs ds a0).put o.dst v) w')->
   if Region.wanted o (yielded l.toArray (lw vs ds a0).tmps)=true then Oper.wp P o (lw vs ds a0) w c Q else c ((lw vs ds a0).put o.dst undef) w)(hl:(kX&&i+1==l.length)=false:=by rfl)(ho:l.drop i=o::r:=by rfl)(hd:((ku.getD i []).map λj=>(jG l.toArray j,j))=ds:=by kernel_rfl):
 sN P l.toArray Q a0 (λ_ _=>S) T p ku kX i:=by
 intro g b f vs w hf hp C MS;rw[jT ho]at b;injection b with b;subst b;have h1:=h vs w C MS;exact JY
def je{S:(Nat->Bool)->World->Prop}{T:(Nat->Value)->World->Prop}{p:Nat->SU G}{r:List Oper}(ds:List (Option Tmp × Nat))(h:∀f vs w,f i=false->S f w->nj p vs w (ku.getD i [])->∀c:Act->World->Prop,Shut (∀v w',S (λj=>j==i||f j) w'->G i w w'->(p i).U vs v w'->c ((lw vs ds a0).put o.dst v) w')->
   if Region.wanted o (yielded l.toArray (lw vs ds a0).tmps)=true then Oper.wp P o (lw vs ds a0) w c Q else c ((lw vs ds a0).put o.dst undef) w)(hl:(kX&&i+1==l.length)=false:=by rfl)(ho:l.drop i=o::r:=by rfl)(hd:((ku.getD i []).map λj=>(jG l.toArray j,j))=ds:=by kernel_rfl):
 sN P l.toArray Q a0 (λf _=>S f) T p ku kX i:=by
 intro g b f vs w hf hp C MS;rw[jT ho]at b;injection b with b;subst b;have h1:=h f vs w hf C MS;exact JY
def jJ{S:(Nat->Bool)->(Nat->Value)->World->Prop}{T:(Nat->Value)->World->Prop}{p:Nat->SU G}{r:List Oper}(ds:List (Option Tmp × Nat))(h:∀f vs w,f i=false->(∀j∈ku.getD i [],f j=true)->S f vs w->nj p vs w (ku.getD i [])->∀c:Act->World->Prop,Shut (∀v w',S (λj=>j==i||f j) (sV vs i v) w'->G i w w'->(p i).U vs v w'->c ((lw vs ds a0).put o.dst v) w')->
   if Region.wanted o (yielded l.toArray (lw vs ds a0).tmps)=true then Oper.wp P o (lw vs ds a0) w c Q else c ((lw vs ds a0).put o.dst undef) w)(hl:(kX&&i+1==l.length)=false:=by rfl)(ho:l.drop i=o::r:=by rfl)(hd:((ku.getD i []).map λj=>(jG l.toArray j,j))=ds:=by kernel_rfl):
 sN P l.toArray Q a0 S T p ku kX i:=by
 intro g b f vs w hf hp C MS;rw[jT ho]at b;injection b with b;subst b;have h1:=h f vs w hf hp C MS;exact JY
def jr{S:World->Prop}{T:(Nat->Value)->World->Prop}{G:World->World->Prop}{p:Nat->SU (λ_=>G)}{r:List Oper}(ds:List (Option Tmp × Nat))(h:∀vs w,S w->nj p vs w (ku.getD i [])->∀c:Act->World->Prop,Shut (∀v w',(∀u,T (sV vs i u) w')->c ((lw vs ds a0).put o.dst v) w')->
   if Region.wanted o (yielded l.toArray (lw vs ds a0).tmps)=true then Oper.wp P o (lw vs ds a0) w c Q else c ((lw vs ds a0).put o.dst undef) w)(hl:(kX&&i+1==l.length)=true:=by rfl)(ho:l.drop i=o::r:=by rfl)(hd:((ku.getD i []).map λj=>(jG l.toArray j,j))=ds:=by kernel_rfl):
 sN P l.toArray Q a0 (λ_ _=>S) T p ku kX i:=by
 intro g b f vs w hf hp C MS;rw[jT ho]at b;injection b with b;subst b;have h1:=h vs w C MS;exact Kh
def wk{S:(Nat->Bool)->World->Prop}{T:(Nat->Value)->World->Prop}{p:Nat->SU G}{r:List Oper}(ds:List (Option Tmp × Nat))(h:∀f vs w,f i=false->S f w->nj p vs w (ku.getD i [])->∀c:Act->World->Prop,Shut (∀v w',(∀u,T (sV vs i u) w')->c ((lw vs ds a0).put o.dst v) w')->
   if Region.wanted o (yielded l.toArray (lw vs ds a0).tmps)=true then Oper.wp P o (lw vs ds a0) w c Q else c ((lw vs ds a0).put o.dst undef) w)(hl:(kX&&i+1==l.length)=true:=by rfl)(ho:l.drop i=o::r:=by rfl)(hd:((ku.getD i []).map λj=>(jG l.toArray j,j))=ds:=by kernel_rfl):
 sN P l.toArray Q a0 (λf _=>S f) T p ku kX i:=by
 intro g b f vs w hf hp C MS;rw[jT ho]at b;injection b with b;subst b;have h1:=h f vs w hf C MS;exact Kh
def wj{S:(Nat->Bool)->(Nat->Value)->World->Prop}{T:(Nat->Value)->World->Prop}{p:Nat->SU G}{r:List Oper}(ds:List (Option Tmp × Nat))(h:∀f vs w,f i=false->(∀j∈ku.getD i [],f j=true)->S f vs w->nj p vs w (ku.getD i [])->∀c:Act->World->Prop,Shut (∀v w',(∀u,T (sV vs i u) w')->c ((lw vs ds a0).put o.dst v) w')->
   if Region.wanted o (yielded l.toArray (lw vs ds a0).tmps)=true then Oper.wp P o (lw vs ds a0) w c Q else c ((lw vs ds a0).put o.dst undef) w)(hl:(kX&&i+1==l.length)=true:=by rfl)(ho:l.drop i=o::r:=by rfl)(hd:((ku.getD i []).map λj=>(jG l.toArray j,j))=ds:=by kernel_rfl):
 sN P l.toArray Q a0 S T p ku kX i:=by
 intro g b f vs w hf hp C MS;rw[jT ho]at b;injection b with b;subst b;have h1:=h f vs w hf hp C MS;exact Kh
def iV{c A B:Prop}[Decidable c](b:c)(h:A):if c then A else B:=by rw[O_ b];exact h
def ie{x y:Operand}(n:o.op=.store ty x y)(g:Nat)(r:a.eval x=q_ g)(vs:Array Value)(hy:a.eval y=.agg vs)(t:TypeId){cs:Array Value}(j:Bk w g t cs)(p:vs.size=cs.size)(m:(P.info? ty).map (·.size)=some vs.size)(c:vs.all (·.oneCell')=true)(h:∀w',Bk w' g t vs->J [g] w w'->K (a.put o.dst undef) w'):o.wp P a w K Q:=
 jz ty x y n g 0 r vs hy t cs j X m c λw' b d=>h w' (by rw[qW cs vs p]at b;exact b) d
def SU.val(G:World->World->Prop)(v0:Value):SU (λ_=>G):=SU.of (λv _=>v=v0) (λ_ _ _ _ h=>h)
def SU.num(G:World->World->Prop)(lo hi:Int):SU (λ_=>G):=SU.of (λv _=>∃r:Int,v=Y r/\lo<=r/\r<hi) (λ_ _ _ _ h=>h)
def SU.z2{M:List Nat}{lo:Nat}(z:∀y∈M,y<lo)(t:TypeId)(cs:Array Value)(n:Nat):SU (λ_=>J M):=
 SU.of (λv w=>∃x,v=.slice (j_ x) n n/\lo<=x/\Bk w x t cs) (λ_ _ _ hg⟨x,h1,h2,h3⟩=>⟨x,h1,h2,h3.gr hg (λMM=>by have:=z x MM;omega)⟩)
def SU.elem{M:List Nat}{lo:Nat}(z:∀y∈M,y<lo)(t:TypeId)(cs:Array Value)(n:Nat):SU (λ_=>J M):=
 SU.of (λv w=>∃x k:Nat,v=.pointer (some (Z x k))/\k<n/\lo<=x/\Bk w x t cs) (λ_ _ _ hg⟨x,k,h1,hk,h2,h3⟩=>⟨x,k,h1,hk,h2,h3.gr hg (λMM=>by have:=z x MM;omega)⟩)
def SU.pure(G:World->World->Prop)(U:Value->Prop):SU (λ_=>G):=SU.of (λv _=>U v) (λ_ _ _ _ h=>h)
def SU.any(G:World->World->Prop):SU (λ_=>G):=SU.of (λ_ _=>True) (λ_ _ _ _ h=>h)
def SU.anyI(G:Nat->World->World->Prop):SU G:=SU.Aa [] (λ_ _=>True) (λ_ _ _ _ _ _ h=>h)
def SU.my(G:Nat->World->World->Prop)(v0:Value):SU G:=SU.Aa [] (λv _=>v=v0) (λ_ _ _ _ _ _ h=>h)
def SU.less{G MT:World->World->Prop}(h:∀a b,MT a b->G a b)(s:SU (λ_=>G)):SU (λ_=>MT):=⟨s.U,s.ex,λi hi vs v w w' hg hu=>s.st i hi vs v w w' (h _ _ hg) hu,s.dp,s.loc⟩
end
def ET.one(t:ET):t.g8.all (·.oneCell')=true:=by unfold ET.g8;simp[Value.oneCell']
def p8(n:Int)(A:OA)(a:ET):ET:=.mk 4 n ByteArray.empty 0 A 1 [a]
inductive EG(V:List ByteArray):Nat->ET->Prop
 |num (d:Nat) (n:Int) (h0: -10<=n) (h1:n<=10):EG V d (ju n)
 |var (d:Nat) (s:ByteArray) (h:s∈V):EG V d (jv s)
 |new (d:Nat) (n:Int) (h0:0<=n) (h1:n<=3):EG V d (eNew n)
 |field (d:Nat) (n:Int) (A:OA) (s:ByteArray) (h0:0<=n) (h1:n<=2) (h:s∈V):EG V (d+1) (p8 n A (jv s))
 |bin (d:Nat) (o:Int) (A:OA) (a b:ET) (h0:1<=o) (h1:o<=11) (ha:EG V d a) (hb:EG V d b):EG V (d+1) (qu o A a b)
structure Ex(B g m R:Nat)(tr:TypeId)(mc zc:Array Value)(W w:World):Prop where
 d:iL w B g
 m:Bk w m 222 mc
 r:Bk w R tr zc
 g:J [g] W w
def Ex.step{B g c R:Nat}{d j:Array Value}{W:World}(h:Ex B g c R tr d j W w)(b:J [g] w w')(p:iL w' B g)(m:c≠g)(n:R≠g):Ex B g c R tr d j W w':=
 ⟨p,h.m.gr b (zu m),h.r.gr b (zu n),h.g.trans b⟩
def Ex.g_{B g c R:Nat}{d j:Array Value}{W:World}(h:Ex B g c R tr d j W w)(b:J [] w w'):Ex B g c R tr d j W w':=
 ⟨h.d.g_ b,h.m.g_ b,h.r.g_ b,h.g.trans (b.mono s_)⟩
def SU.tree{M:List Nat}{lo:Nat}(z:∀y∈M,y<lo)(d:Nat):SU (λ_=>J M):=
 SU.of (λv w=>∃t:ET,v=.agg t.g8/\kl (jx lo) w t/\EG hM d t) (λ_ _ _ hg⟨t,h1,h2,h3⟩=>⟨t,h1,h2.ib hg (λx hx=>Gm.2 (z x hx)),h3⟩)
def De(i:Int)(h0:0<=i)(b:i<2):∃s,s∈hM/\(#[.string {data:=#[112]},.string {data:=#[113]}]:Array Value)[i.toNat]?=some (.string s):=by
 obtain⟨k,rfl⟩:∃k:Nat,i=k:=⟨i.toNat,X⟩
 match k,b with
 |0,_=>exact⟨pw,by simp[hM],rfl⟩
 |1,_=>exact⟨m9,by simp[hM],rfl⟩
def J.tP{g R:Nat}{a b c:World}(h:J [g] a b)(k:J [R] b c)(j:a.heap.size<=R):J [g] a c:=h.hA k (by intro x d;right;simp at d;omega)
def kE(B g c:Nat)(left loops fn:Int)(d:Nat)(bl:d<=100):∀(D:Int) (_:D=d) (w:World) (_:iL w B g) (_:Bk w c 222 #[q_ g,Y left,Y loops,Y fn]) (_:B<=c),
 Calls prog 140 #[q_ c,Y D] w λe w'=>∃t,e=.returned (.agg t.g8)/\kl (jx w.heap.size) w' t/\EG hM d t/\iL w' B g/\J [g] w w':=by
 induction d with
 |zero=>
  intro D hD w hd MM hBm;have a2:=hd.x0;have cy:=MM.lt;have j:D=0:=hD;subst j;clear hD
  go_enter func140,ntmps140
  go_upto_region 1 with fail
  have m:J [] w (w.alloc (.cells E_ 226)):=(H [] w).alloc _;replace hd:=hd.g_ m;replace MM:=MM.g_ m;have hR:=Q_ w 226 E_;have MR:J [g] w (w.alloc (.cells E_ 226)):=(H [g] w).alloc _;clear m;obtain⟨bj,y⟩:=nm_ (w.alloc (.cells E_ 226));rw[<-y]at hd MM hR MR |-;clear y;obtain⟨R0,z⟩:=nm_ w.heap.size;rw[<-z]at hR |-;have de:w.heap.size<=R0:=X;have cU:g<R0:=X;have al:B<=R0:=X;have cX:c<R0:=ov cy;clear z;have MN:=MM.f_ 0
  go_upto_region 2 with(go_at_call 19;refine(iq B g 12 hd X X).mono ?_;rintro e w1⟨k,rfl,b3,bN,bI,h⟩)
  replace MM:=MM.gr h p_;replace hR:=hR.gr h p_;replace MR:=MR.trans h;replace hd:=bI;clear h MN;have MN:=MM.f_ 0
  by_cases ar:k<4
  .exact IF
  by_cases aT:k<8
  .exact Id
  .exact Id
 |succ d af=>
  intro D hD w hd MM hBm;have a2:=hd.x0;have cy:=MM.lt;have az:(D==0)=false:=p_;have aB:¬D=0:=X;have ay:IntKind.i64.wrap (D-1)=D-1:=F1 _ X;have b6:=O (show D-1=d by omega);clear hD
  go_enter func140,ntmps140
  go_upto_region 1 with fail
  have m:J [] w (w.alloc (.cells E_ 226)):=(H [] w).alloc _;replace hd:=hd.g_ m;replace MM:=MM.g_ m;have hR:=Q_ w 226 E_;have MR:J [g] w (w.alloc (.cells E_ 226)):=(H [g] w).alloc _;clear m;obtain⟨bj,y⟩:=nm_ (w.alloc (.cells E_ 226));rw[<-y]at hd MM hR MR |-;clear y;obtain⟨R0,z⟩:=nm_ w.heap.size;rw[<-z]at hR |-;have de:w.heap.size<=R0:=X;have cU:g<R0:=X;have al:B<=R0:=X;have cX:c<R0:=ov cy;clear z;have MN:=MM.f_ 0
  go_upto_region 2 with(go_at_call 19;refine(iq B g 12 hd X X).mono ?_;rintro e w1⟨k,rfl,b3,bN,bI,h⟩)
  replace MM:=MM.gr h p_;replace hR:=hR.gr h p_;replace MR:=MR.trans h;replace hd:=bI;clear h MN;have MN:=MM.f_ 0
  by_cases ar:k<4
  .exact IF
  by_cases aT:k<8
  .exact Id
  by_cases ev:k=8
  .subst ev
   go_upto_region 7 with fail
   obtain⟨j,aM⟩:=nm_ w1;rw[<-aM]at hd MM hR MR |-;clear aM MN;have T:∀an∈[g,R0],an<R0+1:=p_;have U:c≠g:=X;have aj:R0≠g:=X;have aI:Ex B g c R0 226 #[q_ g,Y left,Y loops,Y fn] E_ j j.drew:=⟨hd.g_ (H [] j).drew,MM.g_ (H [] j).drew,hR.g_ (H [] j).drew,(H [g] j).drew⟩;refine kf (Ex B g c R0 226 #[q_ g,Y left,Y loops,Y fn] E_ j) (λ_ ae=>∃t,Bk ae R0 226 t.g8/\kl (jx (R0+1)) ae t/\EG hM (d+1) t/\iL ae B g/\J [g,R0] j ae) (J [g,R0]) [SU.val _ (q_ c),SU.val _ (q_ c),SU.val _ (q_ c),SU.val _ (q_ g),SU.num _ 0 3,SU.z2 T 9 #[.string {data:=#[112]},.string {data:=#[113]}] 2,SU.val _ (q_ c),SU.val _ (q_ c),SU.val _ (q_ c),SU.val _ (q_ g),SU.num _ 0 2,SU.elem T 9 #[.string {data:=#[112]},.string {data:=#[113]}] 2,SU.pure _ (λv=>∃s,s∈hM/\v=.string s),SU.pure _ (λv=>∃s,s∈hM/\v=.agg #[Y 3,Y 0,.string s,Y 0,n_]),SU.of (λv w=>∃x s,s∈hM/\v=.slice (j_ x) 1 1/\R0+1<=x/\Bk w x 226 #[Y 3,Y 0,.string s,Y 0,n_]) (λ_ _ _ hg⟨x,s,h0,h1,h2,h3⟩=>⟨x,s,h0,h1,h2,h3.gr hg (λMM=>by have:=T x MM;omega)⟩),SU.tree T (d+1),SU.any _] (SU.any _) [[],[0],[1],[2],[3],[],[],[6],[7],[8],[9],[5,10],[11],[12],[13],[4,14],[15]] true [(some 42,0),(some 43,1),(some 44,2),(some 45,3),(some 46,4),(some 47,5),(some 48,6),(some 49,7),(some 50,8),(some 51,9),(some 52,10),(some 53,11),(some 54,12),(some 55,13),(some 56,14),(some 57,15),(none,16)] k_ k_ k_ (λ_ _ _ _ _ u=>u) k_ rfl rfl k_ aI ⟨?_,?_,?_,?_,?_,?_,?_,?_,?_,?_,?_,?_,?_,?_,?_,?_,?_,trivial⟩ ?_
   .exact KV
   .refine hK [(some 42,0)] ?_;exact KD
   .refine hK [(some 43,1)] ?_;exact KD
   .refine hK [(some 44,2)] ?_;exact JW
   .refine hK [(some 45,3)] ?_;intro vs Q C MS K MT;obtain⟨o, -⟩:=MS;replace o:_=_:=o
    try simp only[b_,o]at MT |-
    go_simp
    go_at_call 19
    refine(iq B g 3 C.d X X).mono ?_;exact KZ
   .exact JX
   .exact KV
   .refine hK [(some 48,6)] ?_;exact KD
   .refine hK [(some 49,7)] ?_;exact KD
   .refine hK [(some 50,8)] ?_;exact JW
   .refine hK [(some 51,9)] ?_;intro vs Q C MS K MT;obtain⟨o, -⟩:=MS;replace o:_=_:=o
    try simp only[b_,o]at MT |-
    go_simp
    go_at_call 19
    refine(iq B g 2 C.d X X).mono ?_;exact KZ
   .refine hK [(some 47,5),(some 52,10)] ?_;exact Js
   .refine hK [(some 53,11)] ?_;intro vs Q C MS K MT;obtain⟨⟨a6,E,o,bt,bg,be⟩, -⟩:=MS
    try simp only[b_,o]at MT |-
    obtain⟨s,hs,bM⟩:=De E X X;exact LS
   .refine hK [(some 54,12)] ?_;intro vs Q C MS K MT;obtain⟨⟨W,cx,o⟩, -⟩:=MS
    try simp only[b_,o]at MT |-
    go_simp
    go_at_call 145
    refine(j5 W).mono ?_;rintro e w1⟨rfl,hg1⟩;exact MT.out _ _ (C.g_ hg1) (hg1.mono s_) ⟨W,cx,rfl⟩
   .refine hK [(some 55,13)] ?_;intro vs Q C MS K MT;obtain⟨⟨W,cx,o⟩, -⟩:=MS
    try simp only[b_,o]at MT |-
    go_simp;exact MT.out _ _ (C.g_ ((H [] _).alloc _)) ((H _ _).alloc _) ⟨_,W,cx,rfl,C.r.lt,Q_ _ _ _⟩
   .refine hK [(some 46,4),(some 56,14)] ?_;intro vs Q C MS K MT;obtain⟨⟨aZ,o,cM,bt⟩,⟨aG,sb,mb,aq,cp,bn⟩, -⟩:=MS
    try simp only[b_,o,aq]at MT |-
    go_simp;exact MT.out (.agg (p8 aZ (j_ aG) (jv sb)).g8) _ C (H _ _) ⟨p8 aZ (j_ aG) (jv sb),rfl,.mk _ (jj (n:=1) bn rfl) (H_ _) (λx off u _=>by injection u with u;injection u with u;omega) (by intro aA hu;rcases N_.1 hu with rfl|hu;exact kl.leaf _ _ _ _ _ _;cases hu),EG.field _ _ _ _ X X mb⟩
   .refine jr [(some 57,15)] ?_;exact Jc
   exact Kw
  by_cases q:k=9
  .subst q
   go_upto_region 9 with fail
   go_wp2_with ((go_at_call 19;refine(iq B g 4 hd X X).mono ?_;rintro e w2⟨r,rfl,bp,bA,bO,F⟩);replace hR:=hR.gr F p_;replace hd:=bO;replace MR:=MR.trans F;have f0:=hR.hm 0;have z0:=hR.f_ 0;have f1:=hR.hm 1;have aR:=hR.f_ 1;have bW:=hR.hm 2;have aU:=hR.f_ 2;have c9:=hR.hm 3;have z3:=hR.f_ 3;have f4:=hR.hm 4;have z4:=hR.f_ 4)
   have ax:=(((((hR.hN 0 (Y 6)).hN 1 (Y r)).hN 2 (e_)).hN 3 (Y 0)).hN 4 (n_));have G:=((((((H [R0] w2).setCell (p:=(Z R0 0)) (.inl s_) (Y 6)).setCell (p:=(Z R0 1)) (.inl s_) (Y r)).setCell (p:=(Z R0 2)) (.inl s_) (e_)).setCell (p:=(Z R0 3)) (.inl s_) (Y 0)).setCell (p:=(Z R0 4)) (.inl s_) (n_));exact rr_ (eNew r).g8 ax underlying226 ⟨eNew r,rfl,kl.leaf _ _ _ _ _ _,EG.new _ _ X X,hd.ib G p_,(MR.tP G de)⟩
  have cN:(k==8)=false:=p_;have aD:(k==9)=false:=p_
  go_upto_region 10 with fail
  have am:True:=trivial;have i:=hR.lt
  go_wp2_with (first|((go_at_call 19;refine(iq B g 11 hd X X).mono ?_;rintro e w2⟨r,rfl,bp,bA,bO,F⟩);have bu:IntKind.i64.wrap (1+r)=1+r:=F1 _ X;replace MM:=MM.gr F p_;replace hR:=hR.gr F p_;replace MR:=MR.trans F;replace hd:=bO;clear MN;have MN:=MM.f_ 0;have N:R0+1<=w2.heap.size:=hR.lt)|(go_at_call 140;clear am;refine(af X (D-1) b6.out _ hd MM hBm).mono ?_;rintro e aw⟨t1,rfl,I,hq1,aH,l⟩;replace I:=I.le N;replace MM:=MM.gr l p_;replace hR:=hR.gr l p_;replace MR:=MR.trans l;replace hd:=aH;clear MN;have MN:=MM.f_ 0;have aC:=MR.size;have aJ:R0+1<=aw.heap.size:=hR.lt)|(go_at_call 140;refine(af X (D-1) b6.out _ hd MM hBm).mono ?_;rintro e aF⟨R,rfl,M,cG,MO,aL⟩;replace I:=I.ib aL (by intro x hx;simp at hx;omega);replace M:=M.le aJ;replace MM:=MM.gr aL p_;replace hR:=hR.gr aL p_;replace MR:=MR.trans aL;replace hd:=MO;clear MN;have MN:=MM.f_ 0)|(go_at_call 143;refine(oM (R0+1) (1+r) t1 R hR.lt I M).mono ?_;rintro e ad⟨a7,rfl,b5,ak⟩;replace hR:=hR.g_ ak;replace hd:=hd.g_ ak;replace MR:=MR.trans (ak.mono s_))|(refine kZ (qu (1+r) a7 t1 R).g8 hR (ET.one _) ?_;intro ae ax G))
  exact rr_ (qu (1+r) a7 t1 R).g8 ax underlying226 ⟨qu (1+r) a7 t1 R,rfl,(b5.ib G (by intro x hx;simp at hx;omega)).le X,EG.bin _ _ _ _ _ X X hq1 cG,hd.ib G p_,(MR.tP G de)⟩
def i4:ByteArray:={data:=#[]}
inductive m7(V:List ByteArray):Int->ByteArray->ByteArray->Int->Int->Nat->Bool->Bool->Prop
 |vH (x:ByteArray) (h:x∈V):m7 V 1 x i4 0 0 1 false false
 |EC (n:Int) (h0:0<=n) (h1:n<=2):m7 V 2 i4 i4 n 0 2 false false
 |wW (x:ByteArray) (h:x∈V):m7 V 3 x qt 0 0 2 false false
 |wV (x:ByteArray) (h:x∈V):m7 V 3 x pV 0 0 1 false false
 |DX:m7 V 4 i4 i4 0 0 1 true true
 |AR (x:ByteArray) (h:x∈V):m7 V 5 x i4 0 0 2 true false
 |EB:m7 V 6 i4 i4 0 0 1 true false
 |ret:m7 V 7 i4 i4 0 0 1 false false
 |Ez:m7 V 8 i4 i4 0 0 1 false false
 |Cc (x:ByteArray) (h:x∈V):m7 V 9 x i4 0 0 0 true true
 |EH:m7 V 10 i4 i4 0 0 1 false false
 |ask (x:ByteArray) (h:x∈V):m7 V 11 x i4 0 0 1 false false
 |red (x:ByteArray) (h:x∈V) (o:Int) (ho:o=1∨o=6∨o=9):m7 V 12 x i4 0 o 1 false false
inductive l3(V:List ByteArray):Nat->Nat->List ST->Prop
 |nil (D:Nat):l3 V D 0 []
 |cons (D a b nb nl:Nat) (t:ST) (l:List ST) (B L:Bool) (h:m7 V t.hS t.name t.fn t.n t.op t.es.length B L) (hB:B=false->t.bs=[]) (hL:L=false->t.ls=[]) (hes:∀e∈t.es,EG V 2 e)
   (hb:l3 V D nb t.bs) (hl:l3 V D nl t.ls) (ha:a=1+nb+nl) (hr:l3 V (D+1) b l):l3 V (D+1) (a+b) (t::l)
def SG(V:List ByteArray)(D N:Nat)(t:ST):Prop:=l3 V D N [t]
def l3.append{a b:Nat}{l c:List ST}(h:l3 V D a l)(k:l3 V D b c):l3 V D (a+b) (l++c):=by
 induction h with
 |nil D=>simpa using k
 |cons D a b nb y t l d g h m n s r u p z _ _ j=>
  have:=j k
  rw[Ho];exact .cons D a _ nb y t _ d g h m n s r u p this
def EG.mono{d e:Nat}{t:ET}(h:EG V d t)(g:d<=e):EG V e t:=by
 induction h generalizing e with
 |num d j b c=>exact .num _ j b c
 |var d m h=>exact .var _ m h
 |new d j b c=>exact .new _ j b c
 |field d j A m b c h=>
  obtain⟨e,rfl⟩:∃k,e=k+1:=⟨e-1,X⟩;exact .field _ j A m b c h
 |bin d o A a n b c _ _ f p=>
  obtain⟨e,rfl⟩:∃k,e=k+1:=⟨e-1,X⟩;exact .bin _ o A a n b c (f X) (p X)
def EG.sub{W:List ByteArray}{d:Nat}{t:ET}(h:EG V d t)(j:∀s∈V,s∈W):EG W d t:=by
 induction h with
 |num d g b c=>exact .num _ g b c
 |var d s h=>exact .var _ s (j s h)
 |new d g b c=>exact .new _ g b c
 |field d g A s b c h=>exact .field _ g A s b c (j s h)
 |bin d o A a m b c _ _ f n=>exact .bin _ o A a m b c f n
def m7.sub{W:List ByteArray}{k n o:Int}{x f:ByteArray}{c:Nat}{B L:Bool}(h:m7 V k x f n o c B L)(b:∀s∈V,s∈W):m7 W k x f n o c B L:=by
 cases h with
 |vH x h=>exact .vH _ (b _ h)
 |EC n d g=>exact .EC _ d g
 |wW x h=>exact .wW _ (b _ h)
 |wV x h=>exact .wV _ (b _ h)
 |DX=>exact .DX
 |AR x h=>exact .AR _ (b _ h)
 |EB=>exact .EB
 |ret=>exact .ret
 |Ez=>exact .Ez
 |Cc x h=>exact .Cc _ (b _ h)
 |EH=>exact .EH
 |ask x h=>exact .ask _ (b _ h)
 |red x h o d=>exact .red _ (b _ h) _ d
def l3.sub{W:List ByteArray}{l:List ST}(h:l3 V D N l)(b:∀s∈V,s∈W):l3 W D N l:=by
 induction h with
 |nil D=>exact .nil D
 |cons D a g nb z t l c d h n p y _ _ r _ j m f=>exact .cons D a g nb z t l c d (h.sub b) n p (λe u=>(y e u).sub b) j m r f
def l3.mono{r:Nat}{l:List ST}(h:l3 V D N l)(hD:D<=r):l3 V r N l:=by
 induction h generalizing r with
 |nil D=>exact .nil r
 |cons D a d nb u t l b c h m n s _ _ p _ g j f=>
  obtain⟨e,rfl⟩:∃k,r=k+1:=⟨r-1,X⟩;exact .cons e a d nb u t l b c h m n s (g X) (j X) p (f hD)
def SG.leaf(h:m7 V t.hS t.name t.fn t.n t.op t.es.length false false)(b:t.bs=[])(c:t.ls=[])(d:∀e∈t.es,EG V 2 e):SG V (D+1) 1 t:=
 .cons D 1 0 0 0 t [] false false h (λ_=>b) (λ_=>c) d (by rw[b];exact .nil D) (by rw[c];exact .nil D) rfl (.nil _)
def SG.node{nb nl:Nat}(h:m7 V t.hS t.name t.fn t.n t.op t.es.length true true)(c:∀e∈t.es,EG V 2 e)(b:l3 V D nb t.bs)(d:l3 V D nl t.ls):SG V (D+1) (1+nb+nl) t:=
 .cons D (1+nb+nl) 0 nb nl t [] true true h (λh=>by cases h) (λh=>by cases h) c b d rfl (.nil _)
def SG.loop{nb:Nat}(h:m7 V t.hS t.name t.fn t.n t.op t.es.length true false)(b:t.ls=[])(d:∀e∈t.es,EG V 2 e)(c:l3 V D nb t.bs):SG V (D+1) (1+nb) t:=
 .cons D (1+nb) 0 nb 0 t [] true false h (λh=>by cases h) (λ_=>b) d c (by rw[b];exact .nil D) rfl (.nil _)
def lR(k:Int)(x f:ByteArray)(n o:Int)(A:OA)(c:Nat)(es:List ET):ST:=.mk k x f n o A c es none 0 [] none 0 []
def jD.es{p:Nat->Prop}(x f:ByteArray)(n o:Int){b:Nat}{es:List ET}(j:Sl w 226 5 (j_ b) es.length (es.flatMap ET.E))(h:p b)(g:∀u∈es,kl p w u):jD p w (lR k x f n o (j_ b) es.length es):=
 .mk _ j (H_ _) (λr m c _=>by injection c with c;injection c with c;subst c;exact h) g (Gz _ _ _ _) (H_ _) (λ_ _ c _=>by cases c) (λu d=>by cases d) (Gz _ _ _ _) (H_ _) (λ_ _ c _=>by cases c) (λu d=>by cases d)
def SU.trees{M:List Nat}{lo:Nat}(z:∀y∈M,y<lo)(d n:Nat):SU (λ_=>J M):=
 SU.of (λv w=>∃(x:Nat) (ts:List ET),v=.slice (j_ x) n n/\ts.length=n/\lo<=x/\Sl w 226 5 (j_ x) n (ts.flatMap ET.E)/\∀t∈ts,kl (jx lo) w t/\EG hM d t)
  (λ_ _ _ hg⟨x,ts,h1,h2,h3,ar,av⟩=>⟨x,ts,h1,h2,h3,ar.iy λy off U hx=>hg.block y hx (λMM=>by injection U with U;injection U with U;have:=z y MM;omega),λt MO=>⟨(av t MO).1.ib hg (λx hx=>Gm.2 (z x hx)),(av t MO).2⟩⟩)
def SU.stmt{M:List Nat}{lo:Nat}(z:∀y∈M,y<lo)(D N:Nat):SU (λ_=>J M):=
 SU.of (λv w=>∃t:ST,v=.agg t.g8/\jD (jx lo) w t/\SG hM D N t) (λ_ _ _ hg⟨t,h1,h2,h3⟩=>⟨t,h1,h2.ib hg (λx hx=>Gm.2 (z x hx)),h3⟩)
def ST.one(t:ST):t.g8.all (·.oneCell')=true:=by unfold ST.g8;simp[Value.oneCell']
def ET.ic(n:Int)(s:ByteArray)(o:Int)(A:OA)(c:Nat)(l:List ET):(ET.mk k n s o A c l).g8=#[Y k,Y n,.string s,Y o,.slice A l.length c]:=rfl
def ST.ic(x f:ByteArray)(n o:Int)(A:OA)(c:Nat)(es:List ET)(b:OA)(j:Nat)(h:List ST)(d:OA)(g:Nat)(m:List ST):(ST.mk k x f n o A c es b j h d g m).g8=#[Y k,.string x,.string f,Y n,Y o,.slice A es.length c,.slice b h.length j,.slice d m.length g]:=rfl
def nG(t:ET)(h:Bk w x 226 t.g8):Sl w 226 5 (j_ x) 1 ([t].flatMap ET.E):=jj (n:=1) h rfl
def tE(a b:ET)(h:Bk w x 226 (a.g8++b.g8)):Sl w 226 5 (j_ x) 2 ([a,b].flatMap ET.E):=by
 have:=jj (n:=2) (s:=5) h rfl
 rw[Array.toList_append]at this;exact this
section
variable{P:Program}
def AU(w:World)(base:Nat)(t ty e:TypeId)(i:TypeInfo)(s:Value)(d bytes:Nat)(z:P.underlying t=some (.slice e))(B:P.info? e=some i)(W:i.zero=some s)(C:i.size=d)(y:i.bytes=bytes)(D:s.cells.size=d)(H:0<d)(p:OA)(h n:Nat)(xs:List Value)(m:w.ownsRow base e d (.slice p n h) n xs)(A:OA)(b c:Nat)(j:List Value)(r:Sl w q d A b j)(R:∀u∈j,u.oneCell'=true)(f:(n+b)*bytes<=140737488355328)(L:0<bytes)(I:base<=w.heap.size):
 ∃A' c' w',(Builtin.append_ #[t,t] ty #[.slice p n h,.slice A b c]).run P w=.ok (.slice A' (n+b) c') w'/\w'.ownsRow base e d (.slice A' (n+b) c') (n+b) (xs++j)/\w.grownBy w' (Value.slice p n h).ownBlock/\((Value.slice A' (n+b) c').ownBlock=(Value.slice p n h).ownBlock∨(Value.slice A' (n+b) c').ownBlock=some w.heap.size):=by
 by_cases E:b=0
 .subst E;have F:=Ga (zu r.1);subst F;exact⟨p,h,w,by simpa using mi w base t ty e i d z B _ n xs m A c,by simpa using m,World.grownBy.refl w _,.inl rfl⟩
 .obtain⟨O,rfl,Y⟩:=r.nR X
  have l:n+b<=maxLen:=by
   have:n+b<=(n+b)*bytes:=Hf _ L
   simp only[maxLen];omega
  obtain⟨Z,w',F,h2,T,_,J⟩:=run_append_own_at (P:=P) w base t ty e i s d bytes z B W C y D H _ n xs m O b c j r.1 Y R l f I;have U:∃A' c',Z=.slice A' (n+b) c':=KW;obtain⟨A',c',rfl⟩:=U;exact⟨A',c',w',F,h2,T,J⟩
def oW{Q:Exit->Act->World->Prop}(s x:Operand)(t:TypeId)(ho:o.op=.call {callee:=.builtin .append,args:=#[s,x],argTypes:=#[t,t]})(base:Nat)(e:TypeId)(i:TypeInfo)(m:Value)(d bytes:Nat)(r:P.underlying t=some (.slice e))(H:P.info? e=some i)(J:i.zero=some m)(C:i.size=d)(y:i.bytes=bytes)(D:m.cells.size=d)(z:0<d)(L:0<bytes)(p:OA)(n g:Nat)(xs:List Value)(hs:a.eval s=.slice p n g)(E:w.ownsRow base e d (.slice p n g) n xs)(A:OA)(b c:Nat)(j:List Value)(hx:a.eval x=.slice A b c)(I:Sl w q d A b j)(F:∀u∈j,u.oneCell'=true)(f:(n+b)*bytes<=140737488355328)(B:base<=w.heap.size)(h:∀(A':OA) (c':Nat) (w':World),w'.ownsRow base e d (.slice A' (n+b) c') (n+b) (xs++j)->w.grownBy w' (Value.slice p n g).ownBlock->((Value.slice A' (n+b) c').ownBlock=(Value.slice p n g).ownBlock∨(Value.slice A' (n+b) c').ownBlock=some w.heap.size)->K (a.put o.dst (.slice A' (n+b) c')) w'):o.wp P a w K Q:=by
 obtain⟨A',c',w',MT,h2,h3,ar⟩:=AU (P:=P) w base t o.type e i m d bytes r H J C y D z p g n xs E A b c j I F f L B;exact Kl
def j0{ops:Array Oper}{rest:List Oper}{Q:Exit->Act->World->Prop}(H:o.guard=none){s x:Operand}{t:TypeId}(U:o.op=.call {callee:=.builtin .append,args:=#[s,x],argTypes:=#[t,t]})(base:Nat)(e:TypeId)(i:TypeInfo){m:Value}(d bytes:Nat)(r:P.underlying t=some (.slice e))(T:P.info? e=some i)(Z:i.zero=some m)(C:i.size=d)(y:i.bytes=bytes)(D:m.cells.size=d)(B:0<d)(L:0<bytes)(p:OA)(n g:Nat)(xs:List Value)(X:a.eval s=.slice p n g)(F:w.ownsRow base e d (.slice p n g) n xs)(A:OA)(b c:Nat)(j:List Value)(Y:a.eval x=.slice A b c)(W:Sl w q d A b j)(J:∀u∈j,u.oneCell'=true)(f:(n+b)*bytes<=140737488355328)(E:base<=w.heap.size)(h:∀(A':OA) (c':Nat) (w':World),w'.ownsRow base e d (.slice A' (n+b) c') (n+b) (xs++j)->w.grownBy w' (Value.slice p n g).ownBlock->((Value.slice A' (n+b) c').ownBlock=(Value.slice p n g).ownBlock∨(Value.slice A' (n+b) c').ownBlock=some w.heap.size)->wpList P ops Q rest (a.put o.dst (.slice A' (n+b) c')) w'):wpList P ops Q (o::rest) a w:=
 wpList_plain H λ_ z=>oW s x t U base e i m d bytes r T Z C y D B L p n g xs X F A b c j Y W J f E λA' c' w' O R I=>z _ _ (h A' c' w' O R I)
end
def zC(base:Nat)(o:Option Nat)(x:Nat):Prop:=base<=x/\o≠some x
def oS(o:Option Nat):List Nat:=match o with|some b=>[b]|none=>[]
def jC{o:Option Nat}:x∈oS o↔o=some x:=by
 cases o with
 |none=>simp[oS]
 |some b=>simp[oS,eq_comm]
def J.iW{o:Option Nat}(h:w.grownBy w' o):J (oS o) w w':=
 ⟨h.os,h.tape,h.output,h.size,λk c d=>h.block k c (λb=>d (jC.2 b.symm))⟩
def oa{d n:Nat}(h:w.ownsRow base e d v n xs)(s:J M w w')(y:∀x∈M,v.ownBlock≠some x):w'.ownsRow base e d v n xs:=by
 refine⟨h.1,?_⟩
 rcases h.2 with p|⟨b,u,m,rfl,r,c,j⟩
 .exact .inl p
 .refine .inr ⟨b,u,m,rfl,r,?_,j⟩;rw[s.block b (mK c) (λg=>y b g rfl)];exact c
def kx{j n:Nat}(h:w.ownsRow base e j v n xs)(b:v.ownBlock=some x):base<=x/\x<w.heap.size:=by
 rcases h.2 with⟨rfl,_⟩|⟨c,p,m,rfl,d,g,_⟩
 .cases b
 .have:c=x:=by simpa[Value.ownBlock]using b
  subst this;exact⟨d,mK g⟩
structure lI(V:List ByteArray)(base D N:Nat)(w:World)(A:OA)(c:Nat)(ts:List ST):Prop where
 own:w.ownsRow base 229 8 (.slice A ts.length c) ts.length (ts.flatMap ST.E)
 i3:∀t∈ts,jD (zC base (Value.slice A ts.length c).ownBlock) w t
 sg:l3 V D N ts
def lI.iy{c:Nat}(h:lI V base D N w A c ts)(d:J M w w')(g:∀x∈M,x<base):lI V base D N w' A c ts:=
 ⟨oa h.own d (λx b m=>by have:=(kx h.own m).1;have:=g x b;omega),λt j=>(h.i3 t j).ib d (λx b n=>by have:=g x b;have:=n.1;omega),h.sg⟩
def lI.nil(V:List ByteArray)(base D:Nat)(w:World):lI V base D 0 w none 0 []:=⟨iY _ _ _ _,(λ_ b=>by cases b),.nil _⟩
def lI.le{d c:Nat}(h:lI V base D N w A c ts)(b:d<=base):lI V d D N w A c ts:=
 ⟨oE h.own b,λt j=>(h.i3 t j).imp λx g=>⟨G_ b g.1,g.2⟩,h.sg⟩
def lI.add{K c c':Nat}{A':OA}{us:List ST}(h:lI V base D N w A c ts)(n:w'.ownsRow base 229 8 (.slice A' (ts.length+us.length) c') (ts.length+us.length) (ts.flatMap ST.E++us.flatMap ST.E))(s:w.grownBy w' (Value.slice A ts.length c).ownBlock)(d:(Value.slice A' (ts.length+us.length) c').ownBlock=(Value.slice A ts.length c).ownBlock∨(Value.slice A' (ts.length+us.length) c').ownBlock=some w.heap.size)(z:∀u∈us,jD (zC base (Value.slice A ts.length c).ownBlock) w u)(m:l3 V D K us):lI V base D (N+K) w' A' c' (ts++us):=by
 refine⟨?_,?_,h.sg.append m⟩
 .rw[K_,F2];exact n
 .intro t b
  have p:jD (zC base (Value.slice A ts.length c).ownBlock) w t:=by
   rcases T_.1 b with b|b
   .exact h.i3 t b
   .exact z t b
  have r:=p.lt.ib (J.iW s) (λx g y=>y.1.2 (jC.1 g))
  refine r.imp λx g=>⟨g.1.1,?_⟩
  rw[K_]
  rcases d with d|d
  .rw[d];exact g.1.2
  .rw[d];intro j;injection j with j
   have:=g.2
   omega
def infoSt:(prog.info? 229).map (λi=>(i.zero,i.size,i.bytes))=some (some (.agg S_),8,128):=by kernel_rfl
def infoStr:(prog.info? 9).map (λi=>(i.zero,i.size,i.bytes))=some (some (e_),1,16):=by kernel_rfl
def k9:∀u∈ts.flatMap ST.E,u.oneCell'=true:=by
 intro u b;obtain⟨t,_,b⟩:=Ha.1 b;simp[ST.E]at b
 rcases b with rfl|rfl|rfl|rfl|rfl|rfl|rfl|rfl<;>rfl
def rO(t:ST)(h:Bk w x 229 t.g8):Sl w 229 8 (j_ x) 1 ([t].flatMap ST.E):=jj (n:=1) h rfl
def BS:∀k,k<2->∃s,s∈hM/\(#[.string {data:=#[112]},.string {data:=#[113]}]:Array Value)[k]?=some (.string s)
 |0,_=>⟨pw,by simp[hM],rfl⟩
 |1,_=>⟨m9,by simp[hM],rfl⟩
def pR(B g m:Nat)(left loops fn:Int)(d:iL w B g)(c:Bk w m 222 #[q_ g,Y left,Y loops,Y fn])(hBm:B<=m):
 Calls prog 218 #[q_ m] w λe w'=>∃t,e=.returned (.agg t.g8)/\kl (jx w.heap.size) w' t/\EG hM 1 t/\iL w' B g/\J [g] w w':=by
 have a2:=d.x0;have cy:=c.lt
 go_enter func218,ntmps218
 go_upto_region 1 with fail
 have F:J [] w (w.alloc (.cells E_ 226)):=(H [] w).alloc _;replace d:=d.g_ F;replace c:=c.g_ F;have j:=Q_ w 226 E_;have MR:J [g] w (w.alloc (.cells E_ 226)):=(H [g] w).alloc _;clear F;obtain⟨bj,R⟩:=nm_ (w.alloc (.cells E_ 226));rw[<-R]at d c j MR |-;clear R;obtain⟨R0,Z⟩:=nm_ w.heap.size;rw[<-Z]at j |-;have de:w.heap.size<=R0:=X;have cU:g<R0:=X;have ad:B<=R0:=X;have cX:m<R0:=ov cy;clear Z;have u:∀af∈[g,R0],af<R0+1:=p_;have U:m≠g:=X;have aj:R0≠g:=X;have MN:=c.f_ 0
 go_upto_region 2 with(go_at_call 19;refine(iq B g 4 d X X).mono ?_;rintro e w1⟨k,rfl,T,W,bI,z⟩)
 clear MN;replace c:=c.gr z p_;replace j:=j.gr z p_;replace MR:=MR.trans z;replace d:=bI;clear z
 rcases(by omega:(k=0)∨(k=1)∨(k=2∨k=3))with T|W|cj
 .subst T
  go_upto_region 3 with fail
  obtain⟨b,p⟩:=nm_ w1;rw[<-p]at d c j MR |-;clear p;have y:Ex B g m R0 226 #[q_ g,Y left,Y loops,Y fn] E_ b b:=⟨d,c,j,H [g] b⟩;refine iI (Ex B g m R0 226 #[q_ g,Y left,Y loops,Y fn] E_ b) (λ_ ae=>∃t,Bk ae R0 226 t.g8/\kl (jx (R0+1)) ae t/\EG hM (1) t/\iL ae B g/\J [g,R0] b ae) (J [g,R0]) [SU.val _ (q_ m),SU.tree u (1),SU.any _] (SU.any _) [[],[0],[1]] true [(some 10,0),(some 11,1),(none,2)] k_ k_ (λ_ _ _ _ _ h=>h) k_ rfl rfl k_ y ⟨?_,?_,?_,trivial⟩ ?_
  .exact KV
  .refine hK [(some 10,0)] ?_;exact Jb
  .refine jr [(some 11,1)] ?_;exact Jc
  exact Kw
 .subst W
  go_upto_region 5 with fail
  obtain⟨b,p⟩:=nm_ w1;rw[<-p]at d c j MR |-;clear p;have y:Ex B g m R0 226 #[q_ g,Y left,Y loops,Y fn] E_ b b:=⟨d,c,j,H [g] b⟩;refine iI (Ex B g m R0 226 #[q_ g,Y left,Y loops,Y fn] E_ b) (λ_ ae=>∃t,Bk ae R0 226 t.g8/\kl (jx (R0+1)) ae t/\EG hM (1) t/\iL ae B g/\J [g,R0] b ae) (J [g,R0]) [SU.val _ (q_ m),SU.val _ (q_ m),SU.val _ (q_ m),SU.val _ (q_ g),SU.num _ 0 2,SU.pure _ (λv=>v=.agg (jv pw).g8),SU.z2 u 226 (jv pw).g8 1,SU.tree u (0+1),SU.any _] (SU.any _) [[],[0],[1],[2],[3],[],[5],[4,6],[7]] true [(some 14,0),(some 15,1),(some 16,2),(some 17,3),(some 18,4),(some 19,5),(some 20,6),(some 21,7),(none,8)] k_ k_ (λ_ _ _ _ _ h=>h) k_ rfl rfl k_ y ⟨?_,?_,?_,?_,?_,?_,?_,?_,?_,trivial⟩ ?_
  .exact KV
  .refine hK [(some 14,0)] ?_;exact KD
  .refine hK [(some 15,1)] ?_;exact KD
  .refine hK [(some 16,2)] ?_;exact Jr
  .refine hK [(some 17,3)] ?_;exact Ji
  .refine hK [] ?_;intro vs Q C MS K MT;clear MS
   try simp only[b_]at MT |-
   go_simp
   go_at_call 145
   refine(j5 pw).mono ?_;exact Mf
  .refine hK [(some 19,5)] ?_;intro vs Q C MS K MT;obtain⟨o, -⟩:=MS;have o:vs 5=.agg (jv pw).g8:=o
   try simp only[b_,o]at MT |-
   simp only[jv,ET.ic]at MT |-;exact Ld
  .refine hK [(some 18,4),(some 20,6)] ?_;intro vs Q C MS K MT;obtain⟨⟨O,o,cM,bt⟩,⟨L,aq,cp,bn⟩, -⟩:=MS
   try simp only[b_,o,aq]at MT |-
   go_simp;exact MT.out (.agg (p8 O (j_ L) (jv pw)).g8) _ C (H _ _) ⟨p8 O (j_ L) (jv pw),rfl,.mk _ (jj (n:=1) bn rfl) (H_ _) (λx off h _=>by injection h with h;injection h with h;omega) (by intro ag I;rcases N_.1 I with rfl|I;exact kl.leaf _ _ _ _ _ _;cases I),EG.field _ _ _ _ X X (by simp[hM])⟩
  .refine jr [(some 21,7)] ?_;exact Jc
  exact Kw
 .rcases cj with rfl|rfl
  all_goals
   go_upto_region 6 with fail
   obtain⟨b,p⟩:=nm_ w1;rw[<-p]at d c j MR |-;clear p;have y:Ex B g m R0 226 #[q_ g,Y left,Y loops,Y fn] E_ b b:=⟨d,c,j,H [g] b⟩;refine iI (Ex B g m R0 226 #[q_ g,Y left,Y loops,Y fn] E_ b) (λ_ ae=>∃t,Bk ae R0 226 t.g8/\kl (jx (R0+1)) ae t/\EG hM (1) t/\iL ae B g/\J [g,R0] b ae) (J [g,R0]) [SU.z2 u 9 #[.string {data:=#[112]},.string {data:=#[113]}] 2,SU.val _ (q_ m),SU.val _ (q_ m),SU.val _ (q_ m),SU.val _ (q_ g),SU.num _ 0 2,SU.elem u 9 #[.string {data:=#[112]},.string {data:=#[113]}] 2,SU.pure _ (λv=>∃s,s∈hM/\v=.string s),SU.tree u (0),SU.any _] (SU.any _) [[],[],[1],[2],[3],[4],[0,5],[6],[7],[8]] true [(some 22,0),(some 23,1),(some 24,2),(some 25,3),(some 26,4),(some 27,5),(some 28,6),(some 29,7),(some 30,8),(none,9)] k_ k_ (λ_ _ _ _ _ h=>h) k_ rfl rfl k_ y ⟨?_,?_,?_,?_,?_,?_,?_,?_,?_,?_,trivial⟩ ?_
   .exact JX
   .exact KV
   .refine hK [(some 23,1)] ?_;exact KD
   .refine hK [(some 24,2)] ?_;exact KD
   .refine hK [(some 25,3)] ?_;exact Jr
   .refine hK [(some 26,4)] ?_;exact Ji
   .refine hK [(some 22,0),(some 27,5)] ?_;exact Js
   .refine hK [(some 28,6)] ?_;exact JE
   .refine hK [(some 29,7)] ?_;intro vs Q C MS K MT;obtain⟨⟨I,L,o⟩, -⟩:=MS
    try simp only[b_,o]at MT |-
    go_simp
    go_at_call 145
    refine(j5 _).mono ?_;rintro e w1⟨rfl,hg1⟩;exact MT.out _ _ (C.g_ hg1) (hg1.mono s_) ⟨jv I,rfl,kl.leaf _ _ _ _ _ _,.var _ _ L⟩
   .refine jr [(some 30,8)] ?_;intro vs Q C MS K MT;obtain⟨⟨ta,o,aE,E⟩, -⟩:=MS
    try simp only[b_,o]at MT |-
    refine iV k_ ?_;refine ie 226 rfl R0 r_ ta.g8 r_ 226 C.r rfl k_ (ET.one _) ?_;intro ae ax G;exact MT.out undef _ (λ_=>⟨ta,ax,aE.ib G s_,E.mono X,C.d.ib G p_,(C.g.mono s_).trans (G.mono s_)⟩)
   intro vs bo C;simp only[b_];obtain⟨t,ax,MP,V,bl,G⟩:=C;go_wp2;exact rr_ t.g8 ax underlying226 ⟨t,rfl,MP.le X,V,bl,MR.hA G p_⟩
def BO(B g m:Nat)(left loops fn:Int)(v:ByteArray)(hv:v∈hM)(hd:iL w B g)(MM:Bk w m 222 #[q_ g,Y left,Y loops,Y fn])(hBm:B<=m):
 Calls prog 219 #[q_ m,.string v] w λe w'=>∃t,e=.returned (.agg t.g8)/\jD (jx w.heap.size) w' t/\SG hM 1 1 t/\iL w' B g/\J [g] w w':=by
 have R:=O hv;have L:=hd.x0;have F:=MM.lt
 go_enter func219,ntmps219
 go_upto_region 1 with fail
 have c:J [] w (w.alloc (.cells S_ 229)):=(H [] w).alloc _;replace hd:=hd.g_ c;replace MM:=MM.g_ c;have hR:=Q_ w 229 S_;have MR:J [g] w (w.alloc (.cells S_ 229)):=(H [g] w).alloc _;clear c;obtain⟨z,n⟩:=nm_ (w.alloc (.cells S_ 229));rw[<-n]at hd MM hR MR |-;clear n;obtain⟨R0,p⟩:=nm_ w.heap.size;rw[<-p]at hR |-;have de:w.heap.size<=R0:=X;have cU:g<R0:=X;have ad:B<=R0:=X;have cX:m<R0:=ov F;clear p;have ap:∀I∈[g,R0],I<R0+1:=p_;have U:m≠g:=X;have aj:R0≠g:=X;have MN:=MM.f_ 0;have aS:=MM.f_ 3
 by_cases j:fn=0
 .have M:(fn==0)=true:=by simp[j]
  clear j
  go_wp2_with fail
  go_at_call 19
  refine(iq B g 2 hd X X).mono ?_;rintro e w1⟨k,rfl,T,Z,y,b⟩;replace MM:=MM.gr b p_;replace hR:=hR.gr b p_;replace MR:=MR.trans b;replace hd:=y;clear b;clear MN aS
  by_cases s:k=0
  .subst s
   go_upto_region 2 with fail
   obtain⟨W,aM⟩:=nm_ w1;rw[<-aM]at hd MM hR MR |-;clear aM;have aI:Ex B g m R0 229 #[q_ g,Y left,Y loops,Y fn] S_ W W.drew:=⟨hd.g_ (H [] W).drew,MM.g_ (H [] W).drew,hR.g_ (H [] W).drew,(H [g] W).drew⟩;refine kf (Ex B g m R0 229 #[q_ g,Y left,Y loops,Y fn] S_ W) (λ_ ae=>∃t,Bk ae R0 229 t.g8/\jD (jx (R0+1)) ae t/\SG hM 1 1 t/\iL ae B g/\J [g,R0] W ae) (J [g,R0]) [SU.val _ (.string v),SU.val _ (q_ m),SU.tree ap (1),SU.val _ (q_ m),SU.val _ (q_ m),SU.val _ (q_ m),SU.val _ (q_ g),SU.num _ 0 4,SU.tree ap (0),SU.trees ap 2 2,SU.stmt ap (1) (1),SU.any _] (SU.any _) [[],[],[1],[],[3],[4],[5],[6],[7],[2,8],[0,9],[10]] true [(some 18,0),(some 19,1),(some 20,2),(some 21,3),(some 22,4),(some 23,5),(some 24,6),(some 25,7),(some 26,8),(some 27,9),(some 28,10),(none,11)] k_ k_ k_ (λ_ _ _ _ _ h=>h) k_ rfl rfl k_ aI ⟨?_,?_,?_,?_,?_,?_,?_,?_,?_,?_,?_,?_,trivial⟩ ?_
   .exact KV
   .exact KV
   .refine hK [(some 19,1)] ?_;exact Jb
   .exact KV
   .refine hK [(some 21,3)] ?_;exact KD
   .refine hK [(some 22,4)] ?_;exact KD
   .refine hK [(some 23,5)] ?_;exact Jr
   .refine hK [(some 24,6)] ?_;exact Ji
   .refine hK [(some 25,7)] ?_;intro vs Q C MS K MT;exact Jo
   .refine hK [(some 20,2),(some 26,8)] ?_;exact Iy
   .refine hK [(some 18,0),(some 27,9)] ?_;intro vs Q C MS K MT;obtain⟨o,⟨aG,tb,aq,nb,cp,bn,cF⟩, -⟩:=MS;replace o:_=_:=o
    try simp only[b_,o,aq]at MT |-
    go_simp;have aH:tb.length=_:=nb
    have a8:Sl Q 226 5 (j_ aG) tb.length (tb.flatMap ET.E):=by rw[aH];exact bn
    have hcl:(lR 3 v qt 0 0 (j_ aG) tb.length tb).g8=_:=rfl;simp only[ST.ic,lR,aH]at hcl;refine MT.out _ _ C (H _ _) ⟨lR 3 v qt 0 0 (j_ aG) tb.length tb,?_,jD.es _ _ _ _ _ a8 cp (λu hu=>(cF u hu).1),SG.leaf (t:=lR 3 v qt 0 0 (j_ aG) tb.length tb) (by show m7 _ 3 v qt 0 0 tb.length _ _;rw[aH];exact .wW _ hv) rfl rfl (λu hu=>(cF u hu).2)⟩
    show Value.agg _=Value.agg (lR 3 v qt 0 0 (j_ aG) tb.length tb).g8
    exact MK
   .refine jr [(some 28,10)] ?_;exact Jd
   exact Kx
  .have bh:(k==0)=false:=by simp[s]
   go_upto_region 3 with fail
   obtain⟨W,aM⟩:=nm_ w1;exact Ia
 .have M:(fn==0)=false:=by simp[j]
  go_upto_region 3 with fail
  clear MN aS;obtain⟨W,aM⟩:=nm_ z;exact Ia
