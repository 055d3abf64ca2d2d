import Derived.Test.YtenbhdilndfaeaaGreatH12
set_option maxRecDepth 100000
set_option maxHeartbeats 0
set_option linter.all false
namespace Go.Proofs.YtenbhdilndfaeaaGreat
open Go.RowKit Go.Proofs.Tryz
variable{G:Nat->World->World->Prop}{a a' a0:Act}{e f tr:TypeId}{vs:Nat->Value}{D N base i x:Nat}{v:Value}{o:Oper}{w w':World}{listed:Array Bool}{kI:List (List Nat)}{k7:Bool}{l:QZ}{K:Act->World->Prop}{t:ST}{V:QU}{A:OA}{xs:QX}{M:QY}{ts:QW}(k:Int)(ty:TypeId)(S:World->Prop)
def Ji{G:Prop} (h:G:=by
 rw[<-aJ]at hd hm hR N2 |-;clear aJ;have aG:Ex B g m R0 229 #[q_ g,Y left,Y loops,Y fn] S_ W W:=⟨hd,hm,hR,G_ [g] W⟩;refine iU (Ex B g m R0 229 #[q_ g,Y left,Y loops,Y fn] S_ W) (λ_ N0=>∃t,Bk N0 R0 229 t.g_/\jR (jK<|R0+1) N0 t/\SG hV 1 1 t/\iV N0 B g/\J [g,R0] W N0) (J [g,R0]) [SU.val _<|.string v,SU.val _<|q_ m,SU.tree aK<|1,SU.trees aK 2 1,SU.stmt aK (1)<|1,SU.any _] (SU.any _) [[],[],[1],[2],[0,3],[4]] true [(some 29,0),(some 30,1),(some 31,2),(some 32,3),(some 33,4),(none,5)] k_ k_ (λ_ _ _ _ _ h=>h) k_ rfl rfl k_ aG ⟨?_,?_,?_,?_,?_,?_,trivial⟩ ?_
 exact L6;exact L6;refine hU [(some 30,1)] ?_;exact Ki;refine hU [(some 31,2)] ?_;exact JS
 .refine hU [(some 29,0),(some 32,3)] ?_;intro vs Q C N3 K H;obtain⟨o,⟨aO,ao,ax,nb,cD,bG,cy⟩, -⟩:=N3;replace o:_=_:=o;try simp only[b_,o,ax]at H |-
  go_simp;have aH:ao.length=_:=nb;have bi:Sl Q 226 5 (j_ aO) ao.length (ao.flatMap ET.E):=by rw[aH];exact bG
  have hcl:(lW 3 v pW 0 0 (j_ aO) ao.length ao).g_=_:=rfl;simp only[ST.iu,lW,aH]at hcl;refine H.out _ _ C (G_ _ _) ⟨lW 3 v pW 0 0 (j_ aO) ao.length ao,?_,jR.es _ _ _ _ _ bi cD λu hu=>(cy u hu).1,SG.leaf (t:=lW 3 v pW 0 0 (j_ aO) ao.length ao) (by show nh _ 3 v pW 0 0 ao.length _ _;rw[aH];exact .xw _ hv) rfl rfl λu hu=>(cy u hu).2⟩;show Value.agg _=Value.agg (lW 3 v pW 0 0 (j_ aO) ao.length ao).g_;exact NT
 .refine jE [(some 33,4)] ?_;exact Km
 exact LB):G:=h
def Jl{G:Prop} (h:G:=by
 go_upto_region 5 with fail;have l:=hR.lt;have N:=(hm.alloc<|.cells mj 9).f_ 0;have dw:=((hm.alloc<|.cells mj 9).alloc<|.cells mj 9).f_ 0
 go_region_law (first|(go_simp;go_at_call 177;refine(l0).mono ?_;rintro e cI⟨rfl,rfl⟩;try(have c:=T_ w2 9 mj;have am:=(c.f_ r.toNat).trans bj;replace hR:=hR.alloc<|.cells mj 9;replace hd:=hd.hF<|(G_ [] w2).alloc<|.cells mj 9;replace N2:=N2.alloc<|.cells mj 9))|(go_simp;go_at_call 19;refine(iD B g 5 (hd.hF<|by first|exact(((G_ [] w1).alloc _).alloc _).drew|exact((G_ [] w1).alloc _).drew) X X).mono ?_;rintro e w2⟨r,rfl,bF,bB,ca,F⟩;obtain⟨s,hs,bj⟩:=xZ r bF bB;(first|(have q:=(((T_ w1 9 mj).alloc<|.cells mj 9).drew).gr F p_;have f:=((T_ (w1.alloc<|.cells mj 9) 9 mj).drew).gr F p_;have bq:=(q.f_ r.toNat).trans bj;have P:=(f.f_ r.toNat).trans bj;simp at P;replace hR:=(((hR.alloc<|.cells mj 9).alloc<|.cells mj 9).drew).gr F p_;replace N2:=(((N2.alloc<|.cells mj 9).alloc<|.cells mj 9).drew).trans F;replace hd:=ca)|(replace hR:=((hR.alloc<|.cells mj 9).drew).gr F p_;replace N2:=((N2.alloc<|.cells mj 9).drew).trans F;replace hd:=ca)))|(go_simp;go_at_call 145;refine(kk s).mono ?_;rintro e ae⟨he,S⟩;replace he:e=.returned (.agg #[Y 3,Y 0,.string s,Y 0,n_]):=he;subst he;replace hR:=hR.hF S;replace hd:=hd.hF S;replace N2:=N2.trans<|S.mono s_;have bE:=hR.hG 0;have z0:=hR.f_ 0;have bz:=hR.hG 1;have aM:=hR.f_ 1;have bX:=hR.hG 2;have aU:=hR.f_ 2;have dt:=hR.hG 3;have z3:=hR.f_ 3;have dQ:=hR.hG 4;have z4:=hR.f_ 4))
 all_goals
  go_wp2;have az:=(((((hR.hW 0<|Y 3).hW 1<|Y 0).hW 2<|.string s).hW 3<|Y 0).hW 4<|n_);have G:=((((((G_ [R0] ae).setCell (p:=(Z R0 0)) (.inl s_)<|Y 3).setCell (p:=(Z R0 1)) (.inl s_)<|Y 0).setCell (p:=(Z R0 2)) (.inl s_)<|.string s).setCell (p:=(Z R0 3)) (.inl s_)<|Y 0).setCell (p:=(Z R0 4)) (.inl s_)<|n_);exact rr_ (jG s).g_ az underlying226 ⟨jG s,rfl,kB.leaf _ _ _ _ _ _,EG.var _ _ hs,hd.ir G p_,(N2.t2 G du)⟩):G:=h
def JK{G:Prop} (h:G:=by
 go_upto_region 3 with fail;go_wp2_with (first|((go_at_call 19;refine(iD B g 9 hd X X).mono ?_;rintro e w2⟨r,rfl,bF,bB,ca,F⟩);have bO:IntKind.i64.wrap (r-2)=r-2:=G9 _ X)|(go_at_call 144;refine(ki<|r-2).mono ?_;rintro e ae⟨rfl,S⟩;replace hR:=(hR.gr F p_).hF S;replace hd:=ca.hF S;replace N2:=(N2.trans F).trans<|S.mono s_)|(refine k6 (jF<|r-2).g_ hR (ET.one _) ?_;intro N0 az G));exact rr_ (jF<|r-2).g_ az underlying226 ⟨jF<|r-2,rfl,kB.leaf _ _ _ _ _ _,EG.num _ _ X X,hd.ir G p_,(N2.t2 G du)⟩):G:=h
def Kl{G:Prop} (h:G:=by
 intro vs Q C N3 K H;obtain⟨⟨ta,o,ap,E⟩, -⟩:=N3;try simp only[b_,o]at H |-
 refine i5 k_ ?_;refine h9 226 rfl R0 r_ ta.g_ r_ 226 C.r rfl k_ (ET.one _) ?_;exact L4):G:=h
def K5{G:Prop} (h:G:=by
 intro vs Q C N3 K H;obtain⟨o, -⟩:=N3;replace o:_=_:=o;try simp only[b_,o]at H |-
 obtain⟨c9,a,be,cQ⟩:=id C;have U:=a.f_ 0;exact NJ):G:=h
def K9{G:Prop} (h:G:=by
 rw[<-hd,<-o8]at h1;refine wpOp_step (jP ho) λe H=>h1 e λv w' n N2 a=>H _ _ ⟨v,rfl,?_⟩;have hz:l.toArray.size=l.length:=s_;rw[hz,hl];exact⟨n,N2,a⟩):G:=h
def Lq{G:Prop} (h:G:=by
 rw[<-hd,<-o8]at h1;refine wpOp_step (jP ho) λe H=>h1 e λv w' N1=>H _ _ ⟨v,rfl,?_⟩;have hz:l.toArray.size=l.length:=s_;rw[hz,hl];exact N1):G:=h
def LC{G:Prop} (h:G:=by
 intro vs a2 C;simp only[b_];obtain⟨t,az,N1,aj,br,G⟩:=C;go_wp2;exact rr_ t.g_ az underlying226 ⟨t,rfl,N1.le X,aj,br,N2.hJ G p_⟩):G:=h
section
variable{P:Program}{ops:Array Oper}{Q:Exit->Act->World->Prop}{md:Region.Mode}
def jV(ops:Array Oper)(i:Nat):Option Tmp:=(ops[i]?).bind (·.dst)
def o9(ops:Array Oper)(vs:Nat->Value):List Nat->Act->Act
 |[],a=>a
 |i::l,a=>o9 ops vs l<|a.put (jV ops i)<|vs i
structure tj(ops:Array Oper)(a0:Act)(f:Nat->Bool)(vs:Nat->Value)(a:Act):Prop where
 defers:a.defers=a0.defers
 size:a.tmps.size=a0.tmps.size
 put:∀i d,f i=true->jV ops i=some d->d<a0.tmps.size->a.tmps[d]?=some (vs i)
 iF:∀d,(∀i,f i=true->jV ops i≠some d)->a.tmps[d]?=a0.tmps[d]?
def tj.ext{f:Nat->Bool}(h:tj ops a0 f vs a)(k:tj ops a0 f vs a'):a=a':=by
 have n:a.tmps=a'.tmps:=by
  apply Array.ext_getElem?;intro b;by_cases m:∃i,f i=true/\jV ops i=some b;obtain⟨i,c,d⟩:=m;rcases GU b a0.tmps.size with g|j
  rw[h.put i b c d g,k.put i b c d g];rw[GH (by rw[h.size];exact j),GH<|by rw[k.size];exact j];have g:∀i,f i=true->jV ops i≠some b:=λi c d=>m ⟨i,c,d⟩;rw[h.iF b g,k.iF b g]
 have p:=h.defers.trans k.defers.symm;cases a;cases a'
 simp only at n p;rw[n,p]
def tj.refl(a0:Act)(vs:Nat->Value):tj ops a0 (λ_=>false) vs a0:=⟨rfl,rfl,λ_ _ b=>by(cases b),λ_ _=>rfl⟩
def tj.congr{f g:Nat->Bool}{us:Nat->Value}(h:tj ops a0 f vs a)(j:∀b,f b=g b)(q:∀b,f b=true->vs b=us b):tj ops a0 g us a:=
 ⟨h.defers,h.size,λi d c n m=>by rw[h.put i d ((j i).trans c) n m,q i<|(j i).trans c],λd p=>h.iF d λi c=>p i<|(j i).symm.trans c⟩
def ES(ops:Array Oper):Prop:=∀i j d,jV ops i=some d->jV ops j=some d->i=j
def tj.add{f:Nat->Bool}(h:tj ops a0 f vs a)(q:ES ops)(i:Nat)(r:f i=false)(v:Value):
 tj ops a0 (λb=>b==i||f b) (λb=>if b=i then v else vs b) (a.put (jV ops i) v):=by
 refine⟨?_,?_,?_,?_⟩;cases x:jV ops i<;>exact h.defers
 cases x:jV ops i
 .exact h.size
 simpa[Act.put]using h.size
 .intro b c n l p;by_cases g:b=i;subst g;rw[l];simp[Act.put,h.size,p];have k:=by simpa[g]using n
  have d:=h.put b c k l p;cases x:jV ops i with
  |none=>simpa[Act.put,g]using d
  |some e=>
   have j:e≠c:=λm=>g<|q b i c l<|m▸x;simp only[Act.put,HW j,g,if_false];exact d
 intro c g;have p:=g i s_;have d:=h.iF c (λb n=>g b<|by simp[n]);cases x:jV ops i with
 |none=>exact d
 |some e=>
  have j:e≠c:=λm=>p<|m▸x;simp only[Act.put,HW j];exact d
def tj.o9{a0:Act}{vs:Nat->Value}(c:ES ops):∀(l:QY) (a:Act) (f:Nat->Bool),tj ops a0 f vs a->(∀b∈l,f b=false)->l.Nodup->tj ops a0 (λb=>l.contains b||f b) vs (o9 ops vs l a)
 |[],a,f,h,_,_=>h.congr (λb=>by simp) λ_ _=>rfl
 |i::l,a,f,h,d,j=>by
  have n:=h.add c i (d i s_)<|vs i;have p:=tj.o9 c l _ _ (n.congr (λ_=>rfl) λb _=>show(if b=i then vs i else vs b)=vs b by(split<;>simp_all)) (λb g=>by
   have m:b≠i:=λe=>(H5.1 j).1<|e▸g;simp[m,d b<|Z_ _ g]) (H5.1 j).2
  refine p.congr (λb=>?_) λ_ _=>rfl;simp only[List.contains_cons,Bool.or_assoc,Bool.or_left_comm]
def BM{x:Option Tmp}{u:Value}(h:a'.put x u=a'.put x v)(m:a.tmps.size=a'.tmps.size):a.put x u=a.put x v:=by
 cases x with
 |none=>rfl
 |some c=>
  have b:=GG (λg:Act=>g.tmps[c]?) h;simp only[Act.put]at b;rcases GU c a'.tmps.size with d|j
  simp[d]at b;rw[b];simp only[Act.put];congr 1;rw[Array.setIfInBounds,Array.setIfInBounds,dif_neg X,dif_neg X]
def sD(b:Act)(x:Option Tmp)(v:Value):(b.put x v).defers=b.defers:=by cases x<;>rfl
def ww{R:Value->World->Prop}(E:ops[i]?=some o)(H:∀cs b,o.op≠ .select cs b)(q:∀d∈o.looksAt ops,a.tmps[d]?=a'.tmps[d]?)(y:a.tmps.size=a'.tmps.size)(r:a.defers=a'.defers)(u:∀c t t' d w,Q (.panic c) ⟨t,d⟩ w->Q (.panic c) ⟨t',d⟩ w)(h:wpOp P ops Q i (λb w'=>∃v,b=a'.put o.dst v/\R v w') a' w):wpOp P ops Q i (λb w'=>∃v,b=a.put o.dst v/\R v w') a w:=by
 have j:execOp a.eval o=execOp a'.eval o:=execOp_congr o H λx I=>by
  cases x with
  |tmp t=>
   have:=q t<|GZ _<|Jh.2 ⟨.tmp t,by simpa using I,rfl⟩;simp only[Act.eval,GM,this]
  |_=>rfl
 have s:Region.wanted o (yielded ops a.tmps)=Region.wanted o (yielded ops a'.tmps):=by
  unfold Region.wanted;cases C:o.guard with
  |none=>rfl
  |some z=>
   obtain⟨n,L⟩:=z;have J:yielded ops a.tmps n=yielded ops a'.tmps n:=by
    unfold yielded;cases B:(ops[n]?).bind (·.dst)with
    |none=>rfl
    |some t=>
     have:=q t (by simp[Oper.looksAt,C,B]);simp only[Option.bind_some,this]
   simp only[J]
 have k:∀c w',Q (.panic c) a' w'->Q (.panic c) a w':=by
  cases a;cases a'
  simp only at r;subst r;exact λc w' h=>u c _ _ _ _ h
 have m:∀g w',(∃v,a'.put o.dst g=a'.put o.dst v/\R v w')->∃v,a.put o.dst g=a.put o.dst v/\R v w':=λg w'⟨v,p,F⟩=>⟨v,BM p y,F⟩;unfold wpOp at*;simp only[E]at*;rw[s];split
 .rename_i A;simp only[A,if_true]at h;rcases h with h|⟨l,J⟩
  case inr=>exact .inr ⟨by unfold Oper.asks at*;rw[j];exact l,J⟩
  refine .inl ?_;unfold Oper.wp at*;rw[j];generalize (execOp a'.eval o).run P w=O at*
  cases O with
  |ok L w'=>
   cases L<;>simp only[Oper.upon]at h |-
   case value g=>exact m g _ h
   case skip=>exact m _ _ h
   case defer d=>
    obtain⟨v,p,_⟩:=h;have n:=GG Act.defers p;rw[sD,sD]at n;have B:=GG List.length n;simp at B
   case enter f z=>
    refine Calls.mono h λe T j=>?_;cases e with
    |returned g=>exact m g _ j
    |panicked c=>exact k _ _ j
    |outgrown=>exact j
   case row row z=>exact Rows.mono h λg T j=>m g _ j
  |halt x w'=>
   cases x<;>simp only[Oper.upon]at h |-
   case panic g=>exact k _ _ h
 rename_i A;simp only[A]at h;exact m _ _ h
structure SU(G:Nat->World->World->Prop) where
 U:(Nat->Value)->Value->World->Prop
 ex:List Nat
 st:∀i,i∉ex->∀vs v w w',G i w w'->U vs v w->U vs v w'
 dp:List Nat
 loc:∀vs us v w,(∀j∈dp,vs j=us j)->U vs v w->U us v w
def SU.of{G:World->World->Prop}(U:Value->World->Prop)(st:∀v w w',G w w'->U v w->U v w'):SU (λ_=>G):=⟨λ_ v w=>U v w,[],λ_ _ _ v w w' hg h=>st v w w' hg h,[],λ_ _ _ _ _ h=>h⟩
def SU.AR{G:Nat->World->World->Prop}(ex:QY)(U:Value->World->Prop)(st:∀i,i∉ex->∀v w w',G i w w'->U v w->U v w'):SU G:=⟨λ_ v w=>U v w,ex,λi hi _ v w w' hg h=>st i hi v w w' hg h,[],λ_ _ _ _ _ h=>h⟩
def SU.wj{G:World->World->Prop}{H:Nat->World->World->Prop}(s:SU λ_=>G)(h:∀i a b,H i a b->G a b):SU H:=⟨s.U,s.ex,λi hi vs v w w' hg hu=>s.st i hi vs v w w' (h i _ _ hg) hu,s.dp,s.loc⟩
def nA{G:Nat->World->World->Prop}(p:Nat->SU G)(vs:Nat->Value)(w:World):List Nat->Prop
 |[]=>True
 |j::l=>(p j).U vs (vs j) w/\nA p vs w l
def nA.of{G:Nat->World->World->Prop}{p:Nat->SU G}{vs:Nat->Value}{w:World}:∀{l:QY},(∀b∈l,(p b).U vs (vs b) w)->nA p vs w l
 |[],_=>trivial
 |_::_,h=>⟨h _ s_,nA.of λb c=>h b<|by simp[c]⟩
def yZ{listed:Array Bool}(h:listed.getD i true=false):((listed.setIfInBounds i true).toList.filter (!·)).length+1<=(listed.toList.filter (!·)).length:=by
 have c:i<listed.size:=by
  rcases GU i listed.size with d|d
  exact d;rw[GM,GH d]at h;cases h
 have b:listed.toList[i]?=some false:=by
  rw[GM,GQ c]at h;simp at h;simp[c,h]
 rw[IV];generalize listed.toList=l at b;clear h c listed;induction l generalizing i with
 |nil=>simp at b
 |cons x l g=>
  cases i with
  |zero=>
   simp at b;subst b;simp
  |succ i=>
   have:=g (i:=i)<|zu b;cases x<;>simp only[HT,Iz]<;>simp<;>simpa using this
structure EO(md:Region.Mode)(ops:Array Oper)(kI:Nat->List Nat)(k7:Bool):Prop where
 Ge:Region.noSelect ops=true
 Az:ES ops
 back:∀i o,ops[i]?=some o->∀e∈o.after,Region.binds md e=true->e.on<i
 Gf:∀i,i<ops.size->(kI i).Nodup
 pre:∀i,i<ops.size->∀j∈kI i,lB md ops 16 i j=true
 look:∀i o,ops[i]?=some o->∀k d,jV ops k=some d->d∈o.looksAt ops->k∈kI i\/lB md ops 16 k i=true
 some:k7=true->0<ops.size
 last:k7=true->∀j,j+1<ops.size->lB md ops 16 (ops.size-1) j=true
def Cy(d:∀i o,ops[i]?=some o->∀e∈o.after,Region.binds md e=true->e.on<i)(h:Region.ready md ops listed=[])(p:listed.size=ops.size):∀i,i<ops.size->listed.getD i false=true:=by
 intro i;induction i using Nat.strongRecOn with
 |ind i m=>
  intro b;cases j:listed.getD i false with
  |true=>rfl
  |false=>
   exfalso;have n:listed.getD i true=false:=by
    rw[GM,GQ X]at j |-
    simpa using j
   have:i∈Region.ready md ops listed:=mem_ready.2 ⟨n,ops[i],GQ b,λe g c=>m e.on (d i _ (GQ b) e g c)<|ov<|d i _ (GQ b) e g c⟩;rw[h]at this;cases this
def zq(b:Bool)(A B:Prop):Prop:=match b with|true=>A|false=>B
def sZ(vs:Nat->Value)(i:Nat)(u:Value)(j:Nat):Value:=if j=i then u else vs j
def Ba{S:(Nat->Bool)->(Nat->Value)->World->Prop}{T:(Nat->Value)->World->Prop}{p:Nat->SU G}{kI:Nat->List Nat}(hc:EO md ops kI k7)(af:∀c t t' d w,Q (.panic c) ⟨t,d⟩ w->Q (.panic c) ⟨t',d⟩ w)(A:∀i,∀h∈(p i).dp,h∈kI i)(ad:∀h,h<ops.size->∀i∈(p h).ex,i=h\/lB md ops 16 h i=true)(N:∀i o,ops[i]?=some o->∀f vs w,f i=false->(∀h∈kI i,f h=true)->S f vs w->nA p vs w (kI i)->wpOp P ops Q i (λb w'=>∃v,b=(o9 ops vs (kI i) a0).put o.dst v/\zq (k7&&i+1==ops.size) (∀u,T (sZ vs i u) w') (S (λh=>h==i||f h) (sZ vs i v) w'/\G i w w'/\(p i).U vs v w')) (o9 ops vs (kI i) a0) w)(z:∀f vs w,(∀h,h<ops.size->f h=true)->zq k7 (T vs w) (S f vs w/\nA p vs w (List.range ops.size))->Q .normal (o9 ops vs (List.range ops.size) a0) w):
 ∀(fuel:Nat) (listed:Array Bool) (vs:Nat->Value) (a:Act) (w:World),sN md ops listed->listed.size=ops.size->(listed.toList.filter (!·)).length<=fuel->
  tj ops a0 (λh=>listed.getD h false) vs a->((k7=true/\(∀h,h<ops.size->listed.getD h false=true)/\T vs w)\/(¬(k7=true/\∀h,h<ops.size->listed.getD h false=true)/\S (λh=>listed.getD h false) vs w/\∀h,listed.getD h false=true->(p h).U vs (vs h) w))->wpAny P md ops Q fuel listed a w:=by
 have fin:∀(listed:Array Bool) (vs:Nat->Value) (a:Act) (w:World),listed.size=ops.size->tj ops a0 (λh=>listed.getD h false) vs a->((k7=true/\(∀h,h<ops.size->listed.getD h false=true)/\T vs w)\/(¬(k7=true/\∀h,h<ops.size->listed.getD h false=true)/\S (λh=>listed.getD h false) vs w/\∀h,listed.getD h false=true->(p h).U vs (vs h) w))->
  Region.ready md ops listed=[]->Q .normal a w:=by
  intro listed vs a w R B s J;have ah:=Cy hc.back J R;have h1:=(tj.refl (ops:=ops) a0 vs).o9 hc.Az (List.range ops.size) a0 _ (λ_ _=>rfl) List.nodup_range;have h2:=B.congr (g:=λh=>(List.range ops.size).contains h||false) (us:=vs) (λh=>by
   rcases GU h ops.size with r|r
   rw[ah h r];simp[r];rw[GM,GH X];simp;omega) (λ_ _=>rfl)
  rw[h2.ext h1];exact z _ vs w ah (by
   rcases s with⟨E,_,N1⟩|⟨E,s,N3⟩
   rw[E];exact N1;cases ai:k7 with
   |true=>exact GR ⟨ai,ah⟩ E
   |false=>exact⟨s,nA.of λh r=>N3 h<|ah h<|Ho.1 r⟩)
 intro fuel;induction fuel with
 |zero=>
  intro listed vs a w y R L B s;have J:Region.ready md ops listed=[]:=by
   cases J:Region.ready md ops listed with
   |nil=>rfl
   |cons i j=>
    have hi:i∈Region.ready md ops listed:=by rw[J];simp
    have:=yZ (mem_ready.1 hi).1;omega
  exact⟨J,fin listed vs a w R B s J⟩
 |succ fuel NZ=>
  intro listed vs a w y R L B s;refine⟨λJ=>fin listed vs a w R B s J,λi hi=>?_⟩;obtain⟨V,o,I,M⟩:=mem_ready.1 hi;have q:=nQ hi;have K:=(Hp.1 I).1;obtain⟨aZ,N3⟩:S (λh=>listed.getD h false) vs w/\∀h,listed.getD h false=true->(p h).U vs (vs h) w:=by
   rcases s with⟨_,s,_⟩|s
   rw[s i K]at q;cases q
   exact s.2
  have bU:=λh r=>kM y 16 i (hc.pre i K h r) (λH l e n m=>by rw[I]at l;injection l with l;subst l;exact M e n m);have h1:=N i o I _ vs w q bU aZ<|nA.of λh r=>N3 h<|bU h r;have hP:=(tj.refl (ops:=ops) a0 vs).o9 hc.Az (kI i) a0 _ (λ_ _=>rfl)<|hc.Gf i K;have ak:=B.size.trans hP.size.symm;have bO:∀d∈o.looksAt ops,a.tmps[d]?=(o9 ops vs (kI i) a0).tmps[d]?:=by
   intro d hd;by_cases O:∃k,listed.getD k false=true/\jV ops k=some d;obtain⟨k,C,Y⟩:=O;have aV:k∈kI i:=by
    rcases hc.look i o I k d Y hd with j|j
    exact j;have:=kM y 16 k j λH l e n m=>y _ H l C e n m;rw[this]at q;cases q
   rcases GU d a0.tmps.size with Z|bI
   rw[B.put k d C Y Z,hP.put k d (by simp[aV]) Y Z];rw[GH (by rw[B.size];exact bI),GH<|by rw[hP.size];exact bI];have L:∀k,listed.getD k false=true->jV ops k≠some d:=λk C Y=>O ⟨k,C,Y⟩;rw[B.iF d L,hP.iF d λk aV=>L k<|bU k<|zu aV]
  have h2:=ww I (λcs b=>Region.noSelect_spec hc.Ge i o cs b I) bO ak (B.defers.trans hP.defers.symm) af h1;refine wpOp_mono (λb w' m=>?_) h2;obtain⟨v,rfl,W⟩:=m;have x:o.dst=jV ops i:=by unfold jV;rw[I];rfl
  have aj:=B.add hc.Az i q v;rw[<-x]at aj;have dX:∀h,(listed.setIfInBounds i true).getD h false=(h==i||listed.getD h false):=by
   intro h;by_cases F:h=i;subst F;rw[GM,Q_,L_ rfl,L_ X];simp;rw[GM,Q_,K_<|Ne.symm F];simp[F]
  refine NZ (listed.setIfInBounds i true) (λh=>if h=i then v else vs h) _ w' (y.set hi) (zu R) (ov<|yZ V) (aj.congr (λh=>(dX h).symm) λ_ _=>rfl) ?_;by_cases cS:k7=true/\i+1=ops.size;obtain⟨E,ae⟩:=cS;rw[E,ae]at W;refine .inl ⟨E,λh r=>?_,?_⟩
  .rw[dX];by_cases F:h=i;simp[F];have h3:=hc.last E h X;have n:ops.size-1=i:=X;rw[n]at h3;rw[kM y 16 i h3 λH l e n m=>by rw[I]at l;injection l with l;subst l;exact M e n m];simp
  have Z:=by simpa[zq]using W
  exact Z v;have m:(k7&&i+1==ops.size)=false:=by
   cases ai:k7 with
   |false=>rfl
   |true=>simp;exact λj=>cS ⟨ai,j⟩
  rw[m]at W;obtain⟨W,N2,al⟩:=W;refine .inr ⟨λ⟨E,c6⟩=>?_,by(have n:=funext dX);rw[n];exact W,?_⟩;have L:=c6 (ops.size-1) X;rw[dX]at L;have Z:ops.size-1≠i:=λj=>cS ⟨E,X⟩;have D:listed.getD (ops.size-1) false=true:=by simpa[Z]using L
  have h3:=hc.last E i X;have:=kM y 16 (ops.size-1) h3 λH l e n m=>y _ H l D e n m;rw[this]at q;cases q
  intro h r;rw[dX]at r;by_cases F:h=i;subst F;simp only[if_true];refine(p h).loc vs _ _ _ (λk O=>?_) al;have C:=bU k<|A h k O;have Z:k≠h:=λj=>by rw[j,q]at C;cases C
  simp[Z];have bw:listed.getD h false=true:=by simpa[F]using r
  simp only[F,if_false];have am:h<ops.size:=by
   rcases GU h ops.size with j|j
   exact j;rw[GM,GH X]at bw;cases bw
  have ae:i∉(p h).ex:=λhm=>by
   rcases ad h am i hm with j|j
   exact F j.symm;have:=kM y 16 h j λH l e n m=>y _ H l bw e n m;rw[this]at q;cases q
  refine(p h).loc vs _ _ _ (λk O=>?_)<|(p h).st i ae _ _ _ _ N2<|N3 h bw;have C:=kM y 16 h (hc.pre h am k<|A h k O) λH l e n m=>y _ H l bw e n m;have Z:k≠i:=λj=>by rw[j,q]at C;cases C
  simp[Z]
def ns(md:Region.Mode)(ops:Array Oper)(i j:Nat):Bool:=(((ops[i]?).map λo=>o.after.any λe=>Region.binds md e&&e.on==j).getD false)||lB md ops 16 i j
def qo{d:Nat}(h:ns md ops i d=true):lB md ops 16 i d=true:=by
 unfold ns at h;simp only[Iu]at h;rcases h with h|h
 .unfold lB;cases c:ops[i]? with
  |none=>rw[c]at h;cases h
  |some o=>
   rw[c]at h;simp only[IC,HO]at h;obtain⟨j,g,b⟩:=I0.1 h;simp only[G4]at b;exact I0.2 ⟨j,g,by simp only[b.1,b.2,Ja,Bool.and_true]⟩
 exact h
def DP(md:Region.Mode)(ops:Array Oper)(kI:List<|List Nat)(k7:Bool):Bool:=
 Region.noSelect ops&&
 ((List.range ops.size).all λi=>(List.range ops.size).all λj=>i==j||(jV ops i).isNone||jV ops i !=jV ops j)&&
 ((List.range ops.size).all λi=>((ops[i]?).map λo=>o.after.all λe=> !Region.binds md e||decide (e.on<i)).getD true)&&
 ((List.range ops.size).all λi=>decide ((kI.getD i []).Nodup)&&(kI.getD i []).all λj=>ns md ops i j)&&
 ((List.range ops.size).all λi=>(List.range ops.size).all λk=>(kI.getD i []).contains k||((ops[i]?).map λo=>match jV ops k with|none=>true|some d=> !(o.looksAt ops).contains d).getD true||ns md ops k i)&&
 ((!k7||decide (0<ops.size))&&(!k7||(List.range<|ops.size-1).all λj=>ns md ops (ops.size-1) j))
def yH{d:Tmp}(h:jV ops i=some d):i<ops.size:=by
 rcases GU i ops.size with b|b
 exact b;unfold jV at h;rw[GH b]at h;cases h
def yh(h:DP md ops kI k7=true):EO md ops (λi=>kI.getD i []) k7:=by
 unfold DP at h;simp only[G4]at h;obtain⟨⟨⟨⟨⟨y,z⟩,B⟩,n⟩,s⟩,p,j⟩:=h;refine⟨y,?_,?_,?_,?_,?_,?_,?_⟩;intro i g u b c;have:=G6.1 (G6.1 z i<|Ho.2<|yH b) g<|Ho.2<|yH c;rw[b,c]at this;exact NW;intro i o d e C r;have:=G6.1 B i<|Ho.2 (Hp.1 d).1;rw[d]at this;simp only[IC,HO]at this;have:=(IH.1 this) e C;rw[r]at this;exact NW;intro i b;have:=G6.1 n i<|Ho.2 b;simp only[G4,HH]at this;exact this.1;intro i b g c;have:=G6.1 n i<|Ho.2 b;simp only[G4]at this;exact qo<|G6.1 this.2 g c;intro i o d k u r C;have:=G6.1 (G6.1 s i<|Ho.2 (Hp.1 d).1) k<|Ho.2<|yH r;rw[d,r]at this;simp only[IC,HO,Iu,Bool.not_eq_true']at this;rcases this with(h|h)|h
 exact .inl<|zu h;rw[List.contains_iff_mem.2 C]at h;cases h
 exact .inr<|qo h;intro m;rw[m]at p;simpa using p;intro m g c;rw[m]at j;simp only[Bool.not_true,IG]at j;exact qo<|G6.1 j g<|Ho.2 X
def sT(P:Program)(ops:Array Oper)(Q:Exit->Act->World->Prop)(a0:Act)(S:(Nat->Bool)->(Nat->Value)->World->Prop)(T:(Nat->Value)->World->Prop){G:Nat->World->World->Prop}(p:Nat->SU G)(kI:List<|List Nat)(k7:Bool)(i:Nat):Prop:=
 ∀o,ops[i]?=some o->∀f vs w,f i=false->(∀j∈kI.getD i [],f j=true)->S f vs w->nA p vs w (kI.getD i [])->wpOp P ops Q i (λb w'=>∃v,b=(o9 ops vs (kI.getD i []) a0).put o.dst v/\zq (k7&&i+1==ops.size) (∀u,T (sZ vs i u) w') (S (λj=>j==i||f j) (sZ vs i v) w'/\G i w w'/\(p i).U vs v w')) (o9 ops vs (kI.getD i []) a0) w
def sV(p:Nat->Prop)(k:Nat):Nat->Prop
 |0=>True
 |n+1=>p k/\sV p (k+1) n
def sV.get{p:Nat->Prop}:∀(n k:Nat),sV p k n->∀i,k<=i->i<k+n->p i
 |0,_,_,_,b,c=>by omega
 |n+1,k,h,i,b,c=>by
  rcases Nat.eq_or_lt_of_le b with rfl|h3
  exact h.1;exact sV.get n (k+1) h.2 i h3 X
def DV{p:List (SU G)}{b:SU G}{n:Nat}(h:((List.range n).all λi=>(p.getD i b).dp.all λc=>(kI.getD i []).contains c)=true)(g:b.dp=[])(m:p.length=n):∀i,∀c∈(p.getD i b).dp,c∈kI.getD i []:=by
 intro i c d;rcases GU i n with j|j
 have:=G6.1 (G6.1 h i<|Ho.2 j) c d;exact NW;rw[List.getD_eq_getElem?_getD,G7 X,IN,g]at d;cases d
def DU{p:List (SU G)}{b:SU G}(h:((List.range ops.size).all λc=>(p.getD c b).ex.all λi=>i==c||ns md ops c i)=true):∀c,c<ops.size->∀i∈(p.getD c b).ex,i=c\/lB md ops 16 c i=true:=λc g i d=>by
 have:=G6.1 (G6.1 h c<|Ho.2 g) i d;simp only[Iu,beq_iff_eq]at this;exact this.imp id qo
def lD(vs:Nat->Value):List (Option Tmp × Nat)->Act->Act
 |[],a=>a
 |p::l,a=>lD vs l<|a.put p.1<|vs p.2
def b_:(∀ (vs:Nat->Value) (d:Option Tmp) (c:Nat) (ds:List<|Option Tmp × Nat) (a:Act),lD vs ((d,c)::ds) a=lD vs ds (a.put d<|vs c)) /\ (∀ (vs:Nat->Value) (a:Act),lD vs [] a=a) /\ (∀ (a:Act) (i:Tmp) (v:Value),a.put (some i) v=⟨a.tmps.setIfInBounds i v,a.defers⟩) /\ (∀ (a:Act) (v:Value),a.put none v=a) /\
 (∀ {b:Type} (l:List b) (i:Nat) (a:b),l.toArray.setIfInBounds i a=(l.set i a).toArray) /\ (∀ {b:Type} (x y:b) (l:List b),(x::l).set 0 y=y::l) /\ (∀ {b:Type} (x y:b) (l:List b) (i:Nat),(x::l).set (i+1) y=x::l.set i y):=by
 refine⟨λ_ _ _ _ _=>?_,λ_ _=>rfl,λ_ _ _=>rfl,λ_ _=>rfl,λ_ _ _=>by simp,λ_ _ _=>rfl,λ_ _ _ _=>rfl⟩;rfl
def o8(ops:Array Oper)(vs:Nat->Value):∀(l:QY) (a:Act),o9 ops vs l a=lD vs (l.map λi=>(jV ops i,i)) a
 |[],_=>rfl
 |_::l,_=>o8 ops vs l _
def ox(S:(Nat->Bool)->(Nat->Value)->World->Prop)(T:(Nat->Value)->World->Prop)(G:Nat->World->World->Prop)(p:List<|SU G)(b:SU G)(kI:List<|List Nat)(k7:Bool)(dA:List<|Option Tmp × Nat){id:Nat}(H:P.follows .mixedOrders=true)(hc:DP .any l.toArray kI k7=true)(B:((List.range l.length).map λi=>(jV l.toArray i,i))=dA)(s:∀c t t' d w,Q (.panic c) ⟨t,d⟩ w->Q (.panic c) ⟨t',d⟩ w)(A:((List.range l.length).all λi=>(p.getD i b).dp.all λh=>(kI.getD i []).contains h)=true)(g:b.dp=[])(e:p.length=l.length)(r:((List.range l.toArray.size).all λh=>(p.getD h b).ex.all λi=>i==h||ns .any l.toArray h i)=true)(C:∀vs,S (λ_=>false) vs w.drew)(N:sV (sT P l.toArray Q a S T (λi=>p.getD i b) kI k7) 0 l.length)(z:∀f vs w',(∀h,h<l.length->f h=true)->zq k7 (T vs w') (S f vs w'/\nA (λi=>p.getD i b) vs w' (List.range l.length))->Q .normal (lD vs dA a) w'):(Code.region id l.toArray true).wp P Q a w:=by
 refine wp_region_any H ?_;have I:l.toArray.size=l.length:=s_;refine Ba (yh hc) s (DV A g e) (DU r) (λi o n=>sV.get _ _ N i (R_ _) (ov<|(Hp.1 n).1) o n) (by rw[I];intro f vs w' F y;rw[o8,B];exact z f vs w' F y) _ _ (λ_=>undef) a _ ?_ s_ ?_ ?_<|.inr ⟨?_,by(have E:(λh=>(Array.replicate l.toArray.size false).getD h false)=(λ_=>false):=by(funext h;rw[GM,Ih];split<;>rfl));rw[E];exact C _,?_⟩;intro k ok u j;exfalso;have m:=(Hp.1 u).1;rw[GM,Ih,L_ m]at j;cases j
 refine H_ (Hw _ _) ?_;simp;refine(tj.refl a _).congr (λh=>?_) λ_ _=>rfl;rw[GM,Ih];split<;>rfl;rintro⟨j,u⟩;have m:=(yh hc).some j;have:=u 0 m;rw[GM,Ih,L_ m]at this;cases this
 intro h m;rw[GM,Ih]at m;split at m<;>cases m
def oy(S:(Nat->Bool)->World->Prop)(T:(Nat->Value)->World->Prop)(G:Nat->World->World->Prop)(p:List<|SU G)(b:SU G)(kI:List<|List Nat)(k7:Bool)(dA:List<|Option Tmp × Nat){id:Nat}(q:P.follows .mixedOrders=true)(hc:DP .any l.toArray kI k7=true)(n:((List.range l.length).map λi=>(jV l.toArray i,i))=dA)(m:∀c t t' d w,Q (.panic c) ⟨t,d⟩ w->Q (.panic c) ⟨t',d⟩ w)(A:((List.range l.length).all λi=>(p.getD i b).dp.all λh=>(kI.getD i []).contains h)=true)(g:b.dp=[])(e:p.length=l.length)(j:((List.range l.toArray.size).all λh=>(p.getD h b).ex.all λi=>i==h||ns .any l.toArray h i)=true)(C:S (λ_=>false) w.drew)(N:sV (sT P l.toArray Q a (λf _=>S f) T (λi=>p.getD i b) kI k7) 0 l.length)(z:∀f vs w',(∀h,h<l.length->f h=true)->zq k7 (T vs w') (S f w'/\nA (λi=>p.getD i b) vs w' (List.range l.length))->Q .normal (lD vs dA a) w'):(Code.region id l.toArray true).wp P Q a w:=
 ox (λf _=>S f) T G p b kI k7 dA q hc n m A g e j (λ_=>C) N z
def ku(T:(Nat->Value)->World->Prop)(G:World->World->Prop)(p:List<|SU λ_=>G)(b:SU λ_=>G)(kI:List<|List Nat)(k7:Bool)(dA:List<|Option Tmp × Nat){id:Nat}(r:P.follows .mixedOrders=true)(hc:DP .any l.toArray kI k7=true)(q:((List.range l.length).map λi=>(jV l.toArray i,i))=dA)(m:∀c t t' d w,Q (.panic c) ⟨t,d⟩ w->Q (.panic c) ⟨t',d⟩ w)(A:((List.range l.length).all λi=>(p.getD i b).dp.all λh=>(kI.getD i []).contains h)=true)(g:b.dp=[])(e:p.length=l.length)(j:((List.range l.toArray.size).all λh=>(p.getD h b).ex.all λi=>i==h||ns .any l.toArray h i)=true)(C:S w.drew)(N:sV (sT P l.toArray Q a (λ_ _=>S) T (λi=>p.getD i b) kI k7) 0 l.length)(z:∀vs w',zq k7 (T vs w') (S w'/\nA (λi=>p.getD i b) vs w' (List.range l.length))->Q .normal (lD vs dA a) w'):(Code.region id l.toArray true).wp P Q a w:=
 oy (λ_=>S) T (λ_=>G) p b kI k7 dA r hc q m A g e j C N λ_ vs w' _ n=>z vs w' n
def pT(j:∀i o,ops[i]?=some o->∀e∈o.after,Region.binds md e=true->e.on<i):∀(f b i:Nat),lB md ops f b i=true->i<b
 |0,_,_,h=>by cases h
 |f+1,b,i,h=>by
  unfold lB at h;cases d:ops[b]? with
  |none=>rw[d]at h;cases h
  |some n=>
   rw[d]at h;simp only at h;obtain⟨q,m,c⟩:=I0.1 h;simp only[G4,Iu,beq_iff_eq]at c;have p:=j b n d _ (Array.getElem_mem m) c.1;rcases c.2 with g|g
   omega;have:=pT j f _ i g;omega
def A_{S:(Nat->Bool)->(Nat->Value)->World->Prop}{T:(Nat->Value)->World->Prop}{p:Nat->SU G}{kI:Nat->List Nat}(hc:EO md ops kI k7)(af:∀c t t' d w,Q (.panic c) ⟨t,d⟩ w->Q (.panic c) ⟨t',d⟩ w)(A:∀i,∀h∈(p i).dp,h∈kI i)(ad:∀h,h<ops.size->∀i∈(p h).ex,i=h\/lB md ops 16 h i=true)(N:∀i o,ops[i]?=some o->∀f vs w,f i=false->(∀h∈kI i,f h=true)->S f vs w->nA p vs w (kI i)->wpOp P ops Q i (λb w'=>∃v,b=(o9 ops vs (kI i) a0).put o.dst v/\zq (k7&&i+1==ops.size) (∀u,T (sZ vs i u) w') (S (λh=>h==i||f h) (sZ vs i v) w'/\G i w w'/\(p i).U vs v w')) (o9 ops vs (kI i) a0) w)(z:∀f vs w,(∀h,h<ops.size->f h=true)->zq k7 (T vs w) (S f vs w/\nA p vs w (List.range ops.size))->Q .normal (o9 ops vs (List.range ops.size) a0) w):
 ∀(m k:Nat) (vs:Nat->Value) (a:Act) (w:World),k+m=ops.size->tj ops a0 (λh=>decide (h<k)) vs a->zq (k7&&k==ops.size) (T vs w) (S (λh=>decide (h<k)) vs w/\∀h,h<k->(p h).U vs (vs h) w)->wpOps P ops Q (List.range' k m) a w:=by
 intro m;induction m with
 |zero=>
  intro k vs a w O r n;have J:=(tj.refl (ops:=ops) a0 vs).o9 hc.Az (List.range ops.size) a0 _ (λ_ _=>rfl) List.nodup_range;have L:=r.congr (g:=λh=>(List.range ops.size).contains h||false) (us:=vs) (λh=>by
   have:k=ops.size:=X;subst this;simp) λ_ _=>rfl
  show Q .normal a w;rw[L.ext J];have s:k=ops.size:=X;refine z (λh=>decide (h<k)) vs w (λh j=>by simp;omega) ?_;rw[s]at n;cases y:k7 with
  |true=>rw[y]at n;simpa[zq]using n
  |false=>
   rw[y]at n;have n:S _ vs w/\∀h,h<ops.size->(p h).U vs (vs h) w:=n;exact⟨by rw[s];exact n.1,nA.of λh j=>n.2 h<|Ho.1 j⟩
 |succ m NZ=>
  intro k vs a w O r n;rw[List.range'_succ,wpOps_cons];have H:k<ops.size:=X;obtain⟨o,E⟩:∃o,ops[k]?=some o:=⟨_,GQ H⟩;have B:(k7&&k==ops.size)=false:=by
   have:(k==ops.size)=false:=p_;rw[this,Bool.and_false]
  rw[B]at n;obtain⟨n,Y⟩:S (λh=>decide (h<k)) vs w/\∀h,h<k->(p h).U vs (vs h) w:=n;have F:=λh j=>pT hc.back 16 k h<|hc.pre k H h j;have J:=N k o E _ vs w s_ (λh j=>by simpa using F h j) n<|nA.of λh j=>Y h<|F h j;have C:=(tj.refl (ops:=ops) a0 vs).o9 hc.Az (kI k) a0 _ (λ_ _=>rfl)<|hc.Gf k H;have bO:∀d∈o.looksAt ops,a.tmps[d]?=(o9 ops vs (kI k) a0).tmps[d]?:=by
   intro d hd;by_cases j:∃h,h<k/\jV ops h=some d;obtain⟨h,I,l⟩:=j;have aV:h∈kI k:=by
    rcases hc.look k o E h d l hd with s|s
    exact s;have:=pT hc.back 16 h k s;omega
   rcases GU d a0.tmps.size with R|Z
   rw[r.put h d (zu I) l R,C.put h d (by simp[aV]) l R];rw[GH (by rw[r.size];exact Z),GH<|by rw[C.size];exact Z];have R:∀h,h<k->jV ops h≠some d:=λh I l=>j ⟨h,I,l⟩;rw[r.iF d λh j=>R h<|zu j,C.iF d λh e=>R h<|F h<|zu e]
  have L:=ww E (λcs b=>Region.noSelect_spec hc.Ge k o cs b E) bO (r.size.trans C.size.symm) (r.defers.trans C.defers.symm) af J;refine wpOp_mono (λb w' hb=>?_) L;obtain⟨v,rfl,y⟩:=hb;have x:o.dst=jV ops k:=by unfold jV;rw[E];rfl
  have W:=r.add hc.Az k s_ v;rw[<-x]at W;refine NZ (k+1) (λh=>if h=k then v else vs h) _ w' X (W.congr (λh=>?_) λ_ _=>rfl) ?_;rw[Bool.eq_iff_iff];simp;omega;cases Z:(k7&&k+1==ops.size)with
  |true=>rw[Z]at y;exact y v
  |false=>
   rw[Z]at y;obtain⟨y,N2,ah⟩:=y;refine⟨by(have he:(λh=>decide (h<k+1))=(λh=>h==k||decide (h<k)):=by(funext h;rw[Bool.eq_iff_iff];simp;omega));rw[he];exact y,λh j=>?_⟩;by_cases R:h=k;subst R;simp only[if_true];refine(p h).loc vs _ _ _ (λk O=>?_) ah;have:=F k<|A h k O;have B:k≠h:=X;simp[B];simp only[R,if_false];have ae:k∉(p h).ex:=λhm=>by
    rcases ad h X k hm with s|s
    exact R s.symm;have:=pT hc.back 16 h k s;omega
   refine(p h).loc vs _ _ _ (λq aj=>?_)<|(p h).st k ae _ _ _ _ N2<|Y h X;have:=pT hc.back 16 h q<|hc.pre h X q<|A h q aj;have B:q≠k:=X;simp[B]
def uB(S:(Nat->Bool)->(Nat->Value)->World->Prop)(T:(Nat->Value)->World->Prop)(G:Nat->World->World->Prop)(p:List<|SU G)(b:SU G)(kI:List<|List Nat)(k7:Bool)(dA:List<|Option Tmp × Nat){id:Nat}(hc:DP .any l.toArray kI k7=true)(y:((List.range l.length).map λi=>(jV l.toArray i,i))=dA)(r:∀c t t' d w,Q (.panic c) ⟨t,d⟩ w->Q (.panic c) ⟨t',d⟩ w)(A:((List.range l.length).all λi=>(p.getD i b).dp.all λh=>(kI.getD i []).contains h)=true)(g:b.dp=[])(e:p.length=l.length)(n:((List.range l.toArray.size).all λh=>(p.getD h b).ex.all λi=>i==h||ns .any l.toArray h i)=true)(C:∀vs,S (λ_=>false) vs w)(N:sV (sT P l.toArray Q a S T (λi=>p.getD i b) kI k7) 0 l.length)(z:∀f vs w',(∀h,h<l.length->f h=true)->zq k7 (T vs w') (S f vs w'/\nA (λi=>p.getD i b) vs w' (List.range l.length))->Q .normal (lD vs dA a) w'):(Code.region id l.toArray false).wp P Q a w:=by
 refine wp_region ?_;have H:l.toArray.size=l.length:=s_;have j:=yh hc;rw[List.range_eq_range'];refine A_ j r (DV A g e) (DU n) (λi o m=>sV.get _ _ N i (R_ _) (ov<|(Hp.1 m).1) o m) (by rw[H];intro f vs w' B u;rw[o8,y];exact z f vs w' B u) l.toArray.size 0 (λ_=>undef) a w X ?_ ?_;exact(tj.refl a _).congr (λh=>by simp) λ_ _=>rfl;cases F:k7 with
 |false=>exact⟨by simpa using C _,λh E=>by omega⟩
 |true=>
  have s:=j.some F;have:((0:Nat)==l.toArray.size)=false:=by simp at s |-;intro I;omega
  rw[this];exact⟨by simpa using C _,λh E=>by omega⟩
def qy(S:(Nat->Bool)->World->Prop)(T:(Nat->Value)->World->Prop)(G:Nat->World->World->Prop)(p:List<|SU G)(b:SU G)(kI:List<|List Nat)(k7:Bool)(dA:List<|Option Tmp × Nat){id:Nat}(hc:DP .any l.toArray kI k7=true)(n:((List.range l.length).map λi=>(jV l.toArray i,i))=dA)(m:∀c t t' d w,Q (.panic c) ⟨t,d⟩ w->Q (.panic c) ⟨t',d⟩ w)(A:((List.range l.length).all λi=>(p.getD i b).dp.all λh=>(kI.getD i []).contains h)=true)(g:b.dp=[])(e:p.length=l.length)(j:((List.range l.toArray.size).all λh=>(p.getD h b).ex.all λi=>i==h||ns .any l.toArray h i)=true)(C:S (λ_=>false) w)(N:sV (sT P l.toArray Q a (λf _=>S f) T (λi=>p.getD i b) kI k7) 0 l.length)(z:∀f vs w',(∀h,h<l.length->f h=true)->zq k7 (T vs w') (S f w'/\nA (λi=>p.getD i b) vs w' (List.range l.length))->Q .normal (lD vs dA a) w'):(Code.region id l.toArray false).wp P Q a w:=
 uB (λf _=>S f) T G p b kI k7 dA hc n m A g e j (λ_=>C) N z
def iU(T:(Nat->Value)->World->Prop)(G:World->World->Prop)(p:List<|SU λ_=>G)(b:SU λ_=>G)(kI:List<|List Nat)(k7:Bool)(dA:List<|Option Tmp × Nat){id:Nat}(hc:DP .any l.toArray kI k7=true)(q:((List.range l.length).map λi=>(jV l.toArray i,i))=dA)(m:∀c t t' d w,Q (.panic c) ⟨t,d⟩ w->Q (.panic c) ⟨t',d⟩ w)(A:((List.range l.length).all λi=>(p.getD i b).dp.all λh=>(kI.getD i []).contains h)=true)(g:b.dp=[])(e:p.length=l.length)(j:((List.range l.toArray.size).all λh=>(p.getD h b).ex.all λi=>i==h||ns .any l.toArray h i)=true)(C:S w)(N:sV (sT P l.toArray Q a (λ_ _=>S) T (λi=>p.getD i b) kI k7) 0 l.length)(z:∀vs w',zq k7 (T vs w') (S w'/\nA (λi=>p.getD i b) vs w' (List.range l.length))->Q .normal (lD vs dA a) w'):(Code.region id l.toArray false).wp P Q a w:=
 qy (λ_=>S) T (λ_=>G) p b kI k7 dA hc q m A g e j C N λ_ vs w' _ n=>z vs w' n
def hU{S:World->Prop}{T:(Nat->Value)->World->Prop}{G:World->World->Prop}{p:Nat->SU (λ_=>G)}{r:QZ}(ds:List<|Option Tmp × Nat)(h:∀vs w,S w->nA p vs w (kI.getD i [])->∀e:Act->World->Prop,Shut (∀v w',S w'->G w w'->(p i).U vs v w'->e ((lD vs ds a0).put o.dst v) w')->
   if Region.wanted o (yielded l.toArray (lD vs ds a0).tmps)=true then Oper.wp P o (lD vs ds a0) w e Q else e ((lD vs ds a0).put o.dst undef) w)(hl:(k7&&i+1==l.length)=false:=by rfl)(ho:l.drop i=o::r:=by rfl)(hd:((kI.getD i []).map λj=>(jV l.toArray j,j))=ds:=by kernel_rfl):
 sT P l.toArray Q a0 (λ_ _=>S) T p kI k7 i:=by
 intro g b f vs w hf hp C N3;rw[jP ho]at b;injection b with b;subst b;have h1:=h vs w C N3;exact K9
def jp{S:(Nat->Bool)->World->Prop}{T:(Nat->Value)->World->Prop}{p:Nat->SU G}{r:QZ}(ds:List<|Option Tmp × Nat)(h:∀f vs w,f i=false->S f w->nA p vs w (kI.getD i [])->∀e:Act->World->Prop,Shut (∀v w',S (λj=>j==i||f j) w'->G i w w'->(p i).U vs v w'->e ((lD vs ds a0).put o.dst v) w')->
   if Region.wanted o (yielded l.toArray (lD vs ds a0).tmps)=true then Oper.wp P o (lD vs ds a0) w e Q else e ((lD vs ds a0).put o.dst undef) w)(hl:(k7&&i+1==l.length)=false:=by rfl)(ho:l.drop i=o::r:=by rfl)(hd:((kI.getD i []).map λj=>(jV l.toArray j,j))=ds:=by kernel_rfl):
 sT P l.toArray Q a0 (λf _=>S f) T p kI k7 i:=by
 intro g b f vs w hf hp C N3;rw[jP ho]at b;injection b with b;subst b;have h1:=h f vs w hf C N3;exact K9
def jX{S:(Nat->Bool)->(Nat->Value)->World->Prop}{T:(Nat->Value)->World->Prop}{p:Nat->SU G}{r:QZ}(ds:List<|Option Tmp × Nat)(h:∀f vs w,f i=false->(∀j∈kI.getD i [],f j=true)->S f vs w->nA p vs w (kI.getD i [])->∀e:Act->World->Prop,Shut (∀v w',S (λj=>j==i||f j) (sZ vs i v) w'->G i w w'->(p i).U vs v w'->e ((lD vs ds a0).put o.dst v) w')->
   if Region.wanted o (yielded l.toArray (lD vs ds a0).tmps)=true then Oper.wp P o (lD vs ds a0) w e Q else e ((lD vs ds a0).put o.dst undef) w)(hl:(k7&&i+1==l.length)=false:=by rfl)(ho:l.drop i=o::r:=by rfl)(hd:((kI.getD i []).map λj=>(jV l.toArray j,j))=ds:=by kernel_rfl):
 sT P l.toArray Q a0 S T p kI k7 i:=by
 intro g b f vs w hf hp C N3;rw[jP ho]at b;injection b with b;subst b;have h1:=h f vs w hf hp C N3;exact K9
def jE{S:World->Prop}{T:(Nat->Value)->World->Prop}{G:World->World->Prop}{p:Nat->SU (λ_=>G)}{r:QZ}(ds:List<|Option Tmp × Nat)(h:∀vs w,S w->nA p vs w (kI.getD i [])->∀e:Act->World->Prop,Shut (∀v w',(∀u,T (sZ vs i u) w')->e ((lD vs ds a0).put o.dst v) w')->
   if Region.wanted o (yielded l.toArray (lD vs ds a0).tmps)=true then Oper.wp P o (lD vs ds a0) w e Q else e ((lD vs ds a0).put o.dst undef) w)(hl:(k7&&i+1==l.length)=true:=by rfl)(ho:l.drop i=o::r:=by rfl)(hd:((kI.getD i []).map λj=>(jV l.toArray j,j))=ds:=by kernel_rfl):
 sT P l.toArray Q a0 (λ_ _=>S) T p kI k7 i:=by
 intro g b f vs w hf hp C N3;rw[jP ho]at b;injection b with b;subst b;have h1:=h vs w C N3;exact Lq
def wM{S:(Nat->Bool)->World->Prop}{T:(Nat->Value)->World->Prop}{p:Nat->SU G}{r:QZ}(ds:List<|Option Tmp × Nat)(h:∀f vs w,f i=false->S f w->nA p vs w (kI.getD i [])->∀e:Act->World->Prop,Shut (∀v w',(∀u,T (sZ vs i u) w')->e ((lD vs ds a0).put o.dst v) w')->
   if Region.wanted o (yielded l.toArray (lD vs ds a0).tmps)=true then Oper.wp P o (lD vs ds a0) w e Q else e ((lD vs ds a0).put o.dst undef) w)(hl:(k7&&i+1==l.length)=true:=by rfl)(ho:l.drop i=o::r:=by rfl)(hd:((kI.getD i []).map λj=>(jV l.toArray j,j))=ds:=by kernel_rfl):
 sT P l.toArray Q a0 (λf _=>S f) T p kI k7 i:=by
 intro g b f vs w hf hp C N3;rw[jP ho]at b;injection b with b;subst b;have h1:=h f vs w hf C N3;exact Lq
def wL{S:(Nat->Bool)->(Nat->Value)->World->Prop}{T:(Nat->Value)->World->Prop}{p:Nat->SU G}{r:QZ}(ds:List<|Option Tmp × Nat)(h:∀f vs w,f i=false->(∀j∈kI.getD i [],f j=true)->S f vs w->nA p vs w (kI.getD i [])->∀e:Act->World->Prop,Shut (∀v w',(∀u,T (sZ vs i u) w')->e ((lD vs ds a0).put o.dst v) w')->
   if Region.wanted o (yielded l.toArray (lD vs ds a0).tmps)=true then Oper.wp P o (lD vs ds a0) w e Q else e ((lD vs ds a0).put o.dst undef) w)(hl:(k7&&i+1==l.length)=true:=by rfl)(ho:l.drop i=o::r:=by rfl)(hd:((kI.getD i []).map λj=>(jV l.toArray j,j))=ds:=by kernel_rfl):
 sT P l.toArray Q a0 S T p kI k7 i:=by
 intro g b f vs w hf hp C N3;rw[jP ho]at b;injection b with b;subst b;have h1:=h f vs w hf hp C N3;exact Lq
def i5{c A b:Prop}[Decidable c](hc:c)(h:A):if c then A else b:=by rw[L_ hc];exact h
def h9{x y:Operand}(n:o.op=.store ty x y)(g:Nat)(q:a.eval x=q_ g)(vs:Array Value)(hy:a.eval y=.agg vs)(t:TypeId){cs:Array Value}(j:Bk w g t cs)(p:vs.size=cs.size)(m:(P.info? ty).map (·.size)=some vs.size)(c:vs.all (·.oneCell')=true)(h:∀w',Bk w' g t vs->J [g] w w'->K (a.put o.dst undef) w'):o.wp P a w K Q:=
 jL ty x y n g 0 q vs hy t cs j X m c λw' b d=>h w' (by rw[q5 cs vs p]at b;exact b) d
def SU.val(G:World->World->Prop)(v0:Value):SU (λ_=>G):=SU.of (λv _=>v=v0) λ_ _ _ _ h=>h
def SU.num(G:World->World->Prop)(lo hi:Int):SU (λ_=>G):=SU.of (λv _=>∃r:Int,v=Y r/\lo<=r/\r<hi) λ_ _ _ _ h=>h
def SU.Cq{M:QY}{lo:Nat}(z:∀y∈M,y<lo)(t:TypeId)(cs:Array Value)(n:Nat):SU (λ_=>J M):=
 SU.of (λv w=>∃x,v=.slice (j_ x) n n/\lo<=x/\Bk w x t cs) λ_ _ _ hg⟨x,h1,h2,h3⟩=>⟨x,h1,h2,h3.gr hg λhm=>by have:=z x hm;omega⟩
def SU.elem{M:QY}{lo:Nat}(z:∀y∈M,y<lo)(t:TypeId)(cs:Array Value)(n:Nat):SU (λ_=>J M):=
 SU.of (λv w=>∃x k:Nat,v=.pointer (some<|Z x k)/\k<n/\lo<=x/\Bk w x t cs) λ_ _ _ hg⟨x,k,h1,hk,h2,h3⟩=>⟨x,k,h1,hk,h2,h3.gr hg λhm=>by have:=z x hm;omega⟩
def SU.pure(G:World->World->Prop)(U:Value->Prop):SU (λ_=>G):=SU.of (λv _=>U v) λ_ _ _ _ h=>h
def SU.any(G:World->World->Prop):SU (λ_=>G):=SU.of (λ_ _=>True) λ_ _ _ _ h=>h
def SU.anyI(G:Nat->World->World->Prop):SU G:=SU.AR [] (λ_ _=>True) λ_ _ _ _ _ _ h=>h
def SU.mH(G:Nat->World->World->Prop)(v0:Value):SU G:=SU.AR [] (λv _=>v=v0) λ_ _ _ _ _ _ h=>h
def SU.less{G H:World->World->Prop}(h:∀a b,H a b->G a b)(s:SU λ_=>G):SU (λ_=>H):=⟨s.U,s.ex,λi hi vs v w w' hg hu=>s.st i hi vs v w w' (h _ _ hg) hu,s.dp,s.loc⟩
end
def ET.one(t:ET):t.g_.all (·.oneCell')=true:=by unfold ET.g_;simp[Value.oneCell']
def p7(n:Int)(A:OA)(a:ET):ET:=.mk 4 n ByteArray.empty 0 A 1 [a]
inductive EG(V:QU):Nat->ET->Prop
 |num (d:Nat) (n:Int) (h0: -10<=n) (h1:n<=10):EG V d<|jF n
 |var (d:Nat) (s:ByteArray) (h:s∈V):EG V d<|jG s
 |new (d:Nat) (n:Int) (h0:0<=n) (h1:n<=3):EG V d<|eNew n
 |field (d:Nat) (n:Int) (A:OA) (s:ByteArray) (h0:0<=n) (h1:n<=2) (h:s∈V):EG V (d+1)<|p7 n A<|jG s
 |bin (d:Nat) (o:Int) (A:OA) (a b:ET) (h0:1<=o) (h1:o<=11) (ha:EG V d a) (hb:EG V d b):EG V (d+1)<|qw o A a b
structure Ex(B g m R:Nat)(tr:TypeId)(mc zc:Array Value)(W w:World):Prop where
 d:iV w B g
 m:Bk w m 222 mc
 r:Bk w R tr zc
 g:J [g] W w
def Ex.step{b g m R:Nat}{d j:Array Value}{W:World}(h:Ex b g m R tr d j W w)(c:J [g] w w')(r:iV w' b g)(n:m≠g)(p:R≠g):Ex b g m R tr d j W w':=
 ⟨r,h.m.gr c<|zu n,h.r.gr c<|zu p,h.g.trans c⟩
def Ex.hF{c g m R:Nat}{d j:Array Value}{W:World}(h:Ex c g m R tr d j W w)(b:J [] w w'):Ex c g m R tr d j W w':=
 ⟨h.d.hF b,h.m.hF b,h.r.hF b,h.g.trans<|b.mono s_⟩
def SU.tree{M:QY}{lo:Nat}(z:∀y∈M,y<lo)(d:Nat):SU (λ_=>J M):=
 SU.of (λv w=>∃t:ET,v=.agg t.g_/\kB (jK lo) w t/\EG hV d t) λ_ _ _ hg⟨t,h1,h2,h3⟩=>⟨t,h1,h2.ir hg λx hx=>Hx.2<|z x hx,h3⟩
def D8(i:Int)(h0:0<=i)(b:i<2):∃s,s∈hV/\(#[.string {data:=#[112]},.string {data:=#[113]}]:Array Value)[i.toNat]?=some (.string s):=by
 obtain⟨k,rfl⟩:∃k:Nat,i=k:=⟨i.toNat,X⟩
 match k,b with
 |0,_=>exact⟨py,by simp[hV],rfl⟩
 |1,_=>exact⟨nj,by simp[hV],rfl⟩
def J.t2{g R:Nat}{a b c:World}(h:J [g] a b)(k:J [R] b c)(j:a.heap.size<=R):J [g] a c:=h.hJ k (by intro x d;right;simp at d;omega)
def kP(B g m:Nat)(left loops fn:Int)(d:Nat)(br:d<=100):∀(D:Int) (_:D=d) (w:World) (_:iV w B g) (_:Bk w m 222 #[q_ g,Y left,Y loops,Y fn]) (_:B<=m),
 Calls prog 140 #[q_ m,Y D] w λe w'=>∃t,e=.returned (.agg t.g_)/\kB (jK w.heap.size) w' t/\EG hV d t/\iV w' B g/\J [g] w w':=by
 induction d with
 |zero=>
  intro D hD w hd hm hBm;have aV:=hd.yw;have bH:=hm.lt;have V:D=0:=hD;subst V;clear hD;go_enter func140,ntmps140;go_upto_region 1 with fail;have j:J [] w (w.alloc<|.cells E_ 226):=(G_ [] w).alloc _;replace hd:=hd.hF j;replace hm:=hm.hF j;have hR:=T_ w 226 E_;have N2:J [g] w (w.alloc<|.cells E_ 226):=(G_ [g] w).alloc _;clear j;obtain⟨bw,I⟩:=nm_<|w.alloc<|.cells E_ 226;rw[<-I]at hd hm hR N2 |-;clear I;obtain⟨R0,L⟩:=nm_ w.heap.size;rw[<-L]at hR |-;have du:w.heap.size<=R0:=X;have cV:g<R0:=X;have al:B<=R0:=X;have cW:m<R0:=ov bH;clear L;have U:=hm.f_ 0
  go_upto_region 2 with(go_at_call 19;refine(iD B g 12 hd X X).mono ?_;rintro e w1⟨k,rfl,ce,bY,bP,b⟩);replace hm:=hm.gr b p_;replace hR:=hR.gr b p_;replace N2:=N2.trans b;replace hd:=bP;clear b U;have U:=hm.f_ 0;by_cases ar:k<4
  .exact JK
  by_cases bW:k<8;exact Jl;exact Jl
 |succ d NZ=>
  intro D hD w hd hm hBm;have aV:=hd.yw;have bH:=hm.lt;have av:(D==0)=false:=p_;have aw:¬D=0:=X;have au:IntKind.i64.wrap (D-1)=D-1:=G9 _ X;have cf:=O (show D-1=d by omega);clear hD;go_enter func140,ntmps140;go_upto_region 1 with fail;have j:J [] w (w.alloc<|.cells E_ 226):=(G_ [] w).alloc _;replace hd:=hd.hF j;replace hm:=hm.hF j;have hR:=T_ w 226 E_;have N2:J [g] w (w.alloc<|.cells E_ 226):=(G_ [g] w).alloc _;clear j;obtain⟨bw,I⟩:=nm_<|w.alloc<|.cells E_ 226;rw[<-I]at hd hm hR N2 |-;clear I;obtain⟨R0,L⟩:=nm_ w.heap.size;rw[<-L]at hR |-;have du:w.heap.size<=R0:=X;have cV:g<R0:=X;have al:B<=R0:=X;have cW:m<R0:=ov bH;clear L;have U:=hm.f_ 0
  go_upto_region 2 with(go_at_call 19;refine(iD B g 12 hd X X).mono ?_;rintro e w1⟨k,rfl,ce,bY,bP,b⟩);replace hm:=hm.gr b p_;replace hR:=hR.gr b p_;replace N2:=N2.trans b;replace hd:=bP;clear b U;have U:=hm.f_ 0;by_cases ar:k<4
  .exact JK
  by_cases bW:k<8
  .exact Jl
  by_cases eJ:k=8
  .subst eJ;go_upto_region 7 with fail;obtain⟨h,aJ⟩:=nm_ w1;rw[<-aJ]at hd hm hR N2 |-;clear aJ U;have R:∀an∈[g,R0],an<R0+1:=p_;have ag:m≠g:=X;have z:R0≠g:=X;have aG:Ex B g m R0 226 #[q_ g,Y left,Y loops,Y fn] E_ h h.drew:=⟨hd.hF (G_ [] h).drew,hm.hF (G_ [] h).drew,hR.hF (G_ [] h).drew,(G_ [g] h).drew⟩;refine ku (Ex B g m R0 226 #[q_ g,Y left,Y loops,Y fn] E_ h) (λ_ N0=>∃t,Bk N0 R0 226 t.g_/\kB (jK<|R0+1) N0 t/\EG hV (d+1) t/\iV N0 B g/\J [g,R0] h N0) (J [g,R0]) [SU.val _<|q_ m,SU.val _<|q_ m,SU.val _<|q_ m,SU.val _<|q_ g,SU.num _ 0 3,SU.Cq R 9 #[.string {data:=#[112]},.string {data:=#[113]}] 2,SU.val _<|q_ m,SU.val _<|q_ m,SU.val _<|q_ m,SU.val _<|q_ g,SU.num _ 0 2,SU.elem R 9 #[.string {data:=#[112]},.string {data:=#[113]}] 2,SU.pure _ λv=>∃s,s∈hV/\v=.string s,SU.pure _ λv=>∃s,s∈hV/\v=.agg #[Y 3,Y 0,.string s,Y 0,n_],SU.of (λv w=>∃x s,s∈hV/\v=.slice (j_ x) 1 1/\R0+1<=x/\Bk w x 226 #[Y 3,Y 0,.string s,Y 0,n_]) λ_ _ _ hg⟨x,s,h0,h1,h2,h3⟩=>⟨x,s,h0,h1,h2,h3.gr hg λhm=>by have:=R x hm;omega⟩,SU.tree R<|d+1,SU.any _] (SU.any _) [[],[0],[1],[2],[3],[],[],[6],[7],[8],[9],[5,10],[11],[12],[13],[4,14],[15]] true [(some 42,0),(some 43,1),(some 44,2),(some 45,3),(some 46,4),(some 47,5),(some 48,6),(some 49,7),(some 50,8),(some 51,9),(some 52,10),(some 53,11),(some 54,12),(some 55,13),(some 56,14),(some 57,15),(none,16)] k_ k_ k_ (λ_ _ _ _ _ u=>u) k_ rfl rfl k_ aG ⟨?_,?_,?_,?_,?_,?_,?_,?_,?_,?_,?_,?_,?_,?_,?_,?_,?_,trivial⟩ ?_
   exact L6;refine hU [(some 42,0)] ?_;exact LL;refine hU [(some 43,1)] ?_;exact LL;refine hU [(some 44,2)] ?_;exact K5
   .refine hU [(some 45,3)] ?_;intro vs Q C N3 K H;obtain⟨o, -⟩:=N3;replace o:_=_:=o;try simp only[b_,o]at H |-
    go_simp;go_at_call 19;refine(iD B g 3 C.d X X).mono ?_;exact Me
   exact K6;exact L6;refine hU [(some 48,6)] ?_;exact LL;refine hU [(some 49,7)] ?_;exact LL;refine hU [(some 50,8)] ?_;exact K5
   .refine hU [(some 51,9)] ?_;intro vs Q C N3 K H;obtain⟨o, -⟩:=N3;replace o:_=_:=o;try simp only[b_,o]at H |-
    go_simp;go_at_call 19;refine(iD B g 2 C.d X X).mono ?_;exact Me
   refine hU [(some 47,5),(some 52,10)] ?_;exact KE;refine hU [(some 53,11)] ?_;intro vs Q C N3 K H;obtain⟨⟨aX,E,o,aY,bt,bn⟩, -⟩:=N3;try simp only[b_,o]at H |-
   obtain⟨s,hs,bj⟩:=D8 E X X;exact M4
   .refine hU [(some 54,12)] ?_;intro vs Q C N3 K H;obtain⟨⟨W,bD,o⟩, -⟩:=N3;try simp only[b_,o]at H |-
    go_simp;go_at_call 145;refine(kk W).mono ?_;rintro e w1⟨rfl,hg1⟩;exact H.out _ _ (C.hF hg1) (hg1.mono s_) ⟨W,bD,rfl⟩
   .refine hU [(some 55,13)] ?_;intro vs Q C N3 K H;obtain⟨⟨W,bD,o⟩, -⟩:=N3;try simp only[b_,o]at H |-
    go_simp;exact H.out _ _ (C.hF<|(G_ [] _).alloc _) ((G_ _ _).alloc _) ⟨_,W,bD,rfl,C.r.lt,T_ _ _ _⟩
   .refine hU [(some 46,4),(some 56,14)] ?_;intro vs Q C N3 K H;obtain⟨⟨aP,o,cN,aY⟩,⟨aO,sb,mb,ax,cD,bG⟩, -⟩:=N3;try simp only[b_,o,ax]at H |-
    go_simp;exact H.out (.agg (p7 aP (j_ aO)<|jG sb).g_) _ C (G_ _ _) ⟨p7 aP (j_ aO)<|jG sb,rfl,.mk _ (jv (n:=1) bG rfl) (I_ _) (λx off u _=>by injection u with u;injection u with u;omega) (by intro aA hu;rcases N_.1 hu with rfl|hu;exact kB.leaf _ _ _ _ _ _;cases hu),EG.field _ _ _ _ X X mb⟩
   .refine jE [(some 57,15)] ?_;exact Kl
   exact LC
  by_cases aD:k=9
  .subst aD;go_upto_region 9 with fail;go_wp2_with ((go_at_call 19;refine(iD B g 4 hd X X).mono ?_;rintro e w2⟨r,rfl,bF,bB,ca,F⟩);replace hR:=hR.gr F p_;replace hd:=ca;replace N2:=N2.trans F;have bE:=hR.hG 0;have z0:=hR.f_ 0;have bz:=hR.hG 1;have aM:=hR.f_ 1;have bX:=hR.hG 2;have aU:=hR.f_ 2;have dt:=hR.hG 3;have z3:=hR.f_ 3;have dQ:=hR.hG 4;have z4:=hR.f_ 4);have az:=(((((hR.hW 0<|Y 6).hW 1<|Y r).hW 2<|e_).hW 3<|Y 0).hW 4<|n_);have G:=((((((G_ [R0] w2).setCell (p:=(Z R0 0)) (.inl s_)<|Y 6).setCell (p:=(Z R0 1)) (.inl s_)<|Y r).setCell (p:=(Z R0 2)) (.inl s_)<|e_).setCell (p:=(Z R0 3)) (.inl s_)<|Y 0).setCell (p:=(Z R0 4)) (.inl s_)<|n_);exact rr_ (eNew r).g_ az underlying226 ⟨eNew r,rfl,kB.leaf _ _ _ _ _ _,EG.new _ _ X X,hd.ir G p_,(N2.t2 G du)⟩
  have c3:(k==8)=false:=p_;have aB:(k==9)=false:=p_;go_upto_region 10 with fail;have ao:True:=trivial;have l:=hR.lt;go_wp2_with (first|((go_at_call 19;refine(iD B g 11 hd X X).mono ?_;rintro e w2⟨r,rfl,bF,bB,ca,F⟩);have bV:IntKind.i64.wrap (1+r)=1+r:=G9 _ X;replace hm:=hm.gr F p_;replace hR:=hR.gr F p_;replace N2:=N2.trans F;replace hd:=ca;clear U;have U:=hm.f_ 0;have aE:R0+1<=w2.heap.size:=hR.lt)|(go_at_call 140;clear ao;refine(NZ X (D-1) cf.out _ hd hm hBm).mono ?_;rintro e aq⟨t1,rfl,y,hq1,ai,A⟩;replace y:=y.le aE;replace hm:=hm.gr A p_;replace hR:=hR.gr A p_;replace N2:=N2.trans A;replace hd:=ai;clear U;have U:=hm.f_ 0;have ay:=N2.size;have aF:R0+1<=aq.heap.size:=hR.lt)|(go_at_call 140;refine(NZ X (D-1) cf.out _ hd hm hBm).mono ?_;rintro e aC⟨T,rfl,M,cA,ak,i⟩;replace y:=y.ir i (by intro x hx;simp at hx;omega);replace M:=M.le aF;replace hm:=hm.gr i p_;replace hR:=hR.gr i p_;replace N2:=N2.trans i;replace hd:=ak;clear U;have U:=hm.f_ 0)|(go_at_call 143;refine(oR (R0+1) (1+r) t1 T hR.lt y M).mono ?_;rintro e NY⟨a6,rfl,cp,ah⟩;replace hR:=hR.hF ah;replace hd:=hd.hF ah;replace N2:=N2.trans<|ah.mono s_)|(refine k6 (qw (1+r) a6 t1 T).g_ hR (ET.one _) ?_;intro N0 az G));exact rr_ (qw (1+r) a6 t1 T).g_ az underlying226 ⟨qw (1+r) a6 t1 T,rfl,(cp.ir G<|by intro x hx;simp at hx;omega).le X,EG.bin _ _ _ _ _ X X hq1 cA,hd.ir G p_,(N2.t2 G du)⟩
def jg:ByteArray:={data:=#[]}
inductive nh(V:QU):Int->ByteArray->ByteArray->Int->Int->Nat->Bool->Bool->Prop
 |we (x:ByteArray) (h:x∈V):nh V 1 x jg 0 0 1 false false
 |FI (n:Int) (h0:0<=n) (h1:n<=2):nh V 2 jg jg n 0 2 false false
 |xx (x:ByteArray) (h:x∈V):nh V 3 x qv 0 0 2 false false
 |xw (x:ByteArray) (h:x∈V):nh V 3 x pW 0 0 1 false false
 |E2:nh V 4 jg jg 0 0 1 true true
 |Bw (x:ByteArray) (h:x∈V):nh V 5 x jg 0 0 2 true false
 |FH:nh V 6 jg jg 0 0 1 true false
 |ret:nh V 7 jg jg 0 0 1 false false
 |FF:nh V 8 jg jg 0 0 1 false false
 |CX (x:ByteArray) (h:x∈V):nh V 9 x jg 0 0 0 true true
 |FN:nh V 10 jg jg 0 0 1 false false
 |ask (x:ByteArray) (h:x∈V):nh V 11 x jg 0 0 1 false false
 |red (x:ByteArray) (h:x∈V) (o:Int) (ho:o=1\/o=6\/o=9):nh V 12 x jg 0 o 1 false false
inductive l8(V:QU):Nat->Nat->List ST->Prop
 |nil (D:Nat):l8 V D 0 []
 |cons (D a b nb nl:Nat) (t:ST) (l:QW) (B L:Bool) (h:nh V t.h7 t.name t.fn t.n t.op t.es.length B L) (hB:B=false->t.bs=[]) (hL:L=false->t.ls=[]) (hes:∀e∈t.es,EG V 2 e)
   (hb:l8 V D nb t.bs) (hl:l8 V D nl t.ls) (ha:a=1+nb+nl) (hr:l8 V (D+1) b l):l8 V (D+1) (a+b)<|t::l
def SG(V:QU)(D N:Nat)(t:ST):Prop:=l8 V D N [t]
def l8.append{a b:Nat}{l m:QW}(h:l8 V D a l)(k:l8 V D b m):l8 V D (a+b) (l++m):=by
 induction h with
 |nil D=>simpa using k
 |cons D a b nb u t l c d h j n r q s p y _ _ g=>
  have:=g k;rw[Ik];exact .cons D a _ nb u t _ c d h j n r q s p this
def EG.mono{d e:Nat}{t:ET}(h:EG V d t)(g:d<=e):EG V e t:=by
 induction h generalizing e with
 |num d j b c=>exact .num _ j b c
 |var d m h=>exact .var _ m h
 |new d j b c=>exact .new _ j b c
 |field d j A m b c h=>
  obtain⟨e,rfl⟩:∃k,e=k+1:=⟨e-1,X⟩;exact .field _ j A m b c h
 |bin d o A a n b c _ _ f p=>
  obtain⟨e,rfl⟩:∃k,e=k+1:=⟨e-1,X⟩;exact .bin _ o A a n b c (f X)<|p X
def EG.sub{W:QU}{d:Nat}{t:ET}(h:EG V d t)(j:∀s∈V,s∈W):EG W d t:=by
 induction h with
 |num d g b c=>exact .num _ g b c
 |var d s h=>exact .var _ s<|j s h
 |new d g b c=>exact .new _ g b c
 |field d g A s b c h=>exact .field _ g A s b c<|j s h
 |bin d o A a m b c _ _ f n=>exact .bin _ o A a m b c f n
def nh.sub{W:QU}{k n o:Int}{x f:ByteArray}{m:Nat}{c L:Bool}(h:nh V k x f n o m c L)(b:∀s∈V,s∈W):nh W k x f n o m c L:=by
 cases h with
 |we x h=>exact .we _<|b _ h
 |FI n d g=>exact .FI _ d g
 |xx x h=>exact .xx _<|b _ h
 |xw x h=>exact .xw _<|b _ h
 |E2=>exact .E2
 |Bw x h=>exact .Bw _<|b _ h
 |FH=>exact .FH
 |ret=>exact .ret
 |FF=>exact .FF
 |CX x h=>exact .CX _<|b _ h
 |FN=>exact .FN
 |ask x h=>exact .ask _<|b _ h
 |red x h o d=>exact .red _ (b _ h) _ d
def l8.sub{W:QU}{l:QW}(h:l8 V D N l)(b:∀s∈V,s∈W):l8 W D N l:=by
 induction h with
 |nil D=>exact .nil D
 |cons D a g nb y t l c d h n p u _ _ q _ j m f=>exact .cons D a g nb y t l c d (h.sub b) n p (λe r=>(u e r).sub b) j m q f
def l8.mono{r:Nat}{l:QW}(h:l8 V D N l)(hD:D<=r):l8 V r N l:=by
 induction h generalizing r with
 |nil D=>exact .nil r
 |cons D a d nb s t l b c h m n q _ _ p _ g j f=>
  obtain⟨e,rfl⟩:∃k,r=k+1:=⟨r-1,X⟩;exact .cons e a d nb s t l b c h m n q (g X) (j X) p<|f hD
def SG.leaf(h:nh V t.h7 t.name t.fn t.n t.op t.es.length false false)(b:t.bs=[])(c:t.ls=[])(d:∀e∈t.es,EG V 2 e):SG V (D+1) 1 t:=
 .cons D 1 0 0 0 t [] false false h (λ_=>b) (λ_=>c) d (by rw[b];exact .nil D) (by rw[c];exact .nil D) rfl (.nil _)
def SG.node{nb nl:Nat}(h:nh V t.h7 t.name t.fn t.n t.op t.es.length true true)(c:∀e∈t.es,EG V 2 e)(b:l8 V D nb t.bs)(d:l8 V D nl t.ls):SG V (D+1) (1+nb+nl) t:=
 .cons D (1+nb+nl) 0 nb nl t [] true true h (λh=>by cases h) (λh=>by cases h) c b d rfl (.nil _)
def SG.loop{nb:Nat}(h:nh V t.h7 t.name t.fn t.n t.op t.es.length true false)(b:t.ls=[])(d:∀e∈t.es,EG V 2 e)(c:l8 V D nb t.bs):SG V (D+1) (1+nb) t:=
 .cons D (1+nb) 0 nb 0 t [] true false h (λh=>by cases h) (λ_=>b) d c (by rw[b];exact .nil D) rfl (.nil _)
def lW(k:Int)(x f:ByteArray)(n o:Int)(A:OA)(c:Nat)(es:QF):ST:=.mk k x f n o A c es none 0 [] none 0 []
def jR.es{p:Nat->Prop}(x f:ByteArray)(n o:Int){b:Nat}{es:QF}(j:Sl w 226 5 (j_ b) es.length<|es.flatMap ET.E)(h:p b)(g:∀u∈es,kB p w u):jR p w (lW k x f n o (j_ b) es.length es):=
 .mk _ j (I_ _) (λq m c _=>by injection c with c;injection c with c;subst c;exact h) g (HB _ _ _ _) (I_ _) (λ_ _ c _=>by cases c) (λu d=>by cases d) (HB _ _ _ _) (I_ _) (λ_ _ c _=>by cases c) (λu d=>by cases d)
def SU.trees{M:QY}{lo:Nat}(z:∀y∈M,y<lo)(d n:Nat):SU (λ_=>J M):=
 SU.of (λv w=>∃(x:Nat) (ts:QF),v=.slice (j_ x) n n/\ts.length=n/\lo<=x/\Sl w 226 5 (j_ x) n (ts.flatMap ET.E)/\∀t∈ts,kB (jK lo) w t/\EG hV d t)
  (λ_ _ _ hg⟨x,ts,h1,h2,h3,ar,au⟩=>⟨x,ts,h1,h2,h3,ar.iF λy off hA hx=>hg.block y hx (λhm=>by injection hA with hA;injection hA with hA;have:=z y hm;omega),λt ht=>⟨(au t ht).1.ir hg λx hx=>Hx.2<|z x hx,(au t ht).2⟩⟩)
def SU.stmt{M:QY}{lo:Nat}(z:∀y∈M,y<lo)(D N:Nat):SU (λ_=>J M):=
 SU.of (λv w=>∃t:ST,v=.agg t.g_/\jR (jK lo) w t/\SG hV D N t) λ_ _ _ hg⟨t,h1,h2,h3⟩=>⟨t,h1,h2.ir hg λx hx=>Hx.2<|z x hx,h3⟩
def ST.one(t:ST):t.g_.all (·.oneCell')=true:=by unfold ST.g_;simp[Value.oneCell']
def ET.iu(n:Int)(s:ByteArray)(o:Int)(A:OA)(c:Nat)(l:QF):(ET.mk k n s o A c l).g_=#[Y k,Y n,.string s,Y o,.slice A l.length c]:=rfl
def ST.iu(x f:ByteArray)(n o:Int)(A:OA)(c:Nat)(es:QF)(b:OA)(j:Nat)(h:QW)(g:OA)(d:Nat)(m:QW):(ST.mk k x f n o A c es b j h g d m).g_=#[Y k,.string x,.string f,Y n,Y o,.slice A es.length c,.slice b h.length j,.slice g m.length d]:=rfl
def nO(t:ET)(h:Bk w x 226 t.g_):Sl w 226 5 (j_ x) 1 ([t].flatMap ET.E):=jv (n:=1) h rfl
def tI(a b:ET)(h:Bk w x 226<|a.g_++b.g_):Sl w 226 5 (j_ x) 2 ([a,b].flatMap ET.E):=by
 have:=jv (n:=2) (s:=5) h rfl;rw[Array.toList_append]at this;exact this
section
variable{P:Program}
def BA(w:World)(base:Nat)(t ty e:TypeId)(i:TypeInfo)(z:Value)(b bytes:Nat)(E:P.underlying t=some (.slice e))(B:P.info? e=some i)(U:i.zero=some z)(q:i.size=b)(p:i.bytes=bytes)(C:z.cells.size=b)(H:0<b)(d:OA)(h n:Nat)(xs:QX)(r:w.ownsRow base e b (.slice d n h) n xs)(A:OA)(m c:Nat)(j:QX)(s:Sl w f b A m j)(L:∀u∈j,u.oneCell'=true)(y:(n+m)*bytes<=140737488355328)(D:0<bytes)(F:base<=w.heap.size):
 ∃A' c' w',(Builtin.append_ #[t,t] ty #[.slice d n h,.slice A m c]).run P w=.ok (.slice A' (n+m) c') w'/\w'.ownsRow base e b (.slice A' (n+m) c') (n+m) (xs++j)/\w.grownBy w' (Value.slice d n h).ownBlock/\((Value.slice A' (n+m) c').ownBlock=(Value.slice d n h).ownBlock\/(Value.slice A' (n+m) c').ownBlock=some w.heap.size):=by
 by_cases T:m=0;subst T;have I:=G1<|zu s.1;subst I;exact⟨d,h,w,by simpa using mB w base t ty e i b E B _ n xs r A c,by simpa using r,World.grownBy.refl w _,.inl rfl⟩;obtain⟨J,rfl,W⟩:=s.nX X;have l:n+m<=maxLen:=by
  have:n+m<=(n+m)*bytes:=Ij _ D;simp only[maxLen];omega
 obtain⟨Y,w',N,h2,O,_,I⟩:=run_append_own_at (P:=P) w base t ty e i z b bytes E B U q p C H _ n xs r J m c j s.1 W L l y F;have R:∃A' c',Y=.slice A' (n+m) c':=L7;obtain⟨A',c',rfl⟩:=R;exact⟨A',c',w',N,h2,O,I⟩
def o1{Q:Exit->Act->World->Prop}(s x:Operand)(t:TypeId)(ho:o.op=.call {callee:=.builtin .append,args:=#[s,x],argTypes:=#[t,t]})(base:Nat)(e:TypeId)(i:TypeInfo)(z:Value)(b bytes:Nat)(J:P.underlying t=some (.slice e))(H:P.info? e=some i)(L:i.zero=some z)(q:i.size=b)(p:i.bytes=bytes)(C:z.cells.size=b)(B:0<b)(D:0<bytes)(d:OA)(n g:Nat)(xs:QX)(hs:a.eval s=.slice d n g)(E:w.ownsRow base e b (.slice d n g) n xs)(A:OA)(m c:Nat)(j:QX)(hx:a.eval x=.slice A m c)(I:Sl w f b A m j)(F:∀u∈j,u.oneCell'=true)(y:(n+m)*bytes<=140737488355328)(r:base<=w.heap.size)(h:∀(A':OA) (c':Nat) (w':World),w'.ownsRow base e b (.slice A' (n+m) c') (n+m) (xs++j)->w.grownBy w' (Value.slice d n g).ownBlock->((Value.slice A' (n+m) c').ownBlock=(Value.slice d n g).ownBlock\/(Value.slice A' (n+m) c').ownBlock=some w.heap.size)->K (a.put o.dst<|.slice A' (n+m) c') w'):o.wp P a w K Q:=by
 obtain⟨A',c',w',N,h2,h3,ar⟩:=BA (P:=P) w base t o.type e i z b bytes J H L q p C B d g n xs E A m c j I F y D r;exact Lu
def kf{ops:Array Oper}{rest:QZ}{Q:Exit->Act->World->Prop}(H:o.guard=none){s x:Operand}{t:TypeId}(T:o.op=.call {callee:=.builtin .append,args:=#[s,x],argTypes:=#[t,t]})(base:Nat)(e:TypeId)(i:TypeInfo){z:Value}(b bytes:Nat)(X:P.underlying t=some (.slice e))(R:P.info? e=some i)(Z:i.zero=some z)(q:i.size=b)(p:i.bytes=bytes)(C:z.cells.size=b)(E:0<b)(D:0<bytes)(d:OA)(n g:Nat)(xs:QX)(W:a.eval s=.slice d n g)(F:w.ownsRow base e b (.slice d n g) n xs)(A:OA)(m c:Nat)(j:QX)(Y:a.eval x=.slice A m c)(U:Sl w f b A m j)(J:∀u∈j,u.oneCell'=true)(y:(n+m)*bytes<=140737488355328)(B:base<=w.heap.size)(h:∀(A':OA) (c':Nat) (w':World),w'.ownsRow base e b (.slice A' (n+m) c') (n+m) (xs++j)->w.grownBy w' (Value.slice d n g).ownBlock->((Value.slice A' (n+m) c').ownBlock=(Value.slice d n g).ownBlock\/(Value.slice A' (n+m) c').ownBlock=some w.heap.size)->wpList P ops Q rest (a.put o.dst<|.slice A' (n+m) c') w'):wpList P ops Q (o::rest) a w:=
 wpList_plain H λ_ r=>o1 s x t T base e i z b bytes X R Z q p C E D d n g xs W F A m c j Y U J y B λA' c' w' L O I=>r _ _<|h A' c' w' L O I
end
def Ah(base:Nat)(o:Option Nat)(x:Nat):Prop:=base<=x/\o≠some x
def oX(o:Option Nat):List Nat:=match o with|some b=>[b]|none=>[]
def jQ{o:Option Nat}:x∈oX o↔o=some x:=by
 cases o with
 |none=>simp[oX]
 |some b=>simp[oX,eq_comm]
def J.i6{o:Option Nat}(h:w.grownBy w' o):J (oX o) w w':=
 ⟨h.os,h.tape,h.output,h.size,λk c d=>h.block k c λb=>d<|jQ.2 b.symm⟩
def oe{d n:Nat}(h:w.ownsRow base e d v n xs)(q:J M w w')(z:∀x∈M,v.ownBlock≠some x):w'.ownsRow base e d v n xs:=by
 refine⟨h.1,?_⟩;rcases h.2 with m|⟨b,s,j,rfl,p,c,g⟩
 exact .inl m;refine .inr ⟨b,s,j,rfl,p,?_,g⟩;rw[q.block b (lv c) λr=>z b r rfl];exact c
def kK{j n:Nat}(h:w.ownsRow base e j v n xs)(b:v.ownBlock=some x):base<=x/\x<w.heap.size:=by
 rcases h.2 with⟨rfl,_⟩|⟨c,p,m,rfl,d,g,_⟩
 cases b
 have:c=x:=by simpa[Value.ownBlock]using b
 subst this;exact⟨d,lv g⟩
structure lP(V:QU)(base D N:Nat)(w:World)(A:OA)(c:Nat)(ts:QW):Prop where
 own:w.ownsRow base 229 8 (.slice A ts.length c) ts.length<|ts.flatMap ST.E
 ju:∀t∈ts,jR (Ah base (Value.slice A ts.length c).ownBlock) w t
 sg:l8 V D N ts
def lP.iF{c:Nat}(h:lP V base D N w A c ts)(d:J M w w')(z:∀x∈M,x<base):lP V base D N w' A c ts:=
 ⟨oe h.own d (λx b g=>by have:=(kK h.own g).1;have:=z x b;omega),λt m=>(h.ju t m).ir d (λx b j=>by have:=z x b;have:=j.1;omega),h.sg⟩
def lP.nil(V:QU)(base D:Nat)(w:World):lP V base D 0 w none 0 []:=⟨i4 _ _ _ _,(λ_ b=>by cases b),.nil _⟩
def lP.le{d c:Nat}(h:lP V base D N w A c ts)(b:d<=base):lP V d D N w A c ts:=
 ⟨oL h.own b,λt j=>(h.ju t j).imp λx g=>⟨H_ b g.1,g.2⟩,h.sg⟩
def lP.add{K c c':Nat}{A':OA}{us:QW}(h:lP V base D N w A c ts)(m:w'.ownsRow base 229 8 (.slice A' (ts.length+us.length) c') (ts.length+us.length)<|ts.flatMap ST.E++us.flatMap ST.E)(r:w.grownBy w' (Value.slice A ts.length c).ownBlock)(b:(Value.slice A' (ts.length+us.length) c').ownBlock=(Value.slice A ts.length c).ownBlock\/(Value.slice A' (ts.length+us.length) c').ownBlock=some w.heap.size)(y:∀u∈us,jR (Ah base (Value.slice A ts.length c).ownBlock) w u)(n:l8 V D K us):lP V base D (N+K) w' A' c' (ts++us):=by
 refine⟨?_,?_,h.sg.append n⟩;rw[M_,He];exact m;intro t d;have p:jR (Ah base (Value.slice A ts.length c).ownBlock) w t:=by
  rcases X_.1 d with d|d
  exact h.ju t d;exact y t d
 have q:=p.lt.ir (J.i6 r) λx g s=>s.1.2<|jQ.1 g;refine q.imp λx g=>⟨g.1.1,?_⟩;rw[M_];rcases b with b|b
 rw[b];exact g.1.2;rw[b];intro j;injection j with j;have:=g.2;omega
def infoSt:(prog.info? 229).map (λi=>(i.zero,i.size,i.bytes))=some (some<|.agg S_,8,128):=by kernel_rfl
def infoStr:(prog.info? 9).map (λi=>(i.zero,i.size,i.bytes))=some (some<|e_,1,16):=by kernel_rfl
def lh:∀u∈ts.flatMap ST.E,u.oneCell'=true:=by
 intro u b;obtain⟨t,_,b⟩:=H0.1 b;simp[ST.E]at b;rcases b with rfl|rfl|rfl|rfl|rfl|rfl|rfl|rfl<;>rfl
def rT(t:ST)(h:Bk w x 229 t.g_):Sl w 229 8 (j_ x) 1 ([t].flatMap ST.E):=jv (n:=1) h rfl
def Cx:∀k,k<2->∃s,s∈hV/\(#[.string {data:=#[112]},.string {data:=#[113]}]:Array Value)[k]?=some (.string s)
 |0,_=>⟨py,by simp[hV],rfl⟩
 |1,_=>⟨nj,by simp[hV],rfl⟩
def pU(B g m:Nat)(left loops fn:Int)(d:iV w B g)(c:Bk w m 222 #[q_ g,Y left,Y loops,Y fn])(hBm:B<=m):
 Calls prog 218 #[q_ m] w λe w'=>∃t,e=.returned (.agg t.g_)/\kB (jK w.heap.size) w' t/\EG hV 1 t/\iV w' B g/\J [g] w w':=by
 have aV:=d.yw;have bH:=c.lt;go_enter func218,ntmps218;go_upto_region 1 with fail;have I:J [] w (w.alloc<|.cells E_ 226):=(G_ [] w).alloc _;replace d:=d.hF I;replace c:=c.hF I;have j:=T_ w 226 E_;have N2:J [g] w (w.alloc<|.cells E_ 226):=(G_ [g] w).alloc _;clear I;obtain⟨bw,T⟩:=nm_<|w.alloc<|.cells E_ 226;rw[<-T]at d c j N2 |-;clear T;obtain⟨R0,cw⟩:=nm_ w.heap.size;rw[<-cw]at j |-;have du:w.heap.size<=R0:=X;have cV:g<R0:=X;have ad:B<=R0:=X;have cW:m<R0:=ov bH;clear cw;have u:∀ae∈[g,R0],ae<R0+1:=p_;have ag:m≠g:=X;have z:R0≠g:=X;have U:=c.f_ 0
 go_upto_region 2 with(go_at_call 19;refine(iD B g 4 d X X).mono ?_;rintro e w1⟨k,rfl,Z,W,bP,F⟩);clear U;replace c:=c.gr F p_;replace j:=j.gr F p_;replace N2:=N2.trans F;replace d:=bP;clear F;rcases(by omega:(k=0)\/(k=1)\/(k=2\/k=3))with Z|W|bq
 .subst Z;go_upto_region 3 with fail;obtain⟨b,p⟩:=nm_ w1;rw[<-p]at d c j N2 |-;clear p;have y:Ex B g m R0 226 #[q_ g,Y left,Y loops,Y fn] E_ b b:=⟨d,c,j,G_ [g] b⟩;refine iU (Ex B g m R0 226 #[q_ g,Y left,Y loops,Y fn] E_ b) (λ_ N0=>∃t,Bk N0 R0 226 t.g_/\kB (jK<|R0+1) N0 t/\EG hV (1) t/\iV N0 B g/\J [g,R0] b N0) (J [g,R0]) [SU.val _<|q_ m,SU.tree u<|1,SU.any _] (SU.any _) [[],[0],[1]] true [(some 10,0),(some 11,1),(none,2)] k_ k_ (λ_ _ _ _ _ h=>h) k_ rfl rfl k_ y ⟨?_,?_,?_,trivial⟩ ?_
  exact L6;refine hU [(some 10,0)] ?_;exact Ki
  .refine jE [(some 11,1)] ?_;exact Kl
  exact LC
 .subst W;go_upto_region 5 with fail;obtain⟨b,p⟩:=nm_ w1;rw[<-p]at d c j N2 |-;clear p;have y:Ex B g m R0 226 #[q_ g,Y left,Y loops,Y fn] E_ b b:=⟨d,c,j,G_ [g] b⟩;refine iU (Ex B g m R0 226 #[q_ g,Y left,Y loops,Y fn] E_ b) (λ_ N0=>∃t,Bk N0 R0 226 t.g_/\kB (jK<|R0+1) N0 t/\EG hV (1) t/\iV N0 B g/\J [g,R0] b N0) (J [g,R0]) [SU.val _<|q_ m,SU.val _<|q_ m,SU.val _<|q_ m,SU.val _<|q_ g,SU.num _ 0 2,SU.pure _ λv=>v=.agg (jG py).g_,SU.Cq u 226 (jG py).g_ 1,SU.tree u<|0+1,SU.any _] (SU.any _) [[],[0],[1],[2],[3],[],[5],[4,6],[7]] true [(some 14,0),(some 15,1),(some 16,2),(some 17,3),(some 18,4),(some 19,5),(some 20,6),(some 21,7),(none,8)] k_ k_ (λ_ _ _ _ _ h=>h) k_ rfl rfl k_ y ⟨?_,?_,?_,?_,?_,?_,?_,?_,?_,trivial⟩ ?_
  exact L6;refine hU [(some 14,0)] ?_;exact LL;refine hU [(some 15,1)] ?_;exact LL;refine hU [(some 16,2)] ?_;exact KB;refine hU [(some 17,3)] ?_;exact Ks
  .refine hU [] ?_;intro vs Q C N3 K H;clear N3;try simp only[b_]at H |-
   go_simp;go_at_call 145;refine(kk py).mono ?_;exact Nl
  refine hU [(some 19,5)] ?_;intro vs Q C N3 K H;obtain⟨o, -⟩:=N3;have o:vs 5=.agg (jG py).g_:=o;try simp only[b_,o]at H |-
  simp only[jG,ET.iu]at H |-;exact Mp
  .refine hU [(some 18,4),(some 20,6)] ?_;intro vs Q C N3 K H;obtain⟨⟨R,o,cN,aY⟩,⟨O,ax,cD,bG⟩, -⟩:=N3;try simp only[b_,o,ax]at H |-
   go_simp;exact H.out (.agg (p7 R (j_ O)<|jG py).g_) _ C (G_ _ _) ⟨p7 R (j_ O)<|jG py,rfl,.mk _ (jv (n:=1) bG rfl) (I_ _) (λx off h _=>by injection h with h;injection h with h;omega) (by intro ah L;rcases N_.1 L with rfl|L;exact kB.leaf _ _ _ _ _ _;cases L),EG.field _ _ _ _ X X<|by simp[hV]⟩
  .refine jE [(some 21,7)] ?_;exact Kl
  exact LC
 rcases bq with rfl|rfl
 all_goals
  go_upto_region 6 with fail;obtain⟨b,p⟩:=nm_ w1;rw[<-p]at d c j N2 |-;clear p;have y:Ex B g m R0 226 #[q_ g,Y left,Y loops,Y fn] E_ b b:=⟨d,c,j,G_ [g] b⟩;refine iU (Ex B g m R0 226 #[q_ g,Y left,Y loops,Y fn] E_ b) (λ_ N0=>∃t,Bk N0 R0 226 t.g_/\kB (jK<|R0+1) N0 t/\EG hV (1) t/\iV N0 B g/\J [g,R0] b N0) (J [g,R0]) [SU.Cq u 9 #[.string {data:=#[112]},.string {data:=#[113]}] 2,SU.val _<|q_ m,SU.val _<|q_ m,SU.val _<|q_ m,SU.val _<|q_ g,SU.num _ 0 2,SU.elem u 9 #[.string {data:=#[112]},.string {data:=#[113]}] 2,SU.pure _ λv=>∃s,s∈hV/\v=.string s,SU.tree u<|0,SU.any _] (SU.any _) [[],[],[1],[2],[3],[4],[0,5],[6],[7],[8]] true [(some 22,0),(some 23,1),(some 24,2),(some 25,3),(some 26,4),(some 27,5),(some 28,6),(some 29,7),(some 30,8),(none,9)] k_ k_ (λ_ _ _ _ _ h=>h) k_ rfl rfl k_ y ⟨?_,?_,?_,?_,?_,?_,?_,?_,?_,?_,trivial⟩ ?_
  exact K6;exact L6;refine hU [(some 23,1)] ?_;exact LL;refine hU [(some 24,2)] ?_;exact LL;refine hU [(some 25,3)] ?_;exact KB;refine hU [(some 26,4)] ?_;exact Ks;refine hU [(some 22,0),(some 27,5)] ?_;exact KE;refine hU [(some 28,6)] ?_;exact KQ
  .refine hU [(some 29,7)] ?_;intro vs Q C N3 K H;obtain⟨⟨O,L,o⟩, -⟩:=N3;try simp only[b_,o]at H |-
   go_simp;go_at_call 145;refine(kk _).mono ?_;rintro e w1⟨rfl,hg1⟩;exact H.out _ _ (C.hF hg1) (hg1.mono s_) ⟨jG O,rfl,kB.leaf _ _ _ _ _ _,.var _ _ L⟩
  .refine jE [(some 30,8)] ?_;intro vs Q C N3 K H;obtain⟨⟨ta,o,ap,E⟩, -⟩:=N3;try simp only[b_,o]at H |-
   refine i5 k_ ?_;refine h9 226 rfl R0 r_ ta.g_ r_ 226 C.r rfl k_ (ET.one _) ?_;intro N0 az G;exact H.out undef _ λ_=>⟨ta,az,ap.ir G s_,E.mono X,C.d.ir G p_,(C.g.mono s_).trans<|G.mono s_⟩
  intro vs a2 C;simp only[b_];obtain⟨t,az,N1,aj,br,G⟩:=C;go_wp2;exact rr_ t.g_ az underlying226 ⟨t,rfl,N1.le X,aj,br,N2.hJ G p_⟩
def Cp(B g m:Nat)(left loops fn:Int)(v:ByteArray)(hv:v∈hV)(hd:iV w B g)(hm:Bk w m 222 #[q_ g,Y left,Y loops,Y fn])(hBm:B<=m):
 Calls prog 219 #[q_ m,.string v] w λe w'=>∃t,e=.returned (.agg t.g_)/\jR (jK w.heap.size) w' t/\SG hV 1 1 t/\iV w' B g/\J [g] w w':=by
 have Z:=O hv;have aV:=hd.yw;have F:=hm.lt;go_enter func219,ntmps219;go_upto_region 1 with fail;have c:J [] w (w.alloc<|.cells S_ 229):=(G_ [] w).alloc _;replace hd:=hd.hF c;replace hm:=hm.hF c;have hR:=T_ w 229 S_;have N2:J [g] w (w.alloc<|.cells S_ 229):=(G_ [g] w).alloc _;clear c;obtain⟨L,n⟩:=nm_<|w.alloc<|.cells S_ 229;rw[<-n]at hd hm hR N2 |-;clear n;obtain⟨R0,p⟩:=nm_ w.heap.size;rw[<-p]at hR |-;have du:w.heap.size<=R0:=X;have cV:g<R0:=X;have ad:B<=R0:=X;have cW:m<R0:=ov F;clear p;have aK:∀R∈[g,R0],R<R0+1:=p_;have ag:m≠g:=X;have z:R0≠g:=X;have U:=hm.f_ 0;have aS:=hm.f_ 3
 by_cases j:fn=0
 .have y:(fn==0)=true:=by simp[j]
  clear j;go_wp2_with fail;go_at_call 19;refine(iD B g 2 hd X X).mono ?_;rintro e w1⟨k,rfl,ce,bY,I,b⟩;replace hm:=hm.gr b p_;replace hR:=hR.gr b p_;replace N2:=N2.trans b;replace hd:=I;clear b;clear U aS;by_cases s:k=0
  .subst s;go_upto_region 2 with fail;obtain⟨W,aJ⟩:=nm_ w1;rw[<-aJ]at hd hm hR N2 |-;clear aJ;have aG:Ex B g m R0 229 #[q_ g,Y left,Y loops,Y fn] S_ W W.drew:=⟨hd.hF (G_ [] W).drew,hm.hF (G_ [] W).drew,hR.hF (G_ [] W).drew,(G_ [g] W).drew⟩;refine ku (Ex B g m R0 229 #[q_ g,Y left,Y loops,Y fn] S_ W) (λ_ N0=>∃t,Bk N0 R0 229 t.g_/\jR (jK<|R0+1) N0 t/\SG hV 1 1 t/\iV N0 B g/\J [g,R0] W N0) (J [g,R0]) [SU.val _<|.string v,SU.val _<|q_ m,SU.tree aK<|1,SU.val _<|q_ m,SU.val _<|q_ m,SU.val _<|q_ m,SU.val _<|q_ g,SU.num _ 0 4,SU.tree aK<|0,SU.trees aK 2 2,SU.stmt aK (1)<|1,SU.any _] (SU.any _) [[],[],[1],[],[3],[4],[5],[6],[7],[2,8],[0,9],[10]] true [(some 18,0),(some 19,1),(some 20,2),(some 21,3),(some 22,4),(some 23,5),(some 24,6),(some 25,7),(some 26,8),(some 27,9),(some 28,10),(none,11)] k_ k_ k_ (λ_ _ _ _ _ h=>h) k_ rfl rfl k_ aG ⟨?_,?_,?_,?_,?_,?_,?_,?_,?_,?_,?_,?_,trivial⟩ ?_
   exact L6;exact L6;refine hU [(some 19,1)] ?_;exact Ki;exact L6;refine hU [(some 21,3)] ?_;exact LL;refine hU [(some 22,4)] ?_;exact LL;refine hU [(some 23,5)] ?_;exact KB;refine hU [(some 24,6)] ?_;exact Ks;refine hU [(some 25,7)] ?_;intro vs Q C N3 K H;exact Ky;refine hU [(some 20,2),(some 26,8)] ?_;exact JD
   .refine hU [(some 18,0),(some 27,9)] ?_;intro vs Q C N3 K H;obtain⟨o,⟨aO,ao,ax,nb,cD,bG,cy⟩, -⟩:=N3;replace o:_=_:=o;try simp only[b_,o,ax]at H |-
    go_simp;have aH:ao.length=_:=nb;have bi:Sl Q 226 5 (j_ aO) ao.length (ao.flatMap ET.E):=by rw[aH];exact bG
    have hcl:(lW 3 v qv 0 0 (j_ aO) ao.length ao).g_=_:=rfl;simp only[ST.iu,lW,aH]at hcl;refine H.out _ _ C (G_ _ _) ⟨lW 3 v qv 0 0 (j_ aO) ao.length ao,?_,jR.es _ _ _ _ _ bi cD λu hu=>(cy u hu).1,SG.leaf (t:=lW 3 v qv 0 0 (j_ aO) ao.length ao) (by show nh _ 3 v qv 0 0 ao.length _ _;rw[aH];exact .xx _ hv) rfl rfl λu hu=>(cy u hu).2⟩;show Value.agg _=Value.agg (lW 3 v qv 0 0 (j_ aO) ao.length ao).g_;exact NT
   .refine jE [(some 28,10)] ?_;exact Km
   exact LB
  have T:(k==0)=false:=by simp[s]
  go_upto_region 3 with fail;obtain⟨W,aJ⟩:=nm_ w1;exact Ji
 have y:(fn==0)=false:=by simp[j]
 go_upto_region 3 with fail;clear U aS;obtain⟨W,aJ⟩:=nm_ L;exact Ji
