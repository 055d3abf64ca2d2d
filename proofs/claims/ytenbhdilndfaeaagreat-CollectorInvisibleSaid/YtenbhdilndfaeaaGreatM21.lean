import Derived.Test.YtenbhdilndfaeaaGreatM14
set_option maxRecDepth 100000
set_option maxHeartbeats 0
set_option linter.all false
namespace Go.Proofs.YtenbhdilndfaeaaGreat
open Go.RowKit Go.Proofs.Tryz
variable{G:Nat->World->World->Prop}{a a' a0:Act}{e f tr:TypeId}{vs:Nat->Value}{D N base i x:Nat}{v:Value}{o:Oper}{w w':World}{listed:Array Bool}{ky:List (List Nat)}{kT:Bool}{l:List Oper}{K:Act->World->Prop}{t:ST}{V:List ByteArray}{A:OA}{xs:List Value}{M:List Nat}{ts:List ST}(k:Int)(ty:TypeId)(S:World->Prop)
def Io{G:Prop} (h:G:=by
 rw[<-aO]at hd hm hR MZ |-;clear aO;have aW:Ex B g m R0 229 #[q_ g,Y left,Y loops,Y fn] S_ W W:=⟨hd,hm,hR,H [g] W⟩;refine iP (Ex B g m R0 229 #[q_ g,Y left,Y loops,Y fn] S_ W) (λ_ ae=>∃t,Bk ae R0 229 t.g_/\jL (jD (R0+1)) ae t/\SG hU 1 1 t/\iQ ae B g/\I [g,R0] W ae) (I [g,R0]) [SU.val _ (.string v),SU.val _ (q_ m),SU.tree am (1),SU.trees am 2 1,SU.stmt am (1) (1),SU.any _] (SU.any _) [[],[],[1],[2],[0,3],[4]] true [(some 29,0),(some 30,1),(some 31,2),(some 32,3),(some 33,4),(none,5)] k_ k_ (λ_ _ _ _ _ h=>h) k_ rfl rfl k_ aW ⟨?_,?_,?_,?_,?_,?_,trivial⟩ ?_
 .exact Lb
 .exact Lb
 .refine hS [(some 30,1)] ?_;exact Ju
 .refine hS [(some 31,2)] ?_;exact I7
 .refine hS [(some 29,0),(some 32,3)] ?_;intro vs Q C M0 K MY;obtain⟨o,⟨aQ,aI,aL,nb,cI,bC,cU⟩, -⟩:=M0;replace o:_=_:=o
  try simp only[b_,o,aL]at MY |-
  go_simp;have aJ:aI.length=_:=nb
  have bn:Sl Q 226 5 (j_ aQ) aI.length (aI.flatMap ET.E):=by rw[aJ];exact bC
  have hcl:(lN 3 v pz 0 0 (j_ aQ) aI.length aI).g_=_:=rfl;simp only[ST.ij,lN,aJ]at hcl;refine MY.out _ _ C (H _ _) ⟨lN 3 v pz 0 0 (j_ aQ) aI.length aI,?_,jL.es _ _ _ _ _ bn cI (λu hu=>(cU u hu).1),SG.leaf (t:=lN 3 v pz 0 0 (j_ aQ) aI.length aI) (by show mY _ 3 v pz 0 0 aI.length _ _;rw[aJ];exact .wo _ hv) rfl rfl (λu hu=>(cU u hu).2)⟩
  show Value.agg _=Value.agg (lN 3 v pz 0 0 (j_ aQ) aI.length aI).g_
  exact MO
 .refine jv [(some 33,4)] ?_;exact Jy
 exact KJ):G:=h
def It{G:Prop} (h:G:=by
 go_upto_region 5 with fail
 have c:=hR.lt;have A:=(hm.alloc (.cells l7 9)).f_ 0;have dr:=((hm.alloc (.cells l7 9)).alloc (.cells l7 9)).f_ 0
 go_region_law (first|(go_simp;go_at_call 177;refine(lT).mono ?_;rintro e q⟨rfl,rfl⟩;try(have a:=P_ w2 9 l7;have ak:=(a.f_ r.toNat).trans aH;replace hR:=hR.alloc (.cells l7 9);replace hd:=hd.hF ((H [] w2).alloc (.cells l7 9));replace MZ:=MZ.alloc (.cells l7 9)))|(go_simp;go_at_call 19;refine(iw B g 5 (hd.hF (by first|exact(((H [] w1).alloc _).alloc _).drew|exact((H [] w1).alloc _).drew)) X X).mono ?_;rintro e w2⟨r,rfl,bL,bO,cf,F⟩;obtain⟨s,hs,aH⟩:=wU r bL bO;(first|(have z:=(((P_ w1 9 l7).alloc (.cells l7 9)).drew).gr F p_;have f:=((P_ (w1.alloc (.cells l7 9)) 9 l7).drew).gr F p_;have bq:=(z.f_ r.toNat).trans aH;have aC:=(f.f_ r.toNat).trans aH;simp at aC;replace hR:=(((hR.alloc (.cells l7 9)).alloc (.cells l7 9)).drew).gr F p_;replace MZ:=(((MZ.alloc (.cells l7 9)).alloc (.cells l7 9)).drew).trans F;replace hd:=cf)|(replace hR:=((hR.alloc (.cells l7 9)).drew).gr F p_;replace MZ:=((MZ.alloc (.cells l7 9)).drew).trans F;replace hd:=cf)))|(go_simp;go_at_call 145;refine(ke s).mono ?_;rintro e ag⟨he,S⟩;replace he:e=.returned (.agg #[Y 3,Y 0,.string s,Y 0,n_]):=he;subst he;replace hR:=hR.hF S;replace hd:=hd.hF S;replace MZ:=MZ.trans (S.mono J);have bB:=hR.hG 0;have z0:=hR.f_ 0;have bM:=hR.hG 1;have aR:=hR.f_ 1;have ce:=hR.hG 2;have aZ:=hR.f_ 2;have du:=hR.hG 3;have z3:=hR.f_ 3;have dU:=hR.hG 4;have z4:=hR.f_ 4))
 all_goals
  go_wp2;have aB:=(((((hR.hV 0 (Y 3)).hV 1 (Y 0)).hV 2 (.string s)).hV 3 (Y 0)).hV 4 (n_));have G:=((((((H [R0] ag).setCell (p:=(Z R0 0)) (.inl J) (Y 3)).setCell (p:=(Z R0 1)) (.inl J) (Y 0)).setCell (p:=(Z R0 2)) (.inl J) (.string s)).setCell (p:=(Z R0 3)) (.inl J) (Y 0)).setCell (p:=(Z R0 4)) (.inl J) (n_));exact rr_ (jA s).g_ aB underlying226 ⟨jA s,rfl,kq.leaf _ _ _ _ _ _,EG.var _ _ hs,hd.ih G p_,(MZ.th G dw)⟩):G:=h
def IY{G:Prop} (h:G:=by
 go_upto_region 3 with fail
 go_wp2_with (first|((go_at_call 19;refine(iw B g 9 hd X X).mono ?_;rintro e w2⟨r,rfl,bL,bO,cf,F⟩);have bQ:IntKind.i64.wrap (r-2)=r-2:=F5 _ X)|(go_at_call 144;refine(kb (r-2)).mono ?_;rintro e ag⟨rfl,S⟩;replace hR:=(hR.gr F p_).hF S;replace hd:=cf.hF S;replace MZ:=(MZ.trans F).trans (S.mono J))|(refine kS (jz (r-2)).g_ hR (ET.one _) ?_;intro ae aB G))
 exact rr_ (jz (r-2)).g_ aB underlying226 ⟨jz (r-2),rfl,kq.leaf _ _ _ _ _ _,EG.num _ _ X X,hd.ih G p_,(MZ.th G dw)⟩):G:=h
def Jz{G:Prop} (h:G:=by
 intro vs Q C M0 K MY;obtain⟨⟨ta,o,aq,E⟩, -⟩:=M0
 try simp only[b_,o]at MY |-
 refine iZ k_ ?_;refine ia 226 rfl R0 r_ ta.g_ r_ 226 C.r rfl k_ (ET.one _) ?_;exact K9):G:=h
def Kh{G:Prop} (h:G:=by
 intro vs Q C M0 K MY;obtain⟨o, -⟩:=M0;replace o:_=_:=o
 try simp only[b_,o]at MY |-
 obtain⟨c7,j,ct,cQ⟩:=id C;have MV:=j.f_ 0;exact MG):G:=h
def Kk{G:Prop} (h:G:=by
 rw[<-hd,<-oR]at h1
 refine wpOp_step (jH ho) λe MY=>h1 e (λv w' n MZ b=>MY _ _ ⟨v,rfl,?_⟩)
 have hz:l.toArray.size=l.length:=J;rw[hz,hl];exact⟨n,MZ,b⟩):G:=h
def Kz{G:Prop} (h:G:=by
 rw[<-hd,<-oR]at h1
 refine wpOp_step (jH ho) λe MY=>h1 e (λv w' MX=>MY _ _ ⟨v,rfl,?_⟩)
 have hz:l.toArray.size=l.length:=J;rw[hz,hl];exact MX):G:=h
def KK{G:Prop} (h:G:=by
 intro vs bu C;simp only[b_];obtain⟨t,aB,MX,ao,aX,G⟩:=C;go_wp2;exact rr_ t.g_ aB underlying226 ⟨t,rfl,MX.le X,ao,aX,MZ.hJ G p_⟩):G:=h
section
variable{P:Program}{ops:Array Oper}{Q:Exit->Act->World->Prop}{md:Region.Mode}
def jO(ops:Array Oper)(i:Nat):Option Tmp:=(ops[i]?).bind (·.dst)
def oS(ops:Array Oper)(vs:Nat->Value):List Nat->Act->Act
 |[],a=>a
 |i::l,a=>oS ops vs l (a.put (jO ops i) (vs i))
structure sD(ops:Array Oper)(a0:Act)(f:Nat->Bool)(vs:Nat->Value)(a:Act):Prop where
 defers:a.defers=a0.defers
 size:a.tmps.size=a0.tmps.size
 put:∀i d,f i=true->jO ops i=some d->d<a0.tmps.size->a.tmps[d]?=some (vs i)
 iz:∀d,(∀i,f i=true->jO ops i≠some d)->a.tmps[d]?=a0.tmps[d]?
def sD.ext{f:Nat->Bool}(h:sD ops a0 f vs a)(k:sD ops a0 f vs a'):a=a':=by
 have n:a.tmps=a'.tmps:=by
  apply Array.ext_getElem?;intro b
  by_cases m:∃i,f i=true/\jO ops i=some b
  .obtain⟨i,c,d⟩:=m
   rcases FW b a0.tmps.size with g|j
   .rw[h.put i b c d g,k.put i b c d g]
   .rw[Y_ (by rw[h.size];exact j),Y_ (by rw[k.size];exact j)]
  .have g:∀i,f i=true->jO ops i≠some b:=λi c d=>m ⟨i,c,d⟩
   rw[h.iz b g,k.iz b g]
 have p:=h.defers.trans k.defers.symm
 cases a;cases a'
 simp only at n p;rw[n,p]
def sD.refl(a0:Act)(vs:Nat->Value):sD ops a0 (λ_=>false) vs a0:=⟨rfl,rfl,λ_ _ b=>by(cases b),λ_ _=>rfl⟩
def sD.congr{f g:Nat->Bool}{us:Nat->Value}(h:sD ops a0 f vs a)(j:∀b,f b=g b)(q:∀b,f b=true->vs b=us b):sD ops a0 g us a:=
 ⟨h.defers,h.size,λi d c n m=>by rw[h.put i d ((j i).trans c) n m,q i ((j i).trans c)],λd p=>h.iz d λi c=>p i ((j i).symm.trans c)⟩
def DW(ops:Array Oper):Prop:=∀i j d,jO ops i=some d->jO ops j=some d->i=j
def sD.add{f:Nat->Bool}(h:sD ops a0 f vs a)(q:DW ops)(i:Nat)(r:f i=false)(v:Value):
 sD ops a0 (λb=>b==i||f b) (λb=>if b=i then v else vs b) (a.put (jO ops i) v):=by
 refine⟨?_,?_,?_,?_⟩
 .cases D:jO ops i<;>exact h.defers
 .cases D:jO ops i
  .exact h.size
  .simpa[Act.put]using h.size
 .intro b c n l p
  by_cases g:b=i
  .subst g;rw[l];simp[Act.put,h.size,p]
  .have k:=by simpa[g]using n
   have d:=h.put b c k l p
   cases D:jO ops i with
   |none=>simpa[Act.put,g]using d
   |some e=>
    have j:e≠c:=λm=>g (q b i c l (m▸D))
    simp only[Act.put,GU j,g,if_false];exact d
 .intro c g;have p:=g i J;have d:=h.iz c (λb n=>g b (by simp[n]))
  cases D:jO ops i with
  |none=>exact d
  |some e=>
   have j:e≠c:=λm=>p (m▸D)
   simp only[Act.put,GU j];exact d
def sD.oS{a0:Act}{vs:Nat->Value}(c:DW ops):∀(l:List Nat) (a:Act) (f:Nat->Bool),sD ops a0 f vs a->(∀b∈l,f b=false)->l.Nodup->sD ops a0 (λb=>l.contains b||f b) vs (oS ops vs l a)
 |[],a,f,h,_,_=>h.congr (λb=>by simp) (λ_ _=>rfl)
 |i::l,a,f,h,d,j=>by
  have n:=h.add c i (d i J) (vs i)
  have p:=sD.oS c l _ _ (n.congr (λ_=>rfl) (λb _=>show(if b=i then vs i else vs b)=vs b by(split<;>simp_all))) (λb g=>by
   have m:b≠i:=λe=>(HQ.1 j).1 (e▸g)
   simp[m,d b (FX _ g)]) (HQ.1 j).2
  refine p.congr (λb=>?_) (λ_ _=>rfl);simp only[List.contains_cons,Bool.or_assoc,Bool.or_left_comm]
def AR{x:Option Tmp}{u:Value}(h:a'.put x u=a'.put x v)(m:a.tmps.size=a'.tmps.size):a.put x u=a.put x v:=by
 cases x with
 |none=>rfl
 |some c=>
  have b:=Z_ (λg:Act=>g.tmps[c]?) h;simp only[Act.put]at b
  rcases FW c a'.tmps.size with d|j
  .simp[d]at b;rw[b]
  .simp only[Act.put];congr 1;rw[Array.setIfInBounds,Array.setIfInBounds,dif_neg X,dif_neg X]
def rQ(b:Act)(x:Option Tmp)(v:Value):(b.put x v).defers=b.defers:=by cases x<;>rfl
def vn{R:Value->World->Prop}(E:ops[i]?=some o)(H:∀cs b,o.op≠ .select cs b)(q:∀d∈o.looksAt ops,a.tmps[d]?=a'.tmps[d]?)(y:a.tmps.size=a'.tmps.size)(r:a.defers=a'.defers)(s:∀c t t' d w,Q (.panic c) ⟨t,d⟩ w->Q (.panic c) ⟨t',d⟩ w)(h:wpOp P ops Q i (λb w'=>∃v,b=a'.put o.dst v/\R v w') a' w):wpOp P ops Q i (λb w'=>∃v,b=a.put o.dst v/\R v w') a w:=by
 have j:execOp a.eval o=execOp a'.eval o:=execOp_congr o H λx I=>by
  cases x with
  |tmp t=>
   have:=q t (F9 _ (Il.2 ⟨.tmp t,by simpa using I,rfl⟩))
   simp only[Act.eval,FN,this]
  |_=>rfl
 have u:Region.wanted o (yielded ops a.tmps)=Region.wanted o (yielded ops a'.tmps):=by
  unfold Region.wanted
  cases C:o.guard with
  |none=>rfl
  |some z=>
   obtain⟨n,L⟩:=z
   have J:yielded ops a.tmps n=yielded ops a'.tmps n:=by
    unfold yielded
    cases B:(ops[n]?).bind (·.dst)with
    |none=>rfl
    |some t=>
     have:=q t (by simp[Oper.looksAt,C,B])
     simp only[Option.bind_some,this]
   simp only[J]
 have k:∀c w',Q (.panic c) a' w'->Q (.panic c) a w':=by
  cases a;cases a'
  simp only at r;subst r
  exact λc w' h=>s c _ _ _ _ h
 have m:∀g w',(∃v,a'.put o.dst g=a'.put o.dst v/\R v w')->∃v,a.put o.dst g=a.put o.dst v/\R v w':=λg w'⟨v,p,F⟩=>⟨v,AR p y,F⟩
 unfold wpOp at*;simp only[E]at*;rw[u];split
 .rename_i A;simp only[A,if_true]at h
  rcases h with h|⟨l,J⟩
  case inr=>exact .inr ⟨by unfold Oper.asks at*;rw[j];exact l,J⟩
  refine .inl ?_;unfold Oper.wp at*;rw[j];generalize (execOp a'.eval o).run P w=O at*
  cases O with
  |ok L w'=>
   cases L<;>simp only[Oper.upon]at h |-
   case value g=>exact m g _ h
   case skip=>exact m _ _ h
   case defer d=>
    obtain⟨v,p,_⟩:=h;have n:=Z_ Act.defers p;rw[rQ,rQ]at n;have B:=Z_ List.length n;simp at B
   case enter f z=>
    refine Calls.mono h λe T j=>?_
    cases e with
    |returned g=>exact m g _ j
    |panicked c=>exact k _ _ j
    |outgrown=>exact j
   case row n z=>exact Rows.mono h λg T j=>m g _ j
  |halt x w'=>
   cases x<;>simp only[Oper.upon]at h |-
   case panic g=>exact k _ _ h
 .rename_i A;simp only[A]at h;exact m _ _ h
structure SU(G:Nat->World->World->Prop) where
 U:(Nat->Value)->Value->World->Prop
 ex:List Nat
 st:∀i,i∉ex->∀vs v w w',G i w w'->U vs v w->U vs v w'
 dp:List Nat
 loc:∀vs us v w,(∀j∈dp,vs j=us j)->U vs v w->U us v w
def SU.of{G:World->World->Prop}(MV:Value->World->Prop)(st:∀v w w',G w w'->MV v w->MV v w'):SU (λ_=>G):=⟨λ_ v w=>MV v w,[],λ_ _ _ v w w' hg h=>st v w w' hg h,[],λ_ _ _ _ _ h=>h⟩
def SU.zN{G:Nat->World->World->Prop}(ex:List Nat)(MV:Value->World->Prop)(st:∀i,i∉ex->∀v w w',G i w w'->MV v w->MV v w'):SU G:=⟨λ_ v w=>MV v w,ex,λi hi _ v w w' hg h=>st i hi v w w' hg h,[],λ_ _ _ _ _ h=>h⟩
def SU.vg{G:World->World->Prop}{M0:Nat->World->World->Prop}(s:SU (λ_=>G))(h:∀i a b,M0 i a b->G a b):SU M0:=⟨s.U,s.ex,λi hi vs v w w' hg hu=>s.st i hi vs v w w' (h i _ _ hg) hu,s.dp,s.loc⟩
def ng{G:Nat->World->World->Prop}(p:Nat->SU G)(vs:Nat->Value)(w:World):List Nat->Prop
 |[]=>True
 |j::l=>(p j).U vs (vs j) w/\ng p vs w l
def ng.of{G:Nat->World->World->Prop}{p:Nat->SU G}{vs:Nat->Value}{w:World}:∀{l:List Nat},(∀b∈l,(p b).U vs (vs b) w)->ng p vs w l
 |[],_=>trivial
 |_::_,h=>⟨h _ J,ng.of λb c=>h b (by simp[c])⟩
def xZ{listed:Array Bool}(h:listed.getD i true=false):((listed.setIfInBounds i true).toList.filter (!·)).length+1<=(listed.toList.filter (!·)).length:=by
 have c:i<listed.size:=by
  rcases FW i listed.size with d|d
  .exact d
  .rw[FN,Y_ d]at h
   cases h
 have b:listed.toList[i]?=some false:=by
  rw[FN,FR c]at h;simp at h;simp[c,h]
 rw[HU];generalize listed.toList=l at b;clear h c listed
 induction l generalizing i with
 |nil=>simp at b
 |cons x l g=>
  cases i with
  |zero=>
   simp at b;subst b;simp
  |succ i=>
   have:=g (i:=i) (zu b)
   cases x<;>simp only[GQ,Ho]<;>simp<;>simpa using this
structure DT(md:Region.Mode)(ops:Array Oper)(ky:Nat->List Nat)(kT:Bool):Prop where
 Fi:Region.noSelect ops=true
 zx:DW ops
 back:∀i o,ops[i]?=some o->∀e∈o.after,Region.binds md e=true->e.on<i
 Fj:∀i,i<ops.size->(ky i).Nodup
 pre:∀i,i<ops.size->∀j∈ky i,lm md ops 16 i j=true
 look:∀i o,ops[i]?=some o->∀k d,jO ops k=some d->d∈o.looksAt ops->k∈ky i∨lm md ops 16 k i=true
 some:kT=true->0<ops.size
 last:kT=true->∀j,j+1<ops.size->lm md ops 16 (ops.size-1) j=true
def BP(d:∀i o,ops[i]?=some o->∀e∈o.after,Region.binds md e=true->e.on<i)(h:Region.ready md ops listed=[])(p:listed.size=ops.size):∀i,i<ops.size->listed.getD i false=true:=by
 intro i
 induction i using Nat.strongRecOn with
 |ind i m=>
  intro b
  cases j:listed.getD i false with
  |true=>rfl
  |false=>
   exfalso
   have n:listed.getD i true=false:=by
    rw[FN,FR X]at j |-
    simpa using j
   have:i∈Region.ready md ops listed:=mem_ready.2 ⟨n,ops[i],FR b,λe g c=>m e.on (d i _ (FR b) e g c) (ov (d i _ (FR b) e g c))⟩
   rw[h]at this
   cases this
def yu(b:Bool)(A B:Prop):Prop:=match b with|true=>A|false=>B
def sk(vs:Nat->Value)(i:Nat)(u:Value)(j:Nat):Value:=if j=i then u else vs j
def z_{S:(Nat->Bool)->(Nat->Value)->World->Prop}{T:(Nat->Value)->World->Prop}{p:Nat->SU G}{ky:Nat->List Nat}(hc:DT md ops ky kT)(MU:∀c t t' d w,Q (.panic c) ⟨t,d⟩ w->Q (.panic c) ⟨t',d⟩ w)(y:∀i,∀h∈(p i).dp,h∈ky i)(ad:∀h,h<ops.size->∀i∈(p h).ex,i=h∨lm md ops 16 h i=true)(N:∀i o,ops[i]?=some o->∀f vs w,f i=false->(∀h∈ky i,f h=true)->S f vs w->ng p vs w (ky i)->wpOp P ops Q i (λb w'=>∃v,b=(oS ops vs (ky i) a0).put o.dst v/\yu (kT&&i+1==ops.size) (∀u,T (sk vs i u) w') (S (λh=>h==i||f h) (sk vs i v) w'/\G i w w'/\(p i).U vs v w')) (oS ops vs (ky i) a0) w)(x:∀f vs w,(∀h,h<ops.size->f h=true)->yu kT (T vs w) (S f vs w/\ng p vs w (List.range ops.size))->Q .normal (oS ops vs (List.range ops.size) a0) w):
 ∀(fuel:Nat) (listed:Array Bool) (vs:Nat->Value) (a:Act) (w:World),rZ md ops listed->listed.size=ops.size->(listed.toList.filter (!·)).length<=fuel->
  sD ops a0 (λh=>listed.getD h false) vs a->((kT=true/\(∀h,h<ops.size->listed.getD h false=true)/\T vs w)∨(¬(kT=true/\∀h,h<ops.size->listed.getD h false=true)/\S (λh=>listed.getD h false) vs w/\∀h,listed.getD h false=true->(p h).U vs (vs h) w))->wpAny P md ops Q fuel listed a w:=by
 have fin:∀(listed:Array Bool) (vs:Nat->Value) (a:Act) (w:World),listed.size=ops.size->sD ops a0 (λh=>listed.getD h false) vs a->((kT=true/\(∀h,h<ops.size->listed.getD h false=true)/\T vs w)∨(¬(kT=true/\∀h,h<ops.size->listed.getD h false=true)/\S (λh=>listed.getD h false) vs w/\∀h,listed.getD h false=true->(p h).U vs (vs h) w))->
  Region.ready md ops listed=[]->Q .normal a w:=by
  intro listed vs a w R B s J;have A:=BP hc.back J R;have h1:=(sD.refl (ops:=ops) a0 vs).oS hc.zx (List.range ops.size) a0 _ (λ_ _=>rfl) List.nodup_range
  have h2:=B.congr (g:=λh=>(List.range ops.size).contains h||false) (us:=vs) (λh=>by
   rcases FW h ops.size with r|r
   .rw[A h r];simp[r]
   .rw[FN,Y_ X];simp
    omega) (λ_ _=>rfl)
  rw[h2.ext h1]
  exact x _ vs w A (by
   rcases s with⟨E,_,MX⟩|⟨E,s,M0⟩
   .rw[E];exact MX
   .cases ae:kT with
    |true=>exact FU ⟨ae,A⟩ E
    |false=>exact⟨s,ng.of λh r=>M0 h (A h (Gn.1 r))⟩)
 intro fuel
 induction fuel with
 |zero=>
  intro listed vs a w z R L B s
  have J:Region.ready md ops listed=[]:=by
   cases J:Region.ready md ops listed with
   |nil=>rfl
   |cons i j=>
    have hi:i∈Region.ready md ops listed:=by rw[J];simp
    have:=xZ (mem_ready.1 hi).1
    omega
  exact⟨J,fin listed vs a w R B s J⟩
 |succ fuel MS=>
  intro listed vs a w z R L B s;refine⟨λJ=>fin listed vs a w R B s J,λi hi=>?_⟩;obtain⟨V,o,I,M⟩:=mem_ready.1 hi;have q:=nI hi;have ag:=(Gk.1 I).1
  obtain⟨bu,M0⟩:S (λh=>listed.getD h false) vs w/\∀h,listed.getD h false=true->(p h).U vs (vs h) w:=by
   rcases s with⟨_,s,_⟩|s
   .rw[s i ag]at q
    cases q
   .exact s.2
  have bZ:=λh r=>kC z 16 i (hc.pre i ag h r) (λH l e n m=>by rw[I]at l;injection l with l;subst l;exact M e n m)
  have h1:=N i o I _ vs w q bZ bu (ng.of λh r=>M0 h (bZ h r));have hP:=(sD.refl (ops:=ops) a0 vs).oS hc.zx (ky i) a0 _ (λ_ _=>rfl) (hc.Fj i ag);have aP:=B.size.trans hP.size.symm
  have bT:∀d∈o.looksAt ops,a.tmps[d]?=(oS ops vs (ky i) a0).tmps[d]?:=by
   intro d hd
   by_cases O:∃k,listed.getD k false=true/\jO ops k=some d
   .obtain⟨k,C,Y⟩:=O
    have bD:k∈ky i:=by
     rcases hc.look i o I k d Y hd with j|j
     .exact j
     .have:=kC z 16 k j (λH l e n m=>z _ H l C e n m)
      rw[this]at q
      cases q
    rcases FW d a0.tmps.size with Z|bF
    .rw[B.put k d C Y Z,hP.put k d (by simp[bD]) Y Z]
    .rw[Y_ (by rw[B.size];exact bF),Y_ (by rw[hP.size];exact bF)]
   .have L:∀k,listed.getD k false=true->jO ops k≠some d:=λk C Y=>O ⟨k,C,Y⟩
    rw[B.iz d L,hP.iz d (λk bD=>L k (bZ k (zu bD)))]
  have h2:=vn I (λcs b=>Region.noSelect_spec hc.Fi i o cs b I) bT aP (B.defers.trans hP.defers.symm) MU h1;refine wpOp_mono (λb w' m=>?_) h2;obtain⟨v,rfl,W⟩:=m
  have D:o.dst=jO ops i:=by unfold jO;rw[I];rfl
  have MY:=B.add hc.zx i q v;rw[<-D]at MY
  have d2:∀h,(listed.setIfInBounds i true).getD h false=(h==i||listed.getD h false):=by
   intro h
   by_cases F:h=i
   .subst F;rw[FN,L_,U_ rfl,U_ X];simp
   .rw[FN,L_,R_ (Ne.symm F)];simp[F]
  refine MS (listed.setIfInBounds i true) (λh=>if h=i then v else vs h) _ w' (z.set hi) (zu R) (ov (xZ V)) (MY.congr (λh=>(d2 h).symm) (λ_ _=>rfl)) ?_
  by_cases cY:kT=true/\i+1=ops.size
  .obtain⟨E,bo⟩:=cY;rw[E,bo]at W;refine .inl ⟨E,λh r=>?_,?_⟩
   .rw[d2]
    by_cases F:h=i
    .simp[F]
    .have h3:=hc.last E h X;have n:ops.size-1=i:=X;rw[n]at h3;rw[kC z 16 i h3 (λH l e n m=>by rw[I]at l;injection l with l;subst l;exact M e n m)];simp
   .have Z:=by simpa[yu]using W
    exact Z v
  .have m:(kT&&i+1==ops.size)=false:=by
    cases ae:kT with
    |false=>rfl
    |true=>simp;exact λj=>cY ⟨ae,j⟩
   rw[m]at W;obtain⟨W,MZ,K⟩:=W;refine .inr ⟨λ⟨E,cW⟩=>?_,by(have n:=funext d2);rw[n];exact W,?_⟩
   .have L:=cW (ops.size-1) X;rw[d2]at L
    have Z:ops.size-1≠i:=λj=>cY ⟨E,X⟩
    have ah:listed.getD (ops.size-1) false=true:=by simpa[Z]using L
    have h3:=hc.last E i X
    have:=kC z 16 (ops.size-1) h3 (λH l e n m=>z _ H l ah e n m)
    rw[this]at q
    cases q
   .intro h r;rw[d2]at r
    by_cases F:h=i
    .subst F;simp only[if_true];refine(p h).loc vs _ _ _ (λk O=>?_) K;have C:=bZ k (y h k O)
     have Z:k≠h:=λj=>by rw[j,q]at C;cases C
     simp[Z]
    .have bw:listed.getD h false=true:=by simpa[F]using r
     simp only[F,if_false]
     have ai:h<ops.size:=by
      rcases FW h ops.size with j|j
      .exact j
      .rw[FN,Y_ X]at bw
       cases bw
     have bo:i∉(p h).ex:=λhm=>by
      rcases ad h ai i hm with j|j
      .exact F j.symm
      .have:=kC z 16 h j (λH l e n m=>z _ H l bw e n m)
       rw[this]at q
       cases q
     refine(p h).loc vs _ _ _ (λk O=>?_) ((p h).st i bo _ _ _ _ MZ (M0 h bw));have C:=kC z 16 h (hc.pre h ai k (y h k O)) (λH l e n m=>z _ H l bw e n m)
     have Z:k≠i:=λj=>by rw[j,q]at C;cases C
     simp[Z]
def m8(md:Region.Mode)(ops:Array Oper)(i j:Nat):Bool:=(((ops[i]?).map λo=>o.after.any λe=>Region.binds md e&&e.on==j).getD false)||lm md ops 16 i j
def pS{d:Nat}(h:m8 md ops i d=true):lm md ops 16 i d=true:=by
 unfold m8 at h;simp only[HF]at h
 rcases h with h|h
 .unfold lm
  cases c:ops[i]? with
  |none=>rw[c]at h;cases h
  |some o=>
   rw[c]at h;simp only[H8,GI]at h;obtain⟨j,g,b⟩:=H2.1 h;simp only[F0]at b;exact H2.2 ⟨j,g,by simp only[b.1,b.2,Ie,Bool.and_true]⟩
 .exact h
def C4(md:Region.Mode)(ops:Array Oper)(ky:List (List Nat))(kT:Bool):Bool:=
 Region.noSelect ops&&
 ((List.range ops.size).all λi=>(List.range ops.size).all λj=>i==j||(jO ops i).isNone||jO ops i !=jO ops j)&&
 ((List.range ops.size).all λi=>((ops[i]?).map λo=>o.after.all λe=> !Region.binds md e||decide (e.on<i)).getD true)&&
 ((List.range ops.size).all λi=>decide ((ky.getD i []).Nodup)&&(ky.getD i []).all λj=>m8 md ops i j)&&
 ((List.range ops.size).all λi=>(List.range ops.size).all λk=>(ky.getD i []).contains k||((ops[i]?).map λo=>match jO ops k with|none=>true|some d=> !(o.looksAt ops).contains d).getD true||m8 md ops k i)&&
 ((!kT||decide (0<ops.size))&&(!kT||(List.range (ops.size-1)).all λj=>m8 md ops (ops.size-1) j))
def xI{d:Tmp}(h:jO ops i=some d):i<ops.size:=by
 rcases FW i ops.size with b|b
 .exact b
 .unfold jO at h;rw[Y_ b]at h
  cases h
def xb(h:C4 md ops ky kT=true):DT md ops (λi=>ky.getD i []) kT:=by
 unfold C4 at h;simp only[F0]at h;obtain⟨⟨⟨⟨⟨y,z⟩,B⟩,n⟩,s⟩,p,j⟩:=h;refine⟨y,?_,?_,?_,?_,?_,?_,?_⟩
 .intro i g u b c
  have:=F4.1 (F4.1 z i (Gn.2 (xI b))) g (Gn.2 (xI c))
  rw[b,c]at this;exact MR
 .intro i o d e C r
  have:=F4.1 B i (Gn.2 (Gk.1 d).1)
  rw[d]at this;simp only[H8,GI]at this
  have:=(HI.1 this) e C
  rw[r]at this;exact MR
 .intro i b
  have:=F4.1 n i (Gn.2 b)
  simp only[F0,GE]at this;exact this.1
 .intro i b g c
  have:=F4.1 n i (Gn.2 b)
  simp only[F0]at this;exact pS (F4.1 this.2 g c)
 .intro i o d k u r C
  have:=F4.1 (F4.1 s i (Gn.2 (Gk.1 d).1)) k (Gn.2 (xI r))
  rw[d,r]at this;simp only[H8,GI,HF,Bool.not_eq_true']at this
  rcases this with(h|h)|h
  .exact .inl (zu h)
  .rw[List.contains_iff_mem.2 C]at h
   cases h
  .exact .inr (pS h)
 .intro m;rw[m]at p
  simpa using p
 .intro m g c;rw[m]at j;simp only[Bool.not_true,HH]at j;exact pS (F4.1 j g (Gn.2 X))
def sd(P:Program)(ops:Array Oper)(Q:Exit->Act->World->Prop)(a0:Act)(S:(Nat->Bool)->(Nat->Value)->World->Prop)(T:(Nat->Value)->World->Prop){G:Nat->World->World->Prop}(p:Nat->SU G)(ky:List (List Nat))(kT:Bool)(i:Nat):Prop:=
 ∀o,ops[i]?=some o->∀f vs w,f i=false->(∀j∈ky.getD i [],f j=true)->S f vs w->ng p vs w (ky.getD i [])->wpOp P ops Q i (λb w'=>∃v,b=(oS ops vs (ky.getD i []) a0).put o.dst v/\yu (kT&&i+1==ops.size) (∀u,T (sk vs i u) w') (S (λj=>j==i||f j) (sk vs i v) w'/\G i w w'/\(p i).U vs v w')) (oS ops vs (ky.getD i []) a0) w
def sf(p:Nat->Prop)(k:Nat):Nat->Prop
 |0=>True
 |n+1=>p k/\sf p (k+1) n
def sf.get{p:Nat->Prop}:∀(n k:Nat),sf p k n->∀i,k<=i->i<k+n->p i
 |0,_,_,_,b,c=>by omega
 |n+1,k,h,i,b,c=>by
  rcases Nat.eq_or_lt_of_le b with rfl|h3
  .exact h.1
  .exact sf.get n (k+1) h.2 i h3 X
def C9{p:List (SU G)}{b:SU G}{n:Nat}(h:((List.range n).all λi=>(p.getD i b).dp.all λc=>(ky.getD i []).contains c)=true)(g:b.dp=[])(m:p.length=n):∀i,∀c∈(p.getD i b).dp,c∈ky.getD i []:=by
 intro i c d
 rcases FW i n with j|j
 .have:=F4.1 (F4.1 h i (Gn.2 j)) c d
  exact MR
 .rw[List.getD_eq_getElem?_getD,F2 X,HN,g]at d
  cases d
def C8{p:List (SU G)}{b:SU G}(h:((List.range ops.size).all λc=>(p.getD c b).ex.all λi=>i==c||m8 md ops c i)=true):∀c,c<ops.size->∀i∈(p.getD c b).ex,i=c∨lm md ops 16 c i=true:=λc g i d=>by
 have:=F4.1 (F4.1 h c (Gn.2 g)) i d
 simp only[HF,beq_iff_eq]at this;exact this.imp id pS
def lp(vs:Nat->Value):List (Option Tmp × Nat)->Act->Act
 |[],a=>a
 |p::l,a=>lp vs l (a.put p.1 (vs p.2))
def b_:(∀ (vs:Nat->Value) (d:Option Tmp) (c:Nat) (ds:List (Option Tmp × Nat)) (a:Act),lp vs ((d,c)::ds) a=lp vs ds (a.put d (vs c))) /\ (∀ (vs:Nat->Value) (a:Act),lp vs [] a=a) /\ (∀ (a:Act) (i:Tmp) (v:Value),a.put (some i) v=⟨a.tmps.setIfInBounds i v,a.defers⟩) /\ (∀ (a:Act) (v:Value),a.put none v=a) /\
 (∀ {b:Type} (l:List b) (i:Nat) (a:b),l.toArray.setIfInBounds i a=(l.set i a).toArray) /\ (∀ {b:Type} (x y:b) (l:List b),(x::l).set 0 y=y::l) /\ (∀ {b:Type} (x y:b) (l:List b) (i:Nat),(x::l).set (i+1) y=x::l.set i y):=by
 refine⟨λ_ _ _ _ _=>?_,λ_ _=>rfl,λ_ _ _=>rfl,λ_ _=>rfl,λ_ _ _=>by simp,λ_ _ _=>rfl,λ_ _ _ _=>rfl⟩
 rfl
def oR(ops:Array Oper)(vs:Nat->Value):∀(l:List Nat) (a:Act),oS ops vs l a=lp vs (l.map λi=>(jO ops i,i)) a
 |[],_=>rfl
 |_::l,_=>oR ops vs l _
def od(S:(Nat->Bool)->(Nat->Value)->World->Prop)(T:(Nat->Value)->World->Prop)(G:Nat->World->World->Prop)(p:List (SU G))(b:SU G)(ky:List (List Nat))(kT:Bool)(dA:List (Option Tmp × Nat)){id:Nat}(F:P.follows .mixedOrders=true)(hc:C4 .any l.toArray ky kT=true)(z:((List.range l.length).map λi=>(jO l.toArray i,i))=dA)(r:∀c t t' d w,Q (.panic c) ⟨t,d⟩ w->Q (.panic c) ⟨t',d⟩ w)(y:((List.range l.length).all λi=>(p.getD i b).dp.all λh=>(ky.getD i []).contains h)=true)(g:b.dp=[])(e:p.length=l.length)(I:((List.range l.toArray.size).all λh=>(p.getD h b).ex.all λi=>i==h||m8 .any l.toArray h i)=true)(C:∀vs,S (λ_=>false) vs w.drew)(N:sf (sd P l.toArray Q a S T (λi=>p.getD i b) ky kT) 0 l.length)(x:∀f vs w',(∀h,h<l.length->f h=true)->yu kT (T vs w') (S f vs w'/\ng (λi=>p.getD i b) vs w' (List.range l.length))->Q .normal (lp vs dA a) w'):(Code.region id l.toArray true).wp P Q a w:=by
 refine wp_region_any F ?_;have H:l.toArray.size=l.length:=J;refine z_ (xb hc) r (C9 y g e) (C8 I) (λi o n=>sf.get _ _ N i (N_ _) (ov ((Gk.1 n).1)) o n) (by rw[H];intro f vs w' E u;rw[oR,z];exact x f vs w' E u) _ _ (λ_=>undef) a _ ?_ J ?_ ?_ (.inr ⟨?_,by(have B:(λh=>(Array.replicate l.toArray.size false).getD h false)=(λ_=>false):=by(funext h;rw[FN,Hh];split<;>rfl));rw[B];exact C _,?_⟩)
 .intro k L s j
  exfalso
  have m:=(Gk.1 s).1;rw[FN,Hh,U_ m]at j
  cases j
 .refine G_ (Gx _ _) ?_;simp
 .refine(sD.refl a _).congr (λh=>?_) (λ_ _=>rfl);rw[FN,Hh];split<;>rfl
 .rintro⟨j,s⟩;have m:=(xb hc).some j
  have:=s 0 m
  rw[FN,Hh,U_ m]at this
  cases this
 .intro h m;rw[FN,Hh]at m;split at m<;>cases m
def oe(S:(Nat->Bool)->World->Prop)(T:(Nat->Value)->World->Prop)(G:Nat->World->World->Prop)(p:List (SU G))(b:SU G)(ky:List (List Nat))(kT:Bool)(dA:List (Option Tmp × Nat)){id:Nat}(n:P.follows .mixedOrders=true)(hc:C4 .any l.toArray ky kT=true)(m:((List.range l.length).map λi=>(jO l.toArray i,i))=dA)(j:∀c t t' d w,Q (.panic c) ⟨t,d⟩ w->Q (.panic c) ⟨t',d⟩ w)(y:((List.range l.length).all λi=>(p.getD i b).dp.all λh=>(ky.getD i []).contains h)=true)(g:b.dp=[])(e:p.length=l.length)(q:((List.range l.toArray.size).all λh=>(p.getD h b).ex.all λi=>i==h||m8 .any l.toArray h i)=true)(C:S (λ_=>false) w.drew)(N:sf (sd P l.toArray Q a (λf _=>S f) T (λi=>p.getD i b) ky kT) 0 l.length)(x:∀f vs w',(∀h,h<l.length->f h=true)->yu kT (T vs w') (S f w'/\ng (λi=>p.getD i b) vs w' (List.range l.length))->Q .normal (lp vs dA a) w'):(Code.region id l.toArray true).wp P Q a w:=
 od (λf _=>S f) T G p b ky kT dA n hc m j y g e q (λ_=>C) N x
def ki(T:(Nat->Value)->World->Prop)(G:World->World->Prop)(p:List (SU (λ_=>G)))(b:SU (λ_=>G))(ky:List (List Nat))(kT:Bool)(dA:List (Option Tmp × Nat)){id:Nat}(q:P.follows .mixedOrders=true)(hc:C4 .any l.toArray ky kT=true)(n:((List.range l.length).map λi=>(jO l.toArray i,i))=dA)(j:∀c t t' d w,Q (.panic c) ⟨t,d⟩ w->Q (.panic c) ⟨t',d⟩ w)(y:((List.range l.length).all λi=>(p.getD i b).dp.all λh=>(ky.getD i []).contains h)=true)(g:b.dp=[])(e:p.length=l.length)(r:((List.range l.toArray.size).all λh=>(p.getD h b).ex.all λi=>i==h||m8 .any l.toArray h i)=true)(C:S w.drew)(N:sf (sd P l.toArray Q a (λ_ _=>S) T (λi=>p.getD i b) ky kT) 0 l.length)(x:∀vs w',yu kT (T vs w') (S w'/\ng (λi=>p.getD i b) vs w' (List.range l.length))->Q .normal (lp vs dA a) w'):(Code.region id l.toArray true).wp P Q a w:=
 oe (λ_=>S) T (λ_=>G) p b ky kT dA q hc n j y g e r C N (λ_ vs w' _ m=>x vs w' m)
def pw(j:∀i o,ops[i]?=some o->∀e∈o.after,Region.binds md e=true->e.on<i):∀(f b i:Nat),lm md ops f b i=true->i<b
 |0,_,_,h=>by cases h
 |f+1,b,i,h=>by
  unfold lm at h
  cases d:ops[b]? with
  |none=>rw[d]at h;cases h
  |some n=>
   rw[d]at h;simp only at h;obtain⟨q,m,c⟩:=H2.1 h;simp only[F0,HF,beq_iff_eq]at c;have p:=j b n d _ (Array.getElem_mem m) c.1
   rcases c.2 with g|g
   .omega
   .have:=pw j f _ i g
    omega
def z8{S:(Nat->Bool)->(Nat->Value)->World->Prop}{T:(Nat->Value)->World->Prop}{p:Nat->SU G}{ky:Nat->List Nat}(hc:DT md ops ky kT)(MU:∀c t t' d w,Q (.panic c) ⟨t,d⟩ w->Q (.panic c) ⟨t',d⟩ w)(y:∀i,∀h∈(p i).dp,h∈ky i)(ad:∀h,h<ops.size->∀i∈(p h).ex,i=h∨lm md ops 16 h i=true)(N:∀i o,ops[i]?=some o->∀f vs w,f i=false->(∀h∈ky i,f h=true)->S f vs w->ng p vs w (ky i)->wpOp P ops Q i (λb w'=>∃v,b=(oS ops vs (ky i) a0).put o.dst v/\yu (kT&&i+1==ops.size) (∀u,T (sk vs i u) w') (S (λh=>h==i||f h) (sk vs i v) w'/\G i w w'/\(p i).U vs v w')) (oS ops vs (ky i) a0) w)(x:∀f vs w,(∀h,h<ops.size->f h=true)->yu kT (T vs w) (S f vs w/\ng p vs w (List.range ops.size))->Q .normal (oS ops vs (List.range ops.size) a0) w):
 ∀(m k:Nat) (vs:Nat->Value) (a:Act) (w:World),k+m=ops.size->sD ops a0 (λh=>decide (h<k)) vs a->yu (kT&&k==ops.size) (T vs w) (S (λh=>decide (h<k)) vs w/\∀h,h<k->(p h).U vs (vs h) w)->wpOps P ops Q (List.range' k m) a w:=by
 intro m
 induction m with
 |zero=>
  intro k vs a w R r n;have L:=(sD.refl (ops:=ops) a0 vs).oS hc.zx (List.range ops.size) a0 _ (λ_ _=>rfl) List.nodup_range
  have O:=r.congr (g:=λh=>(List.range ops.size).contains h||false) (us:=vs) (λh=>by
   have:k=ops.size:=X
   subst this
   simp) (λ_ _=>rfl)
  show Q .normal a w
  rw[O.ext L];have z:k=ops.size:=X;refine x (λh=>decide (h<k)) vs w (λh j=>by simp;omega) ?_;rw[z]at n
  cases s:kT with
  |true=>rw[s]at n;simpa[yu]using n
  |false=>
   rw[s]at n;have n:S _ vs w/\∀h,h<ops.size->(p h).U vs (vs h) w:=n;exact⟨by rw[z];exact n.1,ng.of λh j=>n.2 h (Gn.1 j)⟩
 |succ m MS=>
  intro k vs a w R r n;rw[List.range'_succ,wpOps_cons];have H:k<ops.size:=X;obtain⟨o,E⟩:∃o,ops[k]?=some o:=⟨_,FR H⟩
  have B:(kT&&k==ops.size)=false:=by
   have:(k==ops.size)=false:=p_
   rw[this,Bool.and_false]
  rw[B]at n;obtain⟨n,Y⟩:S (λh=>decide (h<k)) vs w/\∀h,h<k->(p h).U vs (vs h) w:=n
  have F:=λh j=>pw hc.back 16 k h (hc.pre k H h j)
  have L:=N k o E _ vs w J (λh j=>by simpa using F h j) n (ng.of λh j=>Y h (F h j));have C:=(sD.refl (ops:=ops) a0 vs).oS hc.zx (ky k) a0 _ (λ_ _=>rfl) (hc.Fj k H)
  have bT:∀d∈o.looksAt ops,a.tmps[d]?=(oS ops vs (ky k) a0).tmps[d]?:=by
   intro d hd
   by_cases j:∃h,h<k/\jO ops h=some d
   .obtain⟨h,I,l⟩:=j
    have bD:h∈ky k:=by
     rcases hc.look k o E h d l hd with s|s
     .exact s
     .have:=pw hc.back 16 h k s
      omega
    rcases FW d a0.tmps.size with W|bF
    .rw[r.put h d (zu I) l W,C.put h d (by simp[bD]) l W]
    .rw[Y_ (by rw[r.size];exact bF),Y_ (by rw[C.size];exact bF)]
   .have W:∀h,h<k->jO ops h≠some d:=λh I l=>j ⟨h,I,l⟩
    rw[r.iz d (λh j=>W h (zu j)),C.iz d (λh e=>W h (F h (zu e)))]
  have O:=vn E (λcs b=>Region.noSelect_spec hc.Fi k o cs b E) bT (r.size.trans C.size.symm) (r.defers.trans C.defers.symm) MU L;refine wpOp_mono (λb w' hb=>?_) O;obtain⟨v,rfl,z⟩:=hb
  have D:o.dst=jO ops k:=by unfold jO;rw[E];rfl
  have Z:=r.add hc.zx k J v;rw[<-D]at Z;refine MS (k+1) (λh=>if h=k then v else vs h) _ w' X (Z.congr (λh=>?_) (λ_ _=>rfl)) ?_
  .rw[Bool.eq_iff_iff];simp;omega
  .cases d1:(kT&&k+1==ops.size)with
   |true=>rw[d1]at z;exact z v
   |false=>
    rw[d1]at z;obtain⟨z,MZ,K⟩:=z;refine⟨by(have he:(λh=>decide (h<k+1))=(λh=>h==k||decide (h<k)):=by(funext h;rw[Bool.eq_iff_iff];simp;omega));rw[he];exact z,λh j=>?_⟩
    by_cases W:h=k
    .subst W;simp only[if_true];refine(p h).loc vs _ _ _ (λk R=>?_) K
     have:=F k (y h k R)
     have B:k≠h:=X;simp[B]
    .simp only[W,if_false]
     have bo:k∉(p h).ex:=λhm=>by
      rcases ad h X k hm with s|s
      .exact W s.symm
      .have:=pw hc.back 16 h k s
       omega
     refine(p h).loc vs _ _ _ (λq ao=>?_) ((p h).st k bo _ _ _ _ MZ (Y h X))
     have:=pw hc.back 16 h q (hc.pre h X q (y h q ao))
     have B:q≠k:=X;simp[B]
def tV(S:(Nat->Bool)->(Nat->Value)->World->Prop)(T:(Nat->Value)->World->Prop)(G:Nat->World->World->Prop)(p:List (SU G))(b:SU G)(ky:List (List Nat))(kT:Bool)(dA:List (Option Tmp × Nat)){id:Nat}(hc:C4 .any l.toArray ky kT=true)(u:((List.range l.length).map λi=>(jO l.toArray i,i))=dA)(n:∀c t t' d w,Q (.panic c) ⟨t,d⟩ w->Q (.panic c) ⟨t',d⟩ w)(y:((List.range l.length).all λi=>(p.getD i b).dp.all λh=>(ky.getD i []).contains h)=true)(g:b.dp=[])(e:p.length=l.length)(H:((List.range l.toArray.size).all λh=>(p.getD h b).ex.all λi=>i==h||m8 .any l.toArray h i)=true)(C:∀vs,S (λ_=>false) vs w)(N:sf (sd P l.toArray Q a S T (λi=>p.getD i b) ky kT) 0 l.length)(x:∀f vs w',(∀h,h<l.length->f h=true)->yu kT (T vs w') (S f vs w'/\ng (λi=>p.getD i b) vs w' (List.range l.length))->Q .normal (lp vs dA a) w'):(Code.region id l.toArray false).wp P Q a w:=by
 refine wp_region ?_;have F:l.toArray.size=l.length:=J;have j:=xb hc;rw[List.range_eq_range'];refine z8 j n (C9 y g e) (C8 H) (λi o m=>sf.get _ _ N i (N_ _) (ov ((Gk.1 m).1)) o m) (by rw[F];intro f vs w' z s;rw[oR,u];exact x f vs w' z s) l.toArray.size 0 (λ_=>undef) a w X ?_ ?_
 .exact(sD.refl a _).congr (λh=>by simp) (λ_ _=>rfl)
 .cases E:kT with
  |false=>exact⟨by simpa using C _,λh B=>by omega⟩
  |true=>
   have r:=j.some E
   have:((0:Nat)==l.toArray.size)=false:=by simp at r |-;intro I;omega
   rw[this];exact⟨by simpa using C _,λh B=>by omega⟩
def p3(S:(Nat->Bool)->World->Prop)(T:(Nat->Value)->World->Prop)(G:Nat->World->World->Prop)(p:List (SU G))(b:SU G)(ky:List (List Nat))(kT:Bool)(dA:List (Option Tmp × Nat)){id:Nat}(hc:C4 .any l.toArray ky kT=true)(m:((List.range l.length).map λi=>(jO l.toArray i,i))=dA)(j:∀c t t' d w,Q (.panic c) ⟨t,d⟩ w->Q (.panic c) ⟨t',d⟩ w)(y:((List.range l.length).all λi=>(p.getD i b).dp.all λh=>(ky.getD i []).contains h)=true)(g:b.dp=[])(e:p.length=l.length)(n:((List.range l.toArray.size).all λh=>(p.getD h b).ex.all λi=>i==h||m8 .any l.toArray h i)=true)(C:S (λ_=>false) w)(N:sf (sd P l.toArray Q a (λf _=>S f) T (λi=>p.getD i b) ky kT) 0 l.length)(x:∀f vs w',(∀h,h<l.length->f h=true)->yu kT (T vs w') (S f w'/\ng (λi=>p.getD i b) vs w' (List.range l.length))->Q .normal (lp vs dA a) w'):(Code.region id l.toArray false).wp P Q a w:=
 tV (λf _=>S f) T G p b ky kT dA hc m j y g e n (λ_=>C) N x
def iP(T:(Nat->Value)->World->Prop)(G:World->World->Prop)(p:List (SU (λ_=>G)))(b:SU (λ_=>G))(ky:List (List Nat))(kT:Bool)(dA:List (Option Tmp × Nat)){id:Nat}(hc:C4 .any l.toArray ky kT=true)(n:((List.range l.length).map λi=>(jO l.toArray i,i))=dA)(j:∀c t t' d w,Q (.panic c) ⟨t,d⟩ w->Q (.panic c) ⟨t',d⟩ w)(y:((List.range l.length).all λi=>(p.getD i b).dp.all λh=>(ky.getD i []).contains h)=true)(g:b.dp=[])(e:p.length=l.length)(q:((List.range l.toArray.size).all λh=>(p.getD h b).ex.all λi=>i==h||m8 .any l.toArray h i)=true)(C:S w)(N:sf (sd P l.toArray Q a (λ_ _=>S) T (λi=>p.getD i b) ky kT) 0 l.length)(x:∀vs w',yu kT (T vs w') (S w'/\ng (λi=>p.getD i b) vs w' (List.range l.length))->Q .normal (lp vs dA a) w'):(Code.region id l.toArray false).wp P Q a w:=
 p3 (λ_=>S) T (λ_=>G) p b ky kT dA hc n j y g e q C N (λ_ vs w' _ m=>x vs w' m)
def hS{S:World->Prop}{T:(Nat->Value)->World->Prop}{G:World->World->Prop}{p:Nat->SU (λ_=>G)}{r:List Oper}(ds:List (Option Tmp × Nat))(h:∀vs w,S w->ng p vs w (ky.getD i [])->∀e:Act->World->Prop,Shut (∀v w',S w'->G w w'->(p i).U vs v w'->e ((lp vs ds a0).put o.dst v) w')->
   if Region.wanted o (yielded l.toArray (lp vs ds a0).tmps)=true then Oper.wp P o (lp vs ds a0) w e Q else e ((lp vs ds a0).put o.dst undef) w)(hl:(kT&&i+1==l.length)=false:=by rfl)(ho:l.drop i=o::r:=by rfl)(hd:((ky.getD i []).map λj=>(jO l.toArray j,j))=ds:=by kernel_rfl):
 sd P l.toArray Q a0 (λ_ _=>S) T p ky kT i:=by
 intro g a f vs w hf hp C M0;rw[jH ho]at a;injection a with a;subst a;have h1:=h vs w C M0;exact Kk
def jf{S:(Nat->Bool)->World->Prop}{T:(Nat->Value)->World->Prop}{p:Nat->SU G}{r:List Oper}(ds:List (Option Tmp × Nat))(h:∀f vs w,f i=false->S f w->ng p vs w (ky.getD i [])->∀e:Act->World->Prop,Shut (∀v w',S (λj=>j==i||f j) w'->G i w w'->(p i).U vs v w'->e ((lp vs ds a0).put o.dst v) w')->
   if Region.wanted o (yielded l.toArray (lp vs ds a0).tmps)=true then Oper.wp P o (lp vs ds a0) w e Q else e ((lp vs ds a0).put o.dst undef) w)(hl:(kT&&i+1==l.length)=false:=by rfl)(ho:l.drop i=o::r:=by rfl)(hd:((ky.getD i []).map λj=>(jO l.toArray j,j))=ds:=by kernel_rfl):
 sd P l.toArray Q a0 (λf _=>S f) T p ky kT i:=by
 intro g a f vs w hf hp C M0;rw[jH ho]at a;injection a with a;subst a;have h1:=h f vs w hf C M0;exact Kk
def jR{S:(Nat->Bool)->(Nat->Value)->World->Prop}{T:(Nat->Value)->World->Prop}{p:Nat->SU G}{r:List Oper}(ds:List (Option Tmp × Nat))(h:∀f vs w,f i=false->(∀j∈ky.getD i [],f j=true)->S f vs w->ng p vs w (ky.getD i [])->∀e:Act->World->Prop,Shut (∀v w',S (λj=>j==i||f j) (sk vs i v) w'->G i w w'->(p i).U vs v w'->e ((lp vs ds a0).put o.dst v) w')->
   if Region.wanted o (yielded l.toArray (lp vs ds a0).tmps)=true then Oper.wp P o (lp vs ds a0) w e Q else e ((lp vs ds a0).put o.dst undef) w)(hl:(kT&&i+1==l.length)=false:=by rfl)(ho:l.drop i=o::r:=by rfl)(hd:((ky.getD i []).map λj=>(jO l.toArray j,j))=ds:=by kernel_rfl):
 sd P l.toArray Q a0 S T p ky kT i:=by
 intro g a f vs w hf hp C M0;rw[jH ho]at a;injection a with a;subst a;have h1:=h f vs w hf hp C M0;exact Kk
def jv{S:World->Prop}{T:(Nat->Value)->World->Prop}{G:World->World->Prop}{p:Nat->SU (λ_=>G)}{r:List Oper}(ds:List (Option Tmp × Nat))(h:∀vs w,S w->ng p vs w (ky.getD i [])->∀e:Act->World->Prop,Shut (∀v w',(∀u,T (sk vs i u) w')->e ((lp vs ds a0).put o.dst v) w')->
   if Region.wanted o (yielded l.toArray (lp vs ds a0).tmps)=true then Oper.wp P o (lp vs ds a0) w e Q else e ((lp vs ds a0).put o.dst undef) w)(hl:(kT&&i+1==l.length)=true:=by rfl)(ho:l.drop i=o::r:=by rfl)(hd:((ky.getD i []).map λj=>(jO l.toArray j,j))=ds:=by kernel_rfl):
 sd P l.toArray Q a0 (λ_ _=>S) T p ky kT i:=by
 intro g a f vs w hf hp C M0;rw[jH ho]at a;injection a with a;subst a;have h1:=h vs w C M0;exact Kz
def vG{S:(Nat->Bool)->World->Prop}{T:(Nat->Value)->World->Prop}{p:Nat->SU G}{r:List Oper}(ds:List (Option Tmp × Nat))(h:∀f vs w,f i=false->S f w->ng p vs w (ky.getD i [])->∀e:Act->World->Prop,Shut (∀v w',(∀u,T (sk vs i u) w')->e ((lp vs ds a0).put o.dst v) w')->
   if Region.wanted o (yielded l.toArray (lp vs ds a0).tmps)=true then Oper.wp P o (lp vs ds a0) w e Q else e ((lp vs ds a0).put o.dst undef) w)(hl:(kT&&i+1==l.length)=true:=by rfl)(ho:l.drop i=o::r:=by rfl)(hd:((ky.getD i []).map λj=>(jO l.toArray j,j))=ds:=by kernel_rfl):
 sd P l.toArray Q a0 (λf _=>S f) T p ky kT i:=by
 intro g a f vs w hf hp C M0;rw[jH ho]at a;injection a with a;subst a;have h1:=h f vs w hf C M0;exact Kz
def vF{S:(Nat->Bool)->(Nat->Value)->World->Prop}{T:(Nat->Value)->World->Prop}{p:Nat->SU G}{r:List Oper}(ds:List (Option Tmp × Nat))(h:∀f vs w,f i=false->(∀j∈ky.getD i [],f j=true)->S f vs w->ng p vs w (ky.getD i [])->∀e:Act->World->Prop,Shut (∀v w',(∀u,T (sk vs i u) w')->e ((lp vs ds a0).put o.dst v) w')->
   if Region.wanted o (yielded l.toArray (lp vs ds a0).tmps)=true then Oper.wp P o (lp vs ds a0) w e Q else e ((lp vs ds a0).put o.dst undef) w)(hl:(kT&&i+1==l.length)=true:=by rfl)(ho:l.drop i=o::r:=by rfl)(hd:((ky.getD i []).map λj=>(jO l.toArray j,j))=ds:=by kernel_rfl):
 sd P l.toArray Q a0 S T p ky kT i:=by
 intro g a f vs w hf hp C M0;rw[jH ho]at a;injection a with a;subst a;have h1:=h f vs w hf hp C M0;exact Kz
def iZ{c A b:Prop}[Decidable c](hc:c)(h:A):if c then A else b:=by rw[U_ hc];exact h
def ia{x y:Operand}(n:o.op=.store ty x y)(g:Nat)(q:a.eval x=q_ g)(vs:Array Value)(hy:a.eval y=.agg vs)(t:TypeId){cs:Array Value}(j:Bk w g t cs)(p:vs.size=cs.size)(m:(P.info? ty).map (·.size)=some vs.size)(c:vs.all (·.oneCell')=true)(h:∀w',Bk w' g t vs->I [g] w w'->K (a.put o.dst undef) w'):o.wp P a w K Q:=
 jE ty x y n g 0 q vs hy t cs j X m c λw' b d=>h w' (by rw[qB cs vs p]at b;exact b) d
def SU.val(G:World->World->Prop)(v0:Value):SU (λ_=>G):=SU.of (λv _=>v=v0) (λ_ _ _ _ h=>h)
def SU.num(G:World->World->Prop)(lo hi:Int):SU (λ_=>G):=SU.of (λv _=>∃r:Int,v=Y r/\lo<=r/\r<hi) (λ_ _ _ _ h=>h)
def SU.BH{M:List Nat}{lo:Nat}(z:∀y∈M,y<lo)(t:TypeId)(cs:Array Value)(n:Nat):SU (λ_=>I M):=
 SU.of (λv w=>∃x,v=.slice (j_ x) n n/\lo<=x/\Bk w x t cs) (λ_ _ _ hg⟨x,h1,h2,h3⟩=>⟨x,h1,h2,h3.gr hg (λhm=>by have:=z x hm;omega)⟩)
def SU.elem{M:List Nat}{lo:Nat}(z:∀y∈M,y<lo)(t:TypeId)(cs:Array Value)(n:Nat):SU (λ_=>I M):=
 SU.of (λv w=>∃x k:Nat,v=.pointer (some (Z x k))/\k<n/\lo<=x/\Bk w x t cs) (λ_ _ _ hg⟨x,k,h1,hk,h2,h3⟩=>⟨x,k,h1,hk,h2,h3.gr hg (λhm=>by have:=z x hm;omega)⟩)
def SU.pure(G:World->World->Prop)(MV:Value->Prop):SU (λ_=>G):=SU.of (λv _=>MV v) (λ_ _ _ _ h=>h)
def SU.any(G:World->World->Prop):SU (λ_=>G):=SU.of (λ_ _=>True) (λ_ _ _ _ h=>h)
def SU.anyI(G:Nat->World->World->Prop):SU G:=SU.zN [] (λ_ _=>True) (λ_ _ _ _ _ _ h=>h)
def SU.mx(G:Nat->World->World->Prop)(v0:Value):SU G:=SU.zN [] (λv _=>v=v0) (λ_ _ _ _ _ _ h=>h)
def SU.less{G M0:World->World->Prop}(h:∀a b,M0 a b->G a b)(s:SU (λ_=>G)):SU (λ_=>M0):=⟨s.U,s.ex,λi hi vs v w w' hg hu=>s.st i hi vs v w w' (h _ _ hg) hu,s.dp,s.loc⟩
end
def ET.one(t:ET):t.g_.all (·.oneCell')=true:=by unfold ET.g_;simp[Value.oneCell']
def pG(n:Int)(A:OA)(a:ET):ET:=.mk 4 n ByteArray.empty 0 A 1 [a]
inductive EG(V:List ByteArray):Nat->ET->Prop
 |num (d:Nat) (n:Int) (h0: -10<=n) (h1:n<=10):EG V d (jz n)
 |var (d:Nat) (s:ByteArray) (h:s∈V):EG V d (jA s)
 |new (d:Nat) (n:Int) (h0:0<=n) (h1:n<=3):EG V d (eNew n)
 |field (d:Nat) (n:Int) (A:OA) (s:ByteArray) (h0:0<=n) (h1:n<=2) (h:s∈V):EG V (d+1) (pG n A (jA s))
 |bin (d:Nat) (o:Int) (A:OA) (a b:ET) (h0:1<=o) (h1:o<=11) (ha:EG V d a) (hb:EG V d b):EG V (d+1) (pY o A a b)
structure Ex(B g m R:Nat)(tr:TypeId)(mc zc:Array Value)(W w:World):Prop where
 d:iQ w B g
 m:Bk w m 222 mc
 r:Bk w R tr zc
 g:I [g] W w
def Ex.step{b g m R:Nat}{d j:Array Value}{W:World}(h:Ex b g m R tr d j W w)(c:I [g] w w')(r:iQ w' b g)(n:m≠g)(p:R≠g):Ex b g m R tr d j W w':=
 ⟨r,h.m.gr c (zu n),h.r.gr c (zu p),h.g.trans c⟩
def Ex.hF{c g m R:Nat}{d j:Array Value}{W:World}(h:Ex c g m R tr d j W w)(b:I [] w w'):Ex c g m R tr d j W w':=
 ⟨h.d.hF b,h.m.hF b,h.r.hF b,h.g.trans (b.mono J)⟩
def SU.tree{M:List Nat}{lo:Nat}(z:∀y∈M,y<lo)(d:Nat):SU (λ_=>I M):=
 SU.of (λv w=>∃t:ET,v=.agg t.g_/\kq (jD lo) w t/\EG hU d t) (λ_ _ _ hg⟨t,h1,h2,h3⟩=>⟨t,h1,h2.ih hg (λx hx=>Gy.2 (z x hx)),h3⟩)
def Dk(i:Int)(h0:0<=i)(b:i<2):∃s,s∈hU/\(#[.string {data:=#[112]},.string {data:=#[113]}]:Array Value)[i.toNat]?=some (.string s):=by
 obtain⟨k,rfl⟩:∃k:Nat,i=k:=⟨i.toNat,X⟩
 match k,b with
 |0,_=>exact⟨pa,by simp[hU],rfl⟩
 |1,_=>exact⟨m6,by simp[hU],rfl⟩
def I.th{g R:Nat}{a b c:World}(h:I [g] a b)(k:I [R] b c)(j:a.heap.size<=R):I [g] a c:=h.hJ k (by intro x d;right;simp at d;omega)
def kF(B g m:Nat)(left loops fn:Int)(d:Nat)(aX:d<=100):∀(D:Int) (_:D=d) (w:World) (_:iQ w B g) (_:Bk w m 222 #[q_ g,Y left,Y loops,Y fn]) (_:B<=m),
 Calls prog 140 #[q_ m,Y D] w λe w'=>∃t,e=.returned (.agg t.g_)/\kq (jD w.heap.size) w' t/\EG hU d t/\iQ w' B g/\I [g] w w':=by
 induction d with
 |zero=>
  intro D hD w hd hm hBm;have bt:=hd.xw;have cw:=hm.lt;have h:D=0:=hD;subst h;clear hD
  go_enter func140,ntmps140
  go_upto_region 1 with fail
  have u:I [] w (w.alloc (.cells E_ 226)):=(H [] w).alloc _;replace hd:=hd.hF u;replace hm:=hm.hF u;have hR:=P_ w 226 E_;have MZ:I [g] w (w.alloc (.cells E_ 226)):=(H [g] w).alloc _;clear u;obtain⟨bw,L⟩:=nm_ (w.alloc (.cells E_ 226));rw[<-L]at hd hm hR MZ |-;clear L;obtain⟨R0,O⟩:=nm_ w.heap.size;rw[<-O]at hR |-;have dw:w.heap.size<=R0:=X;have cY:g<R0:=X;have al:B<=R0:=X;have c8:m<R0:=ov cw;clear O;have MV:=hm.f_ 0
  go_upto_region 2 with(go_at_call 19;refine(iw B g 12 hd X X).mono ?_;rintro e w1⟨k,rfl,cg,bZ,bK,b⟩)
  replace hm:=hm.gr b p_;replace hR:=hR.gr b p_;replace MZ:=MZ.trans b;replace hd:=bK;clear b MV;have MV:=hm.f_ 0
  by_cases aw:k<4
  .exact IY
  by_cases bY:k<8
  .exact It
  .exact It
 |succ d MS=>
  intro D hD w hd hm hBm;have bt:=hd.xw;have cw:=hm.lt;have au:(D==0)=false:=p_;have av:¬D=0:=X;have ap:IntKind.i64.wrap (D-1)=D-1:=F5 _ X;have cj:=U (show D-1=d by omega);clear hD
  go_enter func140,ntmps140
  go_upto_region 1 with fail
  have u:I [] w (w.alloc (.cells E_ 226)):=(H [] w).alloc _;replace hd:=hd.hF u;replace hm:=hm.hF u;have hR:=P_ w 226 E_;have MZ:I [g] w (w.alloc (.cells E_ 226)):=(H [g] w).alloc _;clear u;obtain⟨bw,L⟩:=nm_ (w.alloc (.cells E_ 226));rw[<-L]at hd hm hR MZ |-;clear L;obtain⟨R0,O⟩:=nm_ w.heap.size;rw[<-O]at hR |-;have dw:w.heap.size<=R0:=X;have cY:g<R0:=X;have al:B<=R0:=X;have c8:m<R0:=ov cw;clear O;have MV:=hm.f_ 0
  go_upto_region 2 with(go_at_call 19;refine(iw B g 12 hd X X).mono ?_;rintro e w1⟨k,rfl,cg,bZ,bK,b⟩)
  replace hm:=hm.gr b p_;replace hR:=hR.gr b p_;replace MZ:=MZ.trans b;replace hd:=bK;clear b MV;have MV:=hm.f_ 0
  by_cases aw:k<4
  .exact IY
  by_cases bY:k<8
  .exact It
  by_cases eM:k=8
  .subst eM
   go_upto_region 7 with fail
   obtain⟨h,aO⟩:=nm_ w1;rw[<-aO]at hd hm hR MZ |-;clear aO MV;have T:∀an∈[g,R0],an<R0+1:=p_;have af:m≠g:=X;have aM:R0≠g:=X;have aW:Ex B g m R0 226 #[q_ g,Y left,Y loops,Y fn] E_ h h.drew:=⟨hd.hF (H [] h).drew,hm.hF (H [] h).drew,hR.hF (H [] h).drew,(H [g] h).drew⟩;refine ki (Ex B g m R0 226 #[q_ g,Y left,Y loops,Y fn] E_ h) (λ_ ae=>∃t,Bk ae R0 226 t.g_/\kq (jD (R0+1)) ae t/\EG hU (d+1) t/\iQ ae B g/\I [g,R0] h ae) (I [g,R0]) [SU.val _ (q_ m),SU.val _ (q_ m),SU.val _ (q_ m),SU.val _ (q_ g),SU.num _ 0 3,SU.BH T 9 #[.string {data:=#[112]},.string {data:=#[113]}] 2,SU.val _ (q_ m),SU.val _ (q_ m),SU.val _ (q_ m),SU.val _ (q_ g),SU.num _ 0 2,SU.elem T 9 #[.string {data:=#[112]},.string {data:=#[113]}] 2,SU.pure _ (λv=>∃s,s∈hU/\v=.string s),SU.pure _ (λv=>∃s,s∈hU/\v=.agg #[Y 3,Y 0,.string s,Y 0,n_]),SU.of (λv w=>∃x s,s∈hU/\v=.slice (j_ x) 1 1/\R0+1<=x/\Bk w x 226 #[Y 3,Y 0,.string s,Y 0,n_]) (λ_ _ _ hg⟨x,s,h0,h1,h2,h3⟩=>⟨x,s,h0,h1,h2,h3.gr hg (λhm=>by have:=T x hm;omega)⟩),SU.tree T (d+1),SU.any _] (SU.any _) [[],[0],[1],[2],[3],[],[],[6],[7],[8],[9],[5,10],[11],[12],[13],[4,14],[15]] true [(some 42,0),(some 43,1),(some 44,2),(some 45,3),(some 46,4),(some 47,5),(some 48,6),(some 49,7),(some 50,8),(some 51,9),(some 52,10),(some 53,11),(some 54,12),(some 55,13),(some 56,14),(some 57,15),(none,16)] k_ k_ k_ (λ_ _ _ _ _ y=>y) k_ rfl rfl k_ aW ⟨?_,?_,?_,?_,?_,?_,?_,?_,?_,?_,?_,?_,?_,?_,?_,?_,?_,trivial⟩ ?_
   .exact Lb
   .refine hS [(some 42,0)] ?_;exact KT
   .refine hS [(some 43,1)] ?_;exact KT
   .refine hS [(some 44,2)] ?_;exact Kh
   .refine hS [(some 45,3)] ?_;intro vs Q C M0 K MY;obtain⟨o, -⟩:=M0;replace o:_=_:=o
    try simp only[b_,o]at MY |-
    go_simp
    go_at_call 19
    refine(iw B g 3 C.d X X).mono ?_;exact Ld
   .exact Ki
   .exact Lb
   .refine hS [(some 48,6)] ?_;exact KT
   .refine hS [(some 49,7)] ?_;exact KT
   .refine hS [(some 50,8)] ?_;exact Kh
   .refine hS [(some 51,9)] ?_;intro vs Q C M0 K MY;obtain⟨o, -⟩:=M0;replace o:_=_:=o
    try simp only[b_,o]at MY |-
    go_simp
    go_at_call 19
    refine(iw B g 2 C.d X X).mono ?_;exact Ld
   .refine hS [(some 47,5),(some 52,10)] ?_;exact JO
   .refine hS [(some 53,11)] ?_;intro vs Q C M0 K MY;obtain⟨⟨be,E,o,bT,bj,bi⟩, -⟩:=M0
    try simp only[b_,o]at MY |-
    obtain⟨s,hs,aH⟩:=Dk E X X;exact L9
   .refine hS [(some 54,12)] ?_;intro vs Q C M0 K MY;obtain⟨⟨bG,cu,o⟩, -⟩:=M0
    try simp only[b_,o]at MY |-
    go_simp
    go_at_call 145
    refine(ke bG).mono ?_;rintro e w1⟨rfl,hg1⟩;exact MY.out _ _ (C.hF hg1) (hg1.mono J) ⟨bG,cu,rfl⟩
   .refine hS [(some 55,13)] ?_;intro vs Q C M0 K MY;obtain⟨⟨bG,cu,o⟩, -⟩:=M0
    try simp only[b_,o]at MY |-
    go_simp;exact MY.out _ _ (C.hF ((H [] _).alloc _)) ((H _ _).alloc _) ⟨_,bG,cu,rfl,C.r.lt,P_ _ _ _⟩
   .refine hS [(some 46,4),(some 56,14)] ?_;intro vs Q C M0 K MY;obtain⟨⟨a6,o,cR,bT⟩,⟨aQ,sb,mb,aL,cI,bC⟩, -⟩:=M0
    try simp only[b_,o,aL]at MY |-
    go_simp;exact MY.out (.agg (pG a6 (j_ aQ) (jA sb)).g_) _ C (H _ _) ⟨pG a6 (j_ aQ) (jA sb),rfl,.mk _ (jj (n:=1) bC rfl) (H_ _) (λx off y _=>by injection y with y;injection y with y;omega) (by intro aA hu;rcases M_.1 hu with rfl|hu;exact kq.leaf _ _ _ _ _ _;cases hu),EG.field _ _ _ _ X X mb⟩
   .refine jv [(some 57,15)] ?_;exact Jz
   exact KK
  by_cases l:k=9
  .subst l
   go_upto_region 9 with fail
   go_wp2_with ((go_at_call 19;refine(iw B g 4 hd X X).mono ?_;rintro e w2⟨r,rfl,bL,bO,cf,F⟩);replace hR:=hR.gr F p_;replace hd:=cf;replace MZ:=MZ.trans F;have bB:=hR.hG 0;have z0:=hR.f_ 0;have bM:=hR.hG 1;have aR:=hR.f_ 1;have ce:=hR.hG 2;have aZ:=hR.f_ 2;have du:=hR.hG 3;have z3:=hR.f_ 3;have dU:=hR.hG 4;have z4:=hR.f_ 4)
   have aB:=(((((hR.hV 0 (Y 6)).hV 1 (Y r)).hV 2 (e_)).hV 3 (Y 0)).hV 4 (n_));have G:=((((((H [R0] w2).setCell (p:=(Z R0 0)) (.inl J) (Y 6)).setCell (p:=(Z R0 1)) (.inl J) (Y r)).setCell (p:=(Z R0 2)) (.inl J) (e_)).setCell (p:=(Z R0 3)) (.inl J) (Y 0)).setCell (p:=(Z R0 4)) (.inl J) (n_));exact rr_ (eNew r).g_ aB underlying226 ⟨eNew r,rfl,kq.leaf _ _ _ _ _ _,EG.new _ _ X X,hd.ih G p_,(MZ.th G dw)⟩
  have cZ:(k==8)=false:=p_;have ay:(k==9)=false:=p_
  go_upto_region 10 with fail
  have ad:True:=trivial;have c:=hR.lt
  go_wp2_with (first|((go_at_call 19;refine(iw B g 11 hd X X).mono ?_;rintro e w2⟨r,rfl,bL,bO,cf,F⟩);have b8:IntKind.i64.wrap (1+r)=1+r:=F5 _ X;replace hm:=hm.gr F p_;replace hR:=hR.gr F p_;replace MZ:=MZ.trans F;replace hd:=cf;clear MV;have MV:=hm.f_ 0;have N:R0+1<=w2.heap.size:=hR.lt)|(go_at_call 140;clear ad;refine(MS X (D-1) cj.out _ hd hm hBm).mono ?_;rintro e ai⟨t1,rfl,M,hq1,aD,i⟩;replace M:=M.le N;replace hm:=hm.gr i p_;replace hR:=hR.gr i p_;replace MZ:=MZ.trans i;replace hd:=aD;clear MV;have MV:=hm.f_ 0;have ax:=MZ.size;have P:R0+1<=ai.heap.size:=hR.lt)|(go_at_call 140;refine(MS X (D-1) cj.out _ hd hm hBm).mono ?_;rintro e az⟨R,rfl,aE,bR,V,W⟩;replace M:=M.ih W (by intro x hx;simp at hx;omega);replace aE:=aE.le P;replace hm:=hm.gr W p_;replace hR:=hR.gr W p_;replace MZ:=MZ.trans W;replace hd:=V;clear MV;have MV:=hm.f_ 0)|(go_at_call 143;refine(oF (R0+1) (1+r) t1 R hR.lt M aE).mono ?_;rintro e MT⟨a8,rfl,bp,aj⟩;replace hR:=hR.hF aj;replace hd:=hd.hF aj;replace MZ:=MZ.trans (aj.mono J))|(refine kS (pY (1+r) a8 t1 R).g_ hR (ET.one _) ?_;intro ae aB G))
  exact rr_ (pY (1+r) a8 t1 R).g_ aB underlying226 ⟨pY (1+r) a8 t1 R,rfl,(bp.ih G (by intro x hx;simp at hx;omega)).le X,EG.bin _ _ _ _ _ X X hq1 bR,hd.ih G p_,(MZ.th G dw)⟩
def i6:ByteArray:={data:=#[]}
inductive mY(V:List ByteArray):Int->ByteArray->ByteArray->Int->Int->Nat->Bool->Bool->Prop
 |vb (x:ByteArray) (h:x∈V):mY V 1 x i6 0 0 1 false false
 |EI (n:Int) (h0:0<=n) (h1:n<=2):mY V 2 i6 i6 n 0 2 false false
 |wq (x:ByteArray) (h:x∈V):mY V 3 x pX 0 0 2 false false
 |wo (x:ByteArray) (h:x∈V):mY V 3 x pz 0 0 1 false false
 |D3:mY V 4 i6 i6 0 0 1 true true
 |Aw (x:ByteArray) (h:x∈V):mY V 5 x i6 0 0 2 true false
 |EH:mY V 6 i6 i6 0 0 1 true false
 |ret:mY V 7 i6 i6 0 0 1 false false
 |EE:mY V 8 i6 i6 0 0 1 false false
 |Cb (x:ByteArray) (h:x∈V):mY V 9 x i6 0 0 0 true true
 |EM:mY V 10 i6 i6 0 0 1 false false
 |ask (x:ByteArray) (h:x∈V):mY V 11 x i6 0 0 1 false false
 |red (x:ByteArray) (h:x∈V) (o:Int) (ho:o=1∨o=6∨o=9):mY V 12 x i6 0 o 1 false false
inductive lX(V:List ByteArray):Nat->Nat->List ST->Prop
 |nil (D:Nat):lX V D 0 []
 |cons (D a b nb nl:Nat) (t:ST) (l:List ST) (B L:Bool) (h:mY V t.h6 t.name t.fn t.n t.op t.es.length B L) (hB:B=false->t.bs=[]) (hL:L=false->t.ls=[]) (hes:∀e∈t.es,EG V 2 e)
   (hb:lX V D nb t.bs) (hl:lX V D nl t.ls) (ha:a=1+nb+nl) (hr:lX V (D+1) b l):lX V (D+1) (a+b) (t::l)
def SG(V:List ByteArray)(D N:Nat)(t:ST):Prop:=lX V D N [t]
def lX.append{a b:Nat}{l m:List ST}(h:lX V D a l)(k:lX V D b m):lX V D (a+b) (l++m):=by
 induction h with
 |nil D=>simpa using k
 |cons D a b nb u t l c d h j n r q s p y _ _ g=>
  have:=g k
  rw[Hl];exact .cons D a _ nb u t _ c d h j n r q s p this
def EG.mono{d e:Nat}{t:ET}(h:EG V d t)(g:d<=e):EG V e t:=by
 induction h generalizing e with
 |num d j b c=>exact .num _ j b c
 |var d m h=>exact .var _ m h
 |new d j b c=>exact .new _ j b c
 |field d j A m b c h=>
  obtain⟨e,rfl⟩:∃k,e=k+1:=⟨e-1,X⟩;exact .field _ j A m b c h
 |bin d o A a n b c _ _ f p=>
  obtain⟨e,rfl⟩:∃k,e=k+1:=⟨e-1,X⟩;exact .bin _ o A a n b c (f X) (p X)
def EG.sub{W:List ByteArray}{d:Nat}{t:ET}(h:EG V d t)(j:∀s∈V,s∈W):EG W d t:=by
 induction h with
 |num d g b c=>exact .num _ g b c
 |var d s h=>exact .var _ s (j s h)
 |new d g b c=>exact .new _ g b c
 |field d g A s b c h=>exact .field _ g A s b c (j s h)
 |bin d o A a m b c _ _ f n=>exact .bin _ o A a m b c f n
def mY.sub{W:List ByteArray}{k n o:Int}{x f:ByteArray}{m:Nat}{c L:Bool}(h:mY V k x f n o m c L)(b:∀s∈V,s∈W):mY W k x f n o m c L:=by
 cases h with
 |vb x h=>exact .vb _ (b _ h)
 |EI n d g=>exact .EI _ d g
 |wq x h=>exact .wq _ (b _ h)
 |wo x h=>exact .wo _ (b _ h)
 |D3=>exact .D3
 |Aw x h=>exact .Aw _ (b _ h)
 |EH=>exact .EH
 |ret=>exact .ret
 |EE=>exact .EE
 |Cb x h=>exact .Cb _ (b _ h)
 |EM=>exact .EM
 |ask x h=>exact .ask _ (b _ h)
 |red x h o d=>exact .red _ (b _ h) _ d
def lX.sub{W:List ByteArray}{l:List ST}(h:lX V D N l)(b:∀s∈V,s∈W):lX W D N l:=by
 induction h with
 |nil D=>exact .nil D
 |cons D a g nb y t l c d h n p u _ _ q _ j m f=>exact .cons D a g nb y t l c d (h.sub b) n p (λe r=>(u e r).sub b) j m q f
def lX.mono{r:Nat}{l:List ST}(h:lX V D N l)(hD:D<=r):lX V r N l:=by
 induction h generalizing r with
 |nil D=>exact .nil r
 |cons D a d nb s t l b c h m n q _ _ p _ g j f=>
  obtain⟨e,rfl⟩:∃k,r=k+1:=⟨r-1,X⟩;exact .cons e a d nb s t l b c h m n q (g X) (j X) p (f hD)
def SG.leaf(h:mY V t.h6 t.name t.fn t.n t.op t.es.length false false)(b:t.bs=[])(c:t.ls=[])(d:∀e∈t.es,EG V 2 e):SG V (D+1) 1 t:=
 .cons D 1 0 0 0 t [] false false h (λ_=>b) (λ_=>c) d (by rw[b];exact .nil D) (by rw[c];exact .nil D) rfl (.nil _)
def SG.node{nb nl:Nat}(h:mY V t.h6 t.name t.fn t.n t.op t.es.length true true)(c:∀e∈t.es,EG V 2 e)(b:lX V D nb t.bs)(d:lX V D nl t.ls):SG V (D+1) (1+nb+nl) t:=
 .cons D (1+nb+nl) 0 nb nl t [] true true h (λh=>by cases h) (λh=>by cases h) c b d rfl (.nil _)
def SG.loop{nb:Nat}(h:mY V t.h6 t.name t.fn t.n t.op t.es.length true false)(b:t.ls=[])(d:∀e∈t.es,EG V 2 e)(c:lX V D nb t.bs):SG V (D+1) (1+nb) t:=
 .cons D (1+nb) 0 nb 0 t [] true false h (λh=>by cases h) (λ_=>b) d c (by rw[b];exact .nil D) rfl (.nil _)
def lN(k:Int)(x f:ByteArray)(n o:Int)(A:OA)(c:Nat)(es:List ET):ST:=.mk k x f n o A c es none 0 [] none 0 []
def jL.es{p:Nat->Prop}(x f:ByteArray)(n o:Int){b:Nat}{es:List ET}(j:Sl w 226 5 (j_ b) es.length (es.flatMap ET.E))(h:p b)(g:∀u∈es,kq p w u):jL p w (lN k x f n o (j_ b) es.length es):=
 .mk _ j (H_ _) (λq m c _=>by injection c with c;injection c with c;subst c;exact h) g (Gw _ _ _ _) (H_ _) (λ_ _ c _=>by cases c) (λu d=>by cases d) (Gw _ _ _ _) (H_ _) (λ_ _ c _=>by cases c) (λu d=>by cases d)
def SU.trees{M:List Nat}{lo:Nat}(z:∀y∈M,y<lo)(d n:Nat):SU (λ_=>I M):=
 SU.of (λv w=>∃(x:Nat) (ts:List ET),v=.slice (j_ x) n n/\ts.length=n/\lo<=x/\Sl w 226 5 (j_ x) n (ts.flatMap ET.E)/\∀t∈ts,kq (jD lo) w t/\EG hU d t)
  (λ_ _ _ hg⟨x,ts,h1,h2,h3,aw,av⟩=>⟨x,ts,h1,h2,h3,aw.iz λy off hA hx=>hg.block y hx (λhm=>by injection hA with hA;injection hA with hA;have:=z y hm;omega),λt ht=>⟨(av t ht).1.ih hg (λx hx=>Gy.2 (z x hx)),(av t ht).2⟩⟩)
def SU.stmt{M:List Nat}{lo:Nat}(z:∀y∈M,y<lo)(D N:Nat):SU (λ_=>I M):=
 SU.of (λv w=>∃t:ST,v=.agg t.g_/\jL (jD lo) w t/\SG hU D N t) (λ_ _ _ hg⟨t,h1,h2,h3⟩=>⟨t,h1,h2.ih hg (λx hx=>Gy.2 (z x hx)),h3⟩)
def ST.one(t:ST):t.g_.all (·.oneCell')=true:=by unfold ST.g_;simp[Value.oneCell']
def ET.ij(n:Int)(s:ByteArray)(o:Int)(A:OA)(c:Nat)(l:List ET):(ET.mk k n s o A c l).g_=#[Y k,Y n,.string s,Y o,.slice A l.length c]:=rfl
def ST.ij(x f:ByteArray)(n o:Int)(A:OA)(c:Nat)(es:List ET)(b:OA)(j:Nat)(h:List ST)(g:OA)(d:Nat)(m:List ST):(ST.mk k x f n o A c es b j h g d m).g_=#[Y k,.string x,.string f,Y n,Y o,.slice A es.length c,.slice b h.length j,.slice g m.length d]:=rfl
def nF(t:ET)(h:Bk w x 226 t.g_):Sl w 226 5 (j_ x) 1 ([t].flatMap ET.E):=jj (n:=1) h rfl
def sX(a b:ET)(h:Bk w x 226 (a.g_++b.g_)):Sl w 226 5 (j_ x) 2 ([a,b].flatMap ET.E):=by
 have:=jj (n:=2) (s:=5) h rfl
 rw[Array.toList_append]at this;exact this
section
variable{P:Program}
def AA(w:World)(base:Nat)(t ty e:TypeId)(i:TypeInfo)(z:Value)(b bytes:Nat)(E:P.underlying t=some (.slice e))(B:P.info? e=some i)(W:i.zero=some z)(q:i.size=b)(p:i.bytes=bytes)(C:z.cells.size=b)(I:0<b)(d:OA)(h n:Nat)(xs:List Value)(r:w.ownsRow base e b (.slice d n h) n xs)(A:OA)(m c:Nat)(j:List Value)(s:Sl w f b A m j)(O:∀u∈j,u.oneCell'=true)(y:(n+m)*bytes<=140737488355328)(F:0<bytes)(H:base<=w.heap.size):
 ∃A' c' w',(Builtin.append_ #[t,t] ty #[.slice d n h,.slice A m c]).run P w=.ok (.slice A' (n+m) c') w'/\w'.ownsRow base e b (.slice A' (n+m) c') (n+m) (xs++j)/\w.grownBy w' (Value.slice d n h).ownBlock/\((Value.slice A' (n+m) c').ownBlock=(Value.slice d n h).ownBlock∨(Value.slice A' (n+m) c').ownBlock=some w.heap.size):=by
 by_cases U:m=0
 .subst U;have J:=FZ (zu s.1);subst J;exact⟨d,h,w,by simpa using mh w base t ty e i b E B _ n xs r A c,by simpa using r,World.grownBy.refl w _,.inl rfl⟩
 .obtain⟨L,rfl,Y⟩:=s.mW X
  have l:n+m<=maxLen:=by
   have:n+m<=(n+m)*bytes:=Hk _ F
   simp only[maxLen];omega
  obtain⟨Z,w',N,h2,R,_,J⟩:=run_append_own_at (P:=P) w base t ty e i z b bytes E B W q p C I _ n xs r L m c j s.1 Y O l y H;have T:∃A' c',Z=.slice A' (n+m) c':=Lc;obtain⟨A',c',rfl⟩:=T;exact⟨A',c',w',N,h2,R,J⟩
def oO{Q:Exit->Act->World->Prop}(s x:Operand)(t:TypeId)(ho:o.op=.call {callee:=.builtin .append,args:=#[s,x],argTypes:=#[t,t]})(base:Nat)(e:TypeId)(i:TypeInfo)(r:Value)(b bytes:Nat)(L:P.underlying t=some (.slice e))(I:P.info? e=some i)(O:i.zero=some r)(q:i.size=b)(p:i.bytes=bytes)(C:r.cells.size=b)(E:0<b)(z:0<bytes)(d:OA)(n g:Nat)(xs:List Value)(hs:a.eval s=.slice d n g)(F:w.ownsRow base e b (.slice d n g) n xs)(A:OA)(m c:Nat)(j:List Value)(hx:a.eval x=.slice A m c)(J:Sl w f b A m j)(H:∀u∈j,u.oneCell'=true)(y:(n+m)*bytes<=140737488355328)(B:base<=w.heap.size)(h:∀(A':OA) (c':Nat) (w':World),w'.ownsRow base e b (.slice A' (n+m) c') (n+m) (xs++j)->w.grownBy w' (Value.slice d n g).ownBlock->((Value.slice A' (n+m) c').ownBlock=(Value.slice d n g).ownBlock∨(Value.slice A' (n+m) c').ownBlock=some w.heap.size)->K (a.put o.dst (.slice A' (n+m) c')) w'):o.wp P a w K Q:=by
 obtain⟨A',c',w',N,h2,h3,aw⟩:=AA (P:=P) w base t o.type e i r b bytes L I O q p C E d g n xs F A m c j J H y z B;exact KC
def j7{ops:Array Oper}{rest:List Oper}{Q:Exit->Act->World->Prop}(L:o.guard=none){s x:Operand}{t:TypeId}(U:o.op=.call {callee:=.builtin .append,args:=#[s,x],argTypes:=#[t,t]})(base:Nat)(e:TypeId)(i:TypeInfo){r:Value}(b bytes:Nat)(Y:P.underlying t=some (.slice e))(T:P.info? e=some i)(hz:i.zero=some r)(q:i.size=b)(p:i.bytes=bytes)(C:r.cells.size=b)(F:0<b)(z:0<bytes)(d:OA)(n g:Nat)(xs:List Value)(X:a.eval s=.slice d n g)(H:w.ownsRow base e b (.slice d n g) n xs)(A:OA)(m c:Nat)(j:List Value)(Z:a.eval x=.slice A m c)(W:Sl w f b A m j)(J:∀u∈j,u.oneCell'=true)(y:(n+m)*bytes<=140737488355328)(E:base<=w.heap.size)(h:∀(A':OA) (c':Nat) (w':World),w'.ownsRow base e b (.slice A' (n+m) c') (n+m) (xs++j)->w.grownBy w' (Value.slice d n g).ownBlock->((Value.slice A' (n+m) c').ownBlock=(Value.slice d n g).ownBlock∨(Value.slice A' (n+m) c').ownBlock=some w.heap.size)->wpList P ops Q rest (a.put o.dst (.slice A' (n+m) c')) w'):wpList P ops Q (o::rest) a w:=
 wpList_plain L λ_ B=>oO s x t U base e i r b bytes Y T hz q p C F z d n g xs X H A m c j Z W J y E λA' c' w' O R I=>B _ _ (h A' c' w' O R I)
end
def zf(base:Nat)(o:Option Nat)(x:Nat):Prop:=base<=x/\o≠some x
def oK(o:Option Nat):List Nat:=match o with|some b=>[b]|none=>[]
def jK{o:Option Nat}:x∈oK o↔o=some x:=by
 cases o with
 |none=>simp[oK]
 |some b=>simp[oK,eq_comm]
def I.iW{o:Option Nat}(h:w.grownBy w' o):I (oK o) w w':=
 ⟨h.os,h.tape,h.output,h.size,λk c d=>h.block k c (λb=>d (jK.2 b.symm))⟩
def ns{d n:Nat}(h:w.ownsRow base e d v n xs)(q:I M w w')(u:∀x∈M,v.ownBlock≠some x):w'.ownsRow base e d v n xs:=by
 refine⟨h.1,?_⟩
 rcases h.2 with m|⟨b,s,j,rfl,p,c,g⟩
 .exact .inl m
 .refine .inr ⟨b,s,j,rfl,p,?_,g⟩;rw[q.block b (la c) (λr=>u b r rfl)];exact c
def kk{j n:Nat}(h:w.ownsRow base e j v n xs)(b:v.ownBlock=some x):base<=x/\x<w.heap.size:=by
 rcases h.2 with⟨rfl,_⟩|⟨c,p,m,rfl,d,g,_⟩
 .cases b
 .have:c=x:=by simpa[Value.ownBlock]using b
  subst this;exact⟨d,la g⟩
structure lH(V:List ByteArray)(base D N:Nat)(w:World)(A:OA)(c:Nat)(ts:List ST):Prop where
 own:w.ownsRow base 229 8 (.slice A ts.length c) ts.length (ts.flatMap ST.E)
 jt:∀t∈ts,jL (zf base (Value.slice A ts.length c).ownBlock) w t
 sg:lX V D N ts
def lH.iz{c:Nat}(h:lH V base D N w A c ts)(d:I M w w')(g:∀x∈M,x<base):lH V base D N w' A c ts:=
 ⟨ns h.own d (λx b j=>by have:=(kk h.own j).1;have:=g x b;omega),λt n=>(h.jt t n).ih d (λx b m=>by have:=g x b;have:=m.1;omega),h.sg⟩
def lH.nil(V:List ByteArray)(base D:Nat)(w:World):lH V base D 0 w none 0 []:=⟨iT _ _ _ _,(λ_ b=>by cases b),.nil _⟩
def lH.le{d c:Nat}(h:lH V base D N w A c ts)(b:d<=base):lH V d D N w A c ts:=
 ⟨ox h.own b,λt j=>(h.jt t j).imp λx g=>⟨G_ b g.1,g.2⟩,h.sg⟩
def lH.add{K c c':Nat}{A':OA}{us:List ST}(h:lH V base D N w A c ts)(m:w'.ownsRow base 229 8 (.slice A' (ts.length+us.length) c') (ts.length+us.length) (ts.flatMap ST.E++us.flatMap ST.E))(r:w.grownBy w' (Value.slice A ts.length c).ownBlock)(b:(Value.slice A' (ts.length+us.length) c').ownBlock=(Value.slice A ts.length c).ownBlock∨(Value.slice A' (ts.length+us.length) c').ownBlock=some w.heap.size)(y:∀u∈us,jL (zf base (Value.slice A ts.length c).ownBlock) w u)(n:lX V D K us):lH V base D (N+K) w' A' c' (ts++us):=by
 refine⟨?_,?_,h.sg.append n⟩
 .rw[J_,F8];exact m
 .intro t d
  have p:jL (zf base (Value.slice A ts.length c).ownBlock) w t:=by
   rcases X_.1 d with d|d
   .exact h.jt t d
   .exact y t d
  have q:=p.lt.ih (I.iW r) (λx g s=>s.1.2 (jK.1 g))
  refine q.imp λx g=>⟨g.1.1,?_⟩
  rw[J_]
  rcases b with b|b
  .rw[b];exact g.1.2
  .rw[b];intro j;injection j with j
   have:=g.2
   omega
def infoSt:(prog.info? 229).map (λi=>(i.zero,i.size,i.bytes))=some (some (.agg S_),8,128):=by kernel_rfl
def infoStr:(prog.info? 9).map (λi=>(i.zero,i.size,i.bytes))=some (some (e_),1,16):=by kernel_rfl
def kZ:∀u∈ts.flatMap ST.E,u.oneCell'=true:=by
 intro u b;obtain⟨t,_,b⟩:=G3.1 b;simp[ST.E]at b
 rcases b with rfl|rfl|rfl|rfl|rfl|rfl|rfl|rfl<;>rfl
def rc(t:ST)(h:Bk w x 229 t.g_):Sl w 229 8 (j_ x) 1 ([t].flatMap ST.E):=jj (n:=1) h rfl
def BN:∀k,k<2->∃s,s∈hU/\(#[.string {data:=#[112]},.string {data:=#[113]}]:Array Value)[k]?=some (.string s)
 |0,_=>⟨pa,by simp[hU],rfl⟩
 |1,_=>⟨m6,by simp[hU],rfl⟩
def px(B g m:Nat)(left loops fn:Int)(d:iQ w B g)(c:Bk w m 222 #[q_ g,Y left,Y loops,Y fn])(hBm:B<=m):
 Calls prog 218 #[q_ m] w λe w'=>∃t,e=.returned (.agg t.g_)/\kq (jD w.heap.size) w' t/\EG hU 1 t/\iQ w' B g/\I [g] w w':=by
 have bt:=d.xw;have cw:=c.lt
 go_enter func218,ntmps218
 go_upto_region 1 with fail
 have L:I [] w (w.alloc (.cells E_ 226)):=(H [] w).alloc _;replace d:=d.hF L;replace c:=c.hF L;have p:=P_ w 226 E_;have MZ:I [g] w (w.alloc (.cells E_ 226)):=(H [g] w).alloc _;clear L;obtain⟨bw,U⟩:=nm_ (w.alloc (.cells E_ 226));rw[<-U]at d c p MZ |-;clear U;obtain⟨R0,Z⟩:=nm_ w.heap.size;rw[<-Z]at p |-;have dw:w.heap.size<=R0:=X;have cY:g<R0:=X;have ad:B<=R0:=X;have c8:m<R0:=ov cw;clear Z;have y:∀ag∈[g,R0],ag<R0+1:=p_;have af:m≠g:=X;have aM:R0≠g:=X;have MV:=c.f_ 0
 go_upto_region 2 with(go_at_call 19;refine(iw B g 4 d X X).mono ?_;rintro e w1⟨k,rfl,cg,W,bK,F⟩)
 clear MV;replace c:=c.gr F p_;replace p:=p.gr F p_;replace MZ:=MZ.trans F;replace d:=bK;clear F
 rcases(by omega:(k=0)∨(k=1)∨(k=2∨k=3))with cg|W|bq
 .subst cg
  go_upto_region 3 with fail
  obtain⟨b,u⟩:=nm_ w1;rw[<-u]at d c p MZ |-;clear u;have z:Ex B g m R0 226 #[q_ g,Y left,Y loops,Y fn] E_ b b:=⟨d,c,p,H [g] b⟩;refine iP (Ex B g m R0 226 #[q_ g,Y left,Y loops,Y fn] E_ b) (λ_ ae=>∃t,Bk ae R0 226 t.g_/\kq (jD (R0+1)) ae t/\EG hU (1) t/\iQ ae B g/\I [g,R0] b ae) (I [g,R0]) [SU.val _ (q_ m),SU.tree y (1),SU.any _] (SU.any _) [[],[0],[1]] true [(some 10,0),(some 11,1),(none,2)] k_ k_ (λ_ _ _ _ _ h=>h) k_ rfl rfl k_ z ⟨?_,?_,?_,trivial⟩ ?_
  .exact Lb
  .refine hS [(some 10,0)] ?_;exact Ju
  .refine jv [(some 11,1)] ?_;exact Jz
  exact KK
 .subst W
  go_upto_region 5 with fail
  obtain⟨b,u⟩:=nm_ w1;rw[<-u]at d c p MZ |-;clear u;have z:Ex B g m R0 226 #[q_ g,Y left,Y loops,Y fn] E_ b b:=⟨d,c,p,H [g] b⟩;refine iP (Ex B g m R0 226 #[q_ g,Y left,Y loops,Y fn] E_ b) (λ_ ae=>∃t,Bk ae R0 226 t.g_/\kq (jD (R0+1)) ae t/\EG hU (1) t/\iQ ae B g/\I [g,R0] b ae) (I [g,R0]) [SU.val _ (q_ m),SU.val _ (q_ m),SU.val _ (q_ m),SU.val _ (q_ g),SU.num _ 0 2,SU.pure _ (λv=>v=.agg (jA pa).g_),SU.BH y 226 (jA pa).g_ 1,SU.tree y (0+1),SU.any _] (SU.any _) [[],[0],[1],[2],[3],[],[5],[4,6],[7]] true [(some 14,0),(some 15,1),(some 16,2),(some 17,3),(some 18,4),(some 19,5),(some 20,6),(some 21,7),(none,8)] k_ k_ (λ_ _ _ _ _ h=>h) k_ rfl rfl k_ z ⟨?_,?_,?_,?_,?_,?_,?_,?_,?_,trivial⟩ ?_
  .exact Lb
  .refine hS [(some 14,0)] ?_;exact KT
  .refine hS [(some 15,1)] ?_;exact KT
  .refine hS [(some 16,2)] ?_;exact JM
  .refine hS [(some 17,3)] ?_;exact JD
  .refine hS [] ?_;intro vs Q C M0 K MY;clear M0
   try simp only[b_]at MY |-
   go_simp
   go_at_call 145
   refine(ke pa).mono ?_;exact Ml
  .refine hS [(some 19,5)] ?_;intro vs Q C M0 K MY;obtain⟨o, -⟩:=M0;have o:vs 5=.agg (jA pa).g_:=o
   try simp only[b_,o]at MY |-
   simp only[jA,ET.ij]at MY |-;exact Lw
  .refine hS [(some 18,4),(some 20,6)] ?_;intro vs Q C M0 K MY;obtain⟨⟨R,o,cR,bT⟩,⟨T,aL,cI,bC⟩, -⟩:=M0
   try simp only[b_,o,aL]at MY |-
   go_simp;exact MY.out (.agg (pG R (j_ T) (jA pa)).g_) _ C (H _ _) ⟨pG R (j_ T) (jA pa),rfl,.mk _ (jj (n:=1) bC rfl) (H_ _) (λx off h _=>by injection h with h;injection h with h;omega) (by intro ah O;rcases M_.1 O with rfl|O;exact kq.leaf _ _ _ _ _ _;cases O),EG.field _ _ _ _ X X (by simp[hU])⟩
  .refine jv [(some 21,7)] ?_;exact Jz
  exact KK
 .rcases bq with rfl|rfl
  all_goals
   go_upto_region 6 with fail
   obtain⟨b,u⟩:=nm_ w1;rw[<-u]at d c p MZ |-;clear u;have z:Ex B g m R0 226 #[q_ g,Y left,Y loops,Y fn] E_ b b:=⟨d,c,p,H [g] b⟩;refine iP (Ex B g m R0 226 #[q_ g,Y left,Y loops,Y fn] E_ b) (λ_ ae=>∃t,Bk ae R0 226 t.g_/\kq (jD (R0+1)) ae t/\EG hU (1) t/\iQ ae B g/\I [g,R0] b ae) (I [g,R0]) [SU.BH y 9 #[.string {data:=#[112]},.string {data:=#[113]}] 2,SU.val _ (q_ m),SU.val _ (q_ m),SU.val _ (q_ m),SU.val _ (q_ g),SU.num _ 0 2,SU.elem y 9 #[.string {data:=#[112]},.string {data:=#[113]}] 2,SU.pure _ (λv=>∃s,s∈hU/\v=.string s),SU.tree y (0),SU.any _] (SU.any _) [[],[],[1],[2],[3],[4],[0,5],[6],[7],[8]] true [(some 22,0),(some 23,1),(some 24,2),(some 25,3),(some 26,4),(some 27,5),(some 28,6),(some 29,7),(some 30,8),(none,9)] k_ k_ (λ_ _ _ _ _ h=>h) k_ rfl rfl k_ z ⟨?_,?_,?_,?_,?_,?_,?_,?_,?_,?_,trivial⟩ ?_
   .exact Ki
   .exact Lb
   .refine hS [(some 23,1)] ?_;exact KT
   .refine hS [(some 24,2)] ?_;exact KT
   .refine hS [(some 25,3)] ?_;exact JM
   .refine hS [(some 26,4)] ?_;exact JD
   .refine hS [(some 22,0),(some 27,5)] ?_;exact JO
   .refine hS [(some 28,6)] ?_;exact J1
   .refine hS [(some 29,7)] ?_;intro vs Q C M0 K MY;obtain⟨⟨O,R,o⟩, -⟩:=M0
    try simp only[b_,o]at MY |-
    go_simp
    go_at_call 145
    refine(ke _).mono ?_;rintro e w1⟨rfl,hg1⟩;exact MY.out _ _ (C.hF hg1) (hg1.mono J) ⟨jA O,rfl,kq.leaf _ _ _ _ _ _,.var _ _ R⟩
   .refine jv [(some 30,8)] ?_;intro vs Q C M0 K MY;obtain⟨⟨ta,o,aq,E⟩, -⟩:=M0
    try simp only[b_,o]at MY |-
    refine iZ k_ ?_;refine ia 226 rfl R0 r_ ta.g_ r_ 226 C.r rfl k_ (ET.one _) ?_;intro ae aB G;exact MY.out undef _ (λ_=>⟨ta,aB,aq.ih G J,E.mono X,C.d.ih G p_,(C.g.mono J).trans (G.mono J)⟩)
   intro vs bu C;simp only[b_];obtain⟨t,aB,MX,ao,aX,G⟩:=C;go_wp2;exact rr_ t.g_ aB underlying226 ⟨t,rfl,MX.le X,ao,aX,MZ.hJ G p_⟩
def BG(B g m:Nat)(left loops fn:Int)(v:ByteArray)(hv:v∈hU)(hd:iQ w B g)(hm:Bk w m 222 #[q_ g,Y left,Y loops,Y fn])(hBm:B<=m):
 Calls prog 219 #[q_ m,.string v] w λe w'=>∃t,e=.returned (.agg t.g_)/\jL (jD w.heap.size) w' t/\SG hU 1 1 t/\iQ w' B g/\I [g] w w':=by
 have Z:=U hv;have bt:=hd.xw;have L:=hm.lt
 go_enter func219,ntmps219
 go_upto_region 1 with fail
 have c:I [] w (w.alloc (.cells S_ 229)):=(H [] w).alloc _;replace hd:=hd.hF c;replace hm:=hm.hF c;have hR:=P_ w 229 S_;have MZ:I [g] w (w.alloc (.cells S_ 229)):=(H [g] w).alloc _;clear c;obtain⟨F,p⟩:=nm_ (w.alloc (.cells S_ 229));rw[<-p]at hd hm hR MZ |-;clear p;obtain⟨R0,s⟩:=nm_ w.heap.size;rw[<-s]at hR |-;have dw:w.heap.size<=R0:=X;have cY:g<R0:=X;have R:B<=R0:=X;have c8:m<R0:=ov L;clear s;have am:∀O∈[g,R0],O<R0+1:=p_;have af:m≠g:=X;have aM:R0≠g:=X;have MV:=hm.f_ 0;have aP:=hm.f_ 3
 by_cases n:fn=0
 .have D:(fn==0)=true:=by simp[n]
  clear n
  go_wp2_with fail
  go_at_call 19
  refine(iw B g 2 hd X X).mono ?_;rintro e w1⟨k,rfl,cg,bZ,z,b⟩;replace hm:=hm.gr b p_;replace hR:=hR.gr b p_;replace MZ:=MZ.trans b;replace hd:=z;clear b;clear MV aP
  by_cases y:k=0
  .subst y
   go_upto_region 2 with fail
   obtain⟨W,aO⟩:=nm_ w1;rw[<-aO]at hd hm hR MZ |-;clear aO;have aW:Ex B g m R0 229 #[q_ g,Y left,Y loops,Y fn] S_ W W.drew:=⟨hd.hF (H [] W).drew,hm.hF (H [] W).drew,hR.hF (H [] W).drew,(H [g] W).drew⟩;refine ki (Ex B g m R0 229 #[q_ g,Y left,Y loops,Y fn] S_ W) (λ_ ae=>∃t,Bk ae R0 229 t.g_/\jL (jD (R0+1)) ae t/\SG hU 1 1 t/\iQ ae B g/\I [g,R0] W ae) (I [g,R0]) [SU.val _ (.string v),SU.val _ (q_ m),SU.tree am (1),SU.val _ (q_ m),SU.val _ (q_ m),SU.val _ (q_ m),SU.val _ (q_ g),SU.num _ 0 4,SU.tree am (0),SU.trees am 2 2,SU.stmt am (1) (1),SU.any _] (SU.any _) [[],[],[1],[],[3],[4],[5],[6],[7],[2,8],[0,9],[10]] true [(some 18,0),(some 19,1),(some 20,2),(some 21,3),(some 22,4),(some 23,5),(some 24,6),(some 25,7),(some 26,8),(some 27,9),(some 28,10),(none,11)] k_ k_ k_ (λ_ _ _ _ _ h=>h) k_ rfl rfl k_ aW ⟨?_,?_,?_,?_,?_,?_,?_,?_,?_,?_,?_,?_,trivial⟩ ?_
   .exact Lb
   .exact Lb
   .refine hS [(some 19,1)] ?_;exact Ju
   .exact Lb
   .refine hS [(some 21,3)] ?_;exact KT
   .refine hS [(some 22,4)] ?_;exact KT
   .refine hS [(some 23,5)] ?_;exact JM
   .refine hS [(some 24,6)] ?_;exact JD
   .refine hS [(some 25,7)] ?_;intro vs Q C M0 K MY;exact JJ
   .refine hS [(some 20,2),(some 26,8)] ?_;exact IQ
   .refine hS [(some 18,0),(some 27,9)] ?_;intro vs Q C M0 K MY;obtain⟨o,⟨aQ,aI,aL,nb,cI,bC,cU⟩, -⟩:=M0;replace o:_=_:=o
    try simp only[b_,o,aL]at MY |-
    go_simp;have aJ:aI.length=_:=nb
    have bn:Sl Q 226 5 (j_ aQ) aI.length (aI.flatMap ET.E):=by rw[aJ];exact bC
    have hcl:(lN 3 v pX 0 0 (j_ aQ) aI.length aI).g_=_:=rfl;simp only[ST.ij,lN,aJ]at hcl;refine MY.out _ _ C (H _ _) ⟨lN 3 v pX 0 0 (j_ aQ) aI.length aI,?_,jL.es _ _ _ _ _ bn cI (λu hu=>(cU u hu).1),SG.leaf (t:=lN 3 v pX 0 0 (j_ aQ) aI.length aI) (by show mY _ 3 v pX 0 0 aI.length _ _;rw[aJ];exact .wq _ hv) rfl rfl (λu hu=>(cU u hu).2)⟩
    show Value.agg _=Value.agg (lN 3 v pX 0 0 (j_ aQ) aI.length aI).g_
    exact MO
   .refine jv [(some 28,10)] ?_;exact Jy
   exact KJ
  .have T:(k==0)=false:=by simp[y]
   go_upto_region 3 with fail
   obtain⟨W,aO⟩:=nm_ w1;exact Io
 .have D:(fn==0)=false:=by simp[n]
  go_upto_region 3 with fail
  clear MV aP;obtain⟨W,aO⟩:=nm_ F;exact Io
