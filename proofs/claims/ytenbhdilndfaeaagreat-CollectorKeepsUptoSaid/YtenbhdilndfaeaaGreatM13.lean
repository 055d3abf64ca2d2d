import Derived.Test.YtenbhdilndfaeaaGreatM05
import Derived.Test.YtenbhdilndfaeaaGreatM12
set_option maxRecDepth 100000
set_option maxHeartbeats 0
set_option linter.all false
namespace Go.Proofs.YtenbhdilndfaeaaGreat
open Go.RowKit Go.Proofs.Tryz
variable{G:Nat->World->World->Prop}{a a' a0:Act}{f:Nat->Bool}{vs:Nat->Value}{D N base i x:Nat}{v:Value}{o:Oper}{w w':World}{listed:Array Bool}{kC:List (List Nat)}{kZ:Bool}{l:QZ}{K:Act->World->Prop}{t:ST}{C e tr:TypeId}{V:QU}{A:OA}{xs:QW}{M:QY}{ts:QV}(k:Int)(ty:TypeId)(S:World->Prop)
def IK{G:Prop} (h:G:=by
 rw[<-aH]at hd hm hR Nv |-;clear aH;have aV:Ex B g m R0 229 #[q_ g,Y left,Y loops,Y fn] S_ W W:=⟨hd,hm,hR,F_ [g] W⟩;refine iO (Ex B g m R0 229 #[q_ g,Y left,Y loops,Y fn] S_ W) (λ_ Nr=>∃t,Bk Nr R0 229 t.g_/\jL (jC (R0+1)) Nr t/\SG hV 1 1 t/\iN Nr B g/\J [g,R0] W Nr) (J [g,R0]) [SU.val _ (.string v),SU.val _ (q_ m),SU.tree aN (1),SU.trees aN 2 1,SU.stmt aN (1) (1),SU.any _] (SU.any _) [[],[],[1],[2],[0,3],[4]] true [(some 29,0),(some 30,1),(some 31,2),(some 32,3),(some 33,4),(none,5)] k_ k_ (λ_ _ _ _ _ h=>h) k_ rfl rfl k_ aV ⟨?_,?_,?_,?_,?_,?_,trivial⟩ ?_
 exact LA;exact LA;refine hS [(some 30,1)] ?_;exact JM;refine hS [(some 31,2)] ?_;exact Jn
 .refine hS [(some 29,0),(some 32,3)] ?_;intro vs V C Nw K Nu;obtain⟨o,⟨aP,tb,aq,nb,cK,bE,c7⟩, -⟩:=Nw;replace o:_=_:=o;try simp only[b_,o,aq]at Nu |-
  go_simp;have bF:tb.length=_:=nb;have bn:Sl V 226 5 (j_ aP) tb.length (tb.flatMap ET.E):=by rw[bF];exact bE
  have hcl:(lT 3 v pD 0 0 (j_ aP) tb.length tb).g_=_:=rfl;simp only[ST.ik,lT,bF]at hcl;refine Nu.out _ _ C (F_ _ _) ⟨lT 3 v pD 0 0 (j_ aP) tb.length tb,?_,jL.es _ _ _ _ _ bn cK (λu hu=>(c7 u hu).1),SG.leaf (t:=lT 3 v pD 0 0 (j_ aP) tb.length tb) (by show m_ _ 3 v pD 0 0 tb.length _ _;rw[bF];exact .wM _ hv) rfl rfl (λu hu=>(c7 u hu).2)⟩;show Value.agg _=Value.agg (lT 3 v pD 0 0 (j_ aP) tb.length tb).g_;exact Nl
 .refine ju [(some 33,4)] ?_;exact JP
 exact K6):G:=h
def IN{G:Prop} (h:G:=by
 go_upto_region 5 with fail;have l:=hR.lt;have M:=(hm.alloc (.cells mf 9)).f_ 0;have dE:=((hm.alloc (.cells mf 9)).alloc (.cells mf 9)).f_ 0
 go_region_law (first|(go_simp;go_at_call 177;refine(lY).mono ?_;rintro e L⟨rfl,rfl⟩;try(have b:=P_ w2 9 mf;have ak:=(b.f_ r.toNat).trans bG;replace hR:=hR.alloc (.cells mf 9);replace hd:=hd.hF ((F_ [] w2).alloc (.cells mf 9));replace Nv:=Nv.alloc (.cells mf 9)))|(go_simp;go_at_call 19;refine(ij B g 5 (hd.hF (by first|exact(((F_ [] w1).alloc _).alloc _).drew|exact((F_ [] w1).alloc _).drew)) X X).mono ?_;rintro e w2⟨r,rfl,bC,bJ,bZ,F⟩;obtain⟨s,hs,bG⟩:=xj r bC bJ;(first|(have q:=(((P_ w1 9 mf).alloc (.cells mf 9)).drew).gr F p_;have f:=((P_ (w1.alloc (.cells mf 9)) 9 mf).drew).gr F p_;have bp:=(q.f_ r.toNat).trans bG;have aD:=(f.f_ r.toNat).trans bG;simp at aD;replace hR:=(((hR.alloc (.cells mf 9)).alloc (.cells mf 9)).drew).gr F p_;replace Nv:=(((Nv.alloc (.cells mf 9)).alloc (.cells mf 9)).drew).trans F;replace hd:=bZ)|(replace hR:=((hR.alloc (.cells mf 9)).drew).gr F p_;replace Nv:=((Nv.alloc (.cells mf 9)).drew).trans F;replace hd:=bZ)))|(go_simp;go_at_call 145;refine(ki s).mono ?_;rintro e af⟨he,S⟩;replace he:e=.returned (.agg #[Y 3,Y 0,.string s,Y 0,n_]):=he;subst he;replace hR:=hR.hF S;replace hd:=hd.hF S;replace Nv:=Nv.trans (S.mono H);have bA:=hR.hG 0;have z0:=hR.f_ 0;have bL:=hR.hG 1;have aR:=hR.f_ 1;have cf:=hR.hG 2;have aZ:=hR.f_ 2;have dB:=hR.hG 3;have z3:=hR.f_ 3;have dU:=hR.hG 4;have z4:=hR.f_ 4))
 all_goals
  go_wp2;have aB:=(((((hR.hU 0 (Y 3)).hU 1 (Y 0)).hU 2 (.string s)).hU 3 (Y 0)).hU 4 (n_));have T:=((((((F_ [R0] af).setCell (p:=(Z R0 0)) (.inl H) (Y 3)).setCell (p:=(Z R0 1)) (.inl H) (Y 0)).setCell (p:=(Z R0 2)) (.inl H) (.string s)).setCell (p:=(Z R0 3)) (.inl H) (Y 0)).setCell (p:=(Z R0 4)) (.inl H) (n_));exact rr_ (jy s).g_ aB underlying226 ⟨jy s,rfl,kw.leaf _ _ _ _ _ _,EG.var _ _ hs,hd.ih T p_,(Nv.tq T dC)⟩):G:=h
def Jh{G:Prop} (h:G:=by
 go_upto_region 3 with fail;go_wp2_with (first|((go_at_call 19;refine(ij B g 9 hd X X).mono ?_;rintro e w2⟨r,rfl,bC,bJ,bZ,F⟩);have bD:IntKind.i64.wrap (r-2)=r-2:=Gm _ X)|(go_at_call 144;refine(kf (r-2)).mono ?_;rintro e af⟨rfl,S⟩;replace hR:=(hR.gr F p_).hF S;replace hd:=bZ.hF S;replace Nv:=(Nv.trans F).trans (S.mono H))|(refine kP (jx (r-2)).g_ hR (ET.one _) ?_;intro Nr aB T));exact rr_ (jx (r-2)).g_ aB underlying226 ⟨jx (r-2),rfl,kw.leaf _ _ _ _ _ _,EG.num _ _ X X,hd.ih T p_,(Nv.tq T dC)⟩):G:=h
def JQ{G:Prop} (h:G:=by
 intro vs V C Nw K Nu;obtain⟨⟨ta,o,ap,E⟩, -⟩:=Nw;try simp only[b_,o]at Nu |-
 refine iZ k_ ?_;refine ic 226 rfl R0 r_ ta.g_ r_ 226 C.r rfl k_ (ET.one _) ?_;exact Ly):G:=h
def KA{G:Prop} (h:G:=by
 intro vs V C Nw K Nu;obtain⟨o, -⟩:=Nw;replace o:_=_:=o;try simp only[b_,o]at Nu |-
 obtain⟨dh,a,bz,cV⟩:=id C;have U:=a.f_ 0;exact Nc):G:=h
def KD{G:Prop} (h:G:=by
 rw[<-hd,<-oT]at h1;refine wpOp_step (jI ho) λe Nu=>h1 e (λv w' n Nv b=>Nu _ _ ⟨v,rfl,?_⟩);have hz:l.toArray.size=l.length:=H;rw[hz,hl];exact⟨n,Nv,b⟩):G:=h
def KS{G:Prop} (h:G:=by
 rw[<-hd,<-oT]at h1;refine wpOp_step (jI ho) λe Nu=>h1 e (λv w' Nt=>Nu _ _ ⟨v,rfl,?_⟩);have hz:l.toArray.size=l.length:=H;rw[hz,hl];exact Nt):G:=h
def K7{G:Prop} (h:G:=by
 intro vs bw C;simp only[b_];obtain⟨t,aB,Nt,ar,aI,T⟩:=C;go_wp2;exact rr_ t.g_ aB underlying226 ⟨t,rfl,Nt.le X,ar,aI,Nv.hI T p_⟩):G:=h
section
variable{P:Program}{ops:Array Oper}{Q:Exit->Act->World->Prop}{md:Region.Mode}
def jQ(ops:Array Oper)(i:Nat):Option Tmp:=(ops[i]?).bind (·.dst)
def oU(ops:Array Oper)(vs:Nat->Value):List Nat->Act->Act
 |[],a=>a
 |i::l,a=>oU ops vs l (a.put (jQ ops i) (vs i))
structure sD(ops:Array Oper)(a0:Act)(f:Nat->Bool)(vs:Nat->Value)(a:Act):Prop where
 defers:a.defers=a0.defers
 size:a.tmps.size=a0.tmps.size
 put:∀i d,f i=true->jQ ops i=some d->d<a0.tmps.size->a.tmps[d]?=some (vs i)
 iy:∀d,(∀i,f i=true->jQ ops i≠some d)->a.tmps[d]?=a0.tmps[d]?
def sD.ext(h:sD ops a0 f vs a)(k:sD ops a0 f vs a'):a=a':=by
 have n:a.tmps=a'.tmps:=by
  apply Array.ext_getElem?;intro b;by_cases m:∃i,f i=true/\jQ ops i=some b;obtain⟨i,c,d⟩:=m;rcases Ga b a0.tmps.size with g|j
  rw[h.put i b c d g,k.put i b c d g];rw[F8 (by rw[h.size];exact j),F8 (by rw[k.size];exact j)];have g:∀i,f i=true->jQ ops i≠some b:=λi c d=>m ⟨i,c,d⟩;rw[h.iy b g,k.iy b g]
 have p:=h.defers.trans k.defers.symm;cases a;cases a'
 simp only at n p;rw[n,p]
def sD.refl(a0:Act)(vs:Nat->Value):sD ops a0 (λ_=>false) vs a0:=⟨rfl,rfl,λ_ _ b=>by(cases b),λ_ _=>rfl⟩
def sD.congr{g:Nat->Bool}{us:Nat->Value}(h:sD ops a0 f vs a)(j:∀b,f b=g b)(q:∀b,f b=true->vs b=us b):sD ops a0 g us a:=
 ⟨h.defers,h.size,λi d c n m=>by rw[h.put i d ((j i).trans c) n m,q i ((j i).trans c)],λd p=>h.iy d λi c=>p i ((j i).symm.trans c)⟩
def D1(ops:Array Oper):Prop:=∀i j d,jQ ops i=some d->jQ ops j=some d->i=j
def sD.add(h:sD ops a0 f vs a)(q:D1 ops)(i:Nat)(r:f i=false)(v:Value):
 sD ops a0 (λb=>b==i||f b) (λb=>if b=i then v else vs b) (a.put (jQ ops i) v):=by
 refine⟨?_,?_,?_,?_⟩;cases D:jQ ops i<;>exact h.defers
 cases D:jQ ops i
 .exact h.size
 simpa[Act.put]using h.size
 .intro b c n l p;by_cases g:b=i;subst g;rw[l];simp[Act.put,h.size,p];have k:=by simpa[g]using n
  have d:=h.put b c k l p;cases D:jQ ops i with
  |none=>simpa[Act.put,g]using d
  |some e=>
   have j:e≠c:=λm=>g (q b i c l (m▸D));simp only[Act.put,Hl j,g,if_false];exact d
 intro c g;have p:=g i H;have d:=h.iy c (λb n=>g b (by simp[n]));cases D:jQ ops i with
 |none=>exact d
 |some e=>
  have j:e≠c:=λm=>p (m▸D);simp only[Act.put,Hl j];exact d
def sD.oU{a0:Act}{vs:Nat->Value}(c:D1 ops):∀(l:QY) (a:Act) (f:Nat->Bool),sD ops a0 f vs a->(∀b∈l,f b=false)->l.Nodup->sD ops a0 (λb=>l.contains b||f b) vs (oU ops vs l a)
 |[],a,f,h,_,_=>h.congr (λb=>by simp) (λ_ _=>rfl)
 |i::l,a,f,h,d,j=>by
  have n:=h.add c i (d i H) (vs i);have p:=sD.oU c l _ _ (n.congr (λ_=>rfl) (λb _=>show(if b=i then vs i else vs b)=vs b by(split<;>simp_all))) (λb g=>by
   have m:b≠i:=λe=>(H4.1 j).1 (e▸g);simp[m,d b (Gj _ g)]) (H4.1 j).2
  refine p.congr (λb=>?_) (λ_ _=>rfl);simp only[List.contains_cons,Bool.or_assoc,Bool.or_left_comm]
def A0{x:Option Tmp}{u:Value}(h:a'.put x u=a'.put x v)(m:a.tmps.size=a'.tmps.size):a.put x u=a.put x v:=by
 cases x with
 |none=>rfl
 |some c=>
  have b:=Z_ (λg:Act=>g.tmps[c]?) h;simp only[Act.put]at b;rcases Ga c a'.tmps.size with d|j
  simp[d]at b;rw[b];simp only[Act.put];congr 1;rw[Array.setIfInBounds,Array.setIfInBounds,dif_neg X,dif_neg X]
def rS(b:Act)(x:Option Tmp)(v:Value):(b.put x v).defers=b.defers:=by cases x<;>rfl
def vO{R:Value->World->Prop}(F:ops[i]?=some o)(I:∀cs b,o.op≠ .select cs b)(q:∀d∈o.looksAt ops,a.tmps[d]?=a'.tmps[d]?)(u:a.tmps.size=a'.tmps.size)(r:a.defers=a'.defers)(y:∀c t t' d w,Q (.panic c) ⟨t,d⟩ w->Q (.panic c) ⟨t',d⟩ w)(h:wpOp P ops Q i (λb w'=>∃v,b=a'.put o.dst v/\R v w') a' w):wpOp P ops Q i (λb w'=>∃v,b=a.put o.dst v/\R v w') a w:=by
 have j:execOp a.eval o=execOp a'.eval o:=execOp_congr o I λx J=>by
  cases x with
  |tmp t=>
   have:=q t (Gn _ (IJ.2 ⟨.tmp t,by simpa using J,rfl⟩));simp only[Act.eval,F9,this]
  |_=>rfl
 have s:Region.wanted o (yielded ops a.tmps)=Region.wanted o (yielded ops a'.tmps):=by
  unfold Region.wanted;cases E:o.guard with
  |none=>rfl
  |some z=>
   obtain⟨n,O⟩:=z;have L:yielded ops a.tmps n=yielded ops a'.tmps n:=by
    unfold yielded;cases B:(ops[n]?).bind (·.dst)with
    |none=>rfl
    |some t=>
     have:=q t (by simp[Oper.looksAt,E,B]);simp only[Option.bind_some,this]
   simp only[L]
 have k:∀c w',Q (.panic c) a' w'->Q (.panic c) a w':=by
  cases a;cases a'
  simp only at r;subst r;exact λc w' h=>y c _ _ _ _ h
 have m:∀g w',(∃v,a'.put o.dst g=a'.put o.dst v/\R v w')->∃v,a.put o.dst g=a.put o.dst v/\R v w':=λg w'⟨v,p,H⟩=>⟨v,A0 p u,H⟩;unfold wpOp at*;simp only[F]at*;rw[s];split
 .rename_i A;simp only[A,if_true]at h;rcases h with h|⟨l,L⟩
  case inr=>exact .inr ⟨by unfold Oper.asks at*;rw[j];exact l,L⟩
  refine .inl ?_;unfold Oper.wp at*;rw[j];generalize (execOp a'.eval o).run P w=T at*
  cases T with
  |ok O w'=>
   cases O<;>simp only[Oper.upon]at h |-
   case value g=>exact m g _ h
   case skip=>exact m _ _ h
   case defer d=>
    obtain⟨v,p,_⟩:=h;have n:=Z_ Act.defers p;rw[rS,rS]at n;have B:=Z_ List.length n;simp at B
   case enter f z=>
    refine Calls.mono h λe U j=>?_;cases e with
    |returned g=>exact m g _ j
    |panicked c=>exact k _ _ j
    |outgrown=>exact j
   case row row z=>exact Rows.mono h λg U j=>m g _ j
  |halt x w'=>
   cases x<;>simp only[Oper.upon]at h |-
   case panic g=>exact k _ _ h
 rename_i A;simp only[A]at h;exact m _ _ h
structure SU(G:Nat->World->World->Prop) where
 U:(Nat->Value)->Value->World->Prop
 ex:List Nat
 st:∀i,i∉ex->∀vs v w w',G i w w'->U vs v w->U vs v w'
 dp:List Nat
 loc:∀vs us v w,(∀j∈dp,vs j=us j)->U vs v w->U us v w
def SU.of{G:World->World->Prop}(U:Value->World->Prop)(st:∀v w w',G w w'->U v w->U v w'):SU (λ_=>G):=⟨λ_ v w=>U v w,[],λ_ _ _ v w w' hg h=>st v w w' hg h,[],λ_ _ _ _ _ h=>h⟩
def SU.zV{G:Nat->World->World->Prop}(ex:QY)(U:Value->World->Prop)(st:∀i,i∉ex->∀v w w',G i w w'->U v w->U v w'):SU G:=⟨λ_ v w=>U v w,ex,λi hi _ v w w' hg h=>st i hi v w w' hg h,[],λ_ _ _ _ _ h=>h⟩
def SU.vG{G:World->World->Prop}{Nw:Nat->World->World->Prop}(s:SU (λ_=>G))(h:∀i a b,Nw i a b->G a b):SU Nw:=⟨s.U,s.ex,λi hi vs v w w' hg hu=>s.st i hi vs v w w' (h i _ _ hg) hu,s.dp,s.loc⟩
def nk{G:Nat->World->World->Prop}(p:Nat->SU G)(vs:Nat->Value)(w:World):List Nat->Prop
 |[]=>True
 |j::l=>(p j).U vs (vs j) w/\nk p vs w l
def nk.of{G:Nat->World->World->Prop}{p:Nat->SU G}{vs:Nat->Value}{w:World}:∀{l:QY},(∀b∈l,(p b).U vs (vs b) w)->nk p vs w l
 |[],_=>trivial
 |_::_,h=>⟨h _ H,nk.of λb c=>h b (by simp[c])⟩
def yd{listed:Array Bool}(h:listed.getD i true=false):((listed.setIfInBounds i true).toList.filter (!·)).length+1<=(listed.toList.filter (!·)).length:=by
 have c:i<listed.size:=by
  rcases Ga i listed.size with o|o
  exact o;rw[F9,F8 o]at h;cases h
 have b:listed.toList[i]?=some false:=by
  rw[F9,Gb c]at h;simp at h;simp[c,h]
 rw[Ii];generalize listed.toList=l at b;clear h c listed;induction l generalizing i with
 |nil=>simp at b
 |cons x l d=>
  cases i with
  |zero=>
   simp at b;subst b;simp
  |succ i=>
   have:=d (i:=i) (zu b);cases x<;>simp only[Hh,Hr]<;>simp<;>simpa using this
structure DY(md:Region.Mode)(ops:Array Oper)(kC:Nat->List Nat)(kZ:Bool):Prop where
 Fy:Region.noSelect ops=true
 zI:D1 ops
 back:∀i o,ops[i]?=some o->∀e∈o.after,Region.binds md e=true->e.on<i
 Fz:∀i,i<ops.size->(kC i).Nodup
 pre:∀i,i<ops.size->∀j∈kC i,lu md ops 16 i j=true
 look:∀i o,ops[i]?=some o->∀k d,jQ ops k=some d->d∈o.looksAt ops->k∈kC i∨lu md ops 16 k i=true
 some:kZ=true->0<ops.size
 last:kZ=true->∀j,j+1<ops.size->lu md ops 16 (ops.size-1) j=true
def BR(d:∀i o,ops[i]?=some o->∀e∈o.after,Region.binds md e=true->e.on<i)(h:Region.ready md ops listed=[])(p:listed.size=ops.size):∀i,i<ops.size->listed.getD i false=true:=by
 intro i;induction i using Nat.strongRecOn with
 |ind i m=>
  intro b;cases j:listed.getD i false with
  |true=>rfl
  |false=>
   exfalso;have n:listed.getD i true=false:=by
    rw[F9,Gb X]at j |-
    simpa using j
   have:i∈Region.ready md ops listed:=mem_ready.2 ⟨n,ops[i],Gb b,λe g c=>m e.on (d i _ (Gb b) e g c) (ov (d i _ (Gb b) e g c))⟩;rw[h]at this;cases this
def yG(b:Bool)(A B:Prop):Prop:=match b with|true=>A|false=>B
def sn(vs:Nat->Value)(i:Nat)(u:Value)(j:Nat):Value:=if j=i then u else vs j
def Ag{S:(Nat->Bool)->(Nat->Value)->World->Prop}{T:(Nat->Value)->World->Prop}{p:Nat->SU G}{kC:Nat->List Nat}(hc:DY md ops kC kZ)(ah:∀c t t' d w,Q (.panic c) ⟨t,d⟩ w->Q (.panic c) ⟨t',d⟩ w)(x:∀i,∀h∈(p i).dp,h∈kC i)(ad:∀h,h<ops.size->∀i∈(p h).ex,i=h∨lu md ops 16 h i=true)(L:∀i o,ops[i]?=some o->∀f vs w,f i=false->(∀h∈kC i,f h=true)->S f vs w->nk p vs w (kC i)->wpOp P ops Q i (λb w'=>∃v,b=(oU ops vs (kC i) a0).put o.dst v/\yG (kZ&&i+1==ops.size) (∀u,T (sn vs i u) w') (S (λh=>h==i||f h) (sn vs i v) w'/\G i w w'/\(p i).U vs v w')) (oU ops vs (kC i) a0) w)(y:∀f vs w,(∀h,h<ops.size->f h=true)->yG kZ (T vs w) (S f vs w/\nk p vs w (List.range ops.size))->Q .normal (oU ops vs (List.range ops.size) a0) w):
 ∀(fuel:Nat) (listed:Array Bool) (vs:Nat->Value) (a:Act) (w:World),r0 md ops listed->listed.size=ops.size->(listed.toList.filter (!·)).length<=fuel->
  sD ops a0 (λh=>listed.getD h false) vs a->((kZ=true/\(∀h,h<ops.size->listed.getD h false=true)/\T vs w)∨(¬(kZ=true/\∀h,h<ops.size->listed.getD h false=true)/\S (λh=>listed.getD h false) vs w/\∀h,listed.getD h false=true->(p h).U vs (vs h) w))->wpAny P md ops Q fuel listed a w:=by
 have fin:∀(listed:Array Bool) (vs:Nat->Value) (a:Act) (w:World),listed.size=ops.size->sD ops a0 (λh=>listed.getD h false) vs a->((kZ=true/\(∀h,h<ops.size->listed.getD h false=true)/\T vs w)∨(¬(kZ=true/\∀h,h<ops.size->listed.getD h false=true)/\S (λh=>listed.getD h false) vs w/\∀h,listed.getD h false=true->(p h).U vs (vs h) w))->
  Region.ready md ops listed=[]->Q .normal a w:=by
  intro listed vs a w W z C J;have A:=BR hc.back J W;have h1:=(sD.refl (ops:=ops) a0 vs).oU hc.zI (List.range ops.size) a0 _ (λ_ _=>rfl) List.nodup_range;have h2:=z.congr (g:=λh=>(List.range ops.size).contains h||false) (us:=vs) (λh=>by
   rcases Ga h ops.size with r|r
   rw[A h r];simp[r];rw[F9,F8 X];simp;omega) (λ_ _=>rfl)
  rw[h2.ext h1];exact y _ vs w A (by
   rcases C with⟨E,_,Nt⟩|⟨E,C,Nw⟩
   rw[E];exact Nt;cases ae:kZ with
   |true=>exact Gc ⟨ae,A⟩ E
   |false=>exact⟨C,nk.of λh r=>Nw h (A h (GI.1 r))⟩)
 intro fuel;induction fuel with
 |zero=>
  intro listed vs a w s W O z C;have J:Region.ready md ops listed=[]:=by
   cases J:Region.ready md ops listed with
   |nil=>rfl
   |cons i j=>
    have hi:i∈Region.ready md ops listed:=by rw[J];simp
    have:=yd (mem_ready.1 hi).1;omega
  exact⟨J,fin listed vs a w W z C J⟩
 |succ fuel Np=>
  intro listed vs a w s W O z C;refine⟨λJ=>fin listed vs a w W z C J,λi hi=>?_⟩;obtain⟨V,o,I,N⟩:=mem_ready.1 hi;have q:=nL hi;have M:=(GN.1 I).1;obtain⟨bF,Nw⟩:S (λh=>listed.getD h false) vs w/\∀h,listed.getD h false=true->(p h).U vs (vs h) w:=by
   rcases C with⟨_,C,_⟩|C
   rw[C i M]at q;cases q
   exact C.2
  have bZ:=λh r=>kJ s 16 i (hc.pre i M h r) (λH l e n m=>by rw[I]at l;injection l with l;subst l;exact N e n m);have h1:=L i o I _ vs w q bZ bF (nk.of λh r=>Nw h (bZ h r));have hP:=(sD.refl (ops:=ops) a0 vs).oU hc.zI (kC i) a0 _ (λ_ _=>rfl) (hc.Fz i M);have aS:=z.size.trans hP.size.symm;have b5:∀d∈o.looksAt ops,a.tmps[d]?=(oU ops vs (kC i) a0).tmps[d]?:=by
   intro d hd;by_cases R:∃k,listed.getD k false=true/\jQ ops k=some d;obtain⟨k,B,Z⟩:=R;have bo:k∈kC i:=by
    rcases hc.look i o I k d Z hd with j|j
    exact j;have:=kJ s 16 k j (λH l e n m=>s _ H l B e n m);rw[this]at q;cases q
   rcases Ga d a0.tmps.size with ag|bK
   rw[z.put k d B Z ag,hP.put k d (by simp[bo]) Z ag];rw[F8 (by rw[z.size];exact bK),F8 (by rw[hP.size];exact bK)];have O:∀k,listed.getD k false=true->jQ ops k≠some d:=λk B Z=>R ⟨k,B,Z⟩;rw[z.iy d O,hP.iy d (λk bo=>O k (bZ k (zu bo)))]
  have h2:=vO I (λcs b=>Region.noSelect_spec hc.Fy i o cs b I) b5 aS (z.defers.trans hP.defers.symm) ah h1;refine wpOp_mono (λb w' m=>?_) h2;obtain⟨v,rfl,Y⟩:=m;have D:o.dst=jQ ops i:=by unfold jQ;rw[I];rfl
  have Nu:=z.add hc.zI i q v;rw[<-D]at Nu;have d1:∀h,(listed.setIfInBounds i true).getD h false=(h==i||listed.getD h false):=by
   intro h;by_cases F:h=i;subst F;rw[F9,M_,U_ rfl,U_ X];simp;rw[F9,M_,T_ (Ne.symm F)];simp[F]
  refine Np (listed.setIfInBounds i true) (λh=>if h=i then v else vs h) _ w' (s.set hi) (zu W) (ov (yd V)) (Nu.congr (λh=>(d1 h).symm) (λ_ _=>rfl)) ?_;by_cases cN:kZ=true/\i+1=ops.size;obtain⟨E,af⟩:=cN;rw[E,af]at Y;refine .inl ⟨E,λh r=>?_,?_⟩
  .rw[d1];by_cases F:h=i;simp[F];have h3:=hc.last E h X;have n:ops.size-1=i:=X;rw[n]at h3;rw[kJ s 16 i h3 (λH l e n m=>by rw[I]at l;injection l with l;subst l;exact N e n m)];simp
  have am:=by simpa[yG]using Y
  exact am v;have m:(kZ&&i+1==ops.size)=false:=by
   cases ae:kZ with
   |false=>rfl
   |true=>simp;exact λj=>cN ⟨ae,j⟩
  rw[m]at Y;obtain⟨Y,Nv,K⟩:=Y;refine .inr ⟨λ⟨E,c6⟩=>?_,by(have n:=funext d1);rw[n];exact Y,?_⟩;have O:=c6 (ops.size-1) X;rw[d1]at O;have ax:ops.size-1≠i:=λj=>cN ⟨E,X⟩;have ai:listed.getD (ops.size-1) false=true:=by simpa[ax]using O
  have h3:=hc.last E i X;have:=kJ s 16 (ops.size-1) h3 (λH l e n m=>s _ H l ai e n m);rw[this]at q;cases q
  intro h r;rw[d1]at r;by_cases F:h=i;subst F;simp only[if_true];refine(p h).loc vs _ _ _ (λk R=>?_) K;have B:=bZ k (x h k R);have ax:k≠h:=λj=>by rw[j,q]at B;cases B
  simp[ax];have bC:listed.getD h false=true:=by simpa[F]using r
  simp only[F,if_false];have aj:h<ops.size:=by
   rcases Ga h ops.size with j|j
   exact j;rw[F9,F8 X]at bC;cases bC
  have af:i∉(p h).ex:=λhm=>by
   rcases ad h aj i hm with j|j
   exact F j.symm;have:=kJ s 16 h j (λH l e n m=>s _ H l bC e n m);rw[this]at q;cases q
  refine(p h).loc vs _ _ _ (λk R=>?_) ((p h).st i af _ _ _ _ Nv (Nw h bC));have B:=kJ s 16 h (hc.pre h aj k (x h k R)) (λH l e n m=>s _ H l bC e n m);have ax:k≠i:=λj=>by rw[j,q]at B;cases B
  simp[ax]
def ng(md:Region.Mode)(ops:Array Oper)(i j:Nat):Bool:=(((ops[i]?).map λo=>o.after.any λe=>Region.binds md e&&e.on==j).getD false)||lu md ops 16 i j
def pU{d:Nat}(h:ng md ops i d=true):lu md ops 16 i d=true:=by
 unfold ng at h;simp only[H7]at h;rcases h with h|h
 .unfold lu;cases c:ops[i]? with
  |none=>rw[c]at h;cases h
  |some o=>
   rw[c]at h;simp only[Iu,Hc]at h;obtain⟨j,g,b⟩:=Il.1 h;simp only[Gq]at b;exact Il.2 ⟨j,g,by simp only[b.1,b.2,Iy,Bool.and_true]⟩
 exact h
def C6(md:Region.Mode)(ops:Array Oper)(kC:List (List Nat))(kZ:Bool):Bool:=
 Region.noSelect ops&&
 ((List.range ops.size).all λi=>(List.range ops.size).all λj=>i==j||(jQ ops i).isNone||jQ ops i !=jQ ops j)&&
 ((List.range ops.size).all λi=>((ops[i]?).map λo=>o.after.all λe=> !Region.binds md e||decide (e.on<i)).getD true)&&
 ((List.range ops.size).all λi=>decide ((kC.getD i []).Nodup)&&(kC.getD i []).all λj=>ng md ops i j)&&
 ((List.range ops.size).all λi=>(List.range ops.size).all λk=>(kC.getD i []).contains k||((ops[i]?).map λo=>match jQ ops k with|none=>true|some d=> !(o.looksAt ops).contains d).getD true||ng md ops k i)&&
 ((!kZ||decide (0<ops.size))&&(!kZ||(List.range (ops.size-1)).all λj=>ng md ops (ops.size-1) j))
def xX{d:Tmp}(h:jQ ops i=some d):i<ops.size:=by
 rcases Ga i ops.size with o|o
 exact o;unfold jQ at h;rw[F8 o]at h;cases h
def xz(h:C6 md ops kC kZ=true):DY md ops (λi=>kC.getD i []) kZ:=by
 unfold C6 at h;simp only[Gq]at h;obtain⟨⟨⟨⟨⟨y,z⟩,B⟩,n⟩,s⟩,p,j⟩:=h;refine⟨y,?_,?_,?_,?_,?_,?_,?_⟩;intro i g u b c;have:=Gy.1 (Gy.1 z i (GI.2 (xX b))) g (GI.2 (xX c));rw[b,c]at this;exact No;intro i o d e E r;have:=Gy.1 B i (GI.2 (GN.1 d).1);rw[d]at this;simp only[Iu,Hc]at this;have:=(Ia.1 this) e E;rw[r]at this;exact No;intro i b;have:=Gy.1 n i (GI.2 b);simp only[Gq,He]at this;exact this.1;intro i b g c;have:=Gy.1 n i (GI.2 b);simp only[Gq]at this;exact pU (Gy.1 this.2 g c);intro i o d k u r E;have:=Gy.1 (Gy.1 s i (GI.2 (GN.1 d).1)) k (GI.2 (xX r));rw[d,r]at this;simp only[Iu,Hc,H7,Bool.not_eq_true']at this;rcases this with(h|h)|h
 exact .inl (zu h);rw[List.contains_iff_mem.2 E]at h;cases h
 exact .inr (pU h);intro m;rw[m]at p;simpa using p;intro m g c;rw[m]at j;simp only[Bool.not_true,H8]at j;exact pU (Gy.1 j g (GI.2 X))
def se(P:Program)(ops:Array Oper)(Q:Exit->Act->World->Prop)(a0:Act)(S:(Nat->Bool)->(Nat->Value)->World->Prop)(T:(Nat->Value)->World->Prop){G:Nat->World->World->Prop}(p:Nat->SU G)(kC:List (List Nat))(kZ:Bool)(i:Nat):Prop:=
 ∀o,ops[i]?=some o->∀f vs w,f i=false->(∀j∈kC.getD i [],f j=true)->S f vs w->nk p vs w (kC.getD i [])->wpOp P ops Q i (λb w'=>∃v,b=(oU ops vs (kC.getD i []) a0).put o.dst v/\yG (kZ&&i+1==ops.size) (∀u,T (sn vs i u) w') (S (λj=>j==i||f j) (sn vs i v) w'/\G i w w'/\(p i).U vs v w')) (oU ops vs (kC.getD i []) a0) w
def sh(p:Nat->Prop)(k:Nat):Nat->Prop
 |0=>True
 |n+1=>p k/\sh p (k+1) n
def sh.get{p:Nat->Prop}:∀(n k:Nat),sh p k n->∀i,k<=i->i<k+n->p i
 |0,_,_,_,b,c=>by omega
 |n+1,k,h,i,b,c=>by
  rcases Nat.eq_or_lt_of_le b with rfl|h3
  exact h.1;exact sh.get n (k+1) h.2 i h3 X
def Db{p:List (SU G)}{b:SU G}{n:Nat}(h:((List.range n).all λi=>(p.getD i b).dp.all λc=>(kC.getD i []).contains c)=true)(g:b.dp=[])(m:p.length=n):∀i,∀c∈(p.getD i b).dp,c∈kC.getD i []:=by
 intro i c d;rcases Ga i n with j|j
 have:=Gy.1 (Gy.1 h i (GI.2 j)) c d;exact No;rw[List.getD_eq_getElem?_getD,Gk X,Ie,g]at d;cases d
def Da{p:List (SU G)}{b:SU G}(h:((List.range ops.size).all λc=>(p.getD c b).ex.all λi=>i==c||ng md ops c i)=true):∀c,c<ops.size->∀i∈(p.getD c b).ex,i=c∨lu md ops 16 c i=true:=λc g i d=>by
 have:=Gy.1 (Gy.1 h c (GI.2 g)) i d;simp only[H7,beq_iff_eq]at this;exact this.imp id pU
def lw(vs:Nat->Value):List (Option Tmp × Nat)->Act->Act
 |[],a=>a
 |p::l,a=>lw vs l (a.put p.1 (vs p.2))
def b_:(∀ (vs:Nat->Value) (d:Option Tmp) (c:Nat) (ds:List (Option Tmp × Nat)) (a:Act),lw vs ((d,c)::ds) a=lw vs ds (a.put d (vs c))) /\ (∀ (vs:Nat->Value) (a:Act),lw vs [] a=a) /\ (∀ (a:Act) (i:Tmp) (v:Value),a.put (some i) v=⟨a.tmps.setIfInBounds i v,a.defers⟩) /\ (∀ (a:Act) (v:Value),a.put none v=a) /\
 (∀ {b:Type} (l:List b) (i:Nat) (a:b),l.toArray.setIfInBounds i a=(l.set i a).toArray) /\ (∀ {b:Type} (x y:b) (l:List b),(x::l).set 0 y=y::l) /\ (∀ {b:Type} (x y:b) (l:List b) (i:Nat),(x::l).set (i+1) y=x::l.set i y):=by
 refine⟨λ_ _ _ _ _=>?_,λ_ _=>rfl,λ_ _ _=>rfl,λ_ _=>rfl,λ_ _ _=>by simp,λ_ _ _=>rfl,λ_ _ _ _=>rfl⟩;rfl
def oT(ops:Array Oper)(vs:Nat->Value):∀(l:QY) (a:Act),oU ops vs l a=lw vs (l.map λi=>(jQ ops i,i)) a
 |[],_=>rfl
 |_::l,_=>oT ops vs l _
def oi(S:(Nat->Bool)->(Nat->Value)->World->Prop)(T:(Nat->Value)->World->Prop)(G:Nat->World->World->Prop)(p:List (SU G))(b:SU G)(kC:List (List Nat))(kZ:Bool)(dA:List (Option Tmp × Nat)){id:Nat}(F:P.follows .mixedOrders=true)(hc:C6 .any l.toArray kC kZ=true)(z:((List.range l.length).map λi=>(jQ l.toArray i,i))=dA)(r:∀c t t' d w,Q (.panic c) ⟨t,d⟩ w->Q (.panic c) ⟨t',d⟩ w)(x:((List.range l.length).all λi=>(p.getD i b).dp.all λh=>(kC.getD i []).contains h)=true)(g:b.dp=[])(e:p.length=l.length)(J:((List.range l.toArray.size).all λh=>(p.getD h b).ex.all λi=>i==h||ng .any l.toArray h i)=true)(C:∀vs,S (λ_=>false) vs w.drew)(L:sh (se P l.toArray Q a S T (λi=>p.getD i b) kC kZ) 0 l.length)(y:∀f vs w',(∀h,h<l.length->f h=true)->yG kZ (T vs w') (S f vs w'/\nk (λi=>p.getD i b) vs w' (List.range l.length))->Q .normal (lw vs dA a) w'):(Code.region id l.toArray true).wp P Q a w:=by
 refine wp_region_any F ?_;have I:l.toArray.size=l.length:=H;refine Ag (xz hc) r (Db x g e) (Da J) (λi o n=>sh.get _ _ L i (L_ _) (ov ((GN.1 n).1)) o n) (by rw[I];intro f vs w' E u;rw[oT,z];exact y f vs w' E u) _ _ (λ_=>undef) a _ ?_ H ?_ ?_ (.inr ⟨?_,by(have B:(λh=>(Array.replicate l.toArray.size false).getD h false)=(λ_=>false):=by(funext h;rw[F9,HP];split<;>rfl));rw[B];exact C _,?_⟩);intro k ok s j;exfalso;have m:=(GN.1 s).1;rw[F9,HP,U_ m]at j;cases j
 refine G_ (GC _ _) ?_;simp;refine(sD.refl a _).congr (λh=>?_) (λ_ _=>rfl);rw[F9,HP];split<;>rfl;rintro⟨j,s⟩;have m:=(xz hc).some j;have:=s 0 m;rw[F9,HP,U_ m]at this;cases this
 intro h m;rw[F9,HP]at m;split at m<;>cases m
def ol(S:(Nat->Bool)->World->Prop)(T:(Nat->Value)->World->Prop)(G:Nat->World->World->Prop)(p:List (SU G))(b:SU G)(kC:List (List Nat))(kZ:Bool)(dA:List (Option Tmp × Nat)){id:Nat}(n:P.follows .mixedOrders=true)(hc:C6 .any l.toArray kC kZ=true)(m:((List.range l.length).map λi=>(jQ l.toArray i,i))=dA)(j:∀c t t' d w,Q (.panic c) ⟨t,d⟩ w->Q (.panic c) ⟨t',d⟩ w)(x:((List.range l.length).all λi=>(p.getD i b).dp.all λh=>(kC.getD i []).contains h)=true)(g:b.dp=[])(e:p.length=l.length)(q:((List.range l.toArray.size).all λh=>(p.getD h b).ex.all λi=>i==h||ng .any l.toArray h i)=true)(C:S (λ_=>false) w.drew)(L:sh (se P l.toArray Q a (λf _=>S f) T (λi=>p.getD i b) kC kZ) 0 l.length)(y:∀f vs w',(∀h,h<l.length->f h=true)->yG kZ (T vs w') (S f w'/\nk (λi=>p.getD i b) vs w' (List.range l.length))->Q .normal (lw vs dA a) w'):(Code.region id l.toArray true).wp P Q a w:=
 oi (λf _=>S f) T G p b kC kZ dA n hc m j x g e q (λ_=>C) L y
def kq(T:(Nat->Value)->World->Prop)(G:World->World->Prop)(p:List (SU (λ_=>G)))(b:SU (λ_=>G))(kC:List (List Nat))(kZ:Bool)(dA:List (Option Tmp × Nat)){id:Nat}(q:P.follows .mixedOrders=true)(hc:C6 .any l.toArray kC kZ=true)(n:((List.range l.length).map λi=>(jQ l.toArray i,i))=dA)(j:∀c t t' d w,Q (.panic c) ⟨t,d⟩ w->Q (.panic c) ⟨t',d⟩ w)(x:((List.range l.length).all λi=>(p.getD i b).dp.all λh=>(kC.getD i []).contains h)=true)(g:b.dp=[])(e:p.length=l.length)(r:((List.range l.toArray.size).all λh=>(p.getD h b).ex.all λi=>i==h||ng .any l.toArray h i)=true)(C:S w.drew)(L:sh (se P l.toArray Q a (λ_ _=>S) T (λi=>p.getD i b) kC kZ) 0 l.length)(y:∀vs w',yG kZ (T vs w') (S w'/\nk (λi=>p.getD i b) vs w' (List.range l.length))->Q .normal (lw vs dA a) w'):(Code.region id l.toArray true).wp P Q a w:=
 ol (λ_=>S) T (λ_=>G) p b kC kZ dA q hc n j x g e r C L (λ_ vs w' _ m=>y vs w' m)
def pz(j:∀i o,ops[i]?=some o->∀e∈o.after,Region.binds md e=true->e.on<i):∀(f b i:Nat),lu md ops f b i=true->i<b
 |0,_,_,h=>by cases h
 |f+1,b,i,h=>by
  unfold lu at h;cases d:ops[b]? with
  |none=>rw[d]at h;cases h
  |some n=>
   rw[d]at h;simp only at h;obtain⟨q,m,c⟩:=Il.1 h;simp only[Gq,H7,beq_iff_eq]at c;have p:=j b n d _ (Array.getElem_mem m) c.1;rcases c.2 with g|g
   omega;have:=pz j f _ i g;omega
def Af{S:(Nat->Bool)->(Nat->Value)->World->Prop}{T:(Nat->Value)->World->Prop}{p:Nat->SU G}{kC:Nat->List Nat}(hc:DY md ops kC kZ)(ah:∀c t t' d w,Q (.panic c) ⟨t,d⟩ w->Q (.panic c) ⟨t',d⟩ w)(x:∀i,∀h∈(p i).dp,h∈kC i)(ad:∀h,h<ops.size->∀i∈(p h).ex,i=h∨lu md ops 16 h i=true)(L:∀i o,ops[i]?=some o->∀f vs w,f i=false->(∀h∈kC i,f h=true)->S f vs w->nk p vs w (kC i)->wpOp P ops Q i (λb w'=>∃v,b=(oU ops vs (kC i) a0).put o.dst v/\yG (kZ&&i+1==ops.size) (∀u,T (sn vs i u) w') (S (λh=>h==i||f h) (sn vs i v) w'/\G i w w'/\(p i).U vs v w')) (oU ops vs (kC i) a0) w)(y:∀f vs w,(∀h,h<ops.size->f h=true)->yG kZ (T vs w) (S f vs w/\nk p vs w (List.range ops.size))->Q .normal (oU ops vs (List.range ops.size) a0) w):
 ∀(m k:Nat) (vs:Nat->Value) (a:Act) (w:World),k+m=ops.size->sD ops a0 (λh=>decide (h<k)) vs a->yG (kZ&&k==ops.size) (T vs w) (S (λh=>decide (h<k)) vs w/\∀h,h<k->(p h).U vs (vs h) w)->wpOps P ops Q (List.range' k m) a w:=by
 intro m;induction m with
 |zero=>
  intro k vs a w W n C;have O:=(sD.refl (ops:=ops) a0 vs).oU hc.zI (List.range ops.size) a0 _ (λ_ _=>rfl) List.nodup_range;have R:=n.congr (g:=λh=>(List.range ops.size).contains h||false) (us:=vs) (λh=>by
   have:k=ops.size:=X;subst this;simp) (λ_ _=>rfl)
  show Q .normal a w;rw[R.ext O];have s:k=ops.size:=X;refine y (λh=>decide (h<k)) vs w (λh j=>by simp;omega) ?_;rw[s]at C;cases r:kZ with
  |true=>rw[r]at C;simpa[yG]using C
  |false=>
   rw[r]at C;have C:S _ vs w/\∀h,h<ops.size->(p h).U vs (vs h) w:=C;exact⟨by rw[s];exact C.1,nk.of λh j=>C.2 h (GI.1 j)⟩
 |succ m Np=>
  intro k vs a w W n C;rw[List.range'_succ,wpOps_cons];have I:k<ops.size:=X;obtain⟨o,E⟩:∃o,ops[k]?=some o:=⟨_,Gb I⟩;have z:(kZ&&k==ops.size)=false:=by
   have:(k==ops.size)=false:=p_;rw[this,IE]
  rw[z]at C;obtain⟨C,Nw⟩:S (λh=>decide (h<k)) vs w/\∀h,h<k->(p h).U vs (vs h) w:=C;have F:=λh j=>pz hc.back 16 k h (hc.pre k I h j);have O:=L k o E _ vs w H (λh j=>by simpa using F h j) C (nk.of λh j=>Nw h (F h j));have B:=(sD.refl (ops:=ops) a0 vs).oU hc.zI (kC k) a0 _ (λ_ _=>rfl) (hc.Fz k I);have b5:∀d∈o.looksAt ops,a.tmps[d]?=(oU ops vs (kC k) a0).tmps[d]?:=by
   intro d hd;by_cases j:∃h,h<k/\jQ ops h=some d;obtain⟨h,J,l⟩:=j;have bo:h∈kC k:=by
    rcases hc.look k o E h d l hd with r|r
    exact r;have:=pz hc.back 16 h k r;omega
   rcases Ga d a0.tmps.size with Y|bK
   rw[n.put h d (zu J) l Y,B.put h d (by simp[bo]) l Y];rw[F8 (by rw[n.size];exact bK),F8 (by rw[B.size];exact bK)];have Y:∀h,h<k->jQ ops h≠some d:=λh J l=>j ⟨h,J,l⟩;rw[n.iy d (λh j=>Y h (zu j)),B.iy d (λh e=>Y h (F h (zu e)))]
  have R:=vO E (λcs b=>Region.noSelect_spec hc.Fy k o cs b E) b5 (n.size.trans B.size.symm) (n.defers.trans B.defers.symm) ah O;refine wpOp_mono (λb w' hb=>?_) R;obtain⟨v,rfl,s⟩:=hb;have D:o.dst=jQ ops k:=by unfold jQ;rw[E];rfl
  have Z:=n.add hc.zI k H v;rw[<-D]at Z;refine Np (k+1) (λh=>if h=k then v else vs h) _ w' X (Z.congr (λh=>?_) (λ_ _=>rfl)) ?_;rw[Bool.eq_iff_iff];simp;omega;cases ew:(kZ&&k+1==ops.size)with
  |true=>rw[ew]at s;exact s v
  |false=>
   rw[ew]at s;obtain⟨s,Nv,K⟩:=s;refine⟨by(have he:(λh=>decide (h<k+1))=(λh=>h==k||decide (h<k)):=by(funext h;rw[Bool.eq_iff_iff];simp;omega));rw[he];exact s,λh j=>?_⟩;by_cases Y:h=k;subst Y;simp only[if_true];refine(p h).loc vs _ _ _ (λk W=>?_) K;have:=F k (x h k W);have z:k≠h:=X;simp[z];simp only[Y,if_false];have af:k∉(p h).ex:=λhm=>by
    rcases ad h X k hm with r|r
    exact Y r.symm;have:=pz hc.back 16 h k r;omega
   refine(p h).loc vs _ _ _ (λq ar=>?_) ((p h).st k af _ _ _ _ Nv (Nw h X));have:=pz hc.back 16 h q (hc.pre h X q (x h q ar));have z:q≠k:=X;simp[z]
def t2(S:(Nat->Bool)->(Nat->Value)->World->Prop)(T:(Nat->Value)->World->Prop)(G:Nat->World->World->Prop)(p:List (SU G))(b:SU G)(kC:List (List Nat))(kZ:Bool)(dA:List (Option Tmp × Nat)){id:Nat}(hc:C6 .any l.toArray kC kZ=true)(u:((List.range l.length).map λi=>(jQ l.toArray i,i))=dA)(n:∀c t t' d w,Q (.panic c) ⟨t,d⟩ w->Q (.panic c) ⟨t',d⟩ w)(x:((List.range l.length).all λi=>(p.getD i b).dp.all λh=>(kC.getD i []).contains h)=true)(g:b.dp=[])(e:p.length=l.length)(I:((List.range l.toArray.size).all λh=>(p.getD h b).ex.all λi=>i==h||ng .any l.toArray h i)=true)(C:∀vs,S (λ_=>false) vs w)(L:sh (se P l.toArray Q a S T (λi=>p.getD i b) kC kZ) 0 l.length)(y:∀f vs w',(∀h,h<l.length->f h=true)->yG kZ (T vs w') (S f vs w'/\nk (λi=>p.getD i b) vs w' (List.range l.length))->Q .normal (lw vs dA a) w'):(Code.region id l.toArray false).wp P Q a w:=by
 refine wp_region ?_;have F:l.toArray.size=l.length:=H;have j:=xz hc;rw[List.range_eq_range'];refine Af j n (Db x g e) (Da I) (λi o m=>sh.get _ _ L i (L_ _) (ov ((GN.1 m).1)) o m) (by rw[F];intro f vs w' z s;rw[oT,u];exact y f vs w' z s) l.toArray.size 0 (λ_=>undef) a w X ?_ ?_;exact(sD.refl a _).congr (λh=>by simp) (λ_ _=>rfl);cases E:kZ with
 |false=>exact⟨by simpa using C _,λh B=>by omega⟩
 |true=>
  have r:=j.some E;have:((0:Nat)==l.toArray.size)=false:=by simp at r |-;intro J;omega
  rw[this];exact⟨by simpa using C _,λh B=>by omega⟩
def p8(S:(Nat->Bool)->World->Prop)(T:(Nat->Value)->World->Prop)(G:Nat->World->World->Prop)(p:List (SU G))(b:SU G)(kC:List (List Nat))(kZ:Bool)(dA:List (Option Tmp × Nat)){id:Nat}(hc:C6 .any l.toArray kC kZ=true)(m:((List.range l.length).map λi=>(jQ l.toArray i,i))=dA)(j:∀c t t' d w,Q (.panic c) ⟨t,d⟩ w->Q (.panic c) ⟨t',d⟩ w)(x:((List.range l.length).all λi=>(p.getD i b).dp.all λh=>(kC.getD i []).contains h)=true)(g:b.dp=[])(e:p.length=l.length)(n:((List.range l.toArray.size).all λh=>(p.getD h b).ex.all λi=>i==h||ng .any l.toArray h i)=true)(C:S (λ_=>false) w)(L:sh (se P l.toArray Q a (λf _=>S f) T (λi=>p.getD i b) kC kZ) 0 l.length)(y:∀f vs w',(∀h,h<l.length->f h=true)->yG kZ (T vs w') (S f w'/\nk (λi=>p.getD i b) vs w' (List.range l.length))->Q .normal (lw vs dA a) w'):(Code.region id l.toArray false).wp P Q a w:=
 t2 (λf _=>S f) T G p b kC kZ dA hc m j x g e n (λ_=>C) L y
def iO(T:(Nat->Value)->World->Prop)(G:World->World->Prop)(p:List (SU (λ_=>G)))(b:SU (λ_=>G))(kC:List (List Nat))(kZ:Bool)(dA:List (Option Tmp × Nat)){id:Nat}(hc:C6 .any l.toArray kC kZ=true)(n:((List.range l.length).map λi=>(jQ l.toArray i,i))=dA)(j:∀c t t' d w,Q (.panic c) ⟨t,d⟩ w->Q (.panic c) ⟨t',d⟩ w)(x:((List.range l.length).all λi=>(p.getD i b).dp.all λh=>(kC.getD i []).contains h)=true)(g:b.dp=[])(e:p.length=l.length)(q:((List.range l.toArray.size).all λh=>(p.getD h b).ex.all λi=>i==h||ng .any l.toArray h i)=true)(C:S w)(L:sh (se P l.toArray Q a (λ_ _=>S) T (λi=>p.getD i b) kC kZ) 0 l.length)(y:∀vs w',yG kZ (T vs w') (S w'/\nk (λi=>p.getD i b) vs w' (List.range l.length))->Q .normal (lw vs dA a) w'):(Code.region id l.toArray false).wp P Q a w:=
 p8 (λ_=>S) T (λ_=>G) p b kC kZ dA hc n j x g e q C L (λ_ vs w' _ m=>y vs w' m)
def hS{S:World->Prop}{T:(Nat->Value)->World->Prop}{G:World->World->Prop}{p:Nat->SU (λ_=>G)}{r:QZ}(ds:List (Option Tmp × Nat))(h:∀vs w,S w->nk p vs w (kC.getD i [])->∀e:Act->World->Prop,Shut (∀v w',S w'->G w w'->(p i).U vs v w'->e ((lw vs ds a0).put o.dst v) w')->
   if Region.wanted o (yielded l.toArray (lw vs ds a0).tmps)=true then Oper.wp P o (lw vs ds a0) w e Q else e ((lw vs ds a0).put o.dst undef) w)(hl:(kZ&&i+1==l.length)=false:=by rfl)(ho:l.drop i=o::r:=by rfl)(hd:((kC.getD i []).map λj=>(jQ l.toArray j,j))=ds:=by kernel_rfl):
 se P l.toArray Q a0 (λ_ _=>S) T p kC kZ i:=by
 intro g a f vs w hf hp C Nw;rw[jI ho]at a;injection a with a;subst a;have h1:=h vs w C Nw;exact KD
def jg{S:(Nat->Bool)->World->Prop}{T:(Nat->Value)->World->Prop}{p:Nat->SU G}{r:QZ}(ds:List (Option Tmp × Nat))(h:∀f vs w,f i=false->S f w->nk p vs w (kC.getD i [])->∀e:Act->World->Prop,Shut (∀v w',S (λj=>j==i||f j) w'->G i w w'->(p i).U vs v w'->e ((lw vs ds a0).put o.dst v) w')->
   if Region.wanted o (yielded l.toArray (lw vs ds a0).tmps)=true then Oper.wp P o (lw vs ds a0) w e Q else e ((lw vs ds a0).put o.dst undef) w)(hl:(kZ&&i+1==l.length)=false:=by rfl)(ho:l.drop i=o::r:=by rfl)(hd:((kC.getD i []).map λj=>(jQ l.toArray j,j))=ds:=by kernel_rfl):
 se P l.toArray Q a0 (λf _=>S f) T p kC kZ i:=by
 intro g a f vs w hf hp C Nw;rw[jI ho]at a;injection a with a;subst a;have h1:=h f vs w hf C Nw;exact KD
def jT{S:(Nat->Bool)->(Nat->Value)->World->Prop}{T:(Nat->Value)->World->Prop}{p:Nat->SU G}{r:QZ}(ds:List (Option Tmp × Nat))(h:∀f vs w,f i=false->(∀j∈kC.getD i [],f j=true)->S f vs w->nk p vs w (kC.getD i [])->∀e:Act->World->Prop,Shut (∀v w',S (λj=>j==i||f j) (sn vs i v) w'->G i w w'->(p i).U vs v w'->e ((lw vs ds a0).put o.dst v) w')->
   if Region.wanted o (yielded l.toArray (lw vs ds a0).tmps)=true then Oper.wp P o (lw vs ds a0) w e Q else e ((lw vs ds a0).put o.dst undef) w)(hl:(kZ&&i+1==l.length)=false:=by rfl)(ho:l.drop i=o::r:=by rfl)(hd:((kC.getD i []).map λj=>(jQ l.toArray j,j))=ds:=by kernel_rfl):
 se P l.toArray Q a0 S T p kC kZ i:=by
 intro g a f vs w hf hp C Nw;rw[jI ho]at a;injection a with a;subst a;have h1:=h f vs w hf hp C Nw;exact KD
def ju{S:World->Prop}{T:(Nat->Value)->World->Prop}{G:World->World->Prop}{p:Nat->SU (λ_=>G)}{r:QZ}(ds:List (Option Tmp × Nat))(h:∀vs w,S w->nk p vs w (kC.getD i [])->∀e:Act->World->Prop,Shut (∀v w',(∀u,T (sn vs i u) w')->e ((lw vs ds a0).put o.dst v) w')->
   if Region.wanted o (yielded l.toArray (lw vs ds a0).tmps)=true then Oper.wp P o (lw vs ds a0) w e Q else e ((lw vs ds a0).put o.dst undef) w)(hl:(kZ&&i+1==l.length)=true:=by rfl)(ho:l.drop i=o::r:=by rfl)(hd:((kC.getD i []).map λj=>(jQ l.toArray j,j))=ds:=by kernel_rfl):
 se P l.toArray Q a0 (λ_ _=>S) T p kC kZ i:=by
 intro g a f vs w hf hp C Nw;rw[jI ho]at a;injection a with a;subst a;have h1:=h vs w C Nw;exact KS
def wb{S:(Nat->Bool)->World->Prop}{T:(Nat->Value)->World->Prop}{p:Nat->SU G}{r:QZ}(ds:List (Option Tmp × Nat))(h:∀f vs w,f i=false->S f w->nk p vs w (kC.getD i [])->∀e:Act->World->Prop,Shut (∀v w',(∀u,T (sn vs i u) w')->e ((lw vs ds a0).put o.dst v) w')->
   if Region.wanted o (yielded l.toArray (lw vs ds a0).tmps)=true then Oper.wp P o (lw vs ds a0) w e Q else e ((lw vs ds a0).put o.dst undef) w)(hl:(kZ&&i+1==l.length)=true:=by rfl)(ho:l.drop i=o::r:=by rfl)(hd:((kC.getD i []).map λj=>(jQ l.toArray j,j))=ds:=by kernel_rfl):
 se P l.toArray Q a0 (λf _=>S f) T p kC kZ i:=by
 intro g a f vs w hf hp C Nw;rw[jI ho]at a;injection a with a;subst a;have h1:=h f vs w hf C Nw;exact KS
def wa{S:(Nat->Bool)->(Nat->Value)->World->Prop}{T:(Nat->Value)->World->Prop}{p:Nat->SU G}{r:QZ}(ds:List (Option Tmp × Nat))(h:∀f vs w,f i=false->(∀j∈kC.getD i [],f j=true)->S f vs w->nk p vs w (kC.getD i [])->∀e:Act->World->Prop,Shut (∀v w',(∀u,T (sn vs i u) w')->e ((lw vs ds a0).put o.dst v) w')->
   if Region.wanted o (yielded l.toArray (lw vs ds a0).tmps)=true then Oper.wp P o (lw vs ds a0) w e Q else e ((lw vs ds a0).put o.dst undef) w)(hl:(kZ&&i+1==l.length)=true:=by rfl)(ho:l.drop i=o::r:=by rfl)(hd:((kC.getD i []).map λj=>(jQ l.toArray j,j))=ds:=by kernel_rfl):
 se P l.toArray Q a0 S T p kC kZ i:=by
 intro g a f vs w hf hp C Nw;rw[jI ho]at a;injection a with a;subst a;have h1:=h f vs w hf hp C Nw;exact KS
def iZ{c A b:Prop}[Decidable c](hc:c)(h:A):if c then A else b:=by rw[U_ hc];exact h
def ic{x y:Operand}(n:o.op=.store ty x y)(g:Nat)(q:a.eval x=q_ g)(vs:Array Value)(hy:a.eval y=.agg vs)(t:TypeId){cs:Array Value}(j:Bk w g t cs)(p:vs.size=cs.size)(m:(P.info? ty).map (·.size)=some vs.size)(c:vs.all (·.oneCell')=true)(h:∀w',Bk w' g t vs->J [g] w w'->K (a.put o.dst undef) w'):o.wp P a w K Q:=
 jE ty x y n g 0 q vs hy t cs j X m c λw' b d=>h w' (by rw[qB cs vs p]at b;exact b) d
def SU.val(G:World->World->Prop)(v0:Value):SU (λ_=>G):=SU.of (λv _=>v=v0) (λ_ _ _ _ h=>h)
def SU.num(G:World->World->Prop)(lo hi:Int):SU (λ_=>G):=SU.of (λv _=>∃r:Int,v=Y r/\lo<=r/\r<hi) (λ_ _ _ _ h=>h)
def SU.BI{M:QY}{lo:Nat}(z:∀y∈M,y<lo)(t:TypeId)(cs:Array Value)(n:Nat):SU (λ_=>J M):=
 SU.of (λv w=>∃x,v=.slice (j_ x) n n/\lo<=x/\Bk w x t cs) (λ_ _ _ hg⟨x,h1,h2,h3⟩=>⟨x,h1,h2,h3.gr hg (λhm=>by have:=z x hm;omega)⟩)
def SU.elem{M:QY}{lo:Nat}(z:∀y∈M,y<lo)(t:TypeId)(cs:Array Value)(n:Nat):SU (λ_=>J M):=
 SU.of (λv w=>∃x k:Nat,v=.pointer (some (Z x k))/\k<n/\lo<=x/\Bk w x t cs) (λ_ _ _ hg⟨x,k,h1,hk,h2,h3⟩=>⟨x,k,h1,hk,h2,h3.gr hg (λhm=>by have:=z x hm;omega)⟩)
def SU.pure(G:World->World->Prop)(U:Value->Prop):SU (λ_=>G):=SU.of (λv _=>U v) (λ_ _ _ _ h=>h)
def SU.any(G:World->World->Prop):SU (λ_=>G):=SU.of (λ_ _=>True) (λ_ _ _ _ h=>h)
def SU.anyI(G:Nat->World->World->Prop):SU G:=SU.zV [] (λ_ _=>True) (λ_ _ _ _ _ _ h=>h)
def SU.mB(G:Nat->World->World->Prop)(v0:Value):SU G:=SU.zV [] (λv _=>v=v0) (λ_ _ _ _ _ _ h=>h)
def SU.less{G Nw:World->World->Prop}(h:∀a b,Nw a b->G a b)(s:SU (λ_=>G)):SU (λ_=>Nw):=⟨s.U,s.ex,λi hi vs v w w' hg hu=>s.st i hi vs v w w' (h _ _ hg) hu,s.dp,s.loc⟩
end
def ET.one(t:ET):t.g_.all (·.oneCell')=true:=by unfold ET.g_;simp[Value.oneCell']
def pK(n:Int)(A:OA)(a:ET):ET:=.mk 4 n ByteArray.empty 0 A 1 [a]
inductive EG(V:QU):Nat->ET->Prop
 |num (d:Nat) (n:Int) (h0: -10<=n) (h1:n<=10):EG V d (jx n)
 |var (d:Nat) (s:ByteArray) (h:s∈V):EG V d (jy s)
 |new (d:Nat) (n:Int) (h0:0<=n) (h1:n<=3):EG V d (eNew n)
 |field (d:Nat) (n:Int) (A:OA) (s:ByteArray) (h0:0<=n) (h1:n<=2) (h:s∈V):EG V (d+1) (pK n A (jy s))
 |bin (d:Nat) (o:Int) (A:OA) (a b:ET) (h0:1<=o) (h1:o<=11) (ha:EG V d a) (hb:EG V d b):EG V (d+1) (p5 o A a b)
structure Ex(B g m R:Nat)(tr:TypeId)(mc zc:Array Value)(W w:World):Prop where
 d:iN w B g
 m:Bk w m 222 mc
 r:Bk w R tr zc
 g:J [g] W w
def Ex.step{b g m R:Nat}{d j:Array Value}{W:World}(h:Ex b g m R tr d j W w)(c:J [g] w w')(r:iN w' b g)(n:m≠g)(p:R≠g):Ex b g m R tr d j W w':=
 ⟨r,h.m.gr c (zu n),h.r.gr c (zu p),h.g.trans c⟩
def Ex.hF{c g m R:Nat}{d j:Array Value}{W:World}(h:Ex c g m R tr d j W w)(b:J [] w w'):Ex c g m R tr d j W w':=
 ⟨h.d.hF b,h.m.hF b,h.r.hF b,h.g.trans (b.mono H)⟩
def SU.tree{M:QY}{lo:Nat}(z:∀y∈M,y<lo)(d:Nat):SU (λ_=>J M):=
 SU.of (λv w=>∃t:ET,v=.agg t.g_/\kw (jC lo) w t/\EG hV d t) (λ_ _ _ hg⟨t,h1,h2,h3⟩=>⟨t,h1,h2.ih hg (λx hx=>G3.2 (z x hx)),h3⟩)
def Dr(i:Int)(h0:0<=i)(b:i<2):∃s,s∈hV/\(#[.string {data:=#[112]},.string {data:=#[113]}]:Array Value)[i.toNat]?=some (.string s):=by
 obtain⟨k,rfl⟩:∃k:Nat,i=k:=⟨i.toNat,X⟩
 match k,b with
 |0,_=>exact⟨ph,by simp[hV],rfl⟩
 |1,_=>exact⟨nc,by simp[hV],rfl⟩
def J.tq{g R:Nat}{a b c:World}(h:J [g] a b)(k:J [R] b c)(j:a.heap.size<=R):J [g] a c:=h.hI k (by intro x d;right;simp at d;omega)
def kL(B g m:Nat)(left loops fn:Int)(d:Nat)(aI:d<=100):∀(D:Int) (_:D=d) (w:World) (_:iN w B g) (_:Bk w m 222 #[q_ g,Y left,Y loops,Y fn]) (_:B<=m),
 Calls prog 140 #[q_ m,Y D] w λe w'=>∃t,e=.returned (.agg t.g_)/\kw (jC w.heap.size) w' t/\EG hV d t/\iN w' B g/\J [g] w w':=by
 induction d with
 |zero=>
  intro D hD w hd hm hBm;have bq:=hd.wx;have cz:=hm.lt;have h:D=0:=hD;subst h;clear hD;go_enter func140,ntmps140;go_upto_region 1 with fail;have j:J [] w (w.alloc (.cells E_ 226)):=(F_ [] w).alloc _;replace hd:=hd.hF j;replace hm:=hm.hF j;have hR:=P_ w 226 E_;have Nv:J [g] w (w.alloc (.cells E_ 226)):=(F_ [g] w).alloc _;clear j;obtain⟨bo,I⟩:=nm_ (w.alloc (.cells E_ 226));rw[<-I]at hd hm hR Nv |-;clear I;obtain⟨R0,y⟩:=nm_ w.heap.size;rw[<-y]at hR |-;have dC:w.heap.size<=R0:=X;have cH:g<R0:=X;have al:B<=R0:=X;have c8:m<R0:=ov cz;clear y;have U:=hm.f_ 0
  go_upto_region 2 with(go_at_call 19;refine(ij B g 12 hd X X).mono ?_;rintro e w1⟨k,rfl,cq,b0,bH,c⟩);replace hm:=hm.gr c p_;replace hR:=hR.gr c p_;replace Nv:=Nv.trans c;replace hd:=bH;clear c U;have U:=hm.f_ 0;by_cases am:k<4
  .exact Jh
  by_cases bS:k<8;exact IN;exact IN
 |succ d Np=>
  intro D hD w hd hm hBm;have bq:=hd.wx;have cz:=hm.lt;have ax:(D==0)=false:=p_;have ay:¬D=0:=X;have aw:IntKind.i64.wrap (D-1)=D-1:=Gm _ X;have cg:=O (show D-1=d by omega);clear hD;go_enter func140,ntmps140;go_upto_region 1 with fail;have j:J [] w (w.alloc (.cells E_ 226)):=(F_ [] w).alloc _;replace hd:=hd.hF j;replace hm:=hm.hF j;have hR:=P_ w 226 E_;have Nv:J [g] w (w.alloc (.cells E_ 226)):=(F_ [g] w).alloc _;clear j;obtain⟨bo,I⟩:=nm_ (w.alloc (.cells E_ 226));rw[<-I]at hd hm hR Nv |-;clear I;obtain⟨R0,y⟩:=nm_ w.heap.size;rw[<-y]at hR |-;have dC:w.heap.size<=R0:=X;have cH:g<R0:=X;have al:B<=R0:=X;have c8:m<R0:=ov cz;clear y;have U:=hm.f_ 0
  go_upto_region 2 with(go_at_call 19;refine(ij B g 12 hd X X).mono ?_;rintro e w1⟨k,rfl,cq,b0,bH,c⟩);replace hm:=hm.gr c p_;replace hR:=hR.gr c p_;replace Nv:=Nv.trans c;replace hd:=bH;clear c U;have U:=hm.f_ 0;by_cases am:k<4
  .exact Jh
  by_cases bS:k<8
  .exact IN
  by_cases ej:k=8
  .subst ej;go_upto_region 7 with fail;obtain⟨h,aH⟩:=nm_ w1;rw[<-aH]at hd hm hR Nv |-;clear aH U;have R:∀an∈[g,R0],an<R0+1:=p_;have ag:m≠g:=X;have z:R0≠g:=X;have aV:Ex B g m R0 226 #[q_ g,Y left,Y loops,Y fn] E_ h h.drew:=⟨hd.hF (F_ [] h).drew,hm.hF (F_ [] h).drew,hR.hF (F_ [] h).drew,(F_ [g] h).drew⟩;refine kq (Ex B g m R0 226 #[q_ g,Y left,Y loops,Y fn] E_ h) (λ_ Nr=>∃t,Bk Nr R0 226 t.g_/\kw (jC (R0+1)) Nr t/\EG hV (d+1) t/\iN Nr B g/\J [g,R0] h Nr) (J [g,R0]) [SU.val _ (q_ m),SU.val _ (q_ m),SU.val _ (q_ m),SU.val _ (q_ g),SU.num _ 0 3,SU.BI R 9 #[.string {data:=#[112]},.string {data:=#[113]}] 2,SU.val _ (q_ m),SU.val _ (q_ m),SU.val _ (q_ m),SU.val _ (q_ g),SU.num _ 0 2,SU.elem R 9 #[.string {data:=#[112]},.string {data:=#[113]}] 2,SU.pure _ (λv=>∃s,s∈hV/\v=.string s),SU.pure _ (λv=>∃s,s∈hV/\v=.agg #[Y 3,Y 0,.string s,Y 0,n_]),SU.of (λv w=>∃x s,s∈hV/\v=.slice (j_ x) 1 1/\R0+1<=x/\Bk w x 226 #[Y 3,Y 0,.string s,Y 0,n_]) (λ_ _ _ hg⟨x,s,h0,h1,h2,h3⟩=>⟨x,s,h0,h1,h2,h3.gr hg (λhm=>by have:=R x hm;omega)⟩),SU.tree R (d+1),SU.any _] (SU.any _) [[],[0],[1],[2],[3],[],[],[6],[7],[8],[9],[5,10],[11],[12],[13],[4,14],[15]] true [(some 42,0),(some 43,1),(some 44,2),(some 45,3),(some 46,4),(some 47,5),(some 48,6),(some 49,7),(some 50,8),(some 51,9),(some 52,10),(some 53,11),(some 54,12),(some 55,13),(some 56,14),(some 57,15),(none,16)] k_ k_ k_ (λ_ _ _ _ _ u=>u) k_ rfl rfl k_ aV ⟨?_,?_,?_,?_,?_,?_,?_,?_,?_,?_,?_,?_,?_,?_,?_,?_,?_,trivial⟩ ?_
   exact LA;refine hS [(some 42,0)] ?_;exact Le;refine hS [(some 43,1)] ?_;exact Le;refine hS [(some 44,2)] ?_;exact KA
   .refine hS [(some 45,3)] ?_;intro vs V C Nw K Nu;obtain⟨o, -⟩:=Nw;replace o:_=_:=o;try simp only[b_,o]at Nu |-
    go_simp;go_at_call 19;refine(ij B g 3 C.d X X).mono ?_;exact LE
   exact KC;exact LA;refine hS [(some 48,6)] ?_;exact Le;refine hS [(some 49,7)] ?_;exact Le;refine hS [(some 50,8)] ?_;exact KA
   .refine hS [(some 51,9)] ?_;intro vs V C Nw K Nu;obtain⟨o, -⟩:=Nw;replace o:_=_:=o;try simp only[b_,o]at Nu |-
    go_simp;go_at_call 19;refine(ij B g 2 C.d X X).mono ?_;exact LE
   refine hS [(some 47,5),(some 52,10)] ?_;exact J6;refine hS [(some 53,11)] ?_;intro vs V C Nw K Nu;obtain⟨⟨a8,E,o,a7,bu,be⟩, -⟩:=Nw;try simp only[b_,o]at Nu |-
   obtain⟨s,hs,bG⟩:=Dr E X X;exact Mz
   .refine hS [(some 54,12)] ?_;intro vs V C Nw K Nu;obtain⟨⟨W,bK,o⟩, -⟩:=Nw;try simp only[b_,o]at Nu |-
    go_simp;go_at_call 145;refine(ki W).mono ?_;rintro e w1⟨rfl,hg1⟩;exact Nu.out _ _ (C.hF hg1) (hg1.mono H) ⟨W,bK,rfl⟩
   .refine hS [(some 55,13)] ?_;intro vs V C Nw K Nu;obtain⟨⟨W,bK,o⟩, -⟩:=Nw;try simp only[b_,o]at Nu |-
    go_simp;exact Nu.out _ _ (C.hF ((F_ [] _).alloc _)) ((F_ _ _).alloc _) ⟨_,W,bK,rfl,C.r.lt,P_ _ _ _⟩
   .refine hS [(some 46,4),(some 56,14)] ?_;intro vs V C Nw K Nu;obtain⟨⟨ad,o,cN,a7⟩,⟨aP,sb,mb,aq,cK,bE⟩, -⟩:=Nw;try simp only[b_,o,aq]at Nu |-
    go_simp;exact Nu.out (.agg (pK ad (j_ aP) (jy sb)).g_) _ C (F_ _ _) ⟨pK ad (j_ aP) (jy sb),rfl,.mk _ (jh (n:=1) bE rfl) (H_ _) (λx off u _=>by injection u with u;injection u with u;omega) (by intro aA hu;rcases O_.1 hu with rfl|hu;exact kw.leaf _ _ _ _ _ _;cases hu),EG.field _ _ _ _ X X mb⟩
   .refine ju [(some 57,15)] ?_;exact JQ
   exact K7
  by_cases aF:k=9
  .subst aF;go_upto_region 9 with fail;go_wp2_with ((go_at_call 19;refine(ij B g 4 hd X X).mono ?_;rintro e w2⟨r,rfl,bC,bJ,bZ,F⟩);replace hR:=hR.gr F p_;replace hd:=bZ;replace Nv:=Nv.trans F;have bA:=hR.hG 0;have z0:=hR.f_ 0;have bL:=hR.hG 1;have aR:=hR.f_ 1;have cf:=hR.hG 2;have aZ:=hR.f_ 2;have dB:=hR.hG 3;have z3:=hR.f_ 3;have dU:=hR.hG 4;have z4:=hR.f_ 4);have aB:=(((((hR.hU 0 (Y 6)).hU 1 (Y r)).hU 2 (e_)).hU 3 (Y 0)).hU 4 (n_));have T:=((((((F_ [R0] w2).setCell (p:=(Z R0 0)) (.inl H) (Y 6)).setCell (p:=(Z R0 1)) (.inl H) (Y r)).setCell (p:=(Z R0 2)) (.inl H) (e_)).setCell (p:=(Z R0 3)) (.inl H) (Y 0)).setCell (p:=(Z R0 4)) (.inl H) (n_));exact rr_ (eNew r).g_ aB underlying226 ⟨eNew r,rfl,kw.leaf _ _ _ _ _ _,EG.new _ _ X X,hd.ih T p_,(Nv.tq T dC)⟩
  have de:(k==8)=false:=p_;have aC:(k==9)=false:=p_;go_upto_region 10 with fail;have au:True:=trivial;have l:=hR.lt;go_wp2_with (first|((go_at_call 19;refine(ij B g 11 hd X X).mono ?_;rintro e w2⟨r,rfl,bC,bJ,bZ,F⟩);have b4:IntKind.i64.wrap (1+r)=1+r:=Gm _ X;replace hm:=hm.gr F p_;replace hR:=hR.gr F p_;replace Nv:=Nv.trans F;replace hd:=bZ;clear U;have U:=hm.f_ 0;have N:R0+1<=w2.heap.size:=hR.lt)|(go_at_call 140;clear au;refine(Np X (D-1) cg.out _ hd hm hBm).mono ?_;rintro e av⟨t1,rfl,G,hq1,aG,A⟩;replace G:=G.le N;replace hm:=hm.gr A p_;replace hR:=hR.gr A p_;replace Nv:=Nv.trans A;replace hd:=aG;clear U;have U:=hm.f_ 0;have az:=Nv.size;have P:R0+1<=av.heap.size:=hR.lt)|(go_at_call 140;refine(Np X (D-1) cg.out _ hd hm hBm).mono ?_;rintro e aE⟨Q,rfl,aj,cM,ae,i⟩;replace G:=G.ih i (by intro x hx;simp at hx;omega);replace aj:=aj.le P;replace hm:=hm.gr i p_;replace hR:=hR.gr i p_;replace Nv:=Nv.trans i;replace hd:=ae;clear U;have U:=hm.f_ 0)|(go_at_call 143;refine(oG (R0+1) (1+r) t1 Q hR.lt G aj).mono ?_;rintro e Nq⟨aW,rfl,ce,ai⟩;replace hR:=hR.hF ai;replace hd:=hd.hF ai;replace Nv:=Nv.trans (ai.mono H))|(refine kP (p5 (1+r) aW t1 Q).g_ hR (ET.one _) ?_;intro Nr aB T));exact rr_ (p5 (1+r) aW t1 Q).g_ aB underlying226 ⟨p5 (1+r) aW t1 Q,rfl,(ce.ih T (by intro x hx;simp at hx;omega)).le X,EG.bin _ _ _ _ _ X X hq1 cM,hd.ih T p_,(Nv.tq T dC)⟩
def i6:ByteArray:={data:=#[]}
inductive m_(V:QU):Int->ByteArray->ByteArray->Int->Int->Nat->Bool->Bool->Prop
 |vC (x:ByteArray) (h:x∈V):m_ V 1 x i6 0 0 1 false false
 |EO (n:Int) (h0:0<=n) (h1:n<=2):m_ V 2 i6 i6 n 0 2 false false
 |wN (x:ByteArray) (h:x∈V):m_ V 3 x p4 0 0 2 false false
 |wM (x:ByteArray) (h:x∈V):m_ V 3 x pD 0 0 1 false false
 |Ea:m_ V 4 i6 i6 0 0 1 true true
 |AF (x:ByteArray) (h:x∈V):m_ V 5 x i6 0 0 2 true false
 |EM:m_ V 6 i6 i6 0 0 1 true false
 |ret:m_ V 7 i6 i6 0 0 1 false false
 |EL:m_ V 8 i6 i6 0 0 1 false false
 |Cc (x:ByteArray) (h:x∈V):m_ V 9 x i6 0 0 0 true true
 |ES:m_ V 10 i6 i6 0 0 1 false false
 |ask (x:ByteArray) (h:x∈V):m_ V 11 x i6 0 0 1 false false
 |red (x:ByteArray) (h:x∈V) (o:Int) (ho:o=1∨o=6∨o=9):m_ V 12 x i6 0 o 1 false false
inductive l4(V:QU):Nat->Nat->List ST->Prop
 |nil (D:Nat):l4 V D 0 []
 |cons (D a b nb nl:Nat) (t:ST) (l:QV) (B L:Bool) (h:m_ V t.h7 t.name t.fn t.n t.op t.es.length B L) (hB:B=false->t.bs=[]) (hL:L=false->t.ls=[]) (hes:∀e∈t.es,EG V 2 e)
   (hb:l4 V D nb t.bs) (hl:l4 V D nl t.ls) (ha:a=1+nb+nl) (hr:l4 V (D+1) b l):l4 V (D+1) (a+b) (t::l)
def SG(V:QU)(D N:Nat)(t:ST):Prop:=l4 V D N [t]
def l4.append{a b:Nat}{l m:QV}(h:l4 V D a l)(k:l4 V D b m):l4 V D (a+b) (l++m):=by
 induction h with
 |nil D=>simpa using k
 |cons D a b nb u t l c d h j n r q s p y _ _ g=>
  have:=g k;rw[HE];exact .cons D a _ nb u t _ c d h j n r q s p this
def EG.mono{d e:Nat}{t:ET}(h:EG V d t)(g:d<=e):EG V e t:=by
 induction h generalizing e with
 |num d j b c=>exact .num _ j b c
 |var d m h=>exact .var _ m h
 |new d j b c=>exact .new _ j b c
 |field d j A m b c h=>
  obtain⟨e,rfl⟩:∃k,e=k+1:=⟨e-1,X⟩;exact .field _ j A m b c h
 |bin d o A a n b c _ _ f p=>
  obtain⟨e,rfl⟩:∃k,e=k+1:=⟨e-1,X⟩;exact .bin _ o A a n b c (f X) (p X)
def EG.sub{W:QU}{d:Nat}{t:ET}(h:EG V d t)(j:∀s∈V,s∈W):EG W d t:=by
 induction h with
 |num d g b c=>exact .num _ g b c
 |var d s h=>exact .var _ s (j s h)
 |new d g b c=>exact .new _ g b c
 |field d g A s b c h=>exact .field _ g A s b c (j s h)
 |bin d o A a m b c _ _ f n=>exact .bin _ o A a m b c f n
def m_.sub{W:QU}{k n o:Int}{x f:ByteArray}{m:Nat}{c L:Bool}(h:m_ V k x f n o m c L)(b:∀s∈V,s∈W):m_ W k x f n o m c L:=by
 cases h with
 |vC x h=>exact .vC _ (b _ h)
 |EO n d g=>exact .EO _ d g
 |wN x h=>exact .wN _ (b _ h)
 |wM x h=>exact .wM _ (b _ h)
 |Ea=>exact .Ea
 |AF x h=>exact .AF _ (b _ h)
 |EM=>exact .EM
 |ret=>exact .ret
 |EL=>exact .EL
 |Cc x h=>exact .Cc _ (b _ h)
 |ES=>exact .ES
 |ask x h=>exact .ask _ (b _ h)
 |red x h o d=>exact .red _ (b _ h) _ d
def l4.sub{W:QU}{l:QV}(h:l4 V D N l)(b:∀s∈V,s∈W):l4 W D N l:=by
 induction h with
 |nil D=>exact .nil D
 |cons D a g nb y t l c d h n p u _ _ q _ j m f=>exact .cons D a g nb y t l c d (h.sub b) n p (λe r=>(u e r).sub b) j m q f
def l4.mono{r:Nat}{l:QV}(h:l4 V D N l)(hD:D<=r):l4 V r N l:=by
 induction h generalizing r with
 |nil D=>exact .nil r
 |cons D a d nb s t l b c h m n q _ _ p _ g j f=>
  obtain⟨e,rfl⟩:∃k,r=k+1:=⟨r-1,X⟩;exact .cons e a d nb s t l b c h m n q (g X) (j X) p (f hD)
def SG.leaf(h:m_ V t.h7 t.name t.fn t.n t.op t.es.length false false)(b:t.bs=[])(c:t.ls=[])(d:∀e∈t.es,EG V 2 e):SG V (D+1) 1 t:=
 .cons D 1 0 0 0 t [] false false h (λ_=>b) (λ_=>c) d (by rw[b];exact .nil D) (by rw[c];exact .nil D) rfl (.nil _)
def SG.node{nb nl:Nat}(h:m_ V t.h7 t.name t.fn t.n t.op t.es.length true true)(c:∀e∈t.es,EG V 2 e)(b:l4 V D nb t.bs)(d:l4 V D nl t.ls):SG V (D+1) (1+nb+nl) t:=
 .cons D (1+nb+nl) 0 nb nl t [] true true h (λh=>by cases h) (λh=>by cases h) c b d rfl (.nil _)
def SG.loop{nb:Nat}(h:m_ V t.h7 t.name t.fn t.n t.op t.es.length true false)(b:t.ls=[])(d:∀e∈t.es,EG V 2 e)(c:l4 V D nb t.bs):SG V (D+1) (1+nb) t:=
 .cons D (1+nb) 0 nb 0 t [] true false h (λh=>by cases h) (λ_=>b) d c (by rw[b];exact .nil D) rfl (.nil _)
def lT(k:Int)(x f:ByteArray)(n o:Int)(A:OA)(c:Nat)(es:QE):ST:=.mk k x f n o A c es none 0 [] none 0 []
def jL.es{p:Nat->Prop}(x f:ByteArray)(n o:Int){b:Nat}{es:QE}(j:Sl w 226 5 (j_ b) es.length (es.flatMap ET.E))(h:p b)(g:∀u∈es,kw p w u):jL p w (lT k x f n o (j_ b) es.length es):=
 .mk _ j (H_ _) (λq m c _=>by injection c with c;injection c with c;subst c;exact h) g (GU _ _ _ _) (H_ _) (λ_ _ c _=>by cases c) (λu d=>by cases d) (GU _ _ _ _) (H_ _) (λ_ _ c _=>by cases c) (λu d=>by cases d)
def SU.trees{M:QY}{lo:Nat}(z:∀y∈M,y<lo)(d n:Nat):SU (λ_=>J M):=
 SU.of (λv w=>∃(x:Nat) (ts:QE),v=.slice (j_ x) n n/\ts.length=n/\lo<=x/\Sl w 226 5 (j_ x) n (ts.flatMap ET.E)/\∀t∈ts,kw (jC lo) w t/\EG hV d t)
  (λ_ _ _ hg⟨x,ts,h1,h2,h3,am,au⟩=>⟨x,ts,h1,h2,h3,am.iy λy off hA hx=>hg.block y hx (λhm=>by injection hA with hA;injection hA with hA;have:=z y hm;omega),λt ht=>⟨(au t ht).1.ih hg (λx hx=>G3.2 (z x hx)),(au t ht).2⟩⟩)
def SU.stmt{M:QY}{lo:Nat}(z:∀y∈M,y<lo)(D N:Nat):SU (λ_=>J M):=
 SU.of (λv w=>∃t:ST,v=.agg t.g_/\jL (jC lo) w t/\SG hV D N t) (λ_ _ _ hg⟨t,h1,h2,h3⟩=>⟨t,h1,h2.ih hg (λx hx=>G3.2 (z x hx)),h3⟩)
def ST.one(t:ST):t.g_.all (·.oneCell')=true:=by unfold ST.g_;simp[Value.oneCell']
def ET.ik(n:Int)(s:ByteArray)(o:Int)(A:OA)(c:Nat)(l:QE):(ET.mk k n s o A c l).g_=#[Y k,Y n,.string s,Y o,.slice A l.length c]:=rfl
def ST.ik(x f:ByteArray)(n o:Int)(A:OA)(c:Nat)(es:QE)(b:OA)(c1:Nat)(h:QV)(g:OA)(d:Nat)(j:QV):(ST.mk k x f n o A c es b c1 h g d j).g_=#[Y k,.string x,.string f,Y n,Y o,.slice A es.length c,.slice b h.length c1,.slice g j.length d]:=rfl
def nJ(t:ET)(h:Bk w x 226 t.g_):Sl w 226 5 (j_ x) 1 ([t].flatMap ET.E):=jh (n:=1) h rfl
def sX(a b:ET)(h:Bk w x 226 (a.g_++b.g_)):Sl w 226 5 (j_ x) 2 ([a,b].flatMap ET.E):=by
 have:=jh (n:=2) (s:=5) h rfl;rw[Array.toList_append]at this;exact this
section
variable{P:Program}
def AK(w:World)(base:Nat)(t ty e:TypeId)(i:TypeInfo)(z:Value)(b bytes:Nat)(E:P.underlying t=some (.slice e))(B:P.info? e=some i)(Y:i.zero=some z)(q:i.size=b)(p:i.bytes=bytes)(y:z.cells.size=b)(I:0<b)(d:OA)(h n:Nat)(xs:QW)(r:w.ownsRow base e b (.slice d n h) n xs)(A:OA)(m c:Nat)(j:QW)(s:Sl w C b A m j)(R:∀u∈j,u.oneCell'=true)(f:(n+m)*bytes<=140737488355328)(J:0<bytes)(H:base<=w.heap.size):
 ∃A' c' w',(Builtin.append_ #[t,t] ty #[.slice d n h,.slice A m c]).run P w=.ok (.slice A' (n+m) c') w'/\w'.ownsRow base e b (.slice A' (n+m) c') (n+m) (xs++j)/\w.grownBy w' (Value.slice d n h).ownBlock/\((Value.slice A' (n+m) c').ownBlock=(Value.slice d n h).ownBlock∨(Value.slice A' (n+m) c').ownBlock=some w.heap.size):=by
 by_cases W:m=0;subst W;have F:=Gh (zu s.1);subst F;exact⟨d,h,w,by simpa using mq w base t ty e i b E B _ n xs r A c,by simpa using r,World.grownBy.refl w _,.inl rfl⟩;obtain⟨O,rfl,Z⟩:=s.m7 X;have l:n+m<=maxLen:=by
  have:n+m<=(n+m)*bytes:=HR _ J;simp only[maxLen];omega
 obtain⟨v',w',F,h2,T,_,L⟩:=run_append_own_at (P:=P) w base t ty e i z b bytes E B Y q p y I _ n xs r O m c j s.1 Z R l f H;have U:∃A' c',v'=.slice A' (n+m) c':=LB;obtain⟨A',c',rfl⟩:=U;exact⟨A',c',w',F,h2,T,L⟩
def oO{Q:Exit->Act->World->Prop}(s x:Operand)(t:TypeId)(ho:o.op=.call {callee:=.builtin .append,args:=#[s,x],argTypes:=#[t,t]})(base:Nat)(e:TypeId)(i:TypeInfo)(r:Value)(b bytes:Nat)(O:P.underlying t=some (.slice e))(I:P.info? e=some i)(R:i.zero=some r)(q:i.size=b)(p:i.bytes=bytes)(y:r.cells.size=b)(B:0<b)(E:0<bytes)(d:OA)(n g:Nat)(xs:QW)(hs:a.eval s=.slice d n g)(F:w.ownsRow base e b (.slice d n g) n xs)(A:OA)(m c:Nat)(j:QW)(hx:a.eval x=.slice A m c)(J:Sl w C b A m j)(H:∀u∈j,u.oneCell'=true)(f:(n+m)*bytes<=140737488355328)(z:base<=w.heap.size)(h:∀(A':OA) (c':Nat) (w':World),w'.ownsRow base e b (.slice A' (n+m) c') (n+m) (xs++j)->w.grownBy w' (Value.slice d n g).ownBlock->((Value.slice A' (n+m) c').ownBlock=(Value.slice d n g).ownBlock∨(Value.slice A' (n+m) c').ownBlock=some w.heap.size)->K (a.put o.dst (.slice A' (n+m) c')) w'):o.wp P a w K Q:=by
 obtain⟨A',c',w',L,h2,h3,am⟩:=AK (P:=P) w base t o.type e i r b bytes O I R q p y B d g n xs F A m c j J H f E z;exact KW
def jZ{ops:Array Oper}{rest:QZ}{Q:Exit->Act->World->Prop}(B:o.guard=none){s x:Operand}{t:TypeId}(U:o.op=.call {callee:=.builtin .append,args:=#[s,x],argTypes:=#[t,t]})(base:Nat)(e:TypeId)(i:TypeInfo){r:Value}(b bytes:Nat)(Y:P.underlying t=some (.slice e))(T:P.info? e=some i)(hz:i.zero=some r)(q:i.size=b)(p:i.bytes=bytes)(y:r.cells.size=b)(F:0<b)(H:0<bytes)(d:OA)(n g:Nat)(xs:QW)(X:a.eval s=.slice d n g)(I:w.ownsRow base e b (.slice d n g) n xs)(A:OA)(m c:Nat)(j:QW)(Z:a.eval x=.slice A m c)(W:Sl w C b A m j)(L:∀u∈j,u.oneCell'=true)(f:(n+m)*bytes<=140737488355328)(E:base<=w.heap.size)(h:∀(A':OA) (c':Nat) (w':World),w'.ownsRow base e b (.slice A' (n+m) c') (n+m) (xs++j)->w.grownBy w' (Value.slice d n g).ownBlock->((Value.slice A' (n+m) c').ownBlock=(Value.slice d n g).ownBlock∨(Value.slice A' (n+m) c').ownBlock=some w.heap.size)->wpList P ops Q rest (a.put o.dst (.slice A' (n+m) c')) w'):wpList P ops Q (o::rest) a w:=
 wpList_plain B λ_ z=>oO s x t U base e i r b bytes Y T hz q p y F H d n g xs X I A m c j Z W L f E λA' c' w' O R J=>z _ _ (h A' c' w' O R J)
end
def zq(base:Nat)(o:Option Nat)(x:Nat):Prop:=base<=x/\o≠some x
def oK(o:Option Nat):List Nat:=match o with|some b=>[b]|none=>[]
def jK{o:Option Nat}:x∈oK o↔o=some x:=by
 cases o with
 |none=>simp[oK]
 |some b=>simp[oK,eq_comm]
def J.iR{o:Option Nat}(h:w.grownBy w' o):J (oK o) w w':=
 ⟨h.os,h.tape,h.output,h.size,λk c d=>h.block k c (λb=>d (jK.2 b.symm))⟩
def n6{d n:Nat}(h:w.ownsRow base e d v n xs)(q:J M w w')(u:∀x∈M,v.ownBlock≠some x):w'.ownsRow base e d v n xs:=by
 refine⟨h.1,?_⟩;rcases h.2 with m|⟨b,s,j,rfl,p,c,g⟩
 exact .inl m;refine .inr ⟨b,s,j,rfl,p,?_,g⟩;rw[q.block b (kX c) (λr=>u b r rfl)];exact c
def kD{j n:Nat}(h:w.ownsRow base e j v n xs)(b:v.ownBlock=some x):base<=x/\x<w.heap.size:=by
 rcases h.2 with⟨rfl,_⟩|⟨c,p,m,rfl,d,g,_⟩
 cases b
 have:c=x:=by simpa[Value.ownBlock]using b
 subst this;exact⟨d,kX g⟩
structure lL(V:QU)(base D N:Nat)(w:World)(A:OA)(c:Nat)(ts:QV):Prop where
 own:w.ownsRow base 229 8 (.slice A ts.length c) ts.length (ts.flatMap ST.E)
 jo:∀t∈ts,jL (zq base (Value.slice A ts.length c).ownBlock) w t
 sg:l4 V D N ts
def lL.iy{c:Nat}(h:lL V base D N w A c ts)(d:J M w w')(g:∀x∈M,x<base):lL V base D N w' A c ts:=
 ⟨n6 h.own d (λx b j=>by have:=(kD h.own j).1;have:=g x b;omega),λt n=>(h.jo t n).ih d (λx b m=>by have:=g x b;have:=m.1;omega),h.sg⟩
def lL.nil(V:QU)(base D:Nat)(w:World):lL V base D 0 w none 0 []:=⟨iS _ _ _ _,(λ_ b=>by cases b),.nil _⟩
def lL.le{d c:Nat}(h:lL V base D N w A c ts)(b:d<=base):lL V d D N w A c ts:=
 ⟨oA h.own b,λt j=>(h.jo t j).imp λx g=>⟨G_ b g.1,g.2⟩,h.sg⟩
def lL.add{K c c':Nat}{A':OA}{us:QV}(h:lL V base D N w A c ts)(m:w'.ownsRow base 229 8 (.slice A' (ts.length+us.length) c') (ts.length+us.length) (ts.flatMap ST.E++us.flatMap ST.E))(r:w.grownBy w' (Value.slice A ts.length c).ownBlock)(b:(Value.slice A' (ts.length+us.length) c').ownBlock=(Value.slice A ts.length c).ownBlock∨(Value.slice A' (ts.length+us.length) c').ownBlock=some w.heap.size)(y:∀u∈us,jL (zq base (Value.slice A ts.length c).ownBlock) w u)(n:l4 V D K us):lL V base D (N+K) w' A' c' (ts++us):=by
 refine⟨?_,?_,h.sg.append n⟩;rw[I_,Gs];exact m;intro t d;have p:jL (zq base (Value.slice A ts.length c).ownBlock) w t:=by
  rcases W_.1 d with d|d
  exact h.jo t d;exact y t d
 have q:=p.lt.ih (J.iR r) (λx g s=>s.1.2 (jK.1 g));refine q.imp λx g=>⟨g.1.1,?_⟩;rw[I_];rcases b with b|b
 rw[b];exact g.1.2;rw[b];intro j;injection j with j;have:=g.2;omega
def infoSt:(prog.info? 229).map (λi=>(i.zero,i.size,i.bytes))=some (some (.agg S_),8,128):=by kernel_rfl
def infoStr:(prog.info? 9).map (λi=>(i.zero,i.size,i.bytes))=some (some (e_),1,16):=by kernel_rfl
def k7:∀u∈ts.flatMap ST.E,u.oneCell'=true:=by
 intro u b;obtain⟨t,_,b⟩:=HT.1 b;simp[ST.E]at b;rcases b with rfl|rfl|rfl|rfl|rfl|rfl|rfl|rfl<;>rfl
def rf(t:ST)(h:Bk w x 229 t.g_):Sl w 229 8 (j_ x) 1 ([t].flatMap ST.E):=jh (n:=1) h rfl
def BQ:∀k,k<2->∃s,s∈hV/\(#[.string {data:=#[112]},.string {data:=#[113]}]:Array Value)[k]?=some (.string s)
 |0,_=>⟨ph,by simp[hV],rfl⟩
 |1,_=>⟨nc,by simp[hV],rfl⟩
def pB(B g m:Nat)(left loops fn:Int)(d:iN w B g)(c:Bk w m 222 #[q_ g,Y left,Y loops,Y fn])(hBm:B<=m):
 Calls prog 218 #[q_ m] w λe w'=>∃t,e=.returned (.agg t.g_)/\kw (jC w.heap.size) w' t/\EG hV 1 t/\iN w' B g/\J [g] w w':=by
 have bq:=d.wx;have cz:=c.lt;go_enter func218,ntmps218;go_upto_region 1 with fail;have I:J [] w (w.alloc (.cells E_ 226)):=(F_ [] w).alloc _;replace d:=d.hF I;replace c:=c.hF I;have j:=P_ w 226 E_;have Nv:J [g] w (w.alloc (.cells E_ 226)):=(F_ [g] w).alloc _;clear I;obtain⟨bo,co⟩:=nm_ (w.alloc (.cells E_ 226));rw[<-co]at d c j Nv |-;clear co;obtain⟨R0,Z⟩:=nm_ w.heap.size;rw[<-Z]at j |-;have dC:w.heap.size<=R0:=X;have cH:g<R0:=X;have ae:B<=R0:=X;have c8:m<R0:=ov cz;clear Z;have u:∀af∈[g,R0],af<R0+1:=p_;have ag:m≠g:=X;have z:R0≠g:=X;have U:=c.f_ 0
 go_upto_region 2 with(go_at_call 19;refine(ij B g 4 d X X).mono ?_;rintro e w1⟨k,rfl,cq,W,bH,F⟩);clear U;replace c:=c.gr F p_;replace j:=j.gr F p_;replace Nv:=Nv.trans F;replace d:=bH;clear F;rcases(by omega:(k=0)∨(k=1)∨(k=2∨k=3))with cq|W|bZ
 .subst cq;go_upto_region 3 with fail;obtain⟨b,p⟩:=nm_ w1;rw[<-p]at d c j Nv |-;clear p;have y:Ex B g m R0 226 #[q_ g,Y left,Y loops,Y fn] E_ b b:=⟨d,c,j,F_ [g] b⟩;refine iO (Ex B g m R0 226 #[q_ g,Y left,Y loops,Y fn] E_ b) (λ_ Nr=>∃t,Bk Nr R0 226 t.g_/\kw (jC (R0+1)) Nr t/\EG hV (1) t/\iN Nr B g/\J [g,R0] b Nr) (J [g,R0]) [SU.val _ (q_ m),SU.tree u (1),SU.any _] (SU.any _) [[],[0],[1]] true [(some 10,0),(some 11,1),(none,2)] k_ k_ (λ_ _ _ _ _ h=>h) k_ rfl rfl k_ y ⟨?_,?_,?_,trivial⟩ ?_
  exact LA;refine hS [(some 10,0)] ?_;exact JM
  .refine ju [(some 11,1)] ?_;exact JQ
  exact K7
 .subst W;go_upto_region 5 with fail;obtain⟨b,p⟩:=nm_ w1;rw[<-p]at d c j Nv |-;clear p;have y:Ex B g m R0 226 #[q_ g,Y left,Y loops,Y fn] E_ b b:=⟨d,c,j,F_ [g] b⟩;refine iO (Ex B g m R0 226 #[q_ g,Y left,Y loops,Y fn] E_ b) (λ_ Nr=>∃t,Bk Nr R0 226 t.g_/\kw (jC (R0+1)) Nr t/\EG hV (1) t/\iN Nr B g/\J [g,R0] b Nr) (J [g,R0]) [SU.val _ (q_ m),SU.val _ (q_ m),SU.val _ (q_ m),SU.val _ (q_ g),SU.num _ 0 2,SU.pure _ (λv=>v=.agg (jy ph).g_),SU.BI u 226 (jy ph).g_ 1,SU.tree u (0+1),SU.any _] (SU.any _) [[],[0],[1],[2],[3],[],[5],[4,6],[7]] true [(some 14,0),(some 15,1),(some 16,2),(some 17,3),(some 18,4),(some 19,5),(some 20,6),(some 21,7),(none,8)] k_ k_ (λ_ _ _ _ _ h=>h) k_ rfl rfl k_ y ⟨?_,?_,?_,?_,?_,?_,?_,?_,?_,trivial⟩ ?_
  exact LA;refine hS [(some 14,0)] ?_;exact Le;refine hS [(some 15,1)] ?_;exact Le;refine hS [(some 16,2)] ?_;exact J5;refine hS [(some 17,3)] ?_;exact JV
  .refine hS [] ?_;intro vs V C Nw K Nu;clear Nw;try simp only[b_]at Nu |-
   go_simp;go_at_call 145;refine(ki ph).mono ?_;exact MP
  refine hS [(some 19,5)] ?_;intro vs V C Nw K Nu;obtain⟨o, -⟩:=Nw;have o:vs 5=.agg (jy ph).g_:=o;try simp only[b_,o]at Nu |-
  simp only[jy,ET.ik]at Nu |-;exact LV
  .refine hS [(some 18,4),(some 20,6)] ?_;intro vs V C Nw K Nu;obtain⟨⟨R,o,cN,a7⟩,⟨O,aq,cK,bE⟩, -⟩:=Nw;try simp only[b_,o,aq]at Nu |-
   go_simp;exact Nu.out (.agg (pK R (j_ O) (jy ph)).g_) _ C (F_ _ _) ⟨pK R (j_ O) (jy ph),rfl,.mk _ (jh (n:=1) bE rfl) (H_ _) (λx off h _=>by injection h with h;injection h with h;omega) (by intro ai L;rcases O_.1 L with rfl|L;exact kw.leaf _ _ _ _ _ _;cases L),EG.field _ _ _ _ X X (by simp[hV])⟩
  .refine ju [(some 21,7)] ?_;exact JQ
  exact K7
 rcases bZ with rfl|rfl
 all_goals
  go_upto_region 6 with fail;obtain⟨b,p⟩:=nm_ w1;rw[<-p]at d c j Nv |-;clear p;have y:Ex B g m R0 226 #[q_ g,Y left,Y loops,Y fn] E_ b b:=⟨d,c,j,F_ [g] b⟩;refine iO (Ex B g m R0 226 #[q_ g,Y left,Y loops,Y fn] E_ b) (λ_ Nr=>∃t,Bk Nr R0 226 t.g_/\kw (jC (R0+1)) Nr t/\EG hV (1) t/\iN Nr B g/\J [g,R0] b Nr) (J [g,R0]) [SU.BI u 9 #[.string {data:=#[112]},.string {data:=#[113]}] 2,SU.val _ (q_ m),SU.val _ (q_ m),SU.val _ (q_ m),SU.val _ (q_ g),SU.num _ 0 2,SU.elem u 9 #[.string {data:=#[112]},.string {data:=#[113]}] 2,SU.pure _ (λv=>∃s,s∈hV/\v=.string s),SU.tree u (0),SU.any _] (SU.any _) [[],[],[1],[2],[3],[4],[0,5],[6],[7],[8]] true [(some 22,0),(some 23,1),(some 24,2),(some 25,3),(some 26,4),(some 27,5),(some 28,6),(some 29,7),(some 30,8),(none,9)] k_ k_ (λ_ _ _ _ _ h=>h) k_ rfl rfl k_ y ⟨?_,?_,?_,?_,?_,?_,?_,?_,?_,?_,trivial⟩ ?_
  exact KC;exact LA;refine hS [(some 23,1)] ?_;exact Le;refine hS [(some 24,2)] ?_;exact Le;refine hS [(some 25,3)] ?_;exact J5;refine hS [(some 26,4)] ?_;exact JV;refine hS [(some 22,0),(some 27,5)] ?_;exact J6;refine hS [(some 28,6)] ?_;exact Kj
  .refine hS [(some 29,7)] ?_;intro vs V C Nw K Nu;obtain⟨⟨L,O,o⟩, -⟩:=Nw;try simp only[b_,o]at Nu |-
   go_simp;go_at_call 145;refine(ki _).mono ?_;rintro e w1⟨rfl,hg1⟩;exact Nu.out _ _ (C.hF hg1) (hg1.mono H) ⟨jy L,rfl,kw.leaf _ _ _ _ _ _,.var _ _ O⟩
  .refine ju [(some 30,8)] ?_;intro vs V C Nw K Nu;obtain⟨⟨ta,o,ap,E⟩, -⟩:=Nw;try simp only[b_,o]at Nu |-
   refine iZ k_ ?_;refine ic 226 rfl R0 r_ ta.g_ r_ 226 C.r rfl k_ (ET.one _) ?_;intro Nr aB T;exact Nu.out undef _ (λ_=>⟨ta,aB,ap.ih T H,E.mono X,C.d.ih T p_,(C.g.mono H).trans (T.mono H)⟩)
  intro vs bw C;simp only[b_];obtain⟨t,aB,Nt,ar,aI,T⟩:=C;go_wp2;exact rr_ t.g_ aB underlying226 ⟨t,rfl,Nt.le X,ar,aI,Nv.hI T p_⟩
def BH(B g m:Nat)(left loops fn:Int)(v:ByteArray)(hv:v∈hV)(hd:iN w B g)(hm:Bk w m 222 #[q_ g,Y left,Y loops,Y fn])(hBm:B<=m):
 Calls prog 219 #[q_ m,.string v] w λe w'=>∃t,e=.returned (.agg t.g_)/\jL (jC w.heap.size) w' t/\SG hV 1 1 t/\iN w' B g/\J [g] w w':=by
 have Z:=O hv;have bq:=hd.wx;have L:=hm.lt;go_enter func219,ntmps219;go_upto_region 1 with fail;have c:J [] w (w.alloc (.cells S_ 229)):=(F_ [] w).alloc _;replace hd:=hd.hF c;replace hm:=hm.hF c;have hR:=P_ w 229 S_;have Nv:J [g] w (w.alloc (.cells S_ 229)):=(F_ [g] w).alloc _;clear c;obtain⟨I,p⟩:=nm_ (w.alloc (.cells S_ 229));rw[<-p]at hd hm hR Nv |-;clear p;obtain⟨R0,n⟩:=nm_ w.heap.size;rw[<-n]at hR |-;have dC:w.heap.size<=R0:=X;have cH:g<R0:=X;have ae:B<=R0:=X;have c8:m<R0:=ov L;clear n;have aN:∀R∈[g,R0],R<R0+1:=p_;have ag:m≠g:=X;have z:R0≠g:=X;have U:=hm.f_ 0;have aS:=hm.f_ 3
 by_cases j:fn=0
 .have y:(fn==0)=true:=by simp[j]
  clear j;go_wp2_with fail;go_at_call 19;refine(ij B g 2 hd X X).mono ?_;rintro e w1⟨k,rfl,cq,b0,F,b⟩;replace hm:=hm.gr b p_;replace hR:=hR.gr b p_;replace Nv:=Nv.trans b;replace hd:=F;clear b;clear U aS;by_cases s:k=0
  .subst s;go_upto_region 2 with fail;obtain⟨W,aH⟩:=nm_ w1;rw[<-aH]at hd hm hR Nv |-;clear aH;have aV:Ex B g m R0 229 #[q_ g,Y left,Y loops,Y fn] S_ W W.drew:=⟨hd.hF (F_ [] W).drew,hm.hF (F_ [] W).drew,hR.hF (F_ [] W).drew,(F_ [g] W).drew⟩;refine kq (Ex B g m R0 229 #[q_ g,Y left,Y loops,Y fn] S_ W) (λ_ Nr=>∃t,Bk Nr R0 229 t.g_/\jL (jC (R0+1)) Nr t/\SG hV 1 1 t/\iN Nr B g/\J [g,R0] W Nr) (J [g,R0]) [SU.val _ (.string v),SU.val _ (q_ m),SU.tree aN (1),SU.val _ (q_ m),SU.val _ (q_ m),SU.val _ (q_ m),SU.val _ (q_ g),SU.num _ 0 4,SU.tree aN (0),SU.trees aN 2 2,SU.stmt aN (1) (1),SU.any _] (SU.any _) [[],[],[1],[],[3],[4],[5],[6],[7],[2,8],[0,9],[10]] true [(some 18,0),(some 19,1),(some 20,2),(some 21,3),(some 22,4),(some 23,5),(some 24,6),(some 25,7),(some 26,8),(some 27,9),(some 28,10),(none,11)] k_ k_ k_ (λ_ _ _ _ _ h=>h) k_ rfl rfl k_ aV ⟨?_,?_,?_,?_,?_,?_,?_,?_,?_,?_,?_,?_,trivial⟩ ?_
   exact LA;exact LA;refine hS [(some 19,1)] ?_;exact JM;exact LA;refine hS [(some 21,3)] ?_;exact Le;refine hS [(some 22,4)] ?_;exact Le;refine hS [(some 23,5)] ?_;exact J5;refine hS [(some 24,6)] ?_;exact JV;refine hS [(some 25,7)] ?_;intro vs V C Nw K Nu;exact J2;refine hS [(some 20,2),(some 26,8)] ?_;exact Ja
   .refine hS [(some 18,0),(some 27,9)] ?_;intro vs V C Nw K Nu;obtain⟨o,⟨aP,tb,aq,nb,cK,bE,c7⟩, -⟩:=Nw;replace o:_=_:=o;try simp only[b_,o,aq]at Nu |-
    go_simp;have bF:tb.length=_:=nb;have bn:Sl V 226 5 (j_ aP) tb.length (tb.flatMap ET.E):=by rw[bF];exact bE
    have hcl:(lT 3 v p4 0 0 (j_ aP) tb.length tb).g_=_:=rfl;simp only[ST.ik,lT,bF]at hcl;refine Nu.out _ _ C (F_ _ _) ⟨lT 3 v p4 0 0 (j_ aP) tb.length tb,?_,jL.es _ _ _ _ _ bn cK (λu hu=>(c7 u hu).1),SG.leaf (t:=lT 3 v p4 0 0 (j_ aP) tb.length tb) (by show m_ _ 3 v p4 0 0 tb.length _ _;rw[bF];exact .wN _ hv) rfl rfl (λu hu=>(c7 u hu).2)⟩;show Value.agg _=Value.agg (lT 3 v p4 0 0 (j_ aP) tb.length tb).g_;exact Nl
   .refine ju [(some 28,10)] ?_;exact JP
   exact K6
  have bj:(k==0)=false:=by simp[s]
  go_upto_region 3 with fail;obtain⟨W,aH⟩:=nm_ w1;exact IK
 have y:(fn==0)=false:=by simp[j]
 go_upto_region 3 with fail;clear U aS;obtain⟨W,aH⟩:=nm_ I;exact IK
