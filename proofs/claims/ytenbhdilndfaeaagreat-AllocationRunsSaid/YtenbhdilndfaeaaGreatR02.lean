import Derived.Test.YtenbhdilndfaeaaGreatR01
import Derived.BigGuardPart
import Derived.Deep.RegionHeld3
import Derived.IntWalk
set_option maxRecDepth 100000
set_option maxHeartbeats 0
set_option linter.all false
namespace Go.Proofs.YtenbhdilndfaeaaGreat
open Go.RowKit Go.Proofs.Tryz
variable{W:World}{v:Value}{g:Nat}{t:TypeId}{cs:Array Value}(i:Nat)
def GW(W:World):Type:={w':World // J [] W w'}
instance (W:World):Nonempty (GW W):=⟨⟨W,H _ _⟩⟩
def jI{P:Program}{id:Nat}{Q:Exit->Act->World->Prop}{a:Act}{w:World}{l:List Oper}(e:J [] W w)(c:P.follows .mixedOrders=true)(f:Region.lexB .any l.toArray=true)(h:wpQuiet P l.toArray (λw'=>∃x:GW W,w'=x.1) (λa'=>∀w',(∃x:GW W,w'=x.1)->Q .normal a' w') l a):(Code.region id l.toArray true).wp P Q a w:=
 wp_region_quiet (C:=λw'=>∃x:GW W,w'=x.1) c f ⟨⟨_,e.drew⟩,rfl⟩ (zu h)
def Calls.gq{P:Program}{f:FuncId}{args:Array Value}{x:GW W}(h:Calls P f args x.1 λe w'=>e=.returned v/\J [] x.1 w'):Calls P f args x.1 λe c=>e=.returned v/\∃y:GW W,c=y.1:=
 h.mono λ_ c⟨k,m⟩=>⟨k,⟨c,x.2.trans m⟩,rfl⟩
def rI{P:Program}{ops:Array Oper}{Q:Act->Prop}{a:Act}{o:Oper}{rest:List Oper}(c:TypeId)(x:Operand)(u:o.op=.load c x)(g:Nat)(B:a.eval x=q_ g)(t:TypeId)(cs:Array Value)(m:∀y:GW W,Bk y.1 g t cs)(d:TypeDesc)(z:P.underlying c=some d)(n:d.isRow=true)(p:(P.info? c).map (·.size)=some cs.size)(k:Region.wanted o (yielded ops a.tmps)=true)(h:wpQuiet P ops (λw'=>∃x:GW W,w'=x.1) Q rest (a.put o.dst (.agg cs))):wpQuiet P ops (λw'=>∃x:GW W,w'=x.1) Q (o::rest) a:=by
 refine wpQuiet_step λD f=>?_
 rw[O_ k];refine⟨.agg cs,λw' e=>?_,f _ h⟩;obtain⟨y,rfl⟩:=e;have s:=run_loadAt_mid (P:=P) y.1 g 0 c cs.toList d (λj v A=>by rw[W_,(m y).f_];simpa using A) z n (zu p);unfold Oper.quietAt execOp;simp only[u,B,s,Sem.run_bind,Sem.run_pure,Result.andThen_ok];exact⟨rfl,s_⟩
def Bk.gw(h:Bk W g t cs):∀y:GW W,Bk y.1 g t cs:=λy=>h.g_ y.2
def Bk.Ae(h:Bk W g t cs)(i:Nat):∀y:GW W,y.1.cell? (Z g i)=cs[i]?:=λy=>(h.g_ y.2).f_ i
def lp{P:Program}{ops:Array Oper}{Q:Act->Prop}{e:Array Value}{ds:List Deferred}{f:Tmp}{x:Tmp}{c b:TypeId}{pos:String}{a:Array Edge}{k:Option (Nat × Bool)}{rest:List Oper}{d:TypeDesc}(n:∀y:GW W,Bk y.1 g t cs)(s:P.underlying c=some d)(p:d.isRow=true)(q:(P.info? c).map (·.size)=some cs.size)(u:e.getD x undef=q_ g)(m:Region.wanted ⟨some f,.load c (.tmp x),b,pos,a,k⟩ (yielded ops e)=true)(h:wpQuiet P ops (λw'=>∃x:GW W,w'=x.1) Q rest ⟨e.setIfInBounds f (.agg cs),ds⟩):wpQuiet P ops (λw'=>∃x:GW W,w'=x.1) Q (⟨some f,.load c (.tmp x),b,pos,a,k⟩::rest) ⟨e,ds⟩:=
 rI c (.tmp x) rfl g u t cs n d s p q m h
section
variable{P:Program}{Fr ops:Array Oper}{C:World->Prop}{Qh:Act->Prop}{Q:Exit->Act->World->Prop}{N:Nat}{o:Oper}
end
section
variable{P:Program}{ops:Array Oper}{Q:Exit->Act->World->Prop}{md:Region.Mode}{S:World->Prop}{N:Nat}
def j6(P:Program)(md:Region.Mode)(ops:Array Oper)(Q:Exit->Act->World->Prop)(S:World->Prop)(N:Nat):Nat->Array Bool->Act->World->Prop
 |0,listed,a,w=>Region.ready md ops listed=[]/\Q .normal a w
 |fuel+1,listed,a,w=>
  (Region.ready md ops listed=[]->Q .normal a w)/\
  ∀i∈Region.ready md ops listed,wpOp P ops Q i (λa' w'=>(i<N->S w')/\j6 P md ops Q S N fuel (listed.setIfInBounds i true) a' w') a w
def tk:∀(fuel:Nat) (listed:Array Bool) (a:Act) (w:World),j6 P md ops Q S N fuel listed a w->wpAny P md ops Q fuel listed a w
 |0,_,_,_,h=>h
 |fuel+1,_,_,_,h=>⟨h.1,λi c=>wpOp_mono (λa' w' o=>tk fuel _ a' w' o.2) (h.2 i c)⟩
def sC(md:Region.Mode)(ops:Array Oper)(listed:Array Bool):Prop:=
 ∀k ok,ops[k]?=some ok->listed.getD k false=true->∀e∈ok.after,Region.binds md e=true->listed.getD e.on false=true
def nI{j:Nat}{listed:Array Bool}(h:j∈Region.ready md ops listed):listed.getD j false=false:=by
 have c:=(mem_ready.1 h).1;rw[FH]at c |-
 cases e:listed[j]? with
 |none=>rw[e]at c;simp at c
 |some b=>rw[e]at c;simpa using c
def getD_set_true{listed:Array Bool}{j k:Nat}(h:listed.getD k false=true):(listed.setIfInBounds j true).getD k false=true:=by
 rw[FH]at h |-;rw[J_]
 by_cases c:j=k
 .subst c;rw[O_ rfl]
  cases e:listed[j]? with
  |none=>rw[e]at h;simp at h
  |some b=>
   have:=(Gc.1 e).1
   rw[O_ this]
   rfl
 .rw[I_ c];exact h
def sC.set{listed:Array Bool}{j:Nat}(h:sC md ops listed)(s:j∈Region.ready md ops listed):sC md ops (listed.setIfInBounds j true):=by
 intro p ok m n e k f
 by_cases a:j=p
 .subst a;obtain⟨_,oj,c,q⟩:=mem_ready.1 s;rw[m]at c;injection c with c;subst c;exact getD_set_true (q e k f)
 .refine getD_set_true (h p ok m ?_ e k f);rw[FH,J_,I_ a]at n;rw[FH];exact n
def yz(md:Region.Mode)(ops:Array Oper)(listed:Array Bool):Bool:=
 (List.range ops.size).all λk=> !listed.getD k false||((ops[k]?).map λok=>ok.after.all λe=> !Region.binds md e||listed.getD e.on false).getD true
def xI{listed:Array Bool}(h:yz md ops listed=true):sC md ops listed:=by
 intro q ok e p k n m;have f:=(Gc.1 e).1;have c:=FZ.1 h q (Gb.2 f);rw[p,e]at c;simp only[Bool.not_true,Hx,HH,GE]at c
 have:=(Hy.1 c) k n
 rw[m]at this;exact ML
def xw{o:Oper}{fuel:Nat}{listed:Array Bool}{a:Act}{w:World}(e:Region.ready md ops listed=[i])(p:ops[i]?=some o)(h:∀c:Act->World->Prop,Shut (∀a w,(i<N->S w)->j6 P md ops Q S N fuel (listed.setIfInBounds i true) a w->c a w)->if Region.wanted o (yielded ops a.tmps)=true then Oper.wp P o a w c Q else c (a.put o.dst undef) w):
 j6 P md ops Q S N (fuel+1) listed a w:=by
 refine⟨λn=>(by rw[n]at e;cases e),λj f=>?_⟩;rw[e]at f
 have:j=i:=zu f
 subst this;exact wpOp_step p (λc k=>h c (λa w C m=>k a w ⟨C,m⟩))
def jT{l:List Oper}{i:Nat}{o:Oper}{r:List Oper}(h:l.drop i=o::r):l.toArray[i]?=some o:=by
 have:(l.drop i)[0]?=some o:=by rw[h];rfl
 rw[Hv]at this;exact ML
def vT{l:List Oper}{o:Oper}{r:List Oper}{fuel:Nat}{listed:Array Bool}{a:Act}{w:World}(e:l.drop i=o::r)(f:Region.ready md l.toArray listed=[i])(h:∀c:Act->World->Prop,Shut (∀a w,(i<N->S w)->j6 P md l.toArray Q S N fuel (listed.setIfInBounds i true) a w->c a w)->if Region.wanted o (yielded l.toArray a.tmps)=true then Oper.wp P o a w c Q else c (a.put o.dst undef) w):
 j6 P md l.toArray Q S N (fuel+1) listed a w:=xw i f (jT e) h
def hC{listed:Array Bool}{a:Act}{w:World}(c:Region.ready md ops listed=[])(h:Q .normal a w):
 ∀fuel,j6 P md ops Q S N fuel listed a w
 |0=>⟨c,h⟩
 |_+1=>⟨λ_=>h,by rw[c];simp⟩
def hI(S:World->Prop)(N:Nat){id:Nat}{a:Act}{w:World}(c:P.follows .mixedOrders=true)
 (h:j6 P .any ops Q S N ops.size (Array.replicate ops.size false) a w.drew):(Code.region id ops true).wp P Q a w:=
 wp_region_any c (tk _ _ _ _ h)
end
section
variable{P:Program}{ops:Array Oper}{Q:Exit->Act->World->Prop}{o:Oper}{rest:List Oper}{a:Act}{w:World}
def tj(e:Region.wanted o (yielded ops a.tmps)=true)(hy:(execOp a.eval o).run P w=.ok (.value v) w)(h:wpList P ops Q rest (a.put o.dst v) w):wpList P ops Q (o::rest) a w:=
 wpList_step λf c=>by
  rw[O_ e];unfold Oper.wp;rw[hy];exact c _ _ h
def xu(e:Region.wanted o (yielded ops a.tmps)=false)(h:wpList P ops Q rest (a.put o.dst undef) w):wpList P ops Q (o::rest) a w:=
 wpList_step λf c=>by
  rw[I_ (by rw[e];simp)];exact c _ _ h
def uG(k:Region.wanted o (yielded ops a.tmps)=true)(h:∀c:Act->World->Prop,Shut (∀a w,wpList P ops Q rest a w->c a w)->Oper.wp P o a w c Q):wpList P ops Q (o::rest) a w:=
 wpList_step λe f=>by
  rw[O_ k];exact h e f
def se{y:Nat->Option Bool}(h:o.guard=none):Region.wanted o y=true:=by simp[Region.wanted,h]
def pB{l:List Oper}{tl:List Value}{j d:Nat}{oj:Oper}{r:List Oper}{r2:List Value}{b b':Bool}(h:o.guard=some (j,b))(k:l.drop j=oj::r)(f:oj.dst=some d)(m:tl.drop d=.bool b'::r2):
 Region.wanted o (yielded l.toArray tl.toArray)=(b'==b):=by
 have e:tl.toArray[d]?=some (.bool b'):=by
  have:(tl.drop d)[0]?=some (.bool b'):=by rw[m];rfl
  rw[Hv]at this;exact ML
 have c:yielded l.toArray tl.toArray j=some b':=by
  unfold yielded;rw[jT k];simp only[Option.bind_some,f];rw[e]
 simp only[Region.wanted,h,c]
 cases b<;>cases b'<;>rfl
def ip(c:o.guard=none)(hy:(execOp a.eval o).run P w=.ok (.value v) w)(h:wpList P ops Q rest (a.put o.dst v) w):wpList P ops Q (o::rest) a w:=tj (se c) hy h
def nC(e:o.guard=none)(h:∀c:Act->World->Prop,Shut (∀a w,wpList P ops Q rest a w->c a w)->Oper.wp P o a w c Q):wpList P ops Q (o::rest) a w:=uG (se e) h
section
variable{l:List Oper}{tl:List Value}{ds:List Deferred}{j d:Nat}{oj:Oper}{r:List Oper}{r2:List Value}{b b':Bool}
def h9(f:o.guard=some (j,b))(k:l.drop j=oj::r)(e:oj.dst=some d)(m:tl.drop d=.bool b'::r2)(c:(b'==b)=true)(hy:(execOp (Act.eval ⟨tl.toArray,ds⟩) o).run P w=.ok (.value v) w)(h:wpList P l.toArray Q rest (Act.put ⟨tl.toArray,ds⟩ o.dst v) w):wpList P l.toArray Q (o::rest) ⟨tl.toArray,ds⟩ w:=tj ((pB f k e m).trans c) hy h
def iD(f:o.guard=some (j,b))(k:l.drop j=oj::r)(e:oj.dst=some d)(m:tl.drop d=.bool b'::r2)(c:(b'==b)=false)
 (h:wpList P l.toArray Q rest (Act.put ⟨tl.toArray,ds⟩ o.dst undef) w):wpList P l.toArray Q (o::rest) ⟨tl.toArray,ds⟩ w:=xu ((pB f k e m).trans c) h
def nB(k:o.guard=some (j,b))(m:l.drop j=oj::r)(f:oj.dst=some d)(n:tl.drop d=.bool b'::r2)(e:(b'==b)=true)
 (h:∀c:Act->World->Prop,Shut (∀a w,wpList P l.toArray Q rest a w->c a w)->Oper.wp P o ⟨tl.toArray,ds⟩ w c Q):wpList P l.toArray Q (o::rest) ⟨tl.toArray,ds⟩ w:=uG ((pB k m f n).trans e) h
end
end
section
variable{P:Program}{ops:Array Oper}{Q:Exit->Act->World->Prop}{md:Region.Mode}{S:World->Prop}{N:Nat}
def lv(md:Region.Mode)(ops:Array Oper):Nat->Nat->Nat->Bool
 |0,_,_=>false
 |f+1,j,i=>match ops[j]? with
  |none=>false
  |some oj=>oj.after.any λe=>Region.binds md e&&(e.on==i||lv md ops f e.on i)
def kB{listed:Array Bool}(n:sC md ops listed){i:Nat}:∀(f j:Nat),lv md ops f j i=true->(∀oj,ops[j]?=some oj->∀e∈oj.after,Region.binds md e=true->listed.getD e.on false=true)->listed.getD i false=true
 |0,_,h,_=>by cases h
 |f+1,j,h,u=>by
  unfold lv at h
  cases m:ops[j]? with
  |none=>rw[m]at h;cases h
  |some oj=>
   rw[m]at h;simp only at h;obtain⟨q,V,k⟩:=HQ.1 h;simp only[FP,Hw,beq_iff_eq]at k;have p:=u oj m _ (Array.getElem_mem V) k.1
   rcases k.2 with c|c
   .rw[<-c];exact p
   .exact kB n f _ c (λok s=>n _ ok s p)
def t7{listed:Array Bool}{i j:Nat}(h:∀j,N<=j->j<ops.size->lv md ops 16 j i=true)(y:sC md ops listed)(u:i∈Region.ready md ops listed)(x:j∈Region.ready md ops listed):j<N:=by
 rcases FO j N with k|m
 .exact k
 .obtain⟨_,oj,e,p⟩:=mem_ready.1 x;have f:=kB y 16 j (h j m (Gc.1 e).1) (λok c n s q=>by rw[e]at c;injection c with c;subst c;exact p n s q);rw[nI u]at f
  cases f
def ut{i:Nat}{d:Oper}(y:ops[i]?=some d)(q:∀(j:Nat) (o:Oper) cs b,ops[j]?=some o->o.op≠ .select cs b)(I:∀c a w,Q (.panic c) (a.put d.dst v) w->Q (.panic c) a w)(G:∀j,N<=j->j<ops.size->lv md ops 16 j i=true):
 ∀(fuel:Nat) (listed:Array Bool) (a:Act) (w:World),sC md ops listed->
  (∀j oj,ops[j]?=some oj->j≠i->listed.getD j true=false->(∀e∈oj.after,Region.binds md e=true->e.on≠i)->d.apart ops oj=true)->
  i∈Region.ready md ops listed->YieldsIf P ops S d v a->S w->
  j6 P md ops Q S N fuel (listed.setIfInBounds i true) (a.put d.dst v) w->j6 P md ops Q S N (fuel+1) listed a w:=by
 intro fuel
 induction fuel with
 |zero=>
  intro listed a w _ _ f u C n;refine⟨λx=>(by rw[x]at f;cases f),λj k=>?_⟩
  by_cases h:j=i
  .subst h;exact u.wpOp y C ⟨λ_=>C,n⟩
  .have:=ready_mono k h
   rw[n.1]at this
   cases this
 |succ fuel H=>
  intro listed a w A B f u C n;refine⟨λx=>(by rw[x]at f;cases f),λj k=>?_⟩
  by_cases h:j=i
  .subst h;exact u.wpOp y C ⟨λ_=>C,n⟩
  .have p:=n.2 j (ready_mono k h);have R:=t7 G A f k;obtain⟨D,oj,l,F⟩:=mem_ready.1 k
   have g:∀e∈oj.after,Region.binds md e=true->e.on≠i:=λe M L J=>by
    have p:=F e M L;rw[J,nI f]at p
    cases p
   have K:=wpOp_putIf l (B j oj l h D g) (λcs b=>q i d cs b y) (λcs b=>q j oj cs b l) I u p
   have t:∀m ok,ops[m]?=some ok->m≠i->(listed.setIfInBounds j true).getD m true=false->
    (∀e∈ok.after,Region.binds md e=true->e.on≠i)->d.apart ops ok=true:=λm ok O U r E=>by
    refine B m ok O U ?_ E
    by_cases z:j=m
    .subst z;exact D
    .rw[FH,J_,I_ z]at r;rw[FH];exact r
   refine wpOp_mono (λa' T s=>⟨s.2.1,H (listed.setIfInBounds j true) a' T (A.set k) t (ready_mono f (Ne.symm h)) s.1 (s.2.1 R) ?_⟩) K;rw[Array.setIfInBounds_comm _ _ h];exact s.2.2
def xy(md:Region.Mode)(ops:Array Oper)(N i:Nat):Bool:=(List.range ops.size).all λj=>decide (j<N)||lv md ops 16 j i
def qQ{l:List Oper}{d:Oper}{r:List Oper}{fuel:Nat}{listed:Array Bool}{a:Act}{w:World}(f:l.drop i=d::r)(y:Region.noSelect l.toArray=true)(s:Region.free md l.toArray listed i=true)(x:(Region.ready md l.toArray listed).contains i=true)(k:xy md l.toArray N i=true)(u:yz md l.toArray listed=true)(m:∀c a w,Q (.panic c) (a.put d.dst v) w->Q (.panic c) a w)(hy:YieldsIf P l.toArray S d v a)(C:S w)(h:j6 P md l.toArray Q S N fuel (listed.setIfInBounds i true) (a.put d.dst v) w):j6 P md l.toArray Q S N (fuel+1) listed a w:=
 ut (jT f) (Region.noSelect_spec y) m (λj z n=>by
  have e:=FZ.1 k j (Gb.2 n);have p:decide (j<N)=false:=p_;rw[p]at e
  simpa using e) fuel listed a w (xI u) (Region.free_spec (jT f) s) (zu x) hy C h
end
section
variable{P:Program}{md:Region.Mode}{S:World->Prop}{N:Nat}{Q:Exit->Act->World->Prop}{l:List Oper}{fuel:Nat}{listed:Array Bool}{a a':Act}{w:World}
def iH{d:Oper}{r:List Oper}(C:S w)(h:j6 P md l.toArray Q S N fuel (listed.setIfInBounds i true) a' w)(hi:l.drop i=d::r:=by rfl)(hs:Region.noSelect l.toArray=true:=by kernel_rfl)(hf:Region.free md l.toArray listed i=true:=by kernel_rfl)(hr:(Region.ready md l.toArray listed).contains i=true:=by kernel_rfl)(aJ:xy md l.toArray N i=true:=by kernel_rfl)(hl:yz md l.toArray listed=true:=by kernel_rfl)(hy:YieldsIf P l.toArray S d v a:=by exact Or.inl ⟨r_,by(intro w' bq;(try dsimp only at bq);go_simp;with_reducible rfl)⟩)(hp:a.put d.dst v=a':=by(try simp only[a_]);exact rfl)(ai:∀c (a:Act) w,Q (.panic c) (a.put d.dst v) w->Q (.panic c) a w:=by exact λ_ _ _ h=>h):j6 P md l.toArray Q S N (fuel+1) listed a w:=by
 subst hp;exact qQ i hi hs hf hr aJ hl ai hy C h
def hV{o:Oper}{r:List Oper}(h:∀c:Act->World->Prop,Shut (∀a w,(i<N->S w)->j6 P md l.toArray Q S N fuel (listed.setIfInBounds i true) a w->c a w)->if Region.wanted o (yielded l.toArray a.tmps)=true then Oper.wp P o a w c Q else c (a.put o.dst undef) w)(ho:l.drop i=o::r:=by rfl)(hr:Region.ready md l.toArray listed=[i]:=by kernel_rfl):j6 P md l.toArray Q S N (fuel+1) listed a w:=vT i ho hr h
def hX{K:Act->World->Prop}{i:Nat}(MT:Shut (∀a w,(i<N->S w)->j6 P md l.toArray Q S N fuel listed a w->K a w))(C:S w)(h:S w->j6 P md l.toArray Q S N fuel listed a' w)
 (hp:a=a':=by(try simp only[a_]);exact rfl):K a w:=by
 subst hp;exact MT.out _ _ (λ_=>C) (h C)
def nZ(C:S w)(h:S w->j6 P md l.toArray Q S N fuel listed a w):j6 P md l.toArray Q S N fuel listed a w:=h C
end
def uk(a:Array Bool):Nat:=(a.toList.takeWhile id).length
section
variable{P:Program}{md:Region.Mode}{S:World->Prop}{N:Nat}{Q:Exit->Act->World->Prop}{l:List Oper}{fuel:Nat}{listed:Array Bool}{a a':Act}{w:World}
def jW{i:Nat}{d:Oper}{r:List Oper}(C:S w)(h:j6 P md l.toArray Q S N fuel (listed.setIfInBounds i true) a' w)(hn:uk listed=i:=by first|exact(by kernel_rfl:uk _=0)|exact(by kernel_rfl:uk _=1)|exact(by kernel_rfl:uk _=2)|exact(by kernel_rfl:uk _=3)|exact(by kernel_rfl:uk _=4)|exact(by kernel_rfl:uk _=5)|exact(by kernel_rfl:uk _=6)|exact(by kernel_rfl:uk _=7)|exact(by kernel_rfl:uk _=8)|exact(by kernel_rfl:uk _=9)|exact(by kernel_rfl:uk _=10)|exact(by kernel_rfl:uk _=11)|exact(by kernel_rfl:uk _=12)|exact(by kernel_rfl:uk _=13)|exact(by kernel_rfl:uk _=14)|exact(by kernel_rfl:uk _=15)|exact(by kernel_rfl:uk _=16)|exact(by kernel_rfl:uk _=17)|exact(by kernel_rfl:uk _=18)|exact(by kernel_rfl:uk _=19)|exact(by kernel_rfl:uk _=20))(hi:l.drop i=d::r:=by rfl)(hs:Region.noSelect l.toArray=true:=by kernel_rfl)(hf:Region.free md l.toArray listed i=true:=by kernel_rfl)(hr:(Region.ready md l.toArray listed).contains i=true:=by kernel_rfl)(aJ:xy md l.toArray N i=true:=by kernel_rfl)(hl:yz md l.toArray listed=true:=by kernel_rfl)(hy:YieldsIf P l.toArray S d v a:=by exact Or.inl ⟨r_,by(intro w' bq;(try dsimp only at bq);go_simp;with_reducible rfl)⟩)(hp:a.put d.dst v=a':=by(try simp only[a_]);exact rfl)(ai:∀c (a:Act) w,Q (.panic c) (a.put d.dst v) w->Q (.panic c) a w:=by exact λ_ _ _ h=>h):j6 P md l.toArray Q S N (fuel+1) listed a w:=by
 subst hp;exact qQ i hi hs hf hr aJ hl ai hy C h
end
