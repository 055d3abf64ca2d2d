import Derived.BigGuardPart
import Derived.IntWalk
import Derived.Test.YtenbhdilndfaeaaGreatH09
set_option maxRecDepth 100000
set_option maxHeartbeats 0
set_option linter.all false
namespace Go.Proofs.YtenbhdilndfaeaaGreat
open Go.RowKit Go.Proofs.Tryz
section
variable{W:World}{v:Value}{g:Nat}{t:TypeId}{cs:Array Value}(i:Nat)
def GW(W:World):Type:={w':World // J [] W w'}
instance (W:World):Nonempty (GW W):=⟨⟨W,G_ _ _⟩⟩
def jW{P:Program}{id:Nat}{Q:Exit->Act->World->Prop}{a:Act}{w:World}{l:QZ}(c:J [] W w)(f:P.follows .mixedOrders=true)(e:Region.lexB .any l.toArray=true)(h:wpQuiet P l.toArray (λw'=>∃x:GW W,w'=x.1) (λa'=>∀w',(∃x:GW W,w'=x.1)->Q .normal a' w') l a):(Code.region id l.toArray true).wp P Q a w:=
 wp_region_quiet (C:=λw'=>∃x:GW W,w'=x.1) f e ⟨⟨_,c.drew⟩,rfl⟩ (zu h)
def Calls.gq{P:Program}{f:FuncId}{args:Array Value}{x:GW W}(h:Calls P f args x.1 λe w'=>e=.returned v/\J [] x.1 w'):Calls P f args x.1 λe c=>e=.returned v/\∃y:GW W,c=y.1:=
 h.mono λ_ c⟨k,m⟩=>⟨k,⟨c,x.2.trans m⟩,rfl⟩
def rO{P:Program}{ops:Array Oper}{Q:Act->Prop}{a:Act}{o:Oper}{rest:QZ}(c:TypeId)(x:Operand)(u:o.op=.load c x)(g:Nat)(B:a.eval x=q_ g)(t:TypeId)(cs:Array Value)(m:∀y:GW W,Bk y.1 g t cs)(d:TypeDesc)(z:P.underlying c=some d)(n:d.isRow=true)(p:(P.info? c).map (·.size)=some cs.size)(k:Region.wanted o (yielded ops a.tmps)=true)(h:wpQuiet P ops (λw'=>∃x:GW W,w'=x.1) Q rest<|a.put o.dst<|.agg cs):wpQuiet P ops (λw'=>∃x:GW W,w'=x.1) Q (o::rest) a:=by
 refine wpQuiet_step λD f=>?_;rw[L_ k];refine⟨.agg cs,λw' e=>?_,f _ h⟩;obtain⟨y,rfl⟩:=e;have s:=run_loadAt_mid (P:=P) y.1 g 0 c cs.toList d (λj v A=>by rw[U_,(m y).f_];simpa using A) z n<|zu p;unfold Oper.quietAt execOp;simp only[u,B,s,Sem.run_bind,Sem.run_pure,Result.andThen_ok];exact⟨rfl,s_⟩
def Bk.gw(h:Bk W g t cs):∀y:GW W,Bk y.1 g t cs:=λy=>h.hF y.2
def Bk.AV(h:Bk W g t cs)(i:Nat):∀y:GW W,y.1.cell? (Z g i)=cs[i]?:=λy=>(h.hF y.2).f_ i
def ly{P:Program}{ops:Array Oper}{Q:Act->Prop}{e:Array Value}{ds:List Deferred}{f:Tmp}{x:Tmp}{c b:TypeId}{pos:String}{a:Array Edge}{k:Option (Nat × Bool)}{rest:QZ}{d:TypeDesc}(n:∀y:GW W,Bk y.1 g t cs)(s:P.underlying c=some d)(p:d.isRow=true)(q:(P.info? c).map (·.size)=some cs.size)(u:e.getD x undef=q_ g)(m:Region.wanted ⟨some f,.load c<|.tmp x,b,pos,a,k⟩ (yielded ops e)=true)(h:wpQuiet P ops (λw'=>∃x:GW W,w'=x.1) Q rest ⟨e.setIfInBounds f<|.agg cs,ds⟩):wpQuiet P ops (λw'=>∃x:GW W,w'=x.1) Q (⟨some f,.load c<|.tmp x,b,pos,a,k⟩::rest) ⟨e,ds⟩:=
 rO c (.tmp x) rfl g u t cs n d s p q m h
section
variable{P:Program}{Gs ops:Array Oper}{C:World->Prop}{Qh:Act->Prop}{Q:Exit->Act->World->Prop}{N:Nat}{o:Oper}
end
section
variable{P:Program}{ops:Array Oper}{Q:Exit->Act->World->Prop}{md:Region.Mode}{S:World->Prop}{N:Nat}
def j5(P:Program)(md:Region.Mode)(ops:Array Oper)(Q:Exit->Act->World->Prop)(S:World->Prop)(N:Nat):Nat->Array Bool->Act->World->Prop
 |0,listed,a,w=>Region.ready md ops listed=[]/\Q .normal a w
 |fuel+1,listed,a,w=>
  (Region.ready md ops listed=[]->Q .normal a w)/\
  ∀i∈Region.ready md ops listed,wpOp P ops Q i (λa' w'=>(i<N->S w')/\j5 P md ops Q S N fuel (listed.setIfInBounds i true) a' w') a w
def tv:∀(fuel:Nat) (listed:Array Bool) (a:Act) (w:World),j5 P md ops Q S N fuel listed a w->wpAny P md ops Q fuel listed a w
 |0,_,_,_,h=>h
 |fuel+1,_,_,_,h=>⟨h.1,λi e=>wpOp_mono (λa' w' c=>tv fuel _ a' w' c.2)<|h.2 i e⟩
def sN(md:Region.Mode)(ops:Array Oper)(listed:Array Bool):Prop:=
 ∀k ok,ops[k]?=some ok->listed.getD k false=true->∀e∈ok.after,Region.binds md e=true->listed.getD e.on false=true
def nQ{j:Nat}{listed:Array Bool}(h:j∈Region.ready md ops listed):listed.getD j false=false:=by
 have c:=(mem_ready.1 h).1;rw[GM]at c |-
 cases e:listed[j]? with
 |none=>rw[e]at c;simp at c
 |some b=>rw[e]at c;simpa using c
def getD_set_true{listed:Array Bool}{j k:Nat}(h:listed.getD k false=true):(listed.setIfInBounds j true).getD k false=true:=by
 rw[GM]at h |-;rw[Q_]
 by_cases c:j=k
 .subst c;rw[L_ rfl];cases e:listed[j]? with
  |none=>rw[e]at h;simp at h
  |some b=>
   have:=(Hp.1 e).1;rw[L_ this];rfl
 rw[K_ c];exact h
def sN.set{listed:Array Bool}{j:Nat}(h:sN md ops listed)(s:j∈Region.ready md ops listed):sN md ops (listed.setIfInBounds j true):=by
 intro p ok m n e k f;by_cases a:j=p;subst a;obtain⟨_,oj,c,q⟩:=mem_ready.1 s;rw[m]at c;injection c with c;subst c;exact getD_set_true<|q e k f;refine getD_set_true<|h p ok m ?_ e k f;rw[GM,Q_,K_ a]at n;rw[GM];exact n
def y5(md:Region.Mode)(ops:Array Oper)(listed:Array Bool):Bool:=
 (List.range ops.size).all λk=> !listed.getD k false||((ops[k]?).map λok=>ok.after.all λe=> !Region.binds md e||listed.getD e.on false).getD true
def x_{listed:Array Bool}(h:y5 md ops listed=true):sN md ops listed:=by
 intro q ok e p k n m;have f:=(Hp.1 e).1;have c:=G6.1 h q<|Ho.2 f;rw[p,e]at c;simp only[Bool.not_true,IG,IC,HO]at c;have:=(IH.1 c) k n;rw[m]at this;exact NW
def xX{o:Oper}{fuel:Nat}{listed:Array Bool}{a:Act}{w:World}(c:Region.ready md ops listed=[i])(p:ops[i]?=some o)(h:∀e:Act->World->Prop,Shut (∀a w,(i<N->S w)->j5 P md ops Q S N fuel (listed.setIfInBounds i true) a w->e a w)->if Region.wanted o (yielded ops a.tmps)=true then Oper.wp P o a w e Q else e (a.put o.dst undef) w):
 j5 P md ops Q S N (fuel+1) listed a w:=by
 refine⟨λn=>(by rw[n]at c;cases c),λj f=>?_⟩;rw[c]at f;have:j=i:=zu f;subst this;exact wpOp_step p λe k=>h e λa w C m=>k a w ⟨C,m⟩
def jP{l:QZ}{i:Nat}{o:Oper}{r:QZ}(h:l.drop i=o::r):l.toArray[i]?=some o:=by
 have:(l.drop i)[0]?=some o:=by rw[h];rfl
 rw[IF]at this;exact NW
def wx{l:QZ}{o:Oper}{r:QZ}{fuel:Nat}{listed:Array Bool}{a:Act}{w:World}(c:l.drop i=o::r)(f:Region.ready md l.toArray listed=[i])(h:∀e:Act->World->Prop,Shut (∀a w,(i<N->S w)->j5 P md l.toArray Q S N fuel (listed.setIfInBounds i true) a w->e a w)->if Region.wanted o (yielded l.toArray a.tmps)=true then Oper.wp P o a w e Q else e (a.put o.dst undef) w):
 j5 P md l.toArray Q S N (fuel+1) listed a w:=xX i f (jP c) h
def hN{listed:Array Bool}{a:Act}{w:World}(c:Region.ready md ops listed=[])(h:Q .normal a w):
 ∀fuel,j5 P md ops Q S N fuel listed a w
 |0=>⟨c,h⟩
 |_+1=>⟨λ_=>h,by rw[c];simp⟩
def hS(S:World->Prop)(N:Nat){id:Nat}{a:Act}{w:World}(c:P.follows .mixedOrders=true)
 (h:j5 P .any ops Q S N ops.size (Array.replicate ops.size false) a w.drew):(Code.region id ops true).wp P Q a w:=
 wp_region_any c (tv _ _ _ _ h)
end
section
variable{P:Program}{ops:Array Oper}{Q:Exit->Act->World->Prop}{o:Oper}{rest:QZ}{a:Act}{w:World}
def tu(e:Region.wanted o (yielded ops a.tmps)=true)(hy:(execOp a.eval o).run P w=.ok (.value v) w)(h:wpList P ops Q rest (a.put o.dst v) w):wpList P ops Q (o::rest) a w:=
 wpList_step λf c=>by
  rw[L_ e];unfold Oper.wp;rw[hy];exact c _ _ h
def xV(e:Region.wanted o (yielded ops a.tmps)=false)(h:wpList P ops Q rest (a.put o.dst undef) w):wpList P ops Q (o::rest) a w:=
 wpList_step λf c=>by
  rw[K_<|by rw[e];simp];exact c _ _ h
def uV(k:Region.wanted o (yielded ops a.tmps)=true)(h:∀e:Act->World->Prop,Shut (∀a w,wpList P ops Q rest a w->e a w)->Oper.wp P o a w e Q):wpList P ops Q (o::rest) a w:=
 wpList_step λf c=>by
  rw[L_ k];exact h f c
def sk{y:Nat->Option Bool}(h:o.guard=none):Region.wanted o y=true:=by simp[Region.wanted,h]
def pG{l:QZ}{tl:QX}{j d:Nat}{oj:Oper}{r:QZ}{r2:QX}{b b':Bool}(h:o.guard=some (j,b))(k:l.drop j=oj::r)(f:oj.dst=some d)(m:tl.drop d=.bool b'::r2):
 Region.wanted o (yielded l.toArray tl.toArray)=(b'==b):=by
 have e:tl.toArray[d]?=some (.bool b'):=by
  have:(tl.drop d)[0]?=some (.bool b'):=by rw[m];rfl
  rw[IF]at this;exact NW
 have c:yielded l.toArray tl.toArray j=some b':=by
  unfold yielded;rw[jP k];simp only[Option.bind_some,f];rw[e]
 simp only[Region.wanted,h,c];cases b<;>cases b'<;>rfl
def ij(c:o.guard=none)(hy:(execOp a.eval o).run P w=.ok (.value v) w)(h:wpList P ops Q rest (a.put o.dst v) w):wpList P ops Q (o::rest) a w:=tu (sk c) hy h
def nK(c:o.guard=none)(h:∀e:Act->World->Prop,Shut (∀a w,wpList P ops Q rest a w->e a w)->Oper.wp P o a w e Q):wpList P ops Q (o::rest) a w:=uV (sk c) h
section
variable{l:QZ}{tl:QX}{ds:List Deferred}{j d:Nat}{oj:Oper}{r:QZ}{r2:QX}{b b':Bool}
def h8(f:o.guard=some (j,b))(k:l.drop j=oj::r)(e:oj.dst=some d)(m:tl.drop d=.bool b'::r2)(c:(b'==b)=true)(hy:(execOp (Act.eval ⟨tl.toArray,ds⟩) o).run P w=.ok (.value v) w)(h:wpList P l.toArray Q rest (Act.put ⟨tl.toArray,ds⟩ o.dst v) w):wpList P l.toArray Q (o::rest) ⟨tl.toArray,ds⟩ w:=tu ((pG f k e m).trans c) hy h
def iM(f:o.guard=some (j,b))(k:l.drop j=oj::r)(e:oj.dst=some d)(m:tl.drop d=.bool b'::r2)(c:(b'==b)=false)
 (h:wpList P l.toArray Q rest (Act.put ⟨tl.toArray,ds⟩ o.dst undef) w):wpList P l.toArray Q (o::rest) ⟨tl.toArray,ds⟩ w:=xV ((pG f k e m).trans c) h
def km(k:o.guard=some (j,b))(m:l.drop j=oj::r)(f:oj.dst=some d)(n:tl.drop d=.bool b'::r2)(c:(b'==b)=true)
 (h:∀e:Act->World->Prop,Shut (∀a w,wpList P l.toArray Q rest a w->e a w)->Oper.wp P o ⟨tl.toArray,ds⟩ w e Q):wpList P l.toArray Q (o::rest) ⟨tl.toArray,ds⟩ w:=uV ((pG k m f n).trans c) h
end
end
section
variable{P:Program}{ops:Array Oper}{Q:Exit->Act->World->Prop}{md:Region.Mode}{S:World->Prop}{N:Nat}
def lB(md:Region.Mode)(ops:Array Oper):Nat->Nat->Nat->Bool
 |0,_,_=>false
 |f+1,j,i=>match ops[j]? with
  |none=>false
  |some oj=>oj.after.any λe=>Region.binds md e&&(e.on==i||lB md ops f e.on i)
def kM{listed:Array Bool}(n:sN md ops listed){i:Nat}:∀(f j:Nat),lB md ops f j i=true->(∀oj,ops[j]?=some oj->∀e∈oj.after,Region.binds md e=true->listed.getD e.on false=true)->listed.getD i false=true
 |0,_,h,_=>by cases h
 |f+1,j,h,x=>by
  unfold lB at h;cases m:ops[j]? with
  |none=>rw[m]at h;cases h
  |some oj=>
   rw[m]at h;simp only at h;obtain⟨q,s,k⟩:=I0.1 h;simp only[G4,Iu,beq_iff_eq]at k;have p:=x oj m _ (Array.getElem_mem s) k.1;rcases k.2 with c|c
   rw[<-c];exact p;exact kM n f _ c λok u=>n _ ok u p
def ui{listed:Array Bool}{i j:Nat}(h:∀j,N<=j->j<ops.size->lB md ops 16 j i=true)(y:sN md ops listed)(u:i∈Region.ready md ops listed)(x:j∈Region.ready md ops listed):j<N:=by
 rcases GU j N with k|m
 exact k;obtain⟨_,oj,e,p⟩:=mem_ready.1 x;have f:=kM y 16 j (h j m (Hp.1 e).1) (λok c n s q=>by rw[e]at c;injection c with c;subst c;exact p n s q);rw[nQ u]at f;cases f
def uC{i:Nat}{d:Oper}(y:ops[i]?=some d)(q:∀(j:Nat) (o:Oper) cs b,ops[j]?=some o->o.op≠ .select cs b)(G:∀c a w,Q (.panic c) (a.put d.dst v) w->Q (.panic c) a w)(F:∀j,N<=j->j<ops.size->lB md ops 16 j i=true):
 ∀(fuel:Nat) (listed:Array Bool) (a:Act) (w:World),sN md ops listed->
  (∀j oj,ops[j]?=some oj->j≠i->listed.getD j true=false->(∀e∈oj.after,Region.binds md e=true->e.on≠i)->d.apart ops oj=true)->
  i∈Region.ready md ops listed->YieldsIf P ops S d v a->S w->
  j5 P md ops Q S N fuel (listed.setIfInBounds i true) (a.put d.dst v) w->j5 P md ops Q S N (fuel+1) listed a w:=by
 intro fuel;induction fuel with
 |zero=>
  intro listed a w _ _ f u C n;refine⟨λx=>(by rw[x]at f;cases f),λj k=>?_⟩;by_cases h:j=i;subst h;exact u.wpOp y C ⟨λ_=>C,n⟩;have:=ready_mono k h;rw[n.1]at this;cases this
 |succ fuel E=>
  intro listed a w A g f u C n;refine⟨λx=>(by rw[x]at f;cases f),λj k=>?_⟩;by_cases h:j=i;subst h;exact u.wpOp y C ⟨λ_=>C,n⟩;have p:=n.2 j<|ready_mono k h;have O:=ui F A f k;obtain⟨B,oj,l,D⟩:=mem_ready.1 k;have M:∀e∈oj.after,Region.binds md e=true->e.on≠i:=λe K J H=>by
   have p:=D e K J;rw[H,nQ f]at p;cases p
  have I:=wpOp_putIf l (g j oj l h B M) (λcs b=>q i d cs b y) (λcs b=>q j oj cs b l) G u p;have t:∀m ok,ops[m]?=some ok->m≠i->(listed.setIfInBounds j true).getD m true=false->
   (∀e∈ok.after,Region.binds md e=true->e.on≠i)->d.apart ops ok=true:=λm ok L T r U=>by
   refine g m ok L T ?_ U;by_cases z:j=m;subst z;exact B;rw[GM,Q_,K_ z]at r;rw[GM];exact r
  refine wpOp_mono (λa' R s=>⟨s.2.1,E (listed.setIfInBounds j true) a' R (A.set k) t (ready_mono f<|Ne.symm h) s.1 (s.2.1 O) ?_⟩) I;rw[Array.setIfInBounds_comm _ _ h];exact s.2.2
def xY(md:Region.Mode)(ops:Array Oper)(N i:Nat):Bool:=(List.range ops.size).all λj=>decide (j<N)||lB md ops 16 j i
def q0{l:QZ}{d:Oper}{r:QZ}{fuel:Nat}{listed:Array Bool}{a:Act}{w:World}(f:l.drop i=d::r)(y:Region.noSelect l.toArray=true)(s:Region.free md l.toArray listed i=true)(x:(Region.ready md l.toArray listed).contains i=true)(k:xY md l.toArray N i=true)(u:y5 md l.toArray listed=true)(m:∀c a w,Q (.panic c) (a.put d.dst v) w->Q (.panic c) a w)(hy:YieldsIf P l.toArray S d v a)(C:S w)(h:j5 P md l.toArray Q S N fuel (listed.setIfInBounds i true) (a.put d.dst v) w):j5 P md l.toArray Q S N (fuel+1) listed a w:=
 uC (jP f) (Region.noSelect_spec y) m (λj z n=>by
  have e:=G6.1 k j<|Ho.2 n;have p:decide (j<N)=false:=p_;rw[p]at e;simpa using e) fuel listed a w (x_ u) (Region.free_spec (jP f) s) (zu x) hy C h
end
section
variable{P:Program}{md:Region.Mode}{S:World->Prop}{N:Nat}{Q:Exit->Act->World->Prop}{l:QZ}{fuel:Nat}{listed:Array Bool}{a a':Act}{w:World}
def iC{d:Oper}{r:QZ}(C:S w)(h:j5 P md l.toArray Q S N fuel (listed.setIfInBounds i true) a' w)(hi:l.drop i=d::r:=by rfl)(hs:Region.noSelect l.toArray=true:=by kernel_rfl)(hf:Region.free md l.toArray listed i=true:=by kernel_rfl)(hr:(Region.ready md l.toArray listed).contains i=true:=by kernel_rfl)(aI:xY md l.toArray N i=true:=by kernel_rfl)(hl:y5 md l.toArray listed=true:=by kernel_rfl)(hy:YieldsIf P l.toArray S d v a:=by exact Or.inl ⟨r_,by(intro w' aZ;(try dsimp only at aZ);go_simp;with_reducible rfl)⟩)(hp:a.put d.dst v=a':=by(try simp only[a_]);exact rfl)(af:∀c (a:Act) w,Q (.panic c) (a.put d.dst v) w->Q (.panic c) a w:=by exact λ_ _ _ h=>h):j5 P md l.toArray Q S N (fuel+1) listed a w:=by
 subst hp;exact q0 i hi hs hf hr aI hl af hy C h
def h4{o:Oper}{r:QZ}(h:∀e:Act->World->Prop,Shut (∀a w,(i<N->S w)->j5 P md l.toArray Q S N fuel (listed.setIfInBounds i true) a w->e a w)->if Region.wanted o (yielded l.toArray a.tmps)=true then Oper.wp P o a w e Q else e (a.put o.dst undef) w)(ho:l.drop i=o::r:=by rfl)(hr:Region.ready md l.toArray listed=[i]:=by kernel_rfl):j5 P md l.toArray Q S N (fuel+1) listed a w:=wx i ho hr h
def hZ{K:Act->World->Prop}{i:Nat}(H:Shut (∀a w,(i<N->S w)->j5 P md l.toArray Q S N fuel listed a w->K a w))(C:S w)(h:S w->j5 P md l.toArray Q S N fuel listed a' w)
 (hp:a=a':=by(try simp only[a_]);exact rfl):K a w:=by
 subst hp;exact H.out _ _ (λ_=>C)<|h C
def m6(C:S w)(h:S w->j5 P md l.toArray Q S N fuel listed a w):j5 P md l.toArray Q S N fuel listed a w:=h C
end
def uw(a:Array Bool):Nat:=(a.toList.takeWhile id).length
section
variable{P:Program}{md:Region.Mode}{S:World->Prop}{N:Nat}{Q:Exit->Act->World->Prop}{l:QZ}{fuel:Nat}{listed:Array Bool}{a a':Act}{w:World}
def j8{i:Nat}{d:Oper}{r:QZ}(C:S w)(h:j5 P md l.toArray Q S N fuel (listed.setIfInBounds i true) a' w)(hn:uw listed=i:=by first|exact(by kernel_rfl:uw _=0)|exact(by kernel_rfl:uw _=1)|exact(by kernel_rfl:uw _=2)|exact(by kernel_rfl:uw _=3)|exact(by kernel_rfl:uw _=4)|exact(by kernel_rfl:uw _=5)|exact(by kernel_rfl:uw _=6)|exact(by kernel_rfl:uw _=7)|exact(by kernel_rfl:uw _=8)|exact(by kernel_rfl:uw _=9)|exact(by kernel_rfl:uw _=10)|exact(by kernel_rfl:uw _=11)|exact(by kernel_rfl:uw _=12)|exact(by kernel_rfl:uw _=13)|exact(by kernel_rfl:uw _=14)|exact(by kernel_rfl:uw _=15)|exact(by kernel_rfl:uw _=16)|exact(by kernel_rfl:uw _=17)|exact(by kernel_rfl:uw _=18)|exact(by kernel_rfl:uw _=19)|exact(by kernel_rfl:uw _=20))(hi:l.drop i=d::r:=by rfl)(hs:Region.noSelect l.toArray=true:=by kernel_rfl)(hf:Region.free md l.toArray listed i=true:=by kernel_rfl)(hr:(Region.ready md l.toArray listed).contains i=true:=by kernel_rfl)(aI:xY md l.toArray N i=true:=by kernel_rfl)(hl:y5 md l.toArray listed=true:=by kernel_rfl)(hy:YieldsIf P l.toArray S d v a:=by exact Or.inl ⟨r_,by(intro w' aZ;(try dsimp only at aZ);go_simp;with_reducible rfl)⟩)(hp:a.put d.dst v=a':=by(try simp only[a_]);exact rfl)(af:∀c (a:Act) w,Q (.panic c) (a.put d.dst v) w->Q (.panic c) a w:=by exact λ_ _ _ h=>h):j5 P md l.toArray Q S N (fuel+1) listed a w:=by
 subst hp;exact q0 i hi hs hf hr aI hl af hy C h
end
end
variable{G:Prop}{g k:Nat}{cur:Array Value}{R:Ending->World->Prop}(A:OA)(c:Nat)(t:Tk)(d:Dl)(w:World)
def JF(h:G:=by
 clear hp am;exact JH):G:=h
def JG(h:G:=by
 clear hp;exact JH):G:=h
def JH(h:G:=by
 refine jW (W:=ae) (G_ _ _) k_ k_ ?_;repeat(first|((with_reducible refine ly (N1.gw) underlying53 (by with_unfolding_all rfl) ak (by with_unfolding_all rfl) (by with_unfolding_all rfl) ?_);simp only[HJ,HT,HX])|go_big_quiet_step (((first|(go_at_call 128;exact Calls.gq<|G.out _)|(go_at_call_of 129 (Value.slice t.ws.A t.ws.l.length t.ws.c);exact Calls.gq<|bo.out _)|(go_at_call_of 129 (Value.slice t.rs.A t.rs.l.length t.rs.c);exact Calls.gq<|bn.out _)))))
 exact Mb):G:=h
def MA(h:G:=by
 have ar:=N2.hJ aO p_;exact me t.g_ (.bool false) m underlying53 ⟨t,rfl,ht.hF ar,rfl,ar⟩):G:=h
def nC(P:iP)(b:Bool)(w:World)(e:Ending)(w':World):Prop:=∃t:Tk,e=.returned (.tuple #[.agg t.g_,.bool b])/\kV w' t/\t.p=P/\J [] w w'
def yI(l:QC)(id f:Int): -1<=pk l id f/\pk l id f<l.length:=by
 have:=nI (λc:Dl=>c.id==id&&c.f==f) l 0;unfold pk;exact NW
def zh(l:QQ)(id:Int): -1<=jx l id/\jx l id<l.length:=by
 have:=nI (λa:Ob=>a.id==id) l 0;unfold jx;exact NW
def DF{W:World}{p:Addr}{v:Value}(h:W.cell? p=some v):∀y:GW W,y.1.cell? p=some v:=λy=>y.2.f_ h s_
def tT(x:Int)(h: -1<=x):x= -1\/∃n:Nat,x=n:=by
 by_cases a:x= -1;exact .inl a;exact .inr ⟨x.toNat,X⟩
def o4(t:iP)(d:Dl):Bool:=(take t d).isNone
def Sl.E5{w:World}{f:TypeId}{l:QC}(H:Bk w g f cur)(h:∀(i:Nat) (u:Value),(l.flatMap Dl.E)[i]?=some u->cur[i]?=some u)(b:k<l.length):
 w.cell? (Z g<|k*5+3)=some (.bool l[k].v.r)/\w.cell? (Z g<|k*5+4)=some (Y l[k].v.n):=by
 have g:=λe a=>jr Dl.E 5 (λ_=>rfl) l k e b a;exact⟨(H.f_ _).trans<|h (k*5+3) _<|g 3 X,(H.f_ _).trans<|h (k*5+4) _<|g 4 X⟩
def Bp{j:Type}(E:j->List Value)(f:∀n,(E n).length=5){w:World}{e:TypeId}{l:List j}(m:k<l.length)(r:j){x y:Value}(C:E r=(E l[k]).take 3++[x,y])(v:Bk w g e cur)(h:∀(i:Nat) (u:Value),(l.flatMap E)[i]?=some u->cur[i]?=some u):
 Sl ((w.setCell (Z g<|k*5+3) x).setCell (Z g<|k*5+4) y) e 5 (j_ g) l.length ((l.set k r).flatMap E):=by
 have p:=(v.hW (k*5+3) x).hW (k*5+4) y;have iS:=kA E 5 f l;have D:k*5+4<cur.size:=by
  have B:k*5+4<(l.flatMap E).length:=X;have:=h _ _<|O_ B;rcases GU (k*5+4) cur.size with h|h
  exact h;exact NR
 refine⟨by rw[kA E 5 f];simp,λ_=>⟨g,0,_,_,rfl,p,λb u a=>?_⟩⟩;rw[U_];refine q8 E 5 f X l k m r cur h (λb u a=>?_) (λi F=>?_) b u a;have s:((E l[k]).take 3).length=3:=by rw[Hj,f];rfl
 rw[C]at a;by_cases z:b<3;rw[HN X,Hv,L_ z]at a;rw[Q_,K_ X,Q_,K_ X];exact h _ _ (by rw[jr E 5 f l k b m X];exact a);rw[HV X,s]at a;have o:b=3\/b=4:=by
  rcases GU (b-3) 2 with h|h
  omega;rw[G7<|zu h]at a;cases a
 rcases o with rfl|rfl
 simp at a;subst a;rw[Q_,K_ X,Q_,L_ rfl,L_ X];simp at a;subst a;rw[Q_,L_ rfl,L_ p_];rw[Q_,K_ X,Q_,K_ X]
def jk{a b:Bool}(h:a=b):Value.bool a=Value.bool b:=by rw[h]
def uZ(ht:kV w t)(ay:t.ds.l.length<=1000000000)(al:t.nw.l.length<=1000000000)(H:t.ws.l.length<=1000000000)(V:t.rs.l.length<=1000000000)(z:R=nC t.p false w/\take t.p d=none\/∃P,R=nC P true w/\take t.p d=some P):
 Calls prog 126 #[.agg t.g_,.agg #[Y d.id,Y d.f,Y d.op,.bool d.v.r,Y d.v.n]] w R:=by
 obtain⟨N1,b,h,N2⟩:=xO w 53 t.g_ 124 #[Y d.id,Y d.f,Y d.op,.bool d.v.r,Y d.v.n] 53 ks;go_enter func126,ntmps126;go_upto_region 1 with fail;obtain⟨W,an⟩:=nm_<|((w.alloc<|.cells t.g_ 53).alloc<|.cells #[Y d.id,Y d.f,Y d.op,.bool d.v.r,Y d.v.n] 124).alloc<|.cells ks 53;rw[<-an]at N1 b h N2 |-;clear an;have aV:=b.f_ 0;have au:=b.f_ 1;have bw:=b.f_ 2;have bN:=b.f_ 3;have bH:=b.f_ 4
 go_upto_region 2 with(first|(refine la N1 underlying53 ?_)|(go_at_call 130;((with_reducible refine(mf t d.id d.f (ht.hF N2) ay).mono ?_);rintro u ae⟨rfl,U⟩;replace N1:=N1.hF U;replace b:=b.hF U;replace h:=h.hF U;replace N2:=N2.trans U)));clear aV au bw bN bH U;have N0:=O (show pk t.ds.l d.id d.f=pk t.p.ds d.id d.f from rfl);have bt:=yI t.ds.l d.id d.f;generalize bz:pk t.ds.l d.id d.f=g at*;have a7:=O bz;clear bz;have b4:=O z;clear z;go_cut [58] (λa D=>a=.bool (o4 t.p d)/\J [] ae D)
 case first=>
  have r:∀a:GW ae,a.1.cell? (Z w.heap.size 2)=some (.bool t.ip):=λa=>(N1.AV 2 a).trans rfl;have cr:∀a:GW ae,a.1.cell? (Z w.heap.size 37)=some (.slice t.rs.A t.rs.l.length t.rs.c):=λa=>(N1.AV 37 a).trans rfl;have ct:∀a:GW ae,a.1.cell? (Z w.heap.size 38)=some (.slice t.ws.A t.ws.l.length t.ws.c):=λa=>(N1.AV 38 a).trans rfl;have cj:∀a:GW ae,a.1.cell? (Z w.heap.size 40)=some (.slice t.ds.A t.ds.l.length t.ds.c):=λa=>(N1.AV 40 a).trans rfl;have aT:=b.AV 0;have aC:=b.AV 1;have av:=b.AV 2;have ak:(prog.info? 53).map (·.size)=some t.g_.size:=k_;have G:Hid (∀a:GW ae,Calls prog 128 #[.agg t.g_,Y d.id] a.1 λu i=>u=.returned (Y<|jx (hY t.nw.l) d.id)/\J [] a.1 i):=O λa=>pd t d.id a.1 (ht.hF<|N2.trans a.2) al;have bo:Hid (∀a:GW ae,Calls prog 129 #[.slice t.ws.A t.ws.l.length t.ws.c,Y d.id,Y d.f] a.1 λu i=>u=.returned (Y<|cat t.ws.l d.id d.f)/\J [] a.1 i):=O λa=>lX t.ws.A t.ws.c t.ws.l d.id d.f a.1 (ht.hF<|N2.trans a.2).ws H;have bn:Hid (∀a:GW ae,Calls prog 129 #[.slice t.rs.A t.rs.l.length t.rs.c,Y d.id,Y d.f] a.1 λu i=>u=.returned (Y<|cat t.rs.l d.id d.f)/\J [] a.1 i):=O λa=>lX t.rs.A t.rs.c t.rs.l d.id d.f a.1 (ht.hF<|N2.trans a.2).rs V;have L:=(zh (hY t.nw.l) d.id).1;have Q:=(sd t.ws.l d.id d.f).1;have C:=(sd t.rs.l d.id d.f).1;have N:=O (show take t.p d=take t.p d from rfl);have e:Hid (take t.p d=if t.ip=true\/0<=jx (hY t.nw.l) d.id\/0<=cat t.ws.l d.id d.f\/0<=cat t.rs.l d.id d.f then none
   else if g<0 then some {t.p with ds:=t.ds.l.take (r8 t.ds.l d.id d.f)++([d]++t.ds.l.drop (r8 t.ds.l d.id d.f))}
   else if(t.ds.l.getD g.toNat default).op≠d.op then none
   else some {t.p with ds:=t.ds.l.modify g.toNat (λE=>{E with v:=(iA d.op E.v d.v).1})}):=O (by rw[<-a7.out];rfl)
  have co:g<0\/∃(k:Nat) (hk:k<t.ds.l.length),g=k/\∃S T,t.ds.A=some (Z S T)/\ae.cell? (Z S<|T+k*5+2)=some (Y t.ds.l[k].op):=by
   by_cases aA:g<0;exact .inl aA;have hk:g.toNat<t.ds.l.length:=X;obtain⟨S,T,o,_,_,j,_⟩:=(ht.hF N2).ds.at_ hk;exact .inr ⟨g.toNat,hk,(HQ X).symm,S,T,o,j⟩
  generalize jx (hY t.nw.l) d.id=x at*;generalize cat t.ws.l d.id d.f=y at*;generalize cat t.rs.l d.id d.f=xr at*;generalize t.g_=cs at*;have M:=O bt;clear N bt N0;cases hp:t.ip with
  |true=>
   have a8:=O (show o4 t.p d=true by unfold o4;rw[e.out,L_<|.inl hp];rfl);rw[hp]at r;exact JG
  |false=>
   rw[hp]at r;rcases tT x L with rfl|⟨no,rfl⟩
   rcases tT y Q with rfl|⟨nw,rfl⟩
   .rcases tT xr C with rfl|⟨nr,rfl⟩
    .rcases co with B|⟨k,hk,rfl,S,T,o,j⟩
     .obtain rfl:g= -1:=by have:=M.out;omega
      have a8:=O (show o4 t.p d=false by unfold o4;rw[e.out,K_ (by rw[hp];simp),L_ X];rfl);clear hp B;exact JH
     have bd:(k:Int)<(t.ds.l.length:Int):=X;rw[o]at cj;have h3:=DF j;by_cases am:t.ds.l[k].op=d.op;have a8:=O (show o4 t.p d=false by unfold o4;rw[e.out,K_ (by rw[hp];simp),K_ X,K_<|by simp[List.getD,O_ hk,am]];rfl);have q:(t.ds.l[k].op !=d.op)=false:=zu am;exact JF;have a8:=O (show o4 t.p d=true by unfold o4;rw[e.out,K_ (by rw[hp];simp),K_ X,L_<|by simp[List.getD,O_ hk,am]];rfl);have q:(t.ds.l[k].op !=d.op)=true:=zu am;exact JF
    have a8:=O (show o4 t.p d=true by unfold o4;rw[e.out,L_<|.inr<|.inr<|.inr X];rfl);exact JG
   have a8:=O (show o4 t.p d=true by unfold o4;rw[e.out,L_<|.inr<|.inr<|.inl X];rfl);exact JG;have a8:=O (show o4 t.p d=true by unfold o4;rw[e.out,L_<|.inr<|.inl X];rfl);exact JG
 obtain⟨rfl,F⟩:=hcut;replace N1:=N1.hF F;replace b:=b.hF F;replace h:=h.hF F;replace N2:=N2.trans F;rcases b4.out with⟨rfl,z⟩|⟨P,rfl,y⟩
 .rw[show o4 t.p d=true by unfold o4;rw[z];rfl];clear z b4 N0 a7 bt F;go_wp2_with (first|(refine la N1 underlying53 ?_)|(refine k6 (t.g_) h (Tk.one _) ?_;intro aH m aO));exact MA
 rw[show o4 t.p d=false by unfold o4;rw[y];rfl];have L:(g<0/\P={t.p with ds:=t.ds.l.take (r8 t.ds.l d.id d.f)++([d]++t.ds.l.drop (r8 t.ds.l d.id d.f))})\/(0<=g/\P={t.p with ds:=t.ds.l.modify g.toNat (λE=>{E with v:=(iA d.op E.v d.v).1})}):=by
  unfold take at y;have u:pk t.p.ds d.id d.f=g:=a7.out;rw[u]at y;split at y;cases y
  split at y
  .exact .inl ⟨by assumption,by injection y with aA;exact aA.symm⟩
  split at y
  .cases y
  exact .inr ⟨X,by injection y with aA;exact aA.symm⟩
 clear y b4 N0;have cQ:=ht.hF N2;have bT:Sl wc 124 5 t.ds.A t.ds.l.length (t.ds.l.flatMap Dl.E):=cQ.ds;have cf:w.heap.size+1+1+1<=wc.heap.size:=h.lt;obtain⟨bM,bK,bC,be,bu⟩:=info_parts infoDl;have bl:wc.cell? (Z w.heap.size 40)=some (.slice t.ds.A t.ds.l.length t.ds.c):=(N1.f_ 40).trans rfl;rcases L with⟨bQ,L⟩|⟨bf,L⟩
 .have aQ:=O L;obtain rfl:g= -1:=by omega
  have bY:=O (show r8 t.ds.l d.id d.f=0+mE (om d.id d.f) (t.ds.l.drop 0) by simp[r8]);have bX:=O (show ∀k,k=r8 t.ds.l d.id d.f->(t.ds.l.take k++([d]++t.ds.l.drop k)).length=k+(1+(t.ds.l.length-k)) from λk hk=>by have:=pY (om d.id d.f) t.ds.l;unfold r8 at hk;simp;omega);clear L bQ F a7
  go_upto_block 0 with(at_builtin;refine iQ _ rfl (.const<|n_) (.tmp 61) 51 rfl (w.heap.size+1+1+1) 124 bM _ 5 40 underlying51 bK bC be bu rfl I I none 0 0 [] rfl (i4 _ _ _ _) t.ds.A t.ds.l.length t.ds.c _ rfl bT (uj _) X cf ?_;intro aP o Q C x;simp only[U_,G0]at C;replace N2:=x.gr [] w X N2;replace N1:=x.bk N1 I;replace b:=x.uo b X;replace h:=x.bk h I)
  have az:Ds Q aP t.ds.l:=Sl.iZ C;have b6:=jq C;clear C x bl bT;go_cut [8] (λa D=>∃k:Nat,a=Y k/\k<=t.ds.l.length/\k=r8 t.ds.l d.id d.f/\J [] Q D)
  case first=>
   go_wp2_with fail;go_loopw [8] (λa M=>∃k:Nat,a=Y k/\k<=t.ds.l.length/\r8 t.ds.l d.id d.f=k+mE (om d.id d.f) (t.ds.l.drop k)/\J [] Q M) (λa _=>t.ds.l.length-(intOf a).toNat)
   case atStart=>exact⟨0,rfl,R_ _,bY.out,G_ _ _⟩
   obtain⟨k,rfl,hk,r,F⟩:=hrel;have K:=O r;clear r;have j:=b.hF F;have aV:=j.f_ 0;have au:=j.f_ 1;clear j;by_cases i:k<t.ds.l.length;have av:(k:Int)<(t.ds.l.length:Int):=X;obtain⟨S,T,cW,af,aN,ck,cn,cv⟩:=(az.hF F).at_ i;subst cW;by_cases t0:t.ds.l[k].id<d.id;have ao:=O (oO (p:=(om d.id d.f)) i<|by simp[om,t0]);have bq:decide (t.ds.l[k].id<d.id)=true:=zu t0;exact Lp;have bq:decide (t.ds.l[k].id<d.id)=false:=zu t0;by_cases t1:t.ds.l[k].id=d.id;have aY:(t.ds.l[k].id==d.id)=true:=zu t1;by_cases ad:t.ds.l[k].f<d.f;have ao:=O (oO (p:=(om d.id d.f)) i<|by simp[om,t1,ad]);have bj:decide (t.ds.l[k].f<d.f)=true:=zu ad;exact Le;have ao:=O (nU (p:=(om d.id d.f)) i<|by simp[om,t1,ad]);have bj:decide (t.ds.l[k].f<d.f)=false:=zu ad;exact LQ;have ao:=O (nU (p:=(om d.id d.f)) i<|by simp[om,t0,t1]);have aY:(t.ds.l[k].id==d.id)=false:=zu t1;exact LT;have ao:=O<|r0 (p:=(om d.id d.f)) (l:=t.ds.l) (k:=k) X;have av:¬(k:Int)<(t.ds.l.length:Int):=X;exact L9
  obtain⟨k,rfl,hk,NZ,F⟩:=hcut;have aR:=O NZ;clear NZ;replace N1:=(N1.hF F).drew;replace b:=b.hF F;replace h:=(h.hF F).drew;have z0:=b.f_ 0;have aM:=b.f_ 1;have aU:=b.f_ 2;have z3:=b.f_ 3;have z4:=b.f_ 4;replace b:=b.drew;have aT:(0:Int)<=(k:Int):=X;have aC:(k:Int)<=(t.ds.l.length:Int):=X;have av:(k:Int)<=(o:Int):=X;have aJ:=az.hF F;have aS:=(Sl.y2 p8 aJ hk).hF ((G_ [] wc).alloc<|.cells #[Y d.id,Y d.f,Y d.op,.bool d.v.r,Y d.v.n] 124).drew;have aK:=(Sl.zl p8 aJ hk o b6).hF ((G_ [] wc).alloc<|.cells #[Y d.id,Y d.f,Y d.op,.bool d.v.r,Y d.v.n] 124).drew;have aE:=O (show ∀bh∈(#[Y d.id,Y d.f,Y d.op,.bool d.v.r,Y d.v.n]:Array Value).toList++(t.ds.l.drop k).flatMap Dl.E,bh.oneCell'=true from λbh hu=>uj (d::t.ds.l.drop k) bh hu);have bR:=k2 (s:=5) (T_ wc.drew 124 #[Y d.id,Y d.f,Y d.op,.bool d.v.r,Y d.v.n]) rfl;have b7:=N2.trans F;clear az F aJ N2;go_wp2_with fail;go_region_held3 (λM=>M.cell? (Z (w.heap.size+1) 0)=some (Y d.id)/\M.cell? (Z (w.heap.size+1) 1)=some (Y d.f)/\M.cell? (Z (w.heap.size+1) 2)=some (Y d.op)/\M.cell? (Z (w.heap.size+1) 3)=some (.bool d.v.r)/\M.cell? (Z (w.heap.size+1) 4)=some (Y d.v.n)) (first|exact dI|exact dO|exact aZ|go_keep)
   (first
     |(refine mL _ r_ (.tmp 126) (.tmp 129) 51 r_ 124 bM _ 5 40 underlying51 bK bC be bu rfl I I _ 1 _ r_ bR _ (t.ds.l.length-k) _ _ r_ aK (uj _) X ?_;intro a6 c5 N bg bL B;have b8:=(b.alloc<|.cells #[Y d.id,Y d.f,Y d.op,.bool d.v.r,Y d.v.n] 124).hF B;have dI:N.cell? (Z (w.heap.size+1) 0)=some (Y d.id)/\N.cell? (Z (w.heap.size+1) 1)=some (Y d.f)/\N.cell? (Z (w.heap.size+1) 2)=some (Y d.op)/\N.cell? (Z (w.heap.size+1) 3)=some (.bool d.v.r)/\N.cell? (Z (w.heap.size+1) 4)=some (Y d.v.n):=b8.c5)
     |(refine mL _ r_ (.tmp 124) (.tmp 130) 51 r_ 124 bM _ 5 40 underlying51 bK bC be bu rfl I I _ k _ r_ (aS.hF B) _ (1+(t.ds.l.length-k)) _ _ r_ bL aE.out X ?_;intro j i r bW bU aD;have bk:=b8.hF aD;have dO:r.cell? (Z (w.heap.size+1) 0)=some (Y d.id)/\r.cell? (Z (w.heap.size+1) 1)=some (Y d.f)/\r.cell? (Z (w.heap.size+1) 2)=some (Y d.op)/\r.cell? (Z (w.heap.size+1) 3)=some (.bool d.v.r)/\r.cell? (Z (w.heap.size+1) 4)=some (Y d.v.n):=bk.c5;have aF:=bk.ir (p:=(Z w.heap.size 40)) sd_<|.slice j (k+(1+(t.ds.l.length-k))) i;have aZ:(r.setCell (Z w.heap.size 40)<|.slice j (k+(1+(t.ds.l.length-k))) i).cell? (Z (w.heap.size+1) 0)=some (Y d.id)/\(r.setCell (Z w.heap.size 40)<|.slice j (k+(1+(t.ds.l.length-k))) i).cell? (Z (w.heap.size+1) 1)=some (Y d.f)/\(r.setCell (Z w.heap.size 40)<|.slice j (k+(1+(t.ds.l.length-k))) i).cell? (Z (w.heap.size+1) 2)=some (Y d.op)/\(r.setCell (Z w.heap.size 40)<|.slice j (k+(1+(t.ds.l.length-k))) i).cell? (Z (w.heap.size+1) 3)=some (.bool d.v.r)/\(r.setCell (Z w.heap.size 40)<|.slice j (k+(1+(t.ds.l.length-k))) i).cell? (Z (w.heap.size+1) 4)=some (Y d.v.n):=aF.c5;have bp:=((N1.alloc<|.cells #[Y d.id,Y d.f,Y d.op,.bool d.v.r,Y d.v.n] 124).hF B).hF aD;have bm:=((h.alloc<|.cells #[Y d.id,Y d.f,Y d.op,.bool d.v.r,Y d.v.n] 124).hF B).hF aD;have bl:r.cell? (Z w.heap.size 40)=some (.slice t.ds.A t.ds.l.length t.ds.c):=(bp.f_ 40).trans rfl;have f40:=bp.hG 40;have aW:=bp.hW 40<|.slice j (k+(1+(t.ds.l.length-k))) i;have m:=bm.ir (p:=(Z w.heap.size 40)) sd_<|.slice j (k+(1+(t.ds.l.length-k))) i;have iS:=bX.out k aR.out;have ax:({t with ds:=⟨j,i,t.ds.l.take k++([d]++t.ds.l.drop k)⟩}:Tk).g_=t.g_.setIfInBounds 40 (.slice j (k+(1+(t.ds.l.length-k))) i):=(by rw[<-iS];rfl);have bD:=O ax;clear ax iS;rw[<-bD.out]at aW))
  go_wp2_with (first|(refine la aW underlying53 ?_)|(refine k6 (({t with ds:=⟨j,i,t.ds.l.take k++([d]++t.ds.l.drop k)⟩}:Tk).g_) m (Tk.one _) ?_;intro bA ap bE));all_goals
   refine me ({t with ds:=⟨j,i,t.ds.l.take k++([d]++t.ds.l.drop k)⟩}:Tk).g_ (.bool true) ap underlying53 ?_;unfold nC;rw[aQ.out,<-aR.out];have iS:=bX.out k aR.out;have ar:=(((((b7.alloc _).drew).trans B).trans aD).setCell (p:=(Z w.heap.size 40)) (.inr s_)<|.slice j (k+(1+(t.ds.l.length-k))) i).hJ bE p_;have e:=ht.hF ar;have bO:=(bU.iy bp I<|(G_ [w.heap.size] r).setCell (p:=(Z w.heap.size 40)) (.inl s_)<|.slice j (k+(1+(t.ds.l.length-k))) i).iy m I bE;refine⟨({t with ds:=⟨j,i,t.ds.l.take k++([d]++t.ds.l.drop k)⟩}:Tk),rfl,⟨e.gs,e.rs,e.ws,e.nw,e.nr,?_,e.ia,e.zi,e.ll,e.wy,e.tX,?_,e.qf⟩,rfl,ar⟩;show Sl bA 124 5 j (t.ds.l.take k++([d]++t.ds.l.drop k)).length _;rw[iS,He,He,II];exact bO;show(t.ds.l.take k++([d]++t.ds.l.drop k)).length<=i;rw[iS];exact bW
 obtain⟨k,rfl⟩:∃k:Nat,g=k:=⟨g.toNat,(HQ bf).symm⟩;have hk:k<t.ds.l.length:=X;have aQ:=O L;clear L bf F a7;go_upto_region 6 with(at_builtin;refine iQ _ rfl (.const<|n_) (.tmp 61) 51 rfl (w.heap.size+1+1+1) 124 bM _ 5 40 underlying51 bK bC be bu rfl I I none 0 0 [] rfl (i4 _ _ _ _) t.ds.A t.ds.l.length t.ds.c _ rfl bT (uj _) X cf ?_;intro aP o Q C x;simp only[U_,G0]at C;replace N2:=x.gr [] w X N2;replace N1:=x.bk N1 I;replace b:=x.uo b X;replace h:=x.bk h I);obtain⟨i,cu,br,cw,c7,ce⟩:=kN C X;subst br;have hv:=Sl.C9 p8 (Sl.iZ C) hk;have v3:Q.cell? (Z i<|k*5+3)=some _:=hv 3 _ rfl;have v4:Q.cell? (Z i<|k*5+4)=some _:=hv 4 _ rfl;have b6:=jq C;have bv:=O ce;have b0:=O (show t.ds.l.modify k (λE=>{E with v:=(iA d.op E.v d.v).1})=t.ds.l.set k {t.ds.l[k]with v:=(iA d.op t.ds.l[k].v d.v).1} by
  apply IK;intro bx;rw[Jc,IJ];by_cases u:k=bx;subst u;simp[hk];simp[u])
 have cq:=(Bk.mm c7 N1 I).symm;have cp:=(Bk.mm c7 h I).symm;clear hv ce C x bl bT;obtain⟨j,bP⟩:=mn_<|t.ds.l[k];rw[bP]at v3 v4 b0;have cg:=O bP;clear bP;obtain⟨r,hr⟩:=mn_<|iA d.op j.v d.v;rw[hr]at b0;have bn:=O hr;clear hr;have aU:=b.f_ 2;have z3:=b.f_ 3;have z4:=b.f_ 4;have bS:=N1.drew;have aj:=h.drew;have ca:=c7.drew;have bG:=N2.drew;go_cut [] (λD=>Bk D w.heap.size 53 t.g_/\Bk D (w.heap.size+1+1) 53 ks/\Sl D 124 5 (j_ i) t.ds.l.length ((t.ds.l.set k {j with v:=r.1}).flatMap Dl.E)/\J [] w D)
 case first=>
  go_region_with ((go_at_call 164;((with_reducible refine(mV d.op j.v d.v).mono ?_);rintro u N⟨he,B⟩;unfold qX at he;subst he;rw[bn.out];have M:=ca.hF B;have a2:=Sl.E5 M bv.out hk;have v5:=a2.1;have cx:=a2.2;clear a2;have f5:=M.hG<|k*5+3;have dR:=M.hG<|k*5+4)))
  all_goals
   go_wp2;go_meet;exact⟨(bS.hF B).uL cq _ _ _ _,(aj.hF B).uL cp _ _ _ _,Bp Dl.E p8 hk {j with v:=r.1} (by rw[cg.out];rfl) M bv.out,(bG.trans B).two (.inr X) _ _ _ _⟩
 clear N1 h b c7 bS aj ca bG aU z3 z4 N2;obtain⟨N1,h,cb,N2⟩:=hcut;have bl:wc.cell? (Z w.heap.size 40)=some (.slice t.ds.A t.ds.l.length t.ds.c):=(N1.f_ 40).trans rfl;have f40:=N1.hG 40;have cO:Bk (wc.setCell (Z w.heap.size 40)<|.slice (j_ i) t.ds.l.length o) w.heap.size 53 ({t with ds:=⟨some<|Z i 0,o,t.ds.l⟩}:Tk).g_:=N1.hW 40 _;have M:=h.ir (p:=(Z w.heap.size 40)) sd_<|.slice (j_ i) t.ds.l.length o;go_wp2_with (first|(refine la cO underlying53 ?_)|(refine k6 (({t with ds:=⟨some<|Z i 0,o,t.ds.l⟩}:Tk).g_) M (Tk.one _) ?_;intro aH m aO));have ax:({t with ds:=⟨some<|Z i 0,o,t.ds.l.set k {j with v:=r.1}⟩}:Tk).g_=({t with ds:=⟨some<|Z i 0,o,t.ds.l⟩}:Tk).g_:=by simp[Tk.g_]
 rw[<-ax]at m;refine me ({t with ds:=⟨some<|Z i 0,o,t.ds.l.set k {j with v:=r.1}⟩}:Tk).g_ (.bool true) m underlying53 ?_;unfold nC;rw[aQ.out];have bI:=N2.setCell (p:=(Z w.heap.size 40)) (.inr s_)<|.slice (j_ i) t.ds.l.length o;have ar:=bI.hJ aO p_;have e:=ht.hF ar;have bO:=(cb.iy N1 I<|(G_ [w.heap.size] wc).setCell (p:=(Z w.heap.size 40)) (.inl s_)<|.slice (j_ i) t.ds.l.length o).iy M I aO;refine⟨({t with ds:=⟨some<|Z i 0,o,t.ds.l.set k {j with v:=r.1}⟩}:Tk),rfl,⟨e.gs,e.rs,e.ws,e.nw,e.nr,?_,e.ia,e.zi,e.ll,e.wy,e.tX,?_,e.qf⟩,?_,ar⟩;show Sl aH 124 5 (j_ i) (t.ds.l.set k _).length _;rw[G3];exact bO;show(t.ds.l.set k _).length<=o;rw[G3];exact b6;rw[Hh,b0.out];rfl
def CV{w:World}(e:kV w t)(b:t.ds.l.length<=1000000000)(a:t.nw.l.length<=1000000000)(H:t.ws.l.length<=1000000000)(V:t.rs.l.length<=1000000000)(h:take t.p d=none):
 Calls prog 126 #[.agg t.g_,.agg #[Y d.id,Y d.f,Y d.op,.bool d.v.r,Y d.v.n]] w (nC t.p false w):=uZ t d w e b a H V<|.inl ⟨rfl,h⟩
def Bh(P:iP){w:World}(e:kV w t)(b:t.ds.l.length<=1000000000)(a:t.nw.l.length<=1000000000)(H:t.ws.l.length<=1000000000)(V:t.rs.l.length<=1000000000)(h:take t.p d=some P):
 Calls prog 126 #[.agg t.g_,.agg #[Y d.id,Y d.f,Y d.op,.bool d.v.r,Y d.v.n]] w (nC P true w):=uZ t d w e b a H V<|.inr ⟨P,rfl,h⟩
def sv(A:OA)(c:Nat)(l:QT)(id f:Int)(w:World)(ht:kV w t)(h:mh w A c l)(hs:t.p.sm 100000000)(hl:l.length<=100000000)(z:R=nC t.p false w/\jb t.p (hY l) id f=none\/∃P,R=nC P true w/\jb t.p (hY l) id f=some P):
 Calls prog 131 #[.agg t.g_,.agg #[.slice A l.length c],Y id,Y f] w R:=by
 have bW:t.gs.l.length<=1000000000:=H_ hs.gs I;have W:t.rs.l.length<=1000000000:=H_ hs.rs I;have al:t.ws.l.length<=1000000000:=H_ hs.ws I;have ay:t.ds.l.length<=1000000000:=H_ hs.ds I;have an:t.nw.l.length<=100000000:=by have:=hs.nw;rwa [show t.p.nw=hY t.nw.l from rfl,ib]at this
 have hn1:l.length<=1000000000:=X;have bt:=yI t.ds.l id f;obtain⟨g,bz⟩:=mn_<|pk t.ds.l id f;rw[bz]at bt;have b6:jb t.p (hY l) id f=if g<0 then some t.p else match iw (before t.p<|hY l) id f with
  |none=>none
  |some Q=>if Q.r=true then none else some (jt {t.p with rs:=kc t.rs.l ⟨id,f,Q⟩,ds:=t.ds.l.eraseIdx g.toNat} ⟨id,f,(iw (iR t.p<|hY l) id f).getD default⟩):=by rw[<-bz];rfl
 rw[b6]at z;have a7:=O bz;clear bz b6;obtain⟨a,e,b,N2⟩:=xO w 53 t.g_ 35 #[.slice A l.length c] 53 ks;go_enter func131,ntmps131;go_upto_region 1 with fail;obtain⟨aA,bd⟩:=nm_<|((w.alloc<|.cells t.g_ 53).alloc<|.cells #[.slice A l.length c] 35).alloc<|.cells ks 53;rw[<-bd]at a e b N2 |-;clear bd;have v:=e.f_ 0
 rcases tT g bt.1 with rfl|⟨k,rfl⟩
 .rw[L_ X]at z;rcases z with⟨rfl,z⟩|⟨P,rfl,y⟩
  cases z
  injection y with y;subst y;go_wp2_with (first|(refine la a underlying53 ?_)|(go_at_call 130;((with_reducible refine(mf t id f (ht.hF N2) ay).mono ?_);rintro s ae⟨rfl,j⟩;rw[a7.out];replace a:=a.hF j;replace e:=e.hF j;replace b:=b.hF j;replace N2:=N2.trans j;replace v:=e.f_ 0))|(refine k6 (t.g_) b (Tk.one _) ?_;intro aH m aO));have ar:=N2.hJ aO p_;exact me t.g_ (.bool true) m underlying53 ⟨t,rfl,ht.hF ar,rfl,ar⟩
 rw[K_ X,Hh]at z;have hk:k<t.ds.l.length:=X;cases S:iw (before t.p<|hY l) id f with
 |none=>
  rw[S]at z;simp only at z;have bf:=O S;clear S;rcases z with⟨rfl,z⟩|⟨P,rfl,y⟩
  .clear z;go_wp2_with (first|(refine la a underlying53 ?_)|(go_at_call 130;((with_reducible refine(mf t id f (ht.hF N2) ay).mono ?_);rintro s ae⟨rfl,j⟩;rw[a7.out];replace a:=a.hF j;replace e:=e.hF j;replace b:=b.hF j;replace N2:=N2.trans j;replace v:=e.f_ 0))|(go_at_call 122;((with_reducible refine(pl t A c l (ht.hF N2) (h.hF N2) hn1 bW W).mono ?_);unfold lO;rintro s bh⟨aP,c4,B,rfl,D,d,o⟩;have bi:=O d;have U:=O (show B.length=l.length from(by have:=ib B;rw[d,mT,ib]at this;exact this.symm));clear d;replace a:=a.hF o;replace e:=e.hF o;replace b:=b.hF o;replace N2:=N2.trans o;replace v:=e.f_ 0))|(go_at_call 148;((with_reducible refine(kL aP c4 B id f _ D.os D.ll<|ov U.out).mono ?_);rintro s H⟨rfl,r⟩;rw[bi.out,bf.out];simp only[IN,IW];replace a:=(a.hF r).alloc<|.cells (V_ (default:Vl)) 38;replace e:=(e.hF r).alloc<|.cells (V_ (default:Vl)) 38;replace b:=(b.hF r).alloc<|.cells (V_ (default:Vl)) 38;replace N2:=(N2.trans r).alloc<|.cells (V_ (default:Vl)) 38;have n:=T_ H 38<|V_ (default:Vl);have K:=n.f_ 0;have L:=n.f_ 1;replace v:=e.f_ 0))|(refine k6 (t.g_) b (Tk.one _) ?_;intro aH m aO));exact MA
  cases y
 |some Q=>
  rw[S]at z;simp only at z;have bf:=O S;clear S;cases M:Q.r with
  |true=>
   rw[L_ M]at z;rcases z with⟨rfl,z⟩|⟨P,rfl,y⟩
   .clear z;have u:=O M;obtain⟨bj,i⟩:=Q;simp only at M;subst M;clear u;go_wp2_with (first|(refine la a underlying53 ?_)|(go_at_call 130;((with_reducible refine(mf t id f (ht.hF N2) ay).mono ?_);rintro s ae⟨rfl,j⟩;rw[a7.out];replace a:=a.hF j;replace e:=e.hF j;replace b:=b.hF j;replace N2:=N2.trans j;replace v:=e.f_ 0))|(go_at_call 122;((with_reducible refine(pl t A c l (ht.hF N2) (h.hF N2) hn1 bW W).mono ?_);unfold lO;rintro s bh⟨aP,c4,B,rfl,D,d,o⟩;have bi:=O d;have U:=O (show B.length=l.length from(by have:=ib B;rw[d,mT,ib]at this;exact this.symm));clear d;replace a:=a.hF o;replace e:=e.hF o;replace b:=b.hF o;replace N2:=N2.trans o;replace v:=e.f_ 0))|(go_at_call 148;((with_reducible refine(kL aP c4 B id f _ D.os D.ll<|ov U.out).mono ?_);rintro s H⟨rfl,r⟩;rw[bi.out,bf.out];simp only[HO,Ir];replace a:=(a.hF r).alloc<|.cells #[.bool true,Y i] 38;replace e:=(e.hF r).alloc<|.cells #[.bool true,Y i] 38;replace b:=(b.hF r).alloc<|.cells #[.bool true,Y i] 38;replace N2:=(N2.trans r).alloc<|.cells #[.bool true,Y i] 38;have n:=T_ H 38 #[.bool true,Y i];have K:=n.f_ 0;have L:=n.f_ 1;replace v:=e.f_ 0))|(refine k6 (t.g_) b (Tk.one _) ?_;intro aH m aO));exact MA
   cases y
  |false=>
   rw[K_<|by rw[M];simp]at z;rcases z with⟨rfl,z⟩|⟨P,rfl,y⟩
   cases z
   injection y with y;have aQ:=O y.symm;clear y;obtain⟨bj,i⟩:=Q;simp only at M;subst M;go_upto_region 7 with(first|(refine la a underlying53 ?_)|(go_at_call 130;((with_reducible refine(mf t id f (ht.hF N2) ay).mono ?_);rintro s ae⟨rfl,j⟩;rw[a7.out];replace a:=a.hF j;replace e:=e.hF j;replace b:=b.hF j;replace N2:=N2.trans j;replace v:=e.f_ 0))|(go_at_call 122;((with_reducible refine(pl t A c l (ht.hF N2) (h.hF N2) hn1 bW W).mono ?_);unfold lO;rintro s bh⟨aP,c4,B,rfl,D,d,o⟩;have bi:=O d;have U:=O (show B.length=l.length from(by have:=ib B;rw[d,mT,ib]at this;exact this.symm));clear d;replace a:=a.hF o;replace e:=e.hF o;replace b:=b.hF o;replace N2:=N2.trans o;replace v:=e.f_ 0))|(go_at_call 148;((with_reducible refine(kL aP c4 B id f _ D.os D.ll<|ov U.out).mono ?_);rintro s H⟨rfl,r⟩;rw[bi.out,bf.out];simp only[HO,Ir];replace a:=(a.hF r).alloc<|.cells #[.bool false,Y i] 38;replace e:=(e.hF r).alloc<|.cells #[.bool false,Y i] 38;replace b:=(b.hF r).alloc<|.cells #[.bool false,Y i] 38;replace N2:=(N2.trans r).alloc<|.cells #[.bool false,Y i] 38;have n:=T_ H 38 #[.bool false,Y i];have K:=n.f_ 0;have L:=n.f_ 1;replace v:=e.f_ 0)));obtain⟨au,bT⟩:=nm_<|H.alloc<|.cells #[.bool false,Y i] 38;rw[<-bT]at a e b n N2 v K L |-;clear bT;clear D j o r bf
   have b9:(iR t.p<|hY l).length<=1000000000:=by
    have h1:=o7 (hY t.nw.l)<|before t.p<|hY l;have s:iR t.p (hY l)=jz (iL ((hY t.nw.l).foldl kS<|before t.p<|hY l) t.ws.l) t.ds.l:=rfl;rw[s,od,j1];rw[mT,ib,ib]at h1;omega
   obtain⟨F,hu⟩:=mn_<|(iw (iR t.p<|hY l) id f).getD default;have b6:=O hu;have cU:=n.lt;have aY:=Bk.mm n a I;have aW:=Bk.mm n b I;generalize H.heap.size=gb at*;clear hu;go_upto_region 8 with(first|(refine la a underlying53 ?_)|(go_at_call 79;((with_reducible refine(pH t A c l (ht.hF N2) (h.hF N2) X al ay bW W).mono ?_);unfold lO;rintro s bA⟨bY,cM,am,rfl,az,dZ,bE⟩;have aL:=O dZ;have d6:am.length<=1000000000:=(by have:=ib am;rw[dZ]at this;omega);clear dZ;replace a:=a.hF bE;replace b:=b.hF bE;replace n:=n.hF bE;replace N2:=N2.trans bE))|(go_at_call 148;((with_reducible refine(kL bY cM am id f _ az.os az.ll d6).mono ?_);rintro s N0⟨rfl,G⟩;rw[aL.out,b6.out];replace a:=(a.hF G).alloc<|.cells (V_ F) 38;replace b:=(b.hF G).alloc<|.cells (V_ F) 38;replace n:=(n.hF G).alloc<|.cells (V_ F) 38;replace N2:=(N2.trans G).alloc<|.cells (V_ F) 38;have C:=T_ N0 38<|V_ F;replace K:=n.f_ 0;replace L:=n.f_ 1)));obtain⟨b4,bQ⟩:=nm_<|N0.alloc<|.cells (V_ F) 38;rw[<-bQ]at a b n N2 K L C |-;clear bQ;have aF:=Bk.mm C a I;have a6:=Bk.mm C b I;generalize N0.heap.size=aM at*;clear az bE G;have bg:b4.cell? (Z w.heap.size 37)=some (.slice t.rs.A t.rs.l.length t.rs.c):=(a.f_ 37).trans rfl
   go_upto_region 9 with(go_at_call 98;((with_reducible refine(rX t.rs.A t.rs.c t.rs.l ⟨id,f,⟨false,i⟩⟩ (ht.hF N2).rs W).mono ?_);unfold sU;rintro s cT⟨u,x,rfl,ad,aI,cR⟩;replace a:=a.hF cR;replace bg:cT.cell? (Z w.heap.size 37)=some (.slice t.rs.A t.rs.l.length t.rs.c):=(a.f_ 37).trans rfl;have cV:=a.hG 37;have cO:Bk (cT.setCell (Z w.heap.size 37)<|.slice u (kc t.rs.l ⟨id,f,⟨false,i⟩⟩).length x) w.heap.size 53 ({t with rs:=⟨u,x,kc t.rs.l ⟨id,f,⟨false,i⟩⟩⟩}:Tk).g_:=a.hW 37 _;replace b:=(b.hF cR).ir (p:=(Z w.heap.size 37)) sd_<|.slice u (kc t.rs.l ⟨id,f,⟨false,i⟩⟩).length x;replace C:=(C.hF cR).ir (p:=(Z w.heap.size 37)) aF<|.slice u (kc t.rs.l ⟨id,f,⟨false,i⟩⟩).length x;replace ad:Cs (cT.setCell (Z w.heap.size 37)<|.slice u (kc t.rs.l ⟨id,f,⟨false,i⟩⟩).length x) u (kc t.rs.l ⟨id,f,⟨false,i⟩⟩):=Sl.iy ad a I<|(G_ [w.heap.size] cT).setCell (p:=(Z w.heap.size 37)) (.inl s_) _;replace N2:=(N2.trans cR).setCell (p:=(Z w.heap.size 37)) (.inr s_)<|.slice u (kc t.rs.l ⟨id,f,⟨false,i⟩⟩).length x));obtain⟨bo,bR⟩:=nm_<|cT.setCell (Z w.heap.size 37)<|.slice u (kc t.rs.l ⟨id,f,⟨false,i⟩⟩).length x;rw[<-bR]at cO b C ad N2 |-;clear bR;clear a n K L bg cV cR v e aY aW;have a:=cO;clear cO;have bk:bo.cell? (Z w.heap.size 40)=some (.slice t.ds.A t.ds.l.length t.ds.c):=(a.f_ 40).trans rfl;have f40:=a.hG 40;have aT:(0:Int)<=(k:Int):=X;have aC:(k:Int)<=(t.ds.l.length:Int):=X;have bP:=ht.sQ;unfold Sv.ok at bP;have av:(k:Int)<=(t.ds.c:Int):=X;have bO:(0:Int)<=(k:Int)+1:=X;have bV:(k:Int)+1<=(t.ds.l.length:Int):=X;have bN:(k:Int)+1<=(t.ds.c:Int):=X;obtain⟨bM,bK,bC,be,bu⟩:=info_parts infoDl;have c7:=(ht.hF N2.drew).ds;have aS:=Sl.y2 p8 c7 (show k<=t.ds.l.length by omega);have aK:=Sl.zl p8 c7 (show k+1<=t.ds.l.length by omega) t.ds.c bP;have bS:=a.drew;have aj:=b.drew;have aE:=C.drew;have aB:=Sl.drew ad;have bG:=N2.drew;have dm:IntKind.i64.wrap ((k:Int)+1)=(k:Int)+1:=G9 _ X;have dT:((k:Int)+1).toNat=k+1:=X;have ao:=O (show t.ds.l.take k++t.ds.l.drop (k+1)=t.ds.l.eraseIdx k from(List.eraseIdx_eq_take_drop_succ ..).symm)
   go_cut [] (λN=>∃(T:OA) (V:Nat),Bk N w.heap.size 53 ({t with rs:=⟨u,x,kc t.rs.l ⟨id,f,⟨false,i⟩⟩⟩,ds:=⟨T,V,t.ds.l.eraseIdx k⟩}:Tk).g_/\Bk N (w.heap.size+1+1) 53 ks/\Bk N aM 38 (V_ F)/\Cs N u (kc t.rs.l ⟨id,f,⟨false,i⟩⟩)/\Ds N T (t.ds.l.eraseIdx k)/\(t.ds.l.eraseIdx k).length<=V/\J [] w N)
   case first=>
    go_region_law (refine mL _ r_ (.tmp 59) (.tmp 64) 51 r_ 124 bM _ 5 40 underlying51 bK bC be bu rfl I I _ k _ r_ aS _ (t.ds.l.length-(k+1)) _ _ r_ aK (uj _) X ?_;intro bl q c9 aV aN E;have ag:=bS.hF E;have z41:c9.cell? (Z w.heap.size 40)=some (.slice t.ds.A t.ds.l.length t.ds.c):=((ag.f_ 40).trans rfl);have aZ:=ag.hG 40)
    all_goals
     go_wp2;all_goals
      go_meet;have aq:(t.ds.l.eraseIdx k).length=k+(t.ds.l.length-(k+1)):=by rw[<-ao.out];simp;omega
      have ax:({t with rs:=⟨u,x,kc t.rs.l ⟨id,f,⟨false,i⟩⟩⟩,ds:=⟨bl,q,t.ds.l.eraseIdx k⟩}:Tk).g_=({t with rs:=⟨u,x,kc t.rs.l ⟨id,f,⟨false,i⟩⟩⟩}:Tk).g_.setIfInBounds 40 (.slice bl (k+(t.ds.l.length-(k+1))) q):=by rw[<-aq];rfl
      have aD:=ag.hW 40<|.slice bl (k+(t.ds.l.length-(k+1))) q;rw[<-ax]at aD;have bm:=(G_ [w.heap.size] c9).setCell (p:=(Z w.heap.size 40)) (.inl s_)<|.slice bl (k+(t.ds.l.length-(k+1))) q;have ap:=aN.iy ag I bm;rw[<-He,ao.out,<-aq]at ap;refine⟨bl,q,aD,(aj.hF E).ir (p:=(Z w.heap.size 40)) sd_ _,(aE.hF E).ir (p:=(Z w.heap.size 40)) aF _,Sl.iy (Sl.hF aB E) ag I bm,?_,by rw[aq];exact aV,(bG.trans E).setCell (.inr s_) _⟩;rw[aq]at ap;unfold Ds;rw[aq];exact ap
   clear a b C ad bS aj aE aB bG bk f40 aS aK c7 ao aT aC av bO bV bN dm dT N2;obtain⟨T,V,a,b,C,ak,hD,aU,N2⟩:=hcut;have K:=C.f_ 0;have L:=C.f_ 1;have E:=ht.hF N2;have bn:kV wc ({t with rs:=⟨u,x,kc t.rs.l ⟨id,f,⟨false,i⟩⟩⟩,ds:=⟨T,V,t.ds.l.eraseIdx k⟩}:Tk):=⟨E.gs,ak,E.ws,E.nw,E.nr,hD,E.ia,E.zi,aI,E.wy,E.tX,aU,E.qf⟩;go_wp2_with (first|(refine la a underlying53 ?_)|(go_at_call 132;((with_reducible refine(si ({t with rs:=⟨u,x,kc t.rs.l ⟨id,f,⟨false,i⟩⟩⟩,ds:=⟨T,V,t.ds.l.eraseIdx k⟩}:Tk) ⟨id,f,F⟩ bn (by show t.nw.l.length<=1000000000;omega) al).mono ?_);unfold uv;rintro s fY⟨t3,rfl,cQ,bB,cC⟩;have aw:=O bB;clear bB;replace b:=b.hF cC))|(refine k6 (t3.g_) b (Tk.one _) ?_;intro aH m aO));have ar:=(N2.trans cC).hJ aO p_;refine me t3.g_ (.bool true) m underlying53 ⟨t3,rfl,cQ.iy b oz aO,?_,ar⟩;rw[aw.out,aQ.out,b6.out];rfl
def ve(A:OA)(c:Nat)(l:QT)(id f:Int){w:World}(e:kV w t)(h:mh w A c l)(b:t.p.sm 100000000)(a:l.length<=100000000)(z:jb t.p (hY l) id f=none):
 Calls prog 131 #[.agg t.g_,.agg #[.slice A l.length c],Y id,Y f] w (nC t.p false w):=sv t A c l id f w e h b a<|.inl ⟨rfl,z⟩
def tJ(A:OA)(c:Nat)(l:QT)(id f:Int)(P:iP){w:World}(e:kV w t)(h:mh w A c l)(b:t.p.sm 100000000)(a:l.length<=100000000)(hy:jb t.p (hY l) id f=some P):
 Calls prog 131 #[.agg t.g_,.agg #[.slice A l.length c],Y id,Y f] w (nC P true w):=sv t A c l id f w e h b a<|.inr ⟨P,rfl,hy⟩
def infoInt:(prog.info? 3).map (λi=>(i.zero,i.size,i.bytes))=some (some<|Y 0,1,8):=by kernel_rfl
def Bk.BW{w:World}{t e:TypeId}{cs:Array Value}(h:Bk w g t cs)(aq:e≠t):∀c fz,w.heap[g]?≠some (.cells c e fz):=Lz
def kT(l:QR)(hH hC:Int):List Int:=if ih l hH hC=true then(List.range<|hC.toNat+1).map Int.ofNat else[]
def EQ(P:QS)(w:World)(e:Ending)(w':World):Prop:=∃(A:OA) (d:Nat),e=.returned (.agg #[.slice A P.length d])/\Ns w' 3 A P/\P.length<=d/\J [] w w'
def BY(l:QR):0<=jM l/\jM l<=l.length:=by
 unfold jM;have:=Hw (λa:In=>a.op==21) l;omega
def kq{l:QR}{hH hC:Int}(h:ih l hH hC=true):1<=l.length/\l.length<=2048/\0<=hH/\hH<=64/\0<=hC/\hC<=2048:=by
 have j:=BY l;unfold ih at h;simp only[G4,HH,beq_iff_eq]at h;obtain⟨⟨⟨⟨⟨⟨⟨⟨e,f⟩,i⟩,b⟩,_⟩,_⟩,_⟩,_⟩,a⟩:=h;omega
def Ay(l:QR)(hH hC:Int)(w:World)(h:Is w A l)(N:l.length<=1000000000):
 Calls prog 90 #[.agg #[.slice A l.length c,Y hH,Y hC]] w (EQ (kT l hH hC) w):=by
 obtain⟨bM,bK,bC,be,bu⟩:=info_parts infoInt;obtain⟨a,e,b,i⟩:=xO w 26 #[.slice A l.length c,Y hH,Y hC] 32 #[n_] 32 #[n_];cases y:ih l hH hC with
 |false=>
  have D:=O (show kT l hH hC=[] by unfold kT;rw[y];simp);go_enter func90,ntmps90;go_upto_region 2 with fail;obtain⟨L,r⟩:=nm_<|((w.alloc<|.cells #[.slice A l.length c,Y hH,Y hC] 26).alloc<|.cells #[n_] 32).alloc<|.cells #[n_] 32;rw[<-r]at a e b i |-;clear r;have K:=a.f_ 0;have E:=a.f_ 1;have u:=a.f_ 2
  go_wp2_with (go_at_call 92;have v:=iY A c l hH hC (h.hF i) N;rw[y]at v;refine v.mono ?_;rintro ae Q⟨rfl,j⟩;replace e:=e.hF j;replace b:=b.hF j;replace i:=i.trans j;have C:=b.f_ 0;have bq:=e.f_ 0;have bz:=e.hG 0);refine rr_ #[n_] (e.hW 0<|n_) underlying32 ?_;unfold EQ;rw[D.out];exact⟨none,0,rfl,HB _ _ _ _,I_ _,i.setCell (.inr s_) _⟩
 |true=>
  obtain⟨b1,b2,b3,dK,ew,dX⟩:=kq y;obtain⟨f,rfl⟩:∃f:Nat,hC=f:=⟨hC.toNat,X⟩;have D:=O (show kT l hH f=(List.range<|f+1).map Int.ofNat by unfold kT;rw[y];simp);go_enter func90,ntmps90;go_upto_region 2 with fail;obtain⟨L,r⟩:=nm_<|((w.alloc<|.cells #[.slice A l.length c,Y hH,Y (f:Int)] 26).alloc<|.cells #[n_] 32).alloc<|.cells #[n_] 32;rw[<-r]at a e b i |-;clear r;have K:=a.f_ 0;have E:=a.f_ 1;have u:=a.f_ 2;have z:w.heap.size+1+1+1<=L.heap.size:=ov b.lt
  go_wp2_with (go_at_call 92;have v:=iY A c l hH f (h.hF i) N;rw[y]at v;refine v.mono ?_;rintro ae Q⟨rfl,j⟩;replace a:=a.hF j;replace e:=e.hF j;replace b:=b.hF j;replace i:=i.trans j;replace K:=a.f_ 0;replace E:=a.f_ 1;replace u:=a.f_ 2;have C:=b.f_ 0);replace z:=H_ z j.size;clear K E u C j z;go_loopw [4] (λH wr=>∃(k:Nat) (m:OA) (n:Nat),k<=f+1/\H=Y k/\wr.ownsRow (w.heap.size+1+1+1) 3 1 (.slice m k n) k ((List.range k).map λah:Nat=>Value.int .i64 ah)/\Bk wr w.heap.size 26 #[.slice A l.length c,Y hH,Y (f:Int)]/\Bk wr (w.heap.size+1) 32 #[n_]/\Bk wr (w.heap.size+1+1) 32 #[.slice m k n]/\J [] w wr) (λH _=>f+1-(intOf H).toNat)
  case atStart=>exact⟨0,none,0,R_ _,rfl,i4 _ _ _ _,a,e,b,i⟩
  clear a e b i;obtain⟨k,m,n,hk,rfl,F,a,e,b,o⟩:=hrel;have z:w.heap.size+1+1+1<=wr.heap.size:=ov b.lt;by_cases ag:k<f+1
  .have S:(k:Int)<=(f:Int):=X;have P:=iO F<|(G_ [] wr).alloc<|.cells #[Y (k:Int)] 3;have U:Sl (wr.alloc<|.cells #[Y (k:Int)] 3) 3 1 (j_ wr.heap.size) 1 [Y (k:Int)]:=k2 (s:=1) (T_ wr 3 #[Y (k:Int)]) rfl;have t:w.heap.size+1+1+1<=(wr.alloc<|.cells #[Y (k:Int)] 3).heap.size:=p_;have u:=a.f_ 2;have af:=b.f_ 0;replace a:=a.alloc<|.cells #[Y (k:Int)] 3;replace e:=e.alloc<|.cells #[Y (k:Int)] 3;replace b:=b.alloc<|.cells #[Y (k:Int)] 3;replace o:=o.alloc<|.cells #[Y (k:Int)] 3;go_wp2_with (at_builtin;refine iQ _ rfl (.tmp 14) (.tmp 16) 30 rfl (w.heap.size+1+1+1) 3 bM _ 1 8 underlying30 bK bC be bu rfl I I m k n _ rfl P _ 1 1 _ rfl U (by intro aj M;simp at M;subst M;rfl) X t ?_;intro W T w2 V B;replace a:=B.bk a I;replace e:=B.bk e I;replace b:=B.bk b I;replace o:=B.gr [] w X o;have bX:=b.hG 0;have ay:=b.f_ 0);go_roundw;exact⟨k+1,W,T,X,gn,(by simpa[List.range_succ]using kE (x:=w.heap.size+1+1) V (b.BW I) ((G_ _ _).setCell (.inl s_) _)),a.ir (p:=(Z (w.heap.size+1+1) 0)) sd_ _,e.ir (p:=(Z (w.heap.size+1+1) 0)) sd_ _,b.hW 0 _,o.setCell (.inr p_) _⟩;exact mz
  have S:¬(k:Int)<=(f:Int):=X;have B:=O (show k=f+1 by omega);have u:=a.f_ 2;have C:=b.f_ 0;have bz:=e.hG 0;have bq:=e.f_ 0;go_wp2;refine rr_ #[.slice m k n] (e.hW 0<|.slice m k n) underlying32 ?_;unfold EQ;rw[D.out];have P:=o.setCell (p:=(Z (w.heap.size+1) 0)) (.inr s_)<|.slice m k n;have M:=Sl.iZ<|kE (x:=w.heap.size+1) F (e.BW I)<|(G_ [w.heap.size+1] wr).setCell (p:=(Z (w.heap.size+1) 0)) (.inl s_)<|.slice m k n;refine⟨m,n,by rw[B.out];simp,?_,by have:=jq F;have:=B.out;simp;omega,P⟩;unfold Ns;rw[B.out]at M |-
  simpa[List.map_map,Function.comp_def]using M
def lp(P:iP)(n:Int)(w:World)(e:Ending)(w':World):Prop:=∃t:Tk,e=.returned (.tuple #[.agg t.g_,Y n])/\kV w' t/\t.p=P/\J [] w w'
def tZ(hT run:Int)(ip:Bool):Tk:={Tk.zero with hT:=hT,run:=run,ip:=ip,pc:=hT}
def rY(hT run:Int)(ip:Bool):Tk:={Tk.zero with hT:=hT,run:=run,ip:=ip,pc:=hT,h5:=1,next:=hT+1}
def wb(l:QR)(hH hC hT run:Int)(ip:Bool)(w:World)(h:Is w A l)(p:l.length<=1000000000)(C: -1000000000<=hT)(B:hT<=1000000000)(z:0<=run)(y:run<=1099511627776)(q:ih l hH hC=false):
 Calls prog 49 #[.agg #[.slice A l.length c,Y hH,Y hC],Y hT,Y run,.bool ip,n_] w (lp Tk.zero.p 1 w):=by
 obtain⟨b,e,a⟩:=qU w 26 #[.slice A l.length c,Y hH,Y hC] 53 ks;go_enter func49,ntmps49;go_upto_region 1 with fail;obtain⟨s,i⟩:=nm_<|(w.alloc<|.cells #[.slice A l.length c,Y hH,Y hC] 26).alloc<|.cells ks 53;rw[<-i]at b e a |-;clear i;have E:=b.f_ 0;have u:=b.f_ 1;have v:=b.f_ 2
 go_wp2_with (first|(go_at_call 92;have j:=iY A c l hH hC (h.hF a) p;rw[q]at j;refine j.mono ?_;rintro D r⟨rfl,f⟩;replace e:=e.hF f;replace a:=a.trans f;clear f)|(refine k6 (Tk.zero.g_) e (Tk.one _) ?_;intro x m o));have n:=a.hJ o s_;exact me Tk.zero.g_ (Y 1) m underlying53 ⟨Tk.zero,rfl,kV.nil _ _ rfl rfl rfl rfl rfl rfl,rfl,n⟩
def wa(l:QR)(hH hC hT run:Int)(ip:Bool)(w:World)(h:Is w A l)(m:l.length<=1000000000)(v: -1000000000<=hT)(u:hT<=1000000000)(F:0<=run)(E:run<=1099511627776)(z:ih l hH hC=true)(y:ng l hT=false):
 Calls prog 49 #[.agg #[.slice A l.length c,Y hH,Y hC],Y hT,Y run,.bool ip,n_] w (lp Tk.zero.p 2 w):=by
 obtain⟨a,f,b⟩:=qU w 26 #[.slice A l.length c,Y hH,Y hC] 53 ks;go_enter func49,ntmps49;go_upto_region 1 with fail;obtain⟨C,j⟩:=nm_<|(w.alloc<|.cells #[.slice A l.length c,Y hH,Y hC] 26).alloc<|.cells ks 53;rw[<-j]at a f b |-;clear j;have B:=a.f_ 0;have o:=a.f_ 1;have p:=a.f_ 2
 go_wp2_with (first|(go_at_call 92;have i:=iY A c l hH hC (h.hF b) m;rw[z]at i;refine i.mono ?_;rintro x n⟨rfl,e⟩;replace a:=a.hF e;replace f:=f.hF e;replace b:=b.trans e;replace B:=a.f_ 0;replace o:=a.f_ 1;replace p:=a.f_ 2;clear e)|(go_at_call 97;have i:=mg A c l hH hC hT (h.hF b) m v u;rw[y]at i;refine i.mono ?_;rintro x n⟨rfl,e⟩;replace f:=f.hF e;replace b:=b.trans e;clear e)|(refine k6 (Tk.zero.g_) f (Tk.one _) ?_;intro D q s));have r:=b.hJ s s_;exact me Tk.zero.g_ (Y 2) q underlying53 ⟨Tk.zero,rfl,kV.nil _ _ rfl rfl rfl rfl rfl rfl,rfl,r⟩
def yN(l:QR)(hH hC hT run:Int)(ip:Bool)(w:World)(h:Is w A l)(s:l.length<=1000000000)(F: -1000000000<=hT)(E:hT<=1000000000)(P:0<=run)(O:run<=1099511627776)(J:ih l hH hC=true)(I:ng l hT=true)(H:jI l hH hC hT=false):
 Calls prog 49 #[.agg #[.slice A l.length c,Y hH,Y hC],Y hT,Y run,.bool ip,n_] w (lp (tZ hT run ip).p 0 w):=by
 obtain⟨a,f,b⟩:=qU w 26 #[.slice A l.length c,Y hH,Y hC] 53 ks;go_enter func49,ntmps49;go_upto_region 1 with fail;obtain⟨L,u⟩:=nm_<|(w.alloc<|.cells #[.slice A l.length c,Y hH,Y hC] 26).alloc<|.cells ks 53;rw[<-u]at a f b |-;clear u;have r:=a.f_ 0;have o:=a.f_ 1;have q:=a.f_ 2;have Q:(run<0)=False:=p_;have M:((1099511627776:Int)<run)=False:=p_
 go_upto_region 5 with(first|(go_at_call 92;have i:=iY A c l hH hC (h.hF b) s;rw[J]at i;refine i.mono ?_;rintro x j⟨rfl,e⟩;replace a:=a.hF e;replace f:=f.hF e;replace b:=b.trans e;replace r:=a.f_ 0;replace o:=a.f_ 1;replace q:=a.f_ 2;clear e)|(go_at_call 97;have i:=mg A c l hH hC hT (h.hF b) s F E;rw[I]at i;refine i.mono ?_;rintro x j⟨rfl,e⟩;replace a:=a.hF e;replace f:=f.hF e;replace b:=b.trans e;replace r:=a.f_ 0;replace o:=a.f_ 1;replace q:=a.f_ 2;clear e));have S:=f.lt;have m:=T_ j 53 ks;replace a:=a.alloc<|.cells ks 53;replace f:=f.alloc<|.cells ks 53;replace b:=b.alloc<|.cells ks 53;have K:w.heap.size<=j.heap.size:=X;go_upto_region 6 with(refine k6 ((tZ hT run ip).g_) m (Tk.one _) ?_;intro z v n);replace a:=a.gr n sd_;replace f:=f.gr n sd_;replace b:=b.hJ n p_;have m:=v;clear v n r o q;generalize j.heap.size=gn at*;have r:=a.f_ 0;have o:=a.f_ 1;have q:=a.f_ 2;go_wp2;go_loopw [40] (λy wr=>y=Y 0/\wr=z) (λy _=>0)
 case atStart=>exact⟨rfl,rfl⟩
 obtain⟨rfl,rfl⟩:=hrel;go_wp2_with (first|(go_at_call 83;have i:=lH A c l hH hC hT (h.hF b) s;rw[H]at i;refine i.mono ?_;rintro x j⟨rfl,e⟩;replace f:=f.hF e;replace m:=m.hF e;replace b:=b.trans e;clear e)|(refine la m underlying53 ?_)|(refine k6 ((tZ hT run ip).g_) f (Tk.one _) ?_;intro N B D));have C:=b.hJ D s_;exact me (tZ hT run ip).g_ (Y 0) B underlying53 ⟨(tZ hT run ip),rfl,kV.nil _ _ rfl rfl rfl rfl rfl rfl,rfl,C⟩
def xA(l:QR)(hH hC hT run:Int)(ip:Bool)(w:World)(h:Is w A l)(s:l.length<=1000000000)(F: -1000000000<=hT)(E:hT<=1000000000)(S:0<=run)(Q:run<=1099511627776)(K:ih l hH hC=true)(J:ng l hT=true)(I:jI l hH hC hT=true):
 Calls prog 49 #[.agg #[.slice A l.length c,Y hH,Y hC],Y hT,Y run,.bool ip,n_] w (lp (rY hT run ip).p 0 w):=by
 obtain⟨a,e,b⟩:=qU w 26 #[.slice A l.length c,Y hH,Y hC] 53 ks;go_enter func49,ntmps49;go_upto_region 1 with fail;obtain⟨M,u⟩:=nm_<|(w.alloc<|.cells #[.slice A l.length c,Y hH,Y hC] 26).alloc<|.cells ks 53;rw[<-u]at a e b |-;clear u;have r:=a.f_ 0;have o:=a.f_ 1;have q:=a.f_ 2;have T:(run<0)=False:=p_;have N:((1099511627776:Int)<run)=False:=p_
 go_upto_region 5 with(first|(go_at_call 92;have j:=iY A c l hH hC (h.hF b) s;rw[K]at j;refine j.mono ?_;rintro x m⟨rfl,f⟩;replace a:=a.hF f;replace e:=e.hF f;replace b:=b.trans f;replace r:=a.f_ 0;replace o:=a.f_ 1;replace q:=a.f_ 2;clear f)|(go_at_call 97;have j:=mg A c l hH hC hT (h.hF b) s F E;rw[J]at j;refine j.mono ?_;rintro x m⟨rfl,f⟩;replace a:=a.hF f;replace e:=e.hF f;replace b:=b.trans f;replace r:=a.f_ 0;replace o:=a.f_ 1;replace q:=a.f_ 2;clear f));have V:=e.lt;have i:=T_ m 53 ks;replace a:=a.alloc<|.cells ks 53;replace e:=e.alloc<|.cells ks 53;replace b:=b.alloc<|.cells ks 53;have L:w.heap.size<=m.heap.size:=X;go_upto_region 6 with(refine k6 ((tZ hT run ip).g_) i (Tk.one _) ?_;intro z v n);replace a:=a.gr n sd_;replace e:=e.gr n sd_;replace b:=b.hJ n p_;have i:=v;clear v n r o q;generalize m.heap.size=gn at*;have r:=a.f_ 0;have o:=a.f_ 1;have q:=a.f_ 2;go_wp2;go_loopw [40] (λy wr=>y=Y 0/\wr=z) (λy _=>0)
 case atStart=>exact⟨rfl,rfl⟩
 obtain⟨rfl,rfl⟩:=hrel;go_upto_region 12 with(go_at_call 83;have j:=lH A c l hH hC hT (h.hF b) s;rw[I]at j;refine j.mono ?_;rintro x m⟨rfl,f⟩;replace e:=e.hF f;replace i:=i.hF f;replace b:=b.trans f;clear f);have U:=i.hG 42;have W:=i.hG 43;have H:Bk _ gn 53 (rY hT run ip).g_:=(i.hW 42<|Y 1).hW 43<|Y<|hT+1;replace e:=(e.ir (p:=(Z gn 42)) sd_<|Y 1).ir (p:=(Z gn 43)) sd_<|Y<|hT+1;replace b:=(b.setCell (p:=(Z gn 42)) (.inr p_)<|Y 1).setCell (p:=(Z gn 43)) (.inr p_)<|Y<|hT+1;have d:m.cell? (Z gn 42)=some (Y 0):=(i.f_ 42).trans rfl;have O:m.cell? (Z gn 43)=some (Y 0):=(i.f_ 43).trans rfl;go_wp2_with (first|(refine la H underlying53 ?_)|(refine k6 ((rY hT run ip).g_) e (Tk.one _) ?_;intro P B D));have C:=b.hJ D s_;exact me (rY hT run ip).g_ (Y 0) B underlying53 ⟨(rY hT run ip),rfl,kV.nil _ _ rfl rfl rfl rfl rfl rfl,rfl,C⟩
def jm(l:QR)(hH hC hT run:Int)(ip:Bool):iP × Int:=
 if ih l hH hC=false then(Tk.zero.p,1) else if ng l hT=false then(Tk.zero.p,2) else
 if jI l hH hC hT=true then((rY hT run ip).p,0) else((tZ hT run ip).p,0)
def ot(l:QR)(hH hC hT run:Int)(ip:Bool)(w:World)(h:Is w A l)(i:l.length<=1000000000)(f: -1000000000<=hT)(e:hT<=1000000000)(b:0<=run)(a:run<=1099511627776):
 Calls prog 49 #[.agg #[.slice A l.length c,Y hH,Y hC],Y hT,Y run,.bool ip,n_] w (lp (jm l hH hC hT run ip).1 (jm l hH hC hT run ip).2 w):=by
 unfold jm;cases j:ih l hH hC with
 |false=>exact wb A c l hH hC hT run ip w h i f e b a j
 |true=>
  cases m:ng l hT with
  |false=>exact wa A c l hH hC hT run ip w h i f e b a j m
  |true=>
   cases n:jI l hH hC hT with
   |false=>exact yN A c l hH hC hT run ip w h i f e b a j m n
   |true=>exact xA A c l hH hC hT run ip w h i f e b a j m n
