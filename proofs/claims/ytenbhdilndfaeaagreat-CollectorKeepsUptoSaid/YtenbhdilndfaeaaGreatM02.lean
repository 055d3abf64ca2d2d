import Derived.Test.YtenbhdilndfaeaaGreatM01
import Derived.BigGuardPart
import Derived.Deep.RegionHeld3
import Derived.IntWalk
set_option maxRecDepth 100000
set_option maxHeartbeats 0
set_option linter.all false
namespace Go.Proofs.YtenbhdilndfaeaaGreat
open Go.RowKit Go.Proofs.Tryz
variable{W:World}{v:Value}{g:Nat}{t:TypeId}{cs:Array Value}(i:Nat)
def GW(W:World):Type:={w':World // J [] W w'}
instance (W:World):Nonempty (GW W):=⟨⟨W,F_ _ _⟩⟩
def jS{P:Program}{id:Nat}{Q:Exit->Act->World->Prop}{a:Act}{w:World}{l:QZ}(c:J [] W w)(f:P.follows .mixedOrders=true)(e:Region.lexB .any l.toArray=true)(h:wpQuiet P l.toArray (λw'=>∃x:GW W,w'=x.1) (λa'=>∀w',(∃x:GW W,w'=x.1)->Q .normal a' w') l a):(Code.region id l.toArray true).wp P Q a w:=
 wp_region_quiet (C:=λw'=>∃x:GW W,w'=x.1) f e ⟨⟨_,c.drew⟩,rfl⟩ (zu h)
def Calls.gq{P:Program}{f:FuncId}{args:Array Value}{x:GW W}(h:Calls P f args x.1 λe w'=>e=.returned v/\J [] x.1 w'):Calls P f args x.1 λe c=>e=.returned v/\∃y:GW W,c=y.1:=
 h.mono λ_ c⟨k,m⟩=>⟨k,⟨c,x.2.trans m⟩,rfl⟩
def q8{P:Program}{ops:Array Oper}{Q:Act->Prop}{a:Act}{o:Oper}{rest:QZ}(c:TypeId)(x:Operand)(u:o.op=.load c x)(g:Nat)(B:a.eval x=q_ g)(t:TypeId)(cs:Array Value)(m:∀y:GW W,Bk y.1 g t cs)(d:TypeDesc)(z:P.underlying c=some d)(n:d.isRow=true)(p:(P.info? c).map (·.size)=some cs.size)(k:Region.wanted o (yielded ops a.tmps)=true)(h:wpQuiet P ops (λw'=>∃x:GW W,w'=x.1) Q rest (a.put o.dst (.agg cs))):wpQuiet P ops (λw'=>∃x:GW W,w'=x.1) Q (o::rest) a:=by
 refine wpQuiet_step λD f=>?_;rw[U_ k];refine⟨.agg cs,λw' e=>?_,f _ h⟩;obtain⟨y,rfl⟩:=e;have s:=run_loadAt_mid (P:=P) y.1 g 0 c cs.toList d (λj v A=>by rw[X_,(m y).f_];simpa using A) z n (zu p);unfold Oper.quietAt execOp;simp only[u,B,s,Sem.run_bind,Sem.run_pure,Result.andThen_ok];exact⟨rfl,H⟩
def Bk.gw(h:Bk W g t cs):∀y:GW W,Bk y.1 g t cs:=λy=>h.hF y.2
def Bk.zY(h:Bk W g t cs)(i:Nat):∀y:GW W,y.1.cell? (Z g i)=cs[i]?:=λy=>(h.hF y.2).f_ i
def ln{P:Program}{ops:Array Oper}{Q:Act->Prop}{e:Array Value}{ds:List Deferred}{f:Tmp}{x:Tmp}{c b:TypeId}{pos:String}{a:Array Edge}{k:Option (Nat × Bool)}{rest:QZ}{d:TypeDesc}(n:∀y:GW W,Bk y.1 g t cs)(s:P.underlying c=some d)(p:d.isRow=true)(q:(P.info? c).map (·.size)=some cs.size)(u:e.getD x undef=q_ g)(m:Region.wanted ⟨some f,.load c (.tmp x),b,pos,a,k⟩ (yielded ops e)=true)(h:wpQuiet P ops (λw'=>∃x:GW W,w'=x.1) Q rest ⟨e.setIfInBounds f (.agg cs),ds⟩):wpQuiet P ops (λw'=>∃x:GW W,w'=x.1) Q (⟨some f,.load c (.tmp x),b,pos,a,k⟩::rest) ⟨e,ds⟩:=
 q8 c (.tmp x) rfl g u t cs n d s p q m h
section
variable{P:Program}{FP ops:Array Oper}{C:World->Prop}{Qh:Act->Prop}{Q:Exit->Act->World->Prop}{N:Nat}{o:Oper}
end
section
variable{P:Program}{ops:Array Oper}{Q:Exit->Act->World->Prop}{md:Region.Mode}{S:World->Prop}{N:Nat}
def j1(P:Program)(md:Region.Mode)(ops:Array Oper)(Q:Exit->Act->World->Prop)(S:World->Prop)(N:Nat):Nat->Array Bool->Act->World->Prop
 |0,listed,a,w=>Region.ready md ops listed=[]/\Q .normal a w
 |fuel+1,listed,a,w=>
  (Region.ready md ops listed=[]->Q .normal a w)/\
  ∀i∈Region.ready md ops listed,wpOp P ops Q i (λa' w'=>(i<N->S w')/\j1 P md ops Q S N fuel (listed.setIfInBounds i true) a' w') a w
def sM:∀(fuel:Nat) (listed:Array Bool) (a:Act) (w:World),j1 P md ops Q S N fuel listed a w->wpAny P md ops Q fuel listed a w
 |0,_,_,_,h=>h
 |fuel+1,_,_,_,h=>⟨h.1,λi c=>wpOp_mono (λa' w' o=>sM fuel _ a' w' o.2) (h.2 i c)⟩
def r0(md:Region.Mode)(ops:Array Oper)(listed:Array Bool):Prop:=
 ∀k ok,ops[k]?=some ok->listed.getD k false=true->∀e∈ok.after,Region.binds md e=true->listed.getD e.on false=true
def nL{j:Nat}{listed:Array Bool}(h:j∈Region.ready md ops listed):listed.getD j false=false:=by
 have c:=(mem_ready.1 h).1;rw[F9]at c |-
 cases e:listed[j]? with
 |none=>rw[e]at c;simp at c
 |some b=>rw[e]at c;simpa using c
def getD_set_true{listed:Array Bool}{j k:Nat}(h:listed.getD k false=true):(listed.setIfInBounds j true).getD k false=true:=by
 rw[F9]at h |-;rw[M_]
 by_cases c:j=k
 .subst c;rw[U_ rfl];cases e:listed[j]? with
  |none=>rw[e]at h;simp at h
  |some b=>
   have:=(GN.1 e).1;rw[U_ this];rfl
 rw[T_ c];exact h
def r0.set{listed:Array Bool}{j:Nat}(h:r0 md ops listed)(s:j∈Region.ready md ops listed):r0 md ops (listed.setIfInBounds j true):=by
 intro p ok m n e k f;by_cases a:j=p;subst a;obtain⟨_,oj,c,q⟩:=mem_ready.1 s;rw[m]at c;injection c with c;subst c;exact getD_set_true (q e k f);refine getD_set_true (h p ok m ?_ e k f);rw[F9,M_,T_ a]at n;rw[F9];exact n
def yj(md:Region.Mode)(ops:Array Oper)(listed:Array Bool):Bool:=
 (List.range ops.size).all λk=> !listed.getD k false||((ops[k]?).map λok=>ok.after.all λe=> !Region.binds md e||listed.getD e.on false).getD true
def xu{listed:Array Bool}(h:yj md ops listed=true):r0 md ops listed:=by
 intro q ok e p k n m;have f:=(GN.1 e).1;have c:=Gy.1 h q (GI.2 f);rw[p,e]at c;simp only[Bool.not_true,H8,Iu,Hc]at c;have:=(Ia.1 c) k n;rw[m]at this;exact No
def xh{o:Oper}{fuel:Nat}{listed:Array Bool}{a:Act}{w:World}(c:Region.ready md ops listed=[i])(p:ops[i]?=some o)(h:∀e:Act->World->Prop,Shut (∀a w,(i<N->S w)->j1 P md ops Q S N fuel (listed.setIfInBounds i true) a w->e a w)->if Region.wanted o (yielded ops a.tmps)=true then Oper.wp P o a w e Q else e (a.put o.dst undef) w):
 j1 P md ops Q S N (fuel+1) listed a w:=by
 refine⟨λn=>(by rw[n]at c;cases c),λj f=>?_⟩;rw[c]at f;have:j=i:=zu f;subst this;exact wpOp_step p (λe k=>h e (λa w C m=>k a w ⟨C,m⟩))
def jI{l:QZ}{i:Nat}{o:Oper}{r:QZ}(h:l.drop i=o::r):l.toArray[i]?=some o:=by
 have:(l.drop i)[0]?=some o:=by rw[h];rfl
 rw[H6]at this;exact No
def vP{l:QZ}{o:Oper}{r:QZ}{fuel:Nat}{listed:Array Bool}{a:Act}{w:World}(c:l.drop i=o::r)(f:Region.ready md l.toArray listed=[i])(h:∀e:Act->World->Prop,Shut (∀a w,(i<N->S w)->j1 P md l.toArray Q S N fuel (listed.setIfInBounds i true) a w->e a w)->if Region.wanted o (yielded l.toArray a.tmps)=true then Oper.wp P o a w e Q else e (a.put o.dst undef) w):
 j1 P md l.toArray Q S N (fuel+1) listed a w:=xh i f (jI c) h
def hM{listed:Array Bool}{a:Act}{w:World}(c:Region.ready md ops listed=[])(h:Q .normal a w):
 ∀fuel,j1 P md ops Q S N fuel listed a w
 |0=>⟨c,h⟩
 |_+1=>⟨λ_=>h,by rw[c];simp⟩
def hN(S:World->Prop)(N:Nat){id:Nat}{a:Act}{w:World}(c:P.follows .mixedOrders=true)
 (h:j1 P .any ops Q S N ops.size (Array.replicate ops.size false) a w.drew):(Code.region id ops true).wp P Q a w:=
 wp_region_any c (sM _ _ _ _ h)
end
section
variable{P:Program}{ops:Array Oper}{Q:Exit->Act->World->Prop}{o:Oper}{rest:QZ}{a:Act}{w:World}
def sJ(e:Region.wanted o (yielded ops a.tmps)=true)(hy:(execOp a.eval o).run P w=.ok (.value v) w)(h:wpList P ops Q rest (a.put o.dst v) w):wpList P ops Q (o::rest) a w:=
 wpList_step λf c=>by
  rw[U_ e];unfold Oper.wp;rw[hy];exact c _ _ h
def xf(e:Region.wanted o (yielded ops a.tmps)=false)(h:wpList P ops Q rest (a.put o.dst undef) w):wpList P ops Q (o::rest) a w:=
 wpList_step λf c=>by
  rw[T_ (by rw[e];simp)];exact c _ _ h
def ul(k:Region.wanted o (yielded ops a.tmps)=true)(h:∀e:Act->World->Prop,Shut (∀a w,wpList P ops Q rest a w->e a w)->Oper.wp P o a w e Q):wpList P ops Q (o::rest) a w:=
 wpList_step λc f=>by
  rw[U_ k];exact h c f
def rG{y:Nat->Option Bool}(h:o.guard=none):Region.wanted o y=true:=by simp[Region.wanted,h]
def pn{l:QZ}{tl:QW}{j d:Nat}{oj:Oper}{r:QZ}{r2:QW}{b b':Bool}(h:o.guard=some (j,b))(k:l.drop j=oj::r)(f:oj.dst=some d)(m:tl.drop d=.bool b'::r2):
 Region.wanted o (yielded l.toArray tl.toArray)=(b'==b):=by
 have e:tl.toArray[d]?=some (.bool b'):=by
  have:(tl.drop d)[0]?=some (.bool b'):=by rw[m];rfl
  rw[H6]at this;exact No
 have c:yielded l.toArray tl.toArray j=some b':=by
  unfold yielded;rw[jI k];simp only[Option.bind_some,f];rw[e]
 simp only[Region.wanted,h,c];cases b<;>cases b'<;>rfl
def iv(c:o.guard=none)(hy:(execOp a.eval o).run P w=.ok (.value v) w)(h:wpList P ops Q rest (a.put o.dst v) w):wpList P ops Q (o::rest) a w:=sJ (rG c) hy h
def nF(c:o.guard=none)(h:∀e:Act->World->Prop,Shut (∀a w,wpList P ops Q rest a w->e a w)->Oper.wp P o a w e Q):wpList P ops Q (o::rest) a w:=ul (rG c) h
section
variable{l:QZ}{tl:QW}{ds:List Deferred}{j d:Nat}{oj:Oper}{r:QZ}{r2:QW}{b b':Bool}
def ie(f:o.guard=some (j,b))(k:l.drop j=oj::r)(e:oj.dst=some d)(m:tl.drop d=.bool b'::r2)(c:(b'==b)=true)(hy:(execOp (Act.eval ⟨tl.toArray,ds⟩) o).run P w=.ok (.value v) w)(h:wpList P l.toArray Q rest (Act.put ⟨tl.toArray,ds⟩ o.dst v) w):wpList P l.toArray Q (o::rest) ⟨tl.toArray,ds⟩ w:=sJ ((pn f k e m).trans c) hy h
def iH(f:o.guard=some (j,b))(k:l.drop j=oj::r)(e:oj.dst=some d)(m:tl.drop d=.bool b'::r2)(c:(b'==b)=false)
 (h:wpList P l.toArray Q rest (Act.put ⟨tl.toArray,ds⟩ o.dst undef) w):wpList P l.toArray Q (o::rest) ⟨tl.toArray,ds⟩ w:=xf ((pn f k e m).trans c) h
def nE(k:o.guard=some (j,b))(m:l.drop j=oj::r)(f:oj.dst=some d)(n:tl.drop d=.bool b'::r2)(c:(b'==b)=true)
 (h:∀e:Act->World->Prop,Shut (∀a w,wpList P l.toArray Q rest a w->e a w)->Oper.wp P o ⟨tl.toArray,ds⟩ w e Q):wpList P l.toArray Q (o::rest) ⟨tl.toArray,ds⟩ w:=ul ((pn k m f n).trans c) h
end
end
section
variable{P:Program}{ops:Array Oper}{Q:Exit->Act->World->Prop}{md:Region.Mode}{S:World->Prop}{N:Nat}
def lu(md:Region.Mode)(ops:Array Oper):Nat->Nat->Nat->Bool
 |0,_,_=>false
 |f+1,j,i=>match ops[j]? with
  |none=>false
  |some oj=>oj.after.any λe=>Region.binds md e&&(e.on==i||lu md ops f e.on i)
def kJ{listed:Array Bool}(n:r0 md ops listed){i:Nat}:∀(f j:Nat),lu md ops f j i=true->(∀oj,ops[j]?=some oj->∀e∈oj.after,Region.binds md e=true->listed.getD e.on false=true)->listed.getD i false=true
 |0,_,h,_=>by cases h
 |f+1,j,h,x=>by
  unfold lu at h;cases m:ops[j]? with
  |none=>rw[m]at h;cases h
  |some oj=>
   rw[m]at h;simp only at h;obtain⟨q,u,k⟩:=Il.1 h;simp only[Gq,H7,beq_iff_eq]at k;have p:=x oj m _ (Array.getElem_mem u) k.1;rcases k.2 with c|c
   rw[<-c];exact p;exact kJ n f _ c (λok s=>n _ ok s p)
def tH{listed:Array Bool}{i j:Nat}(h:∀j,N<=j->j<ops.size->lu md ops 16 j i=true)(y:r0 md ops listed)(u:i∈Region.ready md ops listed)(x:j∈Region.ready md ops listed):j<N:=by
 rcases Ga j N with k|m
 exact k;obtain⟨_,oj,e,p⟩:=mem_ready.1 x;have f:=kJ y 16 j (h j m (GN.1 e).1) (λok c n s q=>by rw[e]at c;injection c with c;subst c;exact p n s q);rw[nL u]at f;cases f
def t6{i:Nat}{d:Oper}(x:ops[i]?=some d)(r:∀(j:Nat) (o:Oper) cs b,ops[j]?=some o->o.op≠ .select cs b)(F:∀c a w,Q (.panic c) (a.put d.dst v) w->Q (.panic c) a w)(E:∀j,N<=j->j<ops.size->lu md ops 16 j i=true):
 ∀(fuel:Nat) (listed:Array Bool) (a:Act) (w:World),r0 md ops listed->
  (∀j oj,ops[j]?=some oj->j≠i->listed.getD j true=false->(∀e∈oj.after,Region.binds md e=true->e.on≠i)->d.apart ops oj=true)->
  i∈Region.ready md ops listed->YieldsIf P ops S d v a->S w->
  j1 P md ops Q S N fuel (listed.setIfInBounds i true) (a.put d.dst v) w->j1 P md ops Q S N (fuel+1) listed a w:=by
 intro fuel;induction fuel with
 |zero=>
  intro listed a w _ _ f s C n;refine⟨λu=>(by rw[u]at f;cases f),λj k=>?_⟩;by_cases h:j=i;subst h;exact s.wpOp x C ⟨λ_=>C,n⟩;have:=ready_mono k h;rw[n.1]at this;cases this
 |succ fuel D=>
  intro listed a w z g f s C n;refine⟨λu=>(by rw[u]at f;cases f),λj k=>?_⟩;by_cases h:j=i;subst h;exact s.wpOp x C ⟨λ_=>C,n⟩;have p:=n.2 j (ready_mono k h);have T:=tH E z f k;obtain⟨A,oj,l,B⟩:=mem_ready.1 k;have M:∀e∈oj.after,Region.binds md e=true->e.on≠i:=λe J I G=>by
   have p:=B e J I;rw[G,nL f]at p;cases p
  have H:=wpOp_putIf l (g j oj l h A M) (λcs b=>r i d cs b x) (λcs b=>r j oj cs b l) F s p;have O:∀m ok,ops[m]?=some ok->m≠i->(listed.setIfInBounds j true).getD m true=false->
   (∀e∈ok.after,Region.binds md e=true->e.on≠i)->d.apart ops ok=true:=λm ok K U t L=>by
   refine g m ok K U ?_ L;by_cases y:j=m;subst y;exact A;rw[F9,M_,T_ y]at t;rw[F9];exact t
  refine wpOp_mono (λa' R q=>⟨q.2.1,D (listed.setIfInBounds j true) a' R (z.set k) O (ready_mono f (Ne.symm h)) q.1 (q.2.1 T) ?_⟩) H;rw[Array.setIfInBounds_comm _ _ h];exact q.2.2
def xi(md:Region.Mode)(ops:Array Oper)(N i:Nat):Bool:=(List.range ops.size).all λj=>decide (j<N)||lu md ops 16 j i
def qv{l:QZ}{d:Oper}{r:QZ}{fuel:Nat}{listed:Array Bool}{a:Act}{w:World}(f:l.drop i=d::r)(y:Region.noSelect l.toArray=true)(s:Region.free md l.toArray listed i=true)(x:(Region.ready md l.toArray listed).contains i=true)(k:xi md l.toArray N i=true)(u:yj md l.toArray listed=true)(n:∀c a w,Q (.panic c) (a.put d.dst v) w->Q (.panic c) a w)(hy:YieldsIf P l.toArray S d v a)(C:S w)(h:j1 P md l.toArray Q S N fuel (listed.setIfInBounds i true) (a.put d.dst v) w):j1 P md l.toArray Q S N (fuel+1) listed a w:=
 t6 (jI f) (Region.noSelect_spec y) n (λj z m=>by
  have e:=Gy.1 k j (GI.2 m);have p:decide (j<N)=false:=p_;rw[p]at e;simpa using e) fuel listed a w (xu u) (Region.free_spec (jI f) s) (zu x) hy C h
end
section
variable{P:Program}{md:Region.Mode}{S:World->Prop}{N:Nat}{Q:Exit->Act->World->Prop}{l:QZ}{fuel:Nat}{listed:Array Bool}{a a':Act}{w:World}
def ir{d:Oper}{r:QZ}(C:S w)(h:j1 P md l.toArray Q S N fuel (listed.setIfInBounds i true) a' w)(hi:l.drop i=d::r:=by rfl)(hs:Region.noSelect l.toArray=true:=by kernel_rfl)(hf:Region.free md l.toArray listed i=true:=by kernel_rfl)(hr:(Region.ready md l.toArray listed).contains i=true:=by kernel_rfl)(aD:xi md l.toArray N i=true:=by kernel_rfl)(hl:yj md l.toArray listed=true:=by kernel_rfl)(hy:YieldsIf P l.toArray S d v a:=by exact Or.inl ⟨r_,by(intro w' bF;(try dsimp only at bF);go_simp;with_reducible rfl)⟩)(hp:a.put d.dst v=a':=by(try simp only[a_]);exact rfl)(ah:∀c (a:Act) w,Q (.panic c) (a.put d.dst v) w->Q (.panic c) a w:=by exact λ_ _ _ h=>h):j1 P md l.toArray Q S N (fuel+1) listed a w:=by
 subst hp;exact qv i hi hs hf hr aD hl ah hy C h
def hY{o:Oper}{r:QZ}(h:∀e:Act->World->Prop,Shut (∀a w,(i<N->S w)->j1 P md l.toArray Q S N fuel (listed.setIfInBounds i true) a w->e a w)->if Region.wanted o (yielded l.toArray a.tmps)=true then Oper.wp P o a w e Q else e (a.put o.dst undef) w)(ho:l.drop i=o::r:=by rfl)(hr:Region.ready md l.toArray listed=[i]:=by kernel_rfl):j1 P md l.toArray Q S N (fuel+1) listed a w:=vP i ho hr h
def h4{K:Act->World->Prop}{i:Nat}(Nu:Shut (∀a w,(i<N->S w)->j1 P md l.toArray Q S N fuel listed a w->K a w))(C:S w)(h:S w->j1 P md l.toArray Q S N fuel listed a' w)
 (hp:a=a':=by(try simp only[a_]);exact rfl):K a w:=by
 subst hp;exact Nu.out _ _ (λ_=>C) (h C)
def mC(C:S w)(h:S w->j1 P md l.toArray Q S N fuel listed a w):j1 P md l.toArray Q S N fuel listed a w:=h C
end
def tW(a:Array Bool):Nat:=(a.toList.takeWhile id).length
section
variable{P:Program}{md:Region.Mode}{S:World->Prop}{N:Nat}{Q:Exit->Act->World->Prop}{l:QZ}{fuel:Nat}{listed:Array Bool}{a a':Act}{w:World}
def j2{i:Nat}{d:Oper}{r:QZ}(C:S w)(h:j1 P md l.toArray Q S N fuel (listed.setIfInBounds i true) a' w)(hn:tW listed=i:=by first|exact(by kernel_rfl:tW _=0)|exact(by kernel_rfl:tW _=1)|exact(by kernel_rfl:tW _=2)|exact(by kernel_rfl:tW _=3)|exact(by kernel_rfl:tW _=4)|exact(by kernel_rfl:tW _=5)|exact(by kernel_rfl:tW _=6)|exact(by kernel_rfl:tW _=7)|exact(by kernel_rfl:tW _=8)|exact(by kernel_rfl:tW _=9)|exact(by kernel_rfl:tW _=10)|exact(by kernel_rfl:tW _=11)|exact(by kernel_rfl:tW _=12)|exact(by kernel_rfl:tW _=13)|exact(by kernel_rfl:tW _=14)|exact(by kernel_rfl:tW _=15)|exact(by kernel_rfl:tW _=16)|exact(by kernel_rfl:tW _=17)|exact(by kernel_rfl:tW _=18)|exact(by kernel_rfl:tW _=19)|exact(by kernel_rfl:tW _=20))(hi:l.drop i=d::r:=by rfl)(hs:Region.noSelect l.toArray=true:=by kernel_rfl)(hf:Region.free md l.toArray listed i=true:=by kernel_rfl)(hr:(Region.ready md l.toArray listed).contains i=true:=by kernel_rfl)(aD:xi md l.toArray N i=true:=by kernel_rfl)(hl:yj md l.toArray listed=true:=by kernel_rfl)(hy:YieldsIf P l.toArray S d v a:=by exact Or.inl ⟨r_,by(intro w' bF;(try dsimp only at bF);go_simp;with_reducible rfl)⟩)(hp:a.put d.dst v=a':=by(try simp only[a_]);exact rfl)(ah:∀c (a:Act) w,Q (.panic c) (a.put d.dst v) w->Q (.panic c) a w:=by exact λ_ _ _ h=>h):j1 P md l.toArray Q S N (fuel+1) listed a w:=by
 subst hp;exact qv i hi hs hf hr aD hl ah hy C h
end
