import Derived.Test.YtenbhdilndfaeaaGreatM01
import Derived.BigGuardPart
import Derived.Deep.RegionHeld3
import Derived.IntWalk
set_option maxRecDepth 100000
set_option maxHeartbeats 0
set_option linter.all false
namespace Go.Proofs.YtenbhdilndfaeaaGreat
open Go.RowKit Go.Proofs.Tryz
variable{W:World}{v:Value}{g:Nat}{t:TypeId}{cs:Array Value}(i:Nat)
def GW(W:World):Type:={w':World // Gr [] W w'}
instance (W:World):Nonempty (GW W):=⟨⟨W,F_ _ _⟩⟩
theorem jO{P:Program}{id:Nat}{Q:Exit->Act->World->Prop}{a:Act}{w:World}{l:List Oper}(aT:Gr [] W w)(hm:P.follows .mixedOrders=true)(hB:Region.lexB .any l.toArray=true)(h:wpQuiet P l.toArray (λw'=>∃x:GW W,w'=x.1) (λa'=>∀w',(∃x:GW W,w'=x.1)->Q .normal a' w') l a):(Code.region id l.toArray true).wp P Q a w:=
 wp_region_quiet (C:=λw'=>∃x:GW W,w'=x.1) hm hB ⟨⟨_,aT.drew⟩,rfl⟩ (zu h)
theorem Calls.gq{P:Program}{f:FuncId}{args:Array Value}{x:GW W}(h:Calls P f args x.1 λe w'=>e=.returned v/\Gr [] x.1 w'):Calls P f args x.1 λe w''=>e=.returned v/\∃y:GW W,w''=y.1:=
 h.mono λ_ w''⟨he,hg⟩=>⟨he,⟨w'',x.2.trans hg⟩,rfl⟩
theorem qW{P:Program}{ops:Array Oper}{Q:Act->Prop}{a:Act}{o:Oper}{rest:List Oper}(ty:TypeId)(x:Operand)(ho:o.op=.load ty x)(g:Nat)(hx:a.eval x=q_ g)(t:TypeId)(cs:Array Value)(hB:∀y:GW W,Bk y.1 g t cs)(d:TypeDesc)(hu:P.underlying ty=some d)(hd:d.isRow=true)(hi:(P.info? ty).map (·.size)=some cs.size)(aM:Region.wanted o (yielded ops a.tmps)=true)(h:wpQuiet P ops (λw'=>∃x:GW W,w'=x.1) Q rest (a.put o.dst (.agg cs))):wpQuiet P ops (λw'=>∃x:GW W,w'=x.1) Q (o::rest) a:=by
 refine wpQuiet_step λK H=>?_
 rw[T_ aM];refine⟨.agg cs,λw' A=>?_,H _ h⟩;obtain⟨y,rfl⟩:=A;have hl:=run_loadAt_mid (P:=P) y.1 g 0 ty cs.toList d (λj v hv=>by rw[U_,(hB y).f_];simpa using hv) hu hd (zu hi);unfold Oper.quietAt execOp;simp only[ho,hx,hl,Sem.run_bind,Sem.run_pure,Result.andThen_ok];exact⟨rfl,s_⟩
theorem Bk.gw(h:Bk W g t cs):∀y:GW W,Bk y.1 g t cs:=λy=>h.hG y.2
theorem Bk.zg(h:Bk W g t cs)(i:Nat):∀y:GW W,y.1.cell? (c_ g i)=cs[i]?:=λy=>(h.hG y.2).f_ i
theorem ld{P:Program}{ops:Array Oper}{Q:Act->Prop}{tmps:Array Value}{ds:List Deferred}{dst:Tmp}{x:Tmp}{ty b:TypeId}{pos:String}{a:Array Edge}{a7:Option (Nat × Bool)}{rest:List Oper}{d:TypeDesc}(hB:∀y:GW W,Bk y.1 g t cs)(hu:P.underlying ty=some d)(hd:d.isRow=true)(hi:(P.info? ty).map (·.size)=some cs.size)(hx:tmps.getD x undef=q_ g)(aM:Region.wanted ⟨some dst,.load ty (.tmp x),b,pos,a,a7⟩ (yielded ops tmps)=true)(h:wpQuiet P ops (λw'=>∃x:GW W,w'=x.1) Q rest ⟨tmps.setIfInBounds dst (.agg cs),ds⟩):wpQuiet P ops (λw'=>∃x:GW W,w'=x.1) Q (⟨some dst,.load ty (.tmp x),b,pos,a,a7⟩::rest) ⟨tmps,ds⟩:=
 qW ty (.tmp x) rfl g hx t cs hB d hu hd hi aM h
section
variable{P:Program}{Ep ops:Array Oper}{C:World->Prop}{Qh:Act->Prop}{Q:Exit->Act->World->Prop}{N:Nat}{o:Oper}
end
section
variable{P:Program}{ops:Array Oper}{Q:Exit->Act->World->Prop}{md:Region.Mode}{S:World->Prop}{N:Nat}
def jv(P:Program)(md:Region.Mode)(ops:Array Oper)(Q:Exit->Act->World->Prop)(S:World->Prop)(N:Nat):Nat->Array Bool->Act->World->Prop
 |0,listed,a,w=>Region.ready md ops listed=[]/\Q .normal a w
 |fuel+1,listed,a,w=>
  (Region.ready md ops listed=[]->Q .normal a w)/\
  ∀i∈Region.ready md ops listed,wpOp P ops Q i (λa' w'=>(i<N->S w')/\jv P md ops Q S N fuel (listed.setIfInBounds i true) a' w') a w
theorem sx:∀(fuel:Nat) (listed:Array Bool) (a:Act) (w:World),jv P md ops Q S N fuel listed a w->wpAny P md ops Q fuel listed a w
 |0,_,_,_,h=>h
 |fuel+1,_,_,_,h=>⟨h.1,λi hi=>wpOp_mono (λa' w' j=>sx fuel _ a' w' j.2) (h.2 i hi)⟩
def rN(md:Region.Mode)(ops:Array Oper)(listed:Array Bool):Prop:=
 ∀k ok,ops[k]?=some ok->listed.getD k false=true->∀e∈ok.after,Region.binds md e=true->listed.getD e.on false=true
theorem nz{j:Nat}{listed:Array Bool}(h:j∈Region.ready md ops listed):listed.getD j false=false:=by
 have h1:=(mem_ready.1 h).1;rw[EE]at h1 |-
 cases hl:listed[j]? with
 |none=>rw[hl]at h1;simp at h1
 |some b=>rw[hl]at h1;simpa using h1
theorem getD_set_true{listed:Array Bool}{j k:Nat}(h:listed.getD k false=true):(listed.setIfInBounds j true).getD k false=true:=by
 rw[EE]at h |-;rw[K_]
 by_cases cC:j=k
 .subst cC;rw[T_ rfl]
  cases hl:listed[j]? with
  |none=>rw[hl]at h;simp at h
  |some b=>
   have:=(Fb.1 hl).1
   rw[T_ this]
   rfl
 .rw[Q_ cC];exact h
theorem rN.set{listed:Array Bool}{j:Nat}(h:rN md ops listed)(hj:j∈Region.ready md ops listed):rN md ops (listed.setIfInBounds j true):=by
 intro k ok hk hl e he hb
 by_cases a:j=k
 .subst a;obtain⟨_,oj,h2,h3⟩:=mem_ready.1 hj;rw[hk]at h2;injection h2 with h2;subst h2;exact getD_set_true (h3 e he hb)
 .refine getD_set_true (h k ok hk ?_ e he hb);rw[EE,K_,Q_ a]at hl;rw[EE];exact hl
def xL(md:Region.Mode)(ops:Array Oper)(listed:Array Bool):Bool:=
 (List.range ops.size).all λk=> !listed.getD k false||((ops[k]?).map λok=>ok.after.all λe=> !Region.binds md e||listed.getD e.on false).getD true
theorem wO{listed:Array Bool}(h:xL md ops listed=true):rN md ops listed:=by
 intro k ok hk hl e he hb;have ag:=(Fb.1 hk).1;have h1:=EV.1 h k (Fe.2 ag);rw[hl,hk]at h1;simp only[Bool.not_true,Gp,G3,Fw]at h1
 have:=(Gq.1 h1) e he
 rw[hb]at this;exact LO
theorem wD{o:Oper}{fuel:Nat}{listed:Array Bool}{a:Act}{w:World}(hr:Region.ready md ops listed=[i])(ho:ops[i]?=some o)(h:∀e:Act->World->Prop,Shut (∀a w,(i<N->S w)->jv P md ops Q S N fuel (listed.setIfInBounds i true) a w->e a w)->if Region.wanted o (yielded ops a.tmps)=true then Oper.wp P o a w e Q else e (a.put o.dst undef) w):
 jv P md ops Q S N (fuel+1) listed a w:=by
 refine⟨λh0=>(by rw[h0]at hr;cases hr),λj hj=>?_⟩;rw[hr]at hj
 have:j=i:=zu hj
 subst this;exact wpOp_step ho (λe H=>h e (λa w C aT=>H a w ⟨C,aT⟩))
theorem jn{l:List Oper}{i:Nat}{o:Oper}{r:List Oper}(h:l.drop i=o::r):l.toArray[i]?=some o:=by
 have:(l.drop i)[0]?=some o:=by rw[h];rfl
 rw[GJ]at this;exact LO
theorem u9{l:List Oper}{o:Oper}{r:List Oper}{fuel:Nat}{listed:Array Bool}{a:Act}{w:World}(ho:l.drop i=o::r)(hr:Region.ready md l.toArray listed=[i])(h:∀e:Act->World->Prop,Shut (∀a w,(i<N->S w)->jv P md l.toArray Q S N fuel (listed.setIfInBounds i true) a w->e a w)->if Region.wanted o (yielded l.toArray a.tmps)=true then Oper.wp P o a w e Q else e (a.put o.dst undef) w):
 jv P md l.toArray Q S N (fuel+1) listed a w:=wD i hr (jn ho) h
theorem hN{listed:Array Bool}{a:Act}{w:World}(hr:Region.ready md ops listed=[])(h:Q .normal a w):
 ∀fuel,jv P md ops Q S N fuel listed a w
 |0=>⟨hr,h⟩
 |_+1=>⟨λ_=>h,by rw[hr];simp⟩
theorem hQ(S:World->Prop)(N:Nat){id:Nat}{a:Act}{w:World}(hm:P.follows .mixedOrders=true)
 (h:jv P .any ops Q S N ops.size (Array.replicate ops.size false) a w.drew):(Code.region id ops true).wp P Q a w:=
 wp_region_any hm (sx _ _ _ _ h)
end
section
variable{P:Program}{ops:Array Oper}{Q:Exit->Act->World->Prop}{o:Oper}{rest:List Oper}{a:Act}{w:World}
theorem sw(aM:Region.wanted o (yielded ops a.tmps)=true)(hy:(execOp a.eval o).run P w=.ok (.value v) w)(h:wpList P ops Q rest (a.put o.dst v) w):wpList P ops Q (o::rest) a w:=
 wpList_step λK H=>by
  rw[T_ aM];unfold Oper.wp;rw[hy];exact H _ _ h
theorem wB(aM:Region.wanted o (yielded ops a.tmps)=false)(h:wpList P ops Q rest (a.put o.dst undef) w):wpList P ops Q (o::rest) a w:=
 wpList_step λK H=>by
  rw[Q_ (by rw[aM];simp)];exact H _ _ h
theorem tX(aM:Region.wanted o (yielded ops a.tmps)=true)(h:∀e:Act->World->Prop,Shut (∀a w,wpList P ops Q rest a w->e a w)->Oper.wp P o a w e Q):wpList P ops Q (o::rest) a w:=
 wpList_step λK H=>by
  rw[T_ aM];exact h K H
theorem rq{y:Nat->Option Bool}(h:o.guard=none):Region.wanted o y=true:=by simp[Region.wanted,h]
theorem o7{l:List Oper}{tl:List Value}{j d:Nat}{oj:Oper}{r:List Oper}{r2:List Value}{b b':Bool}(hg:o.guard=some (j,b))(hj:l.drop j=oj::r)(hd:oj.dst=some d)(hv:tl.drop d=.bool b'::r2):
 Region.wanted o (yielded l.toArray tl.toArray)=(b'==b):=by
 have h2:tl.toArray[d]?=some (.bool b'):=by
  have:(tl.drop d)[0]?=some (.bool b'):=by rw[hv];rfl
  rw[GJ]at this;exact LO
 have h1:yielded l.toArray tl.toArray j=some b':=by
  unfold yielded;rw[jn hj];simp only[Option.bind_some,hd];rw[h2]
 simp only[Region.wanted,hg,h1]
 cases b<;>cases b'<;>rfl
theorem it(hg:o.guard=none)(hy:(execOp a.eval o).run P w=.ok (.value v) w)(h:wpList P ops Q rest (a.put o.dst v) w):wpList P ops Q (o::rest) a w:=sw (rq hg) hy h
theorem ni(hg:o.guard=none)(h:∀e:Act->World->Prop,Shut (∀a w,wpList P ops Q rest a w->e a w)->Oper.wp P o a w e Q):wpList P ops Q (o::rest) a w:=tX (rq hg) h
section
variable{l:List Oper}{tl:List Value}{ds:List Deferred}{j d:Nat}{oj:Oper}{r:List Oper}{r2:List Value}{b b':Bool}
theorem ie(hg:o.guard=some (j,b))(hj:l.drop j=oj::r)(hd:oj.dst=some d)(hv:tl.drop d=.bool b'::r2)(hb:(b'==b)=true)(hy:(execOp (Act.eval ⟨tl.toArray,ds⟩) o).run P w=.ok (.value v) w)(h:wpList P l.toArray Q rest (Act.put ⟨tl.toArray,ds⟩ o.dst v) w):wpList P l.toArray Q (o::rest) ⟨tl.toArray,ds⟩ w:=sw ((o7 hg hj hd hv).trans hb) hy h
theorem iE(hg:o.guard=some (j,b))(hj:l.drop j=oj::r)(hd:oj.dst=some d)(hv:tl.drop d=.bool b'::r2)(hb:(b'==b)=false)
 (h:wpList P l.toArray Q rest (Act.put ⟨tl.toArray,ds⟩ o.dst undef) w):wpList P l.toArray Q (o::rest) ⟨tl.toArray,ds⟩ w:=wB ((o7 hg hj hd hv).trans hb) h
theorem nh(hg:o.guard=some (j,b))(hj:l.drop j=oj::r)(hd:oj.dst=some d)(hv:tl.drop d=.bool b'::r2)(hb:(b'==b)=true)
 (h:∀e:Act->World->Prop,Shut (∀a w,wpList P l.toArray Q rest a w->e a w)->Oper.wp P o ⟨tl.toArray,ds⟩ w e Q):wpList P l.toArray Q (o::rest) ⟨tl.toArray,ds⟩ w:=tX ((o7 hg hj hd hv).trans hb) h
end
end
section
variable{P:Program}{ops:Array Oper}{Q:Exit->Act->World->Prop}{md:Region.Mode}{S:World->Prop}{N:Nat}
def lj(md:Region.Mode)(ops:Array Oper):Nat->Nat->Nat->Bool
 |0,_,_=>false
 |f+1,j,i=>match ops[j]? with
  |none=>false
  |some oj=>oj.after.any λe=>Region.binds md e&&(e.on==i||lj md ops f e.on i)
theorem kz{listed:Array Bool}(hs:rN md ops listed){i:Nat}:∀(f j:Nat),lj md ops f j i=true->(∀oj,ops[j]?=some oj->∀e∈oj.after,Region.binds md e=true->listed.getD e.on false=true)->listed.getD i false=true
 |0,_,h,_=>by cases h
 |f+1,j,h,hl=>by
  unfold lj at h
  cases ho:ops[j]? with
  |none=>rw[ho]at h;cases h
  |some oj=>
   rw[ho]at h;simp only at h;obtain⟨q,am,hb⟩:=GU.1 h;simp only[ES,Gn,beq_iff_eq]at hb;have s:=hl oj ho _ (Array.getElem_mem am) hb.1
   rcases hb.2 with h2|h2
   .rw[<-h2];exact s
   .exact kz hs f _ h2 (λok bw=>hs _ ok bw s)
theorem ti{listed:Array Bool}{i j:Nat}(h:∀j,N<=j->j<ops.size->lj md ops 16 j i=true)(hs:rN md ops listed)(hi:i∈Region.ready md ops listed)(hj:j∈Region.ready md ops listed):j<N:=by
 rcases EJ j N with ag|bA
 .exact ag
 .obtain⟨_,oj,h2,h3⟩:=mem_ready.1 hj;have hl:=kz hs 16 j (h j bA (Fb.1 h2).1) (λok bw e he hb=>by rw[h2]at bw;injection bw with bw;subst bw;exact h3 e he hb);rw[nz hi]at hl
  cases hl
theorem tJ{i:Nat}{d:Oper}(hi:ops[i]?=some d)(q:∀(j:Nat) (o:Oper) cs b,ops[j]?=some o->o.op≠ .select cs b)(ad:∀c a w,Q (.panic c) (a.put d.dst v) w->Q (.panic c) a w)(aM:∀j,N<=j->j<ops.size->lj md ops 16 j i=true):
 ∀(fuel:Nat) (listed:Array Bool) (a:Act) (w:World),rN md ops listed->
  (∀j oj,ops[j]?=some oj->j≠i->listed.getD j true=false->(∀e∈oj.after,Region.binds md e=true->e.on≠i)->d.apart ops oj=true)->
  i∈Region.ready md ops listed->YieldsIf P ops S d v a->S w->
  jv P md ops Q S N fuel (listed.setIfInBounds i true) (a.put d.dst v) w->jv P md ops Q S N (fuel+1) listed a w:=by
 intro fuel
 induction fuel with
 |zero=>
  intro listed a w _ _ hr hy C H;refine⟨λh=>(by rw[h]at hr;cases hr),λj hj=>?_⟩
  by_cases s:j=i
  .subst s;exact hy.wpOp hi C ⟨λ_=>C,H⟩
  .have:=ready_mono hj s
   rw[H.1]at this
   cases this
 |succ fuel Z=>
  intro listed a w z g hr hy C H;refine⟨λh=>(by rw[h]at hr;cases hr),λj hj=>?_⟩
  by_cases s:j=i
  .subst s;exact hy.wpOp hi C ⟨λ_=>C,H⟩
  .have h1:=H.2 j (ready_mono hj s);have u:=ti aM z hr hj;obtain⟨n,oj,l,B⟩:=mem_ready.1 hj
   have p:∀e∈oj.after,Region.binds md e=true->e.on≠i:=λe he hb f=>by
    have h1:=B e he hb;rw[f,nz hr]at h1
    cases h1
   have h2:=wpOp_putIf l (g j oj l s n p) (λcs b=>q i d cs b hi) (λcs b=>q j oj cs b l) ad hy h1
   have t:∀k ok,ops[k]?=some ok->k≠i->(listed.setIfInBounds j true).getD k true=false->
    (∀e∈ok.after,Region.binds md e=true->e.on≠i)->d.apart ops ok=true:=λk ok hk x r m=>by
    refine g k ok hk x ?_ m
    by_cases cC:j=k
    .subst cC;exact n
    .rw[EE,K_,Q_ cC]at r;rw[EE];exact r
   refine wpOp_mono (λa' w' h3=>⟨h3.2.1,Z (listed.setIfInBounds j true) a' w' (z.set hj) t (ready_mono hr (Ne.symm s)) h3.1 (h3.2.1 u) ?_⟩) h2;rw[Array.setIfInBounds_comm _ _ s];exact h3.2.2
def wE(md:Region.Mode)(ops:Array Oper)(N i:Nat):Bool:=(List.range ops.size).all λj=>decide (j<N)||lj md ops 16 j i
theorem ql{l:List Oper}{d:Oper}{r:List Oper}{fuel:Nat}{listed:Array Bool}{a:Act}{w:World}(hi:l.drop i=d::r)(hs:Region.noSelect l.toArray=true)(hf:Region.free md l.toArray listed i=true)(hr:(Region.ready md l.toArray listed).contains i=true)(aM:wE md l.toArray N i=true)(hl:xL md l.toArray listed=true)(ad:∀c a w,Q (.panic c) (a.put d.dst v) w->Q (.panic c) a w)(hy:YieldsIf P l.toArray S d v a)(C:S w)(h:jv P md l.toArray Q S N fuel (listed.setIfInBounds i true) (a.put d.dst v) w):jv P md l.toArray Q S N (fuel+1) listed a w:=
 tJ (jn hi) (Region.noSelect_spec hs) ad (λj hj ag=>by
  have h1:=EV.1 aM j (Fe.2 ag);have hd:decide (j<N)=false:=p_;rw[hd]at h1
  simpa using h1) fuel listed a w (wO hl) (Region.free_spec (jn hi) hf) (zu hr) hy C h
end
section
variable{P:Program}{md:Region.Mode}{S:World->Prop}{N:Nat}{Q:Exit->Act->World->Prop}{l:List Oper}{fuel:Nat}{listed:Array Bool}{a a':Act}{w:World}
theorem iP{d:Oper}{r:List Oper}(C:S w)(h:jv P md l.toArray Q S N fuel (listed.setIfInBounds i true) a' w)(hi:l.drop i=d::r:=by rfl)(hs:Region.noSelect l.toArray=true:=by kernel_rfl)(hf:Region.free md l.toArray listed i=true:=by kernel_rfl)(hr:(Region.ready md l.toArray listed).contains i=true:=by kernel_rfl)(aM:wE md l.toArray N i=true:=by kernel_rfl)(hl:xL md l.toArray listed=true:=by kernel_rfl)(hy:YieldsIf P l.toArray S d v a:=by exact Or.inl ⟨r_,by(intro w' bR;(try dsimp only at bR);go_simp;with_reducible rfl)⟩)(hp:a.put d.dst v=a':=by(try simp only[a_]);exact rfl)(ad:∀c (a:Act) w,Q (.panic c) (a.put d.dst v) w->Q (.panic c) a w:=by exact λ_ _ _ h=>h):jv P md l.toArray Q S N (fuel+1) listed a w:=by
 subst hp;exact ql i hi hs hf hr aM hl ad hy C h
theorem h4{o:Oper}{r:List Oper}(h:∀e:Act->World->Prop,Shut (∀a w,(i<N->S w)->jv P md l.toArray Q S N fuel (listed.setIfInBounds i true) a w->e a w)->if Region.wanted o (yielded l.toArray a.tmps)=true then Oper.wp P o a w e Q else e (a.put o.dst undef) w)(ho:l.drop i=o::r:=by rfl)(hr:Region.ready md l.toArray listed=[i]:=by kernel_rfl):jv P md l.toArray Q S N (fuel+1) listed a w:=u9 i ho hr h
theorem h5{K:Act->World->Prop}{i:Nat}(H:Shut (∀a w,(i<N->S w)->jv P md l.toArray Q S N fuel listed a w->K a w))(C:S w)(h:S w->jv P md l.toArray Q S N fuel listed a' w)
 (hp:a=a':=by(try simp only[a_]);exact rfl):K a w:=by
 subst hp;exact H.out _ _ (λ_=>C) (h C)
theorem nt(C:S w)(h:S w->jv P md l.toArray Q S N fuel listed a w):jv P md l.toArray Q S N fuel listed a w:=h C
end
def tE(a:Array Bool):Nat:=(a.toList.takeWhile id).length
section
variable{P:Program}{md:Region.Mode}{S:World->Prop}{N:Nat}{Q:Exit->Act->World->Prop}{l:List Oper}{fuel:Nat}{listed:Array Bool}{a a':Act}{w:World}
theorem jW{i:Nat}{d:Oper}{r:List Oper}(C:S w)(h:jv P md l.toArray Q S N fuel (listed.setIfInBounds i true) a' w)(hn:tE listed=i:=by first|exact(by kernel_rfl:tE _=0)|exact(by kernel_rfl:tE _=1)|exact(by kernel_rfl:tE _=2)|exact(by kernel_rfl:tE _=3)|exact(by kernel_rfl:tE _=4)|exact(by kernel_rfl:tE _=5)|exact(by kernel_rfl:tE _=6)|exact(by kernel_rfl:tE _=7)|exact(by kernel_rfl:tE _=8)|exact(by kernel_rfl:tE _=9)|exact(by kernel_rfl:tE _=10)|exact(by kernel_rfl:tE _=11)|exact(by kernel_rfl:tE _=12)|exact(by kernel_rfl:tE _=13)|exact(by kernel_rfl:tE _=14)|exact(by kernel_rfl:tE _=15)|exact(by kernel_rfl:tE _=16)|exact(by kernel_rfl:tE _=17)|exact(by kernel_rfl:tE _=18)|exact(by kernel_rfl:tE _=19)|exact(by kernel_rfl:tE _=20))(hi:l.drop i=d::r:=by rfl)(hs:Region.noSelect l.toArray=true:=by kernel_rfl)(hf:Region.free md l.toArray listed i=true:=by kernel_rfl)(hr:(Region.ready md l.toArray listed).contains i=true:=by kernel_rfl)(aM:wE md l.toArray N i=true:=by kernel_rfl)(hl:xL md l.toArray listed=true:=by kernel_rfl)(hy:YieldsIf P l.toArray S d v a:=by exact Or.inl ⟨r_,by(intro w' bR;(try dsimp only at bR);go_simp;with_reducible rfl)⟩)(hp:a.put d.dst v=a':=by(try simp only[a_]);exact rfl)(ad:∀c (a:Act) w,Q (.panic c) (a.put d.dst v) w->Q (.panic c) a w:=by exact λ_ _ _ h=>h):jv P md l.toArray Q S N (fuel+1) listed a w:=by
 subst hp;exact ql i hi hs hf hr aM hl ad hy C h
end
end Go.Proofs.YtenbhdilndfaeaaGreat
