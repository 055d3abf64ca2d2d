import Derived.Test.YtenbhdilndfaeaaGreatR31
set_option maxRecDepth 100000
set_option maxHeartbeats 0
set_option linter.all false
namespace Go.Proofs.YtenbhdilndfaeaaGreat
open Go.RowKit Go.Proofs.Tryz
variable{G:Prop}{g9 i:Int}{d:List Int}{k:Nat}{MR:Int->Prop}
def J6(h:G:=by
 exact⟨V.i3,V.js,λe=>U_ e (by decide:¬(2:Int)=1),λe=>U_ e (by decide:¬(2:Int)=0),λe=>U_ e (by decide:¬(2:Int)=3),(by decide:¬(2:Int)=4)⟩):G:=h
def Ks(h:G:=by
 have w2:=w1.write (t.lo (.inr rfl) (by decide:(0:Int)<=2) (FR 2)) (TV.AZ t (f:=2) (by decide) hv)
 exact w2.zg _ _ _ _ _ _ λ_=>US.default):G:=h
def Lq(h:G:=by
 rw[ho]at h;exact LU):G:=h
def L4(h:G:=by
 cases V:h6 h n 2 with
 |none=>rw[V]at this;cases this
 |some a=>exact ly V):G:=h
def L5(h:G:=by
 cases V:h6 h 1 2 with
 |none=>rw[V]at this;cases this
 |some a=>exact ly V):G:=h
def My(h:G:=by
 exact⟨h.fault t _,λq=>by cases q⟩):G:=h
def nU(h:List Ob):Prop:=(hQ h).Pairwise (· < ·)
def wF:∀(h:List Ob) (n:Int),∀x∈hQ (h.take (mA h n)),x<n
 |[],_,x,b=>by simp[hQ]at b
 |c::h,n,x,b=>by
  unfold mA at b;split at b
  .rw[H4]at b
   rcases N_.1 b with rfl|b
   .assumption
   .exact wF h n x b
  .simp[hQ]at b
def wG:∀{h:List Ob} {n:Int},nU h->n∉hQ h->∀x∈hQ (h.drop (mA h n)),n<x
 |[],_,_,_,x,c=>by simp[hQ]at c
 |f::h,n,m,g,x,c=>by
  have b:=H7.1 (show(f.id::hQ h).Pairwise (· < ·) from m)
  have o:n≠f.id:=λe=>g (by rw[e];exact F9)
  have j:n∉hQ h:=λe=>g (FQ _ e)
  unfold mA at c;split at c
  .rw[List.drop_succ_cons]at c;exact wG (h:=h) b.2 j x c
  .rw[List.drop_zero]at c
   rcases N_.1 c with rfl|c
   .show n<f.id
    omega
   .have:=b.1 x c
    omega
def rn{h:List Ob}{n:Int}(g:jn h n<0):n∉hQ h:=λe=>by
 obtain⟨j,c⟩:=od.1 e
 rcases m5 h n with⟨_,b⟩|⟨k,_,f,_⟩
 .rw[c]at b
  cases b
 .omega
def nU.put{h:List Ob}(c:nU h)(b:Ob):nU (jY h b):=by
 unfold jY;split
 .rename_i f;have o:=wF h b.id;have g:=wG c (rn f)
  have m:(hQ (h.take (mA h b.id))).Pairwise (· < ·):=by unfold hQ;rw[List.map_take];exact List.Pairwise.sublist (List.take_sublist _ _) c
  have n:(hQ (h.drop (mA h b.id))).Pairwise (· < ·):=by unfold hQ;rw[List.map_drop];exact List.Pairwise.sublist (List.drop_sublist _ _) c
  unfold nU hQ at*;rw[FI,FI,Ge,H1];refine⟨m,H7.2 ⟨g,n⟩,λa p j e=>?_⟩
  have:=o a p
  rcases N_.1 e with rfl|e
  .exact this
  .exact Int.lt_trans this (g j e)
 .rename_i f;obtain⟨m,j⟩:=s5 f;generalize (jn h b.id).toNat=k at*
  have g:hQ (h.take k++[b]++h.drop (k+1))=hQ h:=by
   unfold hQ
   have n:h=h.take k++h[k]::h.drop (k+1):=by rw[<-Y_ m,Gk]
   have e:=FN (List.map (·.id)) n;rw[FI,Gn,j]at e;rw[e];simp
  unfold nU;rw[g];exact c
def nU.puts:∀(l:List Ob) {h:List Ob},nU h->nU (l.foldl jY h)
 |[],_,b=>b
 |c::l,_,b=>nU.puts l (b.put c)
def nU.la{h:List Ob}(b:nU h)(t:i6):nU (la h t):=by
 unfold nU Go.Proofs.YtenbhdilndfaeaaGreat.la;rw[pN,jy];exact b.puts _
def um.EP{l:List In}{hq:Int}{f:List Int}{k:Nat}{run:Int}{s:qs}(h:um l hq g9 d f k run s):nU s.h:=by
 have e:nU []:=List.Pairwise.nil
 induction h with
 |hG=>show nU (startHeap hq);unfold nU startHeap hQ;simp
 |ask h j g b=>
  rename_i k run s
  rcases ug l hq g9 f s with c|c
  .rw[c];exact e
  .unfold nU;rw[c];exact b
 |commit h j g b=>
  rename_i k run s;unfold kF;rw[I_ I];split
  .exact e
  split
  .exact e
  show nU (ko s _).h
  unfold ko;split<;>exact b.la _
def nU.get{h:List Ob}(j:nU h):∀{b:Ob},b∈h->iU h b.id=some b:=by
 induction h with
 |nil=>intro b c;cases c
 |cons a h f=>
  intro b c;have e:=H7.1 (show(a.id::hQ h).Pairwise (· < ·) from j);unfold iU;rw[List.find?_cons]
  rcases N_.1 c with rfl|c
  .simp
  .have:=e.1 b.id (Z_.2 ⟨b,c,rfl⟩)
   have g:(a.id==b.id)=false:=p_;rw[g];exact f e.2 c
/-! what a heap reads, after writes and puts -/
def nU.nodup{h:List Ob}(b:nU h):(hQ h).Nodup:=b.imp λh=>Int.ne_of_lt h
def wL{h:List Ob}(t:(hQ h).Nodup)(q:i∈hQ h)(F:Ob->Ob)(E:∀b,(F b).id=b.id)(n:Int):
 iU (h.modify (jn h i).toNat F) n=if n=i then(iU h i).map F else iU h n:=by
 have e:h.modify (jn h i).toNat F=h.map λb=>if b.id=i then F b else b:=by
  rcases m5 h i with⟨_,c⟩|⟨k,s,a,c⟩
  .obtain⟨b,j⟩:=od.1 q;rw[c]at j
   cases j
  have m:h[k].id=i:=ph c;rw[a,F0];apply GM
  .simp
  .intro j p v
   have r:j<h.length:=by simpa using p
   rw[Gw,Gg]
   by_cases MR:k=j
   .subst MR;rw[O_ rfl,O_ m]
   .rw[I_ MR,I_];intro e
    have u:(hQ h)[k]'(by unfold hQ;simpa using s)=(hQ h)[j]'(by unfold hQ;simpa using r):=by unfold hQ;rw[Gg,Gg,m,e]
    exact MR ((List.getElem_inj t).1 u)
 rw[e];unfold iU;rw[List.find?_map]
 have o:((λb:Ob=>b.id==n)∘λb=>if b.id=i then F b else b)=λb:Ob=>b.id==n:=by
  funext b;simp only[Function.comp];split
  .rw[E]
  .rfl
 rw[o]
 by_cases g:n=i
 .subst g;rw[O_ rfl]
  cases f:h.find? (λb:Ob=>b.id==n)with
  |none=>rfl
  |some b=>
   have:b.id=n:=ph f
   simp[this]
 .rw[I_ g]
  cases f:h.find? (λb:Ob=>b.id==n)with
  |none=>rfl
  |some b=>
   have:b.id=n:=ph f
   simp[this,g]
def BD(h:List Ob)(b:Ob)(n:Int)(u:(hQ h).Nodup):iU (jY h b) n=if n=b.id then some b else iU h n:=by
 have q:∀(l:List Ob),b.id∉hQ l->l.find? (λx:Ob=>x.id==b.id)=none:=by
  intro l t;rw[List.find?_eq_none];intro x o;simp only[beq_iff_eq];intro c;exact t (Z_.2 ⟨x,o,c⟩)
 unfold jY;split
 .rename_i m;have j:=rn m
  have g:b.id∉hQ (h.take (mA h b.id)):=λf=>j (by obtain⟨x,o,c⟩:=Z_.1 f;exact Z_.2 ⟨x,Gf o,c⟩)
  unfold iU;rw[G4,G4]
  by_cases e:n=b.id
  .subst e;rw[O_ rfl,q _ g];simp
  .rw[I_ e]
   have c:[b].find? (λx:Ob=>x.id==n)=none:=by simp;exact λc=>e c.symm
   rw[c]
   have f:h.find? (λx:Ob=>x.id==n)=(h.take (mA h b.id)++h.drop (mA h b.id)).find? (λx:Ob=>x.id==n):=by rw[Gk]
   rw[f,G4];simp
 .rename_i m;obtain⟨s,p⟩:=s5 m;generalize (jn h b.id).toNat=k at *
  have f:h=h.take k++h[k]::h.drop (k+1):=by rw[<-Y_ s,Gk]
  have g:b.id∉hQ (h.take k):=by
   intro r
   have j:(hQ (h.take k++h[k]::h.drop (k+1))).Nodup:=by rw[<-f];exact u
   unfold hQ at j;rw[FI,Gs]at j;exact j.2.2 _ r _ (Z_.2 ⟨h[k],F9,p⟩) rfl
  unfold iU;rw[G4,G4]
  by_cases e:n=b.id
  .subst e;rw[O_ rfl,q _ g];simp
  .rw[I_ e]
   have c:[b].find? (λx:Ob=>x.id==n)=none:=by simp;exact λc=>e c.symm
   rw[c]
   have v:h.find? (λx:Ob=>x.id==n)=(h.take k++h[k]::h.drop (k+1)).find? (λx:Ob=>x.id==n):=by rw[<-f]
   rw[v,G4,List.find?_cons,show(h[k].id==n)=false by rw[p];simpa using λc=>e c.symm];simp
def t6(o:Option Ob)(f:Int):Option Vl:=match o with
 |none=>none
 |some o=>if f<0 then none else o.fs[f.toNat]?
def kn(h:List Ob)(i f:Int):h6 h i f=t6 (iU h i) f:=rfl
def uX{h:List Ob}(b:(hQ h).Nodup)(c:Cl):(hQ (pr h c)).Nodup:=by rw[rm];exact b
def ly{h:List Ob}{f:Int}{v:Vl}(e:h6 h i f=some v):i∈hQ h:=by
 obtain⟨k,c,_,b,_⟩:=mM e;exact od.2 ⟨_,b⟩
/-- what a list of cells makes of a value -/
def wf1(i f:Int)(a:Vl)(c:Cl):Vl:=if c.id=i/\c.f=f then c.v else a
def ld(ws:List Cl)(i f:Int)(a:Vl):Vl:=ws.foldl (wf1 i f) a
def qn{h:List Ob}(r:(hQ h).Nodup)(c:Cl)(i f:Int):h6 (pr h c) i f=(h6 h i f).map λa=>wf1 i f a c:=by
 unfold pr
 cases e:h6 h c.id c.f with
 |none=>
  simp only
  cases g:h6 h i f with
  |none=>rfl
  |some a=>
   show some a=some (wf1 i f a c)
   unfold wf1;rw[I_];rintro⟨b,j⟩;rw[b,j,g]at e
   cases e
 |some w=>
  simp only;obtain⟨k,t,u,q,v,o,s⟩:=mM e;rw[kn,kn];unfold kL;rw[wL r (ly e) (λp=>⟨p.id,p.fs.set c.f.toNat c.v⟩) (λ_=>rfl)]
  by_cases j:i=c.id
  .subst j;rw[O_ rfl,q];simp only[HH,t6]
   by_cases b:f<0
   .rw[O_ b,O_ b]
    rfl
   .rw[I_ b,I_ b,HB]
    by_cases n:c.f=f
    .subst n;rw[O_ rfl,O_ o,L_ o]
     show some c.v=some (wf1 _ _ _ _)
     unfold wf1;rw[O_ ⟨rfl,rfl⟩]
    .rw[I_ (by omega)]
     cases g:h[k].fs[f.toNat]? with
     |none=>rfl
     |some a=>show some a=some (wf1 _ _ _ _);unfold wf1;rw[I_ (λm=>n m.2)]
  .rw[I_ j]
   cases g:t6 (iU h i) f with
   |none=>rfl
   |some a=>show some a=some (wf1 _ _ _ _);unfold wf1;rw[I_ (λm=>j m.1.symm)]
def lS:∀(ws:List Cl) {h:List Ob} (_:(hQ h).Nodup) (i f:Int),h6 (it h ws) i f=(h6 h i f).map (ld ws i f)
 |[],h,_,i,f=>by
  show h6 h i f=(h6 h i f).map (ld [] i f)
  cases h6 h i f<;>rfl
 |c::ws,h,b,i,f=>by
  show h6 (it (pr h c) ws) i f=_
  rw[lS ws (uX b c),qn b]
  cases h6 h i f<;>rfl
def mN{h:List Ob}(c:nU h)(b:Ob)(i f:Int):h6 (jY h b) i f=if i=b.id then t6 (some b) f else h6 h i f:=by
 rw[kn,BD h b i c.nodup,kn];split<;>rfl
def pf:∀(nw:List Ob) {h:List Ob} (_:nU h) (_:(hQ nw).Nodup) (i f:Int),h6 (nw.foldl jY h) i f=if i∈hQ nw then h6 nw i f else h6 h i f
 |[],h,_,_,i,f=>by simp[hQ]
 |b::nw,h,m,q,i,f=>by
  have n:=G6.1 (show(b.id::hQ nw).Nodup from q);rw[GT,pf nw (m.put b) n.2,mN m]
  have p:h6 (b::nw) i f=if i=b.id then t6 (some b) f else h6 nw i f:=by
   rw[kn,kn];unfold iU;rw[List.find?_cons]
   by_cases g:i=b.id
   .rw[O_ g,show(b.id==i)=true by simp[g]]
   .rw[I_ g,show(b.id==i)=false by simpa using λo=>g o.symm]
  rw[p];have j:i∈hQ (b::nw)↔i=b.id∨i∈hQ nw:=N_
  by_cases c:i=b.id
  .have e:i∉hQ nw:=by rw[c];exact n.1
   rw[I_ e,O_ c,O_ (j.2 (.inl c)),O_ c]
  .by_cases e:i∈hQ nw
   .rw[O_ e,O_ (j.2 (.inr e)),I_ c]
   .rw[I_ e,I_ c,I_ (λo=>(j.1 o).elim c e)]
/-! the heap of a program that runs: frames and what the program makes -/
def US(MR F:Int->Prop)(v:Vl):Prop:=v.r=true->v.n=0∨(MR v.n/\¬F v.n/\v.n≠1)
structure TV(l:List In)(MR F:Int->Prop)(id f:Int)(v:Vl):Prop where
 r0:id=1->f=0->v.r=true/\F v.n
 r1:id=1->f≠0->US MR F v
 p0:F id->f=0->v.r=true/\(v.n=0∨F v.n)
 p1:F id->f=1->v.r=false/\iA l v.n=true
 p2:F id->f=2->v.r=false/\(v.n=0∨iA l v.n=true)
 p3:F id->3<=f->US MR F v
 us:id≠1->¬F id->US MR F v
structure TH(l:List In)(h:List Ob)(F:Int->Prop):Prop where
 f1:¬F 1
 f0:¬F 0
 fr:∀n,F n->(h6 h n 2).isSome=true
 ro:(h6 h 1 2).isSome=true
 tv:∀i f v,h6 h i f=some v->TV l (·∈hQ h) F i f v
structure B3(a b:List Ob):Prop where
 ids:∀n,n∈hQ a↔n∈hQ b
 rd:∀i f,h6 a i f=h6 b i f
def B3.refl(a:List Ob):B3 a a:=⟨λ_=>Iff.rfl,λ_ _=>rfl⟩
def B3.symm{a b:List Ob}(h:B3 a b):B3 b a:=⟨λe=>(h.ids e).symm,λi c=>(h.rd i c).symm⟩
def B3.Fh{a b:List Ob}(h:B3 a b):(λn=>n∈hQ a)=λn=>n∈hQ b:=funext λn=>propext (h.ids n)
def TH.congr{l:List In}{a b:List Ob}{F:Int->Prop}(h:TH l a F)(e:B3 a b):TH l b F:=
 ⟨h.f1,h.f0,λm j=>by rw[<-e.rd];exact h.fr m j,by rw[<-e.rd];exact h.ro,λi g n c=>by rw[<-e.rd]at c;have f:=h.tv i g n c;rw[e.Fh]at f;exact f⟩
def US.default{F:Int->Prop}:US MR F (default:Vl):=λb=>by cases b
def US.num{F:Int->Prop}(n:Int):US MR F ⟨false,n⟩:=λb=>by cases b
def TH.pr{l:List In}{h:List Ob}{F:Int->Prop}(t:TH l h F)(f:(hQ h).Nodup){c:Cl}(o:TV l (·∈hQ h) F c.id c.f c.v):TH l (pr h c) F:=by
 have n:hQ (Go.Proofs.YtenbhdilndfaeaaGreat.pr h c)=hQ h:=rm h c;refine⟨t.f1,t.f0,λm p=>?_,?_,λi j q b=>?_⟩
 .rw[qn f]
  have:=t.fr m p
  cases e:h6 h m 2 with
  |none=>rw[e]at this;cases this
  |some a=>rfl
 .rw[qn f]
  have:=t.ro
  cases e:h6 h 1 2 with
  |none=>rw[e]at this;cases this
  |some a=>rfl
 .rw[qn f]at b;rw[n]
  cases e:h6 h i j with
  |none=>rw[e]at b;cases b
  |some a=>
   rw[e]at b;injection b with b;unfold wf1 at b;split at b
   .rename_i g;rw[<-b,<-g.1,<-g.2];exact o
   .rw[<-b];exact t.tv i j a e
def TH.it{l:List In}{F:Int->Prop}:∀(ws:List Cl) {h:List Ob} (_:TH l h F) (_:(hQ h).Nodup) (_:∀c∈ws,TV l (·∈hQ h) F c.id c.f c.v),TH l (it h ws) F
 |[],_,t,_,_=>t
 |c::ws,h,t,e,b=>by
  refine TH.it ws (t.pr e (b c F9)) (uX e c) λx f=>?_
  rw[rm];exact b x (FQ _ f)
def US.mono{b F e:Int->Prop}(f:∀n,MR n->b n)(E:∀n,MR n->e n->F n){v:Vl}(h:US MR F v):US b e v:=λg=>(h g).imp id λc=>⟨f _ c.1,λx=>c.2.1 (E _ c.1 x),c.2.2⟩
/-- an object of the program is put -/
def TH.put{l:List In}{h:List Ob}{F:Int->Prop}(t:TH l h F)(o:nU h)(e:Ob)(j:e.id∉hQ h)(z:∀v∈e.fs,US (·∈hQ h) F v):TH l (jY h e) F:=by
 have y:1∈hQ h:=by
  have:=t.ro
  exact L5
 have p:∀n,F n->n∈hQ h:=λn j=>by
  have:=t.fr n j
  exact L4
 have q:(1:Int)≠e.id:=λf=>j (f▸y)
 have m:∀v,US (·∈hQ h) F v->US (·∈hQ (jY h e)) F v:=λv c=>c.mono (λn b=>(mZ h e n).2 (.inl b)) λ_ _ b=>b
 refine⟨t.f1,t.f0,λn r=>?_,?_,λi w v c=>?_⟩
 .rw[mN o,I_ (λf:n=e.id=>j (f▸p n r))];exact t.fr n r
 .rw[mN o,I_ q];exact t.ro
 .rw[mN o]at c;split at c
  .rename_i f
   have u:v∈e.fs:=by unfold t6 at c;simp only at c;split at c;cases c;exact H2 c
   have g:¬F i:=λb=>j (f▸p i b)
   have s:i≠1:=λb=>q (b▸f)
   exact⟨λb=>U_ b s,λb=>U_ b s,λb=>U_ b g,λb=>U_ b g,λb=>U_ b g,λb=>U_ b g,λ_ _=>m v (z v u)⟩
  .have b:=t.tv i w v c;exact⟨b.r0,λa g=>m v (b.r1 a g),b.p0,b.p1,b.p2,λa g=>m v (b.p3 a g),λa g=>m v (b.us a g)⟩
/-- a frame is put -/
def TH.EU{l:List In}{h:List Ob}{F:Int->Prop}(t:TH l h F)(s:nU h)(i:Int)(a b c:Vl)(r:List Vl)(m:i∉hQ h)(y:i≠0)(u:a.r=true/\(a.n=0∨F a.n))(A:b.r=false/\iA l b.n=true)(B:c.r=false/\(c.n=0∨iA l c.n=true))(E:∀v∈r,US (·∈hQ h) F v):TH l (jY h ⟨i,a::b::c::r⟩) (λn=>F n∨n=i):=by
 have z:1∈hQ h:=by
  have:=t.ro
  exact L5
 have I:∀n,F n->n∈hQ h:=λn m=>by
  have:=t.fr n m
  exact L4
 have q:(1:Int)≠i:=λg=>m (g▸z)
 have o:∀v,US (·∈hQ h) F v->US (·∈hQ (jY h ⟨i,a::b::c::r⟩)) (λn=>F n∨n=i) v:=λv f=>f.mono (λn e=>(mZ h _ n).2 (.inl e)) λn e x=>x.elim id λg=>U_ (show i∈hQ h from g▸e) m
 refine⟨λe=>e.elim t.f1 (λg=>q g),λe=>e.elim t.f0 (λg=>y g.symm),λn C=>?_,?_,λj p v f=>?_⟩
 .rw[mN s];split
  .rfl
  .rename_i g;exact t.fr n (C.resolve_right g)
 .rw[mN s,I_ q];exact t.ro
 .rw[mN s]at f;split at f
  .rename_i g;have g:j=i:=g;subst g
   have w:j≠1:=λe=>q e.symm
   unfold t6 at f;simp only at f;split at f
   .cases f
   rename_i MT;refine⟨λe=>U_ e w,λe=>U_ e w,λ_ e=>?_,λ_ e=>?_,λ_ e=>?_,λ_ e=>?_,λ_ e=>U_ (.inr rfl) e⟩
   .subst e;injection f with f;rw[<-f];exact⟨u.1,u.2.imp id .inl⟩
   .subst e;injection f with f;rw[<-f];exact A
   .subst e;injection f with f;rw[<-f];exact B
   .obtain⟨k,D⟩:∃k:Nat,p.toNat=k+3:=⟨p.toNat-3,by omega⟩;rw[D]at f;exact o v (E v (H2 (show r[k]?=some v from f)))
  .rename_i g;have e:=t.tv j p v f;have g:j≠i:=g
   have d:∀{w:Prop},(F j->w)->(F j∨j=i)->w:=λD H=>D (H.resolve_right g)
   exact⟨λa b=>⟨(e.r0 a b).1,.inl (e.r0 a b).2⟩,λa b=>o v (e.r1 a b),λa b=>d (λa=>⟨(e.p0 a b).1,(e.p0 a b).2.imp id .inl⟩) a,λa b=>d (λa=>e.p1 a b) a,λa b=>d (λa=>e.p2 a b) a,λa b=>d (λa=>o v (e.p3 a b)) a,λa b=>o v (e.us a λx=>b (.inl x))⟩
structure XT(l:List In)(MT:List Ob)(F:Int->Prop)(x:XP):Prop where
 hh:x.h=MT
 i3:x.i3=l
 br:x.hH=false
 rd:∀c∈x.e.rs,h6 MT c.id c.f=some c.v
 ws:∀c∈x.e.ws,(h6 MT c.id c.f).isSome=true/\TV l (·∈hQ MT) F c.id c.f c.v
 nw:x.e.nw=[]
 sr:∀i,US (·∈hQ MT) F (x.sr i)
 r:∀i,US (·∈hQ MT) F (x.e.r i)
section
variable{l:List In}{MT:List Ob}{F:Int->Prop}{x:XP}
def mU{c:Type}{b:Option c}(h:b.isSome=true):∃a,b=some a:=by
 cases b with
 |none=>cases h
 |some a=>exact⟨a,rfl⟩
def qm{h:List Ob}(k:Int)(m:0<=k)(f:(h6 h i k).isSome=true):∃b,iU h i=some b/\k<(b.fs.length:Int)/\iG h i=b.fs.length:=by
 obtain⟨o,e⟩:=mU f;obtain⟨n,j,_,c,_,g,_⟩:=mM e;refine⟨_,c,by omega,?_⟩;unfold iG;rw[c]
def tV{h:List Ob}{b:Ob}(e:iU h i=some b){k:Int}(h0:0<=k)(f:k<(b.fs.length:Int)):(h6 h i k).isSome=true:=by
 have c:k.toNat<b.fs.length:=by omega
 unfold h6;rw[e];simp only;rw[I_ (by omega),L_ c]
 rfl
def TH.lo(t:TH l MT F){n:Int}(b:F n∨n=1){k:Int}(h0:0<=k)(f:k<=2):(h6 MT n k).isSome=true:=by
 have e:(h6 MT n 2).isSome=true:=by
  rcases b with b|rfl
  .exact t.fr n b
  .exact t.ro
 obtain⟨h,c,g,_⟩:=qm 2 (by decide) e;exact tV c h0 (by omega)
def XT.read(h:XT l MT F x){f:Int}(g:(h6 MT i f).isSome=true):XT l MT F (hJ x i f).1/\h6 MT i f=some (hJ x i f).2:=by
 obtain⟨m,c⟩:=mU g
 have j:h6 x.h i f=some m:=by rw[h.hh];exact c
 unfold hJ;rw[j];simp only;split
 .exact⟨h,c⟩
 .refine⟨{h with rd:=λe b=>?_},c⟩
  rcases T_.1 b with b|b
  .exact h.rd e b
  .rw[R_]at b;subst b;exact c
def XT.write(h:XT l MT F x){f:Int}{v:Vl}(e:(h6 MT i f).isSome=true)(g:TV l (·∈hQ MT) F i f v):XT l MT F (h4 x i f v):=by
 refine{h with ws:=λc b=>?_}
 rcases T_.1 b with b|b
 .exact h.ws c b
 .rw[R_]at b;subst b;exact⟨e,g⟩
def XT.zg(h:XT l MT F x)(k p s:Int)(t:Bool)(v:Vl)(r:Nat->Vl)(b:∀i,US (·∈hQ MT) F (r i)):XT l MT F {x with e:={x.e with hS:=k,pc:=p,kw:=s,hO:=t,v:=v,r:=r}}:={h with r:=b}
def XT.root(t:TH l MT F)(h:XT l MT F x):iB x=x:=by
 obtain⟨b,e,f,_⟩:=qm 2 (by decide) t.ro
 have c:iU x.h 1=some b:=by rw[h.hh];exact e
 unfold iB;rw[c];simp only
 have:decide ((b.fs.length:Int)<3)=false:=GH (by omega)
 rw[this,Bool.or_false]
def XT.frame(t:TH l MT F)(h:XT l MT F x):XT l MT F (hF x).1/\F (hF x).2.1/\(hF x).2.2=iG MT (hF x).2.1:=by
 unfold hF;rw[h.root t];simp only;rw[I_ (by rw[h.br];decide)];obtain⟨c,g⟩:=h.read (t.lo (.inr rfl) (FR 0) (by decide):(h6 MT 1 0).isSome=true);generalize hJ x 1 0=b at *;have e:=(t.tv 1 0 _ g).r0 rfl rfl;obtain⟨f,m,n,o⟩:=qm 2 (by decide) (t.fr _ e.2)
 have j:(b.1.hH||(!b.2.r||match iU b.1.h b.2.n with|none=>true|some f=>decide ((f.fs.length:Int)<3)))=false:=by
  rw[c.br,e.1,c.hh,m];simp;omega
 refine⟨{c with br:=j},e.2,?_⟩
 show iG b.1.h b.2.n=_
 rw[c.hh]
def TV.user{f:Int}{v:Vl}(c:i≠1)(E:¬F i)(e:US MR F v):TV l MR F i f v:=
 ⟨λb=>U_ b c,λb=>U_ b c,λb=>U_ b E,λb=>U_ b E,λb=>U_ b E,λb=>U_ b E,λ_ _=>e⟩
def TV.AZ(t:TH l MT F){f:Int}{v:Vl}(c:f≠0)(e:US (·∈hQ MT) F v):TV l (·∈hQ MT) F 1 f v:=
 ⟨λ_ b=>U_ b c,λ_ _=>e,λb=>U_ b t.f1,λb=>U_ b t.f1,λb=>U_ b t.f1,λb=>U_ b t.f1,λb=>U_ rfl b⟩
def TV.A0(t:TH l MT F){v:Vl}(c:v.r=true)(e:F v.n):TV l (·∈hQ MT) F 1 0 v:=
 ⟨λ_ _=>⟨c,e⟩,λ_ b=>U_ rfl b,λb=>U_ b t.f1,λb=>U_ b t.f1,λb=>U_ b t.f1,λb=>U_ b t.f1,λb=>U_ rfl b⟩
def TV.hand(t:TH l MT F)(c:F i){v:Vl}(f:v.r=false)(g:v.n=0∨iA l v.n=true):TV l (·∈hQ MT) F i 2 v:=
 have e:i≠1:=λb=>t.f1 (b▸c)
 ⟨λb=>U_ b e,λb=>U_ b e,λ_ b=>U_ b (by decide),λ_ b=>U_ b (by decide),λ_ _=>⟨f,g⟩,λ_ b=>U_ b (by decide),λ_ b=>U_ c b⟩
def TV.var(t:TH l MT F){f:Int}(c:F i)(h:3<=f){v:Vl}(g:US (·∈hQ MT) F v):TV l (·∈hQ MT) F i f v:=
 have e:i≠1:=λb=>t.f1 (b▸c)
 ⟨λb=>U_ b e,λb=>U_ b e,λ_ b=>by omega,λ_ b=>by omega,λ_ b=>by omega,λ_ _=>g,λ_ b=>U_ c b⟩
def XT.throw(t:TH l MT F)(h:XT l MT F x){v:Vl}(hv:US (·∈hQ MT) F v):XT l MT F (iX x v):=by
 obtain⟨n,b,_⟩:=h.frame t;unfold iX;simp only;generalize hF x=a at *;rw[I_ (by rw[n.br];decide)];obtain⟨e,p⟩:=n.read (t.lo (.inl b) (by decide:(0:Int)<=2) (FR 2));generalize hJ a.1 a.2.1 2=q at *;have o:=(t.tv _ _ _ p).p2 b rfl;rw[I_ (by rw[e.i3];rintro(c|c);rw[o.1]at c;cases c;rcases o.2 with m|m;exact c.1 m;rw[m]at c;cases c.2)];split
 .have w1:=e.write (t.lo (.inl b) (by decide:(0:Int)<=2) (FR 2)) (TV.hand t b (v:=default) rfl (.inl rfl));exact Ks
 .obtain⟨g,r⟩:=e.read (t.lo (.inl b) (FR 0) (by decide:(0:Int)<=2));generalize hJ q.1 a.2.1 0=u at *;have j:=(t.tv _ _ _ r).p0 b rfl;rw[I_ (by rw[j.1];decide)];split
  .exact g.zg _ _ _ _ _ _ g.sr
  .rename_i s;have w1:=g.write (t.lo (.inr rfl) (FR 0) (by decide:(0:Int)<=2)) (TV.A0 t j.1 (j.2.resolve_left s));exact Ks
def XT.fault(t:TH l MT F)(h:XT l MT F x)(n:Int):XT l MT F (ji x n):=h.throw t (US.num n)
def XT.reg(h:XT l MT F x)(a:Int){v:Vl}(b:US (·∈hQ MT) F v):XT l MT F (kY x a v):=by
 refine{h with r:=λi=>?_}
 show US _ F (pJ x.e.r a v i)
 unfold pJ;split
 .exact b
 .exact h.r i
def XT.go(h:XT l MT F x)(pc:Int):XT l MT F (sD x pc):={h with}
def XT.object(t:TH l MT F)(h:XT l MT F x){v:Vl}{f:Int}(e:0<=f)(j:US (·∈hQ MT) F v):XT l MT F (ih x v f).1/\((ih x v f).2.2=true->¬F (ih x v f).2.1/\(ih x v f).2.1≠1/\(h6 MT (ih x v f).2.1 f).isSome=true):=by
 unfold ih;split
 .exact My
 rename_i b
 have b:v.r=true:=by simpa using b
 split
 .exact My
 rename_i g;have q:=(j b).resolve_left g;obtain⟨n,c⟩:=od.1 q.1;rw[h.hh,c];simp only;split
 .exact My
 .rename_i m;exact⟨h,λ_=>⟨q.2.1,q.2.2,tV c e (by omega)⟩⟩
def XT.variable(t:TH l MT F)(h:XT l MT F x){n:Int}(j:0<=n):XT l MT F (ht x n).1/\((ht x n).2.2.2=true->F (ht x n).2.1/\3<=(ht x n).2.2.1/\(h6 MT (ht x n).2.1 (ht x n).2.2.1).isSome=true):=by
 obtain⟨b,c,g⟩:=h.frame t;unfold ht;simp only;generalize hF x=a at *;rw[I_ (by rw[b.br];decide)];split
 .exact⟨b.fault t _,λe=>by cases e⟩
 .rename_i o;obtain⟨m,e,_,f⟩:=qm 2 (by decide) (t.fr _ c);exact⟨b,λ_=>⟨c,by show 3<=3+n;omega,tV e (by show 0<=3+n;omega) (by show 3+n<_;omega)⟩⟩
def uH{op:Int}{a b:Vl}:US MR F (iz op a b).1:=Kj
def XT.h8(t:TH l MT F)(h:XT l MT F x){i:In}{y:XP}(hy:jb x i=some y):XT l MT F y:=by
 unfold jb at hy
 refine h7 (R:=XT l MT F) hy (λ_=>h) λ_ hy=>?_
 refine h7 (R:=XT l MT F) hy (λ_=>h.reg _ (US.num _)) λ_ hy=>?_
 refine h7 (R:=XT l MT F) hy (λ_=>h.reg _ λ_=>.inl rfl) λ_ hy=>?_
 refine h7 (R:=XT l MT F) hy (λ_=>h.reg _ (h.r _)) λ_ hy=>?_
 refine h7 (R:=XT l MT F) hy (λ_=>?_) λ_ hy=>?_
 .split
  .exact h.fault t _
  .exact h.reg _ uH
 refine h7 (R:=XT l MT F) hy (λ_=>h.go _) λ_ hy=>?_
 refine h7 (R:=XT l MT F) hy (λ_=>?_) λ_ hy=>?_
 .split
  .exact h
  .exact h.go _
 refine h7 (R:=XT l MT F) hy (λ_=>{h with r:=λ_=>US.default}) λ_ hy=>?_
 refine h7 (R:=XT l MT F) hy (λ_=>h.throw t (h.r _)) λ_ hy=>?_
 refine h7 (R:=XT l MT F) hy (λ_=>?_) λ_ hy=>by cases hy
 split
 .exact h.fault t _
 .exact{h with}
def XT.hq(t:TH l MT F)(h:XT l MT F x){i:In}{y:XP}(j:i.op=8∨i.op=9∨i.op=10∨i.op=20->0<=i.n)(hy:ki x i=some y):XT l MT F y:=by
 unfold ki at hy
 by_cases o:i.op≠8/\i.op≠9/\i.op≠10/\i.op≠20
 .rw[O_ o]at hy
  cases hy
 rw[I_ o]at hy;have j:0<=i.n:=j (by omega);obtain⟨n,u⟩:=h.variable t j;dsimp only at hy;generalize ht x i.n=a at *
 by_cases f:a.2.2.2=false
 .rw[O_ f]at hy;injection hy with hy;subst hy;exact n
 rw[I_ f]at hy;obtain⟨g,e,m⟩:=u (by simpa using f)
 refine h7 (R:=XT l MT F) hy (λ_=>n.write m (TV.var t g e (h.sr _))) λ_ hy=>?_
 obtain⟨c,s⟩:=n.read m;generalize hJ a.1 a.2.1 a.2.2.1=q at *;have v:US (·∈hQ MT) F q.2:=(t.tv _ _ _ s).p3 g e
 refine h7 (R:=XT l MT F) hy (λ_=>c.reg _ v) λ_ hy=>?_
 by_cases p:i.op=10
 .rw[O_ p]at hy
  refine h7 (R:=XT l MT F) hy (λ_=>c.fault t _) λ_ hy=>?_
  injection hy with hy;subst hy;have w:=c.write m (TV.var t g e (uH (op:=i.b) (a:=q.2) (b:=x.sr i.a.toNat)));exact{w with}
 rw[I_ p]at hy
 refine h7 (R:=XT l MT F) hy (λ_=>c.fault t _) λ_ hy=>?_
 injection hy with hy;subst hy;exact{c with r:=c.sr}
end
/-- an effect that keeps the heap of a program well typed -/
structure DQ(l:List In)(MT:List Ob)(F:Int->Prop)(nx:Int)(e:qr):Prop where
 rd:∀c∈e.rs,h6 MT c.id c.f=some c.v
 nw:e.nw=[]∨∃o,e.nw=[o]/\o.id=nx
 ws:∀c∈e.ws,(h6 MT c.id c.f).isSome=true
 th:∃F',TH l (it (e.nw.foldl jY MT) e.ws) F'/\∀i,US (·∈hQ (it (e.nw.foldl jY MT) e.ws)) F' (e.r i)
def XT.Ec{l:List In}{MT:List Ob}{F:Int->Prop}{x:XP}(t:TH l MT F)(e:nU MT)(h:XT l MT F x)(nx:Int):DQ l MT F nx x.e:=by
 refine⟨h.rd,.inl h.nw,λb c=>(h.ws b c).1,F,?_,?_⟩
 .rw[h.nw]
  exact TH.it _ t e.nodup λb c=>(h.ws b c).2
 .rw[h.nw];intro i;rw[jy];exact h.r i
/-- what an instruction needs besides -/
structure EO(l:List In)(p:Int)(i:In):Prop where
 v:i.op=8∨i.op=9∨i.op=10∨i.op=20->0<=i.n
 o:i.op=5∨i.op=6->0<=i.n
 c:i.op=13->iA l (p+1)=true
 h:i.op=17->i.n=0∨iA l i.n=true
def XT.rest{l:List In}{MT:List Ob}{F:Int->Prop}{x:XP}(t:TH l MT F)(B:nU MT)(h:XT l MT F x){i:In}(E:EO l x.js i)(u:x.nx∉hQ MT)(Y:x.nx≠0):(jH x i).hH=false/\DQ l MT F x.nx (jH x i).e:=by
 have O:∀{c:XP},XT l MT F c->c.hH=false/\DQ l MT F x.nx c.e:=λq=>⟨q.br,q.Ec t B _⟩
 have A:1∈hQ MT:=by obtain⟨r,e⟩:=mU t.ro;exact ly e
 have Z:x.nx≠1:=λe=>u (e▸A)
 unfold jH;dsimp only
 by_cases K:i.op=5
 .rw[O_ K];apply O;obtain⟨m,N⟩:=h.object t (E.o (.inl K)) (h.sr i.b.toNat);generalize ih x (x.sr i.b.toNat) i.n=c at *
  by_cases q:c.2.2=true
  .rw[O_ q];obtain⟨z,Q,R⟩:=N q;obtain⟨J,M⟩:=m.read R;exact J.reg _ ((t.tv _ _ _ M).us Q z)
  .rw[I_ q];exact m
 rw[I_ K]
 by_cases I:i.op=6
 .rw[O_ I];apply O;obtain⟨m,N⟩:=h.object t (E.o (.inr I)) (h.sr i.b.toNat);generalize ih x (x.sr i.b.toNat) i.n=c at *
  by_cases q:c.2.2=true
  .rw[O_ q];obtain⟨z,Q,R⟩:=N q;exact m.write R (TV.user Q z (h.sr _))
  .rw[I_ q];exact m
 rw[I_ I]
 by_cases V:i.op=7
 .rw[O_ V];refine⟨h.br,h.rd,.inr ⟨_,rfl,rfl⟩,λj n=>(h.ws j n).1,F,?_,?_⟩
  .show TH l (it (jY MT ⟨x.nx,List.replicate i.n.toNat default⟩) x.e.ws) F
   have C:=t.put B ⟨x.nx,List.replicate i.n.toNat default⟩ u (λr p=>by rw[(Hm.1 p).2];exact US.default)
   refine TH.it _ C (B.put _).nodup λj n=>?_
   have b:=(h.ws j n).2
   have w:∀{r},US (·∈hQ MT) F r->US (·∈hQ (jY MT ⟨x.nx,List.replicate i.n.toNat default⟩)) F r:=λp=>p.mono (λo b=>(mZ MT _ o).2 (.inl b)) λ_ _ b=>b
   exact⟨b.r0,λa g=>w (b.r1 a g),b.p0,b.p1,b.p2,λa g=>w (b.p3 a g),λa g=>w (b.us a g)⟩
  .intro v
   show US (·∈hQ (it (jY MT ⟨x.nx,List.replicate i.n.toNat default⟩) x.e.ws)) F (pJ x.e.r i.a ⟨true,x.nx⟩ v)
   rw[jy];unfold pJ;split
   .intro _;refine .inr ⟨(mZ MT _ _).2 (.inr rfl),λb=>?_,Z⟩;obtain⟨r,e⟩:=mU (t.fr _ b);exact u (ly e)
   .exact(h.r v).mono (λo b=>(mZ MT _ o).2 (.inl b)) λ_ _ b=>b
 rw[I_ V]
 by_cases P:i.op=13
 .rw[O_ P];have U:(hF x).1.js=x.js:=(jU x).js;obtain⟨m,s,_⟩:=h.frame t;have k:=uC x;generalize hF x=c at *
  have L:∀j∈c.1.e.ws++[(⟨1,0,⟨true,c.1.nx⟩⟩:Cl)],j∈c.1.e.ws∨j=⟨1,0,⟨true,x.nx⟩⟩:=λj n=>(T_.1 n).imp id λn=>by rw[R_]at n;rw[n,k]
  refine⟨m.br,m.rd,.inr ⟨_,rfl,k⟩,λj n=>?_,?_⟩
  .rcases L j n with n|rfl
   .exact(m.ws j n).1
   .exact t.lo (.inr rfl) (FR 0) (by decide:(0:Int)<=2)
  .refine⟨λo=>F o∨o=x.nx,?_,?_⟩
   .show TH l (it (jY MT ⟨c.1.nx,⟨true,c.2.1⟩::⟨false,c.1.js+1⟩::default::((List.range i.b.toNat).map c.1.sr++List.replicate (i.c-i.b).toNat default)⟩) (c.1.e.ws++[⟨1,0,⟨true,c.1.nx⟩⟩])) _
    rw[k]at *
    have C:=t.EU B x.nx ⟨true,c.2.1⟩ ⟨false,c.1.js+1⟩ default ((List.range i.b.toNat).map c.1.sr++List.replicate (i.c-i.b).toNat default) u Y ⟨rfl,.inr s⟩ ⟨rfl,by rw[U];exact E.c P⟩ ⟨rfl,.inl rfl⟩ (λr p=>by
     rcases T_.1 p with p|p
     .obtain⟨v,_,e⟩:=Z_.1 p;rw[<-e];exact m.sr v
     .rw[(Hm.1 p).2]
      exact US.default)
    refine TH.it _ C (B.put _).nodup λj n=>?_
    rcases L j n with n|rfl
    .have b:=(m.ws j n).2
     have X:j.id∈hQ MT:=by obtain⟨r,e⟩:=mU (m.ws j n).1;exact ly e
     have S:j.id≠x.nx:=λe=>u (e▸X)
     have w:∀{r},US (·∈hQ MT) F r->US (·∈hQ (jY MT ⟨x.nx,⟨true,c.2.1⟩::⟨false,c.1.js+1⟩::default::((List.range i.b.toNat).map c.1.sr++List.replicate (i.c-i.b).toNat default)⟩)) (λo=>F o∨o=x.nx) r:=λp=>p.mono (λo b=>(mZ MT _ o).2 (.inl b)) λo b D=>D.elim id λe=>U_ (e▸b) u
     have d:∀{y:Prop},(F j.id->y)->(F j.id∨j.id=x.nx)->y:=λhp hx=>hp (hx.resolve_right S)
     exact⟨λa g=>⟨(b.r0 a g).1,.inl (b.r0 a g).2⟩,λa g=>w (b.r1 a g),λa g=>d (λa=>⟨(b.p0 a g).1,(b.p0 a g).2.imp id .inl⟩) a,λa g=>d (λa=>b.p1 a g) a,λa g=>d (λa=>b.p2 a g) a,λa g=>d (λa=>w (b.p3 a g)) a,λa g=>w (b.us a λx=>g (.inl x))⟩
    .exact TV.A0 C rfl (.inr rfl)
   .intro v
    show US (·∈hQ (it (jY MT ⟨c.1.nx,⟨true,c.2.1⟩::⟨false,c.1.js+1⟩::default::((List.range i.b.toNat).map c.1.sr++List.replicate (i.c-i.b).toNat default)⟩) (c.1.e.ws++[⟨1,0,⟨true,c.1.nx⟩⟩]))) _ (c.1.e.r v)
    rw[jy,k]
    exact(m.r v).mono (λo b=>(mZ MT _ o).2 (.inl b)) λo b D=>D.elim id λe=>U_ (e▸b) u
 rw[I_ P];apply O
 by_cases W:i.op=14
 .rw[O_ W];obtain⟨m,s,_⟩:=h.frame t;generalize hF x=c at *;rw[I_ (by rw[m.br];decide)];obtain⟨L,X⟩:=m.read (t.lo (.inl s) (FR 0) (by decide:(0:Int)<=2));generalize hJ c.1 c.2.1 0=y at *;have D:=(t.tv _ _ _ X).p0 s rfl
  by_cases A:y.2.r=true/\y.2.n=0
  .rw[O_ A];exact L.zg _ _ _ _ _ _ L.sr
  rw[I_ A];obtain⟨U,MR⟩:=L.read (t.lo (.inl s) (by decide:(0:Int)<=1) (by decide:(1:Int)<=2));generalize hJ y.1 c.2.1 1=ad at *;have z:=(t.tv _ _ _ MR).p1 s rfl;rw[I_ (by rw[U.i3,D.1,z.1,z.2];rintro(S|S|S)<;>cases S)];have w1:=U.write (t.lo (.inr rfl) (FR 0) (by decide:(0:Int)<=2)) (TV.A0 t D.1 (D.2.resolve_left λe=>A ⟨D.1,e⟩));have w2:=w1.write (t.lo (.inr rfl) (by decide:(0:Int)<=1) (by decide:(1:Int)<=2)) (TV.AZ t (f:=1) (by decide) (h.sr i.a.toNat));exact w2.go _
 rw[I_ W]
 by_cases T:i.op=15∨i.op=18
 .rw[O_ T,h.root t,I_ (by rw[h.br];decide)];obtain⟨J,M⟩:=h.read (t.lo (.inr rfl) (by split<;>decide:(0:Int)<=if i.op=15 then 1 else 2) (by split<;>decide:(if i.op=15 then(1:Int) else 2)<=2));exact J.reg _ ((t.tv _ _ _ M).r1 rfl (by split<;>decide))
 rw[I_ T]
 by_cases H:i.op=17
 .rw[O_ H];obtain⟨m,s,_⟩:=h.frame t;exact m.write (t.lo (.inl s) (by decide:(0:Int)<=2) (FR 2)) (TV.hand t s rfl (E.h H))
 rw[I_ H];exact h
def XT.one{l:List In}{MT:List Ob}{F:Int->Prop}{x:XP}(t:TH l MT F)(f:nU MT)(h:XT l MT F x){pc:Int}(c:pc≠ -1->EO l x.js (l.getD pc.toNat default))(u:x.nx∉hQ MT)(m:x.nx≠0):(mx x pc).hH=false/\DQ l MT F x.nx (mx x pc).e:=by
 unfold mx;split
 .rw[h.root t];dsimp only;rw[I_ (by rw[h.br];decide)];obtain⟨g,j⟩:=h.read (t.lo (.inr rfl) (by decide:(0:Int)<=2) (FR 2));have b:=g.throw t ((t.tv _ _ _ j).r1 rfl (by decide));exact⟨b.br,b.Ec t f _⟩
 .rename_i j;have c:=c j;dsimp only;rw[h.i3];generalize l.getD pc.toNat default=i at *;split
  .rename_i n g;have b:=h.h8 t g;exact⟨b.br,b.Ec t f _⟩
  .split
   .rename_i n g;have b:=h.hq t c.v g;exact⟨b.br,b.Ec t f _⟩
   .exact h.rest t f c u m
/-! a h8 task's record is what the effect does -/
def Bx{f:Type}(p:f->Bool):∀(l:List f) (n:Nat),0<=iR p l n->∃k,∃c:k<l.length,iR p l n=((n+k:Nat):Int)/\p l[k]=true
 |[],_,h=>by simp[iR]at h
 |x::l,n,h=>by
  unfold iR at h ⊢;split
  .rename_i b;exact⟨0,Nat.zero_lt_succ _,rfl,b⟩
  .rename_i b;rw[I_ b]at h;obtain⟨k,c,e,q⟩:=Bx p l (n+1) h;exact⟨k+1,Nat.succ_lt_succ c,by rw[e];congr 1;omega,q⟩
def yh{l:List Cl}{f:Int}(h:cat l i f<0):∀c∈l,¬(c.id=i/\c.f=f):=by
 intro c e b
 have:0<=cat l i f:=(qA _ l 0).2 ⟨c,e,by simp[b.1,b.2]⟩
 omega
def l8(c:Cl):Int × Int:=(c.id,c.f)
def rK(xs b:List Cl)(i f:Int)(a:Vl):ld (xs++b) i f a=ld b i f (ld xs i f a):=G3
def oy:∀(ws:List Cl) {i f:Int} (a:Vl),(∀c∈ws,¬(c.id=i/\c.f=f))->ld ws i f a=a
 |[],_,_,_,_=>rfl
 |c::ws,i,f,a,h=>by
  show ld ws i f (wf1 i f a c)=a
  have e:wf1 i f a c=a:=by unfold wf1;rw[I_ (h c F9)]
  rw[e]
  exact oy ws a λx b=>h x (FQ _ b)
def rJ{xs b:List Cl}{c:Cl}(h:∀y∈b,l8 y≠l8 c)(i f:Int)(a:Vl):ld (xs++([c]++b)) i f a=wf1 i f (ld (xs++b) i f a) c:=by
 rw[rK,rK,rK]
 show ld b i f (wf1 i f (ld xs i f a) c)=_
 unfold wf1;split
 .rename_i e;rw[oy b _ λy j g=>h y j (by unfold l8;rw[g.1,g.2,e.1,e.2])]
 .rfl
def Au{b c:Cl}(h:l8 b=l8 c)(i f:Int)(a:Vl):wf1 i f (wf1 i f a b) c=wf1 i f a c:=by
 unfold l8 at h;injection h with e g;unfold wf1;split
 .rfl
 .rename_i j;rw[I_ (by rw[e,g];exact j)]
def zW{ws:List Cl}(o:(ws.map l8).Nodup)(c:Cl)(i f:Int)(a:Vl):ld (ka ws c) i f a=wf1 i f (ld ws i f a) c:=by
 unfold ka;split
 .rename_i m;obtain⟨k,n,b,g⟩:=Bx _ ws 0 m
  have b:cat ws c.id c.f=(k:Int):=by unfold cat;rw[b,W_]
  have g:l8 ws[k]=l8 c:=by unfold l8;simp at g;rw[g.1,g.2]
  rw[b,F0,List.set_eq_take_append_cons_drop,O_ n]
  have p:ws=ws.take k++([ws[k]]++ws.drop (k+1)):=by
   show _=ws.take k++(ws[k]::ws.drop (k+1))
   rw[<-Y_ n,Gk]
  have j:∀e∈ws.drop (k+1),l8 e≠l8 ws[k]:=by
   rw[p,FI,Gs]at o;have r:=(G6.1 (show(l8 ws[k]::(ws.drop (k+1)).map l8).Nodup from o.2.1)).1;intro e h b;exact r (Z_.2 ⟨e,h,b⟩)
  have q:=rJ j (xs:=ws.take k) i f a;rw[<-p]at q
  show ld (ws.take k++([c]++ws.drop (k+1))) i f a=_
  rw[rJ (λe h=>by rw[<-g];exact j e h),q,Au g]
 .rename_i m;have j:=yh (show cat ws c.id c.f<0 by omega);rw[rJ (λe h b=>j e (GY h) (by unfold l8 at b;injection b with g n;exact⟨g,n⟩)),Gk]
def zV{ws:List Cl}(p:(ws.map l8).Nodup)(c:Cl):((ka ws c).map l8).Nodup:=by
 unfold ka;split
 .rename_i n;obtain⟨k,m,b,e⟩:=Bx _ ws 0 n
  have b:cat ws c.id c.f=(k:Int):=by unfold cat;rw[b,W_]
  have e:l8 ws[k]=l8 c:=by unfold l8;simp at e;rw[e.1,e.2]
  rw[b,F0,List.map_set]
  have:(ws.map l8).set k (l8 c)=ws.map l8:=by
   apply GM
   .simp
   .intro h f g;rw[List.getElem_set];split
    .rename_i b;subst b;rw[<-e,Gg]
    .rfl
  rw[this];exact p
 .rename_i n;have q:=yh (show cat ws c.id c.f<0 by omega);rw[FI,FI]
  show(List.map l8 (ws.take (rx ws c.id c.f))++(l8 c::List.map l8 (ws.drop (rx ws c.id c.f)))).Nodup
  have m:∀f∈ws,l8 f≠l8 c:=λf g b=>q f g (by unfold l8 at b;injection b with r s;exact⟨r,s⟩)
  have h:=p;rw[<-Gk (rx ws c.id c.f) ws,FI,Gs]at h;rw[Gs];refine⟨h.1,G6.2 ⟨λe=>?_,h.2.1⟩,λa o t j=>?_⟩
  .obtain⟨f,g,b⟩:=Z_.1 e;exact m f (GY g) b
  .rcases N_.1 j with rfl|j
   .obtain⟨f,g,b⟩:=Z_.1 o;rw[<-b];exact m f (Gf g)
   .exact h.2.2 a o t j
/-- own objects and writes la a heap -/
structure NW(h:List Ob)(nw:List Ob)(ws:List Cl):Prop where
 nd:(hQ nw).Nodup
 fr:∀n∈hQ nw,n∉hQ h
 kd:(ws.map l8).Nodup
 wi:∀c∈ws,(h6 h c.id c.f).isSome=true
def seen(h nw:List Ob)(ws:List Cl)(i f:Int):Option Vl:=(if i∈hQ nw then h6 nw i f else h6 h i f).map (ld ws i f)
def x7(b:Ob)(g f:Int)(v:Vl)(i:Int)(m:b.id=i):t6 (some (qz b g v)) f=(t6 (some b) f).map λa=>wf1 i f a ⟨i,g,v⟩:=by
 unfold qz t6;simp only
 by_cases e:f<0
 .rw[O_ e,O_ e]
  rfl
 .rw[I_ e,I_ e];unfold wf1;simp only[true_and]
  by_cases h:0<=g/\g<(b.fs.length:Int)
  .rw[O_ h,HB]
   by_cases c:g=f
   .subst c;rw[O_ rfl,O_ (by omega),L_ (by omega:g.toNat<b.fs.length)];simp
   .rw[I_ (by omega)]
    cases b.fs[f.toNat]?<;>simp[c]
  .rw[I_ h]
   cases j:b.fs[f.toNat]? with
   |none=>rfl
   |some a=>
    have:=(GR.1 j).1
    have c:g≠f:=by omega
    simp[c]
def Bf{nw:List Ob}{n:Int}:¬jn nw n<0->n∈hQ nw:=λc=>by
 obtain⟨e,b⟩:=s5 c;exact Z_.2 ⟨_,M_ e,b⟩
def vZ{h:List Ob}{t:i6}(n:NW h t.nw t.ws){c:Cl}(q:c.id∈hQ t.nw∨(h6 h c.id c.f).isSome=true):
 NW h (iO t c).nw (iO t c).ws/\hQ (iO t c).nw=hQ t.nw/\∀i f,seen h (iO t c).nw (iO t c).ws i f=(seen h t.nw t.ws i f).map λa=>wf1 i f a c:=by
 unfold iO
 by_cases p:jn t.nw c.id<0
 .rw[O_ p];have q:=q.resolve_left (rn p);refine⟨⟨n.nd,n.fr,zV n.kd c,λx e=>?_⟩,rfl,λi f=>?_⟩
  .rcases pX e with e|rfl
   .exact n.wi x e
   .exact q
  .unfold seen;simp only;rw[Option.map_map];congr 1;funext a;exact zW n.kd c i f a
 .rw[I_ p];have m:=Bf p
  have o:hQ (t.nw.modify (jn t.nw c.id).toNat λg=>qz g c.f c.v)=hQ t.nw:=by
   unfold hQ;apply GM
   .simp
   .intro w r v;simp only[Gg,Gw];split<;>rfl
  have u:∀i f,h6 (t.nw.modify (jn t.nw c.id).toNat λg=>qz g c.f c.v) i f=(h6 t.nw i f).map λa=>wf1 i f a c:=by
   intro i f;rw[kn,wL n.nd m (λg=>qz g c.f c.v) (λ_=>rfl),kn]
   by_cases b:i=c.id
   .subst b;rw[O_ rfl];obtain⟨g,r⟩:=od.1 m;rw[r];exact x7 g c.f f c.v c.id (ph r)
   .rw[I_ b]
    cases t6 (iU t.nw i) f with
    |none=>rfl
    |some a=>show some a=some (wf1 i f a c);unfold wf1;rw[I_ (λj=>b j.1.symm)]
  refine⟨⟨by rw[o];exact n.nd,by rw[o];exact n.fr,n.kd,n.wi⟩,o,λi f=>?_⟩;unfold seen;simp only;rw[o,u]
  have s:∀x∈t.ws,x.id≠c.id:=λx e b=>n.fr _ m (by obtain⟨y,j⟩:=mU (n.wi x e);rw[<-b];exact ly j)
  by_cases b:i=c.id
  .have r:∀x∈t.ws,¬(x.id=i/\x.f=f):=λx e j=>s x e (j.1.trans b)
   rw[O_ (b▸m),O_ (b▸m)]
   cases h6 t.nw i f with
   |none=>rfl
   |some a=>show some (ld t.ws i f (wf1 i f a c))=some (wf1 i f (ld t.ws i f a) c);rw[oy _ _ r,oy _ _ r]
  .have v:∀a,wf1 i f a c=a:=λa=>by unfold wf1;rw[I_ (λj=>b j.1.symm)]
   have r:(λa=>wf1 i f a c)=id:=funext v;rw[r];simp
def qR{h:List Ob}:∀(l:List Cl) {t:i6} (_:NW h t.nw t.ws) (_:∀c∈l,c.id∈hQ t.nw∨(h6 h c.id c.f).isSome=true),
 NW h (l.foldl iO t).nw (l.foldl iO t).ws/\hQ (l.foldl iO t).nw=hQ t.nw/\∀i f,seen h (l.foldl iO t).nw (l.foldl iO t).ws i f=(seen h t.nw t.ws i f).map (ld l i f)
 |[],t,n,_=>⟨n,rfl,λi f=>by show seen h t.nw t.ws i f=(seen h t.nw t.ws i f).map (ld [] i f);cases seen h t.nw t.ws i f<;>rfl⟩
 |c::l,t,n,e=>by
  obtain⟨o,b,q⟩:=vZ n (e c F9);obtain⟨p,g,j⟩:=qR l o (λx m=>by rw[b];exact e x (FQ _ m));refine⟨p,g.trans b,λi f=>?_⟩
  show seen h (l.foldl iO (iO t c)).nw (l.foldl iO (iO t c)).ws i f=_
  rw[j,q]
  cases seen h t.nw t.ws i f<;>rfl
structure Pl(t:i6)(h:List Ob):Prop where
 pl:t.h8=true
 gs:t.gs=[]
 ds:t.ds=[]
 rd:∀c∈t.rs,h6 h c.id c.f=some c.v
 nw:NW h t.nw t.ws
def tm{h:List Ob}{i f:Int}{v:Vl}(e:h6 h i f=some v):∀(rs:List Cl),(∀c∈rs,h6 h c.id c.f=some c.v)->ld rs i f v=v
 |[],_=>rfl
 |c::rs,b=>by
  show ld rs i f (wf1 i f v c)=v
  have q:wf1 i f v c=v:=by
   unfold wf1;split
   .rename_i k
    have:=b c F9
    rw[k.1,k.2,e]at this;injection this with this;exact this.symm
   .rfl
  rw[q]
  exact tm e rs λx g=>b x (FQ _ g)
def Pl.vis{t:i6}{h:List Ob}(p:Pl t h)(j:nU h):nU (iu t h)/\(∀n,n∈hQ (iu t h)↔n∈hQ h∨n∈hQ t.nw)/\∀i f,h6 (iu t h) i f=seen h t.nw t.ws i f:=by
 have b:before t h=it h t.rs:=by unfold before;rw[p.gs];rfl
 have e:nU (before t h):=by unfold nU;rw[b,jy];exact j
 have c:iu t h=it (t.nw.foldl jY (before t h)) t.ws:=by unfold iu;rw[p.ds];rfl
 have g:=nU.puts t.nw e;refine⟨by unfold nU;rw[c,jy];exact g,λn=>?_,λi f=>?_⟩
 .rw[c,jy,rb,b,jy]
 .rw[c,lS _ g.nodup,pf _ e p.nw.nd,b,lS _ j.nodup];unfold seen
  have q:(h6 h i f).map (ld t.rs i f)=h6 h i f:=by
   cases o:h6 h i f with
   |none=>rfl
   |some m=>show some (ld t.rs i f m)=some m;rw[tm o _ p.rd]
  rw[q]
def ss{t:i6}(h:t.h8=true)(rs ws:List Cl):∀(l:List Dl),jK t rs ws l=(t,rs,ws)
 |[]=>rfl
 |d::l=>by
  have e:take t d=none:=by unfold take;rw[O_ (.inl h)]
  unfold jK;rw[e];exact ss h rs ws l
def pO{view:List Ob}:∀(l:List Cl) {t:i6},t.ds=[]->∃f,kj view t l=some {t with rs:=f}/\∀c∈f,c∈t.rs∨(c∈l/\jn t.nw c.id<0/\cat t.ws c.id c.f<0)
 |[],t,_=>⟨t.rs,rfl,λc b=>.inl b⟩
 |c::l,t,g=>by
  unfold kj q9
  by_cases j:0<=jn t.nw c.id∨0<=cat t.ws c.id c.f∨0<=cat t.rs c.id c.f
  .rw[O_ j];simp only;obtain⟨f,e,q⟩:=pO l g;exact⟨f,e,λx h=>(q x h).imp id λb=>⟨FQ _ b.1,b.2⟩⟩
  .rw[I_ j,I_ (by rw[g];exact(by decide:¬(0:Int)<= -1))];simp only;obtain⟨f,e,q⟩:=pO (view:=view) l (t:={t with rs:=ka t.rs c}) g;refine⟨f,e,λx h=>?_⟩
   rcases q x h with b|b
   .rcases pX (show x∈ka t.rs c from b)with b|rfl
    .exact .inl b
    .exact .inr ⟨F9,by omega,by omega⟩
   .exact .inr ⟨FQ _ b.1,b.2⟩
def uI{t:i6}{c:Cl}:(iO t c).ds=t.ds:=by unfold iO;split<;>rfl
def y8{t:i6}{c:Cl}:(iO t c).rs=t.rs:=by unfold iO;split<;>rfl
def so{view:List Ob}:∀(l:List Cl) {t:i6},t.ds=[]->kO view t l=some (l.foldl iO t)
 |[],_,_=>rfl
 |c::l,t,b=>by
  have e:jO t view c.id c.f=some t:=by unfold jO;rw[O_ (by rw[b];exact(by decide:(-1:Int)<0))]
  unfold kO tH;rw[e];exact so l (uI.trans b)
def qD:∀(l:List Cl) {t:i6},(l.foldl iO t).rs=t.rs/\(l.foldl iO t).ds=t.ds
 |[],_=>⟨rfl,rfl⟩
 |c::l,t=>⟨(qD l).1.trans y8,(qD l).2.trans uI⟩
def zK{a b:List Ob}{f:Int}:h6 (a++b) i f=if i∈hQ a then h6 a i f else h6 b i f:=by
 rw[kn,kn,kn]
 by_cases e:i∈hQ a
 .rw[O_ e];obtain⟨g,c⟩:=od.1 e
  have:iU (a++b) i=some g:=by unfold iU at c ⊢;rw[G4,c];rfl
  rw[this,c]
 .rw[I_ e]
  have c:iU a i=none:=by
   cases h:iU a i with
   |none=>rfl
   |some g=>exact U_ (od.2 ⟨g,h⟩) e
  have:iU (a++b) i=iU b i:=by unfold iU at c ⊢;rw[G4,c];rfl
  rw[this]
def Pl.ER{t:i6}{h:List Ob}(p:Pl t h)(C:nU h){l:List In}{F:Int->Prop}{nx:Int}{e:qr}(y:DQ l (iu t h) F nx e)(u:nx∉hQ (iu t h)):
 ∃x,record t h e=some x/\Pl x h/\hQ x.nw=hQ t.nw++hQ e.nw/\B3 (iu x h) (it (e.nw.foldl jY (iu t h)) e.ws):=by
 obtain⟨I,w,z⟩:=p.vis C;have k:nx∉hQ h/\nx∉hQ t.nw:=⟨λb=>u ((w _).2 (.inl b)),λb=>u ((w _).2 (.inr b))⟩;obtain⟨j,V,M⟩:=pO (view:=h) e.rs (t:=t) p.ds
 have q:(hQ e.nw).Nodup/\∀m∈hQ e.nw,m=nx:=by
  rcases y.nw with b|⟨ad,b,J⟩
  .rw[b];exact⟨HO,λm o=>by cases o⟩
  .rw[b];exact⟨by simp[hQ],λm o=>by simp[hQ]at o;rw[o,J]⟩
 have r:hQ (t.nw++e.nw)=hQ t.nw++hQ e.nw:=FI
 have T:NW h (t.nw++e.nw) t.ws:=by
  refine⟨?_,λm o=>?_,p.nw.kd,p.nw.wi⟩
  .rw[r,Gs];exact⟨p.nw.nd,q.1,λa K g R e=>k.2 (by rw[<-q.2 g R,<-e];exact K)⟩
  .rw[r]at o
   rcases T_.1 o with b|b
   .exact p.nw.fr m b
   .rw[q.2 m b];exact k.1
 have n:∀c∈e.ws,c.id∈hQ (t.nw++e.nw)∨(h6 h c.id c.f).isSome=true:=λc n=>by
  have b:=y.ws c n;rw[z]at b;unfold seen at b;split at b
  .rename_i g;exact .inl (by rw[r];exact FL _ g)
  .rw[Option.isSome_map]at b;exact .inr b
 obtain⟨U,B,Q⟩:=qR e.ws (t:={t with rs:=j,nw:=t.nw++e.nw}) T n;have E:=qD e.ws (t:={t with rs:=j,nw:=t.nw++e.nw});have X:=so (view:=h) e.ws (t:={t with rs:=j,nw:=t.nw++e.nw}) p.ds;generalize Z:e.ws.foldl iO {t with rs:=j,nw:=t.nw++e.nw}=f at *
 have A:record t h e=some {f with hW:=f.hW++e.hW}:=by
  unfold record;rw[ss p.pl];simp only;rw[V];simp only;have L:kO h {({t with rs:=j}:i6)with nw:=({t with rs:=j}:i6).nw++e.nw} e.ws=some f:=X;rw[L]
 have D:=kz A
 have H:Pl {f with hW:=f.hW++e.hW} h:=by
  refine⟨D.h8.trans p.pl,D.gs.trans p.gs,E.2.trans p.ds,λc n=>?_,U⟩;have G:f.rs=j:=E.1
  have n:c∈j:=by rw[<-G];exact n
  rcases M c n with v|⟨v,N,O⟩
  .exact p.rd c v
  .have b:=y.rd c v;rw[z]at b;unfold seen at b;rw[I_ (rn N)]at b
   cases g:h6 h c.id c.f with
   |none=>rw[g]at b;cases b
   |some W=>rw[g]at b;injection b with b;rw[oy _ _ (yh O)]at b;rw[b]
 refine⟨_,A,H,B.trans r,?_⟩;obtain⟨w1,Y,P⟩:=H.vis C;have S:=nU.puts e.nw I;refine⟨λm=>?_,λi s=>?_⟩
 .rw[Y,jy,rb,w]
  show _∨m∈hQ f.nw↔_
  rw[B,r,T_,or_assoc]
 .rw[P,lS _ S.nodup,pf _ I q.1,z]
  show seen h f.nw f.ws i s=_
  rw[Q];congr 1
  show seen h (t.nw++e.nw) t.ws i s=_
  unfold seen
  have K:i∈hQ e.nw->∀a,ld t.ws i s a=a:=λg a=>oy _ _ λx R b=>by
   obtain⟨W,v⟩:=mU (p.nw.wi x R);exact k.1 (by rw[<-q.2 i g,<-b.1];exact ly v)
  rw[r,zK]
  by_cases g:i∈hQ e.nw
  .have d:i∉hQ t.nw:=λb=>k.2 (by rw[<-q.2 i g];exact b)
   rw[O_ (GG _ g),O_ g,I_ d]
   cases h6 e.nw i s with
   |none=>rfl
   |some a=>show some (ld t.ws i s a)=some a;rw[K g]
  .rw[I_ g]
   by_cases d:i∈hQ t.nw
   .rw[O_ (FL _ d),O_ d,O_ d]
   .rw[I_ (λb=>(T_.1 b).elim d g),I_ d]
/-! where a valid code goes on -/
def fits_all{l:List In}{hq:Int}(b:hY l hq g9=true):∀k,k<l.length->kD l k=true:=by
 intro k c;unfold hY og at b;simp only[FP]at b;exact FZ.mp b.1.1.2 k (by simpa using c)
def mq{l:List In}{n:Int}(h:0<=h5 l n):0<=n/\n<(l.length:Int):=by
 unfold h5 at h;split at h<;>omega
def o8{l:List In}{n:Int}(h0:0<=n)(b:n<(l.length:Int)):h5 l n=(l.getD n.toNat default).op:=by
 unfold h5;rw[I_ (by omega)]
def oK{l:List In}{n:Int}(h:iA l n=true):h5 l n=21:=by
 have b:=rW h;rw[o8 b.1 b.2];unfold iA at h;simp only[FP]at h
 simpa using h.2.2
def t2{l:List In}(h:kD l k=true):EO l k (l.getD k default):=by
 unfold kD jF at h;generalize l.getD k default=x at *;refine⟨λho=>?_,λho=>?_,λho=>?_,λho=>?_⟩
 .rcases ho with ho|ho|ho|ho
  .rw[ho]at h;exact L3
  .rw[ho]at h;exact LZ
  .rw[ho]at h;exact LV
  .exact Lq
 .rcases ho with ho|ho
  .rw[ho]at h;have e:(iK.getD (5:Int).toNat default).n=3:=rfl;exact MJ
  .rw[ho]at h;have e:(iK.getD (6:Int).toNat default).n=3:=rfl;exact MJ
 .rw[ho]at h;have e:(iK.getD (13:Int).toNat default).n=7:=rfl;rw[e]at h;simp at h;exact kC (by omega)
 .rw[ho]at h;have e:(iK.getD (17:Int).toNat default).n=8:=rfl;rw[e]at h;simp at h
  have b:x.n=0∨h5 l x.n=21:=by omega
  exact b.imp id kC
def qo{l:List In}(h:kD l k=true):((l.getD k default).op=11∨(l.getD k default).op=12->0<=h5 l (l.getD k default).n/\h5 l (l.getD k default).n≠20)/\((l.getD k default).op=13->h5 l (l.getD k default).n=21)/\((l.getD k default).op=20->h5 l ((k:Int)-1)=21)/\0<=(l.getD k default).op:=by
 unfold kD jF at h;generalize l.getD k default=x at *;refine⟨λho=>?_,λho=>?_,λho=>?_,?_⟩
 .rcases ho with ho|ho
  .rw[ho]at h;have e:(iK.getD (11:Int).toNat default).n=6:=rfl;exact MJ
  .rw[ho]at h;have e:(iK.getD (12:Int).toNat default).n=6:=rfl;exact MJ
 .rw[ho]at h;have e:(iK.getD (13:Int).toNat default).n=7:=rfl;exact MJ
 .exact Lq
 .by_cases b:x.op<0∨21<x.op
  .rw[O_ b]at h
   cases h
  .omega
def mF{l:List In}{hq:Int}(b:hY l hq g9=true):1<=l.length/\h5 l 0=21/\(h5 l ((l.length:Int)-1)=14∨h5 l ((l.length:Int)-1)=16∨h5 l ((l.length:Int)-1)=11):=by
 unfold hY at b;simp at b;omega
def r5{l:List In}{hq:Int}(b:hY l hq g9=true){p:Int}(h:h5 l p=21∨h5 l p=20):kN l (p+1)=true:=by
 have j:=mq (show 0<=h5 l p by omega);have g:=mF b
 have f:p≠(l.length:Int)-1:=λc=>by rw[c]at h;omega
 have e:0<=h5 l (p+1):=by
  rw[o8 (by omega) (by omega)];exact(qo (fits_all b (p+1).toNat (by omega))).2.2.2
 unfold kN;rw[show p+1-1=p by omega,FX e]
 rcases h with h|h<;>simp[h]
def r6{l:List In}{p:Int}(h:h5 l p=21):kN l p=true:=by unfold kN;simp[h]
structure Pck(l:List In)(p:Int)(x:XP):Prop where
 i3:x.i3=l
 js:x.js=p
 k1:x.e.hS=1->kN l x.e.pc=true
 k0:x.e.hS=0->x.e.pc=p+1∨h5 l x.e.pc=21∨((h5 l p=11∨h5 l p=12)/\0<=h5 l x.e.pc/\h5 l x.e.pc≠20)
 k3:x.e.hS=3->h5 l p=20
 k4:x.e.hS≠4
def Pck.lm{l:List In}{p:Int}{x y:XP}(h:Pck l p x)(k:B1 x y):Pck l p y:=by
 obtain⟨a,e,g,d,j,m⟩:=h;obtain⟨n,f,c,b⟩:=k;exact⟨n.trans a,f.trans e,by rw[c,b];exact g,by rw[c,b];exact d,by rw[b];exact j,by rw[b];exact m⟩
def kJ{l:List In}{p:Int}{x:XP}(h:Pck l p x){v:Vl}:Pck l p (iX x v):=by
 have b:=jU x;have d:=b.trans (jo (hF x).1 (hF x).2.1 2);have c:=d.trans (jo (hJ (hF x).1 (hF x).2.1 2).1 (hF x).2.1 0);have hb:=h.lm d;have V:=h.lm c;unfold iX;simp only;split
 .exact h.lm b
 .split
  .exact hb.lm ⟨rfl,rfl,rfl,rfl⟩
  .rename_i hx;split
   .rename_i hn;have MM:iA l (hJ (hF x).1 (hF x).2.1 2).2.n=true:=Ko;exact⟨hb.i3,hb.js,λ_=>r6 (oK MM),λ_=>.inr (.inl (oK MM)),hb.k3,hb.k4⟩
   .split
    .exact V.lm ⟨rfl,rfl,rfl,rfl⟩
    .split
     .exact J6
     .exact⟨V.i3,V.js,λ_=>rfl,λe=>U_ e (by decide:¬(1:Int)=0),λe=>U_ e (by decide:¬(1:Int)=3),(by decide:¬(1:Int)=4)⟩
def xk{x:XP}{v:Vl}(b:(iX x v).hH=false)(c:(iX x v).e.hS=0):iA x.i3 (iX x v).e.pc=true:=by
 have m:(hJ (hF x).1 (hF x).2.1 2).1.i3=x.i3:=((jU x).trans (jo _ _ _)).i3;unfold iX at b c ⊢;simp only at b c ⊢;split
 .rename_i e;rw[O_ e,e]at b
  cases b
 .rename_i e;rw[I_ e]at b c;split
  .rename_i f;rw[O_ f]at b
   cases b
  .rename_i f;rw[I_ f]at b c;split
   .rename_i j
    show iA x.i3 (hJ (hF x).1 (hF x).2.1 2).2.n=true
    rw[<-m]
    cases g:iA (hJ (hF x).1 (hF x).2.1 2).1.i3 (hJ (hF x).1 (hF x).2.1 2).2.n with
    |true=>rfl
    |false=>exact U_ (Or.inr ⟨j,g⟩) f
   .rename_i j;rw[I_ j]at b c;split
    .rename_i g;rw[O_ g]at b
     cases b
    .rename_i g;rw[I_ g]at c;split
     .rename_i h;rw[O_ h]at c;exact U_ c (by show ¬(2:Int)=0;decide)
     .rename_i h;rw[I_ h]at c;exact U_ c (by show ¬(1:Int)=0;decide)
def vR{l:List In}{p:Int}{x:XP}(h:Pck l p x)(v:Vl)(f:Int):Pck l p (ih x v f).1:=by
 unfold ih;split
 .exact kJ h
 .split
  .exact kJ h
  .split
   .exact MG
   .split
    .exact kJ h
    .exact h
def uq{l:List In}{p:Int}{x:XP}(h:Pck l p x)(f:Int):Pck l p (ht x f).1:=by
 unfold ht;simp only;split
 .exact h.lm (jU x)
 .split
  .exact kJ (h.lm (jU x))
  .exact h.lm (jU x)
def sS{l:List In}{p:Int}{x:XP}(h:Pck l p x)(c:x.e.hS≠1){n:Int}(e:h5 l n=21∨((h5 l p=11∨h5 l p=12)/\0<=h5 l n/\h5 l n≠20)):Pck l p (sD x n):=
 ⟨h.i3,h.js,λb=>U_ b c,λ_=>.inr e,h.k3,h.k4⟩
def xn{l:List In}{p:Int}{x y:XP}{i:In}(h:Pck l p x)(h0:x.e.hS=0)(e:i.op=11∨i.op=12->(h5 l p=11∨h5 l p=12)/\0<=h5 l i.n/\h5 l i.n≠20)(g:i.op=21->kN l x.e.pc=true)(hy:jb x i=some y):Pck l p y:=by
 have f:x.e.hS≠1:=by rw[h0];decide
 unfold jb at hy
 refine h7 (R:=Pck l p) hy (λ_=>h) λ_ hy=>?_
 refine h7 (R:=Pck l p) hy (λ_=>h.lm ⟨rfl,rfl,rfl,rfl⟩) λ_ hy=>?_
 refine h7 (R:=Pck l p) hy (λ_=>h.lm ⟨rfl,rfl,rfl,rfl⟩) λ_ hy=>?_
 refine h7 (R:=Pck l p) hy (λ_=>h.lm ⟨rfl,rfl,rfl,rfl⟩) λ_ hy=>?_
 refine h7 (R:=Pck l p) hy (λ_=>?_) λ_ hy=>?_
 .split
  .exact kJ h
  .exact MG
 refine h7 (R:=Pck l p) hy (λb=>sS h f (.inr (e (.inl b)))) λ_ hy=>?_
 refine h7 (R:=Pck l p) hy (λb=>?_) λ_ hy=>?_
 .split
  .exact h
  .exact sS h f (.inr (e (.inr b)))
 refine h7 (R:=Pck l p) hy (λb=>⟨h.i3,h.js,λ_=>g b,λc=>U_ c (by decide:¬(1:Int)=0),λc=>U_ c (by decide:¬(1:Int)=3),(by decide:¬(1:Int)=4)⟩) λ_ hy=>?_
 refine h7 (R:=Pck l p) hy (λ_=>kJ h) λ_ hy=>?_
 refine h7 (R:=Pck l p) hy (λ_=>?_) λ_ hy=>by cases hy
 split
 .exact kJ h
 .exact MG
def yV{l:List In}{p:Int}{x y:XP}{i:In}(h:Pck l p x)(c:i.op=20->h5 l p=20)(hy:ki x i=some y):Pck l p y:=by
 have a:=uq h i.n;have z:=a.lm (jo (ht x i.n).1 (ht x i.n).2.1 (ht x i.n).2.2.1);unfold ki at hy;simp only at hy;split at hy
 .cases hy
 rename_i j;split at hy
 .injection hy with hy;subst hy;exact a
 split at hy
 .injection hy with hy;subst hy;exact a.lm (mC)
 rename_i e;split at hy
 .exact Mn
 rename_i f;split at hy
 .split at hy
  .injection hy with hy;subst hy;exact kJ z
  .exact Mn
 rename_i g;split at hy
 .injection hy with hy;subst hy;exact kJ z
 .injection hy with hy;subst hy;exact⟨z.i3,z.js,λb=>U_ b (by decide:¬(3:Int)=1),λb=>U_ b (by decide:¬(3:Int)=0),λ_=>c (by omega),(by decide:¬(3:Int)=4)⟩
def yY{l:List In}{p:Int}{x:XP}{i:In}(h:Pck l p x)(h0:x.e.hS=0)(j:i.op=13->h5 l i.n=21):Pck l p (jH x i):=by
 have o:=vR h (x.sr i.b.toNat) i.n;have b:=jU x;have c:=b.trans (jo (hF x).1 (hF x).2.1 0);have f:=c.trans (jo (hJ (hF x).1 (hF x).2.1 0).1 (hF x).2.1 1);have V:=h.lm c;have hr:=h.lm f;unfold jH;simp only;split
 .exact Me
 split
 .split
  .exact o.lm (mC)
  .exact o
 split
 .exact MG
 split
 .rename_i g;refine sS ?_ ?_ (.inl (j g))
  .exact(h.lm b).lm ⟨rfl,rfl,rfl,rfl⟩
  .show(hF x).1.e.hS≠1
   rw[b.hS,h0]
   decide
 split
 .split
  .exact h.lm b
  .split
   .exact J6
   .split
    .exact hr.lm ⟨rfl,rfl,rfl,rfl⟩
    .rename_i hx;have MM:iA l (hJ (hJ (hF x).1 (hF x).2.1 0).1 (hF x).2.1 1).2.n=true:=JM;refine sS (x:=h4 (h4 _ 1 0 _) 1 1 _) ?_ ?_ (.inl (oK MM))
     .exact hr.lm ⟨rfl,rfl,rfl,rfl⟩
     .show(hJ (hJ (hF x).1 (hF x).2.1 0).1 (hF x).2.1 1).1.e.hS≠1
      rw[f.hS,h0]
      decide
 split
 .split
  .exact MG
  .have g:=h.lm (y:=iB x) ⟨rfl,rfl,rfl,rfl⟩;have G:=g.lm (jo (iB x) 1 (if i.op=15 then 1 else 2));exact G.lm ⟨rfl,rfl,rfl,rfl⟩
 split
 .exact(h.lm b).lm (mC)
 .exact h
/-- where the last instructions of a code go -/
def y1{l:List In}{x:XP}{pc:Int}(o:x.i3=l)(r:pc≠ -1)(q:(l.getD pc.toNat default).op=11->0<=h5 l (l.getD pc.toNat default).n)(f:(l.getD pc.toNat default).op=14∨(l.getD pc.toNat default).op=16∨(l.getD pc.toNat default).op=11)(b:(mx x pc).hH=false)(c:(mx x pc).e.hS=0):0<=h5 l (mx x pc).e.pc:=by
 unfold mx at b c ⊢;rw[I_ r]at b c ⊢;dsimp only at b c ⊢;rw[o]at b c ⊢;generalize l.getD pc.toNat default=i at *
 rcases f with f|f|f
 .have g:jb x i=none:=by unfold jb;simp[f]
  have h:ki x i=none:=by unfold ki;simp[f]
  rw[g]at b c ⊢;dsimp only at b c ⊢;rw[h]at b c ⊢;dsimp only at b c ⊢;have p:(hJ (hJ (hF x).1 (hF x).2.1 0).1 (hF x).2.1 1).1.i3=x.i3:=(((jU x).trans (jo _ _ _)).trans (jo _ _ _)).i3;unfold jH at b c ⊢;simp only[f]at b c ⊢;rw[I_ (by decide),I_ (by decide),I_ (by decide),I_ (by decide),O_ trivial]at b c ⊢;split
  .rename_i e;rw[O_ e,e]at b
   cases b
  .rename_i e;rw[I_ e]at b c;split
   .rename_i h;rw[O_ h]at c;exact U_ c (by show ¬(2:Int)=0;decide)
   .rename_i h;rw[I_ h]at b c;split
    .rename_i m;rw[O_ m]at b
     cases b
    .rename_i m
     have j:iA l (hJ (hJ (hF x).1 (hF x).2.1 0).1 (hF x).2.1 1).2.n=true:=by
      rw[<-o,<-p]
      cases j:iA (hJ (hJ (hF x).1 (hF x).2.1 0).1 (hF x).2.1 1).1.i3 (hJ (hJ (hF x).1 (hF x).2.1 0).1 (hF x).2.1 1).2.n with
      |true=>rfl
      |false=>exact U_ (.inr (.inr j)) m
     show 0<=h5 l (hJ (hJ (hF x).1 (hF x).2.1 0).1 (hF x).2.1 1).2.n
     rw[oK j]
     decide
 .have g:jb x i=some (iX x (x.e.r i.a.toNat)):=by unfold jb;simp[f]
  rw[g]at b c ⊢;dsimp only at b c ⊢;have h:=xk b c;rw[o]at h;rw[oK h]
  decide
 .have g:jb x i=some (sD x i.n):=by unfold jb;simp[f]
  rw[g];exact q f
def tg{l:List In}{hq pc:Int}{x:XP}(h:hY l hq g9=true)(h0: -1<=pc)(n:pc<l.length)(v:Pck l pc x)(g:x.e.hS=0)(m:x.e.pc=pc+1):Pck l pc (mx x pc):=by
 unfold mx;split
 .simp only;split
  .exact v.lm ⟨rfl,rfl,rfl,rfl⟩
  .exact kJ ((v.lm (y:=iB x) ⟨rfl,rfl,rfl,rfl⟩).lm (jo _ _ _))
 .rename_i o;obtain⟨k,rfl⟩:∃k:Nat,pc=k:=⟨pc.toNat,by omega⟩
  have j:k<l.length:=by omega
  have f:=qo (fits_all h k j)
  have c:h5 l (k:Int)=(l.getD k default).op:=by rw[o8 (by omega) n,F0]
  simp only[v.i3,F0];split
  .rename_i y e;exact xn v g (λb=>⟨by rw[c];exact b,f.1 b⟩) (λb=>by rw[m];exact r5 h (.inl (by rw[c];exact b))) e
  .split
   .rename_i y e;exact yV v (λb=>by rw[c];exact b) e
   .exact yY v g f.2.1
def wx{l:List In}{hq pc:Int}(r:Nat->Vl)(h:List Ob)(nx:Int)(f:hY l hq g9=true)(h0: -1<=pc)(n:pc<l.length)(c:(j8 l hq g9 pc r h nx).hS≠4):
 ((j8 l hq g9 pc r h nx).hS=1->kN l (j8 l hq g9 pc r h nx).pc=true)/\((j8 l hq g9 pc r h nx).hS=0->(j8 l hq g9 pc r h nx).pc<l.length/\h5 l (j8 l hq g9 pc r h nx).pc≠20/\(h5 l pc=20->kN l (j8 l hq g9 pc r h nx).pc=true))/\((j8 l hq g9 pc r h nx).hS=3->h5 l pc=20):=by
 have A:=(oH r h nx f h0 n).resolve_left c
 have j:=λk=>(A.2.2.2.2 k).1
 have B:=mF f;unfold j8 at c j ⊢;rw[I_ (by rw[f];simp;omega)]at c j ⊢;simp only at c j ⊢;split
 .rename_i g;rw[O_ g]at c;exact U_ rfl c
 .rename_i g;rw[I_ g]at c j
  have g:(mx ⟨l,hq,g9,pc,r,h,nx,{lP with pc:=pc+1,r:=r},false⟩ pc).hH=false:=by simpa using g
  generalize p:(⟨l,hq,g9,pc,r,h,nx,{lP with pc:=pc+1,r:=r},false⟩:XP)=x at *
  have u:Pck l pc x:=by rw[<-p];exact⟨rfl,rfl,λe=>U_ e (by decide:¬(0:Int)=1),λ_=>.inl rfl,λe=>U_ e (by decide:¬(0:Int)=3),(by decide:¬(0:Int)=4)⟩
  have C:x.e.hS=0:=by rw[<-p];rfl
  have v:x.e.pc=pc+1:=by rw[<-p]
  have q:Pck l pc (mx x pc):=tg f h0 n u C v;refine⟨q.k1,λs=>?_,q.k3⟩
  rcases q.k0 s with b|b|b
  .have w:(mx x pc).e.pc<l.length:=by
    rw[b]
    by_cases D:pc+1<(l.length:Int)
    .exact D
    .exfalso
     have z:pc=(l.length:Int)-1:=by omega
     have H:pc≠ -1:=by omega
     have y:h5 l pc=(l.getD pc.toNat default).op:=o8 (by omega) n;have o:=qo (fits_all f pc.toNat (by omega));have m:=y1 u.i3 H (λE=>(o.1 (.inl E)).1) (by rw[<-y,z];exact B.2.2) g s
     have:=mq m
     omega
   refine⟨w,λe=>?_,λe=>by rw[b];exact r5 f (.inr e)⟩;rw[b]at e;have t:=mq (show 0<=h5 l (pc+1) by omega);rw[o8 t.1 t.2]at e;have o:=qo (fits_all f (pc+1).toNat (by omega));have m:=o.2.2.1 e;rw[show(((pc+1).toNat:Nat):Int)-1=pc by omega]at m
   have:=kC m
   rw[j s]at this
   cases this
  .exact⟨(mq (by omega)).2,by omega,λ_=>r6 b⟩
  .exact⟨(mq b.2.1).2,b.2.2,λe=>by omega⟩
def Cr{l:List In}{hq pc:Int}{r:Nat->Vl}{MT:List Ob}{F:Int->Prop}{nx:Int}(h:hY l hq g9=true)(h0: -1<=pc)(q:pc<l.length)(t:TH l MT F)(y:nU MT)(j:∀i,US (·∈hQ MT) F (r i))(u:nx∉hQ MT)(w:nx≠0):
 DQ l MT F nx (j8 l hq g9 pc r MT nx)/\(j8 l hq g9 pc r MT nx).hS≠4:=by
 unfold j8;rw[I_ (by rw[h];simp;omega)];simp only;generalize b:(⟨l,hq,g9,pc,r,MT,nx,{lP with pc:=pc+1,r:=r},false⟩:XP)=x at *
 have o:XT l MT F x:=by rw[<-b];exact⟨rfl,rfl,rfl,λp g=>(by cases g),λp g=>(by cases g),rfl,j,j⟩
 have m:Pck l pc x:=by rw[<-b];exact⟨rfl,rfl,λf=>U_ f (by decide:¬(0:Int)=1),λ_=>.inl rfl,λf=>U_ f (by decide:¬(0:Int)=3),(by decide:¬(0:Int)=4)⟩
 have v:x.e.hS=0:=by rw[<-b];rfl
 have n:x.e.pc=pc+1:=by rw[<-b]
 have e:x.nx=nx:=by rw[<-b]
 have z:=tg h h0 q m v n
 have s:pc≠ -1->EO l x.js (l.getD pc.toNat default):=λA=>by
  have c:=t2 (fits_all h pc.toNat (by omega));rw[m.js,show pc=(pc.toNat:Int) by omega,F0];exact c
 have c:=o.one t y s (by rw[e];exact u) (by rw[e];exact w);rw[I_ (by rw[c.1];decide)];rw[e]at c;exact⟨c.2,z.k4⟩
def wy{l:List In}{hq pc:Int}{r:Nat->Vl}{MT:List Ob}{F:Int->Prop}{nx:Int}(g:hY l hq g9=true)(f:h5 l pc=20)(t:TH l MT F)(y:nU MT)(m:∀i,US (·∈hQ MT) F (r i)):
 DQ l MT F nx (j8 l hq g9 pc r MT nx)/\(j8 l hq g9 pc r MT nx).hS≠4:=by
 have j:=mq (show 0<=h5 l pc by omega);unfold j8;rw[I_ (by rw[g];simp;omega)];simp only;generalize b:(⟨l,hq,g9,pc,r,MT,nx,{lP with pc:=pc+1,r:=r},false⟩:XP)=x at *
 have s:XT l MT F x:=by rw[<-b];exact⟨rfl,rfl,rfl,λu e=>(by cases e),λu e=>(by cases e),rfl,m,m⟩
 have o:Pck l pc x:=by rw[<-b];exact⟨rfl,rfl,λc=>U_ c (by decide:¬(0:Int)=1),λ_=>.inl rfl,λc=>U_ c (by decide:¬(0:Int)=3),(by decide:¬(0:Int)=4)⟩
 have w:x.e.hS=0:=by rw[<-b];rfl
 have q:x.e.pc=pc+1:=by rw[<-b]
 have hy:=tg g (by omega) j.2 o w q
 have f:(l.getD pc.toNat default).op=20:=by rw[<-o8 j.1 j.2];exact f
 have v:=t2 (fits_all g pc.toNat (by omega))
 have n:XT l MT F (mx x pc):=by
  unfold mx;rw[I_ (by omega)];dsimp only;rw[o.i3];generalize l.getD pc.toNat default=i at *
  have p:jb x i=none:=by unfold jb;simp[f]
  rw[p];dsimp only;split
  .rename_i z hy;exact s.hq t v.v hy
  .exact Jw
 rw[I_ (by rw[n.br];decide)];exact⟨n.Ec t y _,hy.k4⟩
/-- a h8 task that runs la the committed heap -/
structure RI(l:List In)(h:List Ob)(t:i6):Prop where
 p:Pl t h
 n:rF t
 th:∃F,TH l (iu t h) F/\∀i,US (·∈hQ (iu t h)) F (t.r i)
 pc:t.hT=0->t.pc<l.length/\h5 l t.pc≠20
 st:t.hT=0∨t.hT=2∨t.hT=3
 nx:t.hT=2->kN l t.next=true
def Bo{h:List Ob}{t:i6}(n:rF t)(old:∀n∈hQ h,uB t.run n)(o:0<=t.run):o9 t∉hQ h/\o9 t∉hQ t.nw/\o9 t≠0:=by
 unfold o9;refine⟨λc=>?_,λc=>?_,by omega⟩
 .rcases old _ c with b|b|⟨a,f,g,j,m,e,b⟩<;>omega
 .obtain⟨k,e,b⟩:=n.at c;omega
def RI.step{l:List In}{hq:Int}{h:List Ob}{t:i6}(o:hY l hq g9=true)(q:Way l t)(z:nU h)(old:∀n∈hQ h,uB t.run n)(T:0<=t.run)(i:RI l h t)(h0:t.hT=0):RI l h (ja l hq g9 d t h):=by
 obtain⟨W,L,v3⟩:=i.p.vis z;obtain⟨F,I,K⟩:=i.th;obtain⟨Q,N,O⟩:=Bo i.n old T
 have E:o9 t∉hQ (iu t h):=λb=>((L _).1 b).elim Q N
 have p:=i.pc h0;obtain⟨w,s⟩:=Cr (r:=t.r) o q.lo p.1 I W K E O;have m:=wx t.r (iu t h) (o9 t) o q.lo p.1 s;have Z:=(oH t.r (iu t h) (o9 t) o q.lo p.1).resolve_left s;obtain⟨x,B,j,D,C⟩:=i.p.ER z w E;have A:=kz B;obtain⟨w1,w2,Y⟩:=j.vis z
 have S:rF x:=by
  unfold rF at *;rw[D,A.run];have g:=FN List.length D;unfold hQ at g;rw[F6,K_,F6,F6]at g
  rcases w.nw with b|⟨V,b,H⟩
  .rw[b]at g ⊢;rw[g,i.n];simp[hQ]
  .rw[b]at g ⊢;rw[g]
   show hQ t.nw++[V.id]=(List.range (t.nw.length+1)).map _
   rw[List.range_succ,FI,H,i.n]
   rfl
 have X:∃F,TH l (iu x h) F/\∀i,US (·∈hQ (iu x h)) F ((j8 l hq g9 t.pc t.r (iu t h) (o9 t)).r i):=by
  obtain⟨J,a,M⟩:=w.th;refine⟨J,a.congr C.symm,λU=>?_⟩;have b:=M U;rw[<-C.Fh]at b;exact b
 have R:(j8 l hq g9 t.pc t.r (iu t h) (o9 t)).hS≠3:=λc=>p.2 (m.2.2 c)
 unfold o9 at *;unfold ja;simp only;generalize j8 l hq g9 t.pc t.r (iu t h) ((t.run+1)*1048576+t.nw.length)=c at *;rw[I_ s,I_ R,B];simp only
 have mk:∀(pc hw hT next:Int) (hO:Bool) (v:Vl),(hT=0->pc<l.length/\h5 l pc≠20)->(hT=0∨hT=2∨hT=3)->(hT=2->kN l next=true)->RI l h {x with pc:=pc,r:=c.r,hw:=hw,hT:=hT,next:=next,hO:=hO,v:=v}:=by
  intro pc hw hT next hO v q1 q2 q3;exact⟨⟨j.pl,j.gs,j.ds,j.rd,j.nw⟩,S,(show ∃F,TH l (iu x h) F/\∀i,US (·∈hQ (iu x h)) F (c.r i) from X),q1,q2,q3⟩
 split
 .exact mk c.pc (x.hw+1) 3 x.next c.hO c.v (λb=>U_ b (by decide)) (.inr (.inr rfl)) (λb=>U_ b (by decide))
 .rename_i cj;split
  .rename_i u;exact mk c.pc (x.hw+1) 2 c.pc x.hO x.v (λb=>U_ b (by decide)) (.inr (.inl rfl)) (λ_=>m.1 u.1)
  .rename_i u;refine mk c.pc (x.hw+1) x.hT x.next x.hO x.v (λ_=>?_) (.inl (A.hT.trans h0)) (λb=>by rw[A.hT,h0]at b;exact U_ b (by decide))
   have e:c.hS=0∨c.hS=1:=by omega
   rcases e with e|e
   .exact⟨(m.2.1 e).1,(m.2.1 e).2.1⟩
   .have f:=m.1 e
    have y:jm l hq g9 c.pc=false:=by
     cases b:jm l hq g9 c.pc with
     |false=>rfl
     |true=>exact U_ ⟨e,.inr (.inr b)⟩ u
    have P:h5 l c.pc≠20:=λb=>by unfold jm at y;rw[o,b]at y;cases y
    refine⟨?_,P⟩;unfold kN at f;have he:=mF o;simp at f
    rcases f with(f|f)|f
    .omega
    .exact(mq (show 0<=h5 l c.pc by omega)).2
    .exact(mq f.1).2
def RI.runs{l:List In}{hq g9:Int}{d:List Int}{h:List Ob}(c:hY l hq g9=true)(m:nU h):∀(n:Nat) (t:i6),(t.hT=0->Way l t)->(∀n∈hQ h,uB t.run n)->0<=t.run->RI l h t->(t.hT=0->todo l t<n)->RI l h (na l hq g9 d h n t)/\(na l hq g9 d h n t).hT≠0
 |0,t,_,_,_,i,b=>⟨i,λe=>U_ (b e) (Nat.not_lt_zero _)⟩
 |n+1,t,g,old,j,i,b=>by
  unfold na;split
  .rename_i h0;have q:=(rN (d:=d) (view:=h) c (g h0) h0).2.2.2.2.2;have e:=lj l hq g9 d t h;refine RI.runs c m n _ (λf=>(q f).1) (by rw[e];exact old) (by rw[e];exact j) (i.step c (g h0) m old j h0) (λf=>?_)
   have:=(q f).2
   have:=b h0
   omega
  .rename_i h0;exact⟨i,h0⟩
def Pl.Bg{t:i6}{h:List Ob}(p:Pl t h)(b:nU h):B3 (iu t h) (la h t):=by
 obtain⟨m,e,f⟩:=p.vis b;refine⟨λj=>by rw[e,oF],λi g=>?_⟩
 have c:la h t=it (t.nw.foldl jY h) t.ws:=by unfold la;rw[p.ds];rfl
 rw[f,c,lS _ (nU.puts t.nw b).nodup,pf _ b p.nw.nd]
 rfl
def RI.check{l:List In}{h:List Ob}{t:i6}(i:RI l h t)(h0:t.hT≠0):ou h t=0:=by
 have o:=i.st.resolve_left h0;unfold ou;rw[I_ (by omega),I_,I_,I_,I_]
 .intro b;unfold iS at b;obtain⟨e,f,c⟩:=HF.1 b;unfold y5 at c
  have:=i.p.nw.wi e f
  cases g:h6 h e.id e.f with
  |none=>rw[g]at this;cases this
  |some j=>rw[g]at c;simp at c
 .intro b;unfold iS at b;obtain⟨g,j,c⟩:=HF.1 b;unfold tQ at c;obtain⟨n,m⟩:=mU c;exact i.p.nw.fr g.id (Z_.2 ⟨g,j,rfl⟩) (od.2 ⟨n,m⟩)
 .rw[i.p.ds];intro b
  cases(show false=true from b)
 .intro b;obtain⟨e,f⟩:=mU b;unfold kK at f;have j:=List.mem_of_find?_eq_some f;have g:=List.find?_some f;unfold xx at g;rw[i.p.rd e j]at g;simp at g
structure CQ(l:List In)(s:qs):Prop where
 th:∃F,TH l s.h F
 Fk:s.jt=false->kN l s.hG=true
 o1:1∈hQ s.h
 o2:2∈hQ s.h
def AF{l:List In}{hq:Int}(u:hY l hq g9=true):TH l (startHeap hq) (λn=>n=2):=by
 have q:iA l 0=true:=kC (mF u).2.1;have r:iU (startHeap hq) 1=some ⟨1,⟨true,2⟩::List.replicate 2 default⟩:=rfl;have m:iU (startHeap hq) 2=some ⟨2,⟨true,0⟩::List.replicate (2+hq.toNat) default⟩:=rfl
 have s:∀n,n∈hQ (startHeap hq)->n=1∨n=2:=λn j=>by simpa[startHeap,hQ]using j
 have p:∀{k:Nat} {f:Nat} {g:Vl},(List.replicate k (default:Vl))[f]?=some g->g=default:=λb=>(Hm.1 (H2 b)).2
 refine⟨by decide,by decide,λn j=>?_,rfl,λi o g c=>?_⟩
 .rw[j]
  show(h6 (startHeap hq) 2 2).isSome=true
  unfold h6;rw[m];simp only;rw[I_ (by decide)]
  show((⟨true,0⟩::List.replicate (2+hq.toNat) default:List Vl)[2]?).isSome=true
  rw[show 2+hq.toNat=hq.toNat+2 by omega,List.replicate_succ,List.replicate_succ]
  rfl
 .have t:=s i (ly c)
  rcases t with rfl|rfl
  .unfold h6 at c;rw[r]at c;simp only at c;split at c
   .cases c
   cases e:o.toNat with
   |zero=>
    rw[e]at c;injection c with c;rw[<-c];exact⟨λ_ _=>⟨rfl,rfl⟩,λ_ b=>U_ (by omega) b,λb=>U_ b (by decide),λb=>U_ b (by decide),λb=>U_ b (by decide),λb=>U_ b (by decide),λb=>U_ rfl b⟩
   |succ f=>
    rw[e]at c;have h:=p (show(List.replicate 2 (default:Vl))[f]?=some g from c);rw[h];exact⟨λ_ b=>U_ b (by omega),λ_ _=>US.default,λb=>U_ b (by decide),λb=>U_ b (by decide),λb=>U_ b (by decide),λb=>U_ b (by decide),λb=>U_ rfl b⟩
  .unfold h6 at c;rw[m]at c;simp only at c;split at c
   .cases c
   cases e:o.toNat with
   |zero=>
    rw[e]at c;injection c with c;rw[<-c];exact⟨λb=>U_ b (by decide),λb=>U_ b (by decide),λ_ _=>⟨rfl,.inl rfl⟩,λ_ b=>U_ b (by omega),λ_ b=>U_ b (by omega),λ_ b=>U_ b (by omega),λ_ b=>U_ rfl b⟩
   |succ f=>
    rw[e]at c;have h:=p (show(List.replicate (2+hq.toNat) (default:Vl))[f]?=some g from c);rw[h];exact⟨λb=>U_ b (by decide),λb=>U_ b (by decide),λ_ b=>U_ b (by omega),λ_ _=>⟨rfl,q⟩,λ_ _=>⟨rfl,.inl rfl⟩,λ_ _=>US.default,λ_ b=>U_ rfl b⟩
def yi{l:List In}{hG:Int}(h0: -1<=hG)(b:hG<=l.length)(run:Int)(h8:Bool):Way l (mY hG run h8).p:=by
 refine⟨h0,b,FR 0,?_,⟨P_ _,P_ _,P_ _,P_ _,P_ _,P_ _⟩⟩
 show(0:Int)+(oY l hG:Nat)<=64+(l.length+1)
 have:=ra (l:=l) h0
 omega
def CR{l:List In}{hq p:Int}(c:hY l hq g9=true)(b:kN l p=true): -1<=p/\p<l.length:=by
 unfold kN at b;have e:=mF c;simp at b
 rcases b with(b|b)|b
 .omega
 .have:=mq (show 0<=h5 l p by omega)
  omega
 .have:=mq b.1
  omega
def um.cq{l:List In}{hq:Int}{f:List Int}{k:Nat}{run:Int}{s:qs}(c:hY l hq g9=true)(E:l.length<=2048)(h:um l hq g9 d f k run s):CQ l s:=by
 induction h with
 |hG=>
  exact⟨⟨_,AF c⟩,λ_=>r6 (mF c).2.1,by show 1∈hQ (startHeap hq);simp[startHeap,hQ],by show 2∈hQ (startHeap hq);simp[startHeap,hQ]⟩
 |ask h A w g=>
  rename_i k run s;have t:=h.EP;obtain⟨F,j⟩:=g.th;have q:=ug l hq g9 f s;unfold ng at w q ⊢;rw[I_ (by rw[c];decide)]at w q ⊢;split at w
  .cases w
  rename_i I;rw[I_ I]at q ⊢;have u:=(qM I).2.1;obtain⟨C,B⟩:=wy (hq:=hq) (g9:=g9) (nx:=0) (r:=i5) c u j t (λi=>(US.default:US _ F (i5 i)));have m:=mq (show 0<=h5 l s.hG by omega);have D:=wx i5 s.h 0 c (by omega) m.2 B;have L:=(oH i5 s.h 0 c (by omega) m.2).resolve_left B;generalize j8 l hq g9 s.hG i5 s.h 0=e at *
  have y:(lB l f s e).h≠[]->1∈hQ (lB l f s e).h/\2∈hQ (lB l f s e).h:=λH=>by
   rcases q with b|b
   .exact U_ b H
   .show 1∈hQ (lB l f s e,(0:Int)).1.h/\2∈hQ (lB l f s e,(0:Int)).1.h
    rw[b];exact⟨g.o1,g.o2⟩
  have K:∃F,TH l (lB l f s e).h F:=by
   unfold lB;split
   .refine⟨F,?_⟩
    show TH l (lZ l s.h s.hG _) F
    unfold lZ;obtain⟨v,z⟩:=mU (j.lo (.inr rfl) (FR 0) (by decide:(0:Int)<=2):(h6 s.h 1 0).isSome=true);rw[z];have b:=(j.tv 1 0 v z).r0 rfl rfl;have M:=(t2 (fits_all c s.hG.toNat (by omega))).v (.inr (.inr (.inr (by rw[<-o8 m.1 m.2];exact u))));exact j.pr t.nodup (TV.var j b.2 (show 3<=3+(l.getD s.hG.toNat default).n by omega) (US.num _))
   .split
    .obtain⟨o,a,_⟩:=C.th;exact⟨o,a⟩
    .obtain⟨o,a,_⟩:=C.th;exact⟨o,a⟩
  have J:(lB l f s e).h≠[]:=λb=>by
   obtain⟨o,a⟩:=K
   have:=a.ro
   rw[b]at this
   cases this
  refine⟨K,λ_=>?_,(y J).1,(y J).2⟩
  show kN l (lB l f s e).hG=true
  unfold lB;split
  .exact r5 c (.inr u)
  .rename_i N;split
   .exact g.Fk A
   .rename_i M
    show kN l e.pc=true
    have z:e.hS=0∨e.hS=1:=by omega
    rcases z with b|b
    .exact(D.2.1 b).2.2 u
    .exact D.1 b
 |commit h A w g=>
  rename_i k run s;have t:=h.EP;obtain⟨S,x⟩:=h.ci c E;obtain⟨F,j⟩:=g.th;have M:=g.Fk A;have m:=CR c M
  have C:jm l hq g9 s.hG=false:=by
   cases b:jm l hq g9 s.hG with
   |false=>rfl
   |true=>
    exfalso
    apply w
    have u:h5 l s.hG=20:=by unfold jm at b;simpa[c]using b
    obtain⟨_,B⟩:=wy (hq:=hq) (g9:=g9) (nx:=0) (r:=i5) c u j t (λi=>(US.default:US _ F (i5 i)));unfold ng;rw[I_ (by rw[c];decide),I_];unfold l0;simp;exact⟨A,b,B⟩
  have L:(jf l hq g9 s.hG run true).1=(mY s.hG run true).p:=by
   unfold jf;rw[I_ (by rw[c];decide),I_ (by rw[M];decide),I_ (by rw[C];decide)]
  have J:=yi (l:=l) m.1 (by omega) run true;have Q:Pl (mY s.hG run true).p s.h:=⟨rfl,rfl,rfl,λT D=>(by cases D),⟨HO,λn H=>(by cases H),HO,λT D=>(by cases D)⟩⟩;have R:iu (mY s.hG run true).p s.h=s.h:=rfl
  have O:RI l s.h (mY s.hG run true).p:=by
   refine⟨Q,rfl,⟨F,by rw[R];exact j,λi=>US.default⟩,λ_=>⟨m.2,λb=>?_⟩,.inl rfl,λb=>U_ b (by decide:¬(0:Int)=2)⟩;have b:h5 l s.hG=20:=b;unfold jm at C;rw[c,b]at C
   cases C
  obtain⟨z,K⟩:=RI.runs (d:=d) c t (todo l (mY s.hG run true).p+1) _ (λ_=>J) x.old S O (λ_=>Nat.lt_succ_self _)
  have N:lN l hq g9 d s run=na l hq g9 d s.h (todo l (mY s.hG run true).p+1) (mY s.hG run true).p:=by unfold lN zl;rw[L]
  have P:(lN l hq g9 d s run).hG=s.hG:=by
   have b:=(vo (d:=d) (view:=s.h) c E (todo l (mY s.hG run true).p+1) (mY s.hG run true).p (λ_=>J) (by have:=(wY (hq:=hq) (g9:=g9) (run:=run) (h8:=true) E m.1 (by omega)).1;rw[L]at this;exact this)).2.2;rw[N];exact b
  rw[<-N]at z K;generalize lN l hq g9 d s run=q at *;have U:=z.check K;unfold kF;rw[I_ (by decide),I_ (by unfold nv;rw[A,P];simp),I_ (by rw[U];decide)]
  have I:la s.h q=(ko s q).h:=by unfold ko;split<;>rfl
  refine⟨?_,λy=>?_,?_,?_⟩
  .obtain⟨o,a,_⟩:=z.th;refine⟨o,?_⟩
   show TH l (ko s q).h o
   rw[<-I];exact a.congr (z.p.Bg t)
  .have y:(ko s q).jt=false:=y
   show kN l (ko s q).hG=true
   unfold ko at y ⊢;split
   .rename_i e;exact z.nx e
   .rename_i e;rw[I_ e]at y
    cases y
  .show 1∈hQ (ko s q).h
   rw[<-I];exact oF.2 (.inl g.o1)
  .show 2∈hQ (ko s q).h
   rw[<-I];exact oF.2 (.inl g.o2)
