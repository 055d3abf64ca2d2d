import Derived.Test.YtenbhdilndfaeaaGreatM30
set_option maxRecDepth 100000
set_option maxHeartbeats 0
set_option linter.all false
namespace Go.Proofs.YtenbhdilndfaeaaGreat
open Go.RowKit Go.Proofs.Tryz
variable(l:QS)
def Mn{G:Prop} (h:G:=by
 rintro((a|a)|a);exact .inl (.inl a);exact .inr a;exact .inl (.inr a)):G:=h
def tC{h:QQ}{id f:Int}{v:Vl}:iQ (kk h id f v)=iQ h:=by
 unfold iQ kk;exact MU
def yw(h:QQ)(c:Cl):iQ (pe h c)=iQ h:=by
 unfold pe;split;rfl;exact tC
def nV:∀(l:QX) (h:QQ),iQ (iV h l)=iQ h
 |[],_=>rfl
 |c::l,h=>(nV l (pe h c)).trans (yw h c)
def Bj(h:QQ)(d:Dl):iQ (nT h d)=iQ h:=by
 unfold nT;split;rfl;split
 .exact tC
 rfl
def rN:∀(l:QD) (h:QQ),iQ (jU h l)=iQ h
 |[],_=>rfl
 |d::l,h=>(rN l (nT h d)).trans (Bj h d)
def CL{h:QQ}{id:Int}(e:¬js h id<0):∃b:(js h id).toNat<h.length,h[(js h id).toNat].id=id:=by
 rcases m5 h id with⟨a,_⟩|⟨f,b,g,c⟩
 exact Gc a e;have d:(js h id).toNat=f:=X;simp only[d];refine⟨b,?_⟩;have:=List.find?_some c;exact No
def Bl(h:QQ)(o:Ob)(n:Int):n∈iQ (ll h o)↔n∈iQ h∨n=o.id:=by
 unfold ll;split;unfold iQ;simp only[Gd,Gx,Hf,W_,J_];have c:n∈h.map (·.id)↔n∈(h.take (o1 h o.id)).map (·.id)∨n∈(h.drop (o1 h o.id)).map (·.id):=by
  rw[<-W_,<-Gd,Hm]
 rw[c];constructor;exact Mn;exact Mn;rename_i f;obtain⟨g,e⟩:=CL f;generalize (js h o.id).toNat=b at*;unfold iQ;simp only[Gd,Gx,Hf,W_,J_];have c:n∈h.map (·.id)↔n∈(h.take b).map (·.id)∨n=h[b].id∨n∈(h.drop (b+1)).map (·.id):=by
  have i:h=h.take b++h[b]::h.drop (b+1):=by rw[<-R_ g,Hm]
  have d:h.map (·.id)=(h.take b).map (·.id)++h[b].id::(h.drop (b+1)).map (·.id):=by
   have:=Z_ (List.map (·.id)) i;rwa [Gd,Gx]at this
  rw[d,W_,O_]
 rw[c,e];constructor;rintro((a|a)|a)
 .exact .inl (.inl a)
 exact .inr a;exact .inl (.inr (.inr a));rintro((a|a|a)|a)
 .exact .inl (.inl a)
 exact .inl (.inr a);exact .inr a;exact .inl (.inr a)
def wl:∀(l h:QQ) (n:Int),n∈iQ (l.foldl ll h)↔n∈iQ h∨n∈iQ l
 |[],h,n=>by simp[iQ]
 |o::l,h,n=>by
  rw[HN,wl l,Bl];unfold iQ;rw[Gx,O_];constructor;rintro((a|a)|a)
  .exact .inl a
  exact .inr (.inl a);exact .inr (.inr a);rintro(a|a|a)
  .exact .inl (.inl a)
  exact .inl (.inr a);exact .inr a
def tg{h:QQ}{t:jb}{n:Int}:n∈iQ (lP h t)↔n∈iQ h∨n∈iQ t.nw:=by
 unfold lP;rw[rN,nV];exact wl _ _ _
/-- an identifier that is 0 or names an object of h -/
def EY(h:QQ)(n:Int):Prop:=n=0∨n∈iQ h
/-- the identifiers of a task's own objects: numbered -/
def vF(t:jb):Prop:=iQ t.nw=(List.range t.nw.length).map λk:Nat=>(t.run+1)*1048576+(k:Int)
def vF.step{c:QS}{hH hC:Int}{d:QR}{t:jb}{view:QQ}{P:Int->Prop}(h0:P 0)(k:HG P view)(j:TG (λn=>P n∨n∈iQ t.nw) t)(g:vF t):
 TG (λn=>P n∨n∈iQ (je c hH hC d t view).nw) (je c hH hC d t view)/\vF (je c hH hC d t view):=by
 have i:=mK c hH hC d t view;rcases j.step (k.mono λn h=>.inl h) (.inl h0) c hH hC d with⟨e,b⟩|⟨e,b⟩
 have b:iQ (je c hH hC d t view).nw=iQ t.nw:=b;have f:(je c hH hC d t view).nw.length=t.nw.length:=by have:=Z_ List.length b;unfold iQ at this;simpa using this
 refine⟨e.mono λn h=>by rw[b];exact h,?_⟩;unfold vF;rw[b,f,i];exact g;have b:iQ (je c hH hC d t view).nw=iQ t.nw++[vl t]:=b;have f:(je c hH hC d t view).nw.length=t.nw.length+1:=by have:=Z_ List.length b;unfold iQ at this;simpa using this
 refine⟨e.mono λn h=>by rw[b];rcases h with(h|h)|h;exact .inl h;exact .inr (Gn _ h);exact .inr (Hn _ (J_.2 h)),?_⟩;unfold vF at g ⊢;rw[b,f,i,List.range_succ,Gd,g];rfl
def vF.runs{l:QS}{hH hC:Int}{d:QR}{view:QQ}{P:Int->Prop}(h0:P 0)(f:HG P view):∀(n:Nat) (t:jb),TG (λn=>P n∨n∈iQ t.nw) t->vF t->
 TG (λm=>P m∨m∈iQ (mX l hH hC d view n t).nw) (mX l hH hC d view n t)/\vF (mX l hH hC d view n t)
 |0,_,e,b=>⟨e,b⟩
 |n+1,t,e,b=>by
  unfold mX;split;have h:=vF.step (c:=l) (hH:=hH) (hC:=hC) (d:=d) h0 f e b;exact vF.runs h0 f n _ h.1 h.2;exact⟨e,b⟩
def v6{l:QS}{hH hC:Int}{d:QR}{view:QQ}:∀(n:Nat) (t:jb),(mX l hH hC d view n t).run=t.run
 |0,_=>rfl
 |n+1,t=>by
  unfold mX;split;rw[v6 n];exact mK _ _ _ _ _ _;rfl
def uP(hH hC hQ run:Int)(ip:Bool):(jm l hH hC hQ run ip).1.nw=[]:=by
 unfold jm;split
 .rfl
 split
 .rfl
 split<;>rfl
def vF.begin{l:QS}{hH hC hQ run:Int}{ip:Bool}:vF (jm l hH hC hQ run ip).1:=by
 unfold vF;rw[uP];rfl
def vF.at{t:jb}(h:vF t){n:Int}(b:n∈iQ t.nw):∃k:Nat,k<t.nw.length/\n=(t.run+1)*1048576+(k:Int):=by
 unfold vF at h;rw[h]at b;obtain⟨k,d,c⟩:=Ge.1 b;exact⟨k,GI.1 d,c.symm⟩
def x8(run n:Int):Prop:=n=1∨n=2∨∃r j:Int,0<=r/\r<run/\0<=j/\j<1048576/\n=(r+1)*1048576+j
def x8.mono{a b n:Int}(h:x8 a n)(k:a<=b):x8 b n:=by
 rcases h with h|h|⟨f,e,c,g,d⟩
 exact .inl h;exact .inr (.inl h);exact .inr (.inr ⟨f,e,c,X,d⟩)
def BO(hH hC:Int)(c:QR)(s:qb):(ny l hH hC c s).1.h=[]∨iQ (ny l hH hC c s).1.h=iQ s.h:=by
 unfold ny;split
 .exact .inl rfl
 split
 .exact .inl rfl
 rename_i e;have d:=(tS e).2.1;have b:(lx l hH hC s.hQ jp s.h 0).nw=[]:=(uB (P:=λ_=>True) l hH hC s.hQ 0 d trivial (λg _=>⟨trivial,λi _ _=>trivial⟩) (λf _=>trivial)).2;unfold oh;right;split
 .exact yw _ _
 split;show iQ (ky s.h _)=_;unfold ky;rw[b,nV];rfl;show iQ (ky s.h _)=_;unfold ky;rw[b,nV];rfl
structure CI(run:Int)(h:QQ):Prop where
 cl:HG (EY h) h
 old:∀n∈iQ h,x8 run n
def CI.nil(run:Int):CI run []:=⟨HG.nil,λc b=>by cases b⟩
def uX.ci{l:QS}{hH hC:Int}{d j:QR}{k:Nat}{run:Int}{s:qb}(u:ia l hH hC=true)(t:l.length<=2048)(h:uX l hH hC d j k run s):0<=run/\CI run s.h:=by
 induction h with
 |hQ=>
  refine⟨GH _,?_,?_⟩;show HG (EY (startHeap hH)) (startHeap hH);exact HG.hQ hH (.inl rfl) (.inr (by simp[startHeap,iQ])) (.inr (by simp[startHeap,iQ]));show ∀c∈iQ (startHeap hH),x8 0 c;intro c e;simp[startHeap,iQ]at e;rcases e with h|h
  exact .inl h;exact .inr (.inl h)
 |ask h r p b=>
  rename_i k run s;refine⟨b.1,?_⟩;rcases BO l hH hC j s with f|f
  rw[f];exact CI.nil _;refine⟨(HG.ny l hH hC j (.inl rfl) b.2.cl).mono λc e=>e.imp id λq=>by rw[f];exact q,λc e=>b.2.old c (by rw[<-f];exact e)⟩
 |commit h r p b=>
  rename_i k run s;refine⟨ov b.1,?_⟩;obtain⟨g,i⟩:=vF.runs (l:=l) (hH:=hH) (hC:=hC) (d:=d) (view:=s.h) (P:=EY s.h) (.inl rfl) b.2.cl (todo l (jm l hH hC s.hQ run true).1+1) (jm l hH hC s.hQ run true).1 (TG.begin _ _ _ _ _ _) vF.begin;have w:(mP l hH hC d s run).run=(jm l hH hC s.hQ run true).1.run:=v6 _ _;have x:=nS l hH hC s.hQ run true;have y:=(ru (d:=d) u t s run).sm.nw;have g:TG (λo=>EY s.h o∨o∈iQ (mP l hH hC d s run).nw) (mP l hH hC d s run):=g;have i:vF (mP l hH hC d s run):=i;generalize mP l hH hC d s run=m at *
  have n:CI (run+1) (lP s.h m):=by
   refine⟨(g.lP (b.2.cl.mono λc h=>.inl h)).mono ?_,?_⟩;rintro c((h|h)|h)
   .exact .inl h
   exact .inr ((tg).2 (.inl h));exact .inr ((tg).2 (.inr h));intro c e;rcases(tg).1 e with h|h
   exact(b.2.old c h).mono (X);obtain⟨v,z,f⟩:=i.at h;have:=b.1;exact .inr (.inr ⟨m.run,v,X,X,X,X,f⟩)
  unfold kR;rw[T_ (I)];split
  .exact CI.nil _
  split
  .exact CI.nil _
  show CI (run+1) (mx s m).h;unfold mx;split;exact n;exact n
