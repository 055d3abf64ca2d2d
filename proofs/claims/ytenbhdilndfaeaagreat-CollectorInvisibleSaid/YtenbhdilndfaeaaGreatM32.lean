import Derived.Test.YtenbhdilndfaeaaGreatM30
set_option maxRecDepth 100000
set_option maxHeartbeats 0
set_option linter.all false
namespace Go.Proofs.YtenbhdilndfaeaaGreat
open Go.RowKit Go.Proofs.Tryz
variable(l:List In)
def LT{G:Prop} (h:G:=by
 rintro((a|a)|a)
 .exact .inl (.inl a)
 .exact .inr a
 .exact .inl (.inr a)):G:=h
def tt{h:List Ob}{id f:Int}{v:Vl}:iF (kQ h id f v)=iF h:=by
 unfold iF kQ;exact Mo
def yf(h:List Ob)(c:Cl):iF (p7 h c)=iF h:=by
 unfold p7;split
 .rfl
 .exact tt
def mP:∀(l:List Cl) (h:List Ob),iF (ja h l)=iF h
 |[],_=>rfl
 |c::l,h=>(mP l (p7 h c)).trans (yf h c)
def Be(h:List Ob)(d:Dl):iF (pb h d)=iF h:=by
 unfold pb;split
 .rfl
 .split
  .exact tt
  .rfl
def pr:∀(l:List Dl) (h:List Ob),iF (kj h l)=iF h
 |[],_=>rfl
 |d::l,h=>(pr l (pb h d)).trans (Be h d)
def yh{h:List Ob}{id:Int}(e:¬jr h id<0):∃b:(jr h id).toNat<h.length,h[(jr h id).toNat].id=id:=by
 rcases mr h id with⟨a,_⟩|⟨f,b,g,c⟩
 .exact FU a e
 .have d:(jr h id).toNat=f:=X;simp only[d];refine⟨b,?_⟩
  have:=List.find?_some c
  exact MR
def Bf(h:List Ob)(o:Ob)(n:Int):n∈iF (lv h o)↔n∈iF h∨n=o.id:=by
 unfold lv;split
 .unfold iF;simp only[FV,Gm,GZ,X_,I_]
  have c:n∈h.map (·.id)↔n∈(h.take (m_ h o.id)).map (·.id)∨n∈(h.drop (m_ h o.id)).map (·.id):=by
   rw[<-X_,<-FV,Hu]
  rw[c];constructor
  .exact LT
  .exact LT
 .rename_i f;obtain⟨g,e⟩:=yh f;generalize (jr h o.id).toNat=b at*;unfold iF;simp only[FV,Gm,GZ,X_,I_]
  have c:n∈h.map (·.id)↔n∈(h.take b).map (·.id)∨n=h[b].id∨n∈(h.drop (b+1)).map (·.id):=by
   have i:h=h.take b++h[b]::h.drop (b+1):=by rw[<-Q_ g,Hu]
   have d:h.map (·.id)=(h.take b).map (·.id)++h[b].id::(h.drop (b+1)).map (·.id):=by
    have:=Z_ (List.map (·.id)) i
    rwa [FV,Gm]at this
   rw[d,X_,M_]
  rw[c,e];constructor
  .rintro((a|a)|a)
   .exact .inl (.inl a)
   .exact .inr a
   .exact .inl (.inr (.inr a))
  .rintro((a|a|a)|a)
   .exact .inl (.inl a)
   .exact .inl (.inr a)
   .exact .inr a
   .exact .inl (.inr a)
def vO:∀(l h:List Ob) (n:Int),n∈iF (l.foldl lv h)↔n∈iF h∨n∈iF l
 |[],h,n=>by simp[iF]
 |o::l,h,n=>by
  rw[Hf,vO l,Bf];unfold iF;rw[Gm,M_];constructor
  .rintro((a|a)|a)
   .exact .inl a
   .exact .inr (.inl a)
   .exact .inr (.inr a)
  .rintro(a|a|a)
   .exact .inl (.inl a)
   .exact .inl (.inr a)
   .exact .inr a
def s8{h:List Ob}{t:i3}{n:Int}:n∈iF (lL h t)↔n∈iF h∨n∈iF t.nw:=by
 unfold lL;rw[pr,mP];exact vO _ _ _
/-- an identifier that is 0 or names an object of h -/
def BY(h:List Ob)(n:Int):Prop:=n=0∨n∈iF h
/-- the identifiers of a task's own objects: numbered -/
def vf(t:i3):Prop:=iF t.nw=(List.range t.nw.length).map λk:Nat=>(t.run+1)*1048576+(k:Int)
def vf.step{c:List In}{hH hC:Int}{d:List Int}{t:i3}{view:List Ob}{P:Int->Prop}(h0:P 0)(k:HG P view)(j:TG (λn=>P n∨n∈iF t.nw) t)(g:vf t):
 TG (λn=>P n∨n∈iF (jd c hH hC d t view).nw) (jd c hH hC d t view)/\vf (jd c hH hC d t view):=by
 have i:=mD c hH hC d t view
 rcases j.step (k.mono λn h=>.inl h) (.inl h0) c hH hC d with⟨e,b⟩|⟨e,b⟩
 .have b:iF (jd c hH hC d t view).nw=iF t.nw:=b
  have f:(jd c hH hC d t view).nw.length=t.nw.length:=by have:=Z_ List.length b;unfold iF at this;simpa using this
  refine⟨e.mono λn h=>by rw[b];exact h,?_⟩;unfold vf;rw[b,f,i];exact g
 .have b:iF (jd c hH hC d t view).nw=iF t.nw++[uZ t]:=b
  have f:(jd c hH hC d t view).nw.length=t.nw.length+1:=by have:=Z_ List.length b;unfold iF at this;simpa using this
  refine⟨e.mono λn h=>by rw[b];rcases h with(h|h)|h;exact .inl h;exact .inr (F9 _ h);exact .inr (Hc _ (I_.2 h)),?_⟩;unfold vf at g ⊢;rw[b,f,i,List.range_succ,FV,g]
  rfl
def vf.runs{l:List In}{hH hC:Int}{d:List Int}{view:List Ob}{P:Int->Prop}(h0:P 0)(f:HG P view):∀(n:Nat) (t:i3),TG (λn=>P n∨n∈iF t.nw) t->vf t->
 TG (λm=>P m∨m∈iF (og l hH hC d view n t).nw) (og l hH hC d view n t)/\vf (og l hH hC d view n t)
 |0,_,e,b=>⟨e,b⟩
 |n+1,t,e,b=>by
  unfold og;split
  .have h:=vf.step (c:=l) (hH:=hH) (hC:=hC) (d:=d) h0 f e b;exact vf.runs h0 f n _ h.1 h.2
  .exact⟨e,b⟩
def vC{l:List In}{hH hC:Int}{d:List Int}{view:List Ob}:∀(n:Nat) (t:i3),(og l hH hC d view n t).run=t.run
 |0,_=>rfl
 |n+1,t=>by
  unfold og;split
  .rw[vC n];exact mD _ _ _ _ _ _
  .rfl
def uI(hH hC hQ run:Int)(ik:Bool):(jn l hH hC hQ run ik).1.nw=[]:=by
 unfold jn;split
 .rfl
 split
 .rfl
 split<;>rfl
def vf.begin{l:List In}{hH hC hQ run:Int}{ik:Bool}:vf (jn l hH hC hQ run ik).1:=by
 unfold vf;rw[uI]
 rfl
def vf.at{t:i3}(h:vf t){n:Int}(b:n∈iF t.nw):∃k:Nat,k<t.nw.length/\n=(t.run+1)*1048576+(k:Int):=by
 unfold vf at h;rw[h]at b;obtain⟨k,d,c⟩:=FQ.1 b;exact⟨k,Gn.1 d,c.symm⟩
def xU(run n:Int):Prop:=n=1∨n=2∨∃r j:Int,0<=r/\r<run/\0<=j/\j<1048576/\n=(r+1)*1048576+j
def xU.mono{a b n:Int}(h:xU a n)(k:a<=b):xU b n:=by
 rcases h with h|h|⟨f,e,c,g,d⟩
 .exact .inl h
 .exact .inr (.inl h)
 .exact .inr (.inr ⟨f,e,c,X,d⟩)
def wA(hH hC:Int)(c:List Int)(s:p9):(nR l hH hC c s).1.h=[]∨iF (nR l hH hC c s).1.h=iF s.h:=by
 unfold nR;split
 .exact .inl rfl
 split
 .exact .inl rfl
 rename_i e;have d:=(tM e).2.1;have b:(lq l hH hC s.hQ jp s.h 0).nw=[]:=(uy (P:=λ_=>True) l hH hC s.hQ 0 d trivial (λg _=>⟨trivial,λi _ _=>trivial⟩) (λf _=>trivial)).2;unfold oH;right;split
 .exact yf _ _
 split
 .show iF (k4 s.h _)=_
  unfold k4;rw[b,mP]
  rfl
 .show iF (k4 s.h _)=_
  unfold k4;rw[b,mP]
  rfl
structure CI(run:Int)(h:List Ob):Prop where
 cl:HG (BY h) h
 old:∀n∈iF h,xU run n
def CI.nil(run:Int):CI run []:=⟨HG.nil,λc b=>by cases b⟩
def uO.ci{l:List In}{hH hC:Int}{d j:List Int}{k:Nat}{run:Int}{s:p9}(u:ic l hH hC=true)(t:l.length<=2048)(h:uO l hH hC d j k run s):0<=run/\CI run s.h:=by
 induction h with
 |hQ=>
  refine⟨Gg _,?_,?_⟩
  .show HG (BY (startHeap hH)) (startHeap hH)
   exact HG.hQ hH (.inl rfl) (.inr (by simp[startHeap,iF])) (.inr (by simp[startHeap,iF]))
  .show ∀c∈iF (startHeap hH),xU 0 c
   intro c e;simp[startHeap,iF]at e
   rcases e with h|h
   .exact .inl h
   .exact .inr (.inl h)
 |ask h r p b=>
  rename_i k run s;refine⟨b.1,?_⟩
  rcases wA l hH hC j s with f|f
  .rw[f];exact CI.nil _
  .refine⟨(HG.nR l hH hC j (.inl rfl) b.2.cl).mono λc e=>e.imp id λq=>by rw[f];exact q,λc e=>b.2.old c (by rw[<-f];exact e)⟩
 |commit h r p b=>
  rename_i k run s;refine⟨ov b.1,?_⟩;obtain⟨g,i⟩:=vf.runs (l:=l) (hH:=hH) (hC:=hC) (d:=d) (view:=s.h) (P:=BY s.h) (.inl rfl) b.2.cl (todo l (jn l hH hC s.hQ run true).1+1) (jn l hH hC s.hQ run true).1 (TG.begin _ _ _ _ _ _) vf.begin;have x:(na l hH hC d s run).run=(jn l hH hC s.hQ run true).1.run:=vC _ _;have w:=nQ l hH hC s.hQ run true;have y:=(ru (d:=d) u t s run).sm.nw;have g:TG (λo=>BY s.h o∨o∈iF (na l hH hC d s run).nw) (na l hH hC d s run):=g;have i:vf (na l hH hC d s run):=i;generalize na l hH hC d s run=m at *
  have n:CI (run+1) (lL s.h m):=by
   refine⟨(g.lL (b.2.cl.mono λc h=>.inl h)).mono ?_,?_⟩
   .rintro c((h|h)|h)
    .exact .inl h
    .exact .inr ((s8).2 (.inl h))
    .exact .inr ((s8).2 (.inr h))
   .intro c e
    rcases(s8).1 e with h|h
    .exact(b.2.old c h).mono (X)
    .obtain⟨v,z,f⟩:=i.at h
     have:=b.1
     exact .inr (.inr ⟨m.run,v,X,X,X,X,f⟩)
  unfold kK;rw[R_ (O)];split
  .exact CI.nil _
  split
  .exact CI.nil _
  show CI (run+1) (lW s m).h
  unfold lW;split
  .exact n
  .exact n
