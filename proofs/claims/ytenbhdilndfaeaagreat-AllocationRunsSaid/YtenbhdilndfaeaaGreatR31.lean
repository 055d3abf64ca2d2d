import Derived.Test.YtenbhdilndfaeaaGreatR30
set_option maxRecDepth 100000
set_option maxHeartbeats 0
set_option linter.all false
namespace Go.Proofs.YtenbhdilndfaeaaGreat
open Go.RowKit Go.Proofs.Tryz
variable{d:List Int}{l:List In}
def LG{G:Prop} (h:G:=by
 rintro((a|a)|a)
 .exact .inl (.inl a)
 .exact .inr a
 .exact .inl (.inr a)):G:=h
def tU{h:List Ob}{id f:Int}{v:Vl}:hQ (kL h id f v)=hQ h:=by
 unfold hQ kL;exact Mj
def rm(h:List Ob)(c:Cl):hQ (pr h c)=hQ h:=by
 unfold pr;split
 .rfl
 .exact tU
def jy:∀(l:List Cl) (h:List Ob),hQ (it h l)=hQ h
 |[],_=>rfl
 |c::l,h=>(jy l (pr h c)).trans (rm h c)
def BB(h:List Ob)(d:Dl):hQ (px h d)=hQ h:=by
 unfold px;split
 .rfl
 .split
  .exact tU
  .rfl
def pN:∀(l:List Dl) (h:List Ob),hQ (kg h l)=hQ h
 |[],_=>rfl
 |d::l,h=>(pN l (px h d)).trans (BB h d)
def s5{h:List Ob}{id:Int}(f:¬jn h id<0):∃b:(jn h id).toNat<h.length,h[(jn h id).toNat].id=id:=by
 rcases m5 h id with⟨a,_⟩|⟨g,b,i,c⟩
 .exact U_ a f
 .have e:(jn h id).toNat=g:=X;simp only[e];refine⟨b,?_⟩
  have:=List.find?_some c
  exact ML
def mZ(h:List Ob)(c:Ob)(n:Int):n∈hQ (jY h c)↔n∈hQ h∨n=c.id:=by
 unfold jY;split
 .unfold hQ;simp only[FI,Gn,G1,T_,R_]
  have e:n∈h.map (·.id)↔n∈(h.take (mA h c.id)).map (·.id)∨n∈(h.drop (mA h c.id)).map (·.id):=by
   rw[<-T_,<-FI,Gk]
  rw[e];constructor
  .exact LG
  .exact LG
 .rename_i g;obtain⟨i,f⟩:=s5 g;generalize (jn h c.id).toNat=b at*;unfold hQ;simp only[FI,Gn,G1,T_,R_]
  have e:n∈h.map (·.id)↔n∈(h.take b).map (·.id)∨n=h[b].id∨n∈(h.drop (b+1)).map (·.id):=by
   have j:h=h.take b++h[b]::h.drop (b+1):=by rw[<-Y_ i,Gk]
   have k:h.map (·.id)=(h.take b).map (·.id)++h[b].id::(h.drop (b+1)).map (·.id):=by
    have:=FN (List.map (·.id)) j
    rwa [FI,Gn]at this
   rw[k,T_,N_]
  rw[e,f];constructor
  .rintro((a|a)|a)
   .exact .inl (.inl a)
   .exact .inr a
   .exact .inl (.inr (.inr a))
  .rintro((a|a|a)|a)
   .exact .inl (.inl a)
   .exact .inl (.inr a)
   .exact .inr a
   .exact .inl (.inr a)
def rb:∀(l h:List Ob) (n:Int),n∈hQ (l.foldl jY h)↔n∈hQ h∨n∈hQ l
 |[],h,n=>by simp[hQ]
 |b::l,h,n=>by
  rw[GT,rb l,mZ];unfold hQ;rw[Gn,N_];constructor
  .rintro((a|a)|a)
   .exact .inl a
   .exact .inr (.inl a)
   .exact .inr (.inr a)
  .rintro(a|a|a)
   .exact .inl (.inl a)
   .exact .inl (.inr a)
   .exact .inr a
def oF{h:List Ob}{t:i6}{n:Int}:n∈hQ (la h t)↔n∈hQ h∨n∈hQ t.nw:=by
 unfold la;rw[pN,jy];exact rb _ _ _
/-- an identifier that is 0 or names an object of h -/
def EM(h:List Ob)(n:Int):Prop:=n=0∨n∈hQ h
/-- the identifiers of a task's own objects: numbered -/
def rF(t:i6):Prop:=hQ t.nw=(List.range t.nw.length).map λk:Nat=>(t.run+1)*1048576+(k:Int)
def rF.step{c:List In}{hq g9:Int}{t:i6}{view:List Ob}{P:Int->Prop}(h0:P 0)(k:HG P view)(j:TG (λn=>P n∨n∈hQ t.nw) t)(g:rF t):
 TG (λn=>P n∨n∈hQ (ja c hq g9 d t view).nw) (ja c hq g9 d t view)/\rF (ja c hq g9 d t view):=by
 have i:=lj c hq g9 d t view
 rcases j.step (k.mono λn h=>.inl h) (.inl h0) c hq g9 d with⟨e,b⟩|⟨e,b⟩
 .have b:hQ (ja c hq g9 d t view).nw=hQ t.nw:=b
  have f:(ja c hq g9 d t view).nw.length=t.nw.length:=by have:=FN List.length b;unfold hQ at this;simpa using this
  refine⟨e.mono λn h=>by rw[b];exact h,?_⟩;unfold rF;rw[b,f,i];exact g
 .have b:hQ (ja c hq g9 d t view).nw=hQ t.nw++[o9 t]:=b
  have f:(ja c hq g9 d t view).nw.length=t.nw.length+1:=by have:=FN List.length b;unfold hQ at this;simpa using this
  refine⟨e.mono λn h=>by rw[b];rcases h with(h|h)|h;exact .inl h;exact .inr (FL _ h);exact .inr (GG _ (R_.2 h)),?_⟩;unfold rF at g ⊢;rw[b,f,i,List.range_succ,FI,g]
  rfl
def rF.runs{l:List In}{hq g9:Int}{d:List Int}{view:List Ob}{P:Int->Prop}(h0:P 0)(f:HG P view):∀(n:Nat) (t:i6),TG (λn=>P n∨n∈hQ t.nw) t->rF t->
 TG (λg=>P g∨g∈hQ (na l hq g9 d view n t).nw) (na l hq g9 d view n t)/\rF (na l hq g9 d view n t)
 |0,_,b,e=>⟨b,e⟩
 |n+1,t,b,e=>by
  unfold na;split
  .have h:=rF.step (c:=l) (hq:=hq) (g9:=g9) (d:=d) h0 f b e;exact rF.runs h0 f n _ h.1 h.2
  .exact⟨b,e⟩
def we{l:List In}{hq g9:Int}{d:List Int}{view:List Ob}:∀(n:Nat) (t:i6),(na l hq g9 d view n t).run=t.run
 |0,_=>rfl
 |n+1,t=>by
  unfold na;split
  .rw[we n];exact lj _ _ _ _ _ _
  .rfl
def z6(l:List In)(hq g9 hG run:Int)(h8:Bool):(jf l hq g9 hG run h8).1.nw=[]:=by
 unfold jf;split
 .rfl
 split
 .rfl
 split<;>rfl
def rF.begin{hq g9 hG run:Int}{h8:Bool}:rF (jf l hq g9 hG run h8).1:=by
 unfold rF;rw[z6]
 rfl
def rF.at{t:i6}(h:rF t){n:Int}(b:n∈hQ t.nw):∃k:Nat,k<t.nw.length/\n=(t.run+1)*1048576+(k:Int):=by
 unfold rF at h;rw[h]at b;obtain⟨k,e,c⟩:=Z_.1 b;exact⟨k,Gb.1 e,c.symm⟩
def uB(run n:Int):Prop:=n=1∨n=2∨∃r j:Int,0<=r/\r<run/\0<=j/\j<1048576/\n=(r+1)*1048576+j
def uB.mono{a b n:Int}(h:uB a n)(k:a<=b):uB b n:=by
 rcases h with h|h|⟨g,f,c,i,e⟩
 .exact .inl h
 .exact .inr (.inl h)
 .exact .inr (.inr ⟨g,f,c,X,e⟩)
def ug(l:List In)(hq g9:Int)(c:List Int)(s:qs):(ng l hq g9 c s).1.h=[]∨hQ (ng l hq g9 c s).1.h=hQ s.h:=by
 unfold ng;split
 .exact .inl rfl
 split
 .exact .inl rfl
 rename_i f;have e:=(qM f).2.1;have b:(j8 l hq g9 s.hG i5 s.h 0).nw=[]:=(uV (P:=λ_=>True) l hq g9 s.hG 0 e trivial (λi _=>⟨trivial,λj _ _=>trivial⟩) (λg _=>trivial)).2;unfold lB;right;split
 .exact rm _ _
 split
 .show hQ (lb s.h _)=_
  unfold lb;rw[b,jy]
  rfl
 .show hQ (lb s.h _)=_
  unfold lb;rw[b,jy]
  rfl
structure CI(run:Int)(h:List Ob):Prop where
 cl:HG (EM h) h
 old:∀n∈hQ h,uB run n
def CI.nil(run:Int):CI run []:=⟨HG.nil,λc b=>by cases b⟩
def um.ci{hq g9:Int}{j:List Int}{k:Nat}{run:Int}{s:qs}(u:hY l hq g9=true)(t:l.length<=2048)(h:um l hq g9 d j k run s):0<=run/\CI run s.h:=by
 induction h with
 |hG=>
  refine⟨FR _,?_,?_⟩
  .show HG (EM (startHeap hq)) (startHeap hq)
   exact HG.hG hq (.inl rfl) (.inr (by simp[startHeap,hQ])) (.inr (by simp[startHeap,hQ]))
  .show ∀c∈hQ (startHeap hq),uB 0 c
   intro c e;simp[startHeap,hQ]at e
   rcases e with h|h
   .exact .inl h
   .exact .inr (.inl h)
 |ask h r p b=>
  rename_i k run s;refine⟨b.1,?_⟩
  rcases ug l hq g9 j s with f|f
  .rw[f];exact CI.nil _
  .refine⟨(HG.ng l hq g9 j (.inl rfl) b.2.cl).mono λc e=>e.imp id λq=>by rw[f];exact q,λc e=>b.2.old c (by rw[<-f];exact e)⟩
 |commit h r p b=>
  rename_i k run s;refine⟨ov b.1,?_⟩;obtain⟨g,i⟩:=rF.runs (l:=l) (hq:=hq) (g9:=g9) (d:=d) (view:=s.h) (P:=EM s.h) (.inl rfl) b.2.cl (todo l (jf l hq g9 s.hG run true).1+1) (jf l hq g9 s.hG run true).1 (TG.begin _ _ _ _ _ _) rF.begin;have x:(lN l hq g9 d s run).run=(jf l hq g9 s.hG run true).1.run:=we _ _;have w:=mP l hq g9 s.hG run true;have y:=(rY (d:=d) u t s run).sm.nw;have g:TG (λn=>EM s.h n∨n∈hQ (lN l hq g9 d s run).nw) (lN l hq g9 d s run):=g;have i:rF (lN l hq g9 d s run):=i;generalize lN l hq g9 d s run=m at *
  have o:CI (run+1) (la s.h m):=by
   refine⟨(g.la (b.2.cl.mono λc h=>.inl h)).mono ?_,?_⟩
   .rintro c((h|h)|h)
    .exact .inl h
    .exact .inr ((oF).2 (.inl h))
    .exact .inr ((oF).2 (.inr h))
   .intro c e
    rcases(oF).1 e with h|h
    .exact(b.2.old c h).mono (X)
    .obtain⟨v,z,f⟩:=i.at h
     have:=b.1
     exact .inr (.inr ⟨m.run,v,X,X,X,X,f⟩)
  unfold kF;rw[I_ (I)];split
  .exact CI.nil _
  split
  .exact CI.nil _
  show CI (run+1) (ko s m).h
  unfold ko;split
  .exact o
  .exact o
def TG.top(Q:Int->Prop)(t:i6):TG (λn=>True∨Q n) t:=
 have b:∀c:Vl,GV (λn=>True∨Q n) c:=λc _=>.inl trivial
 ⟨λe _=>b _,λe _=>⟨.inl (.inl trivial),b _⟩,λe _=>⟨.inl (.inl trivial),b _⟩,λg _=>⟨.inl trivial,λc _=>b c⟩,λf=>b _,b _⟩
def vN.own{hq g9:Int}{h:List Ob}{run:Int}{n:Nat}{ts:List i6}(o:hY l hq g9=true)(i:vN l hq g9 d h run n ts):∀t∈ts,rF t/\run<=t.run:=by
 induction i with
 |hG ts q k=>
  intro t b;obtain⟨c,e,g⟩:=Hg b;obtain⟨p,j,m,f⟩:=k c e;rw[<-g,f];refine⟨rF.begin,?_⟩
  have:(jf l hq g9 p (run+c) j).1.run=run+c:=by
   unfold jf;rw[I_ (by rw[o];decide),I_ (by rw[m.1];decide)];split<;>rfl
  rw[this];omega
 |step c e j k g=>
  intro t b
  rcases FW b with b|b
  .exact g t b
  .have f:=g _ (M_ e);rw[b];refine⟨(rF.step (P:=λ_=>True) trivial (λm _=>⟨trivial,λp _ _=>trivial⟩) (TG.top _ _) f.1).2,?_⟩;rw[lj];exact f.2
