import Derived.Test.YtenbhdilndfaeaaGreatM29
set_option maxRecDepth 100000
set_option maxHeartbeats 0
set_option linter.all false
namespace Go.Proofs.YtenbhdilndfaeaaGreat
open Go.RowKit Go.Proofs.Tryz
variable(l:List In)
theorem KL{G:Prop} (h:G:=by
 rintro((a|a)|a)
 .exact .inl (.inl a)
 .exact .inr a
 .exact .inl (.inr a)):G:=h
theorem s8(h:List Ob)(id f:Int)(v:Vl):iG (kO h id f v)=iG h:=by
 unfold iG kO;exact Lk
theorem xW(h:List Ob)(c:Cl):iG (qF h c)=iG h:=by
 unfold qF;split
 .rfl
 .exact s8 _ _ _ _
theorem mI:∀(l:List Cl) (h:List Ob),iG (i7 h l)=iG h
 |[],_=>rfl
 |c::l,h=>(mI l (qF h c)).trans (xW h c)
theorem Au(h:List Ob)(d:Dl):iG (o0 h d)=iG h:=by
 unfold o0;split
 .rfl
 .split
  .exact s8 _ _ _ _
  .rfl
theorem ph:∀(l:List Dl) (h:List Ob),iG (kf h l)=iG h
 |[],_=>rfl
 |d::l,h=>(ph l (o0 h d)).trans (Au h d)
theorem xY{h:List Ob}{id:Int}(hi:¬jz h id<0):∃hk:(jz h id).toNat<h.length,h[(jz h id).toNat].id=id:=by
 rcases nE h id with⟨a,_⟩|⟨k,hk,aJ,aG⟩
 .exact EK a hi
 .have e:(jz h id).toNat=k:=o_;simp only[e];refine⟨hk,?_⟩
  have:=List.find?_some aG
  exact LO
theorem Av(h:List Ob)(o:Ob)(n:Int):n∈iG (lp h o)↔n∈iG h∨n=o.id:=by
 unfold lp;split
 .unfold iG;simp only[EL,Fg,FN,X_,I_]
  have e:n∈h.map (·.id)↔n∈(h.take (mV h o.id)).map (·.id)∨n∈(h.drop (mV h o.id)).map (·.id):=by
   rw[<-X_,<-EL,FW]
  rw[e];constructor
  .exact KL
  .exact KL
 .rename_i hi;obtain⟨hk,he⟩:=xY hi;generalize (jz h o.id).toNat=k at*;unfold iG;simp only[EL,Fg,FN,X_,I_]
  have e:n∈h.map (·.id)↔n∈(h.take k).map (·.id)∨n=h[k].id∨n∈(h.drop (k+1)).map (·.id):=by
   have q:h=h.take k++h[k]::h.drop (k+1):=by rw[<-R_ hk,FW]
   have bI:h.map (·.id)=(h.take k).map (·.id)++h[k].id::(h.drop (k+1)).map (·.id):=by
    have:=ED (List.map (·.id)) q
    rwa [EL,Fg]at this
   rw[bI,X_,L_]
  rw[e,he];constructor
  .rintro((a|a)|a)
   .exact .inl (.inl a)
   .exact .inr a
   .exact .inl (.inr (.inr a))
  .rintro((a|a|a)|a)
   .exact .inl (.inl a)
   .exact .inl (.inr a)
   .exact .inr a
   .exact .inl (.inr a)
theorem vy:∀(l h:List Ob) (n:Int),n∈iG (l.foldl lp h)↔n∈iG h∨n∈iG l
 |[],h,n=>by simp[iG]
 |o::l,h,n=>by
  rw[FY,vy l,Av];unfold iG;rw[Fg,L_];constructor
  .rintro((a|a)|a)
   .exact .inl a
   .exact .inr (.inl a)
   .exact .inr (.inr a)
  .rintro(a|a|a)
   .exact .inl (.inl a)
   .exact .inl (.inr a)
   .exact .inr a
theorem sU(h:List Ob)(t:i3)(n:Int):n∈iG (lG h t)↔n∈iG h∨n∈iG t.nw:=by
 unfold lG;rw[ph,mI];exact vy _ _ _
/-- an identifier that is 0 or names an object of h -/
def C0(h:List Ob)(n:Int):Prop:=n=0∨n∈iG h
/-- the identifiers of a task's own objects: numbered -/
def uX(t:i3):Prop:=iG t.nw=(List.range t.nw.length).map λk:Nat=>(t.run+1)*1048576+(k:Int)
theorem uX.step{c:List In}{hI hF:Int}{d:List Int}{t:i3}{view:List Ob}{P:Int->Prop}(h0:P 0)(hv:HG P view)(ht:TG (λn=>P n∨n∈iG t.nw) t)(hn:uX t):
 TG (λn=>P n∨n∈iG (jb c hI hF d t view).nw) (jb c hI hF d t view)/\uX (jb c hI hF d t view):=by
 have hr:=ms c hI hF d t view
 rcases ht.step (hv.mono λn h=>.inl h) (.inl h0) c hI hF d with⟨h1,h2⟩|⟨h1,h2⟩
 .have h2:iG (jb c hI hF d t view).nw=iG t.nw:=h2
  have hl:(jb c hI hF d t view).nw.length=t.nw.length:=by have:=ED List.length h2;unfold iG at this;simpa using this
  refine⟨h1.mono λn h=>by rw[h2];exact h,?_⟩;unfold uX;rw[h2,hl,hr];exact hn
 .have h2:iG (jb c hI hF d t view).nw=iG t.nw++[uI t]:=h2
  have hl:(jb c hI hF d t view).nw.length=t.nw.length+1:=by have:=ED List.length h2;unfold iG at this;simpa using this
  refine⟨h1.mono λn h=>by rw[h2];rcases h with(h|h)|h;exact .inl h;exact .inr (E4 _ h);exact .inr (Gc _ (I_.2 h)),?_⟩;unfold uX at hn ⊢;rw[h2,hl,hr,List.range_succ,EL,hn]
  rfl
theorem uX.runs{l:List In}{hI hF:Int}{d:List Int}{view:List Ob}{P:Int->Prop}(h0:P 0)(hv:HG P view):∀(n:Nat) (t:i3),TG (λn=>P n∨n∈iG t.nw) t->uX t->
 TG (λm=>P m∨m∈iG (n6 l hI hF d view n t).nw) (n6 l hI hF d view n t)/\uX (n6 l hI hF d view n t)
 |0,_,ht,hn=>⟨ht,hn⟩
 |n+1,t,ht,hn=>by
  unfold n6;split
  .have h:=uX.step (c:=l) (hI:=hI) (hF:=hF) (d:=d) h0 hv ht hn;exact uX.runs h0 hv n _ h.1 h.2
  .exact⟨ht,hn⟩
theorem vm{l:List In}{hI hF:Int}{d:List Int}{view:List Ob}:∀(n:Nat) (t:i3),(n6 l hI hF d view n t).run=t.run
 |0,_=>rfl
 |n+1,t=>by
  unfold n6;split
  .rw[vm n];exact ms _ _ _ _ _ _
  .rfl
theorem uq(hI hF hS run:Int)(ik:Bool):(jo l hI hF hS run ik).1.nw=[]:=by
 unfold jo;split
 .rfl
 split
 .rfl
 split<;>rfl
theorem uX.begin{l:List In}{hI hF hS run:Int}{ik:Bool}:uX (jo l hI hF hS run ik).1:=by
 unfold uX;rw[uq]
 rfl
theorem uX.at{t:i3}(h:uX t){n:Int}(hn:n∈iG t.nw):∃k:Nat,k<t.nw.length/\n=(t.run+1)*1048576+(k:Int):=by
 unfold uX at h;rw[h]at hn;obtain⟨k,hk,e⟩:=EM.1 hn;exact⟨k,Fe.1 hk,e.symm⟩
def xB(run n:Int):Prop:=n=1∨n=2∨∃r j:Int,0<=r/\r<run/\0<=j/\j<1048576/\n=(r+1)*1048576+j
theorem xB.mono{a b n:Int}(h:xB a n)(k:a<=b):xB b n:=by
 rcases h with h|h|⟨r,j,h1,h2,h3⟩
 .exact .inl h
 .exact .inr (.inl h)
 .exact .inr (.inr ⟨r,j,h1,o_,h3⟩)
theorem wh(hI hF:Int)(k2:List Int)(s:pY):(nJ l hI hF k2 s).1.h=[]∨iG (nJ l hI hF k2 s).1.h=iG s.h:=by
 unfold nJ;split
 .exact .inl rfl
 split
 .exact .inl rfl
 rename_i hb;have d:=(tx hb).2.1;have g:(lm l hI hF s.hS jq s.h 0).nw=[]:=(uf (P:=λ_=>True) l hI hF s.hS 0 d trivial (λo _=>⟨trivial,λv _ _=>trivial⟩) (λi _=>trivial)).2;unfold ox;right;split
 .exact xW _ _
 split
 .show iG (kY s.h _)=_
  unfold kY;rw[g,mI]
  rfl
 .show iG (kY s.h _)=_
  unfold kY;rw[g,mI]
  rfl
structure CI(run:Int)(h:List Ob):Prop where
 cl:HG (C0 h) h
 old:∀n∈iG h,xB run n
theorem CI.nil(run:Int):CI run []:=⟨HG.nil,λn hn=>by cases hn⟩
theorem ux.ci{l:List In}{hI hF:Int}{d k2:List Int}{k:Nat}{run:Int}{s:pY}(hv:ic l hI hF=true)(hl:l.length<=2048)(h:ux l hI hF d k2 k run s):0<=run/\CI run s.h:=by
 induction h with
 |hS=>
  refine⟨E9 _,?_,?_⟩
  .show HG (C0 (startHeap hI)) (startHeap hI)
   exact HG.hS hI (.inl rfl) (.inr (by simp[startHeap,iG])) (.inr (by simp[startHeap,iG]))
  .show ∀n∈iG (startHeap hI),xB 0 n
   intro n hn;simp[startHeap,iG]at hn
   rcases hn with h|h
   .exact .inl h
   .exact .inr (.inl h)
 |ask h he h0 Z=>
  rename_i k run s;refine⟨Z.1,?_⟩
  rcases wh l hI hF k2 s with e|e
  .rw[e];exact CI.nil _
  .refine⟨(HG.nJ l hI hF k2 (.inl rfl) Z.2.cl).mono λn hn=>hn.imp id λq=>by rw[e];exact q,λn hn=>Z.2.old n (by rw[<-e];exact hn)⟩
 |commit h he h0 Z=>
  rename_i k run s;refine⟨ov Z.1,?_⟩;obtain⟨h1,h2⟩:=uX.runs (l:=l) (hI:=hI) (hF:=hF) (d:=d) (view:=s.h) (P:=C0 s.h) (.inl rfl) Z.2.cl (todo l (jo l hI hF s.hS run true).1+1) (jo l hI hF s.hS run true).1 (TG.begin _ _ _ _ _ _) uX.begin;have N:(mW l hI hF d s run).run=(jo l hI hF s.hS run true).1.run:=vm _ _;have F:=nI l hI hF s.hS run true;have hf:=(rf (d:=d) hv hl s run).sm.nw;have h1:TG (λm=>C0 s.h m∨m∈iG (mW l hI hF d s run).nw) (mW l hI hF d s run):=h1;have h2:uX (mW l hI hF d s run):=h2;generalize mW l hI hF d s run=t at *
  have B:CI (run+1) (lG s.h t):=by
   refine⟨(h1.lG (Z.2.cl.mono λn h=>.inl h)).mono ?_,?_⟩
   .rintro n((h|h)|h)
    .exact .inl h
    .exact .inr ((sU _ _ _).2 (.inl h))
    .exact .inr ((sU _ _ _).2 (.inr h))
   .intro n hn
    rcases(sU _ _ _).1 hn with h|h
    .exact(Z.2.old n h).mono (o_)
    .obtain⟨j,hj,e⟩:=h2.at h
     have:=Z.1
     exact .inr (.inr ⟨t.run,j,o_,o_,o_,o_,e⟩)
  unfold kI;rw[Q_ (d_)];split
  .exact CI.nil _
  split
  .exact CI.nil _
  show CI (run+1) (lQ s t).h
  unfold lQ;split
  .exact B
  .exact B
end Go.Proofs.YtenbhdilndfaeaaGreat
