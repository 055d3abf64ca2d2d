import Derived.Test.YtenbhdilndfaeaaGreatM12
import Derived.Test.YtenbhdilndfaeaaGreatM34
import Derived.Great.Walk
set_option maxRecDepth 100000
set_option maxHeartbeats 0
set_option linter.all false
namespace Go.Proofs.YtenbhdilndfaeaaGreat
open Go.RowKit Go.Proofs.Tryz
variable{l:List In}{c:Cl}{view:List Ob}{A:Option Addr}{w w':World}{cs cur:Array Value}{base gb:Nat}{ts:List Tk}
theorem Kq{G:Prop} (h:G:=by
 exact z _ rfl rfl rfl rfl rfl rfl):G:=h
section
def HG(P:Int->Prop)(h:List Ob):Prop:=∀o∈h,GO P o
variable{P:Int->Prop}
theorem HG.mono{P Q:Int->Prop}(h:∀n,P n->Q n){l:List Ob}(hl:HG P l):HG Q l:=λo ho=>(hl o ho).mono h
theorem HG.nil:HG P []:=λo ho=>by cases ho
theorem HG.kT{h:List Ob}(aB:HG P h)(id f:Int){v:Vl}(hv:GV P v):HG P (kT h id f v):=by
 intro o ho;unfold Go.Proofs.YtenbhdilndfaeaaGreat.kT at ho;obtain⟨k,hk,e⟩:=FF ho;rw[FW]at hk;rw[Fb]at e;have Y:=aB _ (J_ hk);split at e
 .rw[<-e];refine⟨Y.1,λu hu=>?_⟩
  rcases Ee hu with hu|hu
  .exact Y.2 u hu
  .rw[hu];exact hv
 .rw[<-e];exact Y
theorem HG.put{h:List Ob}(aB:HG P h){o:Ob}(ho:GO P o):HG P (lY h o):=by
 have hp:∀(a b:List Ob),(∀x∈a,GO P x)->(∀x∈b,GO P x)->HG P (a++[o]++b):=by
  intro a b ha hb x I
  rcases T_.1 I with I|I
  .rcases T_.1 I with I|I
   .exact ha x I
   .rw[R_.1 I];exact ho
  .exact hb x I
 unfold lY;split
 .exact hp _ _ (λx I=>aB x (Eu I)) (λx I=>aB x (FC I))
 .exact hp _ _ (λx I=>aB x (Eu I)) (λx I=>aB x (FC I))
theorem HG.puts:∀(l:List Ob) {h:List Ob},HG P h->HG P l->HG P (l.foldl lY h)
 |[],_,aB,_=>aB
 |o::l,_,aB,hl=>HG.puts l (aB.put (hl o E0)) (λx I=>hl x (Eo _ I))
theorem HG.rb{h:List Ob}(aB:HG P h)(hc:GV P c.v):HG P (rb h c):=by
 unfold Go.Proofs.YtenbhdilndfaeaaGreat.rb;split
 .exact aB
 .exact aB.kT _ _ hc
theorem HG.i4:∀(l:List Cl) {h:List Ob},HG P h->(∀c∈l,GV P c.v)->HG P (i4 h l)
 |[],_,aB,_=>aB
 |c::l,_,aB,hl=>HG.i4 l (aB.rb (hl c E0)) (λx I=>hl x (Eo _ I))
theorem HG.p6{h:List Ob}(aB:HG P h)(d:Dl):HG P (p6 h d):=by
 unfold Go.Proofs.YtenbhdilndfaeaaGreat.p6;split
 .exact aB
 .split
  .exact aB.kT _ _ (qW _ _ _)
  .exact aB
theorem HG.kd:∀(l:List Dl) {h:List Ob},HG P h->HG P (kd h l)
 |[],_,aB=>aB
 |d::l,_,aB=>HG.kd l (aB.p6 d)
structure TG(P:Int->Prop)(t:jg):Prop where
 gs:∀c∈t.gs,GV P c.v
 rs:∀c∈t.rs,(P c.id∨c.id=1)/\GV P c.v
 ws:∀c∈t.ws,(P c.id∨c.id=1)/\GV P c.v
 nw:HG P t.nw
 r:∀i,GV P (t.r i)
 v:GV P t.v
theorem TG.mono{P Q:Int->Prop}(h:∀n,P n->Q n){t:jg}(X:TG P t):TG Q t:=
 ⟨λc hc=>(X.gs c hc).mono h,λc hc=>⟨(X.rs c hc).1.imp_left (h _),(X.rs c hc).2.mono h⟩,λc hc=>⟨(X.ws c hc).1.imp_left (h _),(X.ws c hc).2.mono h⟩,X.nw.mono h,λi=>(X.r i).mono h,X.v.mono h⟩
theorem HG.vG{rs:List Cl}:∀(l:List Cl) {h:List Ob},HG P h->(∀c∈l,GV P c.v)->HG P (l.foldl (ks rs) h)
 |[],_,aB,_=>aB
 |c::l,h,aB,hl=>by
  refine HG.vG l ?_ (λx I=>hl x (Eo _ I));unfold ks;split
  .exact HG.i4 [c] aB (λx I=>by rw[R_.1 I];exact hl c E0)
  .exact aB
theorem TG.before{t:jg}(X:TG P t)(hv:HG P view):HG P (before t view):=
 HG.i4 _ (HG.vG _ hv X.gs) (λc hc=>(X.rs c hc).2)
theorem TG.jk{t:jg}(X:TG P t)(hv:HG P view):HG P (jk t view):=
 HG.kd _ (HG.i4 _ (HG.puts _ (X.before hv) X.nw) (λc hc=>(X.ws c hc).2))
theorem TG.mL{t:jg}(X:TG P t){h:List Ob}(aB:HG P h):HG P (mL h t):=
 HG.kd _ (HG.i4 _ (HG.puts _ aB X.nw) (λc hc=>(X.ws c hc).2))
theorem sT{l:List Cl}{x:Cl}(I:x∈kk l c):x∈l∨x=c:=by
 unfold kk at I;split at I
 .exact Ee I
 .rcases T_.1 I with I|I
  .exact .inl (Eu I)
  .rcases T_.1 I with I|I
   .exact .inr (R_.1 I)
   .exact .inl (FC I)
theorem TG.ki{t:jg}(X:TG P t)(hi:P c.id∨c.id=1)(hc:GV P c.v):TG P (ki t c):=by
 unfold Go.Proofs.YtenbhdilndfaeaaGreat.ki;split
 .refine{X with ws:=λx I=>?_}
  rcases sT I with I|I
  .exact X.ws x I
  .rw[I];exact⟨hi,hc⟩
 .refine{X with nw:=λo ho=>?_};obtain⟨k,hk,e⟩:=FF ho;rw[FW]at hk;rw[Fb]at e;have Y:=X.nw _ (J_ hk);split at e
  .rw[<-e];refine⟨Y.1,λu hu=>?_⟩;unfold ve at hu;dsimp only at hu;split at hu
   .rcases Ee hu with hu|hu
    .exact Y.2 u hu
    .rw[hu];exact hc
   .exact Y.2 u hu
  .rw[<-e];exact Y
theorem so(t:jg)(c:Cl):(ki t c).nw.map Ob.id=t.nw.map Ob.id:=by
 unfold ki;split
 .rfl
 .apply FD
  .simp
  .intro i h1 h2;simp only[E7,Fb];split<;>rfl
theorem TG.jV{t t':jg}(X:TG P t)(hv:HG P view){id f:Int}(hi:P id∨id=1)(hs:jV t view id f=some t'):TG P t'/\t'.nw.map Ob.id=t.nw.map Ob.id:=by
 unfold Go.Proofs.YtenbhdilndfaeaaGreat.jV at hs;split at hs
 .injection hs with hs;subst hs;exact⟨X,rfl⟩
 split at hs
 .cases hs
 .rename_i b hb;have a:=sX (X.before hv) hb;split at hs
  .cases hs
  .injection hs with hs;subst hs
   have I:TG P {t with rs:=kk t.rs ⟨id,f,b⟩,ds:=t.ds.eraseIdx (oT t.ds id f).toNat}:=by
    refine{X with rs:=λx I=>?_}
    rcases sT I with I|I
    .exact X.rs x I
    .rw[I];exact⟨hi,a⟩
   refine⟨I.ki hi ?_,so _ _⟩
   show GV P ((ji (Go.Proofs.YtenbhdilndfaeaaGreat.jk t view) id f).getD default)
   cases aq:ji (Go.Proofs.YtenbhdilndfaeaaGreat.jk t view) id f with
   |none=>exact GV.default
   |some q=>exact sX (X.jk hv) aq
theorem TG.take{t t':jg}(X:TG P t){d:Dl}(hs:take t d=some t'):TG P t'/\t'.nw=t.nw:=by
 unfold Go.Proofs.YtenbhdilndfaeaaGreat.take at hs;split at hs
 .cases hs
 split at hs
 .injection hs with hs;subst hs;exact⟨{X with},rfl⟩
 split at hs
 .cases hs
 .injection hs with hs;subst hs;exact⟨{X with},rfl⟩
theorem TG.jK:∀(l:List Dl) {t:jg} (rs ws:List Cl),TG P t->TG P (jK t rs ws l).1/\(jK t rs ws l).1.nw=t.nw/\(∀c∈(jK t rs ws l).2.1,c∈rs)/\(∀c∈(jK t rs ws l).2.2,c∈ws)
 |[],_,_,_,X=>⟨X,rfl,λ_ h=>h,λ_ h=>h⟩
 |d::l,t,rs,ws,X=>by
  unfold Go.Proofs.YtenbhdilndfaeaaGreat.jK
  cases hk:Go.Proofs.YtenbhdilndfaeaaGreat.take t d with
  |none=>exact TG.jK l rs ws X
  |some t'=>
   obtain⟨a,b⟩:=X.take hk;obtain⟨c1,an,aN,c4⟩:=TG.jK l (jv rs d) (jv ws d) a;exact⟨c1,an.trans b,λc hc=>(EO.1 (aN c hc)).1,λc hc=>(EO.1 (c4 c hc)).1⟩
theorem TG.kg{view:List Ob}(hv:HG P view):∀(l:List Cl) {t t':jg},TG P t->(∀c∈l,(P c.id∨c.id=1)/\GV P c.v)->kg view t l=some t'->TG P t'/\t'.nw.map Ob.id=t.nw.map Ob.id
 |[],t,t',X,_,hs=>by injection hs with hs;subst hs;exact⟨X,rfl⟩
 |c::l,t,t',X,hl,hs=>by
  unfold Go.Proofs.YtenbhdilndfaeaaGreat.kg at hs
  cases hr:q5 view t c with
  |none=>rw[hr]at hs;cases hs
  |some t1=>
   rw[hr]at hs;have hc:=hl c E0
   have h1:TG P t1/\t1.nw.map Ob.id=t.nw.map Ob.id:=by
    unfold q5 at hr;split at hr
    .injection hr with hr;subst hr;exact⟨X,rfl⟩
    split at hr
    .exact X.jV hv hc.1 hr
    .injection hr with hr;subst hr;refine⟨{X with rs:=λx I=>?_},rfl⟩
     rcases sT I with I|I
     .exact X.rs x I
     .rw[I];exact hc
   obtain⟨a,b⟩:=TG.kg hv l h1.1 (λx I=>hl x (Eo _ I)) hs;exact⟨a,b.trans h1.2⟩
theorem TG.kP{view:List Ob}(hv:HG P view):∀(l:List Cl) {t t':jg},TG P t->(∀c∈l,(P c.id∨c.id=1)/\GV P c.v)->kP view t l=some t'->TG P t'/\t'.nw.map Ob.id=t.nw.map Ob.id
 |[],t,t',X,_,hs=>by injection hs with hs;subst hs;exact⟨X,rfl⟩
 |c::l,t,t',X,hl,hs=>by
  unfold Go.Proofs.YtenbhdilndfaeaaGreat.kP at hs
  cases hr:tw view t c with
  |none=>rw[hr]at hs;cases hs
  |some t1=>
   rw[hr]at hs;have hc:=hl c E0
   have h1:TG P t1/\t1.nw.map Ob.id=t.nw.map Ob.id:=by
    unfold tw at hr
    cases aq:Go.Proofs.YtenbhdilndfaeaaGreat.jV t view c.id c.f with
    |none=>rw[aq]at hr;cases hr
    |some ak=>
     rw[aq]at hr;injection hr with hr;subst hr;obtain⟨a,b⟩:=X.jV hv hc.1 aq;exact⟨a.ki hc.1 hc.2,(so _ _).trans b⟩
   obtain⟨a,b⟩:=TG.kP hv l h1.1 (λx I=>hl x (Eo _ I)) hs;exact⟨a,b.trans h1.2⟩
theorem TG.record{t t':jg}(X:TG P t)(hv:HG P view){e:pQ}(he:EF P e)(hs:record t view e=some t'):TG P t'/\t'.nw.map Ob.id=t.nw.map Ob.id++e.nw.map Ob.id:=by
 unfold Go.Proofs.YtenbhdilndfaeaaGreat.record at hs;dsimp only at hs;obtain⟨a1,f,a3,a4⟩:=TG.jK e.ds e.rs e.ws X;generalize Go.Proofs.YtenbhdilndfaeaaGreat.jK t e.rs e.ws e.ds=a at*
 cases h1:Go.Proofs.YtenbhdilndfaeaaGreat.kg view a.1 a.2.1 with
 |none=>rw[h1]at hs;cases hs
 |some t1=>
  rw[h1]at hs;dsimp only at hs;obtain⟨b1,b2⟩:=TG.kg hv _ a1 (λc hc=>he.rs c (a3 c hc)) h1;have I:TG P {t1 with nw:=t1.nw++e.nw}:={b1 with nw:=λo ho=>(T_.1 ho).elim (b1.nw o) (he.nw o)}
  cases h2:Go.Proofs.YtenbhdilndfaeaaGreat.kP view {t1 with nw:=t1.nw++e.nw} a.2.2 with
  |none=>rw[h2]at hs;cases hs
  |some ak=>
   rw[h2]at hs;injection hs with hs;subst hs;obtain⟨c1,an⟩:=TG.kP hv _ I (λc hc=>he.ws c (a4 c hc)) h2;refine⟨{c1 with},?_⟩
   show ak.nw.map Ob.id=_
   rw[an]
   show(t1.nw++e.nw).map Ob.id=_
   rw[Ed,b2,f]
def vf(t:jg):Int:=(t.run+1)*1048576+t.nw.length
theorem TG.step{t:jg}(X:TG P t)(hv:HG P view)(h0:P 0)(c:List In)(hq g9:Int)(d:List Int):
 (TG P (jh c hq g9 d t view)/\(jh c hq g9 d t view).nw.map Ob.id=t.nw.map Ob.id)∨
 (TG (λn=>P n∨n=vf t) (jh c hq g9 d t view)/\(jh c hq g9 d t view).nw.map Ob.id=t.nw.map Ob.id++[vf t]):=by
 have hn:=AZ c hq g9 t.pc (vf t) h0 (X.jk hv) X.r;have hb:TG P (mV t):={X with};unfold jh;dsimp only;rw[show(t.run+1)*1048576+(t.nw.length:Int)=vf t from rfl];generalize lE c hq g9 t.pc t.r (Go.Proofs.YtenbhdilndfaeaaGreat.jk t view) (vf t)=e at*;split
 .exact .inl ⟨hb,rfl⟩
 split
 .exact .inl ⟨{X with},rfl⟩
 cases hr:Go.Proofs.YtenbhdilndfaeaaGreat.record t view e with
 |none=>exact .inl ⟨hb,rfl⟩
 |some x=>
  dsimp only
  have fin:∀{Q:Int->Prop} {l:List Int},EF Q e->TG Q x/\x.nw.map Ob.id=l->TG Q (if e.hT=2 then{x with pc:=e.pc,r:=e.r,hw:=x.hw+1,hV:=3,hO:=e.hO,v:=e.v}
   else if e.hT=1/\(iN (λz=>z==e.kl) d=true∨64<=x.hw+1∨jm c hq g9 e.pc=true) then{x with pc:=e.pc,r:=e.r,hw:=x.hw+1,hV:=2,next:=e.pc}
   else{x with pc:=e.pc,r:=e.r,hw:=x.hw+1})/\(if e.hT=2 then{x with pc:=e.pc,r:=e.r,hw:=x.hw+1,hV:=3,hO:=e.hO,v:=e.v}
   else if e.hT=1/\(iN (λz=>z==e.kl) d=true∨64<=x.hw+1∨jm c hq g9 e.pc=true) then{x with pc:=e.pc,r:=e.r,hw:=x.hw+1,hV:=2,next:=e.pc}
   else{x with pc:=e.pc,r:=e.r,hw:=x.hw+1}:jg).nw.map Ob.id=l:=by
   intro Q l he⟨h1,h2⟩;split
   .exact⟨{h1 with r:=he.r,v:=he.v},h2⟩
   split
   .exact⟨{h1 with r:=he.r},h2⟩
   .exact⟨{h1 with r:=he.r},h2⟩
  rcases hn with⟨he,a⟩|⟨he,fs,a⟩
  .have h:=X.record hv he hr;rw[a]at h;exact .inl (fin he (by simpa using h))
  .have h:=(X.mono (Q:=λn=>P n∨n=vf t) (λn h=>.inl h)).record (hv.mono (λn h=>.inl h)) he hr;rw[a]at h;exact .inr (fin he (by simpa using h))
end
theorem wf64_0:j9 0:=WalkArith.wf_i64 o_
theorem wf64_1:j9 1:=WalkArith.wf_i64 o_
theorem wf64_2:j9 2:=WalkArith.wf_i64 o_
theorem A2{t:jg}(h0:0<=t.run)(h1:t.run<=1099511627776)(h2:t.nw.length<=500000):j9 (vf t):=by
 unfold vf;exact WalkArith.wf_i64 o_
theorem TG.y7{t:jg}(X:TG j9 t)(hv:HG j9 view)(c:List In)(hq g9:Int)(d:List Int)(h0:0<=t.run)(h1:t.run<=1099511627776)(h2:t.nw.length<=500000):TG j9 (jh c hq g9 d t view):=by
 rcases X.step hv wf64_0 c hq g9 d with h|h
 .exact h.1
 .exact h.1.mono λn hn=>hn.elim id (λe=>e▸A2 h0 h1 h2)
theorem TG.zm{l:List In}{hq g9:Int}{d:List Int}{view:List Ob}(hv:hZ l hq g9=true)(hl:l.length<=2048)(aB:HG j9 view):∀(n:Nat) (t:jg),(t.hV=0->Way l t)->TF t->TG j9 t->0<=t.run->t.run<=1099511627776->TG j9 (pW l hq g9 d view n t)
 |0,_,_,_,X,_,_=>X
 |n+1,t,aK,hf,X,h0,h1=>by
  unfold pW;split
  .rename_i hs;obtain⟨b1,b2⟩:=qk (d:=d) (view:=view) hv hl (aK hs) hf hs;have hr:=mZ l hq g9 d t view;exact TG.zm hv hl aB n _ b2 b1 (X.y7 aB l hq g9 d h0 h1 hf.sm.nw) (by rw[hr];exact h0) (by rw[hr];exact h1)
  .exact X
theorem TG.begin{P:Int->Prop}(l:List In)(hq g9 hG run:Int)(ia:Bool):TG P (jJ l hq g9 hG run ia).1:=by
 have z:∀t:jg,t.gs=[]->t.rs=[]->t.ws=[]->t.nw=[]->t.r=jb->t.v=default->TG P t:=λt a b c d e f=>
  ⟨λx I=>(by rw[a]at I;cases I),λx I=>(by rw[b]at I;cases I),λx I=>(by rw[c]at I;cases I),λx I=>(by rw[d]at I;cases I),λi=>by rw[e];exact GV.default,by rw[f];exact GV.default⟩
 unfold jJ;split
 .exact Kq
 split
 .exact Kq
 split
 .exact Kq
 .exact Kq
theorem nC(l:List In)(hq g9 hG run:Int)(ia:Bool):(jJ l hq g9 hG run ia).1.run=run∨(jJ l hq g9 hG run ia).1.run=0:=by
 unfold jJ;split
 .exact .inr rfl
 split
 .exact .inr rfl
 split
 .exact .inl rfl
 .exact .inl rfl
theorem s5{hq g9:Int}{d:List Int}(hv:hZ l hq g9=true)(hl:l.length<=2048){s:qR}{run:Int}(aB:HG j9 s.h)(h0:0<=run)(h1:run<=1099511627776):TG j9 (p9 l hq g9 d s run):=by
 have hb:=nC l hq g9 s.hG run true;exact TG.zm hv hl aB _ _ (λ_=>nB) (pH hl) (TG.begin _ _ _ _ _ _) o_ o_
theorem HG.hG{P:Int->Prop}(hq:Int)(h0:P 0)(h1:P 1)(h2:P 2):HG P (startHeap hq):=by
 have z:∀(n:Int) (k:Nat),P n->∀v∈(⟨true,n⟩::List.replicate k default:List Vl),GV P v:=by
  intro n k hn v hv
  rcases M_.1 hv with e|hv
  .rw[e]
   exact λ_=>hn
  .rw[(Gb.1 hv).2];exact GV.default
 intro o ho;unfold startHeap at ho
 rcases M_.1 ho with e|ho
 .rw[e];exact⟨h1,z _ _ h2⟩
 .rw[R_.1 ho];exact⟨h2,z _ _ h0⟩
theorem HG.lI{P:Int->Prop}{h:List Ob}{e:pQ}(aB:HG P h)(he:EF P e):HG P (lI h e):=
 HG.i4 _ (HG.puts _ aB he.nw) (λc hc=>(he.ws c hc).2)
theorem HG.mj{P:Int->Prop}(l:List In){h:List Ob}(pc a:Int)(aB:HG P h):HG P (mj l h pc a):=aB.rb (GV.num _)
theorem wW{hq g9:Int}{s:qR}{e:pQ}(h:¬lZ l hq g9 s e=true):s.jt=false/\ij l s.hG=20/\e.hT≠4:=by
 unfold lZ at h
 have h:¬(s.jt=true∨jm l hq g9 s.hG=false∨e.hT=4):=by simpa using h
 refine⟨by cases hs:s.jt with|false=>rfl|true=>exact D6 (.inl hs) h,?_,λx=>h (.inr (.inr x))⟩
 cases ha:jm l hq g9 s.hG with
 |false=>exact D6 (.inr (.inl ha)) h
 |true=>
  unfold jm at ha;rw[Ec]at ha
  simpa using ha.2
theorem HG.oN{P:Int->Prop}(l:List In)(hq g9:Int)(lr:List Int){s:qR}(h0:P 0)(aB:HG P s.h):HG P (oN l hq g9 lr s).1.h:=by
 unfold Go.Proofs.YtenbhdilndfaeaaGreat.oN;split
 .exact HG.nil
 split
 .exact HG.nil
 .rename_i hb;obtain⟨_,d,_⟩:=wW hb;obtain⟨he,a⟩:=ye l hq g9 s.hG 0 d h0 aB (λ_=>GV.default:∀i,GV P (jb i));unfold oU;split
  .exact aB.mj _ _ _
  split
  .exact aB.lI he
  .exact aB.lI he
theorem HG.kW{P:Int->Prop}{s:qR}{t:jg}(aB:HG P s.h)(X:TG P t)(ok:Bool):HG P (kW ok s t).1.h:=by
 unfold Go.Proofs.YtenbhdilndfaeaaGreat.kW;split
 .exact HG.nil
 split
 .exact HG.nil
 split
 .exact HG.nil
 .unfold nD;split
  .exact X.mL aB
  .exact X.mL aB
theorem vT.Dc{hq g9:Int}{d lr:List Int}{k:Nat}{run:Int}{s:qR}(hv:hZ l hq g9=true)(h:vT l hq g9 d lr k run s)(hk:k<=1000000):HG j9 s.h:=by
 have hb:=kO hv
 induction h with
 |hG=>exact HG.hG _ wf64_0 wf64_1 wf64_2
 |ask _ _ _ ad=>exact HG.oN _ _ _ _ wf64_0 (ad o_)
 |commit h _ _ ad=>
  have hr:=h.cb hv;exact HG.kW (ad o_) (s5 hv hb.2.1 (ad o_) hr.2.1 o_) true
theorem HG.mP{P:Int->Prop}{h:List Ob}{ts:List jg}(aB:HG P h)(X:∀t∈ts,TG P t)(k:Int):HG P (mP h ts k):=by
 unfold Go.Proofs.YtenbhdilndfaeaaGreat.mP
 have X:∀t∈ts.take k.toNat,TG P t:=λt h=>X t (Eu h)
 generalize ts.take k.toNat=l at*
 induction l generalizing h with
 |nil=>exact aB
 |cons t l ad=>exact ad ((X t E0).mL aB) (λx I=>X x (Eo _ I))
theorem vR.Dc{hq g9:Int}{d:List Int}{h:List Ob}{run:Int}{n:Nat}{ts:List jg}(hv:hZ l hq g9=true)(hl:l.length<=2048)(V:vR l hq g9 d h run n ts)(aB:HG j9 h)(h0:0<=run)(h1:run<=1000000000):∀t∈ts,TG j9 t/\0<=t.run/\t.run<=1000000016:=by
 induction V with
 |hG ts iv hb=>
  intro t X;obtain⟨k,hk,rfl⟩:=FF X;obtain⟨x,ia,_,e⟩:=hb k hk;have hr:=nC l hq g9 x (run+k) ia;rw[e];exact⟨TG.begin _ _ _ _ _ _,by omega,by omega⟩
 |step k hk h1' h2 ad=>
  intro t X
  rcases Ee X with X|rfl
  .exact ad t X
  .obtain⟨a,b,c⟩:=ad _ (J_ hk);have hf:=(h1'.tf hv hl _ (J_ hk)).1;rw[mZ];exact⟨a.y7 (aB.mP (λt X=>(ad t X).1) _) l hq g9 d b o_ hf.sm.nw,b,c⟩
section
structure PX(P:Int->Prop)(R:Int):Prop where
 r:0<=R
 z:P 0
 o:P 1
 t:P 2
 nx:∀(run:Int) (k:Nat),0<=run->run<=R->k<=500000->P ((run+1)*1048576+k)
variable{P:Int->Prop}{R:Int}
theorem TG.Bt(I:PX P R){t:jg}(X:TG P t)(hv:HG P view)(c:List In)(hq g9:Int)(d:List Int)(h0:0<=t.run)(h1:t.run<=R)(h2:t.nw.length<=500000):TG P (jh c hq g9 d t view):=by
 rcases X.step hv I.z c hq g9 d with h|h
 .exact h.1
 .exact h.1.mono λn hn=>hn.elim id (λe=>e▸I.nx _ _ h0 h1 h2)
theorem TG.Cz(I:PX P R){l:List In}{hq g9:Int}{d:List Int}{view:List Ob}(hv:hZ l hq g9=true)(hl:l.length<=2048)(aB:HG P view):∀(n:Nat) (t:jg),(t.hV=0->Way l t)->TF t->TG P t->0<=t.run->t.run<=R->TG P (pW l hq g9 d view n t)
 |0,_,_,_,X,_,_=>X
 |n+1,t,aK,hf,X,h0,h1=>by
  unfold pW;split
  .rename_i hs;obtain⟨b1,b2⟩:=qk (d:=d) (view:=view) hv hl (aK hs) hf hs;have hr:=mZ l hq g9 d t view;exact TG.Cz I hv hl aB n _ b2 b1 (X.Bt I aB l hq g9 d h0 h1 hf.sm.nw) (by rw[hr];exact h0) (by rw[hr];exact h1)
  .exact X
theorem yy(I:PX P R){hq g9:Int}{d:List Int}(hv:hZ l hq g9=true)(hl:l.length<=2048){s:qR}{run:Int}(aB:HG P s.h)(h0:0<=run)(h1:run<=R):TG P (p9 l hq g9 d s run):=by
 have hb:=nC l hq g9 s.hG run true;exact TG.Cz I hv hl aB _ _ (λ_=>nB) (pH hl) (TG.begin _ _ _ _ _ _) o_ (by have:=I.r;omega)
theorem vT.gX(I:PX P R){hq g9:Int}{d lr:List Int}{k:Nat}{run:Int}{s:qR}(hv:hZ l hq g9=true)(h:vT l hq g9 d lr k run s)(hk:(k:Int)<=R):HG P s.h:=by
 have hb:=kO hv
 induction h with
 |hG=>exact HG.hG _ I.z I.o I.t
 |ask _ _ _ ad=>exact HG.oN _ _ _ _ I.z (ad o_)
 |commit h _ _ ad=>
  have hr:=h.cb hv;exact HG.kW (ad o_) (yy I hv hb.2.1 (ad o_) hr.2.1 o_) true
theorem vR.gX(I:PX P R){hq g9:Int}{d:List Int}{h:List Ob}{run:Int}{n:Nat}{ts:List jg}(hv:hZ l hq g9=true)(hl:l.length<=2048)(V:vR l hq g9 d h run n ts)(aB:HG P h)(h0:0<=run)(h1:run+16<=R):∀t∈ts,TG P t/\0<=t.run/\t.run<=run+16:=by
 induction V with
 |hG ts iv hb=>
  intro t X;obtain⟨k,hk,rfl⟩:=FF X;obtain⟨x,ia,_,e⟩:=hb k hk;have hr:=nC l hq g9 x (run+k) ia;rw[e];have iv:=iv;exact⟨TG.begin _ _ _ _ _ _,by omega,by omega⟩
 |step k hk h1' h2 ad=>
  intro t X
  rcases Ee X with X|rfl
  .exact ad t X
  .obtain⟨a,b,c⟩:=ad _ (J_ hk);have hf:=(h1'.tf hv hl _ (J_ hk)).1;rw[mZ];exact⟨a.Bt I (aB.mP (λt X=>(ad t X).1) _) l hq g9 d b o_ hf.sm.nw,b,c⟩
def Sm(n:Int):Prop:=0<=n/\n<=40000000
theorem CF:PX Sm 32:=⟨by decide,⟨by decide,by decide⟩,⟨by decide,by decide⟩,⟨by decide,by decide⟩,λrun k h0 h1 hk=>⟨by omega,by omega⟩⟩
theorem vS.xj{l:List Int}(h:∀x∈l,Sm x):vS l:=λxs hn hs=>by
 have h1:=qy xs (l:=(List.range 40000001).map Int.ofNat) hn λx I=>by
  obtain⟨h0,h1⟩:=h x (hs x I);refine D2.2 ⟨x.toNat,Ep.2 o_,?_⟩
  show(x.toNat:Int)=x
  omega
 rw[Et,Fk]at h1;omega
theorem HG.refs{h:List Ob}(aB:HG P h):∀x∈iP h,P x:=λx I=>by
 obtain⟨o,ho,I⟩:=E2.1 I;obtain⟨v,hv,rfl⟩:=D2.1 I;obtain⟨hv,hr⟩:=EO.1 hv;unfold isRef at hr;rw[Ec]at hr;exact(aB o ho).2 v hv hr.1
theorem HG.ids{h:List Ob}(aB:HG P h):∀o∈h,P o.id:=λo ho=>(aB o ho).1
end
def Aq(B g:Nat)(P:List Int)(w:World)(e:Ending)(w':World):Prop:=∃(A:Option Addr) (d:Nat) (Q:List Int),e=.returned (.agg #[.slice A Q.length d])/\Ns w' 3 A Q/\Q.length<=d/\Q.Sublist P/\iE w' B g/\Gr [g] w w'
theorem wM(l:List In)(hq g9:Int):(ku l hq g9).length<=2049:=by
 unfold ku;split
 .rename_i h
  have:=kO h
  simp;omega
 .simp
theorem ux(B g:Nat)(A:Option Addr)(c:Nat)(l:List In)(hq g9:Int)(w:World)(h:Is w A l)(hn:l.length<=1000000000)(hd:iE w B g)(hB:B<=w.heap.size):
 Calls prog 46 #[.pointer (some ⟨g,0,none⟩),.agg #[.slice A l.length c,i_ hq,i_ g9]] w (Aq B g (ku l hq g9) w):=by
 obtain⟨bz,bw,br,bi,bf⟩:=info_parts infoInt;have a8:=hd.vl;have bW:=wM l hq g9;obtain⟨D,hR,J⟩:=pG w 26 #[.slice A l.length c,i_ hq,i_ g9] 32 #[n_];obtain⟨i,a⟩:=nm_ (Aq B g (ku l hq g9) w);rw[<-a];have aD:=h_ a;clear a
 go_enter func46,ntmps46
 go_upto_region 1 with fail
 obtain⟨W,aM⟩:=nm_ ((w.alloc (.cells #[.slice A l.length c,i_ hq,i_ g9] 26)).alloc (.cells #[n_] 32));rw[<-aM]at D hR J |-;clear aM;obtain⟨aH,h3⟩:=nm_ w.heap.size;obtain⟨Q,aw⟩:=nm_ (w.heap.size+1);rw[<-h3]at D;rw[<-aw]at hR;rw[<-h3]
 have aK:aH+1=Q:=by omega
 rw[aK]
 have aW:w.heap.size<=aH:=by omega
 clear h3 aw;have z0:=D.f_ 0;have aS:=D.f_ 1;have aX:=D.f_ 2;have N:=Is.g_ h J;replace hd:=hd.g_ J;have dM:=hR.lt
 go_upto_region 2 with(go_at_call 90;refine(yw A c l hq g9 W N hn).mono ?_;rintro e w2⟨AP,d,rfl,hP,az,ad⟩)
 obtain⟨f,aI⟩:=De w2 32 #[.slice AP (ku l hq g9).length d];obtain⟨aJ,ax⟩:=nm_ w2.heap.size
 have aR:Q<aJ:=by have:=ad.size;omega
 replace hR:=(hR.g_ ad).g_ aI;replace hd:=(hd.g_ ad).g_ aI;replace hP:=hP.g_ aI;replace J:=(J.trans ad).trans aI;obtain⟨P,au⟩:=nm_ (ku l hq g9);rw[<-au]at hP az f hR hd J bW |-;have ay:=h_ au;obtain⟨ai,O⟩:=nm_ (w2.alloc (.cells #[.slice AP P.length d] 32));rw[<-O]at hP f hR hd J |-;rw[<-ax]at f |-;clear O ax aI au z0 aS aX N D ad;obtain⟨n,hn0⟩:=nm_ P.length;have a2:=h_ hn0;rw[<-hn0]at az f bW |-;clear hn0
 go_wp2_with fail
 go_at_call 19
 refine(h8 B g 3 _ hd o_ o_).mono ?_;rintro e T⟨r,rfl,bu,bD,ce,af⟩;replace hR:=hR.gr af p_;replace f:=f.gr af p_;obtain⟨da,t⟩:=hd.bk;replace hP:=Sl.ig hP t d_ af;have bv:=(J.mono s_).trans af;have eB:=f.lt;clear hd t J af
 by_cases hr:r=0
 .have dX:(r==0)=true:=by simp[hr]
  clear hr;have aU:=f.f_ 0;have bB:=hR.hm 0;have bV:=hR.f_ 0;go_wp2;have bO:=hR.hJ 0 (.slice AP n d);have H:=(D_ [Q] T).setCell (p:=⟨Q,0,none⟩) (.inl s_) (.slice AP n d);refine D8 (EV rfl _ _ _ _ _ _ _ rfl bO underlying32 rfl k_) rfl ?_;rw[aD.out];refine⟨AP,d,P,by rw[a2.out];rfl,?_,by rw[<-a2.out];exact az,by rw[ay.out];exact List.Sublist.refl _,ce.h7 H p_,bv.hx H p_⟩;exact Sl.ig hP hR d_ H
 .have dX:(r==0)=false:=by simp[hr]
  clear hr;have aU:=f.f_ 0
  go_upto_region 5 with fail
  obtain⟨K,aI⟩:=De T 32 #[n_];obtain⟨X,aY⟩:=nm_ T.heap.size
  have ak:aJ<X:=by omega
  replace hR:=hR.g_ aI;replace f:=f.g_ aI;replace ce:=ce.g_ aI;replace hP:=hP.g_ aI;replace bv:=bv.trans (aI.mono s_);obtain⟨ae,b9⟩:=nm_ (T.alloc (.cells #[n_] 32));rw[<-b9,<-aY]at K;rw[<-b9]at hP f hR ce bv |-;rw[<-aY];clear b9 aY aI aU;have aU:=f.f_ 0
  go_upto_region 6 with fail
  clear aU;obtain⟨E,cn⟩:=nm_ ae.heap.size
  have aT:X<E:=by rw[cn];exact K.lt
  have aP:w.heap.size<=E:=by omega
  have aN:E<=ae.heap.size:=by omega
  have aL:∀x off,AP=some ⟨x,off,none⟩->0<P.length->x<E:=λx off U hn=>by
   have h1:=hP;rw[U]at h1;rw[cn];exact h1.lt hn
  clear cn
  go_loopw [18] (λar w'=>∃(k:Nat) (F:Option Addr) (fc:Nat) (vs:List Int),k<=n/\ar=i_ k/\vs.Sublist (P.take k)/\Bk w' Q 32 #[n_]/\Bk w' X 32 #[.slice F vs.length fc]/\w'.ownsRow E 3 1 (.slice F vs.length fc) vs.length (vs.map (Value.int .i64))/\Ns w' 3 AP P/\iE w' B g/\Gr [g] w w'/\E<=w'.heap.size/\vs.length<=k) (λar _=>n-(intOf ar).toNat)
  case atStart=>exact⟨0,none,0,[],N_ _,by go_num,by simp,hR,K,iJ _ _ _ _,hP,ce,bv,aN,G_ _⟩
  case round=>
   obtain⟨k,F,fc,vs,hk,rfl,L,S,Y,ao,an,Z,am,v,cg⟩:=hrel;obtain⟨j,hj⟩:=nm_ vs.length;have y:=h_ hj;rw[<-hj]at Y ao cg;clear hj hR K hP ce bv
   by_cases aj:k<n
   .obtain⟨b,off,U,hc⟩:=an.at_ (k:=k) (by have:=a2.out;omega);subst U
    have aO:k<P.length:=by have:=a2.out;omega
    have ah:=hc
    go_wp2_with fail
    go_at_call 19
    refine(h8 B g 2 _ Z o_ o_).mono ?_;rintro e aF⟨q,rfl,hq0,hq1,bM,aC⟩;obtain⟨da,t⟩:=Z.bk;have M:=S.gr aC p_;have K:=Y.gr aC p_;have cj:=j1 ao t d_ aC;have df:Ns aF 3 (some ⟨b,off,none⟩) P:=Sl.ig an t d_ aC;have db:=am.trans aC;have aE:=F_ v aC.size
    have bN:P.take (k+1)=P.take k++[P[k]]:=by rw[O_ aO]
    have bL:=h_ bN;have ap:=h_ L;clear bN L ah hc S Y ao an Z am v t aC
    by_cases aq:q=0
    .have dn:(q==0)=true:=by simp[aq]
     clear aq;obtain⟨z,aB⟩:=nm_ (P[k]);rw[<-aB]at bL |-;clear aB;have aU:=K.f_ 0;have G:=K.alloc (.cells #[i_ z] 3);have C:=iu cj ((D_ [] aF).alloc (.cells #[i_ z] 3));have V:Sl (aF.alloc (.cells #[i_ z] 3)) 3 1 (some ⟨aF.heap.size,0,none⟩) 1 [i_ z]:=i5 (n:=1) (s:=1) (L_ aF 3 #[i_ z]) rfl
     go_wp2_with (at_builtin;refine jU rfl _ _ _ rfl E 3 bz _ 1 8 underlying30 bw br bi bf rfl d_ d_ F j fc (vs.map (Value.int .i64)) rfl C _ 1 1 [i_ z] rfl V (by intro u hu;simp at hu;subst hu;rfl) o_ p_ ?_;intro R bZ aG b7 bE bF;have m:=App.iM C bE;have aV:=m.bk G d_;have bn:=aV.f_ 0;have bH:=aV.hm 0)
     go_roundw
     case rel=>
      have H:=(D_ [X] aG).setCell (p:=⟨X,0,none⟩) (.inl s_) (.slice R (j+1) bZ);have ag:=y.out;have aQ:=m.bk (M.alloc (.cells #[i_ z] 3)) d_;refine⟨k+1,R,bZ,vs++[z],by omega,by go_num,by rw[bL.out];exact ap.out.append (List.Sublist.refl _),aQ.gr H p_,?_,?_,?_,?_,?_,?_,by simp;omega⟩
      .have:=aV.hJ 0 (.slice R (j+1) bZ)
       have hl:(vs++[z]).length=j+1:=by rw[H_,<-ag];rfl
       rw[hl];exact this
      .have:=j1 b7 aV d_ H
       have hl:(vs++[z]).length=j+1:=by rw[H_,<-ag];rfl
       rw[hl,Ed];exact this
      .have av:Sl (aF.alloc (.cells #[i_ z] 3)) 3 1 (some ⟨b,off,none⟩) P.length (P.map (Value.int .i64)):=Sl.alloc df _;refine Sl.ig (av.rD λhn x o U I=>bE.block x I (λhe=>?_)) aV d_ H;have h1:=(kj C (he.symm)).1;have h2:=aL x o U hn;omega
      .exact((bM.g_ ((D_ [] aF).alloc _)).app m o_).h7 H p_
      .exact(m.gr [g] w aP (db.alloc _)).setCell (.inr p_) _
      .have h1:=m.size;have h2:=H.size;simp at h1;omega
     case measure=>simp[intOf];omega
    .have dn:(q==0)=false:=by simp[aq]
     clear aq;go_wp2;go_roundw
     case rel=>
      have ag:=y.out;subst ag;exact⟨k+1,F,fc,vs,by omega,by go_num,by rw[bL.out];exact ap.out.trans (List.sublist_append_left _ _),M,K,cj,df,bM,db,aE,by omega⟩
     case measure=>simp[intOf];omega
   .have a7:k=n:=by omega
    have aU:=Y.f_ 0;have bB:=S.hm 0;have bV:=S.f_ 0;have ap:=h_ L;clear L;go_wp2;have bO:=S.hJ 0 (.slice F j fc);have H:=(D_ [Q] wr).setCell (p:=⟨Q,0,none⟩) (.inl s_) (.slice F j fc);refine D8 (EV rfl _ _ _ _ _ _ _ rfl bO underlying32 rfl k_) rfl ?_;rw[aD.out];refine⟨F,fc,vs,by rw[y.out];rfl,?_,by rw[<-y.out];exact iQ ao,by rw[<-ay.out];exact ap.out.trans (List.take_sublist _ _),Z.h7 H p_,am.hx H p_⟩
    have:=Sl.iG ao
    rw[y.out]at this;exact Sl.ig this S d_ H
theorem th.ig{m:Md}{x:Nat}{t:TypeId}(h:th w m)(hk:Bk w x t cs)(av:189≠t/\2≠t/\3≠t/\56≠t/\38≠t/\162≠t/\116≠t/\124≠t)(cH:53≠t∨m.ts=[])(hg:Gr [x] w w'):th w' m:=by
 obtain⟨n1,n2,n3,n4,n5,n6,n7,cR⟩:=av;refine⟨Sl.ig h.l hk n1 hg,Sl.ig h.lr hk n2 hg,h.al,Sl.ig h.d hk n3 hg,h.dl,h.s.ig hk ⟨n4,n5,n6⟩ hg,⟨?_,λt X=>(h.ts.AF t X).ig hk ⟨n7,n4,n5,cR,n6⟩ hg⟩⟩
 rcases cH with cH|cH
 .exact Sl.ig h.ts.row hk cH hg
 .rw[cH];exact EM _ _ _ _
def DH:Array Value:=#[n_,i_ 0,i_ 0,n_,n_,n_,i_ 0,i_ 0,n_,.bool false,.bool false,.bool false,i_ 0,i_ 0,i_ 0,n_,i_ 0]
structure MW(w0:World)(B g gr gx:Nat)(m:Md)(w:World):Prop where
 r:Bk w gr 43 DH
 x:Bk w gx 43 m.g8
 i:th w m
 d:iE w B g
 g:Gr [g] w0 w
 hB:B<=w0.heap.size
 b1:w0.heap.size<=gr
 b2:w0.heap.size<=gx
 ne:gr≠gx
section
variable{w0 a b:World}{B g gr gx:Nat}{m m':Md}
theorem MW.g_(h:MW w0 B g gr gx m a)(k:Gr [] a b):MW w0 B g gr gx m b:=
 ⟨h.r.g_ k,h.x.g_ k,h.i.g_ k,h.d.g_ k,h.g.trans (k.of_nil [g]),h.hB,h.b1,h.b2,h.ne⟩
theorem MW.h7(h:MW w0 B g gr gx m a):g≠gr/\g≠gx:=by
 have h1:=h.d.vl;have h2:=h.hB;have h3:=h.b1;have aw:=h.b2;omega
theorem MW.dice(h:MW w0 B g gr gx m a)(k:Gr [g] a b)(hd:iE b B g):MW w0 B g gr gx m b:=by
 obtain⟨cs,hk⟩:=h.d.bk;obtain⟨n1,n2⟩:=h.h7;exact⟨h.r.gr k (by simpa using n1.symm),h.x.gr k (by simpa using n2.symm),h.i.ig hk d_ (.inl d_) k,hd,h.g.trans k,h.hB,h.b1,h.b2,h.ne⟩
theorem MW.one(h:MW w0 B g gr gx m a){x:Nat}{t:TypeId}(hk:Bk a x t cs)(av:189≠t/\2≠t/\3≠t/\56≠t/\38≠t/\162≠t/\116≠t/\124≠t)(cH:53≠t∨m.ts=[])(c:t≠43)(I:w0.heap.size<=x)(k:Gr [x] a b):MW w0 B g gr gx m b:=
 ⟨h.r.gr k (by simpa using(h.r.lF hk c.symm)),h.x.gr k (by simpa using(h.x.lF hk c.symm)),h.i.ig hk av cH k,h.d.h7 k (λy hy=>by rw[R_]at hy;rw[hy];exact F_ h.hB I),
   h.g.hx k (λy hy=>.inr (by rw[R_]at hy;rw[hy];exact I)),h.hB,h.b1,h.b2,h.ne⟩
theorem MW.set(h:MW w0 B g gr gx m a)(k:Gr [gx] a b)(I:Bk b gx 43 m'.g8)(hi:th b m->th b m'):MW w0 B g gr gx m' b:=
 ⟨h.r.gr k (by simpa using h.ne),I,hi (h.i.ig h.x d_ (.inl d_) k),h.d.h7 k (λy hy=>by rw[R_]at hy;rw[hy];exact F_ h.hB h.b2),
   h.g.hx k (λy hy=>.inr (by rw[R_]at hy;rw[hy];exact h.b2)),h.hB,h.b1,h.b2,h.ne⟩
theorem MW.fin(h:MW w0 B g gr gx m a)(k:Gr [gr] a b):th b m/\iE b B g/\Gr [g] w0 b:=
 ⟨h.i.ig h.r d_ (.inl d_) k,h.d.h7 k (λy hy=>by rw[R_]at hy;rw[hy];exact F_ h.hB h.b1),
   h.g.hx k (λy hy=>.inr (by rw[R_]at hy;rw[hy];exact h.b1))⟩
end
structure MQ(w0:World)(gq:Nat)(sA:Option Addr)(fl:List Fo)(sc:Nat)(w:World):Prop where
 q:Bk w gq 96 #[.slice sA fl.length sc]
 f:Fs w sA fl
 b:w0.heap.size<=gq
section
variable{w0 a b:World}{gq:Nat}{sA:Option Addr}{fl:List Fo}{sc:Nat}
theorem MQ.g_(h:MQ w0 gq sA fl sc a)(k:Gr [] a b):MQ w0 gq sA fl sc b:=⟨h.q.g_ k,h.f.g_ k,h.b⟩
theorem MQ.one(h:MQ w0 gq sA fl sc a){x:Nat}{t:TypeId}(hk:Bk a x t cs)(h1:168≠t)(h2:96≠t)(k:Gr [x] a b):MQ w0 gq sA fl sc b:=
 ⟨h.q.gr k (by simpa using h.q.lF hk h2),Sl.ig h.f hk h1 k,h.b⟩
end
structure BI(k:Nat)(fl:List Fo):Prop where
 len:fl.length<=k
 n:∀f∈fl,1<=f.n/\f.n<=3
 dst:∀f∈fl, -1<=f.dst/\f.dst<=3000
theorem BI.mono{k cO:Nat}{fl:List Fo}(h:BI k fl)(hk:k<=cO):BI cO fl:=⟨F_ h.len hk,h.n,h.dst⟩
theorem BI.Ct{k:Nat}{fl:List Fo}(h:BI k fl)(fr dst:Int)(h0: -1<=dst)(h1:dst<=3000):BI (k+1) (k2 fl fr dst):=by
 have one:∀f∈([⟨fr,dst,1⟩]:List Fo),(1<=f.n/\f.n<=3)/\ -1<=f.dst/\f.dst<=3000:=λf hf=>by rw[R_.1 hf];exact⟨⟨Ev 1,(by decide:(1:Int)<=3)⟩,h0,h1⟩
 unfold k2;split
 .rename_i aB
  have aj:k7 fl fr<fl.length:=by unfold oX at aB;simp at aB;exact aB.1
  have e:fl.getD (k7 fl fr) default=fl[k7 fl fr]:=by simp[List.getD,K_ aj]
  have Y:=J_ aj;have hn:=h.n _ Y;have hd:=h.dst _ Y;rw[e]
  have X:(1<=(lu fl[k7 fl fr] dst).n/\(lu fl[k7 fl fr] dst).n<=3)/\ -1<=(lu fl[k7 fl fr] dst).dst/\(lu fl[k7 fl fr] dst).dst<=3000:=by
   generalize fl[k7 fl fr]=f at*;unfold lu;split
   .refine⟨?_,hd⟩
    show 1<=(if 3<f.n+1 then 3 else f.n+1)/\(if 3<f.n+1 then 3 else f.n+1)<=3
    split<;>omega
   .split
    .exact⟨⟨Ev 1,(by decide:(1:Int)<=3)⟩,h0,h1⟩
    .exact⟨by show 1<=f.n-1/\f.n-1<=3;omega,hd⟩
  refine⟨by rw[Eb];exact Nat.le_succ_of_le h.len,λf hf=>?_,λf hf=>?_⟩
  .rcases Ee hf with hf|hf
   .exact h.n f hf
   .rw[hf];exact X.1
  .rcases Ee hf with hf|hf
   .exact h.dst f hf
   .rw[hf];exact X.2
 .have Y:∀f∈fl.take (k7 fl fr)++([⟨fr,dst,1⟩]++fl.drop (k7 fl fr)),(1<=f.n/\f.n<=3)/\ -1<=f.dst/\f.dst<=3000:=by
   intro f hf
   rcases T_.1 hf with hf|hf
   .have:=Eu hf
    exact⟨h.n f this,h.dst f this⟩
   .rcases T_.1 hf with hf|hf
    .exact one f hf
    .have:=FC hf
     exact⟨h.n f this,h.dst f this⟩
  refine⟨?_,λf hf=>(Y f hf).1,λf hf=>(Y f hf).2⟩
  have:=h.len
  simp only[H_,Ey,Fd,FP];omega
theorem wd{hq g9:Int}{d:List Int}(hv:hZ l hq g9=true)(h:d.Sublist (ku l hq g9)):(∀x∈d,0<=x/\x<=g9)/\d.Pairwise (· < ·):=by
 have hb:=kO hv
 have he:ku l hq g9=(List.range (g9.toNat+1)).map Int.ofNat:=by unfold ku;rw[Q_ hv]
 rw[he]at h;refine⟨λx I=>?_,?_⟩
 .obtain⟨k,hk,e⟩:=D2.1 (h.subset I);have hk:=Ep.1 hk;rw[<-e]
  show 0<=(k:Int)/\(k:Int)<=g9
  omega
 .refine List.Pairwise.sublist h ?_;rw[List.pairwise_map]
  exact List.pairwise_lt_range.imp λ{a b} hab=>by show(a:Int)<(b:Int);omega
theorem s3{hq g9:Int}{d:List Int}(hv:hZ l hq g9=true)(h:d.Sublist (ku l hq g9)):qI l hq g9 d=true:=by
 obtain⟨h1,h2⟩:=wd hv h;unfold qI;rw[hv,Bool.and_true]
 have:iN (bad d g9) (List.range d.length)=false:=by
  unfold iN;rw[List.any_eq_false];intro k hk;have hk:=Ep.1 hk
  have e:d.getD k 0=d[k]:=by simp[List.getD,K_ hk]
  have hr:=h1 _ (J_ hk);unfold bad;rw[e]
  by_cases h0:0<k
  .have bW:k-1<d.length:=by omega
   have aP:d.getD (k-1) 0=d[k-1]:=by simp[List.getD,K_ bW]
   have hp:=List.pairwise_iff_getElem.1 h2 (k-1) k bW hk o_;rw[aP];simp;omega
  .simp;omega
 rw[this]
 rfl
theorem t8{hq g9:Int}{d:List Int}(hv:hZ l hq g9=true)(h:d.Sublist (ku l hq g9)):d.length<=2049:=by
 have hb:=kO hv;have h1:=h.length_le
 have he:ku l hq g9=(List.range (g9.toNat+1)).map Int.ofNat:=by unfold ku;rw[Q_ hv]
 rw[he,Et,Fk]at h1;omega
theorem Md.code(m:Md):∀j,j<3->m.g8[0+j]?=(#[.slice m.A m.l.length m.c,i_ m.hq,i_ m.g9]:Array Value)[j]?:=λj hj=>by
 match j,hj with
 |0,_=>rfl
 |1,_=>rfl
 |2,_=>rfl
theorem Md.world(m:Md):∀j,j<1->m.g8[3+j]?=(#[.slice m.aA m.lr.length m.ac]:Array Value)[j]?:=λj hj=>by
 match j,hj with
 |0,_=>rfl
theorem Md.div(m:Md):∀j,j<1->m.g8[4+j]?=(#[.slice m.dA m.d.length m.dc]:Array Value)[j]?:=λj hj=>by
 match j,hj with
 |0,_=>rfl
theorem Md.heap(m:Md):∀j,j<1->m.g8[5+j]?=(#[.slice m.s.h.A m.s.h.l.length m.s.h.c]:Array Value)[j]?:=λj hj=>by
 match j,hj with
 |0,_=>rfl
theorem Md.com(m:Md):∀j,j<10->m.g8[5+j]?=m.s.g8[j]?:=λj hj=>by
 match j,hj with
 |0,_=>rfl
 |1,_=>rfl
 |2,_=>rfl
 |3,_=>rfl
 |4,_=>rfl
 |5,_=>rfl
 |6,_=>rfl
 |7,_=>rfl
 |8,_=>rfl
 |9,_=>rfl
theorem Md.one(m:Md):m.g8.all (·.oneCell')=true:=by unfold Md.g8;simp[Value.oneCell']
theorem vC(cs:Array Value)(a:Value)(x y z:Value)(hc:cs=#[x,y,z])(w:World):(Instr.build 43 #[(0,.agg cs),(1,.agg #[a])]).run prog w=.ok (.agg #[x,y,z,a,n_,n_,i_ 0,i_ 0,n_,.bool false,.bool false,.bool false,i_ 0,i_ 0,i_ 0,n_,i_ 0]) w:=by
 subst hc
 kernel_rfl
theorem kY.app{t:Tk}(h:kY w t)(k:App base 53 w w'):kY w' t:=
 ⟨k.sl h.gs d_,k.sl h.rs d_,k.sl h.ws d_,k.sl h.nw d_,k.BY d_ h.nr,k.sl h.ds d_,k.sl h.hU d_,h.xq,h.la,h.uQ,h.sO,h.rL,h.px⟩
theorem lN.app{s:Cm}(h:lN w s)(k:App base 53 w w'):lN w' s:=
 ⟨⟨k.sl h.h.os d_,k.BY d_ h.h.la,h.h.kX⟩,k.sl h.hU d_,h.px⟩
theorem BV(cs:Array Value)(o:Nat)(vs:List Value)(h:o+vs.length<=cs.size)(j:Nat)(hj:j<vs.length):(ul cs o vs)[o+j]?=vs[j]?:=by
 unfold ul;simp only[List.getElem?_toArray];rw[E3 p_,Fi p_];congr 1;simp;omega
theorem AJ(cs:Array Value)(o:Nat)(vs:List Value)(h:o+vs.length<=cs.size)(i:Nat)(hi:i<o∨o+vs.length<=i):(ul cs o vs)[i]?=cs[i]?:=by
 unfold ul;simp only[List.getElem?_toArray]
 rcases hi with hi|hi
 .rw[Fi p_,EL,Q_ hi];simp
 .rw[E3 p_,E3 p_,FK];simp only[Ey,FR];rw[show o+vs.length+(i-min o cs.size-vs.length)=i by omega];simp
structure oY(w:World)(gb:Nat)(cur:Array Value)(ts:List Tk):Prop where
 bk:Bk w gb 53 cur
 row:∀(i:Nat) (u:Value),(ts.flatMap λt=>t.g8.toList)[i]?=some u->cur[i]?=some u
theorem oY.sl(h:oY w gb cur ts):Ts w (j_ gb) ts:=
 ⟨j3 _ 48 su ts,λ_=>⟨gb,0,cur,_,rfl,h.bk,λj u hu=>by rw[U_];exact h.row j u hu⟩⟩
theorem oY.size(h:oY w gb cur ts):ts.length*48<=cur.size:=by
 rcases D5 cur.size (ts.length*48)with hl|hl
 .have iv:(ts.flatMap λt=>t.g8.toList).length=ts.length*48:=j3 _ 48 su ts
  have:=h.row _ _ (K_ (by omega:cur.size<(ts.flatMap λt=>t.g8.toList).length))
  simp at this
 .exact hl
theorem oY.f_(h:oY w gb cur ts){k:Nat}(hk:k<ts.length)(j:Nat)(hj:j<48):w.cell? (c_ gb (k*48+j))=(ts[k]).g8[j]?:=by
 have hg:=iW (λt:Tk=>t.g8.toList) 48 su ts k j hk hj
 have hs:j<(ts[k]).g8.size:=by rw[Tk.size];exact hj
 have he:(ts[k]).g8.toList[j]?=some (ts[k]).g8[j]:=by simp[hs]
 rw[D7 hs,h.bk.f_];exact h.row _ _ (hg.trans he)
theorem oY.at(h:oY w gb cur ts){k:Nat}(hk:k<ts.length):∀j,j<(ts[k]).g8.size->cur[k*48+j]?=(ts[k]).g8[j]?:=by
 intro j hj;rw[Tk.size]at hj;rw[<-h.f_ hk j hj,h.bk.f_]
theorem oY.set(h:oY w gb cur ts){k:Nat}(hk:k<ts.length)(t:Tk)(hb:Bk w' gb 53 (ul cur (k*48) t.g8.toList)):oY w' gb (ul cur (k*48) t.g8.toList) (ts.set k t):=by
 have hz:=h.size;have hl:t.g8.toList.length=48:=rfl
 have d:k*48+t.g8.toList.length<=cur.size:=by rw[hl];omega
 refine⟨hb,qq (λt:Tk=>t.g8.toList) 48 su d_ ts k hk t cur _ h.row (λj u hu=>?_) (λi hi=>?_)⟩
 .have hj:j<t.g8.toList.length:=by
   rcases D5 j t.g8.toList.length with h|h
   .exact h
   .rw[Eh h]at hu
    cases hu
  rw[BV _ _ _ d j hj];exact hu
 .rw[AJ _ _ _ d i o_]
theorem oY.iG{c:Nat}(h:w.ownsRow base 53 48 (.slice A ts.length c) ts.length (ts.flatMap λt=>t.g8.toList))(h0:0<ts.length):∃gb cur,A=some (c_ gb 0)/\base<=gb/\oY w gb cur ts:=by
 obtain⟨g,cur,h1,h2,h3,aw⟩:=ky h h0;exact⟨g,cur,h1,h2,h3,aw⟩
theorem Md.Aa(m:Md)(ts:List Tk)(h:ts.length=m.ts.length):{m with ts:=ts}.g8=m.g8:=by
 unfold Md.g8;rw[h]
theorem MW.row{w0 a b:World}{B g gr gx:Nat}{m:Md}(h:MW w0 B g gr gx m a)(hk:Bk a gb 53 cs)(k:Gr [gb] a b)(hb:w0.heap.size<=gb)(hl:ts.length=m.ts.length)(hr:Ts b m.tA ts)(X:∀t∈ts,kY a t):MW w0 B g gr gx {m with ts:=ts} b:=by
 have hi:=h.i
 refine⟨h.r.gr k (by simpa using(h.r.lF hk d_)),by rw[Md.Aa m ts hl];exact h.x.gr k (by simpa using(h.x.lF hk d_)),?_,h.d.h7 k (λy hy=>by rw[R_]at hy;rw[hy];exact F_ h.hB hb),
  h.g.hx k (λy hy=>.inr (by rw[R_]at hy;rw[hy];exact hb)),h.hB,h.b1,h.b2,h.ne⟩
 exact⟨Sl.ig hi.l hk d_ k,Sl.ig hi.lr hk d_ k,hi.al,Sl.ig hi.d hk d_ k,hi.dl,hi.s.ig hk d_ k,hr,λt h=>(X t h).ig hk d_ k⟩
theorem BS(t:Tk):∀u∈t.g8.toList,u.oneCell'=true:=λu hu=>by
 have h:=Tk.one t;rw[FN]at h;exact h u (by simpa using hu)
theorem MW.append{w0 a b:World}{B g gr gx:Nat}{m:Md}(h:MW w0 B g gr gx m a)(k:App w0.heap.size 53 a b){c n:Nat}(hn:ts.length=n)(hr:Ts b A ts)(X:∀t∈ts,kY a t):
 MW w0 B g gr gx {m with tA:=A,tc:=c,ts:=ts} (b.setCell (c_ gx 15) (.slice A n c)):=by
 subst hn;have I:=k.bk h.x d_;have bl:Gr [gx] b (b.setCell (c_ gx 15) (.slice A ts.length c)):=(D_ [gx] b).setCell (.inl s_) _;have hi:=h.i;refine⟨(k.bk h.r d_).gr bl (by simpa using h.ne),I.hJ 15 _,?_,(h.d.app k h.hB).h7 bl (λy hy=>by rw[R_]at hy;rw[hy];exact F_ h.hB h.b2),?_,h.hB,h.b1,h.b2,h.ne⟩
 .exact⟨Sl.ig (k.sl hi.l d_) I d_ bl,Sl.ig (k.sl hi.lr d_) I d_ bl,hi.al,Sl.ig (k.sl hi.d d_) I d_ bl,hi.dl,(hi.s.app k).ig I d_ bl,Sl.ig hr I d_ bl,λt h=>((X t h).app k).ig I d_ bl⟩
 .exact(k.gr [g] w0 (G_ _) h.g).hx bl (λy hy=>.inr (by rw[R_]at hy;rw[hy];exact h.b2))
end Go.Proofs.YtenbhdilndfaeaaGreat
