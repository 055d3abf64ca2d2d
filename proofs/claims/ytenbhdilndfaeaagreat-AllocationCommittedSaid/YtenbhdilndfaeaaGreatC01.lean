import Derived.Test.YtenbhdilndfaeaaGreatM12
import Derived.Test.YtenbhdilndfaeaaGreatM35
import Derived.Test.YtenbhdilndfaeaaGreatM38
set_option maxRecDepth 100000
set_option maxHeartbeats 0
set_option linter.all false
namespace Go.Proofs.YtenbhdilndfaeaaGreat
open Go.RowKit Go.Proofs.Tryz
theorem hwrite_ids(h:List Ob)(id f:Int)(v:Vl):nu (kT h id f v)=nu h:=by
 unfold nu kT;apply FD
 .simp
 .intro i h1 h2;simp only[E7,Fb];split<;>rfl
theorem hwr_ids(h:List Ob)(c:Cl):nu (rb h c)=nu h:=by
 unfold rb;split
 .rfl
 .exact hwrite_ids _ _ _ _
theorem written_ids:∀(l:List Cl) (h:List Ob),nu (i4 h l)=nu h
 |[],_=>rfl
 |c::l,h=>(written_ids l (rb h c)).trans (hwr_ids h c)
theorem hred_ids(h:List Ob)(d:Dl):nu (p6 h d)=nu h:=by
 unfold p6;split
 .rfl
 .split
  .exact hwrite_ids _ _ _ _
  .rfl
theorem reduced_ids:∀(l:List Dl) (h:List Ob),nu (kd h l)=nu h
 |[],_=>rfl
 |d::l,h=>(reduced_ids l (p6 h d)).trans (hred_ids h d)
theorem hidx_at{h:List Ob}{id:Int}(hi:¬js h id<0):∃hk:(js h id).toNat<h.length,h[(js h id).toNat].id=id:=by
 rcases nv h id with⟨a,_⟩|⟨k,hk,e1,e2⟩
 .exact D6 a hi
 .have e:(js h id).toNat=k:=by omega
  simp only[e];refine⟨hk,?_⟩
  have:=List.find?_some e2;simpa using this
theorem hput_mem(h:List Ob)(o:Ob)(n:Int):n∈nu (lY h o)↔n∈nu h∨n=o.id:=by
 unfold lY;split
 .unfold nu;simp only[Ed,E1,Ff,T_,R_]
  have e:n∈h.map (·.id)↔n∈(h.take (pl h o.id)).map (·.id)∨n∈(h.drop (pl h o.id)).map (·.id):=by
   rw[<-T_,<-Ed,List.take_append_drop]
  rw[e];constructor
  .rintro((a|a)|a)
   .exact .inl (.inl a)
   .exact .inr a
   .exact .inl (.inr a)
  .rintro((a|a)|a)
   .exact .inl (.inl a)
   .exact .inr a
   .exact .inl (.inr a)
 .rename_i hi;obtain⟨hk,he⟩:=hidx_at hi;generalize (js h o.id).toNat=k at*
  unfold nu;simp only[Ed,E1,Ff,T_,R_]
  have e:n∈h.map (·.id)↔n∈(h.take k).map (·.id)∨n=h[k].id∨n∈(h.drop (k+1)).map (·.id):=by
   have q:h=h.take k++h[k]::h.drop (k+1):=by rw[<-X_ hk,List.take_append_drop]
   have q2:h.map (·.id)=(h.take k).map (·.id)++h[k].id::(h.drop (k+1)).map (·.id):=by
    have:=D9 (List.map (·.id)) q;rwa [Ed,E1]at this
   rw[q2,T_,M_]
  rw[e,he];constructor
  .rintro((a|a)|a)
   .exact .inl (.inl a)
   .exact .inr a
   .exact .inl (.inr (.inr a))
  .rintro((a|a|a)|a)
   .exact .inl (.inl a)
   .exact .inl (.inr a)
   .exact .inr a
   .exact .inl (.inr a)
theorem puts_mem:∀(l h:List Ob) (n:Int),n∈nu (l.foldl lY h)↔n∈nu h∨n∈nu l
 |[],h,n=>by simp[nu]
 |o::l,h,n=>by
  rw[Fl,puts_mem l,hput_mem];unfold nu;rw[E1,M_];constructor
  .rintro((a|a)|a)
   .exact .inl a
   .exact .inr (.inl a)
   .exact .inr (.inr a)
  .rintro(a|a|a)
   .exact .inl (.inl a)
   .exact .inl (.inr a)
   .exact .inr a
theorem over_mem(h:List Ob)(t:jg)(n:Int):n∈nu (mL h t)↔n∈nu h∨n∈nu t.nw:=by
 unfold mL;rw[reduced_ids,written_ids];exact puts_mem _ _ _
def Inn(h:List Ob)(n:Int):Prop:=n=0∨n∈nu h
def NwI(t:jg):Prop:=nu t.nw=(List.range t.nw.length).map λk:Nat=>(t.run+1)*1048576+(k:Int)
theorem NwI.step{c:List In}{hq g9:Int}{d:List Int}{t:jg}{view:List Ob}{P:Int->Prop}(h0:P 0)(hv:HG P view)(ht:TG (λn=>P n∨n∈nu t.nw) t)(hn:NwI t):
 TG (λn=>P n∨n∈nu (jh c hq g9 d t view).nw) (jh c hq g9 d t view)/\NwI (jh c hq g9 d t view):=by
 have hr:=mZ c hq g9 d t view
 rcases ht.step (hv.mono λn h=>.inl h) (.inl h0) c hq g9 d with⟨h1,h2⟩|⟨h1,h2⟩
 .have h2:nu (jh c hq g9 d t view).nw=nu t.nw:=h2
  have hl:(jh c hq g9 d t view).nw.length=t.nw.length:=by have:=D9 List.length h2;unfold nu at this;simpa using this
  refine⟨h1.mono λn h=>by rw[h2];exact h,?_⟩
  unfold NwI;rw[h2,hl,hr];exact hn
 .have h2:nu (jh c hq g9 d t view).nw=nu t.nw++[vf t]:=h2
  have hl:(jh c hq g9 d t view).nw.length=t.nw.length+1:=by have:=D9 List.length h2;unfold nu at this;simpa using this
  refine⟨h1.mono λn h=>by rw[h2];rcases h with(h|h)|h;exact .inl h;exact .inr (D4 _ h);exact .inr (E5 _ (R_.2 h)),?_⟩
  unfold NwI at hn ⊢;rw[h2,hl,hr,List.range_succ,Ed,hn];rfl
theorem NwI.runs{l:List In}{hq g9:Int}{d:List Int}{view:List Ob}{P:Int->Prop}(h0:P 0)(hv:HG P view):∀(n:Nat) (t:jg),TG (λn=>P n∨n∈nu t.nw) t->NwI t->
 TG (λm=>P m∨m∈nu (pW l hq g9 d view n t).nw) (pW l hq g9 d view n t)/\NwI (pW l hq g9 d view n t)
 |0,_,ht,hn=>⟨ht,hn⟩
 |n+1,t,ht,hn=>by
  unfold pW;split
  .have h:=NwI.step (c:=l) (hq:=hq) (g9:=g9) (d:=d) h0 hv ht hn;exact NwI.runs h0 hv n _ h.1 h.2
  .exact⟨ht,hn⟩
theorem runF_run{l:List In}{hq g9:Int}{d:List Int}{view:List Ob}:∀(n:Nat) (t:jg),(pW l hq g9 d view n t).run=t.run
 |0,_=>rfl
 |n+1,t=>by
  unfold pW;split
  .rw[runF_run n];exact mZ _ _ _ _ _ _
  .rfl
theorem beginP_nw(l:List In)(hq g9 hG run:Int)(ia:Bool):(jJ l hq g9 hG run ia).1.nw=[]:=by
 unfold jJ;split
 .rfl
 split
 .rfl
 split<;>rfl
theorem NwI.begin{l:List In}{hq g9 hG run:Int}{ia:Bool}:NwI (jJ l hq g9 hG run ia).1:=by
 unfold NwI;rw[beginP_nw];rfl
theorem NwI.at{t:jg}(h:NwI t){n:Int}(hn:n∈nu t.nw):∃k:Nat,k<t.nw.length/\n=(t.run+1)*1048576+(k:Int):=by
 unfold NwI at h;rw[h]at hn;obtain⟨k,hk,e⟩:=D2.1 hn;exact⟨k,Ep.1 hk,e.symm⟩
def OldI(run n:Int):Prop:=n=1∨n=2∨∃r j:Int,0<=r/\r<run/\0<=j/\j<1048576/\n=(r+1)*1048576+j
theorem OldI.mono{a b n:Int}(h:OldI a n)(k:a<=b):OldI b n:=by
 rcases h with h|h|⟨r,j,h1,h2,h3⟩
 .exact .inl h
 .exact .inr (.inl h)
 .exact .inr (.inr ⟨r,j,h1,by omega,h3⟩)
theorem askP_ids(l:List In)(hq g9:Int)(lr:List Int)(s:qR):(oN l hq g9 lr s).1.h=[]∨nu (oN l hq g9 lr s).1.h=nu s.h:=by
 unfold oN;split
 .exact .inl rfl
 split
 .exact .inl rfl
 rename_i hb;have h20:=(wW hb).2.1;have hnw:(lE l hq g9 s.hG jb s.h 0).nw=[]:=(ye (P:=λ_=>True) l hq g9 s.hG 0 h20 trivial (λo _=>⟨trivial,λv _ _=>trivial⟩) (λi _=>trivial)).2
 unfold oU;right;split
 .exact hwr_ids _ _
 split
 .show nu (lI s.h _)=_;unfold lI;rw[hnw,written_ids];rfl
 .show nu (lI s.h _)=_;unfold lI;rw[hnw,written_ids];rfl
structure CI(run:Int)(h:List Ob):Prop where
 cl:HG (Inn h) h
 old:∀n∈nu h,OldI run n
theorem CI.nil(run:Int):CI run []:=⟨HG.nil,λn hn=>by cases hn⟩
theorem vT.ci{l:List In}{hq g9:Int}{d lr:List Int}{k:Nat}{run:Int}{s:qR}(hv:hZ l hq g9=true)(hl:l.length<=2048)(h:vT l hq g9 d lr k run s):0<=run/\CI run s.h:=by
 induction h with
 |hG=>
  refine⟨Ev _,?_,?_⟩
  .show HG (Inn (startHeap hq)) (startHeap hq);exact HG.hG hq (.inl rfl) (.inr (by simp[startHeap,nu])) (.inr (by simp[startHeap,nu]))
  .show ∀n∈nu (startHeap hq),OldI 0 n;intro n hn;simp[startHeap,nu]at hn;rcases hn with h|h
   .exact .inl h
   .exact .inr (.inl h)
 |ask h he h0 ih=>
  rename_i k run s;refine⟨ih.1,?_⟩
  rcases askP_ids l hq g9 lr s with e|e
  .rw[e];exact CI.nil _
  .refine⟨(HG.oN l hq g9 lr (.inl rfl) ih.2.cl).mono λn hn=>hn.imp id λq=>by rw[e];exact q,λn hn=>ih.2.old n (by rw[<-e];exact hn)⟩
 |commit h he h0 ih=>
  rename_i k run s;refine⟨by have:=ih.1;omega,?_⟩
  obtain⟨h1,h2⟩:=NwI.runs (l:=l) (hq:=hq) (g9:=g9) (d:=d) (view:=s.h) (P:=Inn s.h) (.inl rfl) ih.2.cl (todo l (jJ l hq g9 s.hG run true).1+1) (jJ l hq g9 s.hG run true).1 (TG.begin _ _ _ _ _ _) NwI.begin
  have hrun:(p9 l hq g9 d s run).run=(jJ l hq g9 s.hG run true).1.run:=runF_run _ _
  have hbr:=nC l hq g9 s.hG run true
  have hf:=(ua (d:=d) hv hl s run).sm.nw
  have h1:TG (λm=>Inn s.h m∨m∈nu (p9 l hq g9 d s run).nw) (p9 l hq g9 d s run):=h1
  have h2:NwI (p9 l hq g9 d s run):=h2
  generalize p9 l hq g9 d s run=t at *
  have key:CI (run+1) (mL s.h t):=by
   refine⟨(h1.mL (ih.2.cl.mono λn h=>.inl h)).mono ?_,?_⟩
   .rintro n((h|h)|h)
    .exact .inl h
    .exact .inr ((over_mem _ _ _).2 (.inl h))
    .exact .inr ((over_mem _ _ _).2 (.inr h))
   .intro n hn
    rcases(over_mem _ _ _).1 hn with h|h
    .exact(ih.2.old n h).mono (by omega)
    .obtain⟨j,hj,e⟩:=h2.at h;have:=ih.1
     exact .inr (.inr ⟨t.run,j,by omega,by omega,by omega,by omega,e⟩)
  unfold kW;rw[P_ (by decide)];split
  .exact CI.nil _
  split
  .exact CI.nil _
  show CI (run+1) (nD s t).h;unfold nD;split
  .exact key
  .exact key
theorem TG.top(Q:Int->Prop)(t:jg):TG (λn=>True∨Q n) t:=
 have g:∀v:Vl,GV (λn=>True∨Q n) v:=λv _=>.inl trivial
 ⟨λc _=>g _,λc _=>⟨.inl (.inl trivial),g _⟩,λc _=>⟨.inl (.inl trivial),g _⟩,λo _=>⟨.inl trivial,λv _=>g v⟩,λi=>g _,g _⟩
theorem vR.own{l:List In}{hq g9:Int}{d:List Int}{h:List Ob}{run:Int}{n:Nat}{ts:List jg}(hv:hZ l hq g9=true)(hT:vR l hq g9 d h run n ts):∀t∈ts,NwI t/\run<=t.run:=by
 induction hT with
 |hG ts hl hb=>
  intro t ht;obtain⟨k,hk,e⟩:=FF ht;obtain⟨x,ia,ho,e2⟩:=hb k hk;rw[<-e,e2];refine⟨NwI.begin,?_⟩
  have:(jJ l hq g9 x (run+k) ia).1.run=run+k:=by
   unfold jJ;rw[P_ (by rw[hv];decide),P_ (by rw[ho.1];decide)];split<;>rfl
  rw[this];omega
 |step k hk h1 h2 ih=>
  intro t ht
  rcases Ee ht with ht|ht
  .exact ih t ht
  .have hm:=ih _ (J_ hk);rw[ht];refine⟨(NwI.step (P:=λ_=>True) trivial (λo _=>⟨trivial,λv _ _=>trivial⟩) (TG.top _ _) hm.1).2,?_⟩
   rw[mZ];exact hm.2
theorem hget_isSome{h:List Ob}{n:Int}:(jn h n).isSome=true↔n∈nu h:=by
 unfold jn nu;rw[List.find?_isSome];constructor
 .rintro⟨o,ho,e⟩;exact D2.2 ⟨o,ho,by simpa using e⟩
 .intro hn;obtain⟨o,ho,e⟩:=D2.1 hn;exact⟨o,ho,by simpa using e⟩
theorem CI.refs{run:Int}{h:List Ob}(c:CI run h):∀x∈iP h,x∈nu h:=by
 intro x hx;obtain⟨o,ho,hx⟩:=E2.1 hx;obtain⟨v,hv,rfl⟩:=D2.1 hx;obtain⟨hv,hr⟩:=EO.1 hv
 have hr':v.r=true/\v.n≠0:=by simpa[isRef]using hr
 rcases(c.cl o ho).2 v hv hr'.1 with h|h
 .exact D6 h hr'.2
 .exact h
theorem CI.dang{run:Int}{h:List Ob}(c:CI run h):pP h=[]:=by
 unfold pP;rw[List.filter_eq_nil_iff];intro x hx
 have hx:=((lS _).mem x).1 hx
 have:=hget_isSome.2 (c.refs x hx);cases hg:jn h x with
 |none=>rw[hg]at this;cases this
 |some o=>simp
theorem OldI.run{run n:Int}(h:OldI run n)(hr:qC n=true):0<=tv n/\tv n<run:=by
 unfold qC at hr;have hr:=of_decide_eq_true hr;unfold tv;rw[P_ (by omega)]
 rcases h with h|h|⟨r,j,h1,h2,h3,h4,h5⟩
 .omega
 .omega
 .omega
theorem CI.leak{run:Int}{h:List Ob}(c:CI run h){rs:List Int}(hrs:∀r∈rs,run<=r):oG h rs=[]:=by
 unfold oG;rw[List.filter_eq_nil_iff];intro x hx;have hx:=((Ak h).mem x).1 hx
 have hi:x∈nu h:=hx.elim (c.refs x) id
 intro hl;unfold np at hl;simp only[Ec,EP]at hl
 have:=(c.old x hi).run hl.1;have:=hrs _ hl.2;omega
theorem Co.ci{m:Md}(h:Co m):∃run:Int,0<=run/\CI run (hN m.s.h.l)/\∀t∈m.ts,NwI t.p/\run<=t.run/\t.run<=1000000016/\t.p.nw.length<=500000:=by
 obtain⟨k,run,hk,hc,hx⟩:=h.cm;have hl:=(kO h.val).2.1;have c:=hc.ci h.val hl;have cb:=hc.cb h.val
 refine⟨run,c.1,c.2,?_⟩
 rcases hx with⟨_,e,_⟩|⟨_,_,n,_,hT⟩
 .rw[e];intro t ht;cases ht
 .intro t ht;have hm:t.p∈m.ts.map Tk.p:=D2.2 ⟨t,ht,rfl⟩
  have h1:=hT.own h.val _ hm;have h2:=hT.Dc h.val hl (hc.Dc h.val (by omega)) c.1 (by have:=cb.2.2;omega) _ hm;have h3:=(hT.tf h.val hl _ hm).1.sm.nw
  exact⟨h1.1,h1.2,h2.2.2,h3⟩
theorem NwI.split{t:jg}(h:NwI t){run:Int}{hp:List Ob}(c:CI run hp)(hr:0<=run)(h1:run<=t.run)(hl:t.nw.length<=500000){k:Nat}(hk:k<t.nw.length):
 tv (t.nw[k]).id=t.run/\Cu (t.nw[k]).id=k/\decide (1048576<=(t.nw[k]).id)=true/\jn hp (t.nw[k]).id=none:=by
 have e:(t.nw[k]).id=(t.run+1)*1048576+(k:Int):=by
  have h2:(nu t.nw)[k]?=((List.range t.nw.length).map λk:Nat=>(t.run+1)*1048576+(k:Int))[k]?:=by rw[h]
  unfold nu at h2;rw[Eq,Eq,K_ hk,List.getElem?_range hk]at h2;simpa using h2
 have hge:1048576<=(t.nw[k]).id:=by rw[e];omega
 refine⟨?_,?_,Ek hge,?_⟩
 .unfold tv;rw[P_ (by omega),e];omega
 .unfold Cu;rw[P_ (by omega),e];omega
 .cases hg:jn hp (t.nw[k]).id with
  |none=>rfl
  |some o=>
   exfalso;have hm:=hget_isSome.1 (show(jn hp (t.nw[k]).id).isSome=true by rw[hg];rfl)
   have:=(c.old _ hm).run (by unfold qC;exact Ek hge)
   have h3:tv (t.nw[k]).id=t.run:=by unfold tv;rw[P_ (by omega),e];omega
   omega
theorem ld_row{ops:Array Oper}{rest:List Oper}{o:Oper}{a:Act}{w:World}{Q:Exit->Act->World->Prop}{x:Operand}{b off:Nat}{t:Tk}(hc:∀j,j<48->w.cell? (c_ b (off+j))=t.g8[j]?)(h:wpList prog ops Q rest (a.put o.dst (.agg t.g8)) w)
 (hgd:o.guard=none:=by rfl) (ho:o.op=.load 53 x:=by rfl) (hx9q:a.eval x=.pointer (some (c_ b off)):=by rfl):wpList prog ops Q (o::rest) a w:=
 wpList_plain hgd λ_ hK=>wp_load_mid 53 x ho b off hx9q t.g8.toList _ (λj v hj=>by
  have hlt:j<48:=by
   rcases D5 j 48 with h|h
   .exact h
   .rw[Eh (by show 48<=j;exact h)]at hj
    cases hj
  rw[hc j hlt]
  simpa using hj) underlying53 rfl k_ (hK _ _ h)
theorem committed_any(hmade:∀(B g:Nat) (w:World),iE w B g->B<=w.heap.size->Calls prog 11 #[q_ g] w (Ao B g w))(a0:Option Addr)(len0 cap0:Nat)(z0:List Int)(e5:TypeId)(w:World)(hs:Sl w e5 1 a0 len0 (z0.map (.int .u8)))(hz:∀j,0<=z0.getD j 0/\z0.getD j 0<256)(hlc:len0<=cap0)(hl0:len0<=9223372036854775807):
 Calls prog 3 #[.slice a0 len0 cap0] w λe w'=>e=.returned (.bool true)/\Gr [] w w':=by
 refine hX λQ HQ=>?_
 go_enter func3,ntmps3
 go_upto_region 3 with(go_at_call 10;refine(wn _).mono ?_;rintro e w1⟨rfl,hg1⟩)
 go_upto_region 4 with(first
  |(go_at_call 12;refine(vj a0 len0 cap0 z0 _ e5 (Sl.g_ hs hg1) hz hlc hl0).mono ?_;rintro e w3⟨d,rfl,hd0,hd,hg3⟩)
  |(go_at_call 11;refine(hmade w3.heap.size d w3 hd (G_ _)).mono ?_;unfold Ao;rintro e w4⟨m,rfl,hmi,hok,hd4,hg4⟩)
  |(refine kG (m.g8) (L_ w4 43 DH) (Md.one _) ?_;intro w5 hb5 hg5))
 have hg45:Gr [] w4 w5:=((D_ [] w4).alloc _).hx hg5 s_
 have hdw:w.heap.size<=d:=F_ hg1.size hd0
 have hwd:Gr [] w w4:=(hg1.trans hg3).hx hg4 (by simpa using hdw)
 have hG:=hwd.trans hg45;replace hmi:=hmi.g_ hg45
 obtain⟨run,hr0,hci,hts⟩:=hok.ci
 have hH:mX w5 m.s.h.A m.s.h.l:=⟨⟨_,hmi.s.h.os.e⟩,⟨_,hmi.s.h.la.e⟩,mG.CJ hok⟩
 have hO:=hmi.s.h.os;have hT:=hmi.ts
 have y5:w5.cell? (c_ w4.heap.size 5)=some (.slice m.s.h.A m.s.h.l.length m.s.h.c):=(hb5.f_ 5).trans rfl
 have y15:w5.cell? (c_ w4.heap.size 15)=some (.slice m.tA m.ts.length m.tc):=(hb5.f_ 15).trans rfl
 have htl:m.ts.length<=16:=by
  obtain⟨k,run',hk,hc,hx9q⟩:=hok.cm
  rcases hx9q with⟨_,e,_⟩|⟨_,_,n,_,hT'⟩
  .rw[e];exact N_ _
  .have:=hT'.len;rwa [Et]at this
 have HD:=h_ (λ(w':World)(hg:Gr [] w5 w')=>by have h:=(hH.g_ hg).CU m.s.h.c;rw[hci.dang]at h;exact h)
 have HL:=h_ (λ(w':World)(A:Option Addr)(c:Nat)(hg:Gr [] w5 w')(hA:Ls w' A (m.ts.map Tk.run))=>by
  have h:=(hH.g_ hg).zP (rs:=m.ts.map Tk.run) m.s.h.c c (B:=A) (tb:=2) hA (by rw[Et];omega)
  rw[hci.leak (λr hr=>by obtain⟨t,ht,rfl⟩:=D2.1 hr;exact(hts t ht).2.1)]at h;exact h)
 have HG:=h_ (λ(w':World)(id:Int)(hg:Gr [] w5 w')(hn:jn (hN m.s.h.l) id=none)=>get_none m.s.h.A m.s.h.c m.s.h.l id w' (hO.g_ hg) (by have:=(mG.CJ hok).len;omega) hn)
 have HS:=h_ (λ(t:Tk)(ht:t∈m.ts)(k:Nat)(hk:k<t.nw.l.length)=>by
  have h:=hts t ht
  have hk':k<t.p.nw.length:=by rw[show t.p.nw.length=t.nw.l.length from hW _];exact hk
  have q:=h.1.split hci hr0 h.2.1 h.2.2.2 hk'
  have e:(t.p.nw[k]).id=(t.nw.l[k]).o.id:=by
   have h1:t.p.nw[k]?=(t.nw.l[k]?).map Rw.o:=by show(hN t.nw.l)[k]?=_;unfold hN;rw[Eq]
   rw[K_ hk',K_ hk]at h1;simp at h1;rw[h1]
  rw[e]at q;exact(show tv (t.nw.l[k]).o.id=t.run/\Cu (t.nw.l[k]).o.id=k/\decide (1048576<=(t.nw.l[k]).o.id)=true/\jn (hN m.s.h.l) (t.nw.l[k]).o.id=none from q))
 have HB:=h_ (λ(t:Tk)(ht:t∈m.ts)=>(show t.run<=1000000016/\t.nw.l.length<=500000 from⟨(hts t ht).2.2.1,by have:=(hts t ht).2.2.2;rwa [show t.p.nw.length=t.nw.l.length from hW _]at this⟩))
 clear hmi hok hci hts hH hO hb5 hd4 hg4 hg5 hd hg3 hd0 hs hz hlc hl0 hwd hg45 hdw hr0
 generalize m.s.h.A=hA at *;generalize m.s.h.c=hc at *;generalize m.s.h.l=hl at *;generalize m.tA=tA at *;generalize m.tc=tc at *;generalize m.ts=ts at *;generalize w4.heap.size=gx at *;clear hg1
 obtain⟨W,hW9q⟩:=nm_ w5;rw[<-hW9q]at HD HL HG hG hT y5 y15 |-;clear hW9q
 have hz0:Zr W.heap.size W none 0 []:=Zr.nil
 go_wp2_with fail
 go_loopw [4,22] (λov iv wr=>∃(i:Nat) (xs:List Int) (A:Option Addr) (c:Nat),i<=ts.length/\iv=i_ i/\ov=.slice A xs.length c/\Hid (xs=(ts.take i).map Tk.run)/\Zr W.heap.size wr A c xs/\Gr [] W wr) (λ_ iv _=>ts.length-(intOf iv).toNat)
 case atStart=>exact⟨0,[],none,0,N_ _,by go_num,rfl,h_ rfl,hz0,D_ _ _⟩
 case round=>
  obtain⟨i,xs,A,c,hi,rfl,rfl,HX,hzr,hgr⟩:=hrel
  have hxl:xs.length=i:=by rw[HX.out,Et,Ey];omega
  by_cases hlt:i<ts.length
  .obtain⟨bb,off,hTA,hTc⟩:=(hT.g_ hgr).at_ hlt;subst hTA
   have hti:=(hT.g_ hgr).AF ts[i] (J_ hlt);have HSt:=h_ (HS.out ts[i] (J_ hlt));have HBt:=HB.out ts[i] (J_ hlt)
   have HX2:=h_ (show xs++[ts[i].run]=(ts.take (i+1)).map Tk.run by rw[O_ hlt,Ed,HX.out];rfl)
   generalize ts[i]=t at *
   go_upto_region 8 with(first|(refine ld_row hTc ?_)|(refine kG (t.g8) (L_ wr 53 lp) (Tk.one _) ?_;intro wa hbt hga))
   have hga2:Gr [] wr wa:=((D_ [] wr).alloc _).jz hga (G_ _)
   have hti2:=hti.g_ hga2;have hgr2:=hgr.trans hga2;have hzr2:=hzr.g_ hga2;generalize wr.heap.size=gt at *;clear hti hgr hzr hTc hga hga2
   have z1:wa.cell? (c_ gt 1)=some (i_ t.run):=(hbt.f_ 1).trans rfl
   go_upto_region 9 with(at_builtin;refine Cf (hzr2.g_ ((D_ [] wa).alloc (.cells #[i_ t.run] 2))) (Ls.one wa t.run) (by have:=hgr2.size;simp;omega) o_ ?_ (cz:=hxl);intro A2 c2 w6 hz6 happ)
   have hg6:=happ.gr [] W (G_ _) (hgr2.alloc (.cells #[i_ t.run] 2))
   have hb6:Bk w6 gt 53 t.g8:=happ.bk (hbt.alloc _) d_
   have hnw6:Os w6 t.nw.A t.nw.l:=happ.sl (hti2.nw.alloc _) d_
   clear happ hzr2 hgr2 hti2 hbt z1
   have z39:w6.cell? (c_ gt 39)=some (.slice t.nw.A t.nw.l.length t.nw.c):=(hb6.f_ 39).trans rfl
   go_wp2_with fail
   go_loopw [34] (λjv wr=>∃j:Nat,j<=t.nw.l.length/\jv=i_ j/\Gr [] w6 wr) (λjv _=>t.nw.l.length-(intOf jv).toNat)
   case atStart=>exact⟨0,N_ _,by go_num,D_ _ _⟩
   case round=>
    obtain⟨j,hj,rfl,hgx⟩:=hrel
    by_cases hjl:j<t.nw.l.length
    .obtain⟨b2,off2,hA2,hc0,hc1⟩:=(hnw6.g_ hgx).at_ hjl
     have hsp:=HSt.out j hjl
     generalize t.nw.l[j]=r at *;generalize t.nw.A=nA at *;subst hA2
     have hid:r.o.id<=9223372036854775807:=by
      have h1:=hsp.1;have h2:=of_decide_eq_true hsp.2.2.1;unfold tv at h1;rw[P_ (by omega)]at h1;have:=HBt.1;omega
     have hcall:=λW'=>qY r.o.id W' hid;simp only[hsp.1,hsp.2.1,hsp.2.2.1]at hcall;have HC:=h_ hcall;have HN:=h_ hsp.2.2.2;clear hcall hsp hid
     have hgw:=(hg6.trans hgx).alloc (.cells #[i_ r.o.id,.slice r.A r.o.fs.length r.c] 56)
     obtain⟨hq0,hq1⟩:=(L_ wr 56 #[i_ r.o.id,.slice r.A r.o.fs.length r.c]).iB
     have z1:(wr.alloc (.cells #[i_ r.o.id,.slice r.A r.o.fs.length r.c] 56)).cell? (c_ gt 1)=some (i_ t.run):=(((hb6.g_ hgx).alloc _).f_ 1).trans rfl
     have y5x:(wr.alloc (.cells #[i_ r.o.id,.slice r.A r.o.fs.length r.c] 56)).cell? (c_ gx 5)=some (.slice hA hl.length hc):=hgw.f_ y5 s_
     go_wp2_with (first
      |(go_at_call 13;refine(HC.out _).mono ?_;rintro e w7⟨rfl,rfl⟩)
      |(go_at_call 14;refine(HG.out _ _ hgw HN.out).mono ?_;rintro e w8⟨rfl,hg8⟩))
     go_roundw
     case rel=>exact⟨j+1,by omega,by go_num,((hgx.alloc _).trans hg8).alloc _⟩
     case measure=>simp[intOf];omega
    .go_wp2
     go_roundw
     case rel=>exact⟨i+1,xs++[t.run],A2,c2,by omega,by go_num,(by rw[H_,hxl];rfl),HX2,hz6.g_ hgx,hg6.trans hgx⟩
     case measure=>simp[intOf];omega
  .have hxe:xs=ts.map Tk.run:=by rw[HX.out,W_ (by omega)]
   have HDw:=h_ (HD.out wr hgr)
   have HLw:=h_ (λ(w':World)(h:Gr [] wr w')=>(show Calls prog 16 #[.agg #[.slice hA hl.length hc],.slice A i c] w' (jF [] w') from by
    have q:=HL.out w' A c (hgr.trans h) (by rw[<-hxe];exact hzr.ls.g_ h);rw[<-hxe,hxl]at q;exact q))
   have y5w:wr.cell? (c_ gx 5)=some (.slice hA hl.length hc):=hgr.f_ y5 s_
   clear hxe HD HL HS HG HB HX hzr hT
   go_wp2_with (first
    |(go_at_call 15;refine HDw.out.mono ?_;unfold jF;rintro e wd⟨A3,c3,rfl,_,_,hgd⟩;have y5d:=hgd.f_ y5w s_)
    |(go_at_call 16;refine(HLw.out _ hgd).mono ?_;unfold jF;rintro e we⟨A4,c4,rfl,_,_,hge⟩))
   rw[HQ.out];exact⟨rfl,hG.trans (hgr.trans (hgd.trans hge))⟩
end Go.Proofs.YtenbhdilndfaeaaGreat
