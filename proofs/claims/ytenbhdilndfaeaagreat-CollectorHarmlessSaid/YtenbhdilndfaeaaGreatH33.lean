import Derived.Test.YtenbhdilndfaeaaGreatH30
set_option maxRecDepth 100000
set_option maxHeartbeats 0
set_option linter.all false
namespace Go.Proofs.YtenbhdilndfaeaaGreat
open Go.RowKit Go.Proofs.Tryz
section
variable{d:QS}{l:QR}
def MR{G:Prop} (h:G:=by
 rintro((a|a)|a);exact .inl<|.inl a;exact .inr a;exact .inl<|.inr a):G:=h
def t_{h:QQ}{id f:Int}{v:Vl}:ie (kC h id f v)=ie h:=by
 unfold ie kC;exact Np
def vZ(h:QQ)(c:Cl):ie (oi h c)=ie h:=by
 unfold oi;split;rfl;exact t_
def j2:∀(l:QV) (h:QQ),ie (iL h l)=ie h
 |[],_=>rfl
 |c::l,h=>(j2 l<|oi h c).trans<|vZ h c
def xe(h:QQ)(d:Dl):ie (na h d)=ie h:=by
 unfold na;split;rfl;split
 .exact t_
 rfl
def pR:∀(l:QC) (h:QQ),ie (jz h l)=ie h
 |[],_=>rfl
 |d::l,h=>(pR l<|na h d).trans<|xe h d
def td{h:QQ}{id:Int}(f:¬jx h id<0):∃b:(jx h id).toNat<h.length,h[(jx h id).toNat].id=id:=by
 rcases nc h id with⟨a,_⟩|⟨g,b,i,c⟩
 exact GR a f;have e:(jx h id).toNat=g:=X;simp only[e];refine⟨b,?_⟩;have:=List.find?_some c;exact NW
def B7(h:QQ)(c:Ob)(n:Int):n∈ie (kS h c)↔n∈ie h\/n=c.id:=by
 unfold kS;split;unfold ie;simp only[GN,Hs,H3,X_,J_];have e:n∈h.map (·.id)↔n∈(h.take<|mI h c.id).map (·.id)\/n∈(h.drop<|mI h c.id).map (·.id):=by
  rw[<-X_,<-GN,HE]
 rw[e];constructor;exact MR;exact MR;rename_i i;obtain⟨j,g⟩:=td i;generalize (jx h c.id).toNat=b at*;unfold ie;simp only[GN,Hs,H3,X_,J_];have e:n∈h.map (·.id)↔n∈(h.take b).map (·.id)\/n=h[b].id\/n∈(h.drop<|b+1).map (·.id):=by
  have k:h=h.take b++h[b]::h.drop (b+1):=by rw[<-W_ j,HE]
  have f:h.map (·.id)=(h.take b).map (·.id)++h[b].id::(h.drop<|b+1).map (·.id):=by
   have:=GG (List.map (·.id)) k;rwa [GN,Hs]at this
  rw[f,X_,N_]
 rw[e,g];constructor;rintro((a|a)|a)
 .exact .inl<|.inl a
 exact .inr a;exact .inl<|.inr<|.inr a;rintro((a|a|a)|a)
 .exact .inl<|.inl a
 exact .inl<|.inr a;exact .inr a;exact .inl<|.inr a
def wV:∀(l h:QQ) (n:Int),n∈ie (l.foldl kS h)↔n∈ie h\/n∈ie l
 |[],h,n=>by simp[ie]
 |b::l,h,n=>by
  rw[H7,wV l,B7];unfold ie;rw[Hs,N_];constructor;rintro((a|a)|a)
  .exact .inl a
  exact .inr<|.inl a;exact .inr<|.inr a;rintro(a|a|a)
  .exact .inl<|.inl a
  exact .inl<|.inr a;exact .inr a
def tS{h:QQ}{t:iP}{n:Int}:n∈ie (kG h t)↔n∈ie h\/n∈ie t.nw:=by
 unfold kG;rw[pR,j2];exact wV _ _ _
def EV(h:QQ)(n:Int):Prop:=n=0\/n∈ie h
def qW(t:iP):Prop:=ie t.nw=(List.range t.nw.length).map λk:Nat=>(t.run+1)*1048576+(k:Int)
def qW.step{c:QR}{hH hC:Int}{t:iP}{view:QQ}{P:Int->Prop}(h0:P 0)(k:HG P view)(j:TG (λn=>P n\/n∈ie t.nw) t)(g:qW t):
 TG (λn=>P n\/n∈ie (iT c hH hC d t view).nw) (iT c hH hC d t view)/\qW (iT c hH hC d t view):=by
 have i:=lu c hH hC d t view;rcases j.step (k.mono λn h=>.inl h) (.inl h0) c hH hC d with⟨e,b⟩|⟨e,b⟩
 have b:ie (iT c hH hC d t view).nw=ie t.nw:=b;have f:(iT c hH hC d t view).nw.length=t.nw.length:=by have:=GG List.length b;unfold ie at this;simpa using this
 refine⟨e.mono λn h=>by rw[b];exact h,?_⟩;unfold qW;rw[b,f,i];exact g;have b:ie (iT c hH hC d t view).nw=ie t.nw++[qN t]:=b;have f:(iT c hH hC d t view).nw.length=t.nw.length+1:=by have:=GG List.length b;unfold ie at this;simpa using this
 refine⟨e.mono λn h=>by rw[b];rcases h with(h|h)|h;exact .inl h;exact .inr<|GZ _ h;exact .inr<|G5 _<|J_.2 h,?_⟩;unfold qW at g ⊢;rw[b,f,i,List.range_succ,GN,g];rfl
def qW.runs{l:QR}{hH hC:Int}{d:QS}{view:QQ}{P:Int->Prop}(h0:P 0)(f:HG P view):∀(n:Nat) (t:iP),TG (λn=>P n\/n∈ie t.nw) t->qW t->
 TG (λm=>P m\/m∈ie (oB l hH hC d view n t).nw) (oB l hH hC d view n t)/\qW (oB l hH hC d view n t)
 |0,_,e,b=>⟨e,b⟩
 |n+1,t,e,b=>by
  unfold oB;split;have h:=qW.step (c:=l) (hH:=hH) (hC:=hC) (d:=d) h0 f e b;exact qW.runs h0 f n _ h.1 h.2;exact⟨e,b⟩
def wI{l:QR}{hH hC:Int}{d:QS}{view:QQ}:∀(n:Nat) (t:iP),(oB l hH hC d view n t).run=t.run
 |0,_=>rfl
 |n+1,t=>by
  unfold oB;split;rw[wI n];exact lu _ _ _ _ _ _;rfl
def vA(l:QR)(hH hC hT run:Int)(ip:Bool):(jm l hH hC hT run ip).1.nw=[]:=by
 unfold jm;split
 .rfl
 split
 .rfl
 split<;>rfl
def qW.begin{hH hC hT run:Int}{ip:Bool}:qW (jm l hH hC hT run ip).1:=by
 unfold qW;rw[vA];rfl
def qW.at{t:iP}(h:qW t){n:Int}(b:n∈ie t.nw):∃k:Nat,k<t.nw.length/\n=(t.run+1)*1048576+(k:Int):=by
 unfold qW at h;rw[h]at b;obtain⟨k,e,c⟩:=GJ.1 b;exact⟨k,Ho.1 e,c.symm⟩
def yT(run n:Int):Prop:=n=1\/n=2\/∃r j:Int,0<=r/\r<run/\0<=j/\j<1048576/\n=(r+1)*1048576+j
def yT.mono{a b n:Int}(h:yT a n)(k:a<=b):yT b n:=by
 rcases h with h|h|⟨g,f,c,i,e⟩
 exact .inl h;exact .inr<|.inl h;exact .inr<|.inr ⟨g,f,c,X,e⟩
def xF(l:QR)(hH hC:Int)(c:QS)(s:qB):(n6 l hH hC c s).1.h=[]\/ie (n6 l hH hC c s).1.h=ie s.h:=by
 unfold n6;split
 .exact .inl rfl
 split
 .exact .inl rfl
 rename_i e;have d:=(ur e).2.1;have b:(kR l hH hC s.hT ja s.h 0).nw=[]:=(vo (P:=λ_=>True) l hH hC s.hT 0 d trivial (λg _=>⟨trivial,λi _ _=>trivial⟩) λf _=>trivial).2;unfold oT;right;split
 .exact vZ _ _
 split;show ie (lk s.h _)=_;unfold lk;rw[b,j2];rfl;show ie (lk s.h _)=_;unfold lk;rw[b,j2];rfl
structure CI(run:Int)(h:QQ):Prop where
 cl:HG (EV h) h
 old:∀n∈ie h,yT run n
def CI.nil(run:Int):CI run []:=⟨HG.nil,λc b=>by cases b⟩
def vH.ci{hH hC:Int}{j:QS}{k:Nat}{run:Int}{s:qB}(u:ih l hH hC=true)(t:l.length<=2048)(h:vH l hH hC d j k run s):0<=run/\CI run s.h:=by
 induction h with
 |hT=>
  refine⟨Hl _,?_,?_⟩;show HG (EV<|startHeap hH) (startHeap hH);exact HG.hT hH (.inl rfl) (.inr<|by simp[startHeap,ie]) (.inr<|by simp[startHeap,ie]);show ∀c∈ie (startHeap hH),yT 0 c;intro c e;simp[startHeap,ie]at e;rcases e with h|h
  exact .inl h;exact .inr<|.inl h
 |ask h r p b=>
  rename_i k run s;refine⟨b.1,?_⟩;rcases xF l hH hC j s with f|f
  rw[f];exact CI.nil _;refine⟨(HG.n6 l hH hC j (.inl rfl) b.2.cl).mono λc e=>e.imp id λq=>by rw[f];exact q,λc e=>b.2.old c<|by rw[<-f];exact e⟩
 |commit h r p b=>
  rename_i k run s;refine⟨ov b.1,?_⟩;obtain⟨g,i⟩:=qW.runs (l:=l) (hH:=hH) (hC:=hC) (d:=d) (view:=s.h) (P:=EV s.h) (.inl rfl) b.2.cl (todo l (jm l hH hC s.hT run true).1+1) (jm l hH hC s.hT run true).1 (TG.begin _ _ _ _ _ _) qW.begin;have w:(nu l hH hC d s run).run=(jm l hH hC s.hT run true).1.run:=wI _ _;have x:=nZ l hH hC s.hT run true;have y:=(r9 (d:=d) u t s run).sm.nw;have g:TG (λo=>EV s.h o\/o∈ie (nu l hH hC d s run).nw) (nu l hH hC d s run):=g;have i:qW (nu l hH hC d s run):=i;generalize nu l hH hC d s run=m at *
  have n:CI (run+1) (kG s.h m):=by
   refine⟨(g.kG<|b.2.cl.mono λc h=>.inl h).mono ?_,?_⟩;rintro c((h|h)|h)
   .exact .inl h
   exact .inr<|(tS).2<|.inl h;exact .inr<|(tS).2<|.inr h;intro c e;rcases(tS).1 e with h|h
   exact(b.2.old c h).mono<|X;obtain⟨v,z,f⟩:=i.at h;have:=b.1;exact .inr<|.inr ⟨m.run,v,X,X,X,X,f⟩
  unfold kY;rw[K_<|I];split
  .exact CI.nil _
  split
  .exact CI.nil _
  show CI (run+1) (l7 s m).h;unfold l7;split;exact n;exact n
def TG.top(Q:Int->Prop)(t:iP):TG (λn=>True\/Q n) t:=
 have b:∀c:Vl,GV (λn=>True\/Q n) c:=λc _=>.inl trivial
 ⟨λe _=>b _,λe _=>⟨.inl<|.inl trivial,b _⟩,λe _=>⟨.inl<|.inl trivial,b _⟩,λg _=>⟨.inl trivial,λc _=>b c⟩,λf=>b _,b _⟩
def vD.own{hH hC:Int}{h:QQ}{run:Int}{n:Nat}{ts:QA}(m:ih l hH hC=true)(i:vD l hH hC d h run n ts):∀t∈ts,qW t/\run<=t.run:=by
 induction i with
 |hT ts q j=>
  intro t b;obtain⟨c,e,g⟩:=HP b;obtain⟨p,o,k,f⟩:=j c e;rw[<-g,f];refine⟨qW.begin,?_⟩;have:(jm l hH hC p (run+c) o).1.run=run+c:=by
   unfold jm;rw[K_ (by rw[m];decide),K_<|by rw[k.1];decide];split<;>rfl
  rw[this];omega
 |step c e j k f=>
  intro t b;rcases GX b with b|b
  exact f t b;have g:=f _<|P_ e;rw[b];refine⟨(qW.step (P:=λ_=>True) trivial (λo _=>⟨trivial,λp _ _=>trivial⟩) (TG.top _ _) g.1).2,?_⟩;rw[lu];exact g.2
end
section
variable{G:Prop}{l:QV}{y:XP}{V:QQ}{g:Nat}{cs:Array Value}
def Kz(h:G:=by
 have w2:=w1.write (i:=1) (f:=2) (v:=v) (v':=v) (λ_=>.inr rfl) λ_=>⟨rfl,aN⟩;rcases w2 with⟨q,q'⟩|⟨aY,bj,bH,bZ⟩
 exact NU;refine .inr ⟨aY,bj.uF _ _ _ _ _ _ bj.v GV.ja,bH,?_⟩;rw[bZ]):G:=h
def LS(h:G:=by
 have bD:y.hM=true:=by rcases q with q|⟨q,_⟩;exact q.1;rw[hb]at q;cases q
 rw[L_ hb,L_ bD];exact .inl ⟨bD,hb⟩):G:=h
def My(h:G:=by
 go_enter func69,ntmps69;go_wp2;refine en_ ?_;rw[ax.out,aL.out,IT];exact⟨rfl,hh,.jS N2⟩):G:=h
def Mz(h:G:=by
 injection h with h;subst h;exact⟨rfl,λy q=>.inl q,λy q=>.inl q,hg,kd,λc q=>q⟩):G:=h
def Nn(h:G:=by
 rcases nT hy with q|q
 exact .inl q;exact .inr<|by rw[q];rfl):G:=h
def Nx(h:G:=by
 exact⟨s.fault g h1 _,rfl,λq=>by cases q⟩):G:=h
def NU(h:G:=by
 exact .inl ⟨q,q'⟩):G:=h
def lw(h:QQ):Prop:=(ie h).Pairwise (· < ·)
def w_:∀(h:QQ) (n:Int),∀x∈ie (h.take<|mI h n),x<n
 |[],_,x,c=>by simp[ie]at c
 |d::h,n,x,c=>by
  unfold mI at c;split at c;rw[IQ]at c;rcases N_.1 c with rfl|c
  assumption;exact w_ h n x c;simp[ie]at c
def xa:∀{h:QQ} {n:Int},lw h->n∉ie h->∀x∈ie (h.drop<|mI h n),n<x
 |[],_,_,_,x,c=>by simp[ie]at c
 |e::h,n,k,f,x,c=>by
  have i:=Jg.1 (show(e.id::ie h).Pairwise (· < ·) from k);have m:n≠e.id:=λd=>f (by rw[d];exact GT);have j:n∉ie h:=λd=>f<|Z_ _ d;unfold mI at c;split at c;rw[List.drop_succ_cons]at c;exact xa (h:=h) i.2 j x c;rw[List.drop_zero]at c;rcases N_.1 c with rfl|c
  show n<e.id;omega;have:=i.1 x c;omega
def ud{h:QQ}{n:Int}(i:jx h n<0):n∉ie h:=λe=>by
 obtain⟨k,d⟩:=oh.1 e;rcases nc h n with⟨_,c⟩|⟨j,_,f,_⟩
 rw[d]at c;cases c
 omega
def lw.put{h:QQ}(e:lw h)(c:Ob):lw (kS h c):=by
 unfold kS;split;rename_i f;have m:=w_ h c.id;have i:=xa e<|ud f;have j:(ie<|h.take<|mI h c.id).Pairwise (· < ·):=by unfold ie;rw[List.map_take];exact List.Pairwise.sublist (List.take_sublist _ _) e
 have k:(ie<|h.drop<|mI h c.id).Pairwise (· < ·):=by unfold ie;rw[List.map_drop];exact List.Pairwise.sublist (List.drop_sublist _ _) e
 unfold lw ie at*;rw[GN,GN,Hq,IP];refine⟨j,Jg.2 ⟨i,k⟩,λa n b d=>?_⟩;have:=m a n;rcases N_.1 d with rfl|d
 exact this;exact Int.lt_trans this<|i b d;rename_i f;obtain⟨m,k⟩:=td f;generalize (jx h c.id).toNat=d at*
 have j:ie (h.take d++[c]++h.drop (d+1))=ie h:=by
  unfold ie;have n:h=h.take d++h[d]::h.drop (d+1):=by rw[<-W_ m,HE]
  have i:=GG (List.map (·.id)) n;rw[GN,Hs,k]at i;rw[i];simp
 unfold lw;rw[j];exact e
def lw.puts:∀(l:QQ) {h:QQ},lw h->lw (l.foldl kS h)
 |[],_,c=>c
 |d::l,_,c=>lw.puts l<|c.put d
def lw.kG{h:QQ}(c:lw h)(t:iP):lw (kG h t):=by
 unfold lw Go.Proofs.YtenbhdilndfaeaaGreat.kG;rw[pR,j2];exact c.puts _
def vH.Gq{l:QR}{hH hC:Int}{d f:QS}{k:Nat}{run:Int}{s:qB}(h:vH l hH hC d f k run s):lw s.h:=by
 have a:lw []:=List.Pairwise.nil;induction h with
 |hT=>show lw (startHeap hH);unfold lw startHeap ie;simp
 |ask h j i c=>
  rename_i k run s;rcases xF l hH hC f s with e|e
  rw[e];exact a;unfold lw;rw[e];exact c
 |commit h j i c=>
  rename_i k run s;unfold kY;rw[K_ I];split
  .exact a
  split
  .exact a
  show lw (l7 s _).h;unfold l7;split<;>exact c.kG _
def lw.get{h:QQ}(j:lw h):∀{c:Ob},c∈h->jy h c.id=some c:=by
 induction h with
 |nil=>intro c d;cases d
 |cons a h f=>
  intro c d;have e:=Jg.1 (show(a.id::ie h).Pairwise (· < ·) from j);unfold jy;rw[List.find?_cons];rcases N_.1 d with rfl|d
  simp;have:=e.1 c.id<|GJ.2 ⟨c,d,rfl⟩;have i:(a.id==c.id)=false:=p_;rw[i];exact f e.2 d
def lw.nodup{h:QQ}(c:lw h):(ie h).Nodup:=c.imp λh=>Int.ne_of_lt h
def rp{h:QQ}(v:(ie h).Nodup){i:Int}(s:i∈ie h)(F:Ob->Ob)(p:∀c,(F c).id=c.id)(n:Int):
 jy (h.modify (jx h i).toNat F) n=if n=i then(jy h i).map F else jy h n:=by
 have e:h.modify (jx h i).toNat F=h.map λc=>if c.id=i then F c else c:=by
  rcases nc h i with⟨_,b⟩|⟨m,u,a,b⟩
  .obtain⟨c,d⟩:=oh.1 s;rw[b]at d;cases d
  have o:h[m].id=i:=ph b;rw[a,Hh];apply H1;simp;intro k r B;have t:k<h.length:=by simpa using r
  rw[Hy,HF];by_cases d:m=k;subst d;rw[L_ rfl,L_ o];rw[K_ d,K_];intro e;have z:(ie h)[m]'(by unfold ie;simpa using u)=(ie h)[k]'(by unfold ie;simpa using t):=by unfold ie;rw[HF,HF,o,e]
  exact d<|(List.getElem_inj v).1 z
 rw[e];unfold jy;rw[List.find?_map];have q:((λc:Ob=>c.id==n)∘λc=>if c.id=i then F c else c)=λc:Ob=>c.id==n:=by
  funext c;simp only[Function.comp];split;rw[p];rfl
 rw[q];by_cases j:n=i
 .subst j;rw[L_ rfl];cases f:h.find? (λc:Ob=>c.id==n)with
  |none=>rfl
  |some c=>
   have:c.id=n:=ph f;simp[this]
 rw[K_ j];cases f:h.find? (λc:Ob=>c.id==n)with
 |none=>rfl
 |some c=>
  have:c.id=n:=ph f;simp[this,j]
def ue(h:QQ)(c:Ob)(n:Int)(v:(ie h).Nodup):jy (kS h c) n=if n=c.id then some c else jy h n:=by
 have q:∀(l:QQ),c.id∉ie l->l.find? (λx:Ob=>x.id==c.id)=none:=by
  intro l u;rw[List.find?_eq_none];intro x o;simp only[beq_iff_eq];intro d;exact u<|GJ.2 ⟨x,o,d⟩
 unfold kS;split;rename_i m;have e:=ud m;have j:c.id∉ie (h.take<|mI h c.id):=λi=>e (by obtain⟨x,o,d⟩:=GJ.1 i;exact GJ.2 ⟨x,Hk o,d⟩);unfold jy;rw[Iw,Iw];by_cases f:n=c.id;subst f;rw[L_ rfl,q _ j];simp;rw[K_ f];have d:[c].find? (λx:Ob=>x.id==n)=none:=by simp;exact λd=>f d.symm
 rw[d];have i:h.find? (λx:Ob=>x.id==n)=(h.take (mI h c.id)++h.drop (mI h c.id)).find? (λx:Ob=>x.id==n):=by rw[HE]
 rw[i,Iw];simp;rename_i m;obtain⟨t,p⟩:=td m;generalize (jx h c.id).toNat=e at *
 have i:h=h.take e++h[e]::h.drop (e+1):=by rw[<-W_ t,HE]
 have j:c.id∉ie (h.take e):=by
  intro r;have k:(ie<|h.take e++h[e]::h.drop (e+1)).Nodup:=by rw[<-i];exact v
  unfold ie at k;rw[GN,HR]at k;exact k.2.2 _ r _ (GJ.2 ⟨h[e],GT,p⟩) rfl
 unfold jy;rw[Iw,Iw];by_cases f:n=c.id;subst f;rw[L_ rfl,q _ j];simp;rw[K_ f];have d:[c].find? (λx:Ob=>x.id==n)=none:=by simp;exact λd=>f d.symm
 rw[d];have s:h.find? (λx:Ob=>x.id==n)=(h.take e++h[e]::h.drop (e+1)).find? (λx:Ob=>x.id==n):=by rw[<-i]
 rw[s,Iw,List.find?_cons,show(h[e].id==n)=false by rw[p];simpa using λd=>f d.symm];simp
def Cd(o:Option Ob)(f:Int):Option Vl:=match o with
 |none=>none
 |some o=>if f<0 then none else o.fs[f.toNat]?
def lF(h:QQ)(i f:Int):iw h i f=Cd (jy h i) f:=rfl
def r6{h:QQ}(d:(ie h).Nodup)(c:Cl):(ie<|oi h c).Nodup:=by rw[vZ];exact d
def rn{h:QQ}{i f:Int}{v:Vl}(e:iw h i f=some v):i∈ie h:=by
 obtain⟨j,d,_,c,_⟩:=mQ e;exact oh.2 ⟨_,c⟩
def wf1(i f:Int)(a:Vl)(c:Cl):Vl:=if c.id=i/\c.f=f then c.v else a
def pF(ws:QV)(i f:Int)(a:Vl):Vl:=ws.foldl (wf1 i f) a
def vr{h:QQ}(q:(ie h).Nodup)(c:Cl)(i f:Int):iw (oi h c) i f=(iw h i f).map λa=>wf1 i f a c:=by
 unfold oi;cases e:iw h c.id c.f with
 |none=>
  simp only;cases j:iw h i f with
  |none=>rfl
  |some a=>
   show some a=some (wf1 i f a c);unfold wf1;rw[K_];rintro⟨d,k⟩;rw[d,k,j]at e;cases e
 |some z=>
  simp only;obtain⟨r,u,s,p,v,n,t⟩:=mQ e;rw[lF,lF];unfold kC;rw[rp q (rn e) (λo=>⟨o.id,o.fs.set c.f.toNat c.v⟩) λ_=>rfl];by_cases k:i=c.id
  .subst k;rw[L_ rfl,p];simp only[IC,Cd];by_cases d:f<0;rw[L_ d,L_ d];rfl;rw[K_ d,K_ d,IJ];by_cases b:c.f=f;subst b;rw[L_ rfl,L_ n,O_ n];show some c.v=some (wf1 _ _ _ _);unfold wf1;rw[L_ ⟨rfl,rfl⟩];rw[K_<|by omega];cases j:h[r].fs[f.toNat]? with
   |none=>rfl
   |some a=>show some a=some (wf1 _ _ _ _);unfold wf1;rw[K_ λm=>b m.2]
  rw[K_ k];cases j:Cd (jy h i) f with
  |none=>rfl
  |some a=>show some a=some (wf1 _ _ _ _);unfold wf1;rw[K_ λm=>k m.1.symm]
def oE:∀(ws:QV) {h:QQ} (_:(ie h).Nodup) (i f:Int),iw (iL h ws) i f=(iw h i f).map (pF ws i f)
 |[],h,_,i,f=>by
  show iw h i f=(iw h i f).map (pF [] i f);cases iw h i f<;>rfl
 |c::ws,h,d,i,f=>by
  show iw (iL (oi h c) ws) i f=_;rw[oE ws<|r6 d c,vr d];cases iw h i f<;>rfl
def uA{h:QQ}(c:(ie h).Nodup)(ws:QV):(ie<|iL h ws).Nodup:=by rw[j2];exact c
def An{h:QQ}(d:lw h)(c:Ob)(i f:Int):iw (kS h c) i f=if i=c.id then Cd (some c) f else iw h i f:=by
 rw[lF,ue h c i d.nodup,lF];split<;>rfl
def ub:∀(nw:QQ) {h:QQ} (_:lw h) (_:(ie nw).Nodup) (i f:Int),iw (nw.foldl kS h) i f=if i∈ie nw then iw nw i f else iw h i f
 |[],h,_,_,i,f=>by simp[ie]
 |c::nw,h,n,q,i,f=>by
  have m:=H5.1 (show(c.id::ie nw).Nodup from q);rw[H7,ub nw (n.put c) m.2,An n];have p:iw (c::nw) i f=if i=c.id then Cd (some c) f else iw nw i f:=by
   rw[lF,lF];unfold jy;rw[List.find?_cons];by_cases j:i=c.id;rw[L_ j,show(c.id==i)=true by simp[j]];rw[K_ j,show(c.id==i)=false by simpa using λo=>j o.symm]
  rw[p];have k:i∈ie (c::nw)↔i=c.id\/i∈ie nw:=N_;by_cases d:i=c.id;have e:i∉ie nw:=by rw[d];exact m.1
  rw[K_ e,L_ d,L_<|k.2<|.inl d,L_ d];by_cases e:i∈ie nw
  .rw[L_ e,L_<|k.2<|.inr e,K_ d]
  rw[K_ e,K_ d,K_ λo=>(k.1 o).elim d e]
def Ag(A:Int->Prop)(h h':QQ):Prop:=∀n,A n->jy h n=jy h' n
section
variable{A:Int->Prop}{h h':QQ}
def Ag.rd(g:Ag A h h'){i:Int}(c:A i)(f:Int):iw h i f=iw h' i f:=by rw[lF,lF,g i c]
def p2{h:QQ}(i:(ie h).Nodup){c:Cl}{n:Int}(e:n≠c.id):jy (oi h c) n=jy h n:=by
 unfold oi;cases f:iw h c.id c.f with
 |none=>rfl
 |some j=>simp only;unfold kC;rw[rp i (rn f) (λd=>⟨d.id,d.fs.set c.f.toNat c.v⟩) λ_=>rfl,K_ e]
def Ag.oi(g:Ag A h h')(k:(ie h).Nodup)(m:(ie h').Nodup)(c:Cl):Ag A (oi h c) (oi h' c):=by
 intro n f;by_cases i:n=c.id
 .subst i;have e:=g.rd f c.f;unfold Go.Proofs.YtenbhdilndfaeaaGreat.oi;cases j:iw h c.id c.f with
  |none=>rw[j]at e;rw[<-e];exact g _ f
  |some o=>
   rw[j]at e;rw[<-e];simp only;unfold kC;rw[rp k (rn j) (λd=>⟨d.id,d.fs.set c.f.toNat c.v⟩) λ_=>rfl,rp m (rn e.symm) (λd=>⟨d.id,d.fs.set c.f.toNat c.v⟩) λ_=>rfl,L_ rfl,L_ rfl,g _ f]
 rw[p2 k i,p2 m i];exact g n f
def Ag.iL:∀(ws:QV) {h h':QQ},Ag A h h'->(ie h).Nodup->(ie h').Nodup->Ag A (iL h ws) (iL h' ws)
 |[],_,_,g,_,_=>g
 |c::ws,_,_,g,d,e=>Ag.iL ws (g.oi d e c) (r6 d c)<|r6 e c
def Ag.puts:∀(l:QQ) {h h':QQ},Ag A h h'->lw h->lw h'->Ag A (l.foldl kS h) (l.foldl kS h')
 |[],_,_,g,_,_=>g
 |c::l,h,h',g,d,e=>Ag.puts l (λn f=>by rw[ue h c n d.nodup,ue h' c n e.nodup,g n f]) (d.put c)<|e.put c
def ua(h:QQ)(d:Dl):na h d=match iw h d.id d.f with
 |none=>h
 |some v=>if(iA d.op v d.v).2=0 then oi h ⟨d.id,d.f,(iA d.op v d.v).1⟩ else h:=by
 unfold na;cases c:iw h d.id d.f with
 |none=>rfl
 |some v=>simp only;unfold oi;simp only[c]
def Ag.na(g:Ag A h h')(i:(ie h).Nodup)(m:(ie h').Nodup)(d:Dl):Ag A (na h d) (na h' d):=by
 rw[ua,ua];by_cases k:A d.id
 .rw[<-g.rd k];cases iw h d.id d.f with
  |none=>exact g
  |some j=>simp only;split
           .exact g.oi i m _
           exact g
 have f:∀{h:QQ} (_:(ie h).Nodup) {c:Int},A c->jy (match iw h d.id d.f with |none=>h |some j=>if(iA d.op j d.v).2=0 then Go.Proofs.YtenbhdilndfaeaaGreat.oi h ⟨d.id,d.f,(iA d.op j d.v).1⟩ else h) c=jy h c:=by
  intro h i c e;have n:c≠d.id:=λf=>k<|f▸e;cases iw h d.id d.f with
  |none=>rfl
  |some j=>simp only;split
           .exact p2 i n
           rfl
 intro c e;rw[f i e,f m e];exact g c e
def qQ{h:QQ}(c:(ie h).Nodup)(d:Dl):(ie<|na h d).Nodup:=by rw[xe];exact c
def Ag.jz:∀(l:QC) {h h':QQ},Ag A h h'->(ie h).Nodup->(ie h').Nodup->Ag A (jz h l) (jz h' l)
 |[],_,_,g,_,_=>g
 |d::l,_,_,g,c,e=>Ag.jz l (g.na c e d) (qQ c d)<|qQ e d
def qd(rs:QV)(h:QQ)(c:Cl):ie (j0 rs h c)=ie h:=by
 unfold j0;split;exact j2 _ _;rfl
def ou(rs:QV):∀(l:QV) (h:QQ),ie (l.foldl (j0 rs) h)=ie h
 |[],_=>rfl
 |c::l,h=>(ou rs l _).trans<|qd rs h c
def Ag.zn{rs:QV}:∀(l:QV) {h h':QQ},Ag A h h'->(ie h).Nodup->(ie h').Nodup->Ag A (l.foldl (j0 rs) h) (l.foldl (j0 rs) h')
 |[],_,_,g,_,_=>g
 |c::l,h,h',g,d,e=>by
  refine Ag.zn l ?_ (by rw[qd];exact d) (by rw[qd];exact e);unfold j0;split;exact Ag.iL [c] g d e;exact g
def yO(t:iP)(h:QQ):ie (before t h)=ie h:=by unfold before;rw[j2,ou]
def mS{t:iP}{h:QQ}(c:lw h):lw (before t h):=by unfold lw;rw[yO];exact c
def Ag.before(g:Ag A h h')(c:lw h)(d:lw h')(t:iP):Ag A (before t h) (before t h'):=
 Ag.iL _ (g.zn _ c.nodup d.nodup) (by rw[ou];exact c.nodup) (by rw[ou];exact d.nodup)
def Ag.iR(g:Ag A h h')(c:lw h)(d:lw h')(t:iP):Ag A (iR t h) (iR t h'):=by
 have f:=lw.puts t.nw<|mS (t:=t) c;have e:=lw.puts t.nw<|mS (t:=t) d;refine Ag.jz _ (Ag.iL _ (Ag.puts _ (g.before c d t) (mS c)<|mS d) f.nodup e.nodup) ?_ ?_;rw[j2];exact f.nodup;rw[j2];exact e.nodup
def Ag.kG(g:Ag A h h')(d:lw h)(e:lw h')(t:iP):Ag A (kG h t) (kG h' t):=by
 have f:=lw.puts t.nw d;have c:=lw.puts t.nw e;refine Ag.jz _ (Ag.iL _ (Ag.puts _ g d e) f.nodup c.nodup) ?_ ?_;rw[j2];exact f.nodup;rw[j2];exact c.nodup
def Ag.DQ:∀(l:QA) {h h':QQ},Ag A h h'->lw h->lw h'->Ag A (l.foldl Go.Proofs.YtenbhdilndfaeaaGreat.kG h) (l.foldl Go.Proofs.YtenbhdilndfaeaaGreat.kG h')
 |[],_,_,g,_,_=>g
 |t::l,_,_,g,c,d=>Ag.DQ l (g.kG c d t) (c.kG t)<|d.kG t
def qp:∀(l:QA) {h:QQ},lw h->lw (l.foldl Go.Proofs.YtenbhdilndfaeaaGreat.kG h)
 |[],_,c=>c
 |t::l,_,c=>qp l<|c.kG t
end
def SO(A:Int->Prop)(H H':QQ)(x x':XP):Prop:=(x.hM=true/\x'.hM=true)\/(x'.hM=false/\XF A x'/\x'.h=H'/\x={x' with h:=H})
section
variable{A:Int->Prop}{H H':QQ}{x x':XP}
def SO.mk{d:XP}(i:XO A d)(f:d.h=H')(e:y={d with h:=H}):SO A H H' y d:=by
 cases c:d.hM with
 |true=>exact .inl ⟨by rw[e];exact c,c⟩
 |false=>exact .inr ⟨c,i.resolve_left (by rw[c];decide),f,e⟩
def qi{x:XP}{i f:Int}(h:x.hM=true):(hQ x i f).1.hM=true:=by
 unfold hQ;split;rfl;split<;>exact h
def qE{x:XP}(h:x.hM=true):(hO x).1.hM=true:=by unfold hO iv;simp[h]
def lZ(x:XP)(i f:Int):(hQ x i f).1.h=x.h:=NE
def mt(x:XP):(hO x).1.h=x.h:=by
 unfold hO;simp only;split;rfl;show(hQ (iv x) 1 0).1.h=x.h;rw[lZ];rfl
def rL{x:XP}{H:QQ}{i f:Int}(e:iw H i f=iw x.h i f):hQ {x with h:=H} i f=({(hQ x i f).1 with h:=H},(hQ x i f).2):=by
 unfold hQ;simp only[e];cases iw x.h i f with
 |none=>rfl
 |some c=>simp only;split<;>rfl
def SO.read(g:Ag A H H')(s:SO A H H' x x'){i f:Int}(e:x'.hM=false->A i):
 SO A H H' (hQ x i f).1 (hQ x' i f).1/\((hQ x' i f).1.hM=false->(hQ x i f).2=(hQ x' i f).2/\GV A (hQ x' i f).2/\x'.hM=false):=by
 rcases s with⟨b,c⟩|⟨nb,n,d,rfl⟩
 exact⟨.inl ⟨qi b,qi c⟩,λj=>by rw[qi c]at j;cases j⟩;obtain⟨k,j⟩:=n.read i f<|.inl<|e nb;have m:=rL (x:=x') (H:=H) (i:=i) (f:=f) (by rw[d];exact g.rd (e nb) f);rw[m];exact⟨SO.mk k ((lZ _ _ _).trans d) rfl,λ_=>⟨rfl,j,nb⟩⟩
def SO.write(s:SO A H H' x x'){i f:Int}{v v':Vl}(k:x'.hM=false->A i\/i=1)(m:x'.hM=false->v=v'/\GV A v'):SO A H H' (h6 x i f v) (h6 x' i f v'):=by
 rcases s with⟨b,c⟩|⟨nb,d,j,rfl⟩
 exact .inl ⟨b,c⟩;obtain⟨rfl,e⟩:=m nb;exact .inr ⟨nb,d.write i f v (k nb) e,j,rfl⟩
def uO{x:XP}{H:QQ}(e:jy H 1=jy x.h 1):iv {x with h:=H}={iv x with h:=H}:=by
 unfold iv;simp only[e]
def SO.root(g:Ag A H H')(e:A 1)(s:SO A H H' x x'):SO A H H' (iv x) (iv x'):=by
 rcases s with⟨b,d⟩|⟨nb,f,c,rfl⟩
 exact .inl ⟨by unfold iv;simp[b],by unfold iv;simp[d]⟩;exact SO.mk (.inr f.root) c (uO<|by rw[c];exact g 1 e)
def SO.frame(g:Ag A H H')(p:A 1)(s:SO A H H' x x'):SO A H H' (hO x).1 (hO x').1/\((hO x').1.hM=false->(hO x).2=(hO x').2/\A (hO x').2.1/\x'.hM=false):=by
 rcases s with⟨b,n⟩|⟨nb,q,k,rfl⟩
 exact⟨.inl ⟨qE b,qE n⟩,λd=>by rw[qE n]at d;cases d⟩;obtain⟨t,r⟩:=q.frame;have B:iv {x' with h:=H}={iv x' with h:=H}:=uO (by rw[k];exact g 1 p);have o:(iv x').h=H':=k;have m:(hO {x' with h:=H}).1.hM=(hO x').1.hM/\((hO x').1.hM=false->hO {x' with h:=H}=({(hO x').1 with h:=H},(hO x').2)):=by
  unfold hO;rw[B];simp only;by_cases c:(iv x').hM=true
  .rw[L_ c,L_ c];exact⟨rfl,λ_=>rfl⟩
  rw[K_ c,K_ c];have j:=rL (x:=iv x') (H:=H) (i:=1) (f:=0) (by rw[o];exact g.rd p 0);rw[j];have v:=(q.root.read 1 0<|.inr rfl).2;have z:(hQ (iv x') 1 0).1.h=H':=(lZ _ _ _).trans o;generalize hQ (iv x') 1 0=y at *;simp only;cases u:y.2.r with
  |false=>
   have e:∀a b:Bool,(a||(!false||b))=true:=by intro a b;cases a<;>rfl
   refine⟨by rw[e,e],λd=>?_⟩;rw[e]at d;cases d
  |true=>
   have e:=v u;rw[z,g _ e];refine⟨rfl,λ_=>?_⟩;unfold iS;rw[g _ e]
 cases c:(hO x').1.hM with
 |true=>
  exact⟨.inl ⟨by rw[m.1];exact c,c⟩,λd=>by cases d⟩
 |false=>
  have j:=m.2 c;rw[j];exact⟨SO.mk t ((mt _).trans k) rfl,λ_=>⟨rfl,r c,nb⟩⟩
def SO.sp(s:SO A H H' x x')(k p t:Int)(c:Bool){v v':Vl}{r a:Nat->Vl}(q:x'.hM=false->v=v'/\GV A v')(o:x'.hM=false->r=a/\∀i,GV A<|a i):
 SO A H H' {x with e:={x.e with h7:=k,pc:=p,kw:=t,hX:=c,v:=v,r:=r}} {x' with e:={x'.e with h7:=k,pc:=p,kw:=t,hX:=c,v:=v',r:=a}}:=by
 rcases s with⟨b,f⟩|⟨nb,j,n,rfl⟩
 exact .inl ⟨b,f⟩;obtain⟨rfl,m⟩:=q nb;obtain⟨rfl,d⟩:=o nb;exact .inr ⟨nb,j.uF k p t c v r m d,n,rfl⟩
def SO.eqs(s:SO A H H' x x')(h:x'.hM=false):x={x' with h:=H}/\XF A x':=by
 rcases s with⟨b,c⟩|⟨nb,e,f,d⟩
 rw[h]at c;cases c
 exact⟨d,e⟩
def SO.throw(g:Ag A H H')(R:A 1)(s:SO A H H' x x'){v v':Vl}(S:x'.hM=false->v=v'/\GV A v'):SO A H H' (iX x v) (iX x' v'):=by
 obtain⟨N,M⟩:=s.frame g R;have D:=N;unfold iX;simp only;generalize hO x=a at *;generalize hO x'=c at *
 cases j:c.1.hM with
 |true=>
  have p:a.1.hM=true:=by rcases D with q|⟨q,_⟩;exact q.1;rw[j]at q;cases q
  rw[L_ p,L_ rfl];exact .inl ⟨p,j⟩
 |false=>
 obtain⟨W,C,nb⟩:=M j;have p:a.1.hM=false:=by rw[(D.eqs j).1];exact j
 rw[K_ (by rw[p];decide),K_ (show ¬((false:Bool)=true) from Bool.false_ne_true),W];obtain⟨rfl,aN⟩:=S nb;obtain⟨z,X⟩:=D.read g (i:=c.2.1) (f:=2) λ_=>C;generalize hQ a.1 c.2.1 2=b at *;generalize hQ c.1 c.2.1 2=B at *
 cases t:B.1.hM with
 |true=>
  have d:b.1.hM=true:=by rcases z with q|⟨q,_⟩;exact q.1;rw[t]at q;cases q
  have o:∀{b:XP × Vl},b.1.hM=true->(if b.2.r=true\/(b.2.n≠0/\i0 b.1.ju b.2.n=false) then kl b.1 else if b.2.n≠0 then{h6 (h6 b.1 c.2.1 2 default) 1 2 v with e:={(h6 (h6 b.1 c.2.1 2 default) 1 2 v).e with pc:=b.2.n,r:=ja}} else if(hQ b.1 c.2.1 0).2.r=false then kl (hQ b.1 c.2.1 0).1 else if(hQ b.1 c.2.1 0).2.n=0 then{(hQ b.1 c.2.1 0).1 with e:={(hQ b.1 c.2.1 0).1.e with h7:=2,hX:=true,v:=v,pc:=(hQ b.1 c.2.1 0).1.j4,r:=(hQ b.1 c.2.1 0).1.sr}} else{h6 (h6 (hQ b.1 c.2.1 0).1 1 0 (hQ b.1 c.2.1 0).2) 1 2 v with e:={(h6 (h6 (hQ b.1 c.2.1 0).1 1 0 (hQ b.1 c.2.1 0).2) 1 2 v).e with h7:=1,kw:=(h6 (h6 (hQ b.1 c.2.1 0).1 1 0 (hQ b.1 c.2.1 0).2) 1 2 v).hC,pc:= -1,r:=ja}}).hM=true:=by
   intro b j;have m:(hQ b.1 c.2.1 0).1.hM=true:=qi j;split
   .rfl
   split
   .exact j
   split
   .rfl
   split;exact m;exact m
  exact .inl ⟨o d,o t⟩
 |false=>
 obtain⟨L,Y,_⟩:=X t;obtain⟨O,ad⟩:=z.eqs t;have I:b.1.ju=B.1.ju:=by rw[O]
 rw[L,I];split
 .exact .inl ⟨rfl,rfl⟩
 split;have w1:=z.write (i:=c.2.1) (f:=2) (v:=default) (v':=default) (λ_=>.inl C) λ_=>⟨rfl,GV.default⟩;exact Kz;obtain⟨u,J⟩:=z.read g (i:=c.2.1) (f:=0) λ_=>C;generalize hQ b.1 c.2.1 0=d at *;generalize hQ B.1 c.2.1 0=E at *
 rcases HS E.1.hM with k|k
 .have U:d.1.hM=true:=by rcases u with q|⟨q,_⟩;exact q.1;rw[k]at q;cases q
  have o:∀{d:XP × Vl},d.1.hM=true->(if d.2.r=false then kl d.1 else if d.2.n=0 then{d.1 with e:={d.1.e with h7:=2,hX:=true,v:=v,pc:=d.1.j4,r:=d.1.sr}} else{h6 (h6 d.1 1 0 d.2) 1 2 v with e:={(h6 (h6 d.1 1 0 d.2) 1 2 v).e with h7:=1,kw:=(h6 (h6 d.1 1 0 d.2) 1 2 v).hC,pc:= -1,r:=ja}}).hM=true:=by
   intro d m;split
   .rfl
   split;exact m;exact m
  exact .inl ⟨o U,o k⟩
 obtain⟨Q,K,_⟩:=J k;obtain⟨l,Z⟩:=u.eqs k;rw[Q];split
 .exact .inl ⟨rfl,rfl⟩
 split;rcases u with⟨q,q'⟩|⟨aY,bj,bH,bZ⟩
 .exact NU
 refine .inr ⟨aY,bj.uF _ _ _ _ _ _ aN bj.sr,bH,?_⟩;rw[bZ];have w1:=u.write (i:=1) (f:=0) (v:=E.2) (v':=E.2) (λ_=>.inr rfl) λ_=>⟨rfl,K⟩;exact Kz
end
def FE(H:QQ)(y d:XP):Prop:=(y.hM=true/\d.hM=true)\/(d.hM=false/\y={d with h:=H})
section
variable{A:Int->Prop}{H H':QQ}{x x':XP}
def SO.fe(s:SO A H H' x x'):FE H x x':=by
 rcases s with d|⟨a,_,_,c⟩
 exact .inl d;exact .inr ⟨a,c⟩
def SO.reg(s:SO A H H' x x')(a:Int){v v':Vl}(i:x'.hM=false->v=v'/\GV A v'):SO A H H' (kJ x a v) (kJ x' a v'):=by
 rcases s with⟨b,c⟩|⟨nb,d,f,rfl⟩
 exact .inl ⟨b,c⟩;obtain⟨rfl,e⟩:=i nb;exact SO.mk (XO.reg (.inr d) a v λ_=>e) f rfl
def SO.go(s:SO A H H' x x')(pc:Int):SO A H H' (rM x pc) (rM x' pc):=by
 rcases s with⟨b,c⟩|⟨nb,d,e,rfl⟩
 exact .inl ⟨b,c⟩;exact .inr ⟨nb,{d with},e,rfl⟩
def SO.fault(g:Ag A H H')(c:A 1)(s:SO A H H' x x')(n:Int):SO A H H' (i9 x n) (i9 x' n):=s.throw g c λ_=>⟨rfl,GV.num n⟩
structure RO(A:Int->Prop)(H H':QQ)(x x':XP):Prop where
 nb:x'.hM=false
 f:XF A x'
 hh:x'.h=H'
 e:x={x' with h:=H}
def RO.so(r:RO A H H' x x'):SO A H H' x x':=.inr ⟨r.nb,r.f,r.hh,r.e⟩
def SO.ro(s:SO A H H' x x')(h:x'.hM=false):RO A H H' x x':=by
 rcases s with⟨_,c⟩|⟨a,b,d,e⟩
 rw[h]at c;cases c
 exact⟨a,b,d,e⟩
def RO.read(g:Ag A H H')(r:RO A H H' x x'){i f:Int}(c:A i):SO A H H' (hQ x i f).1 (hQ x' i f).1/\(hQ x i f).2=(hQ x' i f).2/\GV A (hQ x' i f).2:=by
 obtain⟨e,d⟩:=r.f.read i f<|.inl c;have j:=rL (x:=x') (H:=H) (i:=i) (f:=f) (by rw[r.hh];exact g.rd c f);rw[r.e,j];exact⟨SO.mk e ((lZ _ _ _).trans r.hh) rfl,rfl,d⟩
def RO.object(g:Ag A H H')(h1:A 1)(r:RO A H H' x x'){v:Vl}{f:Int}(j:GV A v):SO A H H' (ik x v f).1 (ik x' v f).1/\(ik x v f).2=(ik x' v f).2/\((ik x' v f).2.2=true->RO A H H' (ik x v f).1 (ik x' v f).1/\A (ik x' v f).2.1):=by
 have s:=r.so;unfold ik;by_cases h:v.r=false
 .rw[L_ h,L_ h];exact Nx
 rw[K_ h,K_ h];have e:A v.n:=j (by simpa using h);by_cases c:v.n=0
 .rw[L_ c,L_ c];exact Nx
 rw[K_ c,K_ c];have i:jy x.h v.n=jy x'.h v.n:=by rw[r.e,r.hh];exact g _ e
 rw[i];cases jy x'.h v.n with
 |none=>exact⟨.inl ⟨rfl,rfl⟩,rfl,λq=>by cases q⟩
 |some k=>
  simp only;by_cases d:(k.fs.length:Int)<=f;rw[L_ d,L_ d];exact Nx;rw[K_ d,K_ d];exact⟨s,rfl,λ_=>⟨r,e⟩⟩
def SO.variable(g:Ag A H H')(k:A 1)(s:SO A H H' x x')(n:Int):SO A H H' (hI x n).1 (hI x' n).1/\(hI x n).2=(hI x' n).2/\((hI x' n).2.2.2=true->RO A H H' (hI x n).1 (hI x' n).1/\A (hI x' n).2.1):=by
 obtain⟨e,o⟩:=s.frame g k;unfold hI;simp only;generalize hO x=a at *;generalize hO x'=i at *
 rcases HS i.1.hM with d|d
 have j:a.1.hM=true:=by rcases e with c|⟨c,_⟩;exact c.1;rw[d]at c;cases c
 rw[L_ d,L_ j];exact⟨e,rfl,λc=>by cases c⟩;obtain⟨q,p,_⟩:=o d;have m:=e.ro d;have j:a.1.hM=false:=by rw[m.e];exact d
 rw[K_ (show ¬a.1.hM=true by rw[j];decide),K_ (show ¬i.1.hM=true by rw[d];decide),q];by_cases f:i.2.2<=3+n;rw[L_ f,L_ f];exact⟨e.fault g k _,rfl,λc=>by cases c⟩;rw[K_ f,K_ f];exact⟨e,rfl,λ_=>⟨m,p⟩⟩
def Gi(A:Int->Prop)(H H':QQ):Option XP->Option XP->Prop
 |none,none=>True
 |some y,some d=>SO A H H' y d
 |_,_=>False
def RO.ip(g:Ag A H H')(e:A 1)(h0:A 0)(r:RO A H H' x x')(i:In):Gi A H H' (ji x i) (ji x' i):=by
 have d:=r.so;have j:x.e.r=x'.e.r:=by rw[r.e]
 have f:=r.f.r;unfold ji;rw[j];simp only;by_cases h:i.op=0
 .rw[L_ h,L_ h];exact d
 rw[K_ h,K_ h];clear h;by_cases h:i.op=1
 .rw[L_ h,L_ h];exact d.reg _ λ_=>⟨rfl,GV.num _⟩
 rw[K_ h,K_ h];clear h;by_cases h:i.op=2
 .rw[L_ h,L_ h];exact d.reg _ λ_=>⟨rfl,λ_=>h0⟩
 rw[K_ h,K_ h];clear h;by_cases h:i.op=3
 .rw[L_ h,L_ h];exact d.reg _ λ_=>⟨rfl,f _⟩
 rw[K_ h,K_ h];clear h;by_cases h:i.op=4
 .rw[L_ h,L_ h];by_cases c:(iA i.n (x'.e.r i.b.toNat)<|x'.e.r i.c.toNat).2≠0;rw[L_ c,L_ c];exact d.fault g e _;rw[K_ c,K_ c];exact d.reg _ λ_=>⟨rfl,l_⟩
 rw[K_ h,K_ h];clear h;by_cases h:i.op=11
 .rw[L_ h,L_ h];exact d.go _
 rw[K_ h,K_ h];clear h;by_cases h:i.op=12
 .rw[L_ h,L_ h];by_cases c:(x'.e.r i.a.toNat).n≠0;rw[L_ c,L_ c];exact d;rw[K_ c,K_ c];exact d.go _
 rw[K_ h,K_ h];clear h;by_cases h:i.op=21
 .rw[L_ h,L_ h];show SO A H H' _ _;refine .inr ⟨r.nb,{r.f with r:=GV.ja},r.hh,?_⟩;rw[r.e]
 rw[K_ h,K_ h];clear h;by_cases h:i.op=16
 .rw[L_ h,L_ h];exact d.throw g e λ_=>⟨rfl,f _⟩
 rw[K_ h,K_ h];clear h;by_cases h:i.op=19
 .rw[L_ h,L_ h];by_cases c:(x'.e.r i.a.toNat).r=true;rw[L_ c,L_ c];exact d.fault g e _;rw[K_ c,K_ c];show SO A H H' _ _;refine .inr ⟨r.nb,{r.f with},r.hh,?_⟩;rw[r.e]
 rw[K_ h,K_ h];trivial
def RO.hH(g:Ag A H H')(o:A 1)(r:RO A H H' x x')(i:In):Gi A H H' (kb x i) (kb x' i):=by
 have B:x.sr=x'.sr:=by rw[r.e]
 have V:=r.f.sr;obtain⟨s,z,C⟩:=r.so.variable g o i.n;unfold kb;by_cases h:i.op≠8/\i.op≠9/\i.op≠10/\i.op≠20
 .rw[L_ h,L_ h];trivial
 rw[K_ h,K_ h];clear h;simp only;rw[B];generalize hI x i.n=y at *;generalize hI x' i.n=c at *;rw[z];by_cases h:c.2.2.2=false
 .rw[L_ h,L_ h];exact s
 rw[K_ h,K_ h];obtain⟨a,p⟩:=C (by simpa using h);clear h;by_cases h:i.op=9
 .rw[L_ h,L_ h];exact s.write (λ_=>.inl p) λ_=>⟨rfl,V _⟩
 rw[K_ h,K_ h];clear h;obtain⟨d,u,t⟩:=a.read g (i:=c.2.1) (f:=c.2.2.1) p;generalize hQ y.1 c.2.1 c.2.2.1=D at *;generalize hQ c.1 c.2.1 c.2.2.1=b at *;rw[u];by_cases h:i.op=8
 .rw[L_ h,L_ h];exact d.reg _ λ_=>⟨rfl,t⟩
 rw[K_ h,K_ h];clear h;by_cases h:i.op=10
 .rw[L_ h,L_ h];by_cases j:(iA i.b b.2<|x'.sr i.a.toNat).2≠0;rw[L_ j,L_ j];exact d.fault g o _;rw[K_ j,K_ j];have w:=d.write (i:=c.2.1) (f:=c.2.2.1) (v:=(iA i.b b.2<|x'.sr i.a.toNat).1) (v':=(iA i.b b.2<|x'.sr i.a.toNat).1) (λ_=>.inl p) λ_=>⟨rfl,l_⟩;rcases w with⟨q,q'⟩|⟨k,e,m,n⟩
  show SO A H H' _ _;exact NU;show SO A H H' _ _;refine .inr ⟨k,{e with},m,?_⟩;rw[n]
 rw[K_ h,K_ h];clear h;by_cases h:b.2.r=true
 .rw[L_ h,L_ h];exact d.fault g o _
 rw[K_ h,K_ h];rcases d with⟨q,q'⟩|⟨k,e,m,n⟩
 show SO A H H' _ _;exact NU;show SO A H H' _ _;refine .inr ⟨k,e.uF _ _ _ _ _ _ t e.sr,m,?_⟩;rw[n]
def RO.rest(g:Ag A H H')(n:A 1)(r:RO A H H' x x')(i:In):FE H (jH x i) (jH x' i):=by
 have t:=r.so;have es:x.sr=x'.sr:=by rw[r.e]
 have V:=r.f.sr;unfold jH;rw[es];simp only;by_cases h:i.op=5
 .rw[L_ h,L_ h];obtain⟨z,K,J⟩:=r.object g n (f:=i.n)<|V i.b.toNat;generalize ik x (x'.sr i.b.toNat) i.n=y at *;generalize ik x' (x'.sr i.b.toNat) i.n=c at *;rw[K];by_cases d:c.2.2=true;rw[L_ d,L_ d];obtain⟨a,j⟩:=J d;obtain⟨D,E,M⟩:=a.read g (i:=c.2.1) (f:=i.n) j;rw[E];exact(D.reg _ λ_=>⟨rfl,M⟩).fe;rw[K_ d,K_ d];exact z.fe
 rw[K_ h,K_ h];clear h;by_cases h:i.op=6
 .rw[L_ h,L_ h];obtain⟨z,K,J⟩:=r.object g n (f:=i.n)<|V i.b.toNat;generalize ik x (x'.sr i.b.toNat) i.n=y at *;generalize ik x' (x'.sr i.b.toNat) i.n=c at *;rw[K];by_cases d:c.2.2=true;rw[L_ d,L_ d];obtain⟨a,j⟩:=J d;exact(z.write (λ_=>.inl j) λ_=>⟨rfl,V _⟩).fe;rw[K_ d,K_ d];exact z.fe
 rw[K_ h,K_ h];clear h;by_cases h:i.op=7
 .rw[L_ h,L_ h];refine .inr ⟨r.nb,?_⟩;rw[r.e];rfl
 rw[K_ h,K_ h];clear h;by_cases h:i.op=13
 .rw[L_ h,L_ h];obtain⟨m,o⟩:=t.frame g n;generalize hO x=y at *;generalize hO x'=c at *
  rcases m with⟨q,q'⟩|⟨B,X,W,I⟩
  exact NU;have s:=(o B).1;refine .inr ⟨B,?_⟩;rw[s,I];rfl
 rw[K_ h,K_ h];clear h;by_cases h:i.op=14
 .rw[L_ h,L_ h];obtain⟨m,o⟩:=t.frame g n;generalize hO x=y at *;generalize hO x'=c at *
  rcases HS c.1.hM with hb|hb
  .have bD:y.1.hM=true:=by rcases m with q|⟨q,_⟩;exact q.1;rw[hb]at q;cases q
   rw[L_ hb,L_ bD];exact .inl ⟨bD,hb⟩
  obtain⟨s,j,_⟩:=o hb;have a:=m.ro hb;have bD:y.1.hM=false:=by rw[a.e];exact hb
  rw[K_ (show ¬y.1.hM=true by rw[bD];decide),K_ (show ¬c.1.hM=true by rw[hb];decide),s];obtain⟨O,S,R⟩:=a.read g (i:=c.2.1) (f:=0) j;generalize hQ y.1 c.2.1 0=ae at *;generalize hQ c.1 c.2.1 0=k at *;rw[S];by_cases d:k.2.r=true/\k.2.n=0
  .rw[L_ d,L_ d];rcases O with⟨q,q'⟩|⟨B,X,W,I⟩
   exact NU;refine .inr ⟨B,?_⟩;rw[I]
  rw[K_ d,K_ d];obtain⟨L,U⟩:=O.read g (i:=c.2.1) (f:=1) λ_=>j;generalize hQ ae.1 c.2.1 1=e at *;generalize hQ k.1 c.2.1 1=u at *
  rcases HS u.1.hM with p|p
  .have Z:e.1.hM=true:=by rcases L with q|⟨q,_⟩;exact q.1;rw[p]at q;cases q
   have N:∀{e:XP × Vl},e.1.hM=true->(if k.2.r=false\/e.2.r=true\/i0 e.1.ju e.2.n=false then kl e.1 else rM (h6 (h6 e.1 1 0 k.2) 1 1<|x'.sr i.a.toNat) e.2.n).hM=true:=by
    intro e hu;split;rfl;exact hu
   exact .inl ⟨N Z,N p⟩
  obtain⟨b,_,_⟩:=U p;have Y:=L.ro p;have Q:e.1.ju=u.1.ju:=by rw[Y.e]
  rw[b,Q];by_cases C:k.2.r=false\/u.2.r=true\/i0 u.1.ju u.2.n=false;rw[L_ C,L_ C];exact .inl ⟨rfl,rfl⟩;rw[K_ C,K_ C];have N:=L.write (i:=1) (f:=0) (v:=k.2) (v':=k.2) (λ_=>.inr rfl) λ_=>⟨rfl,R⟩;have Z:=N.write (i:=1) (f:=1) (v:=x'.sr i.a.toNat) (v':=x'.sr i.a.toNat) (λ_=>.inr rfl) λ_=>⟨rfl,V _⟩;exact(Z.go _).fe
 rw[K_ h,K_ h];clear h;by_cases h:i.op=15\/i.op=18
 .rw[L_ h,L_ h];have q:=t.root g n;generalize iv x=y at *;generalize iv x'=c at *
  rcases HS c.hM with hb|hb
  .exact LS
  have a:=q.ro hb;have bD:y.hM=false:=by rw[a.e];exact hb
  rw[K_ (show ¬y.hM=true by rw[bD];decide),K_ (show ¬c.hM=true by rw[hb];decide)];obtain⟨D,E,M⟩:=a.read g (i:=1) (f:=if i.op=15 then 1 else 2) n;rw[E];exact(D.reg _ λ_=>⟨rfl,M⟩).fe
 rw[K_ h,K_ h];clear h;by_cases h:i.op=17
 .rw[L_ h,L_ h];obtain⟨m,o⟩:=t.frame g n;generalize hO x=y at *;generalize hO x'=c at *
  rcases HS c.1.hM with hb|hb
  .have bD:y.1.hM=true:=by rcases m with q|⟨q,_⟩;exact q.1;rw[hb]at q;cases q
   exact .inl ⟨bD,hb⟩
  obtain⟨s,j,_⟩:=o hb;rw[s];exact(m.write (λ_=>.inl j) λ_=>⟨rfl,GV.num _⟩).fe
 rw[K_ h,K_ h];exact t.fe
def RO.one(g:Ag A H H')(e:A 1)(h0:A 0)(r:RO A H H' x x')(pc:Int):FE H (nk x pc) (nk x' pc):=by
 have p:x.ju=x'.ju:=by rw[r.e]
 unfold nk;by_cases h:pc= -1
 .rw[L_ h,L_ h];simp only;have q:=r.so.root g e;generalize iv x=y at *;generalize iv x'=m at *
  rcases HS m.hM with hb|hb
  .exact LS
  have a:=q.ro hb;have bD:y.hM=false:=by rw[a.e];exact hb
  rw[K_ (show ¬y.hM=true by rw[bD];decide),K_ (show ¬m.hM=true by rw[hb];decide)];obtain⟨d,k,o⟩:=a.read g (i:=1) (f:=2) e;rw[k];exact(d.throw g e λ_=>⟨rfl,o⟩).fe
 rw[K_ h,K_ h];simp only;rw[p];generalize x'.ju.getD pc.toNat default=i;have c:=r.ip g e h0 i;cases n:ji x i with
 |none=>
  rw[n]at c;cases j:ji x' i with
  |some _=>rw[j]at c;cases c
  |none=>
  simp only;have d:=r.hH g e i;cases o:kb x i with
  |none=>
   rw[o]at d;cases k:kb x' i with
   |some _=>rw[k]at d;cases d
   |none=>exact r.rest g e i
  |some y=>
   rw[o]at d;cases k:kb x' i with
   |none=>rw[k]at d;cases d
   |some m=>rw[k]at d;exact SO.fe d
 |some y=>
  rw[n]at c;cases j:ji x' i with
  |none=>rw[j]at c;cases c
  |some m=>rw[j]at c;exact SO.fe c
def BU(g:Ag A H H')(n:A 1)(h0:A 0)(j:HG A H'){r:Nat->Vl}(f:∀i,GV A<|r i)(c:QR)(hH hC pc d:Int):kR c hH hC pc r H d=kR c hH hC pc r H' d:=by
 unfold kR;by_cases h:ih c hH hC=false\/pc< -1\/(c.length:Int)<=pc
 .rw[L_ h,L_ h]
 rw[K_ h,K_ h];simp only;have k:RO A H H' ⟨c,hH,hC,pc,r,H,d,{lm with pc:=pc+1,r:=r},false⟩ ⟨c,hH,hC,pc,r,H',d,{lm with pc:=pc+1,r:=r},false⟩:=
  ⟨rfl,⟨h0,j,f,f,λc e=>(by cases e),λc e=>(by cases e),rfl,GV.default⟩,rfl,rfl⟩
 have p:=k.one g n h0 pc;generalize nk ⟨c,hH,hC,pc,r,H,d,{lm with pc:=pc+1,r:=r},false⟩ pc=y at *;generalize nk ⟨c,hH,hC,pc,r,H',d,{lm with pc:=pc+1,r:=r},false⟩ pc=m at *
 rcases p with⟨a,b⟩|⟨a,b⟩
 rw[L_ a,L_ b];have o:y.hM=false:=by rw[b];exact a
 rw[K_ (show ¬y.hM=true by rw[o];decide),K_ (show ¬m.hM=true by rw[a];decide),b]
def tK{h h':QQ}(g:Ag A h h')(d:lw h)(e:lw h'){i:Int}(c:A i)(t:iP)(f:Int):jb t h i f=jb t h' i f:=by
 unfold jb;rw[(g.before d e t).rd c,(g.iR d e t).rd c]
def vi{h h':QQ}(g:Ag A h h')(f:lw h)(i:lw h'):∀(l:QV) (t:iP),(∀c∈l,A c.id)->jB h t l=jB h' t l
 |[],_,_=>rfl
 |c::l,t,d=>by
  have e:m8 h t c=m8 h' t c:=by unfold m8;rw[tK g f i<|d c GT]
  unfold jB;rw[e];cases m8 h' t c with
  |none=>rfl
  |some k=>exact vi g f i l k λx j=>d x<|Z_ _ j
def vh{h h':QQ}(g:Ag A h h')(f:lw h)(i:lw h'):∀(l:QV) (t:iP),(∀c∈l,A c.id)->j6 h t l=j6 h' t l
 |[],_,_=>rfl
 |c::l,t,d=>by
  have e:pw h t c=pw h' t c:=by unfold pw;rw[tK g f i<|d c GT]
  unfold j6;rw[e];cases pw h' t c with
  |none=>rfl
  |some k=>exact vh g f i l k λx j=>d x<|Z_ _ j
def pE{d:Dl}{c:Cl}(h:c∈jj l d):c∈l:=(H6.1 h).1
def rV:∀(l:QC) (t:iP) (rs ws:QV),(∀c∈(jf t rs ws l).2.1,c∈rs)/\(∀c∈(jf t rs ws l).2.2,c∈ws)
 |[],_,_,_=>⟨λ_ h=>h,λ_ h=>h⟩
 |d::l,t,rs,ws=>by
  unfold jf;cases take t d with
  |none=>exact rV l t rs ws
  |some t'=>
   obtain⟨a,b⟩:=rV l t' (jj rs d)<|jj ws d;exact⟨λc e=>pE<|a c e,λc e=>pE<|b c e⟩
def ym{h h':QQ}(g:Ag A h h')(f:lw h)(i:lw h')(t:iP){e:pC}(k:∀c∈e.rs,A c.id)(j:∀c∈e.ws,A c.id):record t h e=record t h' e:=by
 obtain⟨a,b⟩:=rV e.ds t e.rs e.ws;unfold record;simp only;rw[vi g f i _ _ λc d=>k c<|a c d];cases jB h' (jf t e.rs e.ws e.ds).1 (jf t e.rs e.ws e.ds).2.1 with
 |none=>rfl
 |some m=>simp only;rw[vh g f i _ _ λc d=>j c<|b c d]
def zO{h h':QQ}(g:Ag A h h')(o:lw h)(p:lw h')(j:A 1)(h0:A 0)(n:HG A h'){t:iP}(e:TG A t)(q:A<|qN t)(c:QR)(hH hC:Int)(d:QS):iT c hH hC d t h=iT c hH hC d t h':=by
 have f:=BU (g.iR o p t) j h0 (e.iR n) e.r c hH hC t.pc<|qN t;have i:=(vV c hH hC t.pc (qN t) h0 (e.iR n) e.r).all q;unfold qN at f i;unfold iT;rw[f];simp only;generalize kR c hH hC t.pc t.r (iR t h') ((t.run+1)*1048576+t.nw.length)=f at *;rw[ym g o p t (λc k=>(i.rs c k).1.elim id λm=>m▸j) λc k=>(i.ws c k).1.elim id λm=>m▸j]
end
section
variable{l:QR}{H:QQ}{F:Int->Prop}{x:XP}
end
def B3{f:Type}(p:f->Bool):∀(l:List f) (n:Nat),0<=iK p l n->∃k,∃d:k<l.length,iK p l n=((n+k:Nat):Int)/\p l[k]=true
 |[],_,h=>by simp[iK]at h
 |x::l,n,h=>by
  unfold iK at h ⊢;split;rename_i c;exact⟨0,Nat.zero_lt_succ _,rfl,c⟩;rename_i c;rw[K_ c]at h;obtain⟨k,d,e,q⟩:=B3 p l (n+1) h;exact⟨k+1,Nat.succ_lt_succ d,by rw[e];congr 1;omega,q⟩
def yM{i f:Int}(h:cat l i f<0):∀c∈l,¬(c.id=i/\c.f=f):=by
 intro c e d;have:0<=cat l i f:=(oD _ l 0).2 ⟨c,e,by simp[d.1,d.2]⟩;omega
def jN(c:Cl):Int × Int:=(c.id,c.f)
def tw:∀(ws:QV) {i f:Int} (a:Vl),(∀c∈ws,¬(c.id=i/\c.f=f))->pF ws i f a=a
 |[],_,_,_,_=>rfl
 |c::ws,i,f,a,h=>by
  show pF ws i f (wf1 i f a c)=a;have e:wf1 i f a c=a:=by unfold wf1;rw[K_<|h c GT]
  rw[e];exact tw ws a λx d=>h x<|Z_ _ d
def vw{ws:QV}(n:(ws.map jN).Nodup)(c:Cl):((kc ws c).map jN).Nodup:=by
 unfold kc;split;rename_i h;obtain⟨f,k,d,e⟩:=B3 _ ws 0 h;have d:cat ws c.id c.f=(f:Int):=by unfold cat;rw[d,U_]
 have e:jN ws[f]=jN c:=by unfold jN;simp at e;rw[e.1,e.2]
 rw[d,Hh,List.map_set];have:(ws.map jN).set f (jN c)=ws.map jN:=by
  apply H1;simp;intro m i j;rw[List.getElem_set];split
  .rename_i d;subst d;rw[<-e,HF]
  rfl
 rw[this];exact n;rename_i h;have q:=yM (show cat ws c.id c.f<0 by omega);rw[GN,GN];show(List.map jN (ws.take<|qS ws c.id c.f)++(jN c::List.map jN (ws.drop<|qS ws c.id c.f))).Nodup;have k:∀y∈ws,jN y≠jN c:=λy f d=>q y f (by unfold jN at d;injection d with o p;exact⟨o,p⟩);have i:=n;rw[<-HE (qS ws c.id c.f) ws,GN,HR]at i;rw[HR];refine⟨i.1,H5.2 ⟨λe=>?_,i.2.1⟩,λa m b j=>?_⟩;obtain⟨y,f,d⟩:=GJ.1 e;exact k y (If f) d;rcases N_.1 j with rfl|j
 .obtain⟨y,f,d⟩:=GJ.1 m;rw[<-d];exact k y<|Hk f
 exact i.2.2 a m b j
def seen(h nw:QQ)(ws:QV)(i f:Int):Option Vl:=(if i∈ie nw then iw nw i f else iw h i f).map<|pF ws i f
def wY{nw:QQ}{n:Int}:¬jx nw n<0->n∈ie nw:=λh=>by
 obtain⟨d,c⟩:=td h;exact GJ.2 ⟨_,P_ d,c⟩
def uW{t:iP}{c:Cl}:(jt t c).rs=t.rs:=by unfold jt;split<;>rfl
def RS(P:Int->Prop)(x:XP):Prop:=∀c∈x.e.rs,GV P c.v
structure XS(P:Int->Prop)(x:XP):Prop where
 rd:∀c∈x.e.rs,iw x.h c.id c.f=some c.v
 kd:(x.e.rs.map jN).Nodup
 sr:∀i,GV P<|x.sr i
 r:∀i,GV P<|x.e.r i
 ws:∀c∈x.e.ws,GV P c.v
 nw:x.e.nw=[]
 ds:x.e.ds=[]
 v:GV P x.e.v
section
variable{P:Int->Prop}{x:XP}
def ms{x:XP}{i f:Int}:∀c∈x.e.rs,c∈(hQ x i f).1.e.rs:=by
 intro c d;unfold hQ;split;exact d;split
 .exact d
 exact GZ _ d
def RS.of{x:XP}(h:RS P y)(e:∀c∈x.e.rs,c∈y.e.rs):RS P x:=λc d=>h c<|e c d
def XS.read(k:XS P x){i f:Int}(j:RS P (hQ x i f).1):XS P (hQ x i f).1/\GV P (hQ x i f).2:=by
 unfold hQ at j ⊢;cases n:iw x.h i f with
 |none=>exact⟨{k with},GV.default⟩
 |some o=>
  simp only[n]at j ⊢;by_cases h:0<=cat x.e.rs i f;rw[L_ h]at j ⊢;refine⟨k,?_⟩;obtain⟨d,c,e⟩:=(oD _ x.e.rs 0).1 h;have e:d.id=i/\d.f=f:=by simpa using e
  have m:=k.rd d c;rw[e.1,e.2,n]at m;injection m with m;rw[m];exact j d c;rw[K_ h]at j ⊢;refine⟨{k with rd:=λd c=>?_,kd:=?_},j ⟨i,f,o⟩<|G5 _<|J_.2 rfl⟩
  .rcases X_.1 c with c|c
   .exact k.rd d c
   rw[J_]at c;subst c;exact n
  show((x.e.rs++[(⟨i,f,o⟩:Cl)]).map jN).Nodup;rw[GN,HR];refine⟨k.kd,by simp,λa s b m=>?_⟩;obtain⟨d,c,rfl⟩:=GJ.1 s;rw[List.map_singleton,J_]at m;subst m;intro e;unfold jN at e;injection e with p r;have q:cat x.e.rs i f<0:=by omega
  exact yM q d c<|And.intro p r
def XS.write(d:XS P x)(i f:Int){v:Vl}(j:GV P v):XS P (h6 x i f v):=by
 refine{d with ws:=λe c=>?_};rcases X_.1 c with c|c
 exact d.ws e c;rw[J_]at c;subst c;exact j
def XS.brk(c:XS P x)(b:Bool):XS P {x with hM:=b}:={c with}
def XS.uF(f:XS P x)(k p s:Int)(t:Bool){v:Vl}{r:Nat->Vl}(d:GV P v)(c:∀i,GV P<|r i):XS P {x with e:={x.e with h7:=k,pc:=p,kw:=s,hX:=t,v:=v,r:=r}}:={f with r:=c,v:=d}
def zA{x:XP}:∀c∈x.e.rs,c∈(hO x).1.e.rs:=by
 intro c d;unfold hO;simp only;split;exact d;exact ms (x:=iv x) c d
def XS.frame(j:XS P x)(d:RS P (hO x).1):XS P (hO x).1/\((hO x).1.hM=false->P (hO x).2.1):=by
 have e:XS P (iv x):=j.brk _;unfold hO at d ⊢;simp only at d ⊢;by_cases h:(iv x).hM=true;rw[L_ h];exact⟨e,λc=>by rw[h]at c;cases c⟩;rw[K_ h]at d ⊢;obtain⟨a,b⟩:=e.read (i:=1) (f:=0) d;refine⟨a.brk _,λc=>?_⟩;simp only[Bool.or_eq_false_iff]at c;exact b (by simpa using c.2.1)
def qh{x:XP}{v:Vl}:∀c∈x.e.rs,c∈(iX x v).e.rs:=by
 intro c m;have k:=zA c m;have d:=ms (x:=(hO x).1) (i:=(hO x).2.1) (f:=2) c k;have j:=ms (x:=(hQ (hO x).1 (hO x).2.1 2).1) (i:=(hO x).2.1) (f:=0) c d;unfold iX;simp only;split
 .exact k
 split
 .exact d
 split
 .exact d
 split
 .exact j
 split;exact j;exact j
def XS.throw(B:XS P x){v:Vl}(c:RS P<|iX x v)(o:GV P v):XS P (iX x v):=by
 unfold iX at c ⊢;simp only at c ⊢;have t:=B.frame;generalize hO x=a at *
 by_cases h:a.1.hM=true
 .rw[L_ h]at c ⊢;exact(t c).1
 rw[K_ h]at c ⊢;have C:∀k∈a.1.e.rs,k∈(hQ a.1 a.2.1 2).1.e.rs:=ms;have m:=λj:RS P (hQ a.1 a.2.1 2).1=>(t<|j.of C).1.read (i:=a.2.1) (f:=2) j;generalize hQ a.1 a.2.1 2=b at *
 by_cases q:b.2.r=true\/(b.2.n≠0/\i0 b.1.ju b.2.n=false)
 .rw[L_ q]at c ⊢;exact(m c).1.brk _
 rw[K_ q]at c ⊢;by_cases r:b.2.n≠0
 .rw[L_ r]at c ⊢;have d:=(m c).1;exact((d.write _ _ GV.default).write _ _ o).uF _ _ _ _ d.v GV.ja
 rw[K_ r]at c ⊢;have z:∀k∈b.1.e.rs,k∈(hQ b.1 a.2.1 0).1.e.rs:=ms;have n:=λj:RS P (hQ b.1 a.2.1 0).1=>(m<|j.of z).1.read (i:=a.2.1) (f:=0) j;generalize hQ b.1 a.2.1 0=u at *
 by_cases s:u.2.r=false
 .rw[L_ s]at c ⊢;exact(n c).1.brk _
 rw[K_ s]at c ⊢;by_cases p:u.2.n=0;rw[L_ p]at c ⊢;have d:=(n c).1;exact d.uF _ _ _ _ o d.sr;rw[K_ p]at c ⊢;have d:=n c;exact((d.1.write _ _ d.2).write _ _ o).uF _ _ _ _ d.1.v GV.ja
def XS.fault(d:XS P x){n:Int}(c:RS P<|i9 x n):XS P (i9 x n):=d.throw c<|GV.num n
def XS.reg(c:XS P x)(a:Int){v:Vl}(e:GV P v):XS P (kJ x a v):=by
 refine{c with r:=λd=>?_};show GV P (pN x.e.r a v d);unfold pN;split;exact e;exact c.r d
def XS.go(c:XS P x)(pc:Int):XS P (rM x pc):={c with}
def XS.object(d:XS P x){v:Vl}{f:Int}(c:RS P (ik x v f).1):XS P (ik x v f).1:=by
 unfold ik at c ⊢;by_cases h:v.r=false
 .rw[L_ h]at c ⊢;exact d.fault c
 rw[K_ h]at c ⊢;by_cases e:v.n=0
 .rw[L_ e]at c ⊢;exact d.fault c
 rw[K_ e]at c ⊢;cases j:jy x.h v.n with
 |none=>exact d.brk _
 |some k=>
  simp only[j]at c ⊢;by_cases i:(k.fs.length:Int)<=f;rw[L_ i]at c ⊢;exact d.fault c;rw[K_ i]at c ⊢;exact d
def XS.variable(f:XS P x){n:Int}(c:RS P (hI x n).1):XS P (hI x n).1:=by
 unfold hI at c ⊢;simp only at c ⊢;have d:=f.frame;generalize hO x=a at *
 by_cases h:a.1.hM=true
 .rw[L_ h]at c ⊢;exact(d c).1
 rw[K_ h]at c ⊢;by_cases e:a.2.2<=3+n;rw[L_ e]at c ⊢;exact(d<|c.of qh).1.fault c;rw[K_ e]at c ⊢;exact(d c).1
def XS.ip(h0:P 0)(c:XS P x){i:In}(hy:ji x i=some y):RS P y->XS P y:=by
 unfold ji at hy;refine ic (R:=λy=>RS P y->XS P y) hy (λ_ _=>c) λ_ hy=>?_;refine ic (R:=λy=>RS P y->XS P y) hy (λ_ _=>c.reg _<|GV.num _) λ_ hy=>?_;refine ic (R:=λy=>RS P y->XS P y) hy (λ_ _=>c.reg _ λ_=>h0) λ_ hy=>?_;refine ic (R:=λy=>RS P y->XS P y) hy (λ_ _=>c.reg _<|c.r _) λ_ hy=>?_;refine ic (R:=λy=>RS P y->XS P y) hy (λ_ d=>?_) λ_ hy=>?_
 .by_cases h:(iA i.n (x.e.r i.b.toNat)<|x.e.r i.c.toNat).2≠0
  .rw[L_ h]at d ⊢;exact c.fault d
  rw[K_ h];exact c.reg _ l_
 refine ic (R:=λy=>RS P y->XS P y) hy (λ_ _=>c.go _) λ_ hy=>?_;refine ic (R:=λy=>RS P y->XS P y) hy (λ_ _=>?_) λ_ hy=>?_
 .split
  .exact c
  exact c.go _
 refine ic (R:=λy=>RS P y->XS P y) hy (λ_ _=>{c with r:=GV.ja}) λ_ hy=>?_;refine ic (R:=λy=>RS P y->XS P y) hy (λ_ d=>c.throw d<|c.r _) λ_ hy=>?_;refine ic (R:=λy=>RS P y->XS P y) hy (λ_ d=>?_) λ_ hy=>by cases hy
 by_cases h:(x.e.r i.a.toNat).r=true;rw[L_ h]at d ⊢;exact c.fault d;rw[K_ h];exact{c with}
structure EP(P:Int->Prop)(h:QQ)(nx:Int)(e:pC):Prop where
 rd:∀c∈e.rs,iw h c.id c.f=some c.v
 kd:(e.rs.map jN).Nodup
 r:∀i,GV (λn=>P n\/(n=nx/\n∈ie e.nw))<|e.r i
 ws:∀c∈e.ws,GV (λn=>P n\/(n=nx/\n∈ie e.nw)) c.v
 nw:∀o∈e.nw,∀v∈o.fs,GV (λn=>P n\/(n=nx/\n∈ie e.nw)) v
 ds:∀d∈e.ds,∀v,iw h d.id d.f=some v->v.r=false
 v:GV (λn=>P n\/(n=nx/\n∈ie e.nw)) e.v
def XS.ep(c:XS P x)(j:Int):EP P x.h j x.e:=
 have e:∀{v},GV P v->GV (λd=>P d\/(d=j/\d∈ie x.e.nw)) v:=λn=>n.mono λd p=>.inl p
 ⟨c.rd,c.kd,λo=>e<|c.r o,λk m=>e<|c.ws k m,λr i=>(by rw[c.nw]at i;cases i),λq f=>(by rw[c.ds]at f;cases f),e c.v⟩
def wt(x:XP)(n:Int):(hI x n).2.2.2=true->(hI x n).1.h=x.h:=by
 unfold hI;simp only;split
 .intro c;cases c
 split;intro c;cases c
 intro _;exact mt x
def x3{c:Int}{a b:Vl}(h:(iA c a b).2=0)(e:c≠11):a.r=false:=by
 unfold iA at h;rw[K_ e]at h;by_cases d:c<1\/11<c\/a.r=true\/b.r=true;rw[L_ d]at h;cases h
 cases f:a.r with
 |false=>rfl
 |true=>exact GR (.inr<|.inr<|.inl f) d
def lU(x:XP)(v:Vl):(iX x v).h=x.h:=by
 have a:=mt x;have b:(hQ (hO x).1 (hO x).2.1 2).1.h=x.h:=(lZ _ _ _).trans a;have c:(hQ (hQ (hO x).1 (hO x).2.1 2).1 (hO x).2.1 0).1.h=x.h:=(lZ _ _ _).trans b;unfold iX;simp only;split
 .exact a
 split
 .exact b
 split
 .exact b
 split
 .exact c
 split;exact c;exact c
def XS.hH(C:XS P x){i:In}(I:i.op=10->i.b≠11)(hy:kb x i=some y)(j:Int):RS P y->EP P x.h j y.e:=by
 have m:=C.variable (n:=i.n);have K:=wt x i.n;have d:∀{z:XP},z.h=x.h->XS P z->EP P x.h j z.e:=λe k=>by have:=k.ep j;rw[e]at this;exact this
 have g:(hI x i.n).1.h=x.h:=by
  unfold hI;simp only;split
  .exact mt x
  split;exact(lU _ _).trans<|mt x;exact mt x
 unfold kb at hy;by_cases u:i.op≠8/\i.op≠9/\i.op≠10/\i.op≠20
 .rw[L_ u]at hy;cases hy
 rw[K_ u]at hy;dsimp only at hy;generalize hI x i.n=a at *
 by_cases B:a.2.2.2=false
 .rw[L_ B]at hy;injection hy with hy;subst hy;intro c;exact d g<|m c
 rw[K_ B]at hy;refine ic (R:=λy=>RS P y->EP P x.h j y.e) hy (λ_ c=>d (z:=h6 a.1 a.2.1 a.2.2.1<|x.sr i.a.toNat) g<|(m c).write _ _<|C.sr _) λ_ hy=>?_;have l:∀D∈a.1.e.rs,D∈(hQ a.1 a.2.1 a.2.2.1).1.e.rs:=ms;have o:=λt:RS P (hQ a.1 a.2.1 a.2.2.1).1=>(m<|t.of l).read (i:=a.2.1) (f:=a.2.2.1) t;have b:(hQ a.1 a.2.1 a.2.2.1).1.h=x.h:=(lZ _ _ _).trans g;have J:∀v,iw x.h a.2.1 a.2.2.1=some v->(hQ a.1 a.2.1 a.2.2.1).2=v:=λv e=>by
  unfold hQ;rw[g,e];simp only;split<;>rfl
 generalize hQ a.1 a.2.1 a.2.2.1=z at *
 refine ic (R:=λy=>RS P y->EP P x.h j y.e) hy (λ_ c=>d (z:=kJ z.1 i.a z.2) b<|(o c).1.reg _ (o c).2) λ_ hy=>?_;by_cases p:i.op=10
 .rw[L_ p]at hy;refine ic (R:=λy=>RS P y->EP P x.h j y.e) hy (λ_ c=>d (z:=i9 z.1 _) ((lU _ _).trans b)<|(o<|c.of qh).1.fault c) λs hy=>?_;injection hy with hy;subst hy;intro c;have k:=d (z:=h6 z.1 a.2.1 a.2.2.1 (iA i.b z.2<|x.sr i.a.toNat).1) b<|(o c).1.write _ _ l_;refine{k with ds:=λE q v m=>?_};have q:E=⟨a.2.1,a.2.2.1,i.b,x.sr i.a.toNat⟩:=J_.1 q;rw[q]at m;have e:=J v m;rw[<-e];exact x3 (by simpa using s)<|I p
 rw[K_ p]at hy;refine ic (R:=λy=>RS P y->EP P x.h j y.e) hy (λ_ c=>d (z:=i9 z.1 _) ((lU _ _).trans b)<|(o<|c.of qh).1.fault c) λs hy=>?_;injection hy with hy;subst hy;intro c;have k:=o c;exact d (z:={z.1 with e:={z.1.e with h7:=3,v:=z.2,pc:=z.1.j4,r:=z.1.sr}}) b {k.1 with r:=k.1.sr,v:=k.2}
def uP(x:XP)(v:Vl)(f:Int):(ik x v f).1.h=x.h:=by
 unfold ik;split
 .exact lU _ _
 split
 .exact lU _ _
 split
 .rfl
 split;exact lU _ _;rfl
def XS.rest(j:XS P x)(i:In)(k:(jH x i).hM=false):RS P (jH x i)->EP P x.h x.nx (jH x i).e:=by
 have o:∀{z:XP},z.h=x.h->XS P z->EP P x.h x.nx z.e:=λe d=>by have:=d.ep x.nx;rw[e]at this;exact this
 have t:∀{l:QQ} {v},GV P v->GV (λK=>P K\/(K=x.nx/\K∈ie l)) v:=λhv=>hv.mono λK d=>.inl d;unfold jH at k ⊢;dsimp only at k ⊢;by_cases h:i.op=5
 .rw[L_ h];clear k;have s:=j.object (v:=x.sr i.b.toNat) (f:=i.n);have b:=uP x (x.sr i.b.toNat) i.n;generalize ik x (x.sr i.b.toNat) i.n=y at *
  by_cases J:y.2.2=true;rw[L_ J];intro c;have l:∀n∈y.1.e.rs,n∈(hQ y.1 y.2.1 i.n).1.e.rs:=ms;have d:=(s<|RS.of (y:=(hQ y.1 y.2.1 i.n).1) c l).read (i:=y.2.1) (f:=i.n) c;exact o (z:=kJ (hQ y.1 y.2.1 i.n).1 i.a (hQ y.1 y.2.1 i.n).2) ((lZ _ _ _).trans b)<|d.1.reg _ d.2;rw[K_ J];intro c;exact o b<|s c
 rw[K_ h]at k ⊢;clear h;by_cases h:i.op=6
 .rw[L_ h];clear k;have s:=j.object (v:=x.sr i.b.toNat) (f:=i.n);have b:=uP x (x.sr i.b.toNat) i.n;generalize ik x (x.sr i.b.toNat) i.n=y at *
  by_cases J:y.2.2=true;rw[L_ J];intro c;exact o (z:=h6 y.1 y.2.1 i.n<|x.sr i.a.toNat) b<|(s c).write _ _<|j.sr _;rw[K_ J];intro c;exact o b<|s c
 rw[K_ h]at k ⊢;clear h;by_cases h:i.op=7
 .rw[L_ h];intro _;refine⟨j.rd,j.kd,λC=>?_,λn p=>t<|j.ws n p,λN s v hv=>?_,λL q=>?_,t j.v⟩
  .show GV _ (pN x.e.r i.a ⟨true,x.nx⟩ C);unfold pN;split;exact λ_=>.inr ⟨rfl,J_.2 rfl⟩;exact t<|j.r C
  have e:N=⟨x.nx,List.replicate i.n.toNat default⟩:=J_.1 s;rw[e]at hv;exact NM;have q:L∈x.e.ds:=q;rw[j.ds]at q;cases q
 rw[K_ h]at k ⊢;clear h;by_cases h:i.op=13
 .rw[L_ h]at k ⊢;have B:=j.frame;have D:=mt x;have u:=uQ x;generalize hO x=y at *;intro c;obtain⟨d,g⟩:=B c;have m:=g k;refine⟨λn p=>by rw[<-D];exact d.rd n p,d.kd,λC=>t<|d.r C,λn p=>?_,λN s v hv=>?_,λL q=>?_,t d.v⟩
  .rcases X_.1 p with p|p
   .exact t<|d.ws n p
   have e:n=⟨1,0,⟨true,y.1.nx⟩⟩:=J_.1 p;rw[e];exact λ_=>.inr ⟨u,J_.2 rfl⟩
  have e:N=⟨y.1.nx,[⟨true,y.2.1⟩,⟨false,y.1.j4+1⟩,default]++((List.range i.b.toNat).map y.1.sr++List.replicate (i.c-i.b).toNat default)⟩:=J_.1 s;rw[e]at hv;rcases X_.1 hv with hv|hv
  rcases N_.1 hv with e|hv
  .rw[e];exact λ_=>.inl m
  exact MH;rcases X_.1 hv with hv|hv
  .obtain⟨C,_,e⟩:=GJ.1 hv;rw[<-e];exact t<|d.sr C
  exact NM;have q:L∈y.1.e.ds:=q;rw[d.ds]at q;cases q
 rw[K_ h]at k ⊢;clear h;by_cases h:i.op=14
 .rw[L_ h];clear k;have B:=j.frame;have D:=mt x;generalize hO x=y at *
  by_cases I:y.1.hM=true
  .rw[L_ I];intro c;exact o D (B c).1
  rw[K_ I];have W:∀n∈y.1.e.rs,n∈(hQ y.1 y.2.1 0).1.e.rs:=ms;have M:=λE:RS P (hQ y.1 y.2.1 0).1=>(B<|E.of W).1.read (i:=y.2.1) (f:=0) E;have U:(hQ y.1 y.2.1 0).1.h=x.h:=(lZ _ _ _).trans D;generalize hQ y.1 y.2.1 0=m at *
  by_cases Q:m.2.r=true/\m.2.n=0
  .rw[L_ Q];intro c;have d:=(M c).1;exact o (z:={m.1 with e:={m.1.e with h7:=2,v:=x.sr i.a.toNat,pc:=m.1.j4,r:=m.1.sr}}) U {d with r:=d.sr,v:=j.sr _}
  rw[K_ Q];have O:∀n∈m.1.e.rs,n∈(hQ m.1 y.2.1 1).1.e.rs:=ms;have S:=λE:RS P (hQ m.1 y.2.1 1).1=>(M<|E.of O).1.read (i:=y.2.1) (f:=1) E;have w:(hQ m.1 y.2.1 1).1.h=x.h:=(lZ _ _ _).trans U;generalize hQ m.1 y.2.1 1=u at *
  by_cases R:m.2.r=false\/u.2.r=true\/i0 u.1.ju u.2.n=false;rw[L_ R];intro c;exact o (z:=kl u.1) w<|(S c).1.brk _;rw[K_ R];intro c;have d:=S c;have g:=M<|RS.of (y:=u.1) c O;exact o (z:=rM (h6 (h6 u.1 1 0 m.2) 1 1<|x.sr i.a.toNat) u.2.n) w<|((d.1.write _ _ g.2).write _ _<|j.sr _).go _
 rw[K_ h]at k ⊢;clear h;by_cases h:i.op=15\/i.op=18
 .rw[L_ h];clear k;have u:XS P (iv x):=j.brk _;have m:(iv x).h=x.h:=rfl;generalize iv x=y at *
  by_cases I:y.hM=true;rw[L_ I];intro _;exact o m u;rw[K_ I];intro c;have d:=u.read (i:=1) (f:=if i.op=15 then 1 else 2) c;exact o (z:=kJ (hQ y 1 (if i.op=15 then 1 else 2)).1 i.a (hQ y 1 (if i.op=15 then 1 else 2)).2) ((lZ _ _ _).trans m)<|d.1.reg _ d.2
 rw[K_ h]at k ⊢;clear h;by_cases h:i.op=17
 .rw[L_ h];clear k;have B:=j.frame;have D:=mt x;generalize hO x=y at *;intro c;exact o (z:=h6 y.1 y.2.1 2 ⟨false,i.n⟩) D<|(B c).1.write _ _<|GV.num _
 rw[K_ h];intro _;exact o rfl j
def A6{x:XP}{i:In}(hy:ji x i=some y):y.h=x.h:=by
 unfold ji at hy;iterate 4 (refine ic (R:=λy=>y.h=x.h) hy (λ_=>rfl) λ_ hy=>?_)
 refine ic (R:=λy=>y.h=x.h) hy (λ_=>?_) λ_ hy=>?_
 .split
  .exact lU _ _
  rfl
 refine ic (R:=λy=>y.h=x.h) hy (λ_=>rfl) λ_ hy=>?_;refine ic (R:=λy=>y.h=x.h) hy (λ_=>?_) λ_ hy=>?_
 .split<;>rfl
 refine ic (R:=λy=>y.h=x.h) hy (λ_=>rfl) λ_ hy=>?_;refine ic (R:=λy=>y.h=x.h) hy (λ_=>lU _ _) λ_ hy=>?_;refine ic (R:=λy=>y.h=x.h) hy (λ_=>?_) λ_ hy=>by cases hy
 split;exact lU _ _;rfl
def XS.one(h0:P 0)(j:XS P x)(pc:Int)(s:(x.ju.getD pc.toNat default).op=10->(x.ju.getD pc.toNat default).b≠11)(c:(nk x pc).hM=false):RS P (nk x pc)->EP P x.h x.nx (nk x pc).e:=by
 have n:∀{o:XP},o.h=x.h->XS P o->EP P x.h x.nx o.e:=λe k=>by have:=k.ep x.nx;rw[e]at this;exact this
 unfold nk at c ⊢;by_cases h:pc= -1
 .rw[L_ h];clear c;dsimp only;have q:XS P (iv x):=j.brk _;have p:(iv x).h=x.h:=rfl;generalize iv x=y at *
  by_cases r:y.hM=true;rw[L_ r];intro _;exact n p q;rw[K_ r];intro d;have k:=q.read (i:=1) (f:=2)<|d.of qh;exact n ((lU _ _).trans<|(lZ _ _ _).trans p)<|k.1.throw d k.2
 rw[K_ h]at c ⊢;dsimp only at c ⊢;generalize x.ju.getD pc.toNat default=i at *
 cases m:ji x i with
 |some y=>simp only;intro d;exact n (A6 m)<|j.ip h0 m d
 |none=>
  simp only[m]at c ⊢;cases p:kb x i with
  |some y=>simp only;exact j.hH s p x.nx
  |none=>simp only[p]at c ⊢;exact j.rest i c
def Df{h:QQ}{r:Nat->Vl}(c:QR)(hH hC pc e:Int)(h0:P 0)(n:∀i,GV P<|r i)(p:ih c hH hC=true->(c.getD pc.toNat default).op=10->(c.getD pc.toNat default).b≠11)(f:∀x∈(kR c hH hC pc r h e).rs,GV P x.v):EP P h e (kR c hH hC pc r h e):=by
 have o:EP P h e jl:=⟨λc d=>(by cases d),IL,λ_=>GV.default,λc d=>(by cases d),λz s=>(by cases s),λv q=>(by cases q),GV.default⟩;unfold kR at f ⊢;by_cases j:ih c hH hC=false\/pc< -1\/(c.length:Int)<=pc
 .rw[L_ j];exact o
 rw[K_ j]at f ⊢;simp only at f ⊢;have t:ih c hH hC=true:=by
  cases m:ih c hH hC with
  |true=>rfl
  |false=>exact GR (.inl m) j
 have u:XS P ⟨c,hH,hC,pc,r,h,e,{lm with pc:=pc+1,r:=r},false⟩:=⟨λc d=>(by cases d),IL,n,n,λc d=>(by cases d),rfl,rfl,GV.default⟩;have m:=u.one h0 pc<|p t;generalize nk ⟨c,hH,hC,pc,r,h,e,{lm with pc:=pc+1,r:=r},false⟩ pc=y at *
 by_cases k:y.hM=true;rw[L_ k];exact o;rw[K_ k]at f ⊢;exact m (by simpa using k) f
end
def key_eq:∀{l:QV},(l.map jN).Nodup->∀{a b:Cl},a∈l->b∈l->jN a=jN b->a=b
 |[],_,_,_,j,_,_=>by cases j
 |c::l,m,a,b,j,k,e=>by
  have i:=H5.1 (show(jN c::l.map jN).Nodup from m);rcases N_.1 j with f|f
  rcases N_.1 k with d|d
  .rw[f,d]
  exact(i.1<|GJ.2 ⟨b,d,by rw[<-e,f]⟩).elim;rcases N_.1 k with d|d
  .exact(i.1<|GJ.2 ⟨a,f,by rw[e,d]⟩).elim
  exact key_eq i.2 f d e
def q2:∀(ws:QV) (i f:Int) (a:Vl),(pF ws i f a=a/\∀c∈ws,¬(c.id=i/\c.f=f))\/∃c∈ws,(c.id=i/\c.f=f)/\pF ws i f a=c.v
 |[],_,_,_=>.inl ⟨rfl,λc hc=>by cases hc⟩
 |c::ws,i,f,a=>by
  show(pF ws i f (wf1 i f a c)=a/\_)\/∃x∈c::ws,_/\pF ws i f (wf1 i f a c)=x.v;rcases q2 ws i f (wf1 i f a c)with⟨e,h⟩|⟨x,j,k,e⟩
  by_cases d:c.id=i/\c.f=f
  .exact .inr ⟨c,GT,d,by rw[e];unfold wf1;rw[L_ d]⟩
  refine .inl ⟨by rw[e];unfold wf1;rw[K_ d],λy hy=>?_⟩;rcases N_.1 hy with rfl|hy
  exact d;exact h y hy;exact .inr ⟨x,Z_ _ j,k,e⟩
def vx{c c':Cl}(hc:c∈l)(h:∀x∈l,jN x=jN c'->x=c'):c∈kc l c':=by
 unfold kc;split;rename_i j;obtain⟨e,i,f,d⟩:=B3 _ l 0 j;have f:cat l c'.id c'.f=(e:Int):=by unfold cat;rw[f,U_]
 have d:l[e]=c':=h _ (P_ i) (by unfold jN;simp at d;rw[d.1,d.2]);rw[f,Hh,<-d];have:l.set e l[e]=l:=by simp
 rw[this];exact hc;rw[<-HE (qS l c'.id c'.f) l]at hc;rcases X_.1 hc with hc|hc
 exact GZ _ hc;exact G5 _<|G5 _ hc
def Be(c:Int)(a b:Vl):(iA c a b).1.r=false:=by
 cases h:(iA c a b).1.r with
 |false=>rfl
 |true=>exact GR h λd=>(l_ (P:=λ_=>False) d)
def y_:∀(ds:QC) {g:QQ} (_:(ie g).Nodup) {i f:Int} {v:Vl},iw (jz g ds) i f=some v->v.r=true->iw g i f=some v
 |[],_,_,_,_,_,e,_=>e
 |d::ds,g,m,i,f,v,e,c=>by
  have q:=y_ ds (qQ m d) (show iw (jz (na g d) ds) i f=some v from e) c;rw[ua]at q;cases j:iw g d.id d.f with
  |none=>rw[j]at q;exact q
  |some n=>
   rw[j]at q;simp only at q;split at q
   .rw[vr m]at q;cases k:iw g i f with
    |none=>rw[k]at q;cases q
    |some a=>
     rw[k]at q;injection q with q;unfold wf1 at q;split at q;rw[<-q]at c;rw[Be]at c;cases c
     exact GG some q
   exact q
def rA{t:iP}(e:lw V)(d:t.gs=[])(i f:Int):iw (before t V) i f=(iw V i f).map (pF t.rs i f):=by
 have c:before t V=iL V t.rs:=by unfold before;rw[d];rfl
 rw[c,oE _ e.nodup]
def yY{t:iP}(n:lw V)(u:t.gs=[])(B:(ie t.nw).Nodup){i f:Int}{v:Vl}(e:iw (iR t V) i f=some v)(z:v.r=true):
 (∃C∈t.nw,v∈C.fs)\/(∃c∈t.ws,c.v=v)\/(∃c∈t.rs,c.v=v)\/(i∉ie t.nw/\(∀c∈t.ws,¬(c.id=i/\c.f=f))/\(∀c∈t.rs,¬(c.id=i/\c.f=f))/\iw V i f=some v):=by
 have p:=lw.puts t.nw<|mS (t:=t) n;have j:=y_ t.ds (uA p.nodup t.ws) (show iw (jz (iL (t.nw.foldl kS<|before t V) t.ws) t.ds) i f=some v from e) z;rw[oE _ p.nodup]at j;cases d:iw (t.nw.foldl kS<|before t V) i f with
 |none=>rw[d]at j;cases j
 |some a=>
  rw[d]at j;injection j with j;rcases q2 t.ws i f a with⟨w,r⟩|⟨c,k,_,w⟩
  .rw[w]at j;subst j;rw[ub _ (mS n) B]at d;by_cases m:i∈ie t.nw;rw[L_ m]at d;obtain⟨D,s,_,_,_,q,o⟩:=mQ d;exact .inl ⟨_,P_ s,by rw[<-o];exact P_ q⟩;rw[K_ m,rA n u]at d;cases q:iw V i f with
   |none=>rw[q]at d;cases d
   |some b=>
    rw[q]at d;injection d with d;rcases q2 t.rs i f b with⟨o,s⟩|⟨c,k,_,o⟩
    rw[o]at d;subst d;exact .inr<|.inr<|.inr ⟨m,r,s,rfl⟩;rw[o]at d;exact .inr<|.inr<|.inl ⟨c,k,d⟩
  rw[w]at j;exact .inr<|.inl ⟨c,k,j⟩
structure Gk(V:QQ)(i f:Int)(u u':iP):Prop where
 ids:ie u'.nw=ie u.nw
 ws:∀y∈u'.ws,y∈u.ws\/jN y=(i,f)
 rs:∀y∈u'.rs,y∈u.rs\/jN y=(i,f)
 gs:u'.gs=[]
 kd:(u'.rs.map jN).Nodup
 mon:∀c∈u.rs,c∈u'.rs
def zG{u:iP}{c y:Cl}(h:y∈(jt u c).ws):y∈u.ws\/jN y=jN c:=by
 unfold jt at h;split at h;rcases nT h with d|d
 .exact .inl d
 exact .inr (by rw[d]);exact .inl h
def vf{u o:iP}{i f:Int}(v:lw V)(hg:u.gs=[])(kd:(u.rs.map jN).Nodup)(h:jb u V i f=some o):Gk V i f u o:=by
 have t:=(o6 h).gs.trans hg;unfold jb at h;split at h
 .exact Mz
 split at h
 .cases h
 rename_i b e;split at h;cases h
 injection h with h;subst h;have j:(jt {u with rs:=kc u.rs ⟨i,f,b⟩,ds:=u.ds.eraseIdx (pk u.ds i f).toNat} ⟨i,f,(iw (iR u V) i f).getD default⟩).rs=kc u.rs ⟨i,f,b⟩:=uW;refine⟨o3,λy hy=>zG hy,λy hy=>?_,t,by rw[j];exact vw kd _,λc s=>?_⟩
 .rw[j]at hy;exact Nn
 rw[j];refine vx s λx n d=>?_;have d:x.id=i/\x.f=f:=by unfold jN at d;injection d with p r;exact⟨p,r⟩
 rw[rA v hg]at e;cases m:iw V i f with
 |none=>rw[m]at e;cases e
 |some a=>
  rw[m]at e;injection e with e;rcases q2 u.rs i f a with⟨_,w⟩|⟨y,hy,k,w⟩
  exact GR d<|w x n;have g:x=y:=key_eq kd n hy (by unfold jN;rw[d.1,d.2,k.1,k.2]);rw[w]at e;obtain⟨B,P,z⟩:=x;simp only at d;obtain⟨rfl,rfl⟩:=d;rw[<-e,<-g]
def vT{u e:iP}{c:Cl}(j:lw V)(hg:u.gs=[])(kd:(u.rs.map jN).Nodup)(h:m8 V u c=some e):Gk V c.id c.f u e:=by
 unfold m8 at h;split at h
 .exact Mz
 rename_i m;split at h;exact vf j hg kd h;injection h with h;subst h;refine⟨rfl,λy q=>.inl q,λy hy=>?_,hg,vw kd c,λx k=>vx k λy hy d=>?_⟩
 .exact Nn
 exfalso;exact yM (show cat u.rs c.id c.f<0 by omega) y hy (by unfold jN at d;injection d with f i;exact⟨f,i⟩)
def rf{V:QQ}(f:lw V):∀(l:QV) {u x:iP},u.gs=[]->(u.rs.map jN).Nodup->jB V u l=some x->ie x.nw=ie u.nw/\x.gs=[]/\(x.rs.map jN).Nodup/\∀c∈u.rs,c∈x.rs
 |[],u,x,d,kd,h=>by injection h with h;subst h;exact⟨rfl,d,kd,λc q=>q⟩
 |c::l,u,x,d,kd,h=>by
  unfold jB at h;cases e:m8 V u c with
  |none=>rw[e]at h;cases h
  |some n=>
   rw[e]at h;have k:=vT f d kd e;obtain⟨a,b,i,j⟩:=rf f l k.gs k.kd h;exact⟨a.trans k.ids,b,i,λy m=>j y<|k.mon y m⟩
def vj{V:QQ}(m:lw V):∀(l:QV) {u x:iP},u.gs=[]->(u.rs.map jN).Nodup->(l.map jN).Nodup->jB V u l=some x->∀c∈l,jx u.nw c.id<0->(∀y∈u.ws,jN y≠jN c)->(∀y∈u.rs,jN y≠jN c)->iw V c.id c.f=some c.v->c.v.r=true->c∈x.rs
 |[],_,_,_,_,_,_,_,hc,_,_,_,_,_=>by cases hc
 |a::l,u,x,r,kd,C,h,c,hc,v,p,n,t,s=>by
  unfold jB at h;have f:=H5.1 (show(jN a::l.map jN).Nodup from C);cases d:m8 V u a with
  |none=>rw[d]at h;cases h
  |some o=>
   rw[d]at h;have k:=vT m r kd d;rcases N_.1 hc with rfl|hc
   have q:∀{l:QV},(∀y∈l,jN y≠jN c)->cat l c.id c.f<0:=λ{l} hl=>by
    by_cases e:cat l c.id c.f<0;exact e;obtain⟨y,j,i⟩:=(oD _ l 0).1 (show 0<=cat l c.id c.f by omega);have i:y.id=c.id/\y.f=c.f:=by simpa using i
    exact GR (by unfold jN;rw[i.1,i.2])<|hl y j
   have B:=q p;have D:=q n;unfold m8 at d;rw[K_<|by omega]at d;have z:c∈o.rs:=by
    split at d;rename_i E;exfalso;unfold jb at d;rw[K_ (by omega),rA m r,t]at d;have w:pF u.rs c.id c.f c.v=c.v:=tw _ _ λy j e=>n y j (by unfold jN;rw[e.1,e.2]);simp only[IC,w]at d;rw[L_ s]at d;cases d
    injection d with d;subst d;show c∈kc u.rs c;unfold kc;rw[K_<|by omega];exact G5 _<|GZ _<|J_.2 rfl
   exact(rf m l k.gs k.kd h).2.2.2 c z;have q:jN a≠jN c:=λi=>f.1 (by rw[i];exact GJ.2 ⟨c,hc,rfl⟩);have b:jx o.nw c.id<0:=by
    by_cases e:jx o.nw c.id<0;exact e;have:=wY e;rw[k.ids]at this;exact GR this<|ud v
   exact vj m l k.gs k.kd f.2 h c hc b (λy j=>(k.ws y j).elim (p y) λi e=>q<|by rw[<-e,i];rfl) (λy j=>(k.rs y j).elim (n y) λi e=>q<|by rw[<-e,i];rfl) t s
structure PW(P:Int->Prop)(u:iP):Prop where
 ws:∀c∈u.ws,GV P c.v
 nw:∀o∈u.nw,∀v∈o.fs,GV P v
def uX{P:Int->Prop}{u:iP}(h:PW P u){c:Cl}(hc:GV P c.v):PW P (jt u c):=by
 unfold jt;split;refine⟨λx e=>?_,h.nw⟩;rcases nT e with d|d
 exact h.ws x d;rw[d];exact hc;refine⟨h.ws,λo m j d=>?_⟩;obtain⟨n,k,e⟩:=HP m;rw[IE]at k;rw[Hy]at e;have f:=h.nw _<|P_ k;split at e
 .rw[<-e]at d;unfold tU at d;dsimp only at d;split at d
  .rcases GX d with i|i
   .exact f j i
   rw[i];exact hc
  exact f j d
 rw[<-e]at d;exact f j d
def vd{P:Int->Prop}{u q:iP}{i f:Int}(p:lw V)(o:u.gs=[])(D:(ie u.nw).Nodup)(C:∀c∈u.rs,GV P c.v)(h:PW P u)(e:jb u V i f=some q):PW P q:=by
 unfold jb at e;split at e
 .injection e with e;subst e;exact h
 split at e
 .cases e
 rename_i b k;split at e
 .cases e
 rename_i s;injection e with e;subst e;refine uX (u:={u with rs:=kc u.rs ⟨i,f,b⟩,ds:=u.ds.eraseIdx (pk u.ds i f).toNat}) ⟨h.ws,h.nw⟩ ?_;show GV P ((iw (iR u V) i f).getD default);cases t:iw (iR u V) i f with
 |none=>exact GV.default
 |some r=>
  intro d;have d:r.r=true:=d;rcases yY p o D t d with⟨E,B,j⟩|⟨c,n,j⟩|⟨c,n,j⟩|⟨I,J,v,z⟩
  exact h.nw E B r j d;rw[<-j]at d;have m:=h.ws c n d;rw[j]at m;exact m;rw[<-j]at d;have m:=C c n d;rw[j]at m;exact m;exfalso;rw[rA p o,z]at k;injection k with k;rw[tw _ _ v]at k;rw[k]at d;exact s d
def wQ{P:Int->Prop}{V:QQ}(e:lw V):∀(l:QV) {u x:iP},u.gs=[]->(u.rs.map jN).Nodup->(ie u.nw).Nodup->jB V u l=some x->(∀c∈x.rs,GV P c.v)->PW P u->PW P x
 |[],u,x,_,_,_,h,_,p=>by injection h with h;subst h;exact p
 |c::l,u,x,f,kd,j,h,i,p=>by
  unfold jB at h;cases d:m8 V u c with
  |none=>rw[d]at h;cases h
  |some o=>
   rw[d]at h;have k:=vT e f kd d;have n:=rf e l k.gs k.kd h;refine wQ e l k.gs k.kd (by rw[k.ids];exact j) h i ?_;unfold m8 at d;split at d
   .injection d with d;subst d;exact p
   split at d;exact vd e f j (λy m=>i y<|n.2.2.2 y<|k.mon y m) p d;injection d with d;subst d;exact⟨p.ws,p.nw⟩
def wO{P:Int->Prop}{V:QQ}(m:lw V):∀(l:QV) {u x:iP},u.gs=[]->(u.rs.map jN).Nodup->(ie u.nw).Nodup->j6 V u l=some x->ie x.nw=ie u.nw/\x.gs=[]/\(x.rs.map jN).Nodup/\(∀c∈u.rs,c∈x.rs)/\((∀c∈x.rs,GV P c.v)->(∀c∈l,GV P c.v)->PW P u->PW P x)
 |[],u,x,j,kd,_,h=>by injection h with h;subst h;exact⟨rfl,j,kd,λc q=>q,λ_ _ p=>p⟩
 |c::l,u,x,j,kd,z,h=>by
  unfold j6 at h;cases d:pw V u c with
  |none=>rw[d]at h;cases h
  |some D=>
   rw[d]at h;unfold pw at d;cases i:jb u V c.id c.f with
   |none=>rw[i]at d;cases d
   |some y=>
    rw[i]at d;injection d with d;subst d;have k:=vf m j kd i;have n:(jt y c).rs=y.rs:=uW;have g:(jt y c).gs=[]:=(o2 y c).gs.trans k.gs;have v:ie (jt y c).nw=ie u.nw:=(o3 (t:=y) (c:=c)).trans k.ids;obtain⟨a,b,B,o,C⟩:=wO (P:=P) m l g (by rw[n];exact k.kd) (by rw[v];exact z) h;refine⟨a.trans v,b,B,λe f=>o e (by rw[n];exact k.mon e f),λs r p=>C s (λe f=>r e<|Z_ _ f) ?_⟩;exact uX (vd m j z (λe f=>s e<|o e<|by rw[n];exact k.mon e f) p i)<|r c GT
structure Fx(base:Nat)(T:List TypeId)(w w':World):Prop where
 gr:∀a:World,a.heap.size<=base->J [] a w->J [] a w'
 iF:∀(k:Nat) (o:Obj),w.heap[k]?=some o->(∀cs t fz,o=.cells cs t fz->t∉T)->w'.heap[k]?=some o
 size:w.heap.size<=w'.heap.size
section
variable{base:Nat}{T:List TypeId}{a b w w':World}
def Fx.trans(h:Fx base T a b)(k:Fx base T b w):Fx base T a w:=
 ⟨λx d i=>k.gr x d<|h.gr x d i,λe f j c=>k.iF e f (h.iF e f j c) c,H_ h.size k.size⟩
def Fx.jS(h:J [] a w):Fx base T a w:=
 ⟨λ_ _ d=>d.trans h,λe f c _=>(h.block e (lv c) s_).trans c,h.size⟩
def Fx.app{e:TypeId}(h:App base e a w)(f:e∈T):Fx base T a w:=
 ⟨λx m i=>h.gr [] x m i,λn o k j=>h.iF n o k<|.inr λcs d c=>j cs e d c f,h.size⟩
def Fx.one{t:TypeId}(h:J [g] w w')(d:Bk w g t cs)(o:base<=g)(m:t∈T):Fx base T w w':=
 ⟨λx p i=>i.hJ h (λy n=>.inr<|by rw[J_]at n;omega),λe r c k=>(h.block e (lv c) (by
   rintro j;have f:e=g:=zu j;subst f;unfold Bk at d;rw[d]at c;injection c with c;exact k cs t _ c.symm m)).trans c,h.size⟩
def Fx.bk{t:TypeId}(k:Fx base T a w)(h:Bk a g t cs)(ht:t∉T:=by decide):Bk w g t cs:=
 k.iF g _ h (λc t' fz e=>by injection e with _ e;subst e;exact ht)
def Fx.sl{e:TypeId}{size n:Nat}{A:OA}{xs:QX}(k:Fx base T a w)(h:Sl a e size A n xs)(ht:e∉T:=by decide):Sl w e size A n xs:=
 ⟨h.1,λhn=>by
   obtain⟨b,off,cs,fz,hA,hb,hc⟩:=h.2 hn;exact⟨b,off,cs,fz,hA,k.iF b _ hb (λc t' i e=>by injection e with _ e;subst e;exact ht),hc⟩⟩
end
structure GA(base:Nat)(w:World)(g:Nat)(l:QS):Prop where
 hi:base<=g
 row:∃A c,Bk w g 119 #[.slice A l.length c]/\Zr base w A c l
def GA.hF{base:Nat}{w w':World}{l:QS}(h:GA base w g l)(c:J [] w w'):GA base w' g l:=by
 obtain⟨e,A,d,f,i⟩:=h;exact⟨e,A,d,f.hF c,i.hF c⟩
def p4{f:TypeId}{base c:Nat}{l d:QS}{A:OA}{w:World}(h:GA base w g l)(u:Sl w f 1 A d.length<|zs d)(t:base<=w.heap.size)(v:l.length+d.length<=1000000000):
 Calls prog 67 #[q_ g,.slice A d.length c] w λe w'=>e=.returned (.tuple #[])/\GA base w' g (l++d)/\Fx base [119,2] w w':=by
 obtain⟨q,D,L,o,z⟩:=h;have E:=o.f_ 0;go_enter func67,ntmps67;go_wp2_with (at_builtin;refine Fn z u t v ?_;intro j k m s r;have i:=r.bk o I;have N:=i.hG 0;have K:=i.f_ 0);have n:J [g] m (m.setCell (Z g 0)<|.slice j (l.length+d.length) k):=(G_ [g] m).setCell (p:=Z g 0) (.inl s_) _;refine en_ ⟨rfl,⟨q,j,k,?_,?_⟩,(Fx.app r s_).trans<|Fx.one n i q s_⟩;have:=i.hW 0<|.slice j (l.length+d.length) k;exact NW;exact kE s (λcs M B=>by have:=i.symm.trans B;injection this with this;injection this with _ C;exact GR C I) n
def ug{base:Nat}{l:QS}{v:Vl}{w:World}(h:GA base w g l)(C:base<=w.heap.size)(p:l.length+(qu v).length<=1000000000):
 Calls prog 69 #[q_ g,.agg #[.bool v.r,Y v.n]] w λe w'=>e=.returned (.tuple #[])/\GA base w' g (l++qu v)/\Fx base [119,2] w w':=by
 refine ig λt ax=>?_;obtain⟨n,B,o,u,N2,i⟩:=box1 w 38 #[.bool v.r,Y v.n];obtain⟨m,z⟩:=i.iN;have hh:=h.hF N2;cases d:v.r with
 |false=>
  have aL:=O (show qu v=[] by unfold qu isRef;rw[d];rfl);rw[d]at m o;clear d i;exact My
 |true=>
  rw[d]at m o;by_cases f:v.n=0;have j:(v.n !=0)=false:=by simp[f]
  have aL:=O (show qu v=[] by unfold qu isRef;rw[j,Bool.and_false];rfl);clear d i f;exact My;have j:(v.n !=0)=true:=by simp[f]
  have aL:=O (show qu v=[v.n] by unfold qu isRef;rw[d,j];rfl);have k:=(G_ [] n).alloc<|.cells #[Y v.n] 2;have s:=O (p4 (c:=1) (hh.hF k) (Ls.one n v.n) (by have:=N2.size;simp;omega)<|by rw[aL.out]at p;simpa using p);clear d i f;go_enter func69,ntmps69;go_wp2_with (go_at_call 67;refine s.out.mono ?_;rintro e D⟨rfl,q,r⟩);refine en_ ?_;rw[ax.out,aL.out];exact⟨rfl,q,(Fx.jS<|N2.trans k).trans r⟩
end
variable{i:In}{l:QR}(x:XP)(v:Vl)
def LZ{G:Prop} (h:G:=by
 split at hy;injection hy with hy;subst hy;exact(lr _ _).trans z;injection hy with hy;subst hy;exact z):G:=h
def FL(h:QQ):Prop:=∀o∈h,o.fs.length<=70
def mr(id f:Int):(hQ x id f).1.e.nw=x.e.nw:=NE
def rN:(hO x).1.e.nw=x.e.nw:=by
 unfold hO;simp only;split;rfl;exact mr (iv x) 1 0
def lr:(iX x v).e.nw=x.e.nw:=by
 have a:=rN x;have b:=(mr (hO x).1 (hO x).2.1 2).trans a;have c:=(mr (hQ (hO x).1 (hO x).2.1 2).1 (hO x).2.1 0).trans b;unfold iX;simp only;split;exact a;split
 .exact b
 split
 .exact b
 split
 .exact c
 split<;>exact c
def tq(f:Int):(ik x v f).1.e.nw=x.e.nw:=by
 unfold ik;split;exact lr x _;split
 .exact lr x _
 split
 .rfl
 split
 .exact lr x _
 rfl
def vJ(n:Int):(hI x n).1.e.nw=x.e.nw:=by
 have a:=rN x;unfold hI;simp only;split;exact a;split
 .exact(lr _ _).trans a
 exact a
def zy{x y:XP}(hy:ji x i=some y):y.e.nw=x.e.nw:=by
 unfold ji at hy;iterate 4 (refine ic (R:=λy=>y.e.nw=x.e.nw) hy (λ_=>rfl) λ_ hy=>?_)
 refine ic (R:=λy=>y.e.nw=x.e.nw) hy (λ_=>?_) λ_ hy=>?_
 .split
  .exact lr _ _
  rfl
 refine ic (R:=λy=>y.e.nw=x.e.nw) hy (λ_=>rfl) λ_ hy=>?_;refine ic (R:=λy=>y.e.nw=x.e.nw) hy (λ_=>?_) λ_ hy=>?_
 .split<;>rfl
 refine ic (R:=λy=>y.e.nw=x.e.nw) hy (λ_=>rfl) λ_ hy=>?_;refine ic (R:=λy=>y.e.nw=x.e.nw) hy (λ_=>lr _ _) λ_ hy=>?_;refine ic (R:=λy=>y.e.nw=x.e.nw) hy (λ_=>?_) λ_ hy=>by cases hy
 split;exact lr _ _;rfl
def A2{x y:XP}(hy:kb x i=some y):y.e.nw=x.e.nw:=by
 have a:=vJ x i.n;have z:=(mr (hI x i.n).1 (hI x i.n).2.1 (hI x i.n).2.2.1).trans a;unfold kb at hy;simp only at hy;split at hy
 .cases hy
 split at hy
 .injection hy with hy;subst hy;exact a
 split at hy
 .injection hy with hy;subst hy;exact a
 split at hy
 .injection hy with hy;subst hy;exact z
 split at hy
 .exact LZ
 exact LZ
def F_(i:In):Prop:=(i.op=7->i.n<=16)/\(i.op=13->0<=i.b/\i.b<=4/\i.b<=i.c/\i.c<=64)
def A4{x:XP}(m:F_ i)(b:FL x.e.nw):FL (jH x i).e.nw:=by
 have f:=rN x;unfold jH;dsimp only;by_cases k:i.op=5
 .rw[L_ k];have c:=tq x (x.sr i.b.toNat) i.n;split
  .show FL (hQ _ _ _).1.e.nw;rw[mr,c];exact b
  rw[c];exact b
 rw[K_ k];by_cases j:i.op=6
 .rw[L_ j];have c:=tq x (x.sr i.b.toNat) i.n;split
  .show FL (ik _ _ _).1.e.nw;rw[c];exact b
  rw[c];exact b
 rw[K_ j];by_cases d:i.op=7
 .rw[L_ d];intro c h;have e:c=⟨x.nx,List.replicate i.n.toNat default⟩:=J_.1 h;rw[e,Hm];have:=m.1 d;omega
 rw[K_ d];by_cases g:i.op=13
 .rw[L_ g];intro c h;have e:=J_.1 h;rw[e];simp only[M_,GI,Hb,Hf,Iv,Hm];have:=m.2 g;omega
 rw[K_ g];by_cases l:i.op=14
 .rw[L_ l];have n:=(mr (hO x).1 (hO x).2.1 0).trans f;have p:=(mr (hQ (hO x).1 (hO x).2.1 0).1 (hO x).2.1 1).trans n;split
  .rw[f];exact b
  split
  .show FL (hQ _ _ _).1.e.nw;rw[n];exact b
  split
  .show FL (hQ _ _ _).1.e.nw;rw[p];exact b
  show FL (hQ _ _ _).1.e.nw;rw[p];exact b
 rw[K_ l];by_cases o:i.op=15\/i.op=18
 .rw[L_ o];split
  .exact b
  show FL (hQ _ _ _).1.e.nw;rw[mr];exact b
 rw[K_ o];by_cases q:i.op=17
 .rw[L_ q];show FL (hO x).1.e.nw;rw[f];exact b
 rw[K_ q];exact b
def Cb{k:Nat}(h:kU l k=true):F_ (l.getD k default):=by
 unfold kU jU at h;generalize l.getD k default=x at*;obtain⟨g,a,e,f,n⟩:=x;simp only at h;split at h
 .cases h
 split at h
 .cases h
 split at h
 .cases h
 rename_i d;refine⟨λb=>?_,λb=>?_⟩;simp only at b;subst b;have c:(je.getD (7:Int).toNat default).n=4:=rfl;rw[c]at h;simp at h;exact h.2;simp only at b;subst b;simp at d;simp only;omega
def De{c:QR}{hH hC:Int}(e:ih c hH hC=true)(pc:Int)(r:Nat->Vl)(h:QQ)(k:Int):FL (kR c hH hC pc r h k).nw:=by
 have q:FL ({lm with pc:=pc+1,r:=r}:pC).nw:=λo d=>by cases d
 have a:FL jl.nw:=λo d=>by cases d
 unfold kR;split;exact a;rename_i s;have n:pc≠ -1->F_ (c.getD pc.toNat default):=λg=>by
  refine Cb ?_;unfold ih nF at e;simp only[G4]at e;exact G6.mp e.1.1.2 _ p_
 simp only;split;exact a;generalize j:(⟨c,hH,hC,pc,r,h,k,{lm with pc:=pc+1,r:=r},false⟩:XP)=x;have b:FL x.e.nw:=by rw[<-j];exact q
 have m:x.ju=c:=by rw[<-j]
 unfold nk;split;simp only;split
 .exact b
 rw[lr,mr];exact b;rename_i g;simp only;split
 .rename_i p f;rw[zy f];exact b
 split
 .rename_i p f;rw[A2 f];exact b
 exact A4 (by rw[m];exact n g) b
def fits_all{hH hC:Int}(b:ih l hH hC=true):∀k,k<l.length->kU l k=true:=by
 intro k c;unfold ih nF at b;simp only[G4]at b;exact G6.mp b.1.1.2 k (by simpa using c)
