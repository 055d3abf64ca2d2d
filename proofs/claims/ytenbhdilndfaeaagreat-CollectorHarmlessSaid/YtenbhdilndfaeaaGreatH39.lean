import Derived.Test.YtenbhdilndfaeaaGreatH35
import Derived.Test.YtenbhdilndfaeaaGreatH38
import Derived.ChangeKeysEq
set_option maxRecDepth 100000
set_option maxHeartbeats 0
set_option linter.all false
namespace Go.Proofs.YtenbhdilndfaeaaGreat
open Go.RowKit Go.Proofs.Tryz
variable{G:Prop}{ip:Bool}{m:Md}{x:Int}{o:Ob}{g:Nat}(A:OA)
def JP(h:G:=by
 refine hZ H (x.out _ N3) λC=>?_;clear H K;refine iC 11 C ?_;refine iC 12 C ?_;refine iC 13 C ?_;replace ai:=ai.hF M;refine h4 15 λK H=>?_;rw[L_ r_];refine h9 53 rfl r r_ tc.g_ r_ 53 ai rfl k_ (Tk.one _) ?_;intro bq aS y;have ar:J [] aw bq:=N3.hJ y (by simp;omega);refine hZ H (x.out _ ar) λC=>?_;clear H K;refine iC 16 C ?_;exact MK):G:=h
def JQ(h:G:=by
 refine hZ H (x.out _ N3) λC=>?_;clear H K;refine iC 13 C ?_;refine iC 14 C ?_;refine iC 15 C ?_;replace ai:=ai.hF M;refine h4 17 λK H=>?_;rw[L_ r_];refine h9 53 rfl r r_ tc.g_ r_ 53 ai rfl k_ (Tk.one _) ?_;intro bq aS y;have ar:J [] wr bq:=N3.hJ y (by simp;omega);refine hZ H (x.out _ ar) λC=>?_;clear H K;refine iC 18 C ?_;exact MK):G:=h
def Kq(h:G:=by
 refine iC 0 C ?_;refine iC 1 C ?_;refine iC 2 C ?_;refine iC 3 C ?_;refine iC 4 C ?_;refine iC 5 C ?_;refine iC 6 C ?_;refine iC 7 C ?_;refine iC 8 C ?_;refine hN k_ ?_ _;go_wp2;go_roundw;exact⟨i+1,X,gn,hg.trans hd⟩;exact mz):G:=h
def LH(h:G:=by
 clear b8 ca aM bj b7 bi a7 cq co;go_wp2;go_roundw;exact⟨k+1,by omega,by go_num,bT⟩;simp[intOf];omega):G:=h
def Mx(h:G:=by
 refine hN k_ ?_ _;go_wp2;go_meet;exact⟨r,tc,rfl,rfl,aF,aS,(bt.hF aE).iy ai oz y,bu,ar⟩):G:=h
def MK(h:G:=by
 refine hN k_ ?_ _;go_wp2;go_meet;exact⟨r,tc,rfl,rfl,aF,aS,(bt).iy ai oz y,bu,ar⟩):G:=h
def FL.jt{t:iP}(h:FL t.nw)(c:Cl):FL (jt t c).nw:=by
 unfold Go.Proofs.YtenbhdilndfaeaaGreat.jt;split;exact h;intro o i;obtain⟨j,f,b⟩:=HP i;have e:j<t.nw.length:=zu f;have d:=h _<|P_ e;rw[Hy]at b;split at b
 .rw[<-b];unfold tU;dsimp only;split
  .rw[G3];exact d
  exact d
 rw[<-b];exact d
def FL.jb{t t':iP}(h:FL t.nw){view:QQ}{id f:Int}(b:jb t view id f=some t'):FL t'.nw:=by
 unfold Go.Proofs.YtenbhdilndfaeaaGreat.jb at b;split at b;injection b with b;subst b;exact h;split at b
 .cases b
 split at b
 .cases b
 injection b with b;subst b;refine FL.jt ?_ _;exact h
def CU{t t':iP}{d:Dl}(b:take t d=some t'):t'.nw=t.nw:=by
 unfold take at b;split at b;cases b
 split at b
 .injection b with b;subst b
  rfl
 split at b
 .cases b
 injection b with b;subst b;rfl
def tP:∀(l:QC) (t:iP) (rs ws:QV),(jf t rs ws l).1.nw=t.nw
 |[],_,_,_=>rfl
 |d::l,t,rs,ws=>by
  unfold jf;cases b:take t d with
  |none=>exact tP l t rs ws
  |some t'=>exact(tP l t' _ _).trans<|CU b
def FL.jB{view:QQ}:∀(l:QV) {t t':iP},FL t.nw->jB view t l=some t'->FL t'.nw
 |[],t,t',h,d=>by injection d with d;subst d;exact h
 |c::l,t,t',h,d=>by
  unfold Go.Proofs.YtenbhdilndfaeaaGreat.jB at d;cases b:m8 view t c with
  |none=>rw[b]at d;cases d
  |some e=>
   rw[b]at d;refine FL.jB l ?_ d;unfold m8 at b;split at b;injection b with b;subst b;exact h;split at b
   .exact h.jb b
   injection b with b;subst b;exact h
def FL.j6{view:QQ}:∀(l:QV) {t t':iP},FL t.nw->j6 view t l=some t'->FL t'.nw
 |[],t,t',h,d=>by injection d with d;subst d;exact h
 |c::l,t,t',h,d=>by
  unfold Go.Proofs.YtenbhdilndfaeaaGreat.j6 at d;cases b:pw view t c with
  |none=>rw[b]at d;cases d
  |some i=>
   rw[b]at d;refine FL.j6 l ?_ d;unfold pw at b;cases e:Go.Proofs.YtenbhdilndfaeaaGreat.jb t view c.id c.f with
   |none=>rw[e]at b;cases b
   |some f=>rw[e]at b;injection b with b;subst b;exact(h.jb e).jt _
def FL.app{a b:QQ}(h:FL a)(k:FL b):FL (a++b):=λo c=>(X_.1 c).elim (h o)<|k o
def FL.record{t t':iP}{view:QQ}{e:pC}(h:FL t.nw)(n:FL e.nw)(b:record t view e=some t'):FL t'.nw:=by
 unfold Go.Proofs.YtenbhdilndfaeaaGreat.record at b;dsimp only at b;have k:=tP e.ds t e.rs e.ws;generalize jf t e.rs e.ws e.ds=a at*
 cases c:Go.Proofs.YtenbhdilndfaeaaGreat.jB view a.1 a.2.1 with
 |none=>rw[c]at b;cases b
 |some f=>
  rw[c]at b;dsimp only at b;have j:=FL.jB _ (by rw[k];exact h) c;cases d:Go.Proofs.YtenbhdilndfaeaaGreat.j6 view {f with nw:=f.nw++e.nw} a.2.2 with
  |none=>rw[d]at b;cases b
  |some i=>rw[d]at b;injection b with b;subst b;show FL i.nw;refine FL.j6 _ ?_ d;exact j.app n
def FL.step{c:QR}{hH hC:Int}{d:QS}{t:iP}{view:QQ}(j:ih c hH hC=true)(h:FL t.nw):FL (iT c hH hC d t view).nw:=by
 have f:=De j t.pc t.r (iR t view)<|(t.run+1)*1048576+t.nw.length;unfold iT;dsimp only;generalize kR c hH hC t.pc t.r (iR t view) ((t.run+1)*1048576+t.nw.length)=e at*;split
 .exact h
 split
 .exact h
 cases i:Go.Proofs.YtenbhdilndfaeaaGreat.record t view e with
 |none=>exact h
 |some x=>
  have b:=h.record f i;dsimp only;split
  .exact b
  split<;>exact b
def AI{l:QR}{hH hC hT run:Int}:FL (jm l hH hC hT run ip).1.nw:=by
 rw[vA];intro o b;cases b
def vD.fl{l:QR}{hH hC:Int}{d:QS}{h:QQ}{run:Int}{n:Nat}{ts:QA}(k:ih l hH hC=true)(i:vD l hH hC d h run n ts):∀t∈ts,FL t.nw:=by
 induction i with
 |hT ts p j=>
  intro t b;obtain⟨f,c,rfl⟩:=HP b;obtain⟨x,ip,_,e⟩:=j f c;rw[e];exact AI
 |step f c j p e=>
  intro t b;rcases GX b with b|rfl
  exact e t b;exact(e _<|P_ c).step k
def qT(l:QV):(lj l).length<=2*l.length:=by
 induction l with
 |nil=>simp[lj]
 |cons c l b=>
  unfold lj at b |-;simp only[Hc,M_,GI]
  have:(qu c.v).length<=1:=by unfold qu;split<;>simp
  omega
def tN:∀{h:QQ},FL h->(m7 h).length<=70*h.length
 |[],_=>by simp[m7]
 |o::h,b=>by
  have c:=tN (h:=h) λx d=>b x<|Z_ _ d;have e:=b o GT;have f:(pQ o.fs).length<=o.fs.length:=by unfold pQ;rw[Hf];exact Hw _ _
  unfold m7 at c |-;simp only[Hc,M_,GI];omega
def yg{t:iP}(c:FL t.nw)(b:t.sm 500000):(np t).length<=38500000:=by
 have k:=qT t.gs;have n:=qT t.rs;have p:=qT t.ws;have j:=tN c;have d:=b.gs;have G:=b.rs;have e:=b.ws;have f:=b.nw;have i:=b.ds;unfold np;simp only[M_,Hf];omega
def zY:∀{ts:QA} {n:Nat},(∀t∈ts,(np t).length<=n)->(k4 ts).length<=1+ts.length*n:=by
 intro ts n h;unfold k4;rw[GI]
 suffices (ts.flatMap np).length<=ts.length*n by omega
 induction ts with
 |nil=>simp
 |cons t ts b=>
  have:=b λx c=>h x<|Z_ _ c;have:=h t GT;simp only[Hc,M_,GI,HY];omega
def yT.ne{run n:Int}(h:yT run n):n≠0:=by
 rcases h with h|h|⟨f,e,b,_,c,_,d⟩<;>omega
def Md.hm{w:World}(e:sh w m)(b:AO m):HM w m.s.h.A m.s.h.l:=by
 obtain⟨r,run,q,hc,_⟩:=b.cm;have c:=(hc.cb b.val).1.h;have f:m.s.p.h=hY m.s.h.l:=rfl;have a:=(hc.ci b.val (kq b.val).2.1).2;have d:=hc.gX E7 b.val X;rw[f]at c a d;rw[ib]at c;refine⟨⟨_,e.s.h.os.e⟩,⟨_,e.s.h.ll.e⟩,X,λk=>(a.old 0 k).ne rfl,λx j=>?_⟩;obtain⟨o,i,rfl⟩:=GJ.1 j;obtain⟨n,p⟩:=d.ids o i;exact WalkArith.wf_i64 X
def Md.tm{w:World}(k:sh w m)(i:AO m):TM w m.tA m.ts:=by
 obtain⟨E,run,D,hc,t⟩:=i.cm;have u:=(kq i.val).2.1;have d:m.ts.length<=16/\∀b∈m.ts,FL b.p.nw/\b.p.sm 500000:=by
  rcases t with⟨_,e,_⟩|⟨_,_,n,_,j⟩
  rw[e];exact⟨R_ _,λb c=>by cases c⟩;refine⟨by have:=j.len;rwa [Hf]at this,λb c=>?_⟩;have p:=IR (f:=Tk.p) c;exact⟨j.fl i.val _ p,(j.tf i.val u _ p).1.sm⟩
 have v:=zY (ts:=m.ts.map Tk.p) (n:=38500000) λb c=>by
  obtain⟨s,r,rfl⟩:=GJ.1 c;exact yg (d.2 s r).1 (d.2 s r).2
 rw[Hf]at v;refine⟨⟨_,k.ts.row⟩,λb c=>(k.ts.y0 b c).e,ov d.1,by have:=d.1;omega,λb c=>?_⟩;have h:=(d.2 b c).2;have e:b.p.nw.length=b.nw.l.length:=ib _;have y:b.gs.l.length<=500000:=h.gs;have G:b.rs.l.length<=500000:=h.rs;have z:b.ws.l.length<=500000:=h.ws;have B:b.ds.l.length<=500000:=h.ds;have C:=h.nw;omega
def oP{h:QQ}{ts:QA}:x∈lb h ts↔wn h (· ∈k4 ts) x:=by
 unfold lb;rw[(kz _ _).mem];exact⟨λc=>c.mono λd b=>((mA _).mem d).1 b,λc=>c.mono λd b=>((mA _).mem d).2 b⟩
def p9{h:QQ}{ts:QA}:o∈lS h ts↔o∈h/\o.id∈lb h ts:=by
 unfold lS;rw[H6,HH]
def xo{h:QQ}(d:lw h)(ts:QA):ie (lS h ts)=lb h ts:=by
 refine Asc.eq (P:=λx=>x∈lb h ts) ⟨?_,λx=>?_⟩ ⟨(kz _ _).lt,λx=>Iff.rfl⟩;unfold lS ie;exact List.Pairwise.sublist (List.Sublist.map _ Jd) d;constructor
 .intro b;obtain⟨o,c,rfl⟩:=GJ.1 b;exact(p9.1 c).2
 intro b;obtain⟨o,c,rfl⟩:=GJ.1 ((oP).1 b).ids;exact GJ.2 ⟨o,p9.2 ⟨c,b⟩,rfl⟩
def xp{h:QQ}{ts:QA}(j:lw h)(hc:HG (EV h) h)(i:o∈lS h ts){v:Vl}(e:v∈o.fs)(b:isRef v=true):v.n∈lb h ts:=by
 obtain⟨d,f⟩:=p9.1 i;have c:v.r=true/\v.n≠0:=by unfold isRef at b;simpa using b
 exact(oP).2<|.step ((oP).1 f) (j.get d) e b<|((hc o d).2 v e c.1).resolve_left c.2
def uk{h:QQ}(b:lw h)(ts:QA):lw (lS h ts):=by
 unfold lw;rw[xo b];exact(kz _ _).lt
def Ck{h:QQ}(e:lw h){ts:QA}{n:Int}(i:n∈lb h ts\/n∉ie h):jy (lS h ts) n=jy h n:=by
 by_cases b:n∈ie h;have f:=i.resolve_right λj=>j b;obtain⟨o,c⟩:=oh.1 b;have d:o∈lS h ts:=p9.2 ⟨pZ c,by rw[ph c];exact f⟩;have:=(uk e ts).get d;rw[ph c]at this;rw[this,c];have f:jy h n=none:=by
  cases c:jy h n with
  |none=>rfl
  |some o=>exact GR (oh.2 ⟨o,c⟩) b
 have d:jy (lS h ts) n=none:=by
  cases c:jy (lS h ts) n with
  |none=>rfl
  |some o=>
   have:=oh.2 ⟨o,c⟩;rw[xo e]at this;exact GR ((oP).1 this).ids b
 rw[f,d]
section
variable{h:QQ}{ts:QA}
end
def Sx(t:iP)(n:Int):Prop:=n=0\/(∃c∈t.rs,c.v.r=true/\c.v.n=n)\/n∈ie t.nw
structure Pv(t:iP):Prop where
 gs:t.gs=[]
 kd:(t.rs.map jN).Nodup
 p:PW (Sx t) t
 r:∀i,GV (Sx t)<|t.r i
 v:GV (Sx t) t.v
def PW.mono{P Q:Int->Prop}(h:∀n,P n->Q n){t:iP}(p:PW P t):PW Q t:=⟨λb hc=>(p.ws b hc).mono h,λo c e d=>(p.nw o c e d).mono h⟩
def qW.nd{t:iP}(n:qW t):(ie t.nw).Nodup:=by
 unfold qW at n;rw[n];refine List.Pairwise.map _ (λa b h=>?_) List.pairwise_lt_range;omega
def take_same{t t':iP}{d:Dl}(h:take t d=some t'):t'.rs=t.rs/\t'.ws=t.ws/\t'.nw=t.nw/\t'.gs=t.gs:=by
 unfold take at h;split at h
 .cases h
 split at h
 .injection h with h;subst h;exact⟨rfl,rfl,rfl,rfl⟩
 split at h;cases h
 injection h with h;subst h;exact⟨rfl,rfl,rfl,rfl⟩
def qI:∀(l:QC) (t:iP) (rs ws:QV),((jf t rs ws l).1.rs=t.rs/\(jf t rs ws l).1.ws=t.ws/\(jf t rs ws l).1.nw=t.nw/\(jf t rs ws l).1.gs=t.gs)/\(jf t rs ws l).2.1.Sublist rs/\(∀c∈(jf t rs ws l).2.2,c∈ws)/\∀c∈rs,c∈(jf t rs ws l).2.1\/∃d∈l,d.id=c.id/\d.f=c.f
 |[],_,_,_=>⟨⟨rfl,rfl,rfl,rfl⟩,.refl _,λ_ h=>h,λc hc=>.inl hc⟩
 |d::l,t,rs,ws=>by
  unfold jf;cases h:take t d with
  |none=>
   obtain⟨a,b,e,f⟩:=qI l t rs ws;exact⟨a,b,e,λc hc=>(f c hc).imp id λ⟨x,j,i⟩=>⟨x,Z_ _ j,i⟩⟩
  |some z=>
   obtain⟨⟨n,G,p,q⟩,b,e,f⟩:=qI l z (jj rs d)<|jj ws d;obtain⟨y,s,v,u⟩:=take_same h;refine⟨⟨n.trans y,G.trans s,p.trans v,q.trans u⟩,b.trans Jd,λc hc=>pE<|e c hc,λc hc=>?_⟩;by_cases k:d.id=c.id/\d.f=c.f;exact .inr ⟨d,GT,k⟩;have r:c∈jj rs d:=by
    unfold jj;rw[H6];refine⟨hc,?_⟩;simp only[Iu,bne_iff_ne];by_cases i:c.id=d.id;exact .inr λB=>k ⟨i.symm,B.symm⟩;exact .inl i
   exact(f c r).imp id λ⟨x,j,i⟩=>⟨x,Z_ _ j,i⟩
def B_{l:QR}{hH hC:Int}(i:ih l hH hC=true)(pc:Int)(d:(l.getD pc.toNat default).op=10):(l.getD pc.toNat default).b≠11:=by
 by_cases f:pc.toNat<l.length;have h:=fits_all i pc.toNat f;unfold kU jU at h;generalize l.getD pc.toNat default=x at *;rw[d]at h;have c:(je.getD (10:Int).toNat default).n=5:=rfl;rw[c]at h;intro e;rw[e]at h;simp[qV]at h;have c:l.getD pc.toNat default=default:=by simp[List.getD,G7 (by omega:l.length<=pc.toNat)]
 rw[c]at d;exact GR d (by decide)
def Pv.step{t:iP}{V:QQ}(pv:Pv t)(n:qW t)(J:lw V)(c:QR)(hH hC:Int)(d:QS):Pv (iT c hH hC d t V):=by
 have W:∀y:iP,y.gs=t.gs->y.rs=t.rs->y.ws=t.ws->y.nw=t.nw->y.r=t.r->y.v=t.v->Pv y:=by
  intro y E D bO bV bN dm;have g:Sx y=Sx t:=by funext m;unfold Sx;rw[D,bV]
  exact⟨E.trans pv.gs,by rw[D];exact pv.kd,by rw[g];exact⟨by rw[bO];exact pv.p.ws,by rw[bV];exact pv.p.nw⟩,by rw[g,bN];exact pv.r,by rw[g,dm];exact pv.v⟩
 have S:=λP h0 j hx=>Df (P:=P) (h:=iR t V) (r:=t.r) c hH hC t.pc ((t.run+1)*1048576+t.nw.length) h0 j (λi q=>B_ i t.pc q) hx;have bL:=vV (P:=λ_=>True) (h:=iR t V) (r:=t.r) c hH hC t.pc ((t.run+1)*1048576+t.nw.length) trivial (λo _=>⟨trivial,λv _ _=>trivial⟩) λC _=>trivial;unfold iT;simp only;generalize kR c hH hC t.pc t.r (iR t V) ((t.run+1)*1048576+t.nw.length)=e at *;have U:=n.nd;split
 .exact W _ rfl rfl rfl rfl rfl rfl
 split
 .exact W _ rfl rfl rfl rfl rfl rfl
 cases j:record t V e with
 |none=>exact W _ rfl rfl rfl rfl rfl rfl
 |some x=>
  have kp:=li j;have T:=S (λ_=>True) trivial (λC _=>trivial) λx _ _=>trivial;obtain⟨⟨X,bT,K,c7⟩,sb,af,N1⟩:=qI e.ds t e.rs e.ws;unfold record at j;simp only at j;generalize jf t e.rs e.ws e.ds=a at *
  cases I:jB V a.1 a.2.1 with
  |none=>rw[I]at j;cases j
  |some z=>
  rw[I]at j;simp only at j;cases R:j6 V {z with nw:=z.nw++e.nw} a.2.2 with
  |none=>rw[R]at j;cases j
  |some ad=>
  rw[R]at j;simp only at j;injection j with j;have Q:a.1.gs=[]:=c7.trans pv.gs;have H:(a.1.rs.map jN).Nodup:=by rw[X];exact pv.kd
  have n1:(ie a.1.nw).Nodup:=by rw[K];exact U
  obtain⟨m1,m2,m3,m4⟩:=rf J _ Q H I;have ag:(t.run+1)*1048576+(t.nw.length:Int)∉ie t.nw:=λf=>by obtain⟨ah,S,k⟩:=n.at f;omega
  have w:ie (z.nw++e.nw)=ie t.nw++ie e.nw:=by unfold ie at *;rw[GN,m1,K]
  have n2:(ie<|z.nw++e.nw).Nodup:=by
   rw[w,HR];have he:(ie e.nw).Nodup/\∀m∈ie e.nw,m=(t.run+1)*1048576+(t.nw.length:Int):=by
    rcases bL with⟨_,f⟩|⟨_,fs,f⟩
    rw[f];exact⟨IL,λm s=>by cases s⟩;rw[f];exact⟨by simp[ie],λm s=>by simpa[ie]using s⟩
   exact⟨U,he.1,λai hp f aj k=>ag<|by rw[<-he.2 f aj,<-k];exact hp⟩
  obtain⟨w1,w2,ae,ak,NY⟩:=wO (P:=Sx x) J _ (u:={z with nw:=z.nw++e.nw}) m2 m3 n2 R;have O:x.rs=ad.rs:=by rw[<-j]
  have l:ie x.nw=ie t.nw++ie e.nw:=by rw[<-j];exact w1.trans w
  have mon:∀b∈t.rs,b∈x.rs:=λb p=>by rw[O];exact ak b (m4 b<|by rw[X];exact p)
  have Z:∀b∈z.rs,b∈x.rs:=λb p=>by rw[O];exact ak b p
  have F:∀m,Sx t m->Sx x m:=λm s=>by
   rcases s with f|⟨b,p,f⟩|f
   exact .inl f;exact .inr<|.inl ⟨b,mon b p,f⟩;exact .inr (.inr<|by rw[l];exact GZ _ f)
  have M:∀b∈x.rs,GV (Sx x) b.v:=λb p i=>.inr<|.inl ⟨b,p,i,rfl⟩;have N3:∀b∈e.rs,GV (Sx x) b.v:=by
   intro b p i;have A:=T.rd b p;rcases yY J pv.gs U A i with⟨o,q,f⟩|⟨k,B,f⟩|⟨k,B,f⟩|⟨aY,bj,bH,bZ⟩
   exact F _<|pv.p.nw o q _ f i;rw[<-f]at i ⊢;exact F _<|pv.p.ws k B i;rw[<-f]at i ⊢;exact M k (mon k B) i;rcases N1 b p with s|⟨al,hd,H,am⟩
   .have q:jx a.1.nw b.id<0:=by
     by_cases k:jx a.1.nw b.id<0;exact k;have k:=wY k;rw[K]at k;exact GR k aY
    have an:(a.2.1.map jN).Nodup:=List.Pairwise.sublist (sb.map jN) T.kd;have ky:=vj J a.2.1 Q H an I b s q (λk B e=>bj k (by rw[<-bT];exact B)<|by unfold jN at e;injection e with E D;exact⟨E,D⟩) (λk B e=>bH k (by rw[<-X];exact B)<|by unfold jN at e;injection e with E D;exact⟨E,D⟩) bZ i;exact M b (Z b ky) i
   have k:=T.ds al hd b.v (by rw[H,am];exact A);rw[k]at i;cases i
  have L:=S (Sx x) (.inl rfl) (λC=>(pv.r C).mono F) N3;have N:∀{v:Vl},GV (λm=>Sx x m\/(m=(t.run+1)*1048576+(t.nw.length:Int)/\m∈ie e.nw)) v->GV (Sx x) v:=λi=>i.mono λm s=>s.elim id λf=>.inr (.inr<|by rw[l];exact G5 _ f.2);have ao:PW (Sx x) a.1:=by
   have f:=pv.p.mono F;exact⟨by rw[bT];exact f.ws,by rw[K];exact f.nw⟩
  have p1:=wQ J _ Q H n1 I (λb p=>M b<|Z b p) ao;have ap:PW (Sx x) {z with nw:=z.nw++e.nw}:=⟨p1.ws,λo q=>(X_.1 q).elim (p1.nw o) λq v i=>N<|L.nw o q v i⟩;have Y:=NY (λb p=>M b<|by rw[O];exact p) (λb p=>N<|L.ws b<|af b p) ap;have G:PW (Sx x) x:=⟨by rw[<-j];exact λb p=>by rw[j];exact Y.ws b p,by rw[<-j];exact λo q v i=>by rw[j];exact Y.nw o q v i⟩;have aq:(x.rs.map jN).Nodup:=by rw[O];exact ae
  have N2:GV (Sx x) x.v:=by rw[kp.v];exact pv.v.mono F
  have ar:∀C,GV (Sx x) (e.r C):=λC=>N<|L.r C;have mk:∀(pc hK h5 next:Int) (hX:Bool) (v:Vl),GV (Sx x) v->Pv {x with pc:=pc,r:=e.r,hK:=hK,h5:=h5,next:=next,hX:=hX,v:=v}:=
   λpc hK h5 next hX v i=>⟨kp.gs.trans pv.gs,aq,⟨G.ws,G.nw⟩,ar,i⟩
  simp only;split
  .exact mk e.pc (x.hK+1) 3 x.next e.hX e.v<|N L.v
  split;exact mk e.pc (x.hK+1) 2 e.pc x.hX x.v N2;exact mk e.pc (x.hK+1) x.h5 x.next x.hX x.v N2
def Pv.begin{l:QR}{hH hC hT run:Int}:Pv (jm l hH hC hT run ip).1:=by
 have z:∀b:iP,b.gs=[]->b.rs=[]->b.ws=[]->b.nw=[]->b.r=ja->b.v=default->Pv b:=λb a d e f i j=>
  ⟨a,by rw[d];exact IL,⟨λx c=>(by rw[e]at c;cases c),λx c=>(by rw[f]at c;cases c)⟩,λk=>by rw[i];exact GV.default,by rw[j];exact GV.default⟩
 exact KW
def vD.pv{l:QR}{hH hC:Int}{d:QS}{h:QQ}{run:Int}{n:Nat}{ts:QA}(q:ih l hH hC=true)(p:lw h)(j:vD l hH hC d h run n ts):∀t∈ts,Pv t:=by
 induction j with
 |hT ts r k=>
  intro t b;obtain⟨i,c,f⟩:=HP b;obtain⟨x,ip,s,e⟩:=k i c;rw[<-f,e];exact Pv.begin
 |step i c k r e=>
  intro t b;rcases GX b with b|b
  exact e t b;have f:=P_ c;rw[b];exact(e _ f).step (k.own q _ f).1 (qp _ p) _ _ _ _
def Av(h:QQ)(ts:QA)(n:Int):Prop:=n∈lb h ts\/n∉ie h
section
variable{h:QQ}{ts:QA}
def vP{t:iP}(d:t∈ts){n:Int}(c:n∈np t):Av h ts n:=by
 by_cases b:n∈ie h;exact .inl<|oP.2<|.root (Z_ _<|H0.2 ⟨t,d,c⟩) b;exact .inr b
def Ep:Av h ts 1:=by
 by_cases b:1∈ie h;exact .inl<|oP.2<|.root GT b;exact .inr b
def xt{l:QV}(b:∀n∈lj l,Av h ts n)(h0:Av h ts 0):∀c∈l,Av h ts c.id/\GV (Av h ts) c.v:=by
 intro c hc;refine⟨b _<|H0.2 ⟨c,hc,GT⟩,λe=>?_⟩;by_cases d:c.v.n=0;rw[d];exact h0;refine b _<|H0.2 ⟨c,hc,Z_ _ ?_⟩;unfold qu isRef;rw[e];simp[d]
def DN{t:iP}(i:t∈ts)(pv:Pv t)(h0:0∉ie h)(k:∀n∈ie t.nw,n∉ie h):TG (Av h ts) t:=by
 have d:Av h ts 0:=.inr h0;have e:=xt (h:=h) (ts:=ts) (l:=t.rs) (λn c=>vP i<|G5 _<|GZ _ c) d;have r:=xt (h:=h) (ts:=ts) (l:=t.ws) (λn c=>vP i<|G5 _<|G5 _<|GZ _ c) d;have j:∀n,Sx t n->Av h ts n:=λn c=>by
  rcases c with rfl|⟨b,hc,f,rfl⟩|c
  exact d;exact(e b hc).2 f;exact .inr<|k n c
 refine⟨λb hc=>(by rw[pv.gs]at hc;cases hc),λb hc=>⟨.inl (e b hc).1,(e b hc).2⟩,λb hc=>⟨.inl (r b hc).1,(r b hc).2⟩,λo p=>⟨.inr<|k _<|GJ.2 ⟨o,p,rfl⟩,λs u f=>?_⟩,λv=>(pv.r v).mono j,pv.v.mono j⟩;by_cases q:s.n=0;rw[q];exact d;refine vP i<|G5 _<|G5 _<|G5 _<|G5 _ ?_;unfold m7;refine H0.2 ⟨o,p,?_⟩;unfold pQ;refine GJ.2 ⟨s,H6.2 ⟨u,?_⟩,rfl⟩;unfold isRef;rw[f];simp[q]
def DC(c:lw h):Ag (Av h ts) h (lS h ts):=λd b=>(Ck c b).symm
def DB(e:lw h)(hc:HG (EV h) h)(h0:0∉ie h):HG (Av h ts) (lS h ts):=by
 intro o b;refine⟨.inl (p9.1 b).2,λi f d=>?_⟩;by_cases c:i.n=0;rw[c];exact .inr h0;exact .inl (xp e hc b f<|by unfold isRef;rw[d];simp[c])
def w3{A:Int->Prop}:∀(l:QA) {g:QQ},HG A g->(∀t∈l,TG A t)->HG A (l.foldl kG g)
 |[],_,b,_=>b
 |t::l,_,b,c=>w3 l ((c t GT).kG b) λx d=>c x<|Z_ _ d
structure HI(h:QQ)(ts:QA)(run:Int)(a:iP):Prop where
 tg:TG (Av h ts) a
 n:qW a
 r:run<=a.run
def s5{run:Int}{a:iP}(c:CI run h)(q:0<=run)(n:qW a)(t:run<=a.run):(∀m∈ie a.nw,m∉ie h)/\qN a∉ie h:=by
 refine⟨λm k d=>?_,λd=>?_⟩;obtain⟨u,s,r⟩:=n.at k;rcases c.old m d with b|b|⟨x,p,f,i,j,e,b⟩<;>omega
 unfold qN at d;rcases c.old _ d with b|b|⟨x,p,f,i,j,e,b⟩<;>omega
def HI.step{run:Int}{a:iP}(e:HI h ts run a)(f:lw h)(hc:CI run h)(n:0<=run)(p:∀t∈ts,Pv t/\qW t/\run<=t.run)(k:Int)(c:QR)(hH hC:Int)(d:QS):
 iT c hH hC d a (j3 (lS h ts) ts k)=iT c hH hC d a (j3 h ts k)/\HI h ts run (iT c hH hC d a<|j3 h ts k):=by
 have j:0∉ie h:=λb=>by rcases hc.old 0 b with y|y|⟨x,H,D,E,F,C,y⟩<;>omega
 have B:∀t∈ts,TG (Av h ts) t:=λt i=>DN i (p t i).1 j (s5 hc n (p t i).2.1 (p t i).2.2).1;have q:HG (Av h ts) (j3 (lS h ts) ts k):=w3 _ (DB f hc.cl j) λt i=>B t<|Hk i;have g:Ag (Av h ts) (j3 h ts k) (j3 (lS h ts) ts k):=Ag.DQ _ (DC f) f<|uk f ts;have o:=s5 hc n e.n e.r;have s:=zO g (qp _ f) (qp _<|uk f ts) Ep (.inr j) q e.tg (.inr o.2) c hH hC d;refine⟨s.symm,?_⟩;rw[s];obtain⟨z,r⟩:=qW.step (c:=c) (hH:=hH) (hC:=hC) (d:=d) (P:=Av h ts) (.inr j) q (e.tg.mono λv b=>.inl b) e.n;have u:run<=(iT c hH hC d a<|j3 (lS h ts) ts k).run:=by rw[lu];exact e.r
 have m:=s5 hc n r u;exact⟨z.mono λv b=>b.elim id λb=>.inr<|m.1 v b,r,u⟩
end
def C5(x:Cl)(w:World):(binOp .neq 116 (.agg #[Y x.id,Y x.f,.bool x.v.r,Y x.v.n])<|.agg #[Y x.id,Y x.f,.bool x.v.r,Y x.v.n]).run prog w=.ok (.bool false) w:=by
 go_simp
def vO(q:OA)(c d:Nat)(l:QV)(w:World)(h:Cs w A l)(k:Cs w q l)(M:l.length<=1000000000):
 Calls prog 85 #[.slice A l.length c,.slice q l.length d] w λe w'=>e=.returned (.bool true)/\J [] w w':=by
 refine ig λI ax=>?_;go_enter func85,ntmps85;go_wp2;go_loopw [13] (λr wr=>∃i:Nat,i<=l.length/\r=Y i/\J [] w wr) (λr _=>l.length-(intOf r).toNat)
 case atStart=>exact⟨0,R_ _,gn,G_ _ _⟩
 obtain⟨i,L,rfl,hg⟩:=hrel;by_cases u:i<l.length
 .obtain⟨f,n,hA,y,z,t,s⟩:=(show Cs wr A l from Sl.hF h hg).at_ u;obtain⟨j,p,H,v,B,D,E⟩:=(show Cs wr q l from Sl.hF k hg).at_ u;subst hA;subst H;generalize l[i]=b at*
  have K:=λF=>C5 b F;go_upto_region 6 with fail;refine hS (λw'=>w'.cell? (Z f<|n+i*4)=some (Y b.id)/\w'.cell? (Z f<|n+i*4+1)=some (Y b.f)/\w'.cell? (Z f<|n+i*4+2)=some (.bool b.v.r)/\w'.cell? (Z f<|n+i*4+3)=some (Y b.v.n)/\w'.cell? (Z j<|p+i*4)=some (Y b.id)/\w'.cell? (Z j<|p+i*4+1)=some (Y b.f)/\w'.cell? (Z j<|p+i*4+2)=some (.bool b.v.r)/\w'.cell? (Z j<|p+i*4+3)=some (Y b.v.n)) 9 k_ ?_;have hd:J [] wr wr.drew:=(G_ [] wr).drew;refine m6 ⟨hd.f_ y s_,hd.f_ z s_,hd.f_ t s_,hd.f_ s s_,hd.f_ v s_,hd.f_ B s_,hd.f_ D s_,hd.f_ E s_⟩ λC=>?_;clear y z t s v B D E;exact Kq
 exact NK
def C3(x:Dl)(w:World):(binOp .neq 124 (.agg #[Y x.id,Y x.f,Y x.op,.bool x.v.r,Y x.v.n])<|.agg #[Y x.id,Y x.f,Y x.op,.bool x.v.r,Y x.v.n]).run prog w=.ok (.bool false) w:=by
 go_simp
def C4(q:OA)(c d:Nat)(l:QC)(w:World)(h:Ds w A l)(k:Ds w q l)(O:l.length<=1000000000):
 Calls prog 86 #[.slice A l.length c,.slice q l.length d] w λe w'=>e=.returned (.bool true)/\J [] w w':=by
 refine ig λL ax=>?_;go_enter func86,ntmps86;go_wp2;go_loopw [13] (λr wr=>∃i:Nat,i<=l.length/\r=Y i/\J [] w wr) (λr _=>l.length-(intOf r).toNat)
 case atStart=>exact⟨0,R_ _,gn,G_ _ _⟩
 obtain⟨i,N,rfl,hg⟩:=hrel;by_cases u:i<l.length
 .obtain⟨f,n,hA,z,B,t,s,y⟩:=(show Ds wr A l from Sl.hF h hg).at_ u;obtain⟨j,p,K,v,D,E,F,H⟩:=(show Ds wr q l from Sl.hF k hg).at_ u;subst hA;subst K;generalize l[i]=b at*
  have M:=λI=>C3 b I;go_upto_region 6 with fail;refine hS (λw'=>w'.cell? (Z f<|n+i*5)=some (Y b.id)/\w'.cell? (Z f<|n+i*5+1)=some (Y b.f)/\w'.cell? (Z f<|n+i*5+2)=some (Y b.op)/\w'.cell? (Z f<|n+i*5+3)=some (.bool b.v.r)/\w'.cell? (Z f<|n+i*5+4)=some (Y b.v.n)/\w'.cell? (Z j<|p+i*5)=some (Y b.id)/\w'.cell? (Z j<|p+i*5+1)=some (Y b.f)/\w'.cell? (Z j<|p+i*5+2)=some (Y b.op)/\w'.cell? (Z j<|p+i*5+3)=some (.bool b.v.r)/\w'.cell? (Z j<|p+i*5+4)=some (Y b.v.n)) 9 k_ ?_;have hd:J [] wr wr.drew:=(G_ [] wr).drew;refine m6 ⟨hd.f_ z s_,hd.f_ B s_,hd.f_ t s_,hd.f_ s s_,hd.f_ y s_,hd.f_ v s_,hd.f_ D s_,hd.f_ E s_,hd.f_ F s_,hd.f_ H s_⟩ λC=>?_;clear z B t s y v D E F H;exact Kq
 exact NK
def C6(x:Ac)(w:World):(binOp .neq 162 (.agg #[.bool x.ask,Y x.v,Y x.k8])<|.agg #[.bool x.ask,Y x.v,Y x.k8]).run prog w=.ok (.bool false) w:=by
 go_simp
def C7(f:OA)(c d:Nat)(l:List Ac)(w:World)(h:As w A l)(k:As w f l)(K:l.length<=1000000000):
 Calls prog 87 #[.slice A l.length c,.slice f l.length d] w λe w'=>e=.returned (.bool true)/\J [] w w':=by
 refine ig λF ax=>?_;go_enter func87,ntmps87;go_wp2;go_loopw [13] (λj wr=>∃i:Nat,i<=l.length/\j=Y i/\J [] w wr) (λj _=>l.length-(intOf j).toNat)
 case atStart=>exact⟨0,R_ _,gn,G_ _ _⟩
 obtain⟨i,I,rfl,hg⟩:=hrel;by_cases t:i<l.length
 .obtain⟨n,q,hA,v,y,s⟩:=(show As wr A l from Sl.hF h hg).at_ t;obtain⟨p,r,E,u,z,B⟩:=(show As wr f l from Sl.hF k hg).at_ t;subst hA;subst E;generalize l[i]=b at*
  have H:=λD=>C6 b D;go_upto_region 6 with fail;refine hS (λw'=>w'.cell? (Z n<|q+i*3)=some (.bool b.ask)/\w'.cell? (Z n<|q+i*3+1)=some (Y b.v)/\w'.cell? (Z n<|q+i*3+2)=some (Y b.k8)/\w'.cell? (Z p<|r+i*3)=some (.bool b.ask)/\w'.cell? (Z p<|r+i*3+1)=some (Y b.v)/\w'.cell? (Z p<|r+i*3+2)=some (Y b.k8)) 9 k_ ?_;have hd:J [] wr wr.drew:=(G_ [] wr).drew;refine m6 ⟨hd.f_ v s_,hd.f_ y s_,hd.f_ s s_,hd.f_ u s_,hd.f_ z s_,hd.f_ B s_⟩ λC=>?_;clear v y s u z B;exact Kq
 exact NK
def ry{P:Program}(d:Nat)(e:TypeId)(n:Nat)(b:Array Value)(w:World):∀(is:QY),(∀i∈is,∃a,(part e b<|i*n).run P w=.ok a w/\(Op.equalIn d e a a).run P w=.ok true w)->(Op.eqItems d e n b b is).run P w=.ok true w
 |[],_=>by simp[Op.eqItems]
 |i::is,h=>by
  obtain⟨a,c,f⟩:=h i GT;have p:=ry d e n b w is λk j=>h k<|Z_ _ j;simp only[Op.eqItems,Sem.run_bind,c,f,Result.andThen_ok];simpa using p
def CQ(x:Vl)(w:World):(Op.equalIn 9998 38 (.agg<|V_ x)<|.agg<|V_ x).run prog w=.ok true w:=by
 obtain⟨b,G⟩:=x;go_simp
def rgCells(r:Nat->Vl):Array Value:=#[.bool (r 0).r,Y (r 0).n,.bool (r 1).r,Y (r 1).n,.bool (r 2).r,Y (r 2).n,.bool (r 3).r,Y (r 3).n,.bool (r 4).r,Y (r 4).n,.bool (r 5).r,Y (r 5).n,.bool (r 6).r,Y (r 6).n,.bool (r 7).r,Y (r 7).n,.bool (r 8).r,Y (r 8).n,.bool (r 9).r,Y (r 9).n,.bool (r 10).r,Y (r 10).n,.bool (r 11).r,Y (r 11).n,.bool (r 12).r,Y (r 12).n,.bool (r 13).r,Y (r 13).n,.bool (r 14).r,Y (r 14).n,.bool (r 15).r,Y (r 15).n]
def C_(r:Nat->Vl)(w:World):∀i,i<16->(part 38 (rgCells r)<|i*2).run prog w=.ok (.agg<|V_<|r i) w
 |0,_=>by kernel_rfl
 |1,_=>by kernel_rfl
 |2,_=>by kernel_rfl
 |3,_=>by kernel_rfl
 |4,_=>by kernel_rfl
 |5,_=>by kernel_rfl
 |6,_=>by kernel_rfl
 |7,_=>by kernel_rfl
 |8,_=>by kernel_rfl
 |9,_=>by kernel_rfl
 |10,_=>by kernel_rfl
 |11,_=>by kernel_rfl
 |12,_=>by kernel_rfl
 |13,_=>by kernel_rfl
 |14,_=>by kernel_rfl
 |15,_=>by kernel_rfl
 |i+16,h=>GR h (by omega)
def Em(r:Nat->Vl)(w:World):(Op.equalIn 9999 47 (.agg<|rgCells r)<|.agg<|rgCells r).run prog w=.ok true w:=by
 obtain⟨c,b,_⟩:=info_parts infoVl;rw[show(9999:Nat)=9998+1 from rfl,run_equalIn_array w 9998 _ _ underlying47 b];refine ry _ _ _ _ _ _ λc b=>⟨_,?_,CQ (r c) w⟩;rw[show prog.cellsOf 38=2 by kernel_rfl];exact C_ r w c<|Ho.1 b
def DA(pc:Int)(r:Nat->Vl)(w:World):(binOp .eql 49 (.agg<|iE pc r)<|.agg<|iE pc r).run prog w=.ok (.bool true) w:=by
 have b:=Em r w;unfold rgCells at b;unfold iE;go_simp
def ye(t u:Tk)(w:World)(z:kV w t)(B:kV w u)(e:t.p=u.p)(D:t.p.sm 1000000):
 Calls prog 41 #[.agg t.g_,.agg u.g_] w λe w'=>e=.returned (.bool true)/\J [] w w':=by
 refine ig λai ax=>?_;obtain⟨us,an,up,ap,au,⟨m,L,aw⟩,⟨Q,U,az⟩,⟨T,wc,eD⟩,⟨R,S,K⟩,⟨V,W,dl⟩,⟨M,N,al⟩,aC,x,G,N1,aG⟩:=u;simp only[Tk.p,iP.mk.injEq]at e;obtain⟨rfl,rfl,rfl,rfl,rfl,rfl,rfl,rfl,en,rfl,rfl,rfl,rfl,rfl,rfl,rfl⟩:=e;have aH:t.gs.l.length<=1000000:=D.gs;have aF:t.rs.l.length<=1000000:=D.rs;have aI:t.ws.l.length<=1000000:=D.ws;have c7:t.ds.l.length<=1000000:=D.ds;have aJ:t.ia.l.length<=1000000:=D.ia;have aK:t.nw.l.length<=1000000:=by have:=D.nw;rwa [show t.p.nw=hY t.nw.l from rfl,ib]at this
 have cn:K.length=t.nw.l.length:=by rw[<-ib,<-ib,en]
 obtain⟨b,g,f,aW,hg,p,N2,j,i⟩:=uN w 53 t.g_ 53<|Tk.g_ ⟨t.hT,t.run,t.ip,t.pc,t.r,⟨m,L,t.gs.l⟩,⟨Q,U,t.rs.l⟩,⟨T,wc,t.ws.l⟩,⟨R,S,K⟩,⟨V,W,t.ds.l⟩,⟨M,N,t.ia.l⟩,t.h5,t.next,t.hX,t.v,t.hK⟩;have aL:b.cell? (Z g 0)=some (Y t.hT):=(j.f_ 0).trans rfl;have af:b.cell? (Z g 1)=some (Y t.run):=(j.f_ 1).trans rfl;have ay:b.cell? (Z g 2)=some (.bool t.ip):=(j.f_ 2).trans rfl;have av:b.cell? (Z g 36)=some (.slice t.gs.A t.gs.l.length t.gs.c):=(j.f_ 36).trans rfl;have ar:b.cell? (Z g 37)=some (.slice t.rs.A t.rs.l.length t.rs.c):=(j.f_ 37).trans rfl;have H:b.cell? (Z g 38)=some (.slice t.ws.A t.ws.l.length t.ws.c):=(j.f_ 38).trans rfl;have E:b.cell? (Z g 39)=some (.slice t.nw.A t.nw.l.length t.nw.c):=(j.f_ 39).trans rfl;have y:b.cell? (Z g 40)=some (.slice t.ds.A t.ds.l.length t.ds.c):=(j.f_ 40).trans rfl;have a:b.cell? (Z g 41)=some (.slice t.ia.A t.ia.l.length t.ia.c):=(j.f_ 41).trans rfl;have aO:b.cell? (Z g 42)=some (Y t.h5):=(j.f_ 42).trans rfl;have aP:b.cell? (Z g 43)=some (Y t.next):=(j.f_ 43).trans rfl;have aQ:b.cell? (Z g 44)=some (.bool t.hX):=(j.f_ 44).trans rfl;have N0:b.cell? (Z g 45)=some (.bool t.v.r):=(j.f_ 45).trans rfl;have ad:b.cell? (Z g 46)=some (Y t.v.n):=(j.f_ 46).trans rfl;have ag:b.cell? (Z g 47)=some (Y t.hK):=(j.f_ 47).trans rfl;have z0:b.cell? (Z f 0)=some (Y t.hT):=(i.f_ 0).trans rfl;have aM:b.cell? (Z f 1)=some (Y t.run):=(i.f_ 1).trans rfl;have aU:b.cell? (Z f 2)=some (.bool t.ip):=(i.f_ 2).trans rfl;have z36:b.cell? (Z f 36)=some (.slice m t.gs.l.length L):=(i.f_ 36).trans rfl;have aN:b.cell? (Z f 37)=some (.slice Q t.rs.l.length U):=(i.f_ 37).trans rfl;have I:b.cell? (Z f 38)=some (.slice T t.ws.l.length wc):=(i.f_ 38).trans rfl;have A:b.cell? (Z f 39)=some (.slice R K.length S):=(i.f_ 39).trans rfl;have s:b.cell? (Z f 40)=some (.slice V t.ds.l.length W):=(i.f_ 40).trans rfl;have r:b.cell? (Z f 41)=some (.slice M t.ia.l.length N):=(i.f_ 41).trans rfl;have cj:b.cell? (Z f 42)=some (Y t.h5):=(i.f_ 42).trans rfl;have dR:b.cell? (Z f 43)=some (Y t.next):=(i.f_ 43).trans rfl;have z44:b.cell? (Z f 44)=some (.bool t.hX):=(i.f_ 44).trans rfl;have cQ:b.cell? (Z f 45)=some (.bool t.v.r):=(i.f_ 45).trans rfl;have z46:b.cell? (Z f 46)=some (Y t.v.n):=(i.f_ 46).trans rfl;have cG:b.cell? (Z f 47)=some (Y t.hK):=(i.f_ 47).trans rfl;have bA:∀k,k<33->b.cell? (Z g<|3+k)=(iE t.pc t.r)[k]?:=λk hj=>(j.f_<|3+k).trans<|mx t k hj;have bW:∀k,k<33->b.cell? (Z f<|3+k)=(iE t.pc t.r)[k]?:=λk hj=>(i.f_<|3+k).trans<|mx _ k hj;have aj:=λb=>DA t.pc t.r b;have cA:=λb=>x0 t.v t.v b;simp only[decide_true]at cA;have aE:=O λ(w':World)(h:J [] w w')=>vO t.gs.A m t.gs.c L t.gs.l w' (Sl.hF z.gs h) (Sl.hF B.gs h) X;have o:=O λ(w':World)(h:J [] w w')=>vO t.rs.A Q t.rs.c U t.rs.l w' (Sl.hF z.rs h) (Sl.hF B.rs h) X;have aR:=O λ(w':World)(h:J [] w w')=>vO t.ws.A T t.ws.c wc t.ws.l w' (Sl.hF z.ws h) (Sl.hF B.ws h) X;have l:=O λ(w':World)(h:J [] w w')=>zV t.nw.A R t.nw.c S t.nw.l K w' (Sl.hF z.nw h) (z.nr.hF h) (Sl.hF B.nw h) (B.nr.hF h) en X;have aS:=O λ(w':World)(h:J [] w w')=>C4 t.ds.A V t.ds.c W t.ds.l w' (Sl.hF z.ds h) (Sl.hF B.ds h) X;have aT:=O λ(w':World)(h:J [] w w')=>C7 t.ia.A M t.ia.c N t.ia.l w' (Sl.hF z.ia h) (Sl.hF B.ia h) X;rw[cn]at A;clear z B D en cn;go_enter func41,ntmps41;go_upto_region 1 with fail;clear aW hg p;refine wp_region_lit ?_;repeat(first
  |(refine h8 (v:=.agg<|iE t.pc t.r) rfl rfl rfl rfl rfl (jA 49 rfl g 3 r_ bA underlying49 rfl k_) ?_;try simp only[a_])
  |(refine h8 (v:=.agg<|iE t.pc t.r) rfl rfl rfl rfl rfl (jA 49 rfl f 3 r_ bW underlying49 rfl k_) ?_;try simp only[a_])
  |(refine ij rfl gs_ ?_;try simp only[a_])
  |(refine h8 rfl rfl rfl rfl rfl gs_ ?_;try simp only[a_]))
 have c:=N2;refine km rfl rfl rfl rfl rfl λn d=>?_;go_simp;go_at_call 85;refine(aE.out _ c).mono ?_;rintro e w1⟨rfl,q⟩;refine d.out _ _ ?_;clear d n;replace c:=c.trans q;replace ar:=q.f_ ar s_;replace aN:=q.f_ aN s_;replace H:=q.f_ H s_;replace I:=q.f_ I s_;replace E:=q.f_ E s_;replace A:=q.f_ A s_;replace y:=q.f_ y s_;replace s:=q.f_ s s_;replace a:=q.f_ a s_;replace r:=q.f_ r s_;try simp only[a_]
 repeat(first|(refine ij rfl gs_ ?_;try simp only[a_])|(refine h8 rfl rfl rfl rfl rfl gs_ ?_;try simp only[a_]))
 refine km rfl rfl rfl rfl rfl λn d=>?_;go_simp;go_at_call 85;refine(o.out _ c).mono ?_;rintro e w2⟨rfl,p⟩;refine d.out _ _ ?_;clear d n;replace c:=c.trans p;replace H:=p.f_ H s_;replace I:=p.f_ I s_;replace E:=p.f_ E s_;replace A:=p.f_ A s_;replace y:=p.f_ y s_;replace s:=p.f_ s s_;replace a:=p.f_ a s_;replace r:=p.f_ r s_;try simp only[a_]
 repeat(first|(refine ij rfl gs_ ?_;try simp only[a_])|(refine h8 rfl rfl rfl rfl rfl gs_ ?_;try simp only[a_]))
 refine km rfl rfl rfl rfl rfl λn d=>?_;go_simp;go_at_call 85;refine(aR.out _ c).mono ?_;rintro e ae⟨rfl,C⟩;refine d.out _ _ ?_;clear d n;replace c:=c.trans C;replace E:=C.f_ E s_;replace A:=C.f_ A s_;replace y:=C.f_ y s_;replace s:=C.f_ s s_;replace a:=C.f_ a s_;replace r:=C.f_ r s_;try simp only[a_]
 repeat(first|(refine ij rfl gs_ ?_;try simp only[a_])|(refine h8 rfl rfl rfl rfl rfl gs_ ?_;try simp only[a_]))
 refine km rfl rfl rfl rfl rfl λn d=>?_;go_simp;go_at_call 72;refine(l.out _ c).mono ?_;rintro e aV⟨rfl,F⟩;refine d.out _ _ ?_;clear d n;replace c:=c.trans F;replace y:=F.f_ y s_;replace s:=F.f_ s s_;replace a:=F.f_ a s_;replace r:=F.f_ r s_;try simp only[a_]
 repeat(first|(refine ij rfl gs_ ?_;try simp only[a_])|(refine h8 rfl rfl rfl rfl rfl gs_ ?_;try simp only[a_]))
 refine km rfl rfl rfl rfl rfl λn d=>?_;go_simp;go_at_call 86;refine(aS.out _ c).mono ?_;rintro e NY⟨rfl,P⟩;refine d.out _ _ ?_;clear d n;replace c:=c.trans P;replace a:=P.f_ a s_;replace r:=P.f_ r s_;try simp only[a_]
 repeat(first|(refine ij rfl gs_ ?_;try simp only[a_])|(refine h8 rfl rfl rfl rfl rfl gs_ ?_;try simp only[a_]))
 refine km rfl rfl rfl rfl rfl λn d=>?_;go_simp;go_at_call 87;refine(aT.out _ c).mono ?_;rintro e aB⟨rfl,aD⟩;refine d.out _ _ ?_;clear d n;replace c:=c.trans aD;try simp only[a_]
 repeat(first|(refine ij rfl gs_ ?_;try simp only[a_])|(refine h8 rfl rfl rfl rfl rfl gs_ ?_;try simp only[a_]))
 refine wpList_nil ?_;go_wp2;rw[ax.out];exact⟨rfl,c⟩
def DZ(h:QQ)(n:Nat)(w:World)(e:Ending)(w':World):Prop:=∃(A':OA) (c':Nat) (l':QT),e=.returned (.agg #[.slice A' l'.length c'])/\hY l'=h/\Os w' A' l'/\nv w' l'/\l'.length<=n/\J [] w w'
section
variable{hA TA:OA}{hc tc:Nat}{l:QT}{ts:QE}{w:World}
def vy(t:HM w hA l)(u:TM w TA ts):
 Calls prog 31 #[.agg #[.slice hA l.length hc],.slice TA ts.length tc] w (DZ (lS (hY l)<|ts.map Tk.p) l.length w):=by
 refine ig λL B=>?_;obtain⟨N,g,f,P,T,K,j,E,D⟩:=uN w 35 #[.slice hA l.length hc] 35 #[n_];have M:=E.f_ 0;have y:=O<|wW (hc:=hc) (tc:=tc) (rb:=true) (t.hF j)<|u.hF j;go_enter func31,ntmps31;go_wp2_with fail;go_at_call 73;refine y.out.mono ?_;rintro S k⟨c,d,e,rfl,F,z,n,v,q⟩;have b:=D.hF q;have R:=b.f_ 0;have Q:=b.hG 0;go_wp2;have C:=b.hW 0<|.slice c e.length d;have i:J [f] k (k.setCell (Z f 0)<|.slice c e.length d):=(G_ [f] k).setCell (p:=Z f 0) (.inl s_) _;refine rr_ #[.slice c e.length d] C underlying35 ?_;rw[B.out];refine⟨c,d,e,rfl,?_,Sl.iy z b I i,λs r=>⟨Sl.iy (n s r).1 b I i,(n s r).2⟩,v,(j.trans q).hJ i λU H=>.inr<|by rw[J_]at H;omega⟩;rw[F];unfold lS;refine List.filter_congr λo _=>?_;unfold tQ;cases decide (o.id∈lb (hY l) (ts.map Tk.p))<;>rfl
def Au(u:HM w hA l)(K:TM w TA ts):
 Calls prog 33 #[.agg #[.slice hA l.length hc],.slice TA ts.length tc] w (pu (uh (hY l)<|ts.map Tk.p) w):=by
 refine ig λae R=>?_;obtain⟨af,g,aW,hg,p,W⟩:=box1 w 35 #[.slice hA l.length hc];have aj:=W.f_ 0;have ak:=u.len;have z:=O<|wW (hc:=hc) (tc:=tc) (rb:=false) (u.hF p)<|K.hF p;have m:=O (show ∀b:List Rw,hY b=(hY l).filter (tQ (hY l) (ts.map Tk.p) false)->(hY b).map (·.id)=uh (hY l) (ts.map Tk.p) from λb h=>by
  rw[h];unfold uh;congr 1;refine List.filter_congr λo _=>?_;unfold tQ;cases decide (o.id∈lb (hY l) (ts.map Tk.p))<;>rfl)
 go_enter func33,ntmps33;go_wp2_with fail;go_at_call 73;refine z.out.mono ?_;rintro t f⟨A1,c1,b,rfl,H,N,V,aH,Z⟩;have M:=O<|m.out b H;have al:=p.trans Z;have E:Zr f.heap.size f none 0 []:=Zr.nil;clear H V m z;generalize uh (hY l) (ts.map Tk.p)=gs at*
 go_wp2_with fail;go_loopw [5,12] (λov r wr=>∃(c:Nat) (e:QS) (j:OA) (k:Nat),c<=b.length/\r=Y c/\ov=.slice j e.length k/\Hid (e=((hY b).take c).map (·.id))/\e.length<=c/\Zr f.heap.size wr j k e/\J [] f wr) (λ_ r _=>b.length-(intOf r).toNat)
 case atStart=>exact⟨0,[],none,0,R_ _,gn,rfl,O rfl,I_ _,E,G_ _ _⟩
 clear E;obtain⟨c,e,j,k,hi,rfl,rfl,C,am,n,i⟩:=hrel;by_cases D:c<b.length
 .obtain⟨an,off,L,bt,bA⟩:=(N.hF i).at_ D;subst L;have a:=O (show e++[b[c].o.id]=((hY b).take<|c+1).map (·.id) by
   rw[Y_ (by rw[ib];exact D),GN,C.out];simp[hY])
  generalize b[c]=d at*;obtain⟨y,gb,bN,aP,s,F⟩:=box1 wr 56 #[Y d.o.id,.slice d.A d.o.fs.length d.c];have z0:=F.f_ 0;have v:=(G_ [] y).alloc<|.cells #[Y d.o.id] 2;have U:=(n.hF s).hF v;have B:=(i.trans s).trans v;have T:=B.size;clear F n i s;go_wp2_with (at_builtin;refine Fn U (Ls.one y d.o.id) T p_ ?_;intro Q P NY S ao);have I:=ao.gr [] f (I_ _) B;go_roundw;exact⟨c+1,e++[d.o.id],Q,P,X,gn,s_,a,p_,S,I⟩;exact mz
 go_wp2;rw[R.out];have t:=C.out;rw[GY (by rw[ib];omega),M.out]at t;subst t;exact⟨j,k,rfl,n.ls,jq n,al.trans i⟩
end
def qO(g:Nat):List Rw:=[⟨⟨1,[⟨false,0⟩]⟩,j_ g,1⟩,⟨⟨2,[]⟩,none,0⟩,⟨⟨3,[]⟩,none,0⟩]
def t26(g:Nat):Tk:={Tk.zero with rs:=⟨j_ g,1,[⟨1,0,⟨true,3⟩⟩]⟩}
def E6{P:Int->Prop}(r:wn (hY<|qO g) P x):P x:=by
 induction r with
 |root a _=>exact a
 |step _ d c e _ _=>
  exfalso;have b:=pZ d;simp[hY,qO]at b;rcases b with rfl|rfl|rfl<;>simp at c
  subst c;simp[isRef]at e
def r5{ts:QA}(b:x∈ie (hY<|qO g)):x∈lb (hY<|qO g) ts↔x∈oA (k4 ts):=by
 unfold lb;rw[(kz _ _).mem];exact⟨E6,λh=>.root h b⟩
def Et(g:Nat):(uh (hY<|qO g) []).length=2:=by
 have c:(1:Int)∈lb (hY<|qO g) []:=(r5<|by simp[ie,hY,qO]).2 I;have d:(2:Int)∉lb (hY<|qO g) []:=λb=>GR ((r5<|by simp[ie,hY,qO]).1 b) I;have e:(3:Int)∉lb (hY<|qO g) []:=λb=>GR ((r5<|by simp[ie,hY,qO]).1 b) I;unfold uh;generalize lb (hY<|qO g) []=a at*;simp[hY,qO,c,d,e]
def EB(g z:Nat):(lS (hY<|qO g) [(t26 z).p]).length=2:=by
 have b:oA (k4 [(t26 z).p])=[1,3]:=by show oA [1,1,3]=[1,3];decide
 have c:(1:Int)∈lb (hY<|qO g) [(t26 z).p]:=(r5<|by simp[ie,hY,qO]).2 (by rw[b];decide);have d:(2:Int)∉lb (hY<|qO g) [(t26 z).p]:=λf=>GR ((r5<|by simp[ie,hY,qO]).1 f) (by rw[b];decide);have e:(3:Int)∈lb (hY<|qO g) [(t26 z).p]:=(r5<|by simp[ie,hY,qO]).2 (by rw[b];decide);unfold lS;generalize lb (hY<|qO g) [(t26 z).p]=a at*;simp[hY,qO,c,d,e]
def TM.nil(w:World)(A:OA):TM w A []:=⟨⟨0,rfl,λh=>GR h<|Nat.lt_irrefl 0⟩,λc b=>(by cases b),by decide,by decide,λc b=>(by cases b)⟩
def yd{w:World}:Calls prog 27 #[] w λe w'=>e=.returned (.bool true)/\J [] w w':=by
 refine ig λad V=>?_;obtain⟨bw,g,z,X,L,hg1,bH,s,f⟩:=uN w 38 #[.bool false,Y 0] 56 #[Y 1,.slice (j_ w.heap.size) 1 1,Y 2,n_,Y 3,n_];obtain⟨d,af,T,N3,E,r⟩:=box1 bw 35 #[.slice (j_<|w.heap.size+1) 3 3];have R:=bH.trans E;replace s:=s.hF E;replace f:=f.hF E;obtain⟨c,F⟩:=mn_ d.heap.size;obtain⟨B,C,i⟩:=qU d 116 #[Y 1,Y 0,.bool true,Y 3] 53 (t26 c).g_;obtain⟨o,S⟩:=mn_<|c+1;rw[F]at B;rw[F,S]at C;rw[L,hg1]at r T;rw[L]at f X;have m:=R.trans i;have u:HM ((d.alloc<|.cells #[Y 1,Y 0,.bool true,Y 3] 116).alloc<|.cells (t26 c).g_ 53) (j_ z) (qO g):=by
  refine⟨⟨56,Sl.hF (⟨rfl,λ_=>⟨z,0,_,(0,0),rfl,f,λN P n=>by simpa[jw,Rw.E,qO]using n⟩⟩:Sl d 56 2 (j_ z) (qO g).length<|jw<|qO g) i⟩,⟨λ_=>38,λag t=>?_⟩,(by show 3<=50000000;decide),by simp[ie,hY,qO],λx M=>?_⟩;simp[qO]at t;rcases t with rfl|rfl|rfl
  exact⟨(Fm (v:=⟨false,0⟩) s).hF i,by show 1<=1000000000;decide⟩;exact⟨HB _ _ _ _,I⟩;exact⟨HB _ _ _ _,I⟩;simp[ie,hY,qO]at M;rcases M with rfl|rfl|rfl<;>rfl
 have y:TM ((d.alloc<|.cells #[Y 1,Y 0,.bool true,Y 3] 116).alloc<|.cells (t26 c).g_ 53) (j_ o) [t26 c]:=by
  refine⟨⟨53,⟨rfl,λ_=>⟨o,0,_,(0,0),rfl,C,λN P n=>by simpa using n⟩⟩⟩,λai D=>?_,(by show([1,1,3]:QS).length<=1000000000;decide),(by show 1<=1000000000;decide),λai D=>?_⟩;rw[J_.1 D];refine⟨⟨0,HB _ _ _ _⟩,⟨116,⟨rfl,λ_=>⟨c,0,_,(0,0),rfl,B,λN P n=>by simpa[t26,Cl.E]using n⟩⟩⟩,⟨0,HB _ _ _ _⟩,⟨0,HB _ _ _ _⟩,⟨0,HB _ _ _ _⟩,⟨λ_=>0,λag t=>by cases t⟩⟩;rw[J_.1 D];exact(by decide:0<=1000000000/\1<=1000000000/\0<=1000000000/\0<=1000000000/\0<=1000000000)
 have W:=O<|(Au (hc:=3) (tc:=0) u<|TM.nil ((d.alloc<|.cells #[Y 1,Y 0,.bool true,Y 3] 116).alloc<|.cells (t26 c).g_ 53) none).mono (R':=λe w'=>∃A b,e=.returned (.slice A 2 b)/\J [] ((d.alloc<|.cells #[Y 1,Y 0,.bool true,Y 3] 116).alloc<|.cells (t26 c).g_ 53) w') λe w'⟨A,b,j,_,_,k⟩=>⟨A,b,by rw[j];show Ending.returned (.slice A (uh (hY<|qO g) []).length b)=_;rw[Et],k⟩;have Q:=O (λ(w':World)(h:J [] ((d.alloc<|.cells #[Y 1,Y 0,.bool true,Y 3] 116).alloc<|.cells (t26 c).g_ 53) w')=>(vy (hc:=3) (tc:=1) (u.hF h)<|y.hF h).mono (R':=λe q=>∃A b,e=.returned (.agg #[.slice A 2 b])/\J [] w' q) λe q⟨A,b,l',j,h3,_,_,_,k⟩=>⟨A,b,by
  have H:=GG List.length h3;rw[ib]at H;rw[j,H];show Ending.returned (.agg #[.slice A (lS (hY<|qO g) [(t26 c).p]).length b])=_;rw[EB],k⟩)
 have dx:=O λ(w':World)(h:J [] ((d.alloc<|.cells #[Y 1,Y 0,.bool true,Y 3] 116).alloc<|.cells (t26 c).g_ 53) w')=>((y.hF h).roots 1).mono (R':=λe q=>∃A b,e=.returned (.slice A 2 b)/\J [] w' q) λe q⟨A,b,j,_,_,k⟩=>⟨A,b,j,k⟩;have aj:=(r.hF i).f_ 0;have Z:=r.hF i;clear y u s f r B C;go_enter func27,ntmps27;go_upto_region 3 with fail;have ak:=Ew
 conv=>arg 5;change((d.alloc<|.cells #[Y 1,Y 0,.bool true,Y 3] 116).alloc<|.cells (t26 c).g_ 53)
 generalize ((d.alloc<|.cells #[Y 1,Y 0,.bool true,Y 3] 116).alloc<|.cells (t26 c).g_ 53)=aK at*
 go_wp2_with (first
  |(go_at_call 33;refine W.out.mono ?_;rintro e ae⟨av,aG,rfl,a⟩;have aS:=(Z.hF a).f_ 0)
  |(go_at_call 31;refine(Q.out _ a).mono ?_;rintro e al⟨aP,c4,rfl,K⟩)
  |(go_at_call 28;refine(dx.out _<|a.trans K).mono ?_;rintro e NY⟨a6,c5,rfl,U⟩))
 rw[V.out];exact⟨rfl,m.trans<|(a.trans K).trans U⟩
def AO.harm(b:AO m):∃G:iP->Prop,(∀t∈m.ts,G t.p)/\(∀a,G a->TF a/\(a.h5=0->Way m.l a)/\0<=a.run/\a.run<=1000000016)/\
 ∀(a:iP) (k:Int),G a->a.h5=0->iT m.l m.hH m.hC m.d a (j3 (lS (hY m.s.h.l)<|m.ts.map Tk.p) (m.ts.map Tk.p) k)=iT m.l m.hH m.hC m.d a (j3 (hY m.s.h.l) (m.ts.map Tk.p) k)/\G (iT m.l m.hH m.hC m.d a<|j3 (hY m.s.h.l) (m.ts.map Tk.p) k):=by
 obtain⟨k,run,Q,hc,L⟩:=b.cm;have j:=(kq b.val).2.1;have e:=hc.ci b.val j;have H:=hc.cb b.val;have r:=hc.Gq;have I:m.s.p.h=hY m.s.h.l:=rfl;rcases L with⟨_,B,_⟩|⟨_,_,R,_,f⟩
 .exact⟨λ_=>False,λt c=>(by rw[B]at c;cases c),λa h=>h.elim,λa k h=>h.elim⟩
 rw[I]at e r f;have u:∀t∈m.ts.map Tk.p,Pv t/\qW t/\run<=t.run:=λt c=>⟨f.pv b.val r t c,(f.own b.val t c).1,(f.own b.val t c).2⟩;have J:0∉ie (hY m.s.h.l):=λM=>by rcases e.2.old 0 M with v|v|⟨x,S,i,p,q,P,v⟩<;>omega
 refine⟨λa=>HI (hY m.s.h.l) (m.ts.map Tk.p) run a/\TF a/\(a.h5=0->Way m.l a)/\0<=a.run/\a.run<=1000000016,λt c=>?_,λa h=>h.2,λa k h s=>?_⟩;have n:t.p∈m.ts.map Tk.p:=GJ.2 ⟨t,c,rfl⟩;have i:=u _ n;have p:=f.EU b.val j (hc.EU b.val<|by omega) e.1 (by have:=H.2.2;omega) _ n;have q:=f.tf b.val j _ n;exact⟨⟨DN n i.1 J (s5 e.2 e.1 i.2.1 i.2.2).1,i.2.1,i.2.2⟩,q.1,q.2,p.2.1,p.2.2⟩;obtain⟨K,O,y,D,N⟩:=h;obtain⟨z,F⟩:=K.step r e.2 e.1 u k m.l m.hH m.hC m.d;obtain⟨C,E⟩:=pL (d:=m.d) (view:=j3 (hY m.s.h.l) (m.ts.map Tk.p) k) b.val j (y s) O s;have n:=lu m.l m.hH m.hC m.d a<|j3 (hY m.s.h.l) (m.ts.map Tk.p) k;exact⟨z,F,C,E,by rw[n];exact D,by rw[n];exact N⟩
def rr(dE:∀(al g:Nat) (w:World),iV w al g->al<=w.heap.size->Calls prog 11 #[q_ g] w (CE al g w))(a0:OA)(bl bX:Nat)(z0:QS)(bN:TypeId)(bI:Int)(w:World)(hs:Sl w bN 1 a0 bl<|z0.map<|.int .u8)(hz:∀b,0<=z0.getD b 0/\z0.getD b 0<256)(cV:bl<=bX)(hl0:bl<=9223372036854775807)(cy:0<=bI)(c6:bI<256):
 Calls prog 8 #[.slice a0 bl bX,.int .u8 bI] w λe w'=>e=.returned (.bool true)/\J [] w w':=by
 refine ig λan ax=>?_;go_enter func8,ntmps8;go_upto_region 3 with(go_at_call 27;refine(yd).mono ?_;rintro e w1⟨rfl,t⟩);go_upto_region 4 with(first
  |(go_at_call 12;refine(w8 a0 bl bX z0 bN (Sl.hF hs t) hz cV hl0).mono ?_;rintro e ae⟨aA,rfl,aY,hd,bd⟩)
  |(go_at_call 11;refine(dE ae.heap.size aA ae hd<|I_ _).mono ?_;unfold CE;rintro e bf⟨m,rfl,S,W,cM,NZ⟩)
  |(refine k6 (m.g_) (T_ bf 43 Gc) (Md.one _) ?_;intro NY P ah))
 have ct:J [] bf NY:=((G_ [] bf).alloc _).hJ ah s_;have dx:w.heap.size<=aA:=H_ t.size aY;have eG:J [] w bf:=(t.trans bd).hJ NZ<|zu dx;have N2:=eG.trans ct;replace S:=S.hF ct;have bh:=Md.hm S W;have N1:=Md.tm S W;have bL:NY.cell? (Z bf.heap.size 5)=some (.slice m.s.h.A m.s.h.l.length m.s.h.c):=(P.f_ 5).trans rfl;have bM:NY.cell? (Z bf.heap.size 15)=some (.slice m.tA m.ts.length m.tc):=(P.f_ 15).trans rfl;have aJ:w.heap.size<=bf.heap.size:=eG.size;have b6:=O<|vy (hc:=m.s.h.c) (tc:=m.tc) bh N1;clear cM NZ ah hd bd aY hs hz cV hl0 eG ct dx t;generalize bf.heap.size=i at *;obtain⟨bk,aW⟩:=nm_ NY;rw[<-aW]at N2 N1 bh S P bL bM b6 |-;clear aW
 go_upto_region 5 with(go_at_call 31;refine b6.out.mono ?_;unfold DZ;rintro e aB⟨aP,c4,bm,rfl,dz,c9,cH,dC,aD⟩);obtain⟨z,aq,bv,dj,bS,bP⟩:=box1 aB 35 #[.slice aP bm.length c4];rw[bv,dj];have cS:=aD.trans bS;replace c9:Os z aP bm:=Sl.hF c9 bS;replace cH:=cH.hF bS;replace S:=S.hF cS;replace P:=P.hF cS;replace N1:=N1.hF cS;replace N2:=N2.trans cS;have ak:=bP.f_ 0;have dQ:=bP.lt;clear b6 bh cS bS aD bv dj bL bM;have bx:z.cell? (Z i 0)=some (.slice m.A m.l.length m.c):=(P.f_ 0).trans rfl;have af:z.cell? (Z i 1)=some (Y m.hH):=(P.f_ 1).trans rfl;have ay:z.cell? (Z i 2)=some (Y m.hC):=(P.f_ 2).trans rfl;have cN:z.cell? (Z i 4)=some (.slice m.dA m.d.length m.dc):=(P.f_ 4).trans rfl;have bL:z.cell? (Z i 5)=some (.slice m.s.h.A m.s.h.l.length m.s.h.c):=(P.f_ 5).trans rfl;have bM:z.cell? (Z i 15)=some (.slice m.tA m.ts.length m.tc):=(P.f_ 15).trans rfl;have bR:=kq W.val;have dw:=qR W.val W.dv;have dD:=r7 W.val W.dv;have dh:m.ts.length<=16:=by
  obtain⟨k,dT,hk,hc,dI⟩:=W.cm;rcases dI with⟨_,e,_⟩|⟨_,_,n,_,dB⟩
  rw[e];exact R_ _;have:=dB.len;rwa [Hf]at this
 have bE:m.s.h.l.length<=4000002:=by
  obtain⟨k,run,hk,hc,_⟩:=W.cm;have hb:=(hc.cb W.val).1.h;have e:m.s.p.h=hY m.s.h.l:=rfl;rw[e,ib]at hb;omega
 obtain⟨G,cO,cw,G2⟩:=W.harm;have b9:∀(h:QQ) (k:Nat),h.length<=4000002->k<=16->(j3 h (m.ts.map Tk.p) (k:Int)).length<=20000000:=by
  intro h k hh hk;have av:=tx ((m.ts.map Tk.p).take (k:Int).toNat) h (n:=500000) (λc X=>by
   obtain⟨cb,hu,rfl⟩:=GJ.1<|Hk X;exact(cw _<|cO cb hu).1.sm.nw)
  have bV:((m.ts.map Tk.p).take (k:Int).toNat).length<=16:=by
   rw[Hj,Hf];omega
  unfold j3;omega
 have b8:=O (λ(k:Nat)(hk:k<m.ts.length)(w':World)(D:J [] z w')=>rQ m.s.h.A m.s.h.c m.s.h.l m.tA m.tc m.ts k w' (Sl.hF S.s.h.os D) (S.s.h.ll.hF D) (by omega) (S.ts.hF D) (by omega) (λc X=>(cw _<|cO c X).1.sm)<|by omega);have ca:=O (λ(k:Nat)(hk:k<m.ts.length)(w':World)(D:J [] z w')=>rQ aP c4 bm m.tA m.tc m.ts k w' (Sl.hF c9 D) (cH.hF D) (by omega) (S.ts.hF D) (by omega) (λc X=>(cw _<|cO c X).1.sm)<|by omega);have cx:=O (λ(c:Tk)(X:G c.p)(T:c.p.h5=0)(j:OA)(s:Nat)(o:QT)(w':World)(D:J [] z w')(N0:kV w' c)(hv:mh w' j s o)(bJ:o.length<=20000000)=>(show Calls prog 39 #[.agg #[.slice m.A m.l.length m.c,Y m.hH,Y m.hC],.agg #[.slice m.dA m.d.length m.dc],.agg c.g_,.agg #[.slice j o.length s]] w' (lp (iT m.l m.hH m.hC m.d c.p<|hY o) 0 w') from by
  obtain⟨tf,dK,bQ,r1⟩:=cw _ X;have aI:=dK T;have cR:=aI.lo;have eu:=aI.hi;have aH:=aI.s0;have b0:=tf.s1;have aC:c.p.pc=c.pc:=rfl;have av:c.p.hK=c.hK:=rfl;have bO:c.p.run=c.run:=rfl;exact rS m.A m.c m.l m.hH m.hC m.dA m.dc m.d c j s o w' (Sl.hF S.l D) (by omega) (Sl.hF S.d D) (by omega) N0 hv dw T tf.sm (by omega) (by omega) (by omega) (by omega) (by omega) (by omega)<|by omega))
 have aM:=O (λ(k:Nat)(hk:k<m.ts.length)(c:Tk)(X:G c.p)(T:c.p.h5=0)(j:OA)(s:Nat)(o:QT)(w':World)(D:J [] z w')(N0:kV w' c)(hv:mh w' j s o)(ho:hY o=j3 (hY m.s.h.l) (m.ts.map Tk.p) k)=>(show Calls prog 39 #[.agg #[.slice m.A m.l.length m.c,Y m.hH,Y m.hC],.agg #[.slice m.dA m.d.length m.dc],.agg c.g_,.agg #[.slice j o.length s]] w' (lp (iT m.l m.hH m.hC m.d c.p<|j3 (hY m.s.h.l) (m.ts.map Tk.p) k) 0 w') from by
  have h:=cx.out c X T j s o w' D N0 hv (by have e:=b9 (hY m.s.h.l) k (by rw[ib];exact bE) (by omega);rw[<-ho,ib]at e;exact e);rw[ho]at h;exact h))
 have bj:=O (λ(k:Nat)(hk:k<m.ts.length)(c:Tk)(X:G c.p)(T:c.p.h5=0)(j:OA)(s:Nat)(o:QT)(w':World)(D:J [] z w')(N0:kV w' c)(hv:mh w' j s o)(ho:hY o=j3 (hY bm) (m.ts.map Tk.p) k)=>(show Calls prog 39 #[.agg #[.slice m.A m.l.length m.c,Y m.hH,Y m.hC],.agg #[.slice m.dA m.d.length m.dc],.agg c.g_,.agg #[.slice j o.length s]] w' (lp (iT m.l m.hH m.hC m.d c.p<|j3 (hY m.s.h.l) (m.ts.map Tk.p) k) 0 w') from by
  have h:=cx.out c X T j s o w' D N0 hv (by have e:=b9 (hY bm) k (by rw[ib];omega) (by omega);rw[<-ho,ib]at e;exact e);rw[ho,dz,(G2 c.p k X T).1]at h;exact h))
 have b7:=O λ(k:Nat)(a:iP)(h:G a)(T:a.h5=0)=>(G2 a k h T).2;have bi:=O λ(a:iP)(h:G a)=>(cw a h).1.sm;have a7:=O cO;have co:=O λ(w':World)(D:J [] z w')=>S.ts.hF D;have bz:1<=(oA<|k4<|m.ts.map Tk.p).length:=by
  have:1∈oA (k4<|m.ts.map Tk.p):=((mA _).mem 1).2 GT;exact List.length_pos_of_mem this
 have ck:(oA<|k4<|m.ts.map Tk.p).length<=1000000000:=H_ y6 N1.few;have cq:=O λ(w':World)(D:J [] z w')=>(N1.hF D).roots m.tc;generalize oA (k4<|m.ts.map Tk.p)=cc at *;clear S W N1 P bR dw dD bE b9 cx dz dC c9 cH cO cw G2 bP;generalize m.g_=mc at *;generalize m.s.h.A=hA at *;generalize m.s.h.c=hc at *;have dL:=m.s.h.l;go_upto_region 6 with fail;go_loopw [29] (λap wr=>∃ch:Nat,ch<=m.ts.length/\ap=Y ch/\J [] z wr) (λap _=>m.ts.length-(intOf ap).toNat)
 case atStart=>exact⟨0,R_ _,by go_num,G_ _ _⟩
 obtain⟨k,hk,rfl,ci⟩:=hrel;by_cases ag:k<m.ts.length
 .go_upto_region 8 with fail
  obtain⟨cl,off,cm,hcl⟩:=(co.out wr ci).at_ ag;go_cut [8,9] (λa cs V=>∃p q:Nat,a=q_ p/\cs=q_ q/\p≠q/\z.heap.size<=p/\z.heap.size<=q/\Bk V p 53 (m.ts[k]).g_/\Bk V q 53 (m.ts[k]).g_/\J [] z V)
  case first=>
   have cK:=ci.f_ bM s_;clear b8 ca aM bj b7 bi a7 cq co;generalize m.ts[k]=c at *;generalize m.tA=tA at *;generalize m.tc=tc at *;generalize m.ts.length=tn at *;subst cm;refine hS (λw'=>w'.cell? (Z i 15)=some (.slice (some<|Z cl off) tn tc)/\∀b,b<48->w'.cell? (Z cl<|off+k*48+b)=c.g_[b]?) 14 k_ ?_;obtain⟨d,R⟩:=nm_<|wr.drew;have F:J [] wr d:=by rw[R];exact(G_ [] wr).drew
   rw[<-R];clear R;have dW:∀w',J [] wr w'->∀b,b<48->w'.cell? (Z cl<|off+k*48+b)=c.g_[b]?:=λw' D b u=>by
    have h1:=hcl b u;have hs:b<c.g_.size:=by rw[Tk.size];exact u
    rw[GQ hs]at h1 |-;exact D.f_ h1 s_
   refine m6 ⟨F.f_ cK s_,dW _ F⟩ λC=>?_;have I:=O dW;clear hcl dW;refine iC 0 C ?_;refine iC 1 C ?_;refine iC 2 C ?_;refine iC 3 C ?_;refine iC 4 (v:=.agg c.g_) C ?_ (hy:=(Or.inl ⟨r_,λw' aZ=>jA 53 rfl cl (off+k*48) r_ (λb u=>aZ.2 b u) underlying53 rfl k_⟩));refine iC 5 C ?_;refine iC 6 C ?_;refine iC 7 C ?_;refine iC 8 C ?_;refine iC 9 (v:=.agg c.g_) C ?_ (hy:=(Or.inl ⟨r_,λw' aZ=>jA 53 rfl cl (off+k*48) r_ (λb u=>aZ.2 b u) underlying53 rfl k_⟩));refine x4 10 11 (λK H=>?_) λK H=>?_
   .go_simp;have E:=T_ d 53 ks;have aE:J [] d (d.alloc<|.cells ks 53):=(G_ [] d).alloc _;refine hZ H ⟨aE.f_ C.1 s_,I.out _<|F.trans aE⟩ λC=>?_;clear H K;obtain⟨B,et⟩:=nm_<|d.alloc<|.cells ks 53;rw[<-et]at E aE C |-;clear et;have cG:=E.lt;have be:=F.size;have bC:=ci.size
    refine h4 11 λK H=>?_;go_simp;have L:=T_ B 53 ks;have f:J [] B (B.alloc<|.cells ks 53):=(G_ [] B).alloc _;refine hZ H ⟨f.f_ C.1 s_,I.out _<|(F.trans aE).trans f⟩ λC=>?_;clear H K;obtain⟨aQ,U⟩:=nm_<|B.alloc<|.cells ks 53;rw[<-U]at L f C |-;clear U;replace E:=E.hF f;have l:J [] wr aQ:=(F.trans aE).trans f;obtain⟨p,hp⟩:=nm_ d.heap.size;obtain⟨q,Q⟩:=nm_ B.heap.size;rw[<-hp]at E |-;rw[<-Q]at L |-
    have ad:p≠q/\z.heap.size<=p/\z.heap.size<=q/\wr.heap.size<=p/\wr.heap.size<=q:=by omega
    clear hp Q aE f cG be bC;refine h4 12 λK H=>?_;rw[L_ r_];refine h9 53 rfl p r_ c.g_ r_ 53 E rfl k_ (Tk.one _) ?_;intro wc bF bd;have N:J [] wr wc:=l.hJ bd (by simp;omega);refine hZ H ⟨N.f_ cK s_,I.out _ N⟩ λC=>?_;clear H K;have bw:=L.gr bd (by simp;omega);refine h4 13 λK H=>?_;rw[L_ r_];refine h9 53 rfl q r_ c.g_ r_ 53 bw rfl k_ (Tk.one _) ?_;intro dq P ah;have ar:J [] wr dq:=N.hJ ah (by simp;omega);refine hZ H ⟨ar.f_ cK s_,I.out _ ar⟩ λC=>?_;clear H K;refine hN k_ ?_ _;go_wp2;go_meet;exact⟨p,q,rfl,rfl,by omega,by omega,by omega,bF.gr ah (by simp;omega),P,ci.trans ar⟩
   go_simp;have E:=T_ d 53 ks;have aE:J [] d (d.alloc<|.cells ks 53):=(G_ [] d).alloc _;refine hZ H ⟨aE.f_ C.1 s_,I.out _<|F.trans aE⟩ λC=>?_;clear H K;obtain⟨B,et⟩:=nm_<|d.alloc<|.cells ks 53;rw[<-et]at E aE C |-;clear et;have cG:=E.lt;have be:=F.size;have bC:=ci.size
   refine h4 10 λK H=>?_;go_simp;have L:=T_ B 53 ks;have f:J [] B (B.alloc<|.cells ks 53):=(G_ [] B).alloc _;refine hZ H ⟨f.f_ C.1 s_,I.out _<|(F.trans aE).trans f⟩ λC=>?_;clear H K;obtain⟨aQ,U⟩:=nm_<|B.alloc<|.cells ks 53;rw[<-U]at L f C |-;clear U;replace E:=E.hF f;have l:J [] wr aQ:=(F.trans aE).trans f;obtain⟨p,hp⟩:=nm_ d.heap.size;obtain⟨q,Q⟩:=nm_ B.heap.size;rw[<-hp]at E |-;rw[<-Q]at L |-
   have ad:p≠q/\z.heap.size<=p/\z.heap.size<=q/\wr.heap.size<=p/\wr.heap.size<=q:=by omega
   clear hp Q aE f cG be bC;refine h4 12 λK H=>?_;rw[L_ r_];refine h9 53 rfl q r_ c.g_ r_ 53 L rfl k_ (Tk.one _) ?_;intro wc bF bd;have N:J [] wr wc:=l.hJ bd (by simp;omega);refine hZ H ⟨N.f_ cK s_,I.out _ N⟩ λC=>?_;clear H K;have bw:=E.gr bd (by simp;omega);refine h4 13 λK H=>?_;rw[L_ r_];refine h9 53 rfl p r_ c.g_ r_ 53 bw rfl k_ (Tk.one _) ?_;intro dq P ah;have ar:J [] wr dq:=N.hJ ah (by simp;omega);refine hZ H ⟨ar.f_ cK s_,I.out _ ar⟩ λC=>?_;clear H K;refine hN k_ ?_ _;go_wp2;go_meet;exact⟨q,p,rfl,rfl,by omega,by omega,by omega,bF.gr ah (by simp;omega),P,ci.trans ar⟩
  obtain⟨p,q,rfl,rfl,ad,cX,dO,cz,dg,bg⟩:=hcut;clear cm hcl;go_upto_region 9 with fail;go_cut [10] (λv w2=>∃b:Nat,v=Y b/\b<20/\wc=w2)
  case first=>
   clear b8 ca aM bj b7 bi a7 cq co cz dg;have aC:bI.tmod 20=bI % 20:=Int.tmod_eq_emod_of_nonneg cy;have av:IntKind.u8.wrap (bI % 20)=bI % 20:=by rw[IntKind.wrap_u8];omega
   have bO:IntKind.i64.wrap (bI % 20)=bI % 20:=G9 _ (by omega);go_wp2;go_meet;exact⟨(bI % 20).toNat,by simp;omega,by omega,rfl⟩
  obtain⟨b,rfl,dy,bZ⟩:=hcut;subst bZ;have N0:kV wc m.ts[k]:=(co.out wc bg).y0 _<|P_ ag;have bH:G (m.ts[k]).p:=a7.out _<|P_ ag;generalize m.ts[k]=t0 at *
  go_upto_region 10 with fail;go_loopw [10] (λcZ wr=>∃(b:Nat) (Q ao:Tk),cZ=Y b/\b<20/\Bk wr p 53 Q.g_/\Bk wr q 53 ao.g_/\kV wr Q/\kV wr ao/\ao.p=Q.p/\G Q.p/\J [] z wr) (λcZ _=>(intOf cZ).toNat)
  case atStart=>exact⟨b,t0,t0,rfl,dy,cz,dg,N0,N0,rfl,bH,bg⟩
  obtain⟨b,Q,ao,rfl,dy,N,U,di,aO,da,aU,bT⟩:=hrel;have cj:wr.cell? (Z p 42)=some (Y Q.h5):=(N.f_ 42).trans rfl;by_cases u:0<b
  .have dJ:((0:Int)<(b:Int))=True:=by simp;omega
   by_cases cu:Q.h5=0
   .rw[cu]at cj;have T:Q.p.h5=0:=cu;clear cu cz dg N0 bH bg;go_upto_region 12 with fail;go_cut [11,12] (λa e V=>∃(r:Nat) (tc:Tk),a=q_ r/\e=Y 0/\wr.heap.size<=r/\Bk V r 53 tc.g_/\kV V tc/\tc.p=iT m.l m.hH m.hC m.d Q.p (j3 (hY m.s.h.l) (m.ts.map Tk.p) k)/\J [] wr V)
    case first=>
     have x:=O (λ(w':World)(h:J [] wr w')=>(show(w'.cell? (Z i 0)=some (.slice m.A m.l.length m.c)/\w'.cell? (Z i 1)=some (Y m.hH)/\w'.cell? (Z i 2)=some (Y m.hC)/\w'.cell? (Z i 4)=some (.slice m.dA m.d.length m.dc)/\w'.cell? (Z i 5)=some (.slice hA m.s.h.l.length hc)/\w'.cell? (Z i 15)=some (.slice m.tA m.ts.length m.tc)/\∀b,b<48->w'.cell? (Z p<|0+b)=Q.g_[b]?) from
      ⟨(bT.trans h).f_ bx s_,(bT.trans h).f_ af s_,(bT.trans h).f_ ay s_,(bT.trans h).f_ cN s_,(bT.trans h).f_ bL s_,(bT.trans h).f_ bM s_,λb u=>by rw[U_];exact(N.hF h).f_ b⟩))
     have cQ:=O λ(w':World)(h:J [] wr w')=>b8.out k ag w'<|bT.trans h;have cg:=O λ(j:OA)(s:Nat)(o:QT)(w':World)(h:J [] wr w')(hv:mh w' j s o)(ho:hY o=j3 (hY m.s.h.l) (m.ts.map Tk.p) k)=>aM.out k ag Q aU T j s o w' (bT.trans h) (di.hF h) hv ho;clear b8 ca aM bj b7 bi a7 cq co bx af ay cN bL ak bM bT di aO;have hbl:=N.lt;refine hS (λw'=>w'.cell? (Z i 0)=some (.slice m.A m.l.length m.c)/\w'.cell? (Z i 1)=some (Y m.hH)/\w'.cell? (Z i 2)=some (Y m.hC)/\w'.cell? (Z i 4)=some (.slice m.dA m.d.length m.dc)/\w'.cell? (Z i 5)=some (.slice hA m.s.h.l.length hc)/\w'.cell? (Z i 15)=some (.slice m.tA m.ts.length m.tc)/\∀b,b<48->w'.cell? (Z p<|0+b)=Q.g_[b]?) 19 k_ ?_;obtain⟨d,R⟩:=nm_<|wr.drew;have B:J [] wr d:=by rw[R];exact(G_ [] wr).drew
     rw[<-R];clear R;refine m6 (x.out _ B) λC=>?_;refine iC 0 C ?_;refine iC 1 C ?_;refine iC 2 C ?_;refine iC 3 C ?_;refine iC 4 (v:=.agg Q.g_) C ?_ (hy:=(Or.inl ⟨r_,λdk aZ=>jA 53 rfl p 0 r_ (λb u=>aZ.2.2.2.2.2.2 b u) underlying53 rfl k_⟩));refine iC 5 C ?_;refine iC 6 C ?_;refine iC 7 C ?_;refine iC 8 C ?_;refine iC 9 C ?_;refine iC 10 C ?_;refine x4 11 16 (λK H=>?_) λK H=>?_
     .go_simp;go_at_call 40;(with_reducible refine(cQ.out _ B).mono ?_);unfold lO;rintro e I⟨j,s,o,rfl,cA,cC,aN⟩;have t:=B.trans aN;refine hZ H (x.out _ t) λC=>?_;clear H K;refine x4 12 16 (λK H=>?_) (λK H=>?_)
      .go_simp;go_at_call 39;(with_reducible refine(cg.out j s o _ t cA cC).mono ?_);unfold lp;rintro e E⟨tc,rfl,bt,bu,M⟩;have N3:=t.trans M;refine hZ H (x.out _ N3) λC=>?_;clear H K;refine iC 13 C ?_;refine iC 14 C ?_;refine iC 15 C ?_;refine h4 16 λK H=>?_;go_simp;have ai:=T_ E 53 ks;have aE:J [] E (E.alloc<|.cells ks 53):=(G_ [] E).alloc _;have aF:wr.heap.size<=E.heap.size:=N3.size;refine hZ H (x.out _<|N3.trans aE) λC=>?_;clear H K;obtain⟨ce,F⟩:=nm_<|E.alloc<|.cells ks 53;rw[<-F]at ai aE C |-;clear F;obtain⟨r,L⟩:=nm_ E.heap.size;rw[<-L]at ai aF |-;clear L;have f:=N3.trans aE
       refine h4 17 λK H=>?_;rw[L_ r_];refine h9 53 rfl r r_ tc.g_ r_ 53 ai rfl k_ (Tk.one _) ?_;intro bq aS y;have ar:J [] wr bq:=f.hJ y (by simp;omega);refine hZ H (x.out _ ar) λC=>?_;clear H K;refine iC 18 C ?_;exact Mx
      go_simp;have ai:=T_ I 53 ks;have aE:J [] I (I.alloc<|.cells ks 53):=(G_ [] I).alloc _;have aF:wr.heap.size<=I.heap.size:=t.size;refine hZ H (x.out _<|t.trans aE) λC=>?_;clear H K;obtain⟨ce,F⟩:=nm_<|I.alloc<|.cells ks 53;rw[<-F]at ai aE C |-;clear F;obtain⟨r,L⟩:=nm_ I.heap.size;rw[<-L]at ai aF |-;clear L;have f:=t.trans aE
      refine h4 12 λK H=>?_;go_simp;go_at_call 39;(with_reducible refine(cg.out j s o _ f (cA.hF aE) cC).mono ?_);unfold lp;rintro e E⟨tc,rfl,bt,bu,M⟩;have N3:=f.trans M;exact JQ
     go_simp;have ai:=T_ d 53 ks;have aE:J [] d (d.alloc<|.cells ks 53):=(G_ [] d).alloc _;have aF:wr.heap.size<=d.heap.size:=B.size;refine hZ H (x.out _<|B.trans aE) λC=>?_;clear H K;obtain⟨ce,F⟩:=nm_<|d.alloc<|.cells ks 53;rw[<-F]at ai aE C |-;clear F;obtain⟨r,L⟩:=nm_ d.heap.size;rw[<-L]at ai aF |-;clear L;have f:=B.trans aE
     refine h4 11 λK H=>?_;go_simp;go_at_call 40;(with_reducible refine(cQ.out _ f).mono ?_);unfold lO;rintro e I⟨j,s,o,rfl,cA,cC,aN⟩;have t:=f.trans aN;refine hZ H (x.out _ t) λC=>?_;clear H K;replace ai:=ai.hF aN;refine h4 12 λK H=>?_;go_simp;go_at_call 39;(with_reducible refine(cg.out j s o _ t cA cC).mono ?_);unfold lp;rintro e E⟨tc,rfl,bt,bu,M⟩;have N3:=t.trans M;exact JQ
    obtain⟨r1,tc,rfl,rfl,bB,br,bt,c8,cT⟩:=hcut;obtain⟨aw,dH⟩:=nm_ wc;subst dH;have cB:=bT.trans cT;have bU:=N.lt;have cY:=U.lt;replace N:=N.hF cT;replace U:=U.hF cT;replace aO:=aO.hF cT;have dG:=br.lt;clear cj;go_upto_region 13 with fail;go_cut [13,14] (λa e V=>∃(r:Nat) (tc:Tk),a=q_ r/\e=Y 0/\aw.heap.size<=r/\Bk V r 53 tc.g_/\kV V tc/\tc.p=iT m.l m.hH m.hC m.d Q.p (j3 (hY m.s.h.l) (m.ts.map Tk.p) k)/\J [] aw V)
    case first=>
     have x:=O (λ(w':World)(h:J [] aw w')=>(show(w'.cell? (Z i 0)=some (.slice m.A m.l.length m.c)/\w'.cell? (Z i 1)=some (Y m.hH)/\w'.cell? (Z i 2)=some (Y m.hC)/\w'.cell? (Z i 4)=some (.slice m.dA m.d.length m.dc)/\w'.cell? (Z aq 0)=some (.slice aP bm.length c4)/\w'.cell? (Z i 15)=some (.slice m.tA m.ts.length m.tc)/\∀b,b<48->w'.cell? (Z q<|0+b)=ao.g_[b]?) from
      ⟨(cB.trans h).f_ bx s_,(cB.trans h).f_ af s_,(cB.trans h).f_ ay s_,(cB.trans h).f_ cN s_,(cB.trans h).f_ ak s_,(cB.trans h).f_ bM s_,λb u=>by rw[U_];exact(U.hF h).f_ b⟩))
     have cQ:=O λ(w':World)(h:J [] aw w')=>ca.out k ag w'<|cB.trans h;have cg:=O λ(j:OA)(s:Nat)(o:QT)(w':World)(h:J [] aw w')(hv:mh w' j s o)(ho:hY o=j3 (hY bm) (m.ts.map Tk.p) k)=>bj.out k ag ao (by rw[da];exact aU) (by rw[da];exact T) j s o w' (cB.trans h) (aO.hF h) hv ho;simp only[da]at cg;clear b8 ca aM bj b7 bi a7 cq co bx af ay cN bL ak bM cB di aO;have hbl:=U.lt;refine hS (λw'=>w'.cell? (Z i 0)=some (.slice m.A m.l.length m.c)/\w'.cell? (Z i 1)=some (Y m.hH)/\w'.cell? (Z i 2)=some (Y m.hC)/\w'.cell? (Z i 4)=some (.slice m.dA m.d.length m.dc)/\w'.cell? (Z aq 0)=some (.slice aP bm.length c4)/\w'.cell? (Z i 15)=some (.slice m.tA m.ts.length m.tc)/\∀b,b<48->w'.cell? (Z q<|0+b)=ao.g_[b]?) 17 k_ ?_;obtain⟨d,R⟩:=nm_<|aw.drew;have B:J [] aw d:=by rw[R];exact(G_ [] aw).drew
     rw[<-R];clear R;refine m6 (x.out _ B) λC=>?_;refine iC 0 C ?_;refine iC 1 C ?_;refine iC 2 C ?_;refine iC 3 C ?_;refine iC 4 (v:=.agg ao.g_) C ?_ (hy:=(Or.inl ⟨r_,λdk aZ=>jA 53 rfl q 0 r_ (λb u=>aZ.2.2.2.2.2.2 b u) underlying53 rfl k_⟩));refine iC 5 C ?_;refine iC 6 C ?_;refine iC 7 C ?_;refine iC 8 C ?_;refine x4 9 14 (λK H=>?_) λK H=>?_
     .go_simp;go_at_call 40;(with_reducible refine(cQ.out _ B).mono ?_);unfold lO;rintro e I⟨j,s,o,rfl,cA,cC,aN⟩;have t:=B.trans aN;refine hZ H (x.out _ t) λC=>?_;clear H K;refine x4 10 14 (λK H=>?_) (λK H=>?_)
      .go_simp;go_at_call 39;(with_reducible refine(cg.out j s o _ t cA cC).mono ?_);unfold lp;rintro e E⟨tc,rfl,bt,bu,M⟩;have N3:=t.trans M;refine hZ H (x.out _ N3) λC=>?_;clear H K;refine iC 11 C ?_;refine iC 12 C ?_;refine iC 13 C ?_;refine h4 14 λK H=>?_;go_simp;have ai:=T_ E 53 ks;have aE:J [] E (E.alloc<|.cells ks 53):=(G_ [] E).alloc _;have aF:aw.heap.size<=E.heap.size:=N3.size;refine hZ H (x.out _<|N3.trans aE) λC=>?_;clear H K;obtain⟨ce,F⟩:=nm_<|E.alloc<|.cells ks 53;rw[<-F]at ai aE C |-;clear F;obtain⟨r,L⟩:=nm_ E.heap.size;rw[<-L]at ai aF |-;clear L;have f:=N3.trans aE
       refine h4 15 λK H=>?_;rw[L_ r_];refine h9 53 rfl r r_ tc.g_ r_ 53 ai rfl k_ (Tk.one _) ?_;intro bq aS y;have ar:J [] aw bq:=f.hJ y (by simp;omega);refine hZ H (x.out _ ar) λC=>?_;clear H K;refine iC 16 C ?_;exact Mx
      go_simp;have ai:=T_ I 53 ks;have aE:J [] I (I.alloc<|.cells ks 53):=(G_ [] I).alloc _;have aF:aw.heap.size<=I.heap.size:=t.size;refine hZ H (x.out _<|t.trans aE) λC=>?_;clear H K;obtain⟨ce,F⟩:=nm_<|I.alloc<|.cells ks 53;rw[<-F]at ai aE C |-;clear F;obtain⟨r,L⟩:=nm_ I.heap.size;rw[<-L]at ai aF |-;clear L;have f:=t.trans aE
      refine h4 10 λK H=>?_;go_simp;go_at_call 39;(with_reducible refine(cg.out j s o _ f (cA.hF aE) cC).mono ?_);unfold lp;rintro e E⟨tc,rfl,bt,bu,M⟩;have N3:=f.trans M;exact JP
     go_simp;have ai:=T_ d 53 ks;have aE:J [] d (d.alloc<|.cells ks 53):=(G_ [] d).alloc _;have aF:aw.heap.size<=d.heap.size:=B.size;refine hZ H (x.out _<|B.trans aE) λC=>?_;clear H K;obtain⟨ce,F⟩:=nm_<|d.alloc<|.cells ks 53;rw[<-F]at ai aE C |-;clear F;obtain⟨r,L⟩:=nm_ d.heap.size;rw[<-L]at ai aF |-;clear L;have f:=B.trans aE
     refine h4 9 λK H=>?_;go_simp;go_at_call 40;(with_reducible refine(cQ.out _ f).mono ?_);unfold lO;rintro e I⟨j,s,o,rfl,cA,cC,aN⟩;have t:=f.trans aN;refine hZ H (x.out _ t) λC=>?_;clear H K;replace ai:=ai.hF aN;refine h4 10 λK H=>?_;go_simp;go_at_call 39;(with_reducible refine(cg.out j s o _ t cA cC).mono ?_);unfold lp;rintro e E⟨tc,rfl,bt,bu,M⟩;have N3:=t.trans M;exact JP
    obtain⟨r2,b4,rfl,rfl,aT,cp,cv,A,cD⟩:=hcut;obtain⟨cI,bK⟩:=nm_ wc;subst bK;replace br:=br.hF cD;replace bt:=bt.hF cD;replace N:=N.hF cD;replace U:=U.hF cD;have db:=b7.out k Q.p aU T;have am:=(bi.out _ db).mono (show 500000<=1000000 by omega);rw[<-c8]at db am;have dn:=O λ(w':World)(h:J [] cI w')=>ye tc b4 w' (bt.hF h) (cv.hF h) (c8.trans A.symm) am;have dP:r1≠r2:=by omega
    have bA:∀b,b<48->cI.cell? (Z r1<|0+b)=tc.g_[b]?:=λb u=>by rw[U_];exact br.f_ b
    have bW:∀b,b<48->cI.cell? (Z r2<|0+b)=b4.g_[b]?:=λb u=>by rw[U_];exact cp.f_ b
    have b5:=cB.trans cD;have dF:b4.p=tc.p:=A.trans c8.symm;clear b8 ca aM bj b7 bi a7 c8 A am aU da T;go_upto_region 14 with fail;refine wp_region_lit ?_;repeat(first
     |(refine h8 (v:=.agg tc.g_) rfl rfl rfl rfl rfl (jA 53 rfl r1 0 r_ bA underlying53 rfl k_) ?_;try simp only[a_])
     |(refine h8 (v:=.agg b4.g_) rfl rfl rfl rfl rfl (jA 53 rfl r2 0 r_ bW underlying53 rfl k_) ?_;try simp only[a_])
     |(refine ij rfl gs_ ?_;try simp only[a_])
     |(refine h8 rfl rfl rfl rfl rfl gs_ ?_;try simp only[a_]))
    refine km rfl rfl rfl rfl rfl λK H=>?_;go_simp;go_at_call 41;refine(dn.out _<|G_ _ _).mono ?_;rintro e dm⟨rfl,cE⟩;refine H.out _ _ ?_;clear H K;try simp only[a_]
    repeat(first|(refine ij rfl gs_ ?_;try simp only[a_])|(refine h8 rfl rfl rfl rfl rfl gs_ ?_;try simp only[a_]))
    refine wpList_nil ?_;replace br:=br.hF cE;replace cp:=cp.hF cE;replace bt:=bt.hF cE;replace cv:=cv.hF cE;replace N:=N.hF cE;replace U:=U.hF cE;have aK:=b5.trans cE;have dN:p≠r1/\p≠r2/\q≠r1/\q≠r2:=by omega
    clear bA bW dn b5 cB cT cD cE bx af ay cN bL bM ak dG;go_upto_region 16 with fail;refine hS (λw'=>(∀b,b<48->w'.cell? (Z r1<|0+b)=tc.g_[b]?)/\∀b,b<48->w'.cell? (Z r2<|0+b)=b4.g_[b]?) 4 k_ ?_;obtain⟨d,R⟩:=nm_<|dm.drew;have B:J [] dm d:=by rw[R];exact(G_ [] dm).drew
    rw[<-R];clear R;replace br:=br.hF B;replace cp:=cp.hF B;replace bt:=bt.hF B;replace cv:=cv.hF B;replace N:=N.hF B;replace U:=U.hF B;replace aK:=aK.trans B;refine m6 ⟨λb u=>by rw[U_];exact br.f_ b,λb u=>by rw[U_];exact cp.f_ b⟩ λC=>?_;refine iC 0 (v:=.agg tc.g_) C ?_ (hy:=(Or.inl ⟨r_,λdk aZ=>jA 53 rfl r1 0 r_ (λb u=>aZ.1 b u) underlying53 rfl k_⟩));refine iC 1 (v:=.agg b4.g_) C ?_ (hy:=(Or.inl ⟨r_,λdk aZ=>jA 53 rfl r2 0 r_ (λb u=>aZ.2 b u) underlying53 rfl k_⟩));refine h4 2 λK H=>?_;rw[L_ r_];refine h9 53 rfl p r_ tc.g_ r_ 53 N rfl k_ (Tk.one _) ?_;intro bq aS y;have de:=br.gr y (by simp;omega);have df:=cp.gr y (by simp;omega);have c7:=U.gr y (by simp;omega);refine hZ H ⟨λb u=>by rw[U_];exact de.f_ b,λb u=>by rw[U_];exact df.f_ b⟩ λC=>?_;clear H K;refine h4 3 λK H=>?_;rw[L_ r_];refine h9 53 rfl q r_ b4.g_ r_ 53 c7 rfl k_ (Tk.one _) ?_;intro c3 du cr;have dr:=de.gr cr (by simp;omega);have dt:=df.gr cr (by simp;omega);refine hZ H ⟨λb u=>by rw[U_];exact dr.f_ b,λb u=>by rw[U_];exact dt.f_ b⟩ λC=>?_;clear H K;have cL:Bk c3 p 53 tc.g_/\Bk c3 q 53 b4.g_/\kV c3 tc/\kV c3 b4/\J [] z c3:=
     ⟨aS.gr cr (by simp;omega),du,(bt.iy N oz y).iy c7 oz cr,(cv.iy N oz y).iy c7 oz cr,(aK.hJ y<|by simp;omega).hJ cr<|by simp;omega⟩
    clear C de df dr dt aS du c7 y cr bt cv br cp N U aK B;have cW:(b:Int)-1=((b-1:Nat):Int):=by omega
    have dM:IntKind.i64.wrap ((b:Int)-1)=(b:Int)-1:=G9 _ (by omega);refine hN k_ ?_ _;go_wp2;go_roundw;exact⟨b-1,tc,b4,by first|exact GG (Value.int .i64) cW|go_num|(rw[cW]),by omega,cL.1,cL.2.1,cL.2.2.1,cL.2.2.2.1,dF,db,cL.2.2.2.2⟩;simp[intOf];omega
   have B:(Q.h5=0)=False:=by simp[cu]
   exact LH
  have dJ:((0:Int)<(b:Int))=False:=by simp;omega
  exact LH
 have cK:=ci.f_ bM s_;have u:(0<cc.length)=True:=by simp;omega
 clear b8 ca aM bj b7 bi a7 co bx af ay cN bL bM;go_wp2_with (go_at_call 28;refine(cq.out _ ci).mono ?_;unfold pu;rintro e V⟨f,d,rfl, -, -,D⟩);rw[ax.out];exact⟨rfl,N2.trans<|ci.trans D⟩
