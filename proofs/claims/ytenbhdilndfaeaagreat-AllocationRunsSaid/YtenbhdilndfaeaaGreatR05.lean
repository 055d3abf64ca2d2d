import Derived.Test.YtenbhdilndfaeaaGreatR04
set_option maxRecDepth 100000
set_option maxHeartbeats 0
set_option linter.all false
namespace Go.Proofs.YtenbhdilndfaeaaGreat
open Go.RowKit Go.Proofs.Tryz
variable{z:Int}{k:Nat}{h:List Ob}{w w':World}{e:TypeId}{xs:List Value}{M:List Nat}(base:Nat)(o:Int)
def Ej(v:Vl):Prop:= -9<=v.n/\v.n<=11/\(v.r=true->0<=v.n)
structure FD(h:List Ob):Prop where
 size:h.length<=5
 ids:∀o∈h,1<=o.id/\o.id<=100
 fields:∀o∈h,o.fs.length<=3/\∀v∈o.fs,Ej v
 nodup:(h.map Ob.id).Nodup
def Ej.wf{v:Vl}(h:Ej v):lk v.n:=by
 obtain⟨a,b,_⟩:=h;exact WalkArith.wf_i64 X
structure Ey(z:Int)(k:Nat)(h:List Ob):Prop where
 len:h.length=k
 ids:∀o∈h,1<=o.id/\o.id<=z
 fields:∀o∈h,o.fs.length<=3/\∀v∈o.fs,Ej v
 nodup:(h.map Ob.id).Nodup
def Ey.add(b:Ey z k h){y:Int}(hy:z<y)(l:1<=y){fs:List Vl}(g:fs.length<=3)(i:∀v∈fs,Ej v):Ey y (k+1) (h++[⟨y,fs⟩]):=by
 refine⟨by simp[b.len],?_,?_,?_⟩
 .intro o a
  rcases T_.1 a with a|a
  .have:=b.ids o a
   omega
  .have:o=⟨y,fs⟩:=zu a
   subst this;simp only;omega
 .intro o a
  rcases T_.1 a with a|a
  .exact b.fields o a
  .have:o=⟨y,fs⟩:=zu a
   subst this;exact⟨g,i⟩
 .rw[FI,Gs];refine⟨b.nodup,s_,?_⟩;intro j d c f m;obtain⟨o,a,rfl⟩:=Z_.1 d
  have:c=y:=zu f
  have:=b.ids o a
  omega
def Ey.ok(a:Ey z k h)(b:k<=5)(d:z<=100):FD h:=
 ⟨by rw[a.len];exact b,λo c=>by have:=a.ids o c;omega,a.fields,a.nodup⟩
def wv{base:Nat}{g:Nat}{A:OA}{n c:Nat}(h:w.ownsRow base e g (.slice A n c) n xs){b f:Nat}(d:A=some ⟨b,f,none⟩):base<=b:=by
 subst d
 rcases h.2 with⟨a,l⟩|⟨j,p,i,a,m,_⟩
 .cases a
 .injection a with a;injection a with a;injection a with a _ _;omega
def infoI64:(prog.info? 2).map (λi=>(i.zero,i.size,i.bytes))=some (some (Y 0),1,8):=by kernel_rfl
def y4(B g:Nat)(G:iL w B g)(hB:B<=w.heap.size):
 Calls prog 45 #[.pointer (some ⟨g,0,none⟩)] w λe w'=>∃(A:OA) (c:Nat) (l:List Int),e=.returned (.agg #[.slice A l.length c])/\l.length<=5/\Ns w' 2 A l/\iL w' B g/\J [g] w w':=by
 obtain⟨bC,bv,bw,aZ,bg⟩:=info_parts infoI64;have a2:=G.x0;obtain⟨P,R,-⟩:=qL w 29 #[n_] 29 #[n_];have Q:J [g] w ((w.alloc (.cells #[n_] 29)).alloc (.cells #[n_] 29)):=((H [g] w).alloc _).alloc _;have T:=G.g_ (((H [] w).alloc (.cells #[n_] 29)).alloc (.cells #[n_] 29))
 go_enter func45,ntmps45
 go_wp2_with fail
 go_at_call 19
 refine(iq B g 6 T X X).mono ?_;rintro e v⟨af,rfl,bp,bA,cI,q⟩;obtain⟨x,rfl⟩:∃ah:Nat,af=ah:=⟨af.toNat,X⟩;have bu:=P.gr q p_;have bH:=R.gr q p_;have bP:=Q.trans q
 have aB:w.heap.size+2<=v.heap.size:=by have:=q.size;simp at this;omega
 clear T P R Q q G;generalize N:w.heap.size=m at*;have D:=O N;clear N;go_wp2
 go_loopw [4] (λE w'=>∃(a:Nat) (d:OA) (i:Nat) (n:List Int),a<=x/\E=Y ((x:Int)-a)/\n.length=a/\Bk w' m 29 #[n_]/\Bk w' (m+1) 29 #[.slice d a i]/\w'.ownsRow v.heap.size 2 1 (.slice d a i) a (n.map (Value.int .i64))/\iL w' B g/\J [g] w w'/\v.heap.size<=w'.heap.size) (λE _=>(intOf E).toNat)
 case atStart=>exact⟨0,none,0,[],P_ _,gn,rfl,bu,bH,iY _ _ _ _,cI,bP,H_ _⟩
 case round=>
  obtain⟨a,d,i,n,hj,rfl,U,r,F,ai,h,V,aj⟩:=hrel;have C:=O U;clear U
  by_cases al:a<x
  .have bz:=F.f_ 0;have am:=h.g_ (H [] wr).drew;obtain⟨dn,MP⟩:=h.bk
   go_wp2_with fail
   go_region_law (first|(refine pG rfl (.tmp 12) (.tmp 16) 27 rfl v.heap.size 2 bC 1 8 underlying27 bv bw aZ bg rfl I I d a i (n.map (Value.int .i64)) rfl z _ 1 1 rfl ak (by intro an W;simp at W;subst W;rfl) X K ?_;intro L S ad aU u;have y:=u.bk o I;have cJ:=y.hm 0;have ae:=y.f_ 0)|(go_simp;go_at_call 19;refine(iq B g 9 am X X).mono ?_;rintro e j⟨b,rfl,ao,hv1,cF,aN⟩;have bE:IntKind.i64.wrap (b-3)=b-3:=F1 _ X;have t:=(H [g] wr).drew.trans aN;have Z:=F.gr t p_;have ap:=Z.f_ 0;have o:=Z.alloc (.cells #[Y (b-3)] 2);have k:=o.f_ 0;have z:=iF (kQ ai MP I t) ((H [] j).alloc (.cells #[Y (b-3)] 2));have ak:Sl (j.alloc (.cells #[Y (b-3)] 2)) 2 1 (some ⟨j.heap.size,0,none⟩) 1 [Y (b-3)]:=kV (s:=1) (Q_ j 2 #[Y (b-3)]) rfl;have K:v.heap.size<=(j.alloc (.cells #[Y (b-3)] 2)).heap.size:=G_ aj (t.alloc _).size))
   all_goals
    go_wp2;go_roundw
    case rel=>
     have f:=(H [m+1] ad).setCell (p:=⟨m+1,0,none⟩) (.inl s_) (.slice L (a+1) S);have dq:=(cF.g_ ((H [] j).alloc (.cells #[Y (b-3)] 2))).app u X;have aq:=u.gr [g] w (by rw[D.out];omega) (V.trans (t.alloc _));refine⟨a+1,L,S,n++[b-3],X,gn,by rw[K_,C.out];rfl,(u.bk ((r.gr t p_).alloc _) I).gr f s_,y.hN 0 _,?_,?_,?_,?_⟩
     .rw[FI];exact kQ aU y I f
     .exact dq.ib f p_
     .exact aq.setCell (.inr (by rw[D.out];simp)) _
     .have h1:=G_ K u.size;have h2:=f.size;omega
    case measure=>exact mz
  .have b:a=x:=X;subst b;have u:=F.f_ 0;have t:=r.hm 0;have bp:=r.f_ 0;go_wp2;have j:=r.hN 0 (.slice d a i);have f:=(H [m] wr).setCell (p:=⟨m,0,none⟩) (.inl s_) (.slice d a i);refine FY (G7 rfl _ _ _ _ _ _ _ rfl j underlying29 rfl k_) rfl ⟨d,i,n,by rw[C.out];rfl,by rw[C.out];omega,?_,h.ib f p_,?_⟩
   .unfold Ns;rw[C.out];exact Sl.ir (Sl.iQ ai) r I f
   .exact V.setCell (.inr (by rw[D.out];simp)) _
inductive ET where
 |mk (hS n:Int) (name:ByteArray) (op:Int) (A:OA) (c:Nat) (l:List ET)
def ET.hS:ET->Int| .mk k _ _ _ _ _ _=>k
def ET.n:ET->Int| .mk _ n _ _ _ _ _=>n
def ET.name:ET->ByteArray| .mk _ _ s _ _ _ _=>s
def ET.op:ET->Int| .mk _ _ _ o _ _ _=>o
def ET.A:ET->Option Addr| .mk _ _ _ _ A _ _=>A
def ET.c:ET->Nat| .mk _ _ _ _ _ c _=>c
def ET.l:ET->List ET| .mk _ _ _ _ _ _ l=>l
def ET.g8(t:ET):Array Value:=#[Y t.hS,Y t.n,.string t.name,Y t.op,.slice t.A t.l.length t.c]
def ET.E(t:ET):List Value:=[Y t.hS,Y t.n,.string t.name,Y t.op,.slice t.A t.l.length t.c]
abbrev jx(b x:Nat):Prop:=b<=x
def Sl.sy{c:Nat}{A:OA}{n:Nat}(h:Sl w e c A n xs)(d:0<n->∀b f,A=some (Z b f)->b<w.heap.size->w'.heap[b]?=w.heap[b]?):Sl w' e c A n xs:=by
 rcases GI n with a|a
 .exact⟨h.1,λg=>by omega⟩
 .exact h.iy (d a)
def Sl.lt{i:Nat}{x g n:Nat}(h:Sl w e i (some (Z x g)) n xs)(f:0<n):x<w.heap.size:=by
 obtain⟨j,o,l,m,a,b,_⟩:=h.2 f;injection a with a;injection a with a;subst a
 rcases FO x w.heap.size with c|d
 .exact c
 .rw[FF d]at b
  cases b
inductive kl(p:Nat->Prop)(w:World):ET->Prop
 |mk (t:ET) (h:Sl w 226 5 t.A t.l.length (t.l.flatMap ET.E)) (hc:t.l.length<=t.c) (hb:∀x off,t.A=some (Z x off)->0<t.l.length->p x) (hl:∀u∈t.l,kl p w u):kl p w t
def kl.g_{p:Nat->Prop}{t:ET}(h:kl p w t)(d:J [] w w'):kl p w' t:=by
 induction h with
 |mk t h c b _ a=>exact .mk t (h.g_ d) c b a
def kl.ib{p:Nat->Prop}{t:ET}(h:kl p w t)(g:J M w w')(z:∀x∈M,¬p x):kl p w' t:=by
 induction h with
 |mk t h f a _ d=>exact .mk t (h.sy λi x l c j=>g.block x j (λb=>z x b (a x l c i))) f a d
def kl.imp{p q:Nat->Prop}{t:ET}(h:kl p w t)(e:∀x,p x->q x):kl q w t:=by
 induction h with
 |mk t h d c _ b=>exact .mk t h d (λx g a f=>e x (c x g a f)) b
def kl.lt{p:Nat->Prop}{t:ET}(h:kl p w t):kl (λx=>p x/\x<w.heap.size) w t:=by
 induction h with
 |mk t h f d _ c=>exact .mk t h f (λx g a b=>⟨d x g a b,(by rw[a]at h;exact h.lt b)⟩) c
def kl.le{b c:Nat}{t:ET}(h:kl (jx c) w t)(a:b<=c):kl (jx b) w t:=h.imp λ_ d=>G_ a d
inductive ST where
 |mk (hS:Int) (name fn:ByteArray) (n op:Int) (AE:OA) (cE:Nat) (es:List ET) (AB:OA) (cB:Nat) (bs:List ST) (AL:OA) (cL:Nat) (ls:List ST)
def ST.hS:ST->Int| .mk k _ _ _ _ _ _ _ _ _ _ _ _ _=>k
def ST.name:ST->ByteArray| .mk _ s _ _ _ _ _ _ _ _ _ _ _ _=>s
def ST.fn:ST->ByteArray| .mk _ _ s _ _ _ _ _ _ _ _ _ _ _=>s
def ST.n:ST->Int| .mk _ _ _ n _ _ _ _ _ _ _ _ _ _=>n
def ST.op:ST->Int| .mk _ _ _ _ o _ _ _ _ _ _ _ _ _=>o
def ST.AE:ST->Option Addr| .mk _ _ _ _ _ A _ _ _ _ _ _ _ _=>A
def ST.cE:ST->Nat| .mk _ _ _ _ _ _ c _ _ _ _ _ _ _=>c
def ST.es:ST->List ET| .mk _ _ _ _ _ _ _ l _ _ _ _ _ _=>l
def ST.AB:ST->Option Addr| .mk _ _ _ _ _ _ _ _ A _ _ _ _ _=>A
def ST.cB:ST->Nat| .mk _ _ _ _ _ _ _ _ _ c _ _ _ _=>c
def ST.bs:ST->List ST| .mk _ _ _ _ _ _ _ _ _ _ l _ _ _=>l
def ST.AL:ST->Option Addr| .mk _ _ _ _ _ _ _ _ _ _ _ A _ _=>A
def ST.cL:ST->Nat| .mk _ _ _ _ _ _ _ _ _ _ _ _ c _=>c
def ST.ls:ST->List ST| .mk _ _ _ _ _ _ _ _ _ _ _ _ _ l=>l
def ST.E(t:ST):List Value:=[Y t.hS,.string t.name,.string t.fn,Y t.n,Y t.op,.slice t.AE t.es.length t.cE,.slice t.AB t.bs.length t.cB,.slice t.AL t.ls.length t.cL]
def ST.g8(t:ST):Array Value:=#[Y t.hS,.string t.name,.string t.fn,Y t.n,Y t.op,.slice t.AE t.es.length t.cE,.slice t.AB t.bs.length t.cB,.slice t.AL t.ls.length t.cL]
inductive jD(p:Nat->Prop)(w:World):ST->Prop
 |mk (t:ST) (he:Sl w 226 5 t.AE t.es.length (t.es.flatMap ET.E)) (hce:t.es.length<=t.cE) (hbe:∀x off,t.AE=some (Z x off)->0<t.es.length->p x) (hes:∀u∈t.es,kl p w u)
   (hb:Sl w 229 8 t.AB t.bs.length (t.bs.flatMap ST.E)) (hcb:t.bs.length<=t.cB) (tZ:∀x off,t.AB=some (Z x off)->0<t.bs.length->p x) (hbs:∀u∈t.bs,jD p w u)
   (hl:Sl w 229 8 t.AL t.ls.length (t.ls.flatMap ST.E)) (hcl:t.ls.length<=t.cL) (hbl:∀x off,t.AL=some (Z x off)->0<t.ls.length->p x) (hls:∀u∈t.ls,jD p w u):jD p w t
def jD.g_{p:Nat->Prop}{t:ST}(h:jD p w t)(a:J [] w w'):jD p w' t:=by
 induction h with
 |mk t m j f n d i s _ q l g _ b c=>exact .mk t (m.g_ a) j f (λu r=>(n u r).g_ a) (d.g_ a) i s b (q.g_ a) l g c
def jD.ib{p:Nat->Prop}{t:ST}(h:jD p w t)(g:J M w w')(z:∀x∈M,¬p x):jD p w' t:=by
 induction h with
 |mk t v s i y q r l _ A u j _ m n=>
  exact .mk t (v.sy λc x f b d=>g.block x d (λa=>z x a (i x f b c))) s i (λC B=>(y C B).ib g z)
   (q.sy λc x f b d=>g.block x d (λa=>z x a (l x f b c))) r l m
   (A.sy λc x f b d=>g.block x d (λa=>z x a (j x f b c))) u j n
def jD.imp{p q:Nat->Prop}{t:ST}(h:jD p w t)(e:∀x,p x->q x):jD q w t:=by
 induction h with
 |mk t r m i s g l y _ u n j _ d f=>
  exact .mk t r m (λx c a b=>e x (i x c a b)) (λA v=>(s A v).imp e) g l (λx c a b=>e x (y x c a b)) d u n (λx c a b=>e x (j x c a b)) f
def jD.lt{p:Nat->Prop}{t:ST}(h:jD p w t):jD (λx=>p x/\x<w.heap.size) w t:=by
 induction h with
 |mk t f q l s d n v _ g r m _ i j=>
  exact .mk t f q (λx c a b=>⟨l x c a b,(by rw[a]at f;exact f.lt b)⟩) (λy u=>(s y u).lt) d n (λx c a b=>⟨v x c a b,(by rw[a]at d;exact d.lt b)⟩) i g r (λx c a b=>⟨m x c a b,(by rw[a]at g;exact g.lt b)⟩) j
def jD.le{b c:Nat}{t:ST}(h:jD (jx c) w t)(a:b<=c):jD (jx b) w t:=h.imp λ_ d=>G_ a d
def ju(n:Int):ET:=.mk 1 n ByteArray.empty 0 none 0 []
def jv(s:ByteArray):ET:=.mk 3 0 s 0 none 0 []
def eNew(n:Int):ET:=.mk 6 n ByteArray.empty 0 none 0 []
def kl.leaf(p:Nat->Prop)(w:World)(k n:Int)(s:ByteArray)(o:Int):kl p w (.mk k n s o none 0 []):=.mk _ (Gz _ _ _ _) (H_ _) (λ_ _ h _=>by cases h) (λb a=>by cases a)
def j3(n:Int):Calls prog 144 #[Y n] w λe w'=>e=.returned (.agg (ju n).g8)/\J [] w w':=by
 go_enter func144,ntmps144
 go_wp2_with fail
 exact rr_ (ju n).g8 (Q_ w 226 _) underlying226 ⟨rfl,(H [] w).alloc _⟩
def j5(s:ByteArray):Calls prog 145 #[.string s] w λe w'=>e=.returned (.agg (jv s).g8)/\J [] w w':=by
 go_enter func145,ntmps145
 go_wp2_with fail
 exact rr_ (jv s).g8 (Q_ w 226 _) underlying226 ⟨rfl,(H [] w).alloc _⟩
def qu(o:Int)(A:OA)(a b:ET):ET:=.mk 5 0 ByteArray.empty o A 2 [a,b]
def jj{g:Nat}{t:TypeId}{cs:Array Value}{s n:Nat}(h:Bk w g t cs)(a:cs.size=n*s):Sl w t s (j_ g) n cs.toList:=
 ⟨by simpa using a,λ_=>⟨g,0,cs,_,rfl,h,λc d b=>by simpa using b⟩⟩
def oM(a b:ET)(G:base<=w.heap.size)(y:kl (jx base) w a)(B:kl (jx base) w b):Calls prog 143 #[Y o,.agg a.g8,.agg b.g8] w λe w'=>∃A,e=.returned (.agg (qu o A a b).g8)/\kl (jx base) w' (qu o A a b)/\J [] w w':=by
 obtain⟨m,r,v,t,c,j,p⟩:=a;obtain⟨i,s,g,u,d,f,q⟩:=b;have C:=O y;have E:=O B;clear y B;rw[show(ET.mk m r v t c j p).g8=#[Y m,Y r,.string v,Y t,.slice c p.length j] from rfl,show(ET.mk i s g u d f q).g8=#[Y i,Y s,.string g,Y u,.slice d q.length f] from rfl]
 go_enter func143,ntmps143
 go_wp2_with fail
 obtain⟨-,-,F,D,x⟩:=C6 w 226 #[Y m,Y r,.string v,Y t,.slice c p.length j] 226 #[Y i,Y s,.string g,Y u,.slice d q.length f] 226 #[Y 5,Y 0,.string ByteArray.empty,Y o,.slice (j_ (w.heap.size+1+1+1)) 2 2] 226 #[Y m,Y r,.string v,Y t,.slice c p.length j,Y i,Y s,.string g,Y u,.slice d q.length f];refine rr_ (qu o (j_ (w.heap.size+1+1+1)) (ET.mk m r v t c j p) (ET.mk i s g u d f q)).g8 F underlying226 ⟨_,rfl,?_,x⟩;refine .mk _ (jj (n:=2) D rfl) (H_ _) (λK H h _=>by injection h with h;injection h with h;omega) ?_;intro I l
 rcases N_.1 l with rfl|l
 .exact C.out.g_ x
 .rcases N_.1 l with rfl|l
  .exact E.out.g_ x
  .cases l
def iZ(x:ByteArray)(A:OA)(t:ET):ST:=.mk 1 x ByteArray.empty 0 0 A 1 [t] none 0 [] none 0 []
def kP(x:ByteArray)(t:ET)(w:World)(u:base<=w.heap.size)(l:kl (jx base) w t):Calls prog 142 #[.string x,.agg t.g8] w λe w'=>∃A,e=.returned (.agg (iZ x A t).g8)/\jD (jx base) w' (iZ x A t)/\J [] w w':=by
 obtain⟨d,g,j,i,b,c,f⟩:=t;have q:=O l;clear l;rw[show(ET.mk d g j i b c f).g8=#[Y d,Y g,.string j,Y i,.slice b f.length c] from rfl]
 go_enter func142,ntmps142
 go_wp2_with fail
 obtain⟨-,s,r,m⟩:=xj w 226 #[Y d,Y g,.string j,Y i,.slice b f.length c] 229 #[Y 1,.string x,.string ByteArray.empty,Y 0,Y 0,.slice (j_ (w.heap.size+1+1)) 1 1,n_,n_] 226 #[Y d,Y g,.string j,Y i,.slice b f.length c];refine rr_ (iZ x (j_ (w.heap.size+1+1)) (ET.mk d g j i b c f)).g8 s underlying229 ⟨_,rfl,?_,m⟩;refine .mk _ (jj (n:=1) r rfl) (H_ _) (λx v h _=>by injection h with h;injection h with h;omega) ?_ (Gz _ _ _ _) (H_ _) (λ_ _ h _=>by cases h) (λp a=>by cases a) (Gz _ _ _ _) (H_ _) (λ_ _ h _=>by cases h) (λp a=>by cases a);intro p a
 rcases N_.1 a with rfl|a
 .exact q.out.g_ m
 .cases a
def wB:ByteArray:={data:=#[97]}
def vv:ByteArray:={data:=#[98]}
def vM:ByteArray:={data:=#[115]}
def pw:ByteArray:={data:=#[112]}
def m9:ByteArray:={data:=#[113]}
def oT:ByteArray:={data:=#[105]}
def xX:ByteArray:={data:=#[106]}
def xW:ByteArray:={data:=#[107]}
def Cv:ByteArray:={data:=#[110]}
def qt:ByteArray:={data:=#[102]}
def pV:ByteArray:={data:=#[103]}
def hM:List ByteArray:=[wB,vv,vM,pw,m9,oT,xX,xW]
def l_:Array Value:=#[.string {data:=#[97]},.string {data:=#[98]},.string {data:=#[115]},.string {data:=#[112]},.string {data:=#[113]}]
def lW:Calls prog 177 #[] w λe w'=>e=.returned (.slice (j_ w.heap.size) 5 5)/\w'=w.alloc (.cells l_ 9):=by
 go_enter func177,ntmps177
 go_wp2_with fail
 go_ret;exact⟨rfl,rfl⟩
def xz(i:Int)(h0:0<=i)(a:i<5):∃s,s∈hM/\l_[i.toNat]?=some (.string s):=by
 obtain⟨k,rfl⟩:∃k:Nat,i=k:=⟨i.toNat,X⟩
 match k,a with
 |0,_=>exact⟨wB,by simp[hM],rfl⟩
 |1,_=>exact⟨vv,by simp[hM],rfl⟩
 |2,_=>exact⟨vM,by simp[hM],rfl⟩
 |3,_=>exact⟨pw,by simp[hM],rfl⟩
 |4,_=>exact⟨m9,by simp[hM],rfl⟩
def wD(A:OA)(n c:Nat)(zs:List Int)(a:TypeId)(h:Sl w a 1 A n (zs.map (.int .u8)))(l:∀b,0<=zs.getD b 0/\zs.getD b 0<256)(r:n<=c)(j:n<=9223372036854775807):
 Calls prog 12 #[.slice A n c] w λe w'=>∃g,e=.returned (q_ g)/\w.heap.size<=g/\iL w' w'.heap.size g/\J [] w w':=by
 go_enter func12,ntmps12
 go_wp2_with (go_at_call 54;refine(Cw A n c zs a h l r j).mono ?_;rintro e w'⟨g,rfl,i,f,d⟩)
 go_ret;exact⟨g,rfl,i,f,d⟩
