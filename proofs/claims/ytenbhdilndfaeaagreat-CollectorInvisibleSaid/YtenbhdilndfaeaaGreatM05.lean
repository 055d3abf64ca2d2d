import Derived.Test.YtenbhdilndfaeaaGreatM04
set_option maxRecDepth 100000
set_option maxHeartbeats 0
set_option linter.all false
namespace Go.Proofs.YtenbhdilndfaeaaGreat
open Go.RowKit Go.Proofs.Tryz

variable{w w':World}{e:TypeId}{xs:List Value}{M:List Nat}(base:Nat)(o:Int)
def vR{base:Nat}{g:Nat}{A:OA}{n c:Nat}(h:w.ownsRow base e g (.slice A n c) n xs){b f:Nat}(d:A=some ⟨b,f,none⟩):base<=b:=by
 subst d
 rcases h.2 with⟨a,k⟩|⟨j,m,i,a,l,_⟩
 .cases a
 .injection a with a;injection a with a;injection a with a _ _;omega
def infoI64:(prog.info? 2).map (λi=>(i.zero,i.size,i.bytes))=some (some (Y 0),1,8):=by kernel_rfl
def yE(i g:Nat)(D:iQ w i g)(hB:i<=w.heap.size):
 Calls prog 45 #[.pointer (some ⟨g,0,none⟩)] w λe w'=>∃(A:OA) (c:Nat) (l:List Int),e=.returned (.agg #[.slice A l.length c])/\l.length<=5/\Ns w' 2 A l/\iQ w' i g/\I [g] w w':=by
 obtain⟨bJ,bG,bA,a6,be⟩:=info_parts infoI64;have bt:=D.xw;obtain⟨N,P,-⟩:=pZ w 29 #[n_] 29 #[n_];have F:I [g] w ((w.alloc (.cells #[n_] 29)).alloc (.cells #[n_] 29)):=((H [g] w).alloc _).alloc _;have L:=D.hF (((H [] w).alloc (.cells #[n_] 29)).alloc (.cells #[n_] 29))
 go_enter func45,ntmps45
 go_wp2_with fail
 go_at_call 19
 refine(iw i g 6 L X X).mono ?_;rintro e u⟨ae,rfl,bL,bO,cT,n⟩;obtain⟨v,rfl⟩:∃af:Nat,ae=af:=⟨ae.toNat,X⟩;have bz:=N.gr n p_;have bP:=P.gr n p_;have bW:=F.trans n
 have aP:w.heap.size+2<=u.heap.size:=by have:=n.size;simp at this;omega
 clear L N P F n D;generalize K:w.heap.size=k at*;have z:=U K;clear K;go_wp2
 go_loopw [4] (λB w'=>∃(a:Nat) (d:OA) (h:Nat) (m:List Int),a<=v/\B=Y ((v:Int)-a)/\m.length=a/\Bk w' k 29 #[n_]/\Bk w' (k+1) 29 #[.slice d a h]/\w'.ownsRow u.heap.size 2 1 (.slice d a h) a (m.map (Value.int .i64))/\iQ w' i g/\I [g] w w'/\u.heap.size<=w'.heap.size) (λB _=>(intOf B).toNat)
 case atStart=>exact⟨0,none,0,[],N_ _,gn,rfl,bz,bP,iT _ _ _ _,cT,bW,H_ _⟩
 case round=>
  obtain⟨a,d,h,m,hj,rfl,Q,r,C,Z,E,R,ag⟩:=hrel;have y:=U Q;clear Q
  by_cases ah:a<v
  .have aS:=C.f_ 0;have ai:=E.hF (H [] wr).drew;obtain⟨dy,MY⟩:=E.bk
   go_wp2_with fail
   go_region_law (first|(refine pn rfl (.tmp 12) (.tmp 16) 27 rfl u.heap.size 2 bJ 1 8 underlying27 bG bA a6 be rfl O O d a h (m.map (Value.int .i64)) rfl M _ 1 1 rfl aj (by intro ak T;simp at T;subst T;rfl) X G ?_;intro al S MT aI q;have x:=q.bk W O;have bX:=x.hG 0;have MZ:=x.f_ 0)|(go_simp;go_at_call 19;refine(iw i g 9 ai X X).mono ?_;rintro e j⟨b,rfl,am,hv1,cM,aQ⟩;have bQ:IntKind.i64.wrap (b-3)=b-3:=F5 _ X;have t:=(H [g] wr).drew.trans aQ;have V:=C.gr t p_;have an:=V.f_ 0;have W:=V.alloc (.cells #[Y (b-3)] 2);have ao:=W.f_ 0;have M:=iy (kD Z MY O t) ((H [] j).alloc (.cells #[Y (b-3)] 2));have aj:Sl (j.alloc (.cells #[Y (b-3)] 2)) 2 1 (some ⟨j.heap.size,0,none⟩) 1 [Y (b-3)]:=kP (s:=1) (P_ j 2 #[Y (b-3)]) rfl;have G:u.heap.size<=(j.alloc (.cells #[Y (b-3)] 2)).heap.size:=G_ ag (t.alloc _).size))
   all_goals
    go_wp2;go_roundw
    case rel=>
     have f:=(H [k+1] MT).setCell (p:=⟨k+1,0,none⟩) (.inl J) (.slice al (a+1) S);have dz:=(cM.hF ((H [] j).alloc (.cells #[Y (b-3)] 2))).app q X;have ap:=q.gr [g] w (by rw[z.out];omega) (R.trans (t.alloc _));refine⟨a+1,al,S,m++[b-3],X,gn,by rw[J_,y.out];rfl,(q.bk ((r.gr t p_).alloc _) O).gr f J,x.hV 0 _,?_,?_,?_,?_⟩
     .rw[FV];exact kD aI x O f
     .exact dz.ih f p_
     .exact ap.setCell (.inr (by rw[z.out];simp)) _
     .have h1:=G_ G q.size;have h2:=f.size;omega
    case measure=>exact mz
  .have j:a=v:=X;subst j;have o:=C.f_ 0;have q:=r.hG 0;have bL:=r.f_ 0;go_wp2;have b:=r.hV 0 (.slice d a h);have f:=(H [k] wr).setCell (p:=⟨k,0,none⟩) (.inl J) (.slice d a h);refine F6 (G5 rfl _ _ _ _ _ _ _ rfl b underlying29 rfl k_) rfl ⟨d,h,m,by rw[y.out];rfl,by rw[y.out];omega,?_,E.ih f p_,?_⟩
   .unfold Ns;rw[y.out];exact Sl.it (Sl.iR Z) r O f
   .exact R.setCell (.inr (by rw[z.out];simp)) _
inductive ET where
 |mk (h6 n:Int) (name:ByteArray) (op:Int) (A:OA) (c:Nat) (l:List ET)
def ET.h6:ET->Int| .mk k _ _ _ _ _ _=>k
def ET.n:ET->Int| .mk _ n _ _ _ _ _=>n
def ET.name:ET->ByteArray| .mk _ _ s _ _ _ _=>s
def ET.op:ET->Int| .mk _ _ _ o _ _ _=>o
def ET.A:ET->Option Addr| .mk _ _ _ _ A _ _=>A
def ET.c:ET->Nat| .mk _ _ _ _ _ c _=>c
def ET.l:ET->List ET| .mk _ _ _ _ _ _ l=>l
def ET.g_(t:ET):Array Value:=#[Y t.h6,Y t.n,.string t.name,Y t.op,.slice t.A t.l.length t.c]
def ET.E(t:ET):List Value:=[Y t.h6,Y t.n,.string t.name,Y t.op,.slice t.A t.l.length t.c]
abbrev jD(b x:Nat):Prop:=b<=x
def Sl.rT{c:Nat}{A:OA}{n:Nat}(h:Sl w e c A n xs)(d:0<n->∀b f,A=some (Z b f)->b<w.heap.size->w'.heap[b]?=w.heap[b]?):Sl w' e c A n xs:=by
 rcases Gl n with a|a
 .exact⟨h.1,λg=>by omega⟩
 .exact h.iz (d a)
def Sl.lt{i:Nat}{x g n:Nat}(h:Sl w e i (some (Z x g)) n xs)(f:0<n):x<w.heap.size:=by
 obtain⟨j,o,k,l,a,b,_⟩:=h.2 f;injection a with a;injection a with a;subst a
 rcases FW x w.heap.size with c|d
 .exact c
 .rw[Y_ d]at b
  cases b
inductive kq(p:Nat->Prop)(w:World):ET->Prop
 |mk (t:ET) (h:Sl w 226 5 t.A t.l.length (t.l.flatMap ET.E)) (hc:t.l.length<=t.c) (hb:∀x off,t.A=some (Z x off)->0<t.l.length->p x) (hl:∀u∈t.l,kq p w u):kq p w t
def kq.hF{p:Nat->Prop}{t:ET}(h:kq p w t)(d:I [] w w'):kq p w' t:=by
 induction h with
 |mk t h c b _ a=>exact .mk t (h.hF d) c b a
def kq.ih{p:Nat->Prop}{t:ET}(h:kq p w t)(f:I M w w')(l:∀x∈M,¬p x):kq p w' t:=by
 induction h with
 |mk t h d a _ b=>exact .mk t (h.rT λi x k c j=>f.block x j (λg=>l x g (a x k c i))) d a b
def kq.imp{p q:Nat->Prop}{t:ET}(h:kq p w t)(c:∀x,p x->q x):kq q w t:=by
 induction h with
 |mk t h f d _ a=>exact .mk t h f (λx i b g=>c x (d x i b g)) a
def kq.lt{p:Nat->Prop}{t:ET}(h:kq p w t):kq (λx=>p x/\x<w.heap.size) w t:=by
 induction h with
 |mk t h f d _ c=>exact .mk t h f (λx g a b=>⟨d x g a b,(by rw[a]at h;exact h.lt b)⟩) c
def kq.le{b c:Nat}{t:ET}(h:kq (jD c) w t)(a:b<=c):kq (jD b) w t:=h.imp λ_ d=>G_ a d
inductive ST where
 |mk (h6:Int) (name fn:ByteArray) (n op:Int) (AE:OA) (cE:Nat) (es:List ET) (AB:OA) (cB:Nat) (bs:List ST) (AL:OA) (cL:Nat) (ls:List ST)
def ST.h6:ST->Int| .mk k _ _ _ _ _ _ _ _ _ _ _ _ _=>k
def ST.name:ST->ByteArray| .mk _ s _ _ _ _ _ _ _ _ _ _ _ _=>s
def ST.fn:ST->ByteArray| .mk _ _ s _ _ _ _ _ _ _ _ _ _ _=>s
def ST.n:ST->Int| .mk _ _ _ n _ _ _ _ _ _ _ _ _ _=>n
def ST.op:ST->Int| .mk _ _ _ _ o _ _ _ _ _ _ _ _ _=>o
def ST.AE:ST->Option Addr| .mk _ _ _ _ _ A _ _ _ _ _ _ _ _=>A
def ST.cE:ST->Nat| .mk _ _ _ _ _ _ c _ _ _ _ _ _ _=>c
def ST.es:ST->List ET| .mk _ _ _ _ _ _ _ l _ _ _ _ _ _=>l
def ST.AB:ST->Option Addr| .mk _ _ _ _ _ _ _ _ A _ _ _ _ _=>A
def ST.cB:ST->Nat| .mk _ _ _ _ _ _ _ _ _ c _ _ _ _=>c
def ST.bs:ST->List ST| .mk _ _ _ _ _ _ _ _ _ _ l _ _ _=>l
def ST.AL:ST->Option Addr| .mk _ _ _ _ _ _ _ _ _ _ _ A _ _=>A
def ST.cL:ST->Nat| .mk _ _ _ _ _ _ _ _ _ _ _ _ c _=>c
def ST.ls:ST->List ST| .mk _ _ _ _ _ _ _ _ _ _ _ _ _ l=>l
def ST.E(t:ST):List Value:=[Y t.h6,.string t.name,.string t.fn,Y t.n,Y t.op,.slice t.AE t.es.length t.cE,.slice t.AB t.bs.length t.cB,.slice t.AL t.ls.length t.cL]
def ST.g_(t:ST):Array Value:=#[Y t.h6,.string t.name,.string t.fn,Y t.n,Y t.op,.slice t.AE t.es.length t.cE,.slice t.AB t.bs.length t.cB,.slice t.AL t.ls.length t.cL]
inductive jL(p:Nat->Prop)(w:World):ST->Prop
 |mk (t:ST) (he:Sl w 226 5 t.AE t.es.length (t.es.flatMap ET.E)) (hce:t.es.length<=t.cE) (hbe:∀x off,t.AE=some (Z x off)->0<t.es.length->p x) (hes:∀u∈t.es,kq p w u)
   (hb:Sl w 229 8 t.AB t.bs.length (t.bs.flatMap ST.E)) (hcb:t.bs.length<=t.cB) (tw:∀x off,t.AB=some (Z x off)->0<t.bs.length->p x) (hbs:∀u∈t.bs,jL p w u)
   (hl:Sl w 229 8 t.AL t.ls.length (t.ls.flatMap ST.E)) (hcl:t.ls.length<=t.cL) (hbl:∀x off,t.AL=some (Z x off)->0<t.ls.length->p x) (hls:∀u∈t.ls,jL p w u):jL p w t
def jL.hF{p:Nat->Prop}{t:ST}(h:jL p w t)(a:I [] w w'):jL p w' t:=by
 induction h with
 |mk t k i d l c g q _ m j f _ b e=>exact .mk t (k.hF a) i d (λr n=>(l r n).hF a) (c.hF a) g q b (m.hF a) j f e
def jL.ih{p:Nat->Prop}{t:ST}(h:jL p w t)(g:I M w w')(i:∀x∈M,¬p x):jL p w' t:=by
 induction h with
 |mk t u r j v n q l _ y s k _ m e=>
  exact .mk t (u.rT λc x f a d=>g.block x d (λb=>i x b (j x f a c))) r j (λA z=>(v A z).ih g i)
   (n.rT λc x f a d=>g.block x d (λb=>i x b (l x f a c))) q l m
   (y.rT λc x f a d=>g.block x d (λb=>i x b (k x f a c))) s k e
def jL.imp{p q:Nat->Prop}{t:ST}(h:jL p w t)(c:∀x,p x->q x):jL q w t:=by
 induction h with
 |mk t n l i r g k v _ s m j _ f e=>
  exact .mk t n l (λx d a b=>c x (i x d a b)) (λy u=>(r y u).imp c) g k (λx d a b=>c x (v x d a b)) f s m (λx d a b=>c x (j x d a b)) e
def jL.lt{p:Nat->Prop}{t:ST}(h:jL p w t):jL (λx=>p x/\x<w.heap.size) w t:=by
 induction h with
 |mk t f m j q d l s _ g n k _ i e=>
  exact .mk t f m (λx c a b=>⟨j x c a b,(by rw[a]at f;exact f.lt b)⟩) (λu r=>(q u r).lt) d l (λx c a b=>⟨s x c a b,(by rw[a]at d;exact d.lt b)⟩) i g n (λx c a b=>⟨k x c a b,(by rw[a]at g;exact g.lt b)⟩) e
def jL.le{b c:Nat}{t:ST}(h:jL (jD c) w t)(a:b<=c):jL (jD b) w t:=h.imp λ_ d=>G_ a d
def jz(n:Int):ET:=.mk 1 n ByteArray.empty 0 none 0 []
def jA(s:ByteArray):ET:=.mk 3 0 s 0 none 0 []
def eNew(n:Int):ET:=.mk 6 n ByteArray.empty 0 none 0 []
def kq.leaf(p:Nat->Prop)(w:World)(k n:Int)(s:ByteArray)(o:Int):kq p w (.mk k n s o none 0 []):=.mk _ (Gw _ _ _ _) (H_ _) (λ_ _ a _=>by cases a) (λc b=>by cases b)
def kb(n:Int):Calls prog 144 #[Y n] w λe w'=>e=.returned (.agg (jz n).g_)/\I [] w w':=by
 go_enter func144,ntmps144
 go_wp2_with fail
 exact rr_ (jz n).g_ (P_ w 226 _) underlying226 ⟨rfl,(H [] w).alloc _⟩
def ke(s:ByteArray):Calls prog 145 #[.string s] w λe w'=>e=.returned (.agg (jA s).g_)/\I [] w w':=by
 go_enter func145,ntmps145
 go_wp2_with fail
 exact rr_ (jA s).g_ (P_ w 226 _) underlying226 ⟨rfl,(H [] w).alloc _⟩
def pY(o:Int)(A:OA)(a b:ET):ET:=.mk 5 0 ByteArray.empty o A 2 [a,b]
def jj{g:Nat}{t:TypeId}{cs:Array Value}{s n:Nat}(h:Bk w g t cs)(a:cs.size=n*s):Sl w t s (j_ g) n cs.toList:=
 ⟨by simpa using a,λ_=>⟨g,0,cs,_,rfl,h,λc d b=>by simpa using b⟩⟩
def oF(c b:ET)(D:base<=w.heap.size)(x:kq (jD base) w c)(y:kq (jD base) w b):Calls prog 143 #[Y o,.agg c.g_,.agg b.g_] w λe w'=>∃A,e=.returned (.agg (pY o A c b).g_)/\kq (jD base) w' (pY o A c b)/\I [] w w':=by
 obtain⟨j,r,t,i,a,k,p⟩:=c;obtain⟨d,s,h,l,g,f,q⟩:=b;have z:=U x;have B:=U y;clear x y;rw[show(ET.mk j r t i a k p).g_=#[Y j,Y r,.string t,Y i,.slice a p.length k] from rfl,show(ET.mk d s h l g f q).g_=#[Y d,Y s,.string h,Y l,.slice g q.length f] from rfl]
 go_enter func143,ntmps143
 go_wp2_with fail
 obtain⟨-,-,C,M,v⟩:=Da w 226 #[Y j,Y r,.string t,Y i,.slice a p.length k] 226 #[Y d,Y s,.string h,Y l,.slice g q.length f] 226 #[Y 5,Y 0,.string ByteArray.empty,Y o,.slice (j_ (w.heap.size+1+1+1)) 2 2] 226 #[Y j,Y r,.string t,Y i,.slice a p.length k,Y d,Y s,.string h,Y l,.slice g q.length f];refine rr_ (pY o (j_ (w.heap.size+1+1+1)) (ET.mk j r t i a k p) (ET.mk d s h l g f q)).g_ C underlying226 ⟨_,rfl,?_,v⟩;refine .mk _ (jj (n:=2) M rfl) (H_ _) (λG E u _=>by injection u with u;injection u with u;omega) ?_;intro F m
 rcases M_.1 m with rfl|m
 .exact z.out.hF v
 .rcases M_.1 m with rfl|m
  .exact B.out.hF v
  .cases m
def i4(x:ByteArray)(A:OA)(t:ET):ST:=.mk 1 x ByteArray.empty 0 0 A 1 [t] none 0 [] none 0 []
def kJ(x:ByteArray)(t:ET)(w:World)(r:base<=w.heap.size)(l:kq (jD base) w t):Calls prog 142 #[.string x,.agg t.g_] w λe w'=>∃A,e=.returned (.agg (i4 x A t).g_)/\jL (jD base) w' (i4 x A t)/\I [] w w':=by
 obtain⟨f,i,j,d,c,g,h⟩:=t;have p:=U l;clear l;rw[show(ET.mk f i j d c g h).g_=#[Y f,Y i,.string j,Y d,.slice c h.length g] from rfl]
 go_enter func142,ntmps142
 go_wp2_with fail
 obtain⟨-,q,M,k⟩:=wI w 226 #[Y f,Y i,.string j,Y d,.slice c h.length g] 229 #[Y 1,.string x,.string ByteArray.empty,Y 0,Y 0,.slice (j_ (w.heap.size+1+1)) 1 1,n_,n_] 226 #[Y f,Y i,.string j,Y d,.slice c h.length g];refine rr_ (i4 x (j_ (w.heap.size+1+1)) (ET.mk f i j d c g h)).g_ q underlying229 ⟨_,rfl,?_,k⟩;refine .mk _ (jj (n:=1) M rfl) (H_ _) (λx s a _=>by injection a with a;injection a with a;omega) ?_ (Gw _ _ _ _) (H_ _) (λ_ _ a _=>by cases a) (λm b=>by cases b) (Gw _ _ _ _) (H_ _) (λ_ _ a _=>by cases a) (λm b=>by cases b);intro m b
 rcases M_.1 b with rfl|b
 .exact p.out.hF k
 .cases b
def vU:ByteArray:={data:=#[97]}
def u0:ByteArray:={data:=#[98]}
def vi:ByteArray:={data:=#[115]}
def pa:ByteArray:={data:=#[112]}
def m6:ByteArray:={data:=#[113]}
def oL:ByteArray:={data:=#[105]}
def xt:ByteArray:={data:=#[106]}
def xq:ByteArray:={data:=#[107]}
def Cw:ByteArray:={data:=#[110]}
def pX:ByteArray:={data:=#[102]}
def pz:ByteArray:={data:=#[103]}
def hU:List ByteArray:=[vU,u0,vi,pa,m6,oL,xt,xq]
def l7:Array Value:=#[.string {data:=#[97]},.string {data:=#[98]},.string {data:=#[115]},.string {data:=#[112]},.string {data:=#[113]}]
def lT:Calls prog 177 #[] w λe w'=>e=.returned (.slice (j_ w.heap.size) 5 5)/\w'=w.alloc (.cells l7 9):=by
 go_enter func177,ntmps177
 go_wp2_with fail
 go_ret;exact MP
def wU(i:Int)(h0:0<=i)(b:i<5):∃s,s∈hU/\l7[i.toNat]?=some (.string s):=by
 obtain⟨a,rfl⟩:∃a:Nat,i=a:=⟨i.toNat,X⟩
 match a,b with
 |0,_=>exact⟨vU,by simp[hU],rfl⟩
 |1,_=>exact⟨u0,by simp[hU],rfl⟩
 |2,_=>exact⟨vi,by simp[hU],rfl⟩
 |3,_=>exact⟨pa,by simp[hU],rfl⟩
 |4,_=>exact⟨m6,by simp[hU],rfl⟩
def vW(A:OA)(n c:Nat)(zs:List Int)(a:TypeId)(h:Sl w a 1 A n (zs.map (.int .u8)))(l:∀b,0<=zs.getD b 0/\zs.getD b 0<256)(f:n<=c)(k:n<=9223372036854775807):
 Calls prog 12 #[.slice A n c] w λe w'=>∃g,e=.returned (q_ g)/\w.heap.size<=g/\iQ w' w'.heap.size g/\I [] w w':=by
 go_enter func12,ntmps12
 go_wp2_with (go_at_call 54;refine(Cx A n c zs a h l f k).mono ?_;rintro e w'⟨g,rfl,j,i,d⟩)
 go_ret;exact⟨g,rfl,j,i,d⟩
