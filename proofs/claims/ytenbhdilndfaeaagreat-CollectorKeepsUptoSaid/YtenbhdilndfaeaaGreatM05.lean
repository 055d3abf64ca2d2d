import Derived.Test.YtenbhdilndfaeaaGreatM04
set_option maxRecDepth 100000
set_option maxHeartbeats 0
set_option linter.all false
namespace Go.Proofs.YtenbhdilndfaeaaGreat
open Go.RowKit Go.Proofs.Tryz
variable{w w':World}{z:Int}{k:Nat}{h:QQ}{e:TypeId}{xs:QW}{M:QY}(base:Nat)(o:Int)
def Mf{G:Prop} (h:G:=by
 exact dD.ih (((F_ [w.heap.size] w2).setCell (.inl H) _).setCell (.inl H) _) (zu hB)):G:=h
def Eu(v:Vl):Prop:= -9<=v.n/\v.n<=11/\(v.r=true->0<=v.n)
structure Fr(h:QQ):Prop where
 size:h.length<=5
 ids:∀o∈h,1<=o.id/\o.id<=100
 fields:∀o∈h,o.fs.length<=3/\∀v∈o.fs,Eu v
 nodup:(h.map Ob.id).Nodup
def yU(b g:Nat)(y:iN w b g)(hB:b<=w.heap.size):
 Calls prog 64 #[q_ g] w λe w'=>∃v:Vl,e=.returned (.agg (V_ v))/\Eu v/\iN w' b g/\J [g] w w':=by
 have I:=y.wx;have n:=y.hF ((F_ [] w).alloc (.cells #[.bool false,Y 0] 38));have p:Bk (w.alloc (.cells #[.bool false,Y 0] 38)) w.heap.size 38 #[.bool false,Y 0]:=P_ w _ _;have m:J [g] w (w.alloc (.cells #[.bool false,Y 0] 38)):=(F_ [g] w).alloc _;go_enter func64,ntmps64;go_wp2_with fail;go_at_call 19;refine(ij b g 2 n X X).mono ?_;rintro e K⟨A,rfl,r,s,x,i⟩;have u:=p.gr i p_;have t:=m.trans i;clear n p m i;by_cases l:A=0
 .subst l;clear r s;go_wp2_with (go_at_call 19;refine(ij b g 7 x X X).mono ?_;rintro e w2⟨d,rfl,C,D,dD,c⟩;have a:=u.gr c p_;have f:=t.trans c;obtain⟨F,E⟩:=a.iA;have B:=a.hG 0;have G:=a.hG 1);have j:=(a.hU 0 (.bool false)).hU 1 (Y (d-2));refine Gu (Hb rfl _ _ _ _ _ _ _ rfl j underlying38 rfl k_) rfl ⟨⟨false,d-2⟩,rfl,⟨by simp only;omega,by simp only;omega,H⟩,?_,(f.setCell (.inr H) _).setCell (.inr H) _⟩;exact Mf
 have l:(A==0)=false:=by simp[l]
 clear r s;go_wp2_with (go_at_call 19;refine(ij b g 12 x X X).mono ?_;rintro e w2⟨d,rfl,C,D,dD,c⟩;have a:=u.gr c p_;have f:=t.trans c;obtain⟨F,E⟩:=a.iA;have B:=a.hG 0;have G:=a.hG 1);have j:=(a.hU 0 (.bool true)).hU 1 (Y (d));refine Gu (Hb rfl _ _ _ _ _ _ _ rfl j underlying38 rfl k_) rfl ⟨⟨true,d⟩,rfl,⟨by simp only;omega,by simp only;omega,λ_=>by simp only;omega⟩,?_,(f.setCell (.inr H) _).setCell (.inr H) _⟩;exact Mf
structure D5(z:Int)(k:Nat)(h:QQ):Prop where
 len:h.length=k
 ids:∀o∈h,1<=o.id/\o.id<=z
 fields:∀o∈h,o.fs.length<=3/\∀v∈o.fs,Eu v
 nodup:(h.map Ob.id).Nodup
def D5.add(b:D5 z k h){y:Int}(hy:z<y)(l:1<=y){fs:QA}(g:fs.length<=3)(i:∀v∈fs,Eu v):D5 y (k+1) (h++[⟨y,fs⟩]):=by
 refine⟨by simp[b.len],?_,?_,?_⟩;intro o a;rcases W_.1 a with a|a
 have:=b.ids o a;omega;have:o=⟨y,fs⟩:=zu a;subst this;simp only;omega;intro o a;rcases W_.1 a with a|a
 exact b.fields o a;have:o=⟨y,fs⟩:=zu a;subst this;exact⟨g,i⟩;rw[Gd,HJ];refine⟨b.nodup,H,?_⟩;intro j d c f m;obtain⟨o,a,rfl⟩:=Ge.1 d;have:c=y:=zu f;have:=b.ids o a;omega
def D5.ok(a:D5 z k h)(b:k<=5)(d:z<=100):Fr h:=
 ⟨by rw[a.len];exact b,λo c=>by have:=a.ids o c;omega,a.fields,a.nodup⟩
def te{base:Nat}{g:Nat}{A:OA}{n c:Nat}(h:w.ownsRow base e g (.slice A n c) n xs){b f:Nat}(d:A=some ⟨b,f,none⟩):base<=b:=by
 subst d;rcases h.2 with⟨a,l⟩|⟨j,p,i,a,m,_⟩
 cases a
 injection a with a;injection a with a;injection a with a _ _;omega
def Bo(m g:Nat)(w:World)(hd:iN w m g)(hB:m<=w.heap.size):
 Calls prog 20 #[.pointer (some ⟨g,0,none⟩)] w λe w'=>∃(A:OA) (c:Nat) (rs:QT),e=.returned (.agg #[.slice A rs.length c])/\rs.length<=c/\Os w' A rs/\l5 w' rs/\Fr (hX rs)/\iN w' m g/\J [g] w w'/\(∀b off,A=some ⟨b,off,none⟩->w.heap.size<=b):=by
 obtain⟨bu,bB,bt,a7,a6⟩:=info_parts infoVl;obtain⟨i1,bT,cj,cn,cr⟩:=info_parts infoOb;have bq:=hd.wx;obtain⟨aT,bW,-⟩:=pZ w 35 #[n_] 35 #[n_];have al:J [g] w ((w.alloc (.cells #[n_] 35)).alloc (.cells #[n_] 35)):=((F_ [g] w).alloc _).alloc _;have a2:=hd.hF (((F_ [] w).alloc (.cells #[n_] 35)).alloc (.cells #[n_] 35));go_enter func20,ntmps20;go_wp2_with fail;go_at_call 19;refine(ij m g 6 a2 X X).mono ?_;rintro e K⟨G,rfl,bC,bJ,cM,C⟩;obtain⟨y,rfl⟩:∃y:Nat,G=y:=⟨G.toNat,X⟩;have bn:=aT.gr C p_;have bN:=bW.gr C p_;have bU:=al.trans C;have aS:w.heap.size+2<=K.heap.size:=by have:=C.size;simp at this;omega
 clear a2 aT bW al C hd;generalize aH:w.heap.size=u at*;have aK:=O aH;clear aH;go_wp2;go_loopw [4,6] (λaR an w'=>∃(k:Nat) (z:Int) (A':OA) (c':Nat) (rs:QT),k<=y/\aR=Y z/\an=Y k/\0<=z/\z<=3*k/\Bk w' u 35 #[n_]/\Bk w' (u+1) 35 #[.slice A' k c']/\w'.ownsRow K.heap.size 56 2 (.slice A' k c') k (iT rs)/\l5 w' rs/\D5 z k (hX rs)/\iN w' m g/\J [g,u+1] K w') (λ_ an _=>y-(intOf an).toNat)
 case atStart=>exact⟨0,0,none,0,[],L_ _,rfl,rfl,X,X,bn,bN,iS _ _ _ _,by intro G r;simp at r,⟨rfl,by simp[hX],by simp[hX],by simp[hX]⟩,cM,F_ _ _⟩
 obtain⟨k,z,N,c1,rs,hk,rfl,rfl,aX,bp,h,ao,V,ap,aA,bZ,cH⟩:=hrel;by_cases aV:k<y
 .have pe:=cH.size;go_wp2_with fail;go_at_call 19;refine(ij m g 3 bZ X X).mono ?_;rintro e L⟨p,rfl,ck,aY,dD,aZ⟩;have aJ:IntKind.i64.wrap (1+p)=1+p:=Gm _ X;have aG:IntKind.i64.wrap (z+(1+p))=z+(1+p):=Gm _ X;have bd:=dD.hF ((F_ [] L).alloc (.cells #[Y (z+(1+p)),n_] 56));have ad:J [g] wr (L.alloc (.cells #[Y (z+(1+p)),n_] 56)):=aZ.alloc _;have Nr:=P_ L 56 #[Y (z+(1+p)),n_];have av:=aZ.size;have C_:g≠L.heap.size:=X;clear dD aZ;go_wp2_with fail;go_at_call 19;refine(ij m g 4 bd X X).mono ?_;rintro e D⟨q,rfl,hq0,hq1,bj,ai⟩;obtain⟨x,rfl⟩:∃x:Nat,q=x:=⟨q.toNat,X⟩;have ag:=Nr.gr ai (zu C_.symm);have aC:=ad.trans ai;have aW:=aC.size;clear bd ad Nr;have aU:=ag.lt;generalize L.heap.size=be at*;have Z:=O (show z<z+(1+p)/\1<=z+(1+p)/\z+(1+p)<=3*k+3 by omega);generalize z+(1+p)=j at*;clear aG aJ ck aY ai;have aD:m<=D.heap.size:=X;go_wp2;obtain⟨au,rfl⟩:∃bf,bf=wr:=⟨wr,rfl⟩;go_loopw [8] (λaB w'=>∃(a:Nat) (d:OA) (f:Nat) (i:QA),a<=x/\aB=Y ((x:Int)-a)/\i.length=a/\(∀v∈i,Eu v)/\Bk w' be 56 #[Y j,.slice d a f]/\w'.ownsRow D.heap.size 38 2 (.slice d a f) a (i5 i)/\iN w' m g/\J [g] au w'/\D.heap.size<=w'.heap.size) (λaB _=>(intOf aB).toNat)
  case atStart=>exact⟨0,none,0,[],L_ _,gn,rfl,H,ag,iS _ _ _ _,bj,aC,H_ _⟩
  obtain⟨a,d,f,i,hj,rfl,b9,aq,bg,M,ay,B,bh⟩:=hrel;have E:=O b9;clear b9;by_cases aM:a<x
  .have aF:=bg.f_ 1;have az:m<=wr.heap.size:=X;have bi:=ay.hF (F_ [] wr).drew;obtain⟨df,P⟩:=ay.bk;go_wp2_with fail
   go_region_law (first|(refine ou rfl (.tmp 30) (.tmp 33) 54 rfl D.heap.size 38 bu 2 16 underlying54 bB bt a7 a6 rfl I I d a f (i5 i) rfl W _ 1 1 rfl bk (mI _) X R ?_;intro Nu cf Q ar n;have U:=n.bk Nv I;have br:=U.hG 1;have ah:=U.f_ 1)|(go_simp;go_at_call 64;refine(yU m g bi az).mono ?_;rintro e S⟨v,rfl,c7,cv,aP⟩;obtain⟨s,t⟩:=v;have T:=(F_ [g] wr).drew.trans aP;have bl:=bg.gr T (zu C_.symm);have ax:=bl.f_ 1;have Nv:=bl.alloc (.cells #[.bool s,Y t] 38);have Nt:=Nv.f_ 1;have W:=iD (j9 M P I T) ((F_ [] S).alloc (.cells #[.bool s,Y t] 38));have bk:=Dg (v:=⟨s,t⟩) (P_ S 38 #[.bool s,Y t]);have R:D.heap.size<=(S.alloc (.cells #[.bool s,Y t] 38)).heap.size:=G_ bh (T.alloc _).size))
   all_goals
    go_wp2;go_roundw
    case rel=>
     have l:=(F_ [be] Q).setCell (p:=⟨be,1,none⟩) (.inl H) (.slice Nu (a+1) cf);have cQ:=(cv.hF ((F_ [] S).alloc (.cells #[.bool s,Y t] 38))).app n aD;have bm:=n.gr [g] au X (B.trans (T.alloc _));refine⟨a+1,Nu,cf,i++[⟨s,t⟩],X,gn,by rw[I_,E.out];rfl,?_,U.hU 1 _,?_,?_,?_,?_⟩;intro v F;rcases W_.1 F with F|F
     exact aq v F;have:v=⟨s,t⟩:=zu F;subst this;exact c7;rw[om];exact j9 ar U I l;exact cQ.ih l p_;exact bm.setCell (.inr p_) _;have F:=G_ R n.size;have h2:=l.size;omega
    case measure=>exact mz
  have cx:a=x:=X;subst cx;obtain⟨df,P⟩:=bZ.bk;have F:=ao.gr B p_;have U:=h.gr B p_;have cN:=j9 V P I B;have aQ:=ap.iq P I B;have o:=F.f_ 0;obtain⟨am,aF⟩:=bg.iA;have aL:=F.alloc (.cells #[Y j,.slice d a f] 56);have W:=iD cN ((F_ [] wr).alloc (.cells #[Y j,.slice d a f] 56));have bk:=BK (fs:=i) (P_ wr 56 #[Y j,.slice d a f]) E.out;have R:K.heap.size<=(wr.alloc (.cells #[Y j,.slice d a f] 56)).heap.size:=p_;go_wp2_with (at_builtin;refine sK _ rfl (.tmp 37) (.tmp 39) 33 rfl K.heap.size 56 i1 _ 2 32 underlying33 bT cj cn cr rfl I I N k c1 (iT rs) rfl W _ 1 1 _ rfl bk (jA _) X R ?_;intro S t Q ar n;have s:=n.bk aL I;have br:=s.hG 0;have ah:=s.f_ 0);go_roundw
  case rel=>
   have l:=(F_ [u+1] Q).setCell (p:=⟨u+1,0,none⟩) (.inl H) (.slice S (k+1) t);have bm:=n.gr _ _ (H_ _) (cH.trans ((B.alloc _).mono H));have cQ:=(ay.hF ((F_ [] wr).alloc (.cells #[Y j,.slice d a f] 56))).app n X;refine⟨k+1,j,S,t,rs++[⟨⟨j,i⟩,d,f⟩],X,rfl,gn,ov Z.out,ov Z.out,?_,s.hU 0 _,?_,?_,?_,?_,bm.setCell (.inl H) _⟩;exact(n.bk (U.alloc _) I).gr l H;rw[ld];exact j9 ar s I l;have T:l5 Q (rs++[⟨⟨j,i⟩,d,f⟩]):=by
    intro G r;rcases W_.1 r with r|r
    have:=aQ.alloc (.cells #[Y j,.slice d a f] 56) G r;exact⟨n.sl this.1 I,this.2⟩;have r:=zu r;subst r;refine⟨n.sl ?_ I,by show i.length<=1000000000;rw[E.out];omega⟩;have:=(Sl.iP M).alloc (.cells #[Y j,.slice d a f] 56);show Sl _ _ _ _ i.length _;rw[E.out];exact this
   exact T.iq s I l;have T:=Z.out;have:hX (rs++[⟨⟨j,i⟩,d,f⟩])=hX rs++[⟨j,i⟩]:=by simp[hX]
   rw[this];exact aA.add T.1 T.2.1 (by rw[E.out];omega) aq;exact cQ.ih l p_
  case measure=>exact mz
 have d:k=y:=X;subst d;have o:=ao.f_ 0;have n:=h.hG 0;have bC:=h.f_ 0;go_wp2;have i:=h.hU 0 (.slice N k c1);have f:=aA.len;have a:=by simpa[hX]using f
 have l:=(F_ [u] wr).setCell (p:=⟨u,0,none⟩) (.inl H) (.slice N k c1);refine Gu (Hb rfl _ _ _ _ _ _ _ rfl i underlying35 rfl k_) rfl ⟨N,c1,rs,by rw[a];rfl,by rw[a];exact iY V,?_,ap.iq h I l,aA.ok X X,bZ.ih l p_,?_,?_⟩;unfold Os;rw[a];exact Sl.iq (Sl.iP V) h I l;exact(bU.hI cH (by rw[aK.out];simp)).setCell (.inr (by rw[aK.out];simp)) _;intro b off j;have:=te V j;rw[aK.out];omega
def infoI64:(prog.info? 2).map (λi=>(i.zero,i.size,i.bytes))=some (some (Y 0),1,8):=by kernel_rfl
def yQ(j g:Nat)(F:iN w j g)(hB:j<=w.heap.size):
 Calls prog 45 #[.pointer (some ⟨g,0,none⟩)] w λe w'=>∃(A:OA) (c:Nat) (l:QR),e=.returned (.agg #[.slice A l.length c])/\l.length<=5/\Ns w' 2 A l/\iN w' j g/\J [g] w w':=by
 obtain⟨bu,bB,bt,a7,a6⟩:=info_parts infoI64;have bq:=F.wx;obtain⟨T,V,-⟩:=pZ w 29 #[n_] 29 #[n_];have L:J [g] w ((w.alloc (.cells #[n_] 29)).alloc (.cells #[n_] 29)):=((F_ [g] w).alloc _).alloc _;have R:=F.hF (((F_ [] w).alloc (.cells #[n_] 29)).alloc (.cells #[n_] 29));go_enter func45,ntmps45;go_wp2_with fail;go_at_call 19;refine(ij j g 6 R X X).mono ?_;rintro e v⟨ad,rfl,bC,bJ,cM,r⟩;obtain⟨x,rfl⟩:∃af:Nat,ad=af:=⟨ad.toNat,X⟩;have bn:=T.gr r p_;have bN:=V.gr r p_;have bU:=L.trans r;have aS:w.heap.size+2<=v.heap.size:=by have:=r.size;simp at this;omega
 clear R T V L r F;generalize S:w.heap.size=n at*;have D:=O S;clear S;go_wp2;go_loopw [4] (λC w'=>∃(a:Nat) (d:OA) (i:Nat) (q:QR),a<=x/\C=Y ((x:Int)-a)/\q.length=a/\Bk w' n 29 #[n_]/\Bk w' (n+1) 29 #[.slice d a i]/\w'.ownsRow v.heap.size 2 1 (.slice d a i) a (q.map (Value.int .i64))/\iN w' j g/\J [g] w w'/\v.heap.size<=w'.heap.size) (λC _=>(intOf C).toNat)
 case atStart=>exact⟨0,none,0,[],L_ _,gn,rfl,bn,bN,iS _ _ _ _,cM,bU,H_ _⟩
 obtain⟨a,d,i,q,hj,rfl,U,h,G,M,E,Z,ag⟩:=hrel;have y:=O U;clear U;by_cases aM:a<x
 .have am:=G.f_ 0;have ai:=E.hF (F_ [] wr).drew;obtain⟨df,aj⟩:=E.bk;go_wp2_with fail
  go_region_law (first|(refine ou rfl (.tmp 12) (.tmp 16) 27 rfl v.heap.size 2 bu 1 8 underlying27 bB bt a7 a6 rfl I I d a i (q.map (Value.int .i64)) rfl ak _ 1 1 rfl al (by intro an hu;simp at hu;subst hu;rfl) X Q ?_;intro N W Nq ar u;have B:=u.bk P I;have br:=B.hG 0;have ah:=B.f_ 0)|(go_simp;go_at_call 19;refine(ij j g 9 ai X X).mono ?_;rintro e m⟨b,rfl,ao,hv1,cv,aP⟩;have bD:IntKind.i64.wrap (b-3)=b-3:=Gm _ X;have t:=(F_ [g] wr).drew.trans aP;have K:=G.gr t p_;have ax:=K.f_ 0;have P:=K.alloc (.cells #[Y (b-3)] 2);have Nt:=P.f_ 0;have ak:=iD (j9 M aj I t) ((F_ [] m).alloc (.cells #[Y (b-3)] 2));have al:Sl (m.alloc (.cells #[Y (b-3)] 2)) 2 1 (some ⟨m.heap.size,0,none⟩) 1 [Y (b-3)]:=kW (s:=1) (P_ m 2 #[Y (b-3)]) rfl;have Q:v.heap.size<=(m.alloc (.cells #[Y (b-3)] 2)).heap.size:=G_ ag (t.alloc _).size))
  all_goals
   go_wp2;go_roundw
   case rel=>
    have f:=(F_ [n+1] Nq).setCell (p:=⟨n+1,0,none⟩) (.inl H) (.slice N (a+1) W);have cQ:=(cv.hF ((F_ [] m).alloc (.cells #[Y (b-3)] 2))).app u X;have ap:=u.gr [g] w (by rw[D.out];omega) (Z.trans (t.alloc _));refine⟨a+1,N,W,q++[b-3],X,gn,by rw[I_,y.out];rfl,(u.bk ((h.gr t p_).alloc _) I).gr f H,B.hU 0 _,?_,?_,?_,?_⟩;rw[Gd];exact j9 ar B I f;exact cQ.ih f p_;exact ap.setCell (.inr (by rw[D.out];simp)) _;have h1:=G_ Q u.size;have h2:=f.size;omega
   case measure=>exact mz
 have m:a=x:=X;subst m;have o:=G.f_ 0;have t:=h.hG 0;have bC:=h.f_ 0;go_wp2;have b:=h.hU 0 (.slice d a i);have f:=(F_ [n] wr).setCell (p:=⟨n,0,none⟩) (.inl H) (.slice d a i);refine Gu (Hb rfl _ _ _ _ _ _ _ rfl b underlying29 rfl k_) rfl ⟨d,i,q,by rw[y.out];rfl,by rw[y.out];omega,?_,E.ih f p_,?_⟩
 .unfold Ns;rw[y.out];exact Sl.iq (Sl.iP M) h I f
 exact Z.setCell (.inr (by rw[D.out];simp)) _
inductive ET where
 |mk (h7 n:Int) (name:ByteArray) (op:Int) (A:OA) (c:Nat) (l:List ET)
abbrev QE:=List ET
def ET.h7:ET->Int| .mk k _ _ _ _ _ _=>k
def ET.n:ET->Int| .mk _ n _ _ _ _ _=>n
def ET.name:ET->ByteArray| .mk _ _ s _ _ _ _=>s
def ET.op:ET->Int| .mk _ _ _ o _ _ _=>o
def ET.A:ET->Option Addr| .mk _ _ _ _ A _ _=>A
def ET.c:ET->Nat| .mk _ _ _ _ _ c _=>c
def ET.l:ET->List ET| .mk _ _ _ _ _ _ l=>l
def ET.g_(t:ET):Array Value:=#[Y t.h7,Y t.n,.string t.name,Y t.op,.slice t.A t.l.length t.c]
def ET.E(t:ET):List Value:=[Y t.h7,Y t.n,.string t.name,Y t.op,.slice t.A t.l.length t.c]
abbrev jC(b x:Nat):Prop:=b<=x
def Sl.rV{c:Nat}{A:OA}{n:Nat}(h:Sl w e c A n xs)(d:0<n->∀b f,A=some (Z b f)->b<w.heap.size->w'.heap[b]?=w.heap[b]?):Sl w' e c A n xs:=by
 rcases GR n with a|a
 exact⟨h.1,λg=>by omega⟩;exact h.iy (d a)
def Sl.lt{i:Nat}{x g n:Nat}(h:Sl w e i (some (Z x g)) n xs)(f:0<n):x<w.heap.size:=by
 obtain⟨j,o,l,m,a,b,_⟩:=h.2 f;injection a with a;injection a with a;subst a;rcases Ga x w.heap.size with c|d
 exact c;rw[F8 d]at b;cases b
inductive kw(p:Nat->Prop)(w:World):ET->Prop
 |mk (t:ET) (h:Sl w 226 5 t.A t.l.length (t.l.flatMap ET.E)) (hc:t.l.length<=t.c) (hb:∀x off,t.A=some (Z x off)->0<t.l.length->p x) (hl:∀u∈t.l,kw p w u):kw p w t
def kw.hF{p:Nat->Prop}{t:ET}(h:kw p w t)(d:J [] w w'):kw p w' t:=by
 induction h with
 |mk t h c b _ a=>exact .mk t (h.hF d) c b a
def kw.ih{p:Nat->Prop}{t:ET}(h:kw p w t)(f:J M w w')(z:∀x∈M,¬p x):kw p w' t:=by
 induction h with
 |mk t h d a _ b=>exact .mk t (h.rV λi x l c j=>f.block x j (λg=>z x g (a x l c i))) d a b
def kw.imp{p q:Nat->Prop}{t:ET}(h:kw p w t)(c:∀x,p x->q x):kw q w t:=by
 induction h with
 |mk t h f d _ a=>exact .mk t h f (λx i b g=>c x (d x i b g)) a
def kw.lt{p:Nat->Prop}{t:ET}(h:kw p w t):kw (λx=>p x/\x<w.heap.size) w t:=by
 induction h with
 |mk t h f d _ c=>exact .mk t h f (λx g a b=>⟨d x g a b,(by rw[a]at h;exact h.lt b)⟩) c
def kw.le{b c:Nat}{t:ET}(h:kw (jC c) w t)(a:b<=c):kw (jC b) w t:=h.imp λ_ d=>G_ a d
inductive ST where
 |mk (h7:Int) (name fn:ByteArray) (n op:Int) (AE:OA) (cE:Nat) (es:QE) (AB:OA) (cB:Nat) (bs:List ST) (AL:OA) (cL:Nat) (ls:List ST)
abbrev QV:=List ST
def ST.h7:ST->Int| .mk k _ _ _ _ _ _ _ _ _ _ _ _ _=>k
def ST.name:ST->ByteArray| .mk _ s _ _ _ _ _ _ _ _ _ _ _ _=>s
def ST.fn:ST->ByteArray| .mk _ _ s _ _ _ _ _ _ _ _ _ _ _=>s
def ST.n:ST->Int| .mk _ _ _ n _ _ _ _ _ _ _ _ _ _=>n
def ST.op:ST->Int| .mk _ _ _ _ o _ _ _ _ _ _ _ _ _=>o
def ST.AE:ST->Option Addr| .mk _ _ _ _ _ A _ _ _ _ _ _ _ _=>A
def ST.cE:ST->Nat| .mk _ _ _ _ _ _ c _ _ _ _ _ _ _=>c
def ST.es:ST->List ET| .mk _ _ _ _ _ _ _ l _ _ _ _ _ _=>l
def ST.AB:ST->Option Addr| .mk _ _ _ _ _ _ _ _ A _ _ _ _ _=>A
def ST.cB:ST->Nat| .mk _ _ _ _ _ _ _ _ _ c _ _ _ _=>c
def ST.bs:ST->List ST| .mk _ _ _ _ _ _ _ _ _ _ l _ _ _=>l
def ST.AL:ST->Option Addr| .mk _ _ _ _ _ _ _ _ _ _ _ A _ _=>A
def ST.cL:ST->Nat| .mk _ _ _ _ _ _ _ _ _ _ _ _ c _=>c
def ST.ls:ST->List ST| .mk _ _ _ _ _ _ _ _ _ _ _ _ _ l=>l
def ST.E(t:ST):List Value:=[Y t.h7,.string t.name,.string t.fn,Y t.n,Y t.op,.slice t.AE t.es.length t.cE,.slice t.AB t.bs.length t.cB,.slice t.AL t.ls.length t.cL]
def ST.g_(t:ST):Array Value:=#[Y t.h7,.string t.name,.string t.fn,Y t.n,Y t.op,.slice t.AE t.es.length t.cE,.slice t.AB t.bs.length t.cB,.slice t.AL t.ls.length t.cL]
inductive jL(p:Nat->Prop)(w:World):ST->Prop
 |mk (t:ST) (he:Sl w 226 5 t.AE t.es.length (t.es.flatMap ET.E)) (hce:t.es.length<=t.cE) (hbe:∀x off,t.AE=some (Z x off)->0<t.es.length->p x) (hes:∀u∈t.es,kw p w u)
   (hb:Sl w 229 8 t.AB t.bs.length (t.bs.flatMap ST.E)) (hcb:t.bs.length<=t.cB) (tF:∀x off,t.AB=some (Z x off)->0<t.bs.length->p x) (hbs:∀u∈t.bs,jL p w u)
   (hl:Sl w 229 8 t.AL t.ls.length (t.ls.flatMap ST.E)) (hcl:t.ls.length<=t.cL) (hbl:∀x off,t.AL=some (Z x off)->0<t.ls.length->p x) (hls:∀u∈t.ls,jL p w u):jL p w t
def jL.hF{p:Nat->Prop}{t:ST}(h:jL p w t)(a:J [] w w'):jL p w' t:=by
 induction h with
 |mk t l i d m c g r _ n j f _ b e=>exact .mk t (l.hF a) i d (λs q=>(m s q).hF a) (c.hF a) g r b (n.hF a) j f e
def jL.ih{p:Nat->Prop}{t:ST}(h:jL p w t)(g:J M w w')(z:∀x∈M,¬p x):jL p w' t:=by
 induction h with
 |mk t u r i v n q l _ y s j _ m e=>
  exact .mk t (u.rV λc x f a d=>g.block x d (λb=>z x b (i x f a c))) r i (λB A=>(v B A).ih g z)
   (n.rV λc x f a d=>g.block x d (λb=>z x b (l x f a c))) q l m
   (y.rV λc x f a d=>g.block x d (λb=>z x b (j x f a c))) s j e
def jL.imp{p q:Nat->Prop}{t:ST}(h:jL p w t)(c:∀x,p x->q x):jL q w t:=by
 induction h with
 |mk t r m i s g l y _ u n j _ f e=>
  exact .mk t r m (λx d a b=>c x (i x d a b)) (λA v=>(s A v).imp c) g l (λx d a b=>c x (y x d a b)) f u n (λx d a b=>c x (j x d a b)) e
def jL.lt{p:Nat->Prop}{t:ST}(h:jL p w t):jL (λx=>p x/\x<w.heap.size) w t:=by
 induction h with
 |mk t f n j r d m u _ g q l _ i e=>
  exact .mk t f n (λx c a b=>⟨j x c a b,(by rw[a]at f;exact f.lt b)⟩) (λv s=>(r v s).lt) d m (λx c a b=>⟨u x c a b,(by rw[a]at d;exact d.lt b)⟩) i g q (λx c a b=>⟨l x c a b,(by rw[a]at g;exact g.lt b)⟩) e
def jL.le{b c:Nat}{t:ST}(h:jL (jC c) w t)(a:b<=c):jL (jC b) w t:=h.imp λ_ d=>G_ a d
def jx(n:Int):ET:=.mk 1 n ByteArray.empty 0 none 0 []
def jy(s:ByteArray):ET:=.mk 3 0 s 0 none 0 []
def eNew(n:Int):ET:=.mk 6 n ByteArray.empty 0 none 0 []
def kw.leaf(p:Nat->Prop)(w:World)(k n:Int)(s:ByteArray)(o:Int):kw p w (.mk k n s o none 0 []):=.mk _ (GU _ _ _ _) (H_ _) (λ_ _ h _=>by cases h) (λb a=>by cases a)
def kf(n:Int):Calls prog 144 #[Y n] w λe w'=>e=.returned (.agg (jx n).g_)/\J [] w w':=by
 go_enter func144,ntmps144;go_wp2_with fail;exact rr_ (jx n).g_ (P_ w 226 _) underlying226 ⟨rfl,(F_ [] w).alloc _⟩
def ki(s:ByteArray):Calls prog 145 #[.string s] w λe w'=>e=.returned (.agg (jy s).g_)/\J [] w w':=by
 go_enter func145,ntmps145;go_wp2_with fail;exact rr_ (jy s).g_ (P_ w 226 _) underlying226 ⟨rfl,(F_ [] w).alloc _⟩
def p5(o:Int)(A:OA)(a b:ET):ET:=.mk 5 0 ByteArray.empty o A 2 [a,b]
def jh{g:Nat}{t:TypeId}{cs:Array Value}{s n:Nat}(h:Bk w g t cs)(a:cs.size=n*s):Sl w t s (j_ g) n cs.toList:=
 ⟨by simpa using a,λ_=>⟨g,0,cs,_,rfl,h,λc d b=>by simpa using b⟩⟩
def oG(d b:ET)(E:base<=w.heap.size)(x:kw (jC base) w d)(y:kw (jC base) w b):Calls prog 143 #[Y o,.agg d.g_,.agg b.g_] w λe w'=>∃A,e=.returned (.agg (p5 o A d b).g_)/\kw (jC base) w' (p5 o A d b)/\J [] w w':=by
 obtain⟨j,s,u,c,a,c1,q⟩:=d;obtain⟨l,t,f,m,i,g,r⟩:=b;have C:=O x;have HB:=O y;clear x y;rw[show(ET.mk j s u c a c1 q).g_=#[Y j,Y s,.string u,Y c,.slice a q.length c1] from rfl,show(ET.mk l t f m i g r).g_=#[Y l,Y t,.string f,Y m,.slice i r.length g] from rfl];go_enter func143,ntmps143;go_wp2_with fail;obtain⟨-,-,D,B,v⟩:=Df w 226 #[Y j,Y s,.string u,Y c,.slice a q.length c1] 226 #[Y l,Y t,.string f,Y m,.slice i r.length g] 226 #[Y 5,Y 0,.string ByteArray.empty,Y o,.slice (j_ (w.heap.size+1+1+1)) 2 2] 226 #[Y j,Y s,.string u,Y c,.slice a q.length c1,Y l,Y t,.string f,Y m,.slice i r.length g];refine rr_ (p5 o (j_ (w.heap.size+1+1+1)) (ET.mk j s u c a c1 q) (ET.mk l t f m i g r)).g_ D underlying226 ⟨_,rfl,?_,v⟩;refine .mk _ (jh (n:=2) B rfl) (H_ _) (λH F h _=>by injection h with h;injection h with h;omega) ?_;intro G p;rcases O_.1 p with rfl|p
 exact C.out.hF v;rcases O_.1 p with rfl|p
 .exact HB.out.hF v
 cases p
def i3(x:ByteArray)(A:OA)(t:ET):ST:=.mk 1 x ByteArray.empty 0 0 A 1 [t] none 0 [] none 0 []
def kQ(x:ByteArray)(t:ET)(w:World)(s:base<=w.heap.size)(l:kw (jC base) w t):Calls prog 142 #[.string x,.agg t.g_] w λe w'=>∃A,e=.returned (.agg (i3 x A t).g_)/\jL (jC base) w' (i3 x A t)/\J [] w w':=by
 obtain⟨d,g,i,c,b,c1,f⟩:=t;have q:=O l;clear l;rw[show(ET.mk d g i c b c1 f).g_=#[Y d,Y g,.string i,Y c,.slice b f.length c1] from rfl];go_enter func142,ntmps142;go_wp2_with fail;obtain⟨-,r,p,j⟩:=w6 w 226 #[Y d,Y g,.string i,Y c,.slice b f.length c1] 229 #[Y 1,.string x,.string ByteArray.empty,Y 0,Y 0,.slice (j_ (w.heap.size+1+1)) 1 1,n_,n_] 226 #[Y d,Y g,.string i,Y c,.slice b f.length c1];refine rr_ (i3 x (j_ (w.heap.size+1+1)) (ET.mk d g i c b c1 f)).g_ r underlying229 ⟨_,rfl,?_,j⟩;refine .mk _ (jh (n:=1) p rfl) (H_ _) (λx u h _=>by injection h with h;injection h with h;omega) ?_ (GU _ _ _ _) (H_ _) (λ_ _ h _=>by cases h) (λm a=>by cases a) (GU _ _ _ _) (H_ _) (λ_ _ h _=>by cases h) (λm a=>by cases a);intro m a;rcases O_.1 a with rfl|a
 exact q.out.hF j;cases a
def wt:ByteArray:={data:=#[97]}
def vm:ByteArray:={data:=#[98]}
def vI:ByteArray:={data:=#[115]}
def ph:ByteArray:={data:=#[112]}
def nc:ByteArray:={data:=#[113]}
def oL:ByteArray:={data:=#[105]}
def xJ:ByteArray:={data:=#[106]}
def xI:ByteArray:={data:=#[107]}
def Cw:ByteArray:={data:=#[110]}
def p4:ByteArray:={data:=#[102]}
def pD:ByteArray:={data:=#[103]}
def hV:List ByteArray:=[wt,vm,vI,ph,nc,oL,xJ,xI]
def mf:Array Value:=#[.string {data:=#[97]},.string {data:=#[98]},.string {data:=#[115]},.string {data:=#[112]},.string {data:=#[113]}]
def lY:Calls prog 177 #[] w λe w'=>e=.returned (.slice (j_ w.heap.size) 5 5)/\w'=w.alloc (.cells mf 9):=by
 go_enter func177,ntmps177;go_wp2_with fail;go_ret;exact Nn
def xj(i:Int)(h0:0<=i)(a:i<5):∃s,s∈hV/\mf[i.toNat]?=some (.string s):=by
 obtain⟨k,rfl⟩:∃k:Nat,i=k:=⟨i.toNat,X⟩
 match k,a with
 |0,_=>exact⟨wt,by simp[hV],rfl⟩
 |1,_=>exact⟨vm,by simp[hV],rfl⟩
 |2,_=>exact⟨vI,by simp[hV],rfl⟩
 |3,_=>exact⟨ph,by simp[hV],rfl⟩
 |4,_=>exact⟨nc,by simp[hV],rfl⟩
def wv(A:OA)(n c:Nat)(zs:QR)(a:TypeId)(h:Sl w a 1 A n (zs.map (.int .u8)))(l:∀b,0<=zs.getD b 0/\zs.getD b 0<256)(C:n<=c)(j:n<=9223372036854775807):
 Calls prog 12 #[.slice A n c] w λe w'=>∃g,e=.returned (q_ g)/\w.heap.size<=g/\iN w' w'.heap.size g/\J [] w w':=by
 go_enter func12,ntmps12;go_wp2_with (go_at_call 54;refine(Cx A n c zs a h l C j).mono ?_;rintro e w'⟨g,rfl,i,f,d⟩);go_ret;exact⟨g,rfl,i,f,d⟩
