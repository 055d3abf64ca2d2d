import Derived.Test.YtenbhdilndfaeaaGreatR17
set_option maxRecDepth 100000
set_option maxHeartbeats 0
set_option linter.all false
namespace Go.Proofs.YtenbhdilndfaeaaGreat
open Go.RowKit Go.Proofs.Tryz
variable{G:Prop}{n o:Int}{s:ByteArray}{base m:Nat}{V l:List ByteArray}{T:List TypeId}{B:Bool}{q:Nat->Prop}{w':World}{PA:OA}(d:Nat)
def Ir(h:G:=by
 have bG:=O (aV nb PA pc fs VA vc vs t.AB _ t.cB t.bs p wc X rfl hb ck.out (by rw[d.out];exact MR) (Sl.g_ cT.out MS) (g.out.g_ MS) (Sl.g_ p3 bo) (λu hu=>(aZ u hu).g_ bo));rw[d.out]at bG
 go_wp2_with fail
 go_at_call 172
 refine bG.out.mono ?_;rintro e T⟨rfl,af⟩;have x:=bo.trans af;have b9:=MS.trans af;have bC:T.cell? (Z gx 0)=some (.slice PA 3 pc):=(MT.g_ b9).f_ 0;have av:=K.g_ af;clear MN ai aB aS aX bB z y b4;obtain⟨MN,ai,aB,aS,aX,bB,z,y⟩:=av.i0;have l:=O (aV nl PA pc fs VA vc vs t.AL _ t.cL t.ls p T X rfl hl ck.out (by rw[d.out];exact MR) (Sl.g_ cT.out b9) (g.out.g_ b9) (Sl.g_ cz x) (λu hu=>(M u hu).g_ x));rw[d.out]at l
 go_wp2_with fail
 go_at_call 172
 refine l.out.mono ?_;rintro e ad⟨rfl,ak⟩;go_wp2;go_roundw
 case rel=>
  have aC:=ar.out;have aw:=q.out;have bE:=h.out;exact⟨k+1,a+G,b2,X,gn,X,bz.out,b9.trans ak⟩
 case measure=>exact mz):G:=h
def IN(h:G:=by
 clear hf
 go_upto_region 18 with(go_at_call 170;refine ae.out.mono ?_;rintro e ah⟨rfl,S⟩)
 obtain⟨bU,off,A1,c1,aD,am,o,f1,bW⟩:=((g.out.g_ hg1).g_ S).qq;have bA:ah.cell? (Z gx 0)=some (.slice PA 3 pc):=(MT.g_ (hg1.trans S)).f_ 0;have bu:=(aq.g_ S).i0.2.2.2.2.2.1;rw[ap.out]at bu;rw[o]at bA;clear MN ai aB aS aX bB z y b4 o
 go_quiet (fail)
 go_wp2;go_meet;exact S.trans ((H [] _).drewN _)):G:=h
def Lp(h:G:=by
 have h3:(i+1:Int)*nb d<=m*nb d:=He X (ov j.out);rw[Int.add_mul,Int.one_mul]at h3;omega):G:=h
def LA(h:G:=by
 have h1:=bA.out;have h2:=r.out;have h3:(i:Int)*nb d<=m*nb d:=He X (ov j.out);omega):G:=h
def LO(h:G:=by
 go_wp2
 go_quiet (fail)
 go_wp2;go_meet;exact⟨rfl,rfl,rfl,(H [] _).drewN _⟩):G:=h
def nb:Nat->Int|0=>1|d+1=>1+2*nb d
def xY:1<=nb d:=by induction d with|zero=>decide|succ d a=>unfold nb;omega
def Ep(d:Nat)(w:World)(e:Ending)(w':World):Prop:=∃N:Int,1<=N/\N<=nb d/\e=.returned (Y N)/\J [] w w'
def Fa(d:Nat)(p:Nat->Prop)(t:ET):Prop:=∀(left:Int) (w:World),nb d<=left->left<=16->kl p w t->Calls prog 223 #[.agg t.g8,Y left] w (Ep d w)
inductive Kd:Int->Int->ByteArray->Int->Nat->Prop
 |num (n:Int):Kd 1 n i4 0 0
 |var (s:ByteArray) (h:mv s):Kd 3 0 s 0 0
 |new (n:Int) (h0:0<=n) (h1:n<=3):Kd 6 n i4 0 0
 |field (n:Int) (h0:0<=n) (h1:n<=2):Kd 4 n i4 0 1
 |bin (o:Int) (h0:1<=o) (h1:o<=11):Kd 5 0 i4 o 2
def Kd.Fx{k:Int}(h:Kd k n s o m):m<=2:=by cases h<;>omega
def yG:i4.toList=[]:=by rw[Hh];rfl
def tO(p:Nat->Prop)(k n:Int)(s:ByteArray)(o:Int)(A:OA)(c:Nat)(l:List ET)(E:Int)(hD:E<=7)(F:Kd k n s o l.length)(hl:∀u∈l,Fa d p u)(left:Int)(w:World)(N:1+l.length*nb d<=left)(P:left<=16)(W:1+l.length*nb d<=E)(R:kl p w (.mk k n s o A c l)):
 Calls prog 223 #[.agg (ET.mk k n s o A c l).g8,Y left] w λe w'=>∃a:Int,1<=a/\a<=E/\e=.returned (Y a)/\J [] w w':=by
 refine ig λad aI=>?_
 have Z:=xY d;have cG:l.length<=2:=F.Fx
 have K:Sl w 226 5 A l.length (l.flatMap ET.E):=by cases R with|mk ae Q _ _ _=>exact Q
 have q:∀u∈l,kl p w u:=by cases R with|mk ae _ _ _ Q=>exact Q
 have T:1<=left:=ov (Int.mul_nonneg (show(0:Int)<=l.length by omega) (show(0:Int)<=nb d by omega));obtain⟨m,D⟩:=mn_ l.length;obtain⟨af,ak,be,hg,f,b⟩:=box1 w 226 (ET.mk k n s o A c l).g8
 replace b:Bk af ak 226 #[Y k,Y n,.string s,Y o,.slice A m c]:=by rw[<-D];exact b
 rw[D]at F cG K N W;obtain⟨h,y,t,v,x⟩:=b.cells5;have ap:=O D;have b3:=O (K.g_ f);clear D K R;have hq1:¬left<1:=X
 go_enter func223,ntmps223
 go_upto_region 2 with(go_at_call 180;refine(ri o).mono ?_;rintro e w1⟨⟨s1,rfl⟩,z⟩)
 replace b:=b.g_ z;replace f:=f.trans z;have B:=O (b3.out.g_ z);clear b3 z h y t v x;obtain⟨h,y,t,v,x⟩:=b.cells5;have G:=yG
 go_upto_block 0 with fail
 go_cut [7,8,9] (λI al c a6=>I=.bool true/\al=Y m/\c=.bool true/\J [] w1 a6)
 case first=>
  rcases F with⟨_⟩|⟨_,L⟩|⟨_,C,h1⟩|⟨_,C,h1⟩|⟨_,C,h1⟩
  .go_wp2;go_meet;exact⟨rfl,rfl,rfl,H _ _⟩
  .go_wp2_with (go_at_call 197;refine(nK L).mono ?_;rintro e w2⟨rfl,g⟩;replace b:=b.g_ g;clear h y t v x;obtain⟨h,y,t,v,x⟩:=b.cells5)
   go_meet;exact⟨rfl,rfl,rfl,g⟩
  .have h2:n<=16:=X;exact LO
  .have h2:n<16:=X;exact LO
  .have M:pW o=true:=by simp[pW];omega
   go_wp2;go_meet;exact⟨rfl,rfl,rfl,H _ _⟩
 case rest=>
  obtain⟨rfl,rfl,rfl,g⟩:=hcut;replace b:=b.g_ g;replace f:=f.trans g;have an:=O (B.out.g_ g);clear B g h y t v x G;obtain⟨h,y,t,v,x⟩:=b.cells5;have ao:=O N;have r:=O W;have j:=O Z;clear N W Z
  go_upto_region 22 with fail
  have ah:J [] wc wc:=H _ _
  go_loopw [10,118] (λI L w'=>∃(k:Nat) (a:Int),k<=m/\L=Y k/\I=Y a/\1<=a/\a<=1+k*nb d/\J [] wc w') (λ_ L _=>m-(intOf L).toNat)
  case atStart=>exact⟨0,1,X,gn,rfl,X,s_,ah⟩
  case round=>
   obtain⟨i,a,hi,rfl,rfl,aq,ar,C⟩:=hrel;have bA:=O ar;clear ar;have MP:a<=7:=LA
   by_cases aj:i<m
   .have M:i<l.length:=ov ap.out;obtain⟨al,off,av,ax,c1,am,aO,c4⟩:=ET.at_ (by rw[ap.out];exact an.out.g_ C) M;have U:=hl l[i] (M_ M);have S:=(q _ (M_ M)).g_ f |>.g_ C;subst av;generalize l[i]=u at ax c1 am aO c4 U S;obtain⟨aw,a2,bZ,z,ag,au⟩:=box1 wr 226 #[Y u.hS,Y u.n,.string u.name,Y u.op,.slice u.A u.l.length u.c];obtain⟨z0,aR,aU,z3,z4⟩:=au.cells5
    have ay:nb d<=left-a:=by
     have h1:=bA.out;have h2:=ao.out;exact Lp
    have aY:=O (U (left-a) aw ay X (S.g_ ag));clear U S ay
    go_wp2_with fail
    refine aY.out.mono ?_;rintro e w2⟨az,aA,b8,rfl,aC⟩;have bL:=O b8
    have cn:a+az<=7:=by
     have h1:=bA.out;have h2:=r.out;exact Lp
    clear b8;go_wp2;go_roundw
    case rel=>
     refine⟨i+1,a+az,X,gn,rfl,X,?_,(C.trans ag).trans aC⟩;have h1:=bA.out;have h2:=bL.out
     have h3:((i+1:Nat):Int)*nb d=i*nb d+nb d:=by rw[show((i+1:Nat):Int)=(i:Int)+1 by omega,Int.add_mul,Int.one_mul]
     omega
    case measure=>exact mz
   .go_wp2;rw[aI.out];refine⟨a,aq,?_,rfl,f.trans C⟩;exact LA
def zD(r:∀s∈V,mv s)(p:Nat->Prop)(d:Nat)(t:ET)(h:EG V d t)(a:d<=2):Fa d p t:=by
 have v:∀d,d<=2->nb d<=7:=by
  intro d a
  rcases(by omega:d=0∨d=1∨d=2)with rfl|rfl|rfl<;>decide
 have g:∀(d:Nat) (f n:Int) (s:ByteArray) (o:Int),d<=2->Kd f n s o 0->Fa d p (.mk f n s o none 0 []):=by
  intro d f n s o a x left w c h2 hE
  have:=xY d
  exact(tO 0 p f n s o none 0 [] 1 X x (λi b=>by cases b) left w p_ h2 s_ hE).mono λI w'⟨y,A,G,C,D⟩=>⟨y,A,X,C,D⟩
 induction h with
 |num d n _ _=>exact g d _ _ _ _ a (.num n)
 |var d s k=>exact g d _ _ _ _ a (.var s (r s k))
 |new d n e c=>exact g d _ _ _ _ a (.new n e c)
 |field d n j s e c k=>
  intro left w h1' h2 hE;have E:nb (d+1)=1+2*nb d:=rfl
  have:=xY d
  have:=v (d+1) a
  refine(tO d p 4 n i4 0 j 1 [jv s] (nb (d+1)) this (.field n e c) (λi b=>?_) left w p_ h2 p_ hE)
  have:i=jv s:=zu b
  subst this;exact g d _ _ _ _ X (.var s (r s k))
 |bin d o j z u e c _ _ H F=>
  intro left w h1' h2 hE;have E:nb (d+1)=1+2*nb d:=rfl
  have:=v (d+1) a
  refine(tO d p 5 0 i4 o j 2 [z,u] (nb (d+1)) this (.bin o e c) (λi b=>?_) left w p_ h2 p_ hE)
  rcases N_.1 b with rfl|b
  .exact H X
  .have:i=u:=zu b
   subst this;exact F X
def x_(r:∀s∈V,mv s)(p:Nat->Prop)(t:ET)(h:EG V 2 t)(w:World)(v:kl p w t):
 Calls prog 222 #[.agg t.g8] w λe w'=>e=.returned (.bool true)/\J [] w w':=by
 refine ig λy j=>?_
 obtain⟨c,u,E,F,b,a⟩:=box1 w 226 t.g8;replace a:Bk c u 226 #[Y t.hS,Y t.n,.string t.name,Y t.op,.slice t.A t.l.length t.c]:=a;obtain⟨x,D,z,A,C⟩:=a.cells5;have k:=O (zD r p 2 t h X 16 c I X (v.g_ b))
 go_enter func222,ntmps222
 go_wp2_with (go_at_call 223;refine k.out.mono ?_;rintro e K⟨g,L,f,rfl,i⟩;have H:g<=16:=Int.le_trans f I;clear f)
 rw[j.out];exact⟨rfl,b.trans i⟩
def vJ(v:Value)(w:World)(e:Ending)(w':World):Prop:=e=.returned v/\J [] w w'
def uu(av:∀s∈V,mv s)(p:Nat->Prop)(k:Int)(x f:ByteArray)(n o:Int)(F:OA)(W:Nat)(es:List ET)(Q:OA)(U:Nat)(M:List ST)(R:OA)(Z:Nat)(N:List ST)(B L:Bool)(w:World)(bF:m7 V k x f n o es.length B L)(hB:B=false->M=[])(hL:L=false->N=[])(hes:∀e∈es,EG V 2 e)(a8:Sl w 226 5 F es.length (es.flatMap ET.E))(jQ:∀u∈es,kl p w u):
 Calls prog 215 #[.agg (ST.mk k x f n o F W es Q U M R Z N).g8] w (vJ (.bool true) w):=by
 refine ig λad aI=>?_
 obtain⟨m,K⟩:=mn_ es.length;rw[K]at bF;have ap:=O K;obtain⟨A,gx,be,hx,hg,a⟩:=box1 w 229 (ST.mk k x f n o F W es Q U M R Z N).g8
 replace a:Bk A gx 229 #[Y k,.string x,.string f,Y n,Y o,.slice F m W,.slice Q M.length U,.slice R N.length Z]:=by rw[<-K];exact a
 have b3:=O (a8.g_ hg);have cS:=O (λu D=>(jQ u D).g_ hg:∀u∈es,kl p A u);clear K a8 jQ;have G:=yG;obtain⟨_,eD,ae⟩:=yL;have da:=O eD;have af:=O ae;clear eD ae
 rcases bF with⟨_,g⟩|⟨_,dn,dO⟩|⟨_,g⟩|⟨_,g⟩|_|⟨_,g⟩|_|_|_|⟨_,g⟩|_|⟨_,g⟩|⟨_,g,_,eJ⟩
 all_goals
  (try(have hbs:=hB rfl;subst hbs))
  (try(have hls:=hL rfl;subst hls))
  (try have ak:=O (av _ g))
  clear hB hL
  (try simp only[Gh]at a)
  obtain⟨h,t,i,j,r,v,z,y⟩:=a.i0
  go_enter func215,ntmps215
  go_upto_region 5 with(go_at_call 216;refine(uU _ _ I I).mono ?_;rintro e w'⟨rfl,rfl⟩;simp only[Ew.v,prt])
 all_goals
  clear h t i j r v z y;have bW:=ap.out;have ah:J [] A A:=H _ _
  go_loopw [49] (λS w'=>∃k:Nat,k<=es.length/\S=Y k/\J [] A w') (λS _=>es.length-(intOf S).toNat)
  case atStart=>exact⟨0,P_ _,gn,ah⟩
  case round=>
   obtain⟨E,hi,rfl,b⟩:=hrel
   by_cases C:E<es.length
   .obtain⟨al,off,an,ax,c1,am,aO,c4⟩:=ET.at_ (b3.out.g_ b) C;have c:=hes es[E] (M_ C);have D:=(cS.out _ (M_ C)).g_ b;subst an;generalize es[E]=u at ax c1 am aO c4 c D;obtain⟨ao,a2,bZ,hg1,ag,au⟩:=box1 wr 226 #[Y u.hS,Y u.n,.string u.name,Y u.op,.slice u.A u.l.length u.c];obtain⟨z0,aR,aU,z3,z4⟩:=au.cells5;have aY:=O (x_ av p u c ao (D.g_ ag));have aP:=C;rw[bW]at aP;clear c D
    first
     |(exact U_ aP X)
     |(go_wp2_with (go_at_call 222;refine aY.out.mono ?_;rintro e P⟨rfl,aq⟩)
       go_roundw
       case rel=>exact⟨E+1,X,gn,(b.trans ag).trans aq⟩
       case measure=>exact mz)
   .have bt:¬E<es.length:=C;rw[bW]at bt;replace a:=a.g_ b;obtain⟨h,t,i,j,r,v,z,y⟩:=a.i0
    (try(have ar:n<16:=by omega))
    (try(have aw:pW o=true:=by rcases eJ with rfl|rfl|rfl<;>rfl))
    clear bt ah
    go_upto_region 11 with((first|(go_at_call 180;refine(ri _).mono ?_;rintro e P⟨⟨bV,rfl⟩,c⟩)|(go_at_call 197;refine(nK (by first|exact ak.out|exact da.out|exact af.out)).mono ?_;rintro e P⟨rfl,c⟩));replace b:=b.trans c;replace a:=a.g_ c;clear c h t i j r v z y;obtain⟨h,t,i,j,r,v,z,y⟩:=a.i0)
    simp only[List.append_eq,Hs,FU]
    go_wp2_with ((first|(go_at_call 180;refine(ri _).mono ?_;rintro e P⟨⟨bV,rfl⟩,c⟩)|(go_at_call 197;refine(nK (by first|exact ak.out|exact da.out|exact af.out)).mono ?_;rintro e P⟨rfl,c⟩));replace b:=b.trans c;replace a:=a.g_ c;clear c h t i j r v z y;obtain⟨h,t,i,j,r,v,z,y⟩:=a.i0)
    rw[aI.out];exact⟨rfl,hg.trans b⟩
def Eq(N D:Nat)(w:World)(e:Ending)(w':World):Prop:=∃dp:Int,0<=dp/\dp<=D/\e=.returned (.tuple #[Y N,Y dp,.bool true])/\J [] w w'
def Fb(V:List ByteArray)(D:Nat):Prop:=∀(N:Nat) (A:OA) (n c:Nat) (ts:List ST) (p:Nat->Prop) (w:World),N<=1000->ts.length=n->l3 V D N ts->Sl w 229 8 A n (ts.flatMap ST.E)->(∀u∈ts,jD p w u)->
 Calls prog 198 #[.slice A n c] w (Eq N D w)
def C2(av:∀s∈V,mv s)(f:Nat)(ad:f<=1000)(HD:∀r,f=r+1->Fb V r):Fb V f:=by
 intro p ae n ak v I al cV hn P a8 jQ
 refine ig λam aI=>?_
 have z:=O hn;have b3:=O a8;have an:l3 V f p (v.drop 0):=P;have cv:n<=1000:=ov P.len
 go_enter func198,ntmps198
 go_wp2
 go_loopw [5,6,17] (λao dv y w'=>∃(e g t:Nat) (h:Int),e<=n/\y=Y e/\ao=Y g/\dv=Y h/\0<=h/\h<=f/\g+t=p/\l3 V f t (v.drop e)/\J [] al w') (λ_ _ y _=>n-(intOf y).toNat)
 case atStart=>exact⟨0,0,p,0,P_ _,gn,gn,rfl,X,X,X,an,H _ _⟩
 case round=>
  obtain⟨e,g,t,h,hk,rfl,rfl,rfl,bf,cI,hab,u,k⟩:=hrel;have A:=O hab;have l:g<=1000:=X
  by_cases aj:e<n
  .have x:e<v.length:=ov z.out;obtain⟨bn,off,ap,z0,aR,aU,z3,z4,z5,b6,cO⟩:=ST.at_ (b3.out.g_ k) z.out x;subst ap;rw[Y_ x]at u;obtain⟨G,b2,bM,bq,bY⟩:=u.split;have q:=O bM;have Z:=(jQ _ (M_ x)).g_ k;generalize v[e]=a at z0 aR aU z3 z4 z5 b6 cO bq Z;obtain⟨r,nb,nl,aH,bt,hD,bv,bF,ax,aO,hes,hb,hl⟩:=bq.one;have R:=HD r hD;have aq:=O bv;obtain⟨p1,p2,p3,aZ,cz,au⟩:=Z.parts
   have hbl:nb+nl+1<=1000:=by have:=A.out;have:=q.out;omega
   have d:(r:Int)+1=f:=X;have az:=O d;have aY:=O (λM(hg:J [] wr M)=>uu av I a.hS a.name a.fn a.n a.op a.AE a.cE a.es a.AB a.cB a.bs a.AL a.cL a.ls aH bt M bF ax aO hes (p1.g_ hg) (λj i=>(p2 j i).g_ hg));obtain⟨aA,gx,bZ,aM,U,D⟩:=box1 wr 229 #[Y a.hS,.string a.name,.string a.fn,Y a.n,Y a.op,.slice a.AE a.es.length a.cE,.slice a.AB a.bs.length a.cB,.slice a.AL a.ls.length a.cL];obtain⟨K,W,N,Q,S,bB,aJ,aK⟩:=D.i0
   go_wp2_with fail
   go_at_call 215
   refine(aY.out aA U).mono ?_;rintro aL w2⟨rfl,w⟩;have E:=U.trans w;obtain⟨K,W,N,Q,S,bB,aJ,aK⟩:=(D.g_ w).i0
   go_wp2_with fail
   go_at_call 198
   refine(R nb a.AB _ a.cB a.bs I _ X rfl hb (p3.g_ E) (λj i=>(aZ j i).g_ E)).mono ?_;rintro aL ah⟨c,aD,m,rfl,L⟩;have F:=E.trans L;obtain⟨K,W,N,Q,S,bB,aJ,aK⟩:=(D.g_ (w.trans L)).i0
   go_wp2_with fail
   go_at_call 198
   refine(R nl a.AL _ a.cL a.ls I _ X rfl hl (cz.g_ F) (λj i=>(au j i).g_ F)).mono ?_;rintro aL T⟨b,o,aN,rfl,af⟩;have aP:=F.trans af
   have bO:0<=(if c<b then b else c)/\(if c<b then b else c)<=1000:=by have bu:=az.out;split<;>omega
   have pr:wrap64 (1+if c<b then b else c)=1+(if c<b then b else c):=by
    generalize (if c<b then b else c)=aQ at bO |-;unfold wrap64;omega
   go_wp2;go_roundw
   case rel=>
    have aC:=A.out;have aw:=q.out;have C:=aq.out;have bu:=az.out;refine⟨e+1,g+G,b2,_,X,gn,by rw[C];go_num,rfl,?_,?_,X,bY,k.trans aP⟩
    .split<;>(try split)<;>omega
    .split<;>(try split)<;>omega
   case measure=>exact mz
  .go_wp2;rw[aI.out]
   have aC:t=0:=by
    rw[F3 (ov z.out)]at u
    cases u;rfl
   have aw:=A.out;have C:g=p:=X;subst C;refine⟨rfl,.tuple #[Y g,Y h,.bool true],?_,h,bf,cI,rfl,k⟩
   kernel_rfl
def Br{V:List ByteArray}(b:∀s∈V,mv s):∀a,a<=1000->Fb V a
 |0,_=>C2 b 0 X λr h=>by omega
 |a+1,h=>C2 b (a+1) X λr c=>by
  have e:r=a:=X;subst e;exact Br b r X
structure Nm(V l l':List ByteArray):Prop where
 sub:∀x∈l,x∈l'
 new:∀x∈l',x∈l∨x∈V
 nd:l.Nodup->l'.Nodup
def Nm.refl(V l:List ByteArray):Nm V l l:=⟨λ_ a=>a,λ_ a=>.inl a,λa=>a⟩
def Nm.trans{a b c:List ByteArray}(h:Nm V a b)(k:Nm V b c):Nm V a c:=⟨λe f=>k.sub e (h.sub e f),λe f=>(k.new e f).elim (h.new e) .inr,λg=>k.nd (h.nd g)⟩
def ba_eq{x:ByteArray}(h:x.toList=s.toList):x=s:=by
 rw[Hh,Hh]at h
 cases x;cases s
 congr 1;exact Array.toList_inj.1 h
def rp:hasB l s=true↔s∈l:=by
 unfold hasB;rw[HF];constructor
 .rintro⟨c,b,a⟩
  have:c=s:=ba_eq (zu a)
  rw[<-this];exact b
 .intro a;exact⟨s,a,s_⟩
def Nm.add(k:s∈V):Nm V l (rB l s):=by
 unfold rB
 by_cases b:hasB l s=true
 .rw[O_ b];exact .refl _ _
 .rw[I_ b]
  have j:s∉l:=λe=>b (rp.2 e)
  refine⟨λc a=>FL _ a,λc a=>?_,λi=>?_⟩
  .rcases T_.1 a with a|a
   .exact .inl a
   .have:c=s:=zu a
    subst this;exact .inr k
  .rw[Gs];refine⟨i,s_,λp g f h=>?_⟩
   have:f=s:=zu h
   subst this;rintro rfl;exact j g
def w_:s∈rB l s:=by
 unfold rB
 by_cases a:hasB l s=true
 .rw[O_ a];exact rp.1 a
 .rw[I_ a];simp
inductive nW(L:List ByteArray):List ST->Prop
 |nil:nW L []
 |cons (t:ST) (l:List ST) (h:(prt t.hS).name=true->t.name∈L) (hb:nW L t.bs) (hl:nW L t.ls) (hr:nW L l):nW L (t::l)
def nW.mono{L a:List ByteArray}{l:List ST}(h:nW L l)(b:∀x∈L,x∈a):nW a l:=by
 induction h with
 |nil=>exact .nil
 |cons g l h i j k c d f=>exact .cons g l (λe=>b _ (h e)) c d f
def nW.append{L:List ByteArray}{l m:List ST}(h:nW L l)(k:nW L m):nW L (l++m):=by
 induction h with
 |nil=>exact k
 |cons e l h b c f _ _ a=>exact .cons e _ h b c a
def Ek(base:Nat)(V l:List ByteArray)(ts:List ST)(w:World)(e:Ending)(w':World):Prop:=∃(A:OA) (c:Nat) (l':List ByteArray),e=.returned (.slice A l'.length c)/\qv base w' A c l'/\Nm V l l'/\nW l' ts/\Gt base [9] w w'
def E4(base:Nat)(V:List ByteArray)(D:Nat):Prop:=∀(N:Nat) (A:OA) (n c:Nat) (l:List ByteArray) (B:OA) (m d:Nat) (ts:List ST) (p:Nat->Prop) (w:World),N<=1000->l.length=n->ts.length=m->m<=100000->l.Nodup->(∀x∈l,x∈V)->l3 V D N ts->qv base w A c l->base<=w.heap.size->Sl w 229 8 B m (ts.flatMap ST.E)->(∀u∈ts,jD p w u)->
 Calls prog 174 #[.slice A n c,.slice B m d] w (Ek base V l ts w)
open Classical in
def lx:∀(l m:List ByteArray),l.Nodup->(∀x∈l,x∈m)->l.length<=m.length
 |[],_,_,_=>by simp
 |x::l,m,h,b=>by
  have i:=b x s_;have f:=G6.1 h;obtain⟨j,k,rfl⟩:=List.append_of_mem i
  have:=lx l (j++k) f.2 λe c=>by
   have g:e≠x:=by rintro rfl;exact f.1 c
   have:=b e (by simp[c])
   simp only[T_,N_]at this |-
   rcases this with a|a|a
   .exact .inl a
   .exact U_ a g
   .exact .inr a
  simp only[FJ,K_]at this |-;omega
def Gt.D6{a w:World}{c:List Nat}(h:J c a w)(p:∀g∈c,base<=g/\∃cs t,Bk a g t cs/\t∈T):Gt base T a w:=
 ⟨h.os,h.tape,h.output,h.size,λe k b=>h.block e k λf=>by
   obtain⟨r,cs,t,i,j⟩:=p e f
   rcases b with b|b
   .omega
   .exact b _ _ _ i j⟩
def m7.nm{k:Int}{x f:ByteArray}{L:Bool}(h:m7 V k x f n o m B L)(a:(prt k).name=true):x∈V:=by
 cases h with
 |vH x h|wW x h|wV x h|AR x h|Cc x h|ask x h|red x h=>assumption
 |EC|DX|EB|ret|Ez|EH=>simp[prt]at a
def m7.kr{k:Int}{x f:ByteArray}{L:Bool}(h:m7 V k x f n o m B L):1<=k/\k<=12:=by cases h<;>decide
def CW(base:Nat)(V:List ByteArray)(bp:V.length<=1000)(D:Nat)(HD:∀r,D=r+1->E4 base V r):E4 base V D:=by
 intro S al n an l B m d p aA aC am hn MM co MP aD aE ax aL a8 jQ
 refine ig λaJ aI=>?_
 subst hn;have ap:=O MM;have ah:=a8;have b3:=O ah;have aK:l3 V D S (p.drop 0):=aE;clear MM a8 ah
 go_enter func174,ntmps174
 go_wp2
 go_loopw [0,9] (λov U w'=>∃(c:Nat) (A':OA) (c':Nat) (M:List ByteArray) (aN aT:Nat),c<=m/\U=Y c/\ov=.slice A' M.length c'/\qv base w' A' c' M/\Nm V l M/\nW M (p.take c)/\Gt base [9] aC w'/\aN+aT=S/\l3 V D aT (p.drop c)) (λ_ U _=>m-(intOf U).toNat)
 case atStart=>exact⟨0,al,an,l,0,S,P_ _,gn,gn,ax,.refl _ _,.nil,.refl _ _ _,X,aK⟩
 case round=>
  obtain⟨c,N,c1,C,a1,b1,hk,rfl,rfl,bA,K,bJ,x,hab,bQ⟩:=hrel;have ar:=O hab;clear aK hab
  by_cases aj:c<m
  .have F:c<p.length:=ov ap.out;obtain⟨bn,off,bd,z0,aR,aU,z3,z4,z5,b6,cO⟩:=ST.at_ (b3.out.gt x I) ap.out F;subst bd;rw[Y_ F]at bQ;obtain⟨G,b2,bM,bq,bY⟩:=bQ.split;have q:=O bM;have ay:=(jQ _ (M_ F)).gt x I I;obtain⟨a,Q⟩:=nm_ (p[c]);have bK:=O Q;rw[<-Q]at z0 aR aU z3 z4 z5 b6 cO bq ay;clear bQ bM Q;obtain⟨r,nb,nl,aH,bt,hD,bv,bF,_,_,_,hb,hl⟩:=bq.one;have aV:=HD r hD;obtain⟨_,_,p3,W,cz,P⟩:=ay.parts;obtain⟨bN,cj⟩:=bF.kr;have dY:=bF.nm;have hbl:=hb.len;have ca:=hl.len
   have cv:nb<=1000/\nl<=1000:=by
    have:=ar.out
    have:=q.out
    have:=am
    omega
   have be:=K.nd MP
   have s:=λg A=>(K.new g A).elim (aD g) id
   have hl1:=G_ (lx C V be s) bp;clear hD bv bF bq;obtain⟨E,gx,bZ,aM,j,z⟩:=box1 wr 229 #[Y a.hS,.string a.name,.string a.fn,Y a.n,Y a.op,.slice a.AE a.es.length a.cE,.slice a.AB a.bs.length a.cB,.slice a.AL a.ls.length a.cL];obtain⟨MN,ai,aB,aS,aX,bB,bf,bh⟩:=z.i0;have R:=iF bA j;replace p3:=Sl.g_ p3 j
   replace W:=λt k=>(W t k).g_ j
   replace cz:=Sl.g_ cz j
   replace P:=λt k=>(P t k).g_ j
   have bP:=x.trans (.jX j:Gt base [9] wr E);have bg:=G_ aL ((x.trans (.jX j:Gt base [9] wr E)).size);have aW:=O dY;clear dY
   go_upto_if 15 with(go_at_call 200;refine(wC bN cj).mono ?_;rintro e w2⟨rfl,rfl⟩)
   go_cut [0] (λov a6=>∃(v:OA) (u:Nat) (w:List ByteArray),ov=.slice v w.length u/\qv base a6 v u w/\Nm V C w/\((prt a.hS).name=true->a.name∈w)/\Gt base [9] E a6)
   case first=>
    cases b:(prt a.hS).name with
    |true=>
     have y:=O (ve base N c1 C a.name E rfl R X bg);have f:=O b;clear b
     go_wp2_with (go_at_call 173;refine y.out.mono ?_;rintro e w2⟨v,u,rfl,bi,i⟩)
     go_meet;refine⟨v,u,_,rfl,bi,.add (aW.out f.out),λ_=>w_,(.D6 i λbj hg=>?_)⟩;obtain⟨L,J,h2⟩:=rc R (jC.1 hg);exact⟨L,J,_,h2,s_⟩
    |false=>
     have f:=O b;clear b;go_wp2;go_meet;exact⟨N,c1,C,rfl,R,.refl _ _,λe=>U_ (e.symm.trans f.out) I,.refl _ _ _⟩
   case rest=>
    obtain⟨v,u,w,rfl,bi,dn,bR,i⟩:=hcut;have bk:=dn.nd be
    have bl:=λg A=>(dn.new g A).elim (s g) id
    replace z:=z.gt i I;clear MN ai aB aS aX bB bf bh;obtain⟨MN,ai,aB,aS,aX,bB,bf,bh⟩:=z.i0
    go_upto_region 6 with fail
    refine hI (λw'=>w'.cell? (Z gx 6)=some (.slice a.AB a.bs.length a.cB)/\w'.cell? (Z gx 7)=some (.slice a.AL a.ls.length a.cL)) 7 k_ ?_
    refine nZ ⟨bf,bh⟩ λb=>?_
    refine iH 0 b ?_;refine iH 1 b ?_;refine iH 2 b ?_;refine iH 4 b ?_;refine iH 5 b ?_
    refine hV 3 λy f=>?_
    go_simp
    go_at_call 174
    refine(aV nb v _ u w a.AB _ a.cB a.bs aA _ cv.1 rfl rfl X bk bl hb (iF bi (H [] _).drew) (G_ bg i.size) (Sl.g_ (p3.gt i I) (H [] _).drew) (λt k=>((W t k).gt i I I).g_ (H [] _).drew)).mono ?_;rintro e T⟨aP,c4,o,rfl,av,J,b0,af⟩;have L:=i.trans ((Gt.jX (H [] wc).drew).trans af);have bT:=z.gt ((Gt.jX (H [] wc).drew).trans af) I;have aq:=J.nd bk
    have az:=λg A=>(J.new g A).elim (bl g) id
    clear b
    refine hX f ⟨bT.f_ 6,bT.f_ 7⟩ λb=>?_
    clear f y
    refine hV 6 λy f=>?_
    go_simp
    go_at_call 174
    refine(aV nl aP _ c4 o a.AL _ a.cL a.ls aA _ cv.2 rfl rfl X aq az hl av (G_ bg L.size) (cz.gt L I) (λt k=>((P t k).gt L I I))).mono ?_;rintro e ad⟨a7,c5,dk,rfl,MS,bm,au,ak⟩;have ao:=L.trans ak;have b5:=bT.gt ak I;clear b
    refine hX f ⟨b5.f_ 6,b5.f_ 7⟩ λb=>?_
    clear f y
    refine hV 7 λy f=>?_
    go_simp;refine f.out _ _ (λh=>U_ h I) ?_;clear f y b;refine hC k_ ?_ _;go_wp2;go_roundw
    case rel=>
     have bo:=(dn.trans J).trans bm;refine⟨c+1,a7,c5,dk,a1+G,b2,X,gn,gn,MS,K.trans bo,?_,bP.trans ao,by have:=ar.out;have:=q.out;omega,bY⟩;rw[X_ F,<-bK.out];exact(bJ.mono bo.sub).append (.cons a [] (λe=>bm.sub _ (J.sub _ (bR e))) (b0.mono bm.sub) au .nil)
    case measure=>exact mz
  .go_wp2;rw[aI.out];refine⟨N,c1,C,rfl,bA,K,?_,x⟩;have e:p.take c=p:=FK (ov ap.out);rw[e]at bJ;exact bJ
def Ar(base:Nat)(V:List ByteArray)(b:V.length<=1000):∀a,E4 base V a
 |0=>CW base V b 0 λr h=>by omega
 |a+1=>CW base V b (a+1) λr h=>by
  have e:r=a:=X;subst e;exact Ar base V b r
def El(V ps:List ByteArray)(bs:List ST)(w:World)(e:Ending)(w':World):Prop:=∃(A:OA) (c:Nat) (l:List ByteArray),e=.returned (.slice A l.length c)/\Bs w' A l/\l.Nodup/\(∀x∈l,x∈V)/\(∀x∈ps,x∈l)/\nW l bs/\J [] w w'
structure CV(q:Nat->Prop)(w:World)(f:FT):Prop where
 hp:Bs w f.AP f.ps
 s4:f.ps.length<=f.cP
 hb:Sl w 229 8 f.A f.bs.length (f.bs.flatMap ST.E)
 hs:∀t∈f.bs,jD q w t
def CV.g_{w:World}{f:FT}(h:CV q w f)(a:J [] w w'):CV q w' f:=⟨Sl.g_ h.hp a,h.s4,Sl.g_ h.hb a,λc b=>(h.hs c b).g_ a⟩
def CV.gt{w:World}{f:FT}(h:CV q w f)(a:Gt base T w w')(e:9∉T)(g:226∉T)(b:229∉T):CV q w' f:=⟨Sl.gt h.hp a e,h.s4,Sl.gt h.hb a b,λi c=>(h.hs i c).gt a g b⟩
def FT.g8(f:FT):Array Value:=#[.string f.name,.slice f.AP f.ps.length f.cP,.slice f.A f.bs.length f.c]
def tq(V:List ByteArray)(bp:V.length<=1000)(Q r:Nat)(f:FT)(q:Nat->Prop)(w:World)(E:CV q w f)(S:l3 V Q r f.bs)(bv:r<=1000)(l:∀x∈f.ps,x∈V)(bL:f.ps.length<=1000):
 Calls prog 135 #[.agg f.g8] w (El V f.ps f.bs w):=by
 refine ig λad aI=>?_
 have hbl:=S.len;obtain⟨g,H,be,a,j,i⟩:=box1 w 213 f.g8;replace i:Bk g H 213 #[.string f.name,.slice f.AP f.ps.length f.cP,.slice f.A f.bs.length f.c]:=i;have ai:g.cell? (Z H 1)=some (.slice f.AP f.ps.length f.cP):=i.f_ 1;have ag:=O (E.g_ j);obtain⟨n,K⟩:=mn_ f.ps.length;have W:=O K;rw[K]at ai bL;clear K E;obtain⟨base,U⟩:=nm_ g.heap.size;have cg:base<=g.heap.size:=X;have F:=O U;clear U
 go_enter func135,ntmps135
 go_wp2;clear ai be a
 go_loopw [3,9] (λov y w'=>∃(b:Nat) (N:OA) (c':Nat) (k:List ByteArray),b<=n/\y=Y b/\ov=.slice N k.length c'/\qv base w' N c' k/\Nm V [] k/\(∀x∈f.ps.take b,x∈k)/\Gt base [9] g w') (λ_ y _=>n-(intOf y).toNat)
 case atStart=>exact⟨0,none,0,[],P_ _,gn,rfl,iY _ _ _ _,.refl _ _,s_,.refl _ _ _⟩
 case round=>
  obtain⟨b,P,c1,M,hk,rfl,rfl,D,h,bJ,c⟩:=hrel;have ae:=h.nd .nil
  have s:=λx a=>(h.new x a).elim (λJ=>by cases J) id
  have hl1:=G_ (lx M V ae s) bp;have aZ:=G_ cg c.size
  by_cases aj:b<n
  .have v:b<f.ps.length:=ov W.out;obtain⟨af,off,u,hc⟩:=Sl.f_ (Sl.g_ ag.out.hp (c.gr (by rw[F.out];exact H_ _))) X;have R:=hc b (.string f.ps[b]) (by rw[F4,L_ v];rfl);have p:=l _ (M_ v);obtain⟨x,a⟩:=nm_ (f.ps[b]);have ah:=O a;have A:=O (ve base P c1 M x wr rfl D X aZ);have HA:=O u;rw[<-a]at R p;clear a hc;rw[u];clear u
   go_wp2_with (go_at_call 173;refine A.out.mono ?_;rintro ak w2⟨C,z,rfl,L,t⟩)
   go_roundw
   case rel=>
    refine⟨b+1,C,z,_,X,gn,gn,L,h.trans (.add p),λal e=>?_,c.trans (.D6 t λam j=>?_)⟩
    .rw[X_ v,<-ah.out]at e
     rcases T_.1 e with e|e
     .exact(Nm.add (V:=V) p).sub _ (bJ al e)
     .have:al=x:=zu e
      subst this;exact w_
    .obtain⟨h1,cs,h2⟩:=rc D (jC.1 j);exact⟨h1,cs,_,h2,s_⟩
   case measure=>exact mz
  .have v:=i.gt c I;have R:wr.cell? (Z H 2)=some (.slice f.A f.bs.length f.c):=v.f_ 2;have p:=O (ag.out.g_ (c.gr (by rw[F.out];exact H_ _)));have A:=O (Ar base V bp Q r P _ c1 M f.A _ f.c f.bs q wr bv rfl rfl X ae s S D aZ p.out.hb p.out.hs)
   go_wp2_with (go_at_call 174;refine A.out.mono ?_;rintro ak w2⟨C,z,dF,rfl,L,u,cw,t⟩)
   rw[aI.out];have e:=h.trans u;refine⟨C,z,dF,rfl,L.bs,e.nd .nil,λx a=>(e.new x a).elim (λJ=>by cases J) id,λx a=>u.sub _ (bJ x ?_),cw,j.trans ((c.trans t).gr (by rw[F.out];exact H_ _))⟩;rw[FK (ov W.out)];exact a
structure PG(V:List ByteArray)(q:Nat->Prop)(w:World)(PA:OA)(fs:List FT)(Ns:List Nat):Prop where
 hfs:B2 w PA fs
 len:fs.length=3
 rd:∀f∈fs,CV q w f
 nm:∀f∈fs,mv f.name/\(∀x∈f.ps,x∈V)/\f.ps.length<=2
 nl:Ns.length=3
 sg:∀(k:Nat) (h:k<fs.length) (h2:k<Ns.length),l3 V 5 Ns[k] fs[k].bs
 sum:Ns.sum<=64
def PG.g_{w:World}{fs:List FT}{Ns:List Nat}(h:PG V q w PA fs Ns)(a:J [] w w'):PG V q w' PA fs Ns:=
 ⟨Sl.g_ h.hfs a,h.len,λb c=>(h.rd b c).g_ a,h.nm,h.nl,h.sg,h.sum⟩
def pF(Ns:List Nat)(k:Nat)(h:k<Ns.length):(Ns.take (k+1)).sum=(Ns.take k).sum+Ns[k]/\(Ns.take (k+1)).sum<=Ns.sum:=by
 have a:(Ns.take (k+1)).sum=(Ns.take k).sum+Ns[k]:=by rw[X_ h,List.sum_append];simp
 refine⟨a,?_⟩;have b:=FN List.sum (Gk (k+1) Ns);rw[List.sum_append]at b;omega
def xK(N:∀s∈V,mv s)(q:Nat->Prop)(PA:OA)(c:Nat)(fs:List FT)(Ns:List Nat)(w:World)(hP:PG V q w PA fs Ns):
 Calls prog 169 #[.agg #[.slice PA 3 c]] w (vJ (Y 0) w):=by
 refine ig λad aI=>?_
 obtain⟨K,gx,Q,hx,hg,hB⟩:=box1 w 150 #[.slice PA 3 c];have f:K.cell? (Z gx 0)=some (.slice PA 3 c):=hB.f_ 0;have e:=O (hP.g_ hg);clear hP
 go_enter func169,ntmps169
 go_wp2;have bl:=O Q;clear f Q hx
 go_loopw [3,4,25] (λm l h w'=>∃a:Nat,a<=3/\h=Y a/\m=.bool false/\l=Y ((Ns.take a).sum:Nat)/\J [] K w') (λ_ _ h _=>3-(intOf h).toNat)
 case atStart=>exact⟨0,X,gn,rfl,s_,H _ _⟩
 case round=>
  obtain⟨a,hk,rfl,rfl,rfl,F⟩:=hrel
  by_cases aj:a<3
  .have t:a<fs.length:=ov e.out.len;have S:a<Ns.length:=ov e.out.nl;obtain⟨ae,off,ah,z0,L,M⟩:=B2.at_ (e.out.g_ F).hfs t;subst ah;have C:=(e.out.g_ F).rd _ (M_ t);obtain⟨hn1,R,bR⟩:=e.out.nm _ (M_ t);have r:=e.out.sg a t S;obtain⟨U,ew⟩:=pF Ns a S;have x:=e.out.sum;have d:=O hn1;have P:=O R;have cM:=O U;have ak:(Ns.take a).sum+Ns[a]<=64:=X;obtain⟨b,hf⟩:=nm_ (fs[a]);obtain⟨al,D⟩:=nm_ (Ns[a]);have ap:=O D;rw[<-hf]at z0 L M C d P bR r;rw[<-D]at r ak;obtain⟨an,y⟩:=nm_ ((Ns.take a).sum);have ao:=O y;rw[<-y]at ak |-;clear U ew x hn1 R hf D y;have z:=O C;have cU:=O r;clear C r;obtain⟨aq,a2,bZ,hg1,ag,i⟩:=box1 wr 213 #[.string b.name,.slice b.AP b.ps.length b.cP,.slice b.A b.bs.length b.c];obtain⟨f,k,g⟩:=i.nQ
   go_upto_region 9 with(go_at_call 197;refine(nK d.out).mono ?_;rintro W w2⟨rfl,v⟩;replace i:=i.g_ v;clear f k g;obtain⟨f,k,g⟩:=i.nQ)
   have bP:=ag.trans v;clear v f k g
   go_loopw [36] (λh w'=>∃j:Nat,j<=b.ps.length/\h=Y j/\J [] w2 w') (λh _=>b.ps.length-(intOf h).toNat)
   case atStart=>exact⟨0,X,gn,H _ _⟩
   case round=>
    obtain⟨j,hj,rfl,A⟩:=hrel;have p:=bP.trans A;obtain⟨n,u⟩:=nm_ b.ps.length;have ar:=O u;have aw:n<=2:=X
    by_cases B:j<b.ps.length
    .obtain⟨b2,am,I,hc⟩:=Sl.f_ (z.out.g_ p).hp X;have g:=hc j (.string b.ps[j]) (by rw[F4,L_ B];rfl);have E:=P.out _ (M_ B);have ax:=O (N _ E);generalize b.ps[j]=ay at g ax;rw[I]at*;clear hc u I E
     go_wp2_with (go_at_call 197;refine(nK ax.out).mono ?_;rintro W T⟨rfl,af⟩)
     exact L2
    .rw[<-u]at*;clear u;obtain⟨f,k,g⟩:=(i.g_ A).nQ;have I:=O (Br N 5 X al b.A _ b.c b.bs q _ X rfl cU.out (z.out.g_ p).hb (z.out.g_ p).hs)
     go_wp2_with fail
     go_at_call 198
     refine I.out.mono ?_;rintro W T⟨dp,az,E,rfl,af⟩;obtain⟨z0,L,M⟩:=(i.g_ (A.trans af)).nQ;have cI:dp<=5:=E;clear f k g E;go_wp2;go_roundw
     case rel=>
      refine⟨a+1,X,gn,by rw[GH X],?_,(F.trans p).trans af⟩;rw[cM.out,<-ao.out,<-ap.out];go_num
     case measure=>exact mz
  .have b:a=3:=X
   have x:(Ns.take a).sum<=64:=by
    rw[FK (ov e.out.nl)];exact e.out.sum
   generalize (Ns.take a).sum=an at x |-;exact Mt
def En(V:List ByteArray)(w:World)(e:Ending)(w':World):Prop:=∃(A:OA) (c:Nat) (l:List ByteArray),e=.returned (.slice A l.length c)/\Bs w' A l/\(∀x∈l,x∈V)/\l.length<=V.length/\(∀x off,A=some (Z x off)->0<l.length->w.heap.size<=x)/\J [] w w'
def E9(V:List ByteArray)(p:Nat->Prop)(t:ET):Prop:=∀w:World,kl p w t->Calls prog 199 #[.agg t.g8] w (En V w)
def uT(V:List ByteArray)(bp:V.length<=1000)(p:Nat->Prop)(k n:Int)(s:ByteArray)(o:Int)(A:OA)(c:Nat)(l:List ET)(hk:k=3->s∈V)(cZ:l.length<=2)(hl:∀u∈l,E9 V p u):E9 V p (.mk k n s o A c l):=by
 intro al hE
 refine ig λan aI=>?_
 obtain⟨i2,d,b5,b6,cf⟩:=info_parts infoStr
 have a8:Sl al 226 5 A l.length (l.flatMap ET.E):=by cases hE with|mk aA t _ _ _=>exact t
 have q:∀u∈l,kl p al u:=by cases hE with|mk aA _ _ _ t=>exact t
 obtain⟨m,R⟩:=mn_ l.length;obtain⟨j,gx,be,y,hg,hB⟩:=box1 al 226 (ET.mk k n s o A c l).g8
 replace hB:Bk j gx 226 #[Y k,Y n,.string s,Y o,.slice A m c]:=by rw[<-R];exact hB
 rw[R]at a8 cZ;obtain⟨MN,ai,aB,aS,aX⟩:=hB.cells5;have ap:=O R;have b3:=O (a8.g_ hg);have cS:=O (λu M=>(q u M).g_ hg:∀u∈l,kl p j u);clear R a8 q hE;obtain⟨base,aL⟩:=nm_ j.heap.size;have cg:base<=j.heap.size:=X;have dQ:al.heap.size<=base:=ov hg.size;have cT:=O aL;clear aL
 go_enter func199,ntmps199
 go_upto_region 2 with fail
 go_upto_if 10 with fail
 go_cut [3] (λov a6=>∃(Q:OA) (c1:Nat) (N:List ByteArray),ov=.slice Q N.length c1/\qv base a6 Q c1 N/\Nm V [] N/\J [] j a6)
 case first=>
  by_cases a:k=3
  .have z:(k==3)=true:=by simp[a]
   have i:=O (hk a);clear hk a;obtain⟨e,bd,K,F,b,v⟩:=box1 j 9 #[.string s];have D:e.ownsRow base 9 1 (n_) 0 []:=iY _ _ _ _;have f:Sl e 9 1 (j_ bd) 1 ([s].map Value.string):=jj (n:=1) (s:=1) v rfl;have w:=G_ cg b.size
   go_wp2_with (at_builtin;refine j0 rfl rfl base 9 i2 1 16 underlying207 d b5 b6 cf rfl I I none 0 0 _ rfl D _ 1 1 _ rfl f (tC) X w ?_;intro r g E C h _)
   go_meet;refine⟨r,g,[s],rfl,C,⟨s_,λx y=>?_,λ_=>by simp⟩,?_⟩
   .have:x=s:=zu y
    subst this;exact .inr i.out
   .exact b.trans ((J.iW h).mono (by simp[oS,Value.ownBlock]))
  .have z:(k==3)=false:=by simp[a]
   clear hk a;go_wp2;go_meet;exact⟨none,0,[],rfl,iY _ _ _ _,.refl _ _,H _ _⟩
 case rest=>
  obtain⟨Q,c1,N,rfl,bA,bW,hg1⟩:=hcut;have au:=hB.g_ hg1;clear MN ai aB aS aX;obtain⟨MN,ai,aB,aS,aX⟩:=au.cells5
  go_wp2_with fail
  have bk:=O bA;have bS:=O bW
  go_loopw [3,19] (λov r w'=>∃(h:Nat) (v:OA) (w:Nat) (i:List ByteArray),h<=m/\r=Y h/\ov=.slice v i.length w/\qv base w' v w i/\Nm V [] i/\Gt base [9] j w') (λ_ r _=>m-(intOf r).toNat)
  case atStart=>exact⟨0,Q,c1,N,X,gn,rfl,bk.out,bS.out,.jX hg1⟩
  case round=>
   obtain⟨h,aD,am,P,hi,rfl,rfl,C,cn,z⟩:=hrel
   by_cases aj:h<m
   .have aM:h<l.length:=ov ap.out;obtain⟨br,f,E,z0,aR,aU,z3,z4⟩:=ET.at_ (by rw[ap.out];exact b3.out.gt z I) aM;have bj:=hl l[h] (M_ aM);have M:=(cS.out _ (M_ aM)).gt z I;have HA:=O E;generalize l[h]=u at z0 aR aU z3 z4 bj M;obtain⟨bx,a2,bZ,bt,ag,aP⟩:=box1 wr 226 #[Y u.hS,Y u.n,.string u.name,Y u.op,.slice u.A u.l.length u.c];obtain⟨aT,bi,bd,ao,MP⟩:=aP.cells5;have aY:=O (bj bx (M.g_ ag));rw[E]at*;clear bj M E
    go_wp2_with fail
    go_at_call 199
    refine aY.out.mono ?_;rintro bH w2⟨a7,c5,b,rfl,bU,bF,ax,bq,ak⟩;have MT:=ag.trans ak;have MS:=iF C MT;have cJ:=G_ cg (z.trans (.jX MT)).size
    have ay:∀x f,a7=some (Z x f)->0<b.length->(Value.slice aD P.length am).ownBlock≠some x:=λx f h1 h2 K=>by
     have ar:=(kx C K).2;have av:=bq x f h1 h2;have aV:=ag.size;omega
    have bo:b.length<=1000:=X;obtain⟨c8,bI⟩:=mn_ b.length;have az:=O bI;rw[bI]at bo;have aZ:=O ay;have aH:=O bU;have aW:=O MS;clear bI ay bU C aT bi bd ao MP z0 aR aU z3 z4 MS;rw[az.out]
    go_wp2_with fail
    go_loopw [3,26] (λov r w'=>∃(e:Nat) (v:OA) (w:Nat) (i:List ByteArray),e<=c8/\r=Y e/\ov=.slice v i.length w/\qv base w' v w i/\Nm V P i/\Gt base [9] w2 w'/\Bs w' a7 b/\(∀x f,a7=some (Z x f)->0<b.length->(Value.slice v i.length w).ownBlock≠some x)) (λ_ r _=>c8-(intOf r).toNat)
    case atStart=>exact⟨0,aD,am,P,X,gn,gn,aW.out,.refl _ _,.refl _ _ _,aH.out,aZ.out⟩
    case round=>
     obtain⟨e,U,S,a,hj,rfl,rfl,bL,bM,ce,bN,ad⟩:=hrel;have bQ:=cn.trans bM;have bv:=bQ.nd .nil
     have bw:=λx y=>(bQ.new x y).elim (λt=>by cases t) id
     have eU:=G_ (lx a V bv bw) bp;have aC:=G_ cJ ce.size;have G:=O ad;clear ad
     by_cases B:e<c8
     .have aE:e<b.length:=ov az.out;obtain⟨dx,bm,aN,bR⟩:=Sl.f_ bN X;have bT:=bR e (.string b[e]) (by rw[F4,L_ aE];rfl);have MO:=bF _ (M_ aE);subst aN;generalize b[e]=g at bT MO;have W:=O (oL U _ S a g wr rfl bL.bs X);have bY:=O MO;have ca:=O bN;clear bR MO bN
      cases L:hasB a g with
      |true=>
       rw[L]at W;clear L
       go_wp2_with (go_at_call 171;refine W.out.mono ?_;rintro bH T⟨rfl,rfl⟩)
       go_roundw
       case rel=>exact⟨e+1,U,S,a,X,gn,gn,bL,bM,ce,ca.out,G.out⟩
       case measure=>exact mz
      |false=>
       rw[L]at W
       have cW:rB a g=a++[g]:=by unfold rB;rw[I_ (by rw[L];decide)]
       have cb:=O cW;clear L cW;obtain⟨bn,bJ,eP,e8,D,af⟩:=box1 wr 9 #[.string g];have b8:=iF bL D;have bB:Sl bn 9 1 (j_ bJ) 1 ([g].map Value.string):=jj (n:=1) (s:=1) af rfl;have eL:=G_ aC D.size
       go_wp2_with (first|(go_at_call 171;refine W.out.mono ?_;rintro bH T⟨rfl,rfl⟩)|(at_builtin;refine j0 rfl rfl base 9 i2 1 16 underlying207 d b5 b6 cf rfl I I U a.length S _ rfl b8 _ 1 1 _ rfl bB (tC) X eL ?_;intro cR cI ae cX dD eo))
       go_roundw
       case rel=>
        have cV:qv base ae cR cI (rB a g):=by
         unfold qv;rw[cb.out,K_,FI];exact cX
        refine⟨e+1,cR,cI,rB a g,X,gn,by rw[cb.out,K_];rfl,cV,bM.trans (.add bY.out),(ce.trans (.jX D)).trans (.app dD b8 s_),?_,?_⟩
        .have F:Bs bn (some (Z dx bm)) b:=Sl.g_ ca.out D
         exact Sl.sy F λhn br o bl hb=>dD.block br hb λhe=>G.out br o bl hn he.symm
        .intro x f h1 h2;rw[cb.out,K_]
         have bG:=by
          have F:Bs bn (some (Z dx bm)) b:=Sl.g_ ca.out D;unfold Bs at F;rw[h1]at F;exact F.lt h2
         rcases eo with ho|ho
         .exact λK=>G.out x f h1 h2 (ho.symm.trans K)
         .exact λK=>by
           have:some bn.heap.size=some x:=ho.symm.trans K
           injection this;omega
       case measure=>exact mz
     .go_wp2;go_roundw
      case rel=>exact⟨h+1,U,S,a,X,gn,gn,bL,bQ,(z.trans (.jX MT)).trans ce⟩
      case measure=>exact mz
   .have b:=cn.nd .nil
    have a:=λx y=>(cn.new x y).elim (λt=>by cases t) id
    have e:=lx P V b a;go_wp2;rw[aI.out];refine⟨aD,am,P,rfl,C.bs,a,e,λx f E _=>?_,hg.trans (z.gr (by rw[cT.out];exact H_ _))⟩;subst E
    have:=(kx C (x:=x) rfl).1
    omega
def Dt(c:V.length<=1000)(p:Nat->Prop)(d:Nat)(t:ET)(h:EG V d t):E9 V p t:=by
 induction h with
 |num d n _ _=>exact uT V c p 1 n _ 0 none 0 [] (λh=>U_ h I) s_ (λb a=>by cases a)
 |var d s f=>exact uT V c p 3 0 s 0 none 0 [] (λ_=>f) s_ (λb a=>by cases a)
 |new d n _ _=>exact uT V c p 6 n _ 0 none 0 [] (λh=>U_ h I) s_ (λb a=>by cases a)
 |field d n e s _ _ f=>
  refine uT V c p 4 n _ 0 e 1 [jv s] (λh=>U_ h I) s_ (λb a=>?_)
  have:b=jv s:=zu a
  subst this;exact uT V c p 3 0 s 0 none 0 [] (λ_=>f) s_ (λb a=>by cases a)
 |bin d o e i g _ _ _ _ k j=>
  refine uT V c p 5 0 _ o e 2 [i,g] (λh=>U_ h I) s_ (λb a=>?_)
  rcases N_.1 a with rfl|a
  .exact k
  .have:b=g:=zu a
   subst this;exact j
structure PC(w:World)(PA:OA)(fs:List FT):Prop where
 hfs:B2 w PA fs
 len:fs.length=3
 i1:ul qt fs 0=1
 i2:ul pV fs 0=2
 l1:∀h:1<fs.length,fs[1].ps.length=2
 l2:∀h:2<fs.length,fs[2].ps.length=1
def PC.g_{w:World}{fs:List FT}(h:PC w PA fs)(a:J [] w w'):PC w' PA fs:=⟨Sl.g_ h.hfs a,h.len,h.i1,h.i2,h.l1,h.l2⟩
def PC.qq{w:World}{fs:List FT}(h:PC w PA fs):∃b a A c A' c',PA=some (Z b a)/\w.cell? (Z b (a+3+1))=some (.slice A 2 c)/\w.cell? (Z b (a+6+1))=some (.slice A' 1 c'):=by
 have u:=h.len;obtain⟨b,a,f,_,g,_⟩:=h.hfs.at_ (k:=1) X;obtain⟨t,r,e,_,i,_⟩:=h.hfs.at_ (k:=2) X;rw[f]at e;injection e with e;injection e with j p;subst j;subst p;rw[h.l1 X]at g;rw[h.l2 X]at i;exact⟨b,a,_,_,_,_,f,g,i⟩
def PC.idx{w:World}{fs:List FT}(h:PC w PA fs)(pc:Nat):Calls prog 170 #[.agg #[.slice PA 3 pc],.string qt] w (λe w'=>e=.returned (Y 1)/\J [] w w')/\Calls prog 170 #[.agg #[.slice PA 3 pc],.string pV] w (λe w'=>e=.returned (Y 2)/\J [] w w'):=by
 have a:=nO PA 3 pc fs qt w h.len h.hfs X;have b:=nO PA 3 pc fs pV w h.len h.hfs X;rw[h.i1]at a;rw[h.i2]at b;exact⟨a,b⟩
def m7.call{k:Int}{x f:ByteArray}{L:Bool}(h:m7 V k x f n o m B L)(a:k=3):(f=qt/\m=2)∨(f=pV/\m=1):=by
 cases h<;>first|exact U_ a I|exact .inl ⟨rfl,rfl⟩|exact .inr ⟨rfl,rfl⟩
def m7.EQ{k:Int}{x f:ByteArray}{L:Bool}(h:m7 V k x f n o m B L)(a:k=12):r9 o=true:=by
 cases h<;>first|exact U_ a I|(rename_i b;rcases b with rfl|rfl|rfl<;>rfl)
def DL(V:List ByteArray)(D:Nat):Prop:=∀(N:Nat) (PA:OA) (pc:Nat) (fs:List FT) (VA:OA) (vc:Nat) (vs:List ByteArray) (A:OA) (n c:Nat) (ts:List ST) (p:Nat->Prop) (w:World),N<=1000->ts.length=n->l3 V D N ts->(∀x∈V,x∈vs)->vs.length<=1000->Bs w VA vs->PC w PA fs->Sl w 229 8 A n (ts.flatMap ST.E)->(∀u∈ts,jD p w u)->
 Calls prog 172 #[.agg #[.slice PA 3 pc],.slice VA vs.length vc,.slice A n c] w (vJ (Y 0) w)
def AG(bp:V.length<=1000)(E:Nat)(HD:∀r,E=r+1->DL V r):DL V E:=by
 intro al PA pc fs VA vc vs an n aA w p bd cV hn aE bk MR hbs s4 a8 jQ
 refine ig λbr aI=>?_
 obtain⟨bx,gx,be,hx,hg,MT⟩:=box1 bd 150 #[.slice PA 3 pc];have aW:=O hn;have b3:=O (a8.g_ hg);have cS:=O (λu hu=>(jQ u hu).g_ hg:∀u∈w,jD p bx u);have cT:=O (Sl.g_ hbs hg:Bs bx VA vs);have g:=O (s4.g_ hg);have ck:=O bk;have cU:=O (show l3 V E al (w.drop 0) from aE);have cv:n<=1000:=ov aE.len;obtain⟨v9,P⟩:=mn_ vs.length;rw[P]at MR;have d:=O P;clear hn a8 jQ hbs s4 bk aE;rw[P];clear P
 go_enter func172,ntmps172
 go_wp2;have bl:=O be;clear be hx
 go_loopw [18] (λc w'=>∃(k a ca:Nat),k<=n/\c=Y k/\a+ca=al/\l3 V E ca (w.drop k)/\J [] bx w') (λc _=>n-(intOf c).toNat)
 case atStart=>exact⟨0,0,al,P_ _,gn,X,cU.out,H _ _⟩
 case round=>
  obtain⟨k,a,ca,hk,rfl,hab,bQ,F⟩:=hrel;have ar:=O hab;clear hab
  by_cases aj:k<n
  .have aF:k<w.length:=ov aW.out;obtain⟨bn,off,cb,A,j,v,C,D,z5,b6,cO⟩:=ST.at_ (b3.out.g_ F) aW.out aF;subst cb;rw[Y_ aF]at bQ;obtain⟨G,b2,bM,bq,bY⟩:=bQ.split;have q:=O bM;have ay:=(cS.out _ (M_ aF)).g_ F;generalize w[k]=t at A j v C D z5 b6 cO bq ay;clear bQ bM;obtain⟨r,nb,nl,aH,bt,hD,bv,L,ax,aO,hes,hb,hl⟩:=bq.one;have aV:=HD r hD;have h:=O bv;have bz:=O bY;obtain⟨R,p2,p3,aZ,cz,M⟩:=ay.parts
   have hbl:nb+nl+1<=1000:=by have:=ar.out;have:=q.out;omega
   have cn:=L.rng;have bN:=O L.call;have bT:=O L.EQ;clear hD bv L bq ax aO bY;obtain⟨I,aL,bZ,hg1,b,bw⟩:=box1 wr 229 #[Y t.hS,.string t.name,.string t.fn,Y t.n,Y t.op,.slice t.AE t.es.length t.cE,.slice t.AB t.bs.length t.cB,.slice t.AL t.ls.length t.cL];obtain⟨MN,ai,aB,aS,aX,bB,z,y⟩:=bw.i0;have bI:=F.trans b;replace R:=Sl.g_ R b
   replace p2:∀u∈t.es,kl p I u:=λu hu=>(p2 u hu).g_ b
   replace p3:=Sl.g_ p3 b
   replace aZ:∀u∈t.bs,jD p I u:=λu hu=>(aZ u hu).g_ b
   replace cz:=Sl.g_ cz b
   replace M:∀u∈t.ls,jD p I u:=λu hu=>(M u hu).g_ b
   have bJ:=O R;obtain⟨m,U⟩:=mn_ t.es.length;rw[U]at bB cn;have ap:=O U;clear U R b F
   go_upto_region 5 with fail
   clear bZ hg1 MN ai aB aS aX bB z y A j v C D z5 b6 cO
   go_loopw [25] (λc w'=>∃i:Nat,i<=m/\c=Y i/\J [] I w') (λc _=>m-(intOf c).toNat)
   case atStart=>exact⟨0,X,gn,H _ _⟩
   case round=>
    obtain⟨i,hi,rfl,b⟩:=hrel
    by_cases aM:i<m
    .have a7:i<t.es.length:=ov ap.out;obtain⟨eh,b7,au,A,j,v,C,D⟩:=ET.at_ (Sl.g_ bJ.out b) a7;have bj:=Dt bp p 2 t.es[i] (hes _ (M_ a7));have hu:=(p2 _ (M_ a7)).g_ b;generalize t.es[i]=u at A j v C D bj hu;obtain⟨bf,aQ,bD,MS,bP,aP⟩:=box1 wr 226 #[Y u.hS,Y u.n,.string u.name,Y u.op,.slice u.A u.l.length u.c];obtain⟨aT,bi,cc,ao,MP⟩:=aP.cells5;have aY:=O (bj bf (hu.g_ bP));rw[au];clear bj hu au
     go_wp2_with fail
     go_at_call 199
     refine aY.out.mono ?_;rintro e ah⟨aK,aJ,N,rfl,ce,a2,b0,_,az⟩;have dM:=(b.trans bP).trans az;have cf:=O ce;obtain⟨Q,bg⟩:=mn_ N.length;have bS:=O bg;have b5:Q<=1000:=X;clear aT bi cc ao MP A j v C D ce b0;rw[bg];clear bg
     go_wp2_with fail
     go_loopw [32] (λc w'=>∃f:Nat,f<=Q/\c=Y f/\w'=ah) (λc _=>Q-(intOf c).toNat)
     case atStart=>exact⟨0,X,gn,rfl⟩
     case round=>
      obtain⟨f,hj,rfl,rfl⟩:=hrel
      by_cases B:f<Q
      .have bL:f<N.length:=ov bS.out;obtain⟨dx,bm,aN,cg⟩:=Sl.f_ cf.out X;have y:=cg f (.string N[f]) (by rw[F4,L_ bL];rfl);have W:=ck.out _ (a2 _ (M_ bL));generalize N[f]=bX at y W;have s:=oL VA _ vc vs bX wr d.out (Sl.g_ cT.out (bI.trans dM)) X;rw[rp.2 W]at s;have bO:=O s;rw[aN];clear cg W aN s
       go_wp2_with (go_at_call 171;refine bO.out.mono ?_;rintro e T⟨rfl,rfl⟩)
       go_roundw
       case rel=>exact⟨f+1,X,gn,trivial⟩
       case measure=>exact mz
      .go_wp2;go_roundw
       case rel=>exact⟨i+1,X,gn,dM⟩
       case measure=>exact mz
    .have hg1:=bI.trans b;have aq:=bw.g_ b;obtain⟨MN,ai,aB,aS,aX,bB,z,y⟩:=aq.i0
     go_upto_if 44 with fail
     go_cut [13] (λc a6=>J [] wr a6)
     case first=>
      by_cases f:t.hS=3
      .have N:(t.hS==3)=true:=by simp[f]
       have Q:=bN.out f;rw[ap.out]at Q;clear f;have b4:wr.cell? (Z gx 0)=some (.slice PA 3 pc):=(MT.g_ hg1).f_ 0
       rcases Q with⟨hf,W⟩|⟨hf,W⟩
       all_goals (subst W)
       .rw[hf]at aB;have ae:=O ((g.out.g_ hg1).idx pc).1;exact IN
       .rw[hf]at aB;have ae:=O ((g.out.g_ hg1).idx pc).2;exact IN
      .have N:(t.hS==3)=false:=by simp[f]
       clear f;go_wp2;go_meet;exact H _ _
     case rest=>
      have bo:=b.trans hcut;have MS:=hg1.trans hcut;have K:=aq.g_ hcut;clear MN ai aB aS aX bB z y hcut;obtain⟨MN,ai,aB,aS,aX,bB,z,y⟩:=K.i0;have b4:wc.cell? (Z gx 0)=some (.slice PA 3 pc):=(MT.g_ MS).f_ 0
      by_cases f:t.hS=12
      .have N:(t.hS==12)=true:=by simp[f]
       have s:=vd t.op wc;rw[bT.out f]at s;have Q:=O s;clear f s
       go_upto_region 22 with(go_at_call 179;refine Q.out.mono ?_;rintro e ah⟨rfl,rfl⟩)
       exact Ir
      .have N:(t.hS==12)=false:=by simp[f]
       clear f
       go_upto_region 22 with fail
       exact Ir
  .exact Mt
def yy{V:List ByteArray}(b:V.length<=1000):∀a,DL V a
 |0=>AG b 0 λr h=>by omega
 |a+1=>AG b (a+1) λr c=>by
  have e:r=a:=X;subst e;exact yy b r
