import Derived.Test.YtenbhdilndfaeaaGreatM17
set_option maxRecDepth 100000
set_option maxHeartbeats 0
set_option linter.all false
namespace Go.Proofs.YtenbhdilndfaeaaGreat
open Go.RowKit Go.Proofs.Tryz
variable{G:Prop}{n o:Int}{s:ByteArray}{base m:Nat}{V l:QU}{T:List TypeId}{B:Bool}{q:Nat->Prop}{w':World}{PA:OA}(d:Nat)
def I3(h:G:=by
 have bz:=O (HB nb PA pc fs VA vc vs t.AB _ t.cB t.bs p wc X rfl hb cI.out (by rw[h.out];exact au) (Sl.hF di.out Np) (l.out.hF Np) (Sl.hF y bw) (λu hu=>(ar u hu).hF bw));rw[h.out]at bz;go_wp2_with fail;go_at_call 172;refine bz.out.mono ?_;rintro e ae⟨rfl,ad⟩;have x:=bw.trans ad;have cn:=Np.trans ad;have aY:ae.cell? (Z gx 0)=some (.slice PA 3 pc):=(C.hF cn).f_ 0;have aO:=Nu.hF ad;clear U ah ay aS ax bP bQ z ck;obtain⟨U,ah,ay,aS,ax,bP,bQ,z⟩:=aO.i4;have q:=O (HB nl PA pc fs VA vc vs t.AL _ t.cL t.ls p ae X rfl hl cI.out (by rw[h.out];exact au) (Sl.hF di.out cn) (l.out.hF cn) (Sl.hF cA x) (λu hu=>(P u hu).hF x));rw[h.out]at q;go_wp2_with fail;go_at_call 172;refine q.out.mono ?_;rintro e Nq⟨rfl,ai⟩;go_wp2;go_roundw
 case rel=>
  have aJ:=o.out;have aG:=ap.out;have bD:=Nw.out;exact⟨k+1,a+T,b2,X,gn,X,aF.out,cn.trans ai⟩
 case measure=>exact mz):G:=h
def Jp(h:G:=by
 clear hf;go_upto_region 18 with(go_at_call 170;refine K.out.mono ?_;rintro e af⟨rfl,S⟩);obtain⟨bf,off,A1,c1,aw,aj,s,bL,cf⟩:=((l.out.hF hg1).hF S).p3;have bJ:af.cell? (Z gx 0)=some (.slice PA 3 pc):=(C.hF (hg1.trans S)).f_ 0;have bl:=(av.hF S).i4.2.2.2.2.2.1;rw[HM.out]at bl;rw[s]at bJ;clear U ah ay aS ax bP bQ z ck s;go_quiet (fail);go_wp2;go_meet;exact S.trans ((F_ [] _).drewN _)):G:=h
def L7(h:G:=by
 have h3:(i+1:Int)*nb d<=m*nb d:=HQ X (ov j.out);rw[Int.add_mul,Int.one_mul]at h3;omega):G:=h
def Mh(h:G:=by
 have h1:=br.out;have h2:=r.out;have h3:(i:Int)*nb d<=m*nb d:=HQ X (ov j.out);omega):G:=h
def Mv(h:G:=by
 go_wp2;go_quiet (fail);go_wp2;go_meet;exact⟨rfl,rfl,rfl,(F_ [] _).drewN _⟩):G:=h
def nb:Nat->Int|0=>1|d+1=>1+2*nb d
def xK:1<=nb d:=by induction d with|zero=>decide|succ d a=>unfold nb;omega
def EC(d:Nat)(w:World)(e:Ending)(w':World):Prop:=∃N:Int,1<=N/\N<=nb d/\e=.returned (Y N)/\J [] w w'
def Fn(d:Nat)(p:Nat->Prop)(t:ET):Prop:=∀(left:Int) (w:World),nb d<=left->left<=16->kw p w t->Calls prog 223 #[.agg t.g_,Y left] w (EC d w)
inductive Kd:Int->Int->ByteArray->Int->Nat->Prop
 |num (n:Int):Kd 1 n i6 0 0
 |var (s:ByteArray) (h:mA s):Kd 3 0 s 0 0
 |new (n:Int) (h0:0<=n) (h1:n<=3):Kd 6 n i6 0 0
 |field (n:Int) (h0:0<=n) (h1:n<=2):Kd 4 n i6 0 1
 |bin (o:Int) (h0:1<=o) (h1:o<=11):Kd 5 0 i6 o 2
def Kd.FW{k:Int}(h:Kd k n s o m):m<=2:=by cases h<;>omega
def yr:i6.toList=[]:=by rw[HS];rfl
def tk(p:Nat->Prop)(k n:Int)(s:ByteArray)(o:Int)(A:OA)(c:Nat)(l:QE)(E:Int)(hD:E<=7)(F:Kd k n s o l.length)(hl:∀u∈l,Fn d p u)(left:Int)(w:World)(N:1+l.length*nb d<=left)(V:left<=16)(U:1+l.length*nb d<=E)(Q:kw p w (.mk k n s o A c l)):
 Calls prog 223 #[.agg (ET.mk k n s o A c l).g_,Y left] w λe w'=>∃a:Int,1<=a/\a<=E/\e=.returned (Y a)/\J [] w w':=by
 refine h6 λad ao=>?_;have W:=xK d;have bO:l.length<=2:=F.FW;have M:Sl w 226 5 A l.length (l.flatMap ET.E):=by cases Q with|mk ae P _ _ _=>exact P
 have Nw:∀u∈l,kw p w u:=by cases Q with|mk ae _ _ _ P=>exact P
 have Nr:1<=left:=ov (Int.mul_nonneg (show(0:Int)<=l.length by omega) (show(0:Int)<=nb d by omega));obtain⟨m,D⟩:=mn_ l.length;obtain⟨af,ai,aV,hg,g,b⟩:=box1 w 226 (ET.mk k n s o A c l).g_;replace b:Bk af ai 226 #[Y k,Y n,.string s,Y o,.slice A m c]:=by rw[<-D];exact b
 rw[D]at F bO M N U;obtain⟨h,v,y,t,x⟩:=b.cells5;have HM:=O D;have b8:=O (M.hF g);clear D M Q;have hq1:¬left<1:=X;go_enter func223,ntmps223;go_upto_region 2 with(go_at_call 180;refine(qM o).mono ?_;rintro e w1⟨⟨s1,rfl⟩,z⟩);replace b:=b.hF z;replace g:=g.trans z;have B:=O (b8.out.hF z);clear b8 z h v y t x;obtain⟨h,v,y,t,x⟩:=b.cells5;have Nt:=yr
 go_upto_block 0 with fail
 go_cut [7,8,9] (λI ak c a8=>I=.bool true/\ak=Y m/\c=.bool true/\J [] w1 a8)
 case first=>
  rcases F with⟨_⟩|⟨_,K⟩|⟨_,C,h1⟩|⟨_,C,h1⟩|⟨_,C,h1⟩
  .go_wp2;go_meet;exact⟨rfl,rfl,rfl,F_ _ _⟩
  .go_wp2_with (go_at_call 197;refine(nN K).mono ?_;rintro e w2⟨rfl,f⟩;replace b:=b.hF f;clear h v y t x;obtain⟨h,v,y,t,x⟩:=b.cells5);go_meet;exact⟨rfl,rfl,rfl,f⟩
  have h2:n<=16:=X;exact Mv;have h2:n<16:=X;exact Mv;have L:pE o=true:=by simp[pE];omega
  go_wp2;go_meet;exact⟨rfl,rfl,rfl,F_ _ _⟩
 obtain⟨rfl,rfl,rfl,f⟩:=hcut;replace b:=b.hF f;replace g:=g.trans f;have al:=O (B.out.hF f);clear B f h v y t x Nt;obtain⟨h,v,y,t,x⟩:=b.cells5;have am:=O N;have r:=O U;have j:=O W;clear N U W;go_upto_region 22 with fail;have bJ:J [] wc wc:=F_ _ _;go_loopw [10,118] (λI L w'=>∃(k:Nat) (a:Int),k<=m/\L=Y k/\I=Y a/\1<=a/\a<=1+k*nb d/\J [] wc w') (λ_ L _=>m-(intOf L).toNat)
 case atStart=>exact⟨0,1,X,gn,rfl,X,H,bJ⟩
 obtain⟨i,a,hi,rfl,rfl,q,an,C⟩:=hrel;have br:=O an;clear an;have T:a<=7:=Mh;by_cases ag:i<m
 .have K:i<l.length:=ov HM.out;obtain⟨ak,off,hA,aB,c1,aj,c3,c4⟩:=ET.at_ (by rw[HM.out];exact al.out.hF C) K;have S:=hl l[i] (N_ K);have R:=(Nw _ (N_ K)).hF g |>.hF C;subst hA;generalize l[i]=u at aB c1 aj c3 c4 S R;obtain⟨ap,bz,b6,z,G,ar⟩:=box1 wr 226 #[Y u.h7,Y u.n,.string u.name,Y u.op,.slice u.A u.l.length u.c];obtain⟨z0,aR,aZ,z3,z4⟩:=ar.cells5
  have Z:nb d<=left-a:=by
   have h1:=br.out;have h2:=am.out;exact L7
  have aK:=O (S (left-a) ap Z X (R.hF G));clear S R Z;go_wp2_with fail;refine aK.out.mono ?_;rintro e w2⟨au,av,cu,rfl,aw⟩;have bD:=O cu;have cH:a+au<=7:=by
   have h1:=br.out;have h2:=r.out;exact L7
  clear cu;go_wp2;go_roundw
  case rel=>
   refine⟨i+1,a+au,X,gn,rfl,X,?_,(C.trans G).trans aw⟩;have h1:=br.out;have h2:=bD.out;have h3:((i+1:Nat):Int)*nb d=i*nb d+nb d:=by rw[show((i+1:Nat):Int)=(i:Int)+1 by omega,Int.add_mul,Int.one_mul]
   omega
  case measure=>exact mz
 go_wp2;rw[ao.out];refine⟨a,q,?_,rfl,g.trans C⟩;exact Mh
def zr(r:∀s∈V,mA s)(p:Nat->Prop)(d:Nat)(t:ET)(h:EG V d t)(a:d<=2):Fn d p t:=by
 have B:∀d,d<=2->nb d<=7:=by
  intro d a;rcases(by omega:d=0∨d=1∨d=2)with rfl|rfl|rfl<;>decide
 have g:∀(d:Nat) (f n:Int) (s:ByteArray) (o:Int),d<=2->Kd f n s o 0->Fn d p (.mk f n s o none 0 []):=by
  intro d f n s o a x left w c h2 hE;have:=xK d;exact(tk 0 p f n s o none 0 [] 1 X x (λi b=>by cases b) left w p_ h2 H hE).mono λI w'⟨v,z,T,A,C⟩=>⟨v,z,X,A,C⟩
 induction h with
 |num d n _ _=>exact g d _ _ _ _ a (.num n)
 |var d s k=>exact g d _ _ _ _ a (.var s (r s k))
 |new d n e c=>exact g d _ _ _ _ a (.new n e c)
 |field d n j s e c k=>
  intro left w h1' h2 hE;have D:nb (d+1)=1+2*nb d:=rfl;have:=xK d;have:=B (d+1) a;refine(tk d p 4 n i6 0 j 1 [jy s] (nb (d+1)) this (.field n e c) (λi b=>?_) left w p_ h2 p_ hE);have:i=jy s:=zu b;subst this;exact g d _ _ _ _ X (.var s (r s k))
 |bin d o j y u e c _ _ F E=>
  intro left w h1' h2 hE;have D:nb (d+1)=1+2*nb d:=rfl;have:=B (d+1) a;refine(tk d p 5 0 i6 o j 2 [y,u] (nb (d+1)) this (.bin o e c) (λi b=>?_) left w p_ h2 p_ hE);rcases O_.1 b with rfl|b
  exact F X;have:i=u:=zu b;subst this;exact E X
def xU(k:∀s∈V,mA s)(p:Nat->Prop)(t:ET)(h:EG V 2 t)(w:World)(v:kw p w t):
 Calls prog 222 #[.agg t.g_] w λe w'=>e=.returned (.bool true)/\J [] w w':=by
 refine h6 λx r=>?_;obtain⟨c,u,C,H,b,a⟩:=box1 w 226 t.g_;replace a:Bk c u 226 #[Y t.h7,Y t.n,.string t.name,Y t.op,.slice t.A t.l.length t.c]:=a;obtain⟨y,D,F,A,E⟩:=a.cells5;have j:=O (zr k p 2 t h X 16 c I X (v.hF b));go_enter func222,ntmps222;go_wp2_with (go_at_call 223;refine j.out.mono ?_;rintro e K⟨g,L,f,rfl,i⟩;have z:g<=16:=Int.le_trans f I;clear f);rw[r.out];exact⟨rfl,b.trans i⟩
def vE(v:Value)(w:World)(e:Ending)(w':World):Prop:=e=.returned v/\J [] w w'
def t8(aN:∀s∈V,mA s)(p:Nat->Prop)(k:Int)(x f:ByteArray)(n o:Int)(F:OA)(U:Nat)(es:QE)(P:OA)(S:Nat)(H:QV)(Q:OA)(W:Nat)(M:QV)(B L:Bool)(w:World)(E:m_ V k x f n o es.length B L)(hB:B=false->H=[])(hL:L=false->M=[])(hes:∀e∈es,EG V 2 e)(bn:Sl w 226 5 F es.length (es.flatMap ET.E))(ku:∀u∈es,kw p w u):
 Calls prog 215 #[.agg (ST.mk k x f n o F U es P S H Q W M).g_] w (vE (.bool true) w):=by
 refine h6 λad ao=>?_;obtain⟨m,K⟩:=mn_ es.length;rw[K]at E;have HM:=O K;obtain⟨z,gx,aV,hx,Z,a⟩:=box1 w 229 (ST.mk k x f n o F U es P S H Q W M).g_;replace a:Bk z gx 229 #[Y k,.string x,.string f,Y n,Y o,.slice F m U,.slice P H.length S,.slice Q M.length W]:=by rw[<-K];exact a
 have b8:=O (bn.hF Z);have cV:=O (λu C=>(ku u C).hF Z:∀u∈es,kw p z u);clear K bn ku;have Nt:=yr;obtain⟨_,eS,ae⟩:=yz;have de:=O eS;have af:=O ae;clear eS ae;rcases E with⟨_,d⟩|⟨_,dw,cO⟩|⟨_,d⟩|⟨_,d⟩|_|⟨_,d⟩|_|_|_|⟨_,d⟩|_|⟨_,d⟩|⟨_,d,_,eY⟩
 all_goals
  (try(have hbs:=hB rfl;subst hbs))
  (try(have hls:=hL rfl;subst hls))
  (try have ai:=O (aN _ d))
  clear hB hL;(try simp only[Gz]at a);obtain⟨g,i,r,h,j,t,v,y⟩:=a.i4;go_enter func215,ntmps215;go_upto_region 5 with(go_at_call 216;refine(uz _ _ I I).mono ?_;rintro e w'⟨rfl,rfl⟩;simp only[EK.v,prt])
 all_goals
  clear g i r h j t v y;have aM:=HM.out;have bJ:J [] z z:=F_ _ _;go_loopw [49] (λR w'=>∃k:Nat,k<=es.length/\R=Y k/\J [] z w') (λR _=>es.length-(intOf R).toNat)
  case atStart=>exact⟨0,L_ _,gn,bJ⟩
  obtain⟨D,hi,rfl,b⟩:=hrel;by_cases A:D<es.length
  .obtain⟨ak,off,hA,aB,c1,aj,c3,c4⟩:=ET.at_ (b8.out.hF b) A;have c:=hes es[D] (N_ A);have C:=(cV.out _ (N_ A)).hF b;subst hA;generalize es[D]=u at aB c1 aj c3 c4 c C;obtain⟨al,bz,b6,hg1,G,am⟩:=box1 wr 226 #[Y u.h7,Y u.n,.string u.name,Y u.op,.slice u.A u.l.length u.c];obtain⟨z0,aR,aZ,z3,z4⟩:=am.cells5;have aK:=O (xU aN p u c al (C.hF G));have aG:=A;rw[aM]at aG;clear c C;first
    |(exact Gc aG X)
    |(go_wp2_with (go_at_call 222;refine aK.out.mono ?_;rintro e N⟨rfl,an⟩)
      go_roundw;exact⟨D+1,X,gn,(b.trans G).trans an⟩;exact mz)
  have bK:¬D<es.length:=A;rw[aM]at bK;replace a:=a.hF b;obtain⟨g,i,r,h,j,t,v,y⟩:=a.i4;(try(have ap:n<16:=by omega));(try(have ar:pE o=true:=by rcases eY with rfl|rfl|rfl<;>rfl));clear bK bJ;go_upto_region 11 with((first|(go_at_call 180;refine(qM _).mono ?_;rintro e N⟨⟨aW,rfl⟩,c⟩)|(go_at_call 197;refine(nN (by first|exact ai.out|exact de.out|exact af.out)).mono ?_;rintro e N⟨rfl,c⟩));replace b:=b.trans c;replace a:=a.hF c;clear c g i r h j t v y;obtain⟨g,i,r,h,j,t,v,y⟩:=a.i4);simp only[List.append_eq,Hx,Gf];go_wp2_with ((first|(go_at_call 180;refine(qM _).mono ?_;rintro e N⟨⟨aW,rfl⟩,c⟩)|(go_at_call 197;refine(nN (by first|exact ai.out|exact de.out|exact af.out)).mono ?_;rintro e N⟨rfl,c⟩));replace b:=b.trans c;replace a:=a.hF c;clear c g i r h j t v y;obtain⟨g,i,r,h,j,t,v,y⟩:=a.i4);rw[ao.out];exact⟨rfl,Z.trans b⟩
def ED(N D:Nat)(w:World)(e:Ending)(w':World):Prop:=∃dp:Int,0<=dp/\dp<=D/\e=.returned (.tuple #[Y N,Y dp,.bool true])/\J [] w w'
def Fp(V:QU)(D:Nat):Prop:=∀(N:Nat) (A:OA) (n c:Nat) (ts:QV) (p:Nat->Prop) (w:World),N<=1000->ts.length=n->l4 V D N ts->Sl w 229 8 A n (ts.flatMap ST.E)->(∀u∈ts,jL p w u)->
 Calls prog 198 #[.slice A n c] w (ED N D w)
def C8(aN:∀s∈V,mA s)(f:Nat)(ai:f<=1000)(HD:∀r,f=r+1->Fp V r):Fp V f:=by
 intro p aj n ak v F al cW hn Z bn ku;refine h6 λan ao=>?_;have z:=O hn;have b8:=O bn;have aQ:l4 V f p (v.drop 0):=Z;have cQ:n<=1000:=ov Z.len;go_enter func198,ntmps198;go_wp2;go_loopw [5,6,17] (λau dv A w'=>∃(e g t:Nat) (h:Int),e<=n/\A=Y e/\au=Y g/\dv=Y h/\0<=h/\h<=f/\g+t=p/\l4 V f t (v.drop e)/\J [] al w') (λ_ _ A _=>n-(intOf A).toNat)
 case atStart=>exact⟨0,0,p,0,L_ _,gn,gn,rfl,X,X,X,aQ,F_ _ _⟩
 obtain⟨e,g,t,h,hk,rfl,rfl,rfl,a2,cM,hab,u,k⟩:=hrel;have o:=O hab;have l:g<=1000:=X;by_cases ag:e<n
 .have y:e<v.length:=ov z.out;obtain⟨bE,off,hA,z0,aR,aZ,z3,z4,z5,cv,cU⟩:=ST.at_ (b8.out.hF k) z.out y;subst hA;rw[R_ y]at u;obtain⟨T,b2,bW,S,ca⟩:=u.split;have P:=O bW;have N:=(ku _ (N_ y)).hF k;generalize v[e]=a at z0 aR aZ z3 z4 z5 cv cU S N;obtain⟨r,nb,nl,aP,bq,hD,bt,av,a6,Nv,hes,hb,hl⟩:=S.one;have HB:=HD r hD;have Nw:=O bt;obtain⟨p1,aw,az,ar,cA,aA⟩:=N.parts;have hbl:nb+nl+1<=1000:=by have:=o.out;have:=P.out;omega
  have d:(r:Int)+1=f:=X;have aC:=O d;have aK:=O (λK(hg:J [] wr K)=>t8 aN F a.h7 a.name a.fn a.n a.op a.AE a.cE a.es a.AB a.cB a.bs a.AL a.cL a.ls aP bq K av a6 Nv hes (p1.hF hg) (λj i=>(aw j i).hF hg));obtain⟨aD,gx,b6,aH,G,x⟩:=box1 wr 229 #[Y a.h7,.string a.name,.string a.fn,Y a.n,Y a.op,.slice a.AE a.es.length a.cE,.slice a.AB a.bs.length a.cB,.slice a.AL a.ls.length a.cL];obtain⟨I,M,R,L,Q,U,W,aF⟩:=x.i4;go_wp2_with fail;go_at_call 215;refine(aK.out aD G).mono ?_;rintro aI w2⟨rfl,w⟩;have D:=G.trans w;obtain⟨I,M,R,L,Q,U,W,aF⟩:=(x.hF w).i4;go_wp2_with fail;go_at_call 198;refine(HB nb a.AB _ a.cB a.bs F _ X rfl hb (az.hF D) (λj i=>(ar j i).hF D)).mono ?_;rintro aI af⟨b,aB,m,rfl,H⟩;have E:=D.trans H;obtain⟨I,M,R,L,Q,U,W,aF⟩:=(x.hF (w.trans H)).i4;go_wp2_with fail;go_at_call 198;refine(HB nl a.AL _ a.cL a.ls F _ X rfl hl (cA.hF E) (λj i=>(aA j i).hF E)).mono ?_;rintro aI ae⟨c,q,aL,rfl,ad⟩;have aM:=E.trans ad;have bZ:0<=(if b<c then c else b)/\(if b<c then c else b)<=1000:=by have b4:=aC.out;split<;>omega
  have pe:wrap64 (1+if b<c then c else b)=1+(if b<c then c else b):=by
   generalize (if b<c then c else b)=aO at bZ |-;unfold wrap64;omega
  go_wp2;go_roundw
  case rel=>
   have aJ:=o.out;have aG:=P.out;have C:=Nw.out;have b4:=aC.out;refine⟨e+1,g+T,b2,_,X,gn,by rw[C];go_num,rfl,?_,?_,X,ca,k.trans aM⟩;split<;>(try split)<;>omega;split<;>(try split)<;>omega
  case measure=>exact mz
 go_wp2;rw[ao.out];have aJ:t=0:=by
  rw[GD (ov z.out)]at u;cases u;rfl
 have aG:=o.out;have C:g=p:=X;subst C;refine⟨rfl,.tuple #[Y g,Y h,.bool true],?_,h,a2,cM,rfl,k⟩
 kernel_rfl
def Bb{V:QU}(b:∀s∈V,mA s):∀a,a<=1000->Fp V a
 |0,_=>C8 b 0 X λr h=>by omega
 |a+1,h=>C8 b (a+1) X λr c=>by
  have e:r=a:=X;subst e;exact Bb b r X
structure Nm(V l l':QU):Prop where
 sub:∀x∈l,x∈l'
 new:∀x∈l',x∈l∨x∈V
 nd:l.Nodup->l'.Nodup
def Nm.refl(V l:QU):Nm V l l:=⟨λ_ a=>a,λ_ a=>.inl a,λa=>a⟩
def Nm.trans{f b c:QU}(h:Nm V f b)(k:Nm V b c):Nm V f c:=⟨λa e=>k.sub a (h.sub a e),λa e=>(k.new a e).elim (h.new a) .inr,λg=>k.nd (h.nd g)⟩
def ba_eq{x:ByteArray}(h:x.toList=s.toList):x=s:=by
 rw[HS,HS]at h;cases x;cases s
 congr 1;exact Array.toList_inj.1 h
def qP:hasB l s=true↔s∈l:=by
 unfold hasB;rw[List.any_eq_true];constructor;rintro⟨c,b,a⟩;have:c=s:=ba_eq (zu a);rw[<-this];exact b;intro a;exact⟨s,a,H⟩
def Nm.add(k:s∈V):Nm V l (qY l s):=by
 unfold qY;by_cases b:hasB l s=true;rw[U_ b];exact .refl _ _;rw[T_ b];have j:s∉l:=λi=>b (qP.2 i);refine⟨λc a=>Gn _ a,λc a=>?_,λh=>?_⟩;rcases W_.1 a with a|a
 .exact .inl a
 have:c=s:=zu a;subst this;exact .inr k;rw[HJ];refine⟨h,H,λp f e g=>?_⟩;have:e=s:=zu g;subst this;rintro rfl;exact j f
def wX:s∈qY l s:=by
 unfold qY;by_cases a:hasB l s=true;rw[U_ a];exact qP.1 a;rw[T_ a];simp
inductive nU(L:QU):List ST->Prop
 |nil:nU L []
 |cons (t:ST) (l:QV) (h:(prt t.h7).name=true->t.name∈L) (hb:nU L t.bs) (hl:nU L t.ls) (hr:nU L l):nU L (t::l)
def nU.mono{L M:QU}{l:QV}(h:nU L l)(e:∀x∈L,x∈M):nU M l:=by
 induction h with
 |nil=>exact .nil
 |cons f l h g i j a d c=>exact .cons f l (λb=>e _ (h b)) a d c
def nU.append{L:QU}{l m:QV}(h:nU L l)(k:nU L m):nU L (l++m):=by
 induction h with
 |nil=>exact k
 |cons e l h b c f _ _ a=>exact .cons e _ h b c a
def Ev(base:Nat)(V l:QU)(ts:QV)(w:World)(e:Ending)(w':World):Prop:=∃(A:OA) (c:Nat) (l':QU),e=.returned (.slice A l'.length c)/\p6 base w' A c l'/\Nm V l l'/\nU l' ts/\Gt base [9] w w'
def Fh(base:Nat)(V:QU)(D:Nat):Prop:=∀(N:Nat) (A:OA) (n c:Nat) (l:QU) (B:OA) (m d:Nat) (ts:QV) (p:Nat->Prop) (w:World),N<=1000->l.length=n->ts.length=m->m<=100000->l.Nodup->(∀x∈l,x∈V)->l4 V D N ts->p6 base w A c l->base<=w.heap.size->Sl w 229 8 B m (ts.flatMap ST.E)->(∀u∈ts,jL p w u)->
 Calls prog 174 #[.slice A n c,.slice B m d] w (Ev base V l ts w)
open Classical in
def ly:∀(l m:QU),l.Nodup->(∀x∈l,x∈m)->l.length<=m.length
 |[],_,_,_=>by simp
 |x::l,m,h,c=>by
  have i:=c x H;have b:=H4.1 h;obtain⟨j,k,rfl⟩:=List.append_of_mem i;have:=ly l (j++k) b.2 λf e=>by
   have g:f≠x:=by rintro rfl;exact b.1 e
   have:=c f (by simp[e]);simp only[W_,O_]at this |-
   rcases this with a|a|a
   exact .inl a;exact Gc a g;exact .inr a
  simp only[Y_,I_]at this |-;omega
def Gt.Ej{b w:World}{M:QY}(h:J M b w)(k:∀g∈M,base<=g/\∃cs t,Bk b g t cs/\t∈T):Gt base T b w:=
 ⟨h.os,h.tape,h.output,h.size,λc i a=>h.block c i λj=>by
   obtain⟨p,cs,t,e,f⟩:=k c j;rcases a with a|a
   omega;exact a _ _ _ e f⟩
def m_.nm{k:Int}{x f:ByteArray}{L:Bool}(h:m_ V k x f n o m B L)(a:(prt k).name=true):x∈V:=by
 cases h with
 |vC x h|wN x h|wM x h|AF x h|Cc x h|ask x h|red x h=>assumption
 |EO|Ea|EM|ret|EL|ES=>simp[prt]at a
def m_.kr{k:Int}{x f:ByteArray}{L:Bool}(h:m_ V k x f n o m B L):1<=k/\k<=12:=by cases h<;>decide
def C3(base:Nat)(V:QU)(L:V.length<=1000)(A:Nat)(HD:∀r,A=r+1->Fh base V r):Fh base V A:=by
 intro P al n an l B m d k az aA af hn hm cI Nv Nr bX aB aG bn ku;refine h6 λaC ao=>?_;subst hn;have HM:=O hm;have aD:=bn;have b8:=O aD;have aQ:l4 V A P (k.drop 0):=bX;clear hm bn aD;go_enter func174,ntmps174;go_wp2;go_loopw [0,9] (λov S w'=>∃(c:Nat) (A':OA) (c':Nat) (K:QU) (aF aI:Nat),c<=m/\S=Y c/\ov=.slice A' K.length c'/\p6 base w' A' c' K/\Nm V l K/\nU K (k.take c)/\Gt base [9] aA w'/\aF+aI=P/\l4 V A aI (k.drop c)) (λ_ S _=>m-(intOf S).toNat)
 case atStart=>exact⟨0,al,an,l,0,P,L_ _,gn,gn,aB,.refl _ _,.nil,.refl _ _ _,X,aQ⟩
 obtain⟨c,M,c1,z,a1,b1,hk,rfl,rfl,bJ,F,bT,v,hab,W⟩:=hrel;have o:=O hab;clear aQ hab;by_cases ag:c<m
 .have E:c<k.length:=ov HM.out;obtain⟨bE,off,hA,z0,aR,aZ,z3,z4,z5,cv,cU⟩:=ST.at_ (b8.out.gt v I) HM.out E;subst hA;rw[R_ E]at W;obtain⟨T,b2,bW,bF,ca⟩:=W.split;have ap:=O bW;have am:=(ku _ (N_ E)).gt v I I;obtain⟨a,ht⟩:=nm_ (k[c]);have bl:=O ht;rw[<-ht]at z0 aR aZ z3 z4 z5 cv cU bF am;clear W bW ht;obtain⟨r,nb,nl,aP,bq,hD,bt,N,_,_,_,hb,hl⟩:=bF.one;have HB:=HD r hD;obtain⟨_,_,aJ,U,cA,Q⟩:=am.parts;obtain⟨b0,bZ⟩:=N.kr;have eg:=N.nm;have hbl:=hb.len;have be:=hl.len;have cQ:nb<=1000/\nl<=1000:=by
   have:=o.out;have:=ap.out;have:=af;omega
  have aL:=F.nd Nv;have s:=λg y=>(F.new g y).elim (Nr g) id;have hl1:=G_ (ly z V aL s) L;clear hD bt N bF;obtain⟨D,gx,b6,aH,G,x⟩:=box1 wr 229 #[Y a.h7,.string a.name,.string a.fn,Y a.n,Y a.op,.slice a.AE a.es.length a.cE,.slice a.AB a.bs.length a.cB,.slice a.AL a.ls.length a.cL];obtain⟨aN,ah,ay,aS,ax,bP,bQ,aT⟩:=x.i4;have q:=iD bJ G;replace aJ:=Sl.hF aJ G;replace U:=λp j=>(U p j).hF G;replace cA:=Sl.hF cA G;replace Q:=λp j=>(Q p j).hF G;have bU:=v.trans (.jD G:Gt base [9] wr D);have R:=G_ aG ((v.trans (.jD G:Gt base [9] wr D)).size);have aX:=O eg;clear eg;go_upto_if 15 with(go_at_call 200;refine(wu b0 bZ).mono ?_;rintro e w2⟨rfl,rfl⟩)
  go_cut [0] (λov a8=>∃(t:OA) (c3:Nat) (u:QU),ov=.slice t u.length c3/\p6 base a8 t c3 u/\Nm V z u/\((prt a.h7).name=true->a.name∈u)/\Gt base [9] D a8)
  case first=>
   cases b:(prt a.h7).name with
   |true=>
    have w:=O (uR base M c1 z a.name D rfl q X R);have f:=O b;clear b;go_wp2_with (go_at_call 173;refine w.out.mono ?_;rintro e w2⟨t,c3,rfl,aV,i⟩);go_meet;refine⟨t,c3,_,rfl,aV,.add (aX.out f.out),λ_=>wX,(.Ej i λbd hg=>?_)⟩;obtain⟨J,C,h2⟩:=qJ q (jK.1 hg);exact⟨J,C,_,h2,H⟩
   |false=>
    have f:=O b;clear b;go_wp2;go_meet;exact⟨M,c1,z,rfl,q,.refl _ _,λe=>Gc (e.symm.trans f.out) I,.refl _ _ _⟩
  obtain⟨t,c3,u,rfl,aV,dK,b4,i⟩:=hcut;have bf:=dK.nd aL;have Nt:=λg y=>(dK.new g y).elim (s g) id;replace x:=x.gt i I;clear aN ah ay aS ax bP bQ aT;obtain⟨aN,ah,ay,aS,ax,bP,bQ,aT⟩:=x.i4;go_upto_region 6 with fail;refine hN (λw'=>w'.cell? (Z gx 6)=some (.slice a.AB a.bs.length a.cB)/\w'.cell? (Z gx 7)=some (.slice a.AL a.ls.length a.cL)) 7 k_ ?_;refine mC ⟨bQ,aT⟩ λb=>?_;refine ir 0 b ?_;refine ir 1 b ?_;refine ir 2 b ?_;refine ir 4 b ?_;refine ir 5 b ?_;refine hY 3 λw f=>?_;go_simp;go_at_call 174;refine(HB nb t _ c3 u a.AB _ a.cB a.bs az _ cQ.1 rfl rfl X bf Nt hb (iD aV (F_ [] _).drew) (G_ R i.size) (Sl.hF (aJ.gt i I) (F_ [] _).drew) (λp j=>((U p j).gt i I I).hF (F_ [] _).drew)).mono ?_;rintro e ae⟨aO,c4,ak,rfl,av,C,bD,ad⟩;have J:=i.trans ((Gt.jD (F_ [] wc).drew).trans ad);have bR:=x.gt ((Gt.jD (F_ [] wc).drew).trans ad) I;have au:=C.nd bf;have aw:=λg y=>(C.new g y).elim (Nt g) id;clear b;refine h4 f ⟨bR.f_ 6,bR.f_ 7⟩ λb=>?_;clear f w;refine hY 6 λw f=>?_;go_simp;go_at_call 174;refine(HB nl aO _ c4 ak a.AL _ a.cL a.ls az _ cQ.2 rfl rfl X au aw hl av (G_ R J.size) (cA.gt J I) (λp j=>((Q p j).gt J I I))).mono ?_;rintro e Nq⟨aW,c5,cJ,rfl,cf,bi,Nw,ai⟩;have aj:=J.trans ai;have bo:=bR.gt ai I;clear b;refine h4 f ⟨bo.f_ 6,bo.f_ 7⟩ λb=>?_;clear f w;refine hY 7 λw f=>?_;go_simp;refine f.out _ _ (λh=>Gc h I) ?_;clear f w b;refine hM k_ ?_ _;go_wp2;go_roundw
  case rel=>
   have bg:=(dK.trans C).trans bi;refine⟨c+1,aW,c5,cJ,a1+T,b2,X,gn,gn,cf,F.trans bg,?_,bU.trans aj,by have:=o.out;have:=ap.out;omega,ca⟩;rw[Q_ E,<-bl.out];exact(bT.mono bg.sub).append (.cons a [] (λe=>bi.sub _ (C.sub _ (b4 e))) (bD.mono bi.sub) Nw .nil)
  case measure=>exact mz
 go_wp2;rw[ao.out];refine⟨M,c1,z,rfl,bJ,F,?_,v⟩;have e:k.take c=k:=F7 (ov HM.out);rw[e]at bT;exact bT
def Ah(base:Nat)(V:QU)(L:V.length<=1000):∀a,Fh base V a
 |0=>C3 base V L 0 λr h=>by omega
 |a+1=>C3 base V L (a+1) λr h=>by
  have e:r=a:=X;subst e;exact Ah base V L r
def Ew(V ps:QU)(bs:QV)(w:World)(e:Ending)(w':World):Prop:=∃(A:OA) (c:Nat) (l:QU),e=.returned (.slice A l.length c)/\Bs w' A l/\l.Nodup/\(∀x∈l,x∈V)/\(∀x∈ps,x∈l)/\nU l bs/\J [] w w'
structure C2(q:Nat->Prop)(w:World)(f:FT):Prop where
 hp:Bs w f.AP f.ps
 vJ:f.ps.length<=f.cP
 hb:Sl w 229 8 f.A f.bs.length (f.bs.flatMap ST.E)
 hs:∀t∈f.bs,jL q w t
def C2.hF{w:World}{f:FT}(h:C2 q w f)(a:J [] w w'):C2 q w' f:=⟨Sl.hF h.hp a,h.vJ,Sl.hF h.hb a,λc b=>(h.hs c b).hF a⟩
def C2.gt{w:World}{f:FT}(h:C2 q w f)(a:Gt base T w w')(c:9∉T)(e:226∉T)(b:229∉T):C2 q w' f:=⟨Sl.gt h.hp a c,h.vJ,Sl.gt h.hb a b,λi g=>(h.hs i g).gt a e b⟩
def FT.g_(f:FT):Array Value:=#[.string f.name,.slice f.AP f.ps.length f.cP,.slice f.A f.bs.length f.c]
def sO(V:QU)(L:V.length<=1000)(P p:Nat)(f:FT)(q:Nat->Prop)(w:World)(au:C2 q w f)(bX:l4 V P p f.bs)(bt:p<=1000)(l:∀x∈f.ps,x∈V)(bZ:f.ps.length<=1000):
 Calls prog 135 #[.agg f.g_] w (Ew V f.ps f.bs w):=by
 refine h6 λad ao=>?_;have hbl:=bX.len;obtain⟨g,C,aV,a,j,i⟩:=box1 w 213 f.g_;replace i:Bk g C 213 #[.string f.name,.slice f.AP f.ps.length f.cP,.slice f.A f.bs.length f.c]:=i;have U:g.cell? (Z C 1)=some (.slice f.AP f.ps.length f.cP):=i.f_ 1;have W:=O (au.hF j);obtain⟨n,F⟩:=mn_ f.ps.length;have S:=O F;rw[F]at U bZ;clear F au;obtain⟨base,R⟩:=nm_ g.heap.size;have cD:base<=g.heap.size:=X;have A:=O R;clear R;go_enter func135,ntmps135;go_wp2;clear U aV a;go_loopw [3,9] (λov y w'=>∃(b:Nat) (M:OA) (c':Nat) (k:QU),b<=n/\y=Y b/\ov=.slice M k.length c'/\p6 base w' M c' k/\Nm V [] k/\(∀x∈f.ps.take b,x∈k)/\Gt base [9] g w') (λ_ y _=>n-(intOf y).toNat)
 case atStart=>exact⟨0,none,0,[],L_ _,gn,rfl,iS _ _ _ _,.refl _ _,H,.refl _ _ _⟩
 obtain⟨b,N,c1,K,hk,rfl,rfl,z,h,bT,c⟩:=hrel;have ae:=h.nd .nil;have s:=λx a=>(h.new x a).elim (λD=>by cases D) id;have hl1:=G_ (ly K V ae s) L;have Q:=G_ cD c.size;by_cases ag:b<n
 .have t:b<f.ps.length:=ov S.out;obtain⟨af,off,E,hc⟩:=Sl.f_ (Sl.hF W.out.hp (c.gr (by rw[A.out];exact H_ _))) X;have ay:=hc b (.string f.ps[b]) (by rw[GF,K_ t];rfl);have d:=l _ (N_ t);obtain⟨x,a⟩:=nm_ (f.ps[b]);have be:=O a;have u:=O (uR base N c1 K x wr rfl z X Q);have HA:=O E;rw[<-a]at ay d;clear a hc;rw[E];clear E;go_wp2_with (go_at_call 173;refine u.out.mono ?_;rintro ai w2⟨v,c3,rfl,J,r⟩);go_roundw
  case rel=>
   refine⟨b+1,v,c3,_,X,gn,gn,J,h.trans (.add d),λaj e=>?_,c.trans (.Ej r λak j=>?_)⟩;rw[Q_ t,<-be.out]at e;rcases W_.1 e with e|e
   exact(Nm.add (V:=V) d).sub _ (bT aj e);have:aj=x:=zu e;subst this;exact wX;obtain⟨h1,cs,h2⟩:=qJ z (jK.1 j);exact⟨h1,cs,_,h2,H⟩
  case measure=>exact mz
 have bH:=i.gt c I;have ay:wr.cell? (Z C 2)=some (.slice f.A f.bs.length f.c):=bH.f_ 2;have t:=O (W.out.hF (c.gr (by rw[A.out];exact H_ _)));have u:=O (Ah base V L P p N _ c1 K f.A _ f.c f.bs q wr bt rfl rfl X ae s bX z Q t.out.hb t.out.hs);go_wp2_with (go_at_call 174;refine u.out.mono ?_;rintro ai w2⟨v,c3,ck,rfl,J,E,al,r⟩);rw[ao.out];have e:=h.trans E;refine⟨v,c3,ck,rfl,J.bs,e.nd .nil,λx a=>(e.new x a).elim (λD=>by cases D) id,λx a=>E.sub _ (bT x ?_),al,j.trans ((c.trans r).gr (by rw[A.out];exact H_ _))⟩;rw[F7 (ov S.out)];exact a
structure PG(V:QU)(q:Nat->Prop)(w:World)(PA:OA)(fs:QF)(Ns:QY):Prop where
 hfs:B1 w PA fs
 len:fs.length=3
 rd:∀f∈fs,C2 q w f
 nm:∀f∈fs,mA f.name/\(∀x∈f.ps,x∈V)/\f.ps.length<=2
 nl:Ns.length=3
 sg:∀(k:Nat) (h:k<fs.length) (h2:k<Ns.length),l4 V 5 Ns[k] fs[k].bs
 sum:Ns.sum<=64
def PG.hF{w:World}{fs:QF}{Ns:QY}(h:PG V q w PA fs Ns)(a:J [] w w'):PG V q w' PA fs Ns:=
 ⟨Sl.hF h.hfs a,h.len,λb c=>(h.rd b c).hF a,h.nm,h.nl,h.sg,h.sum⟩
def pq(Ns:QY)(k:Nat)(h:k<Ns.length):(Ns.take (k+1)).sum=(Ns.take k).sum+Ns[k]/\(Ns.take (k+1)).sum<=Ns.sum:=by
 have a:(Ns.take (k+1)).sum=(Ns.take k).sum+Ns[k]:=by rw[Q_ h,List.sum_append];simp
 refine⟨a,?_⟩;have b:=Z_ List.sum (Hm (k+1) Ns);rw[List.sum_append]at b;omega
def xw(L:∀s∈V,mA s)(q:Nat->Prop)(PA:OA)(c:Nat)(fs:QF)(Ns:QY)(w:World)(hP:PG V q w PA fs Ns):
 Calls prog 169 #[.agg #[.slice PA 3 c]] w (vE (Y 0) w):=by
 refine h6 λaf ao=>?_;obtain⟨E,gx,N,hx,hg,hB⟩:=box1 w 150 #[.slice PA 3 c];have f:E.cell? (Z gx 0)=some (.slice PA 3 c):=hB.f_ 0;have e:=O (hP.hF hg);clear hP;go_enter func169,ntmps169;go_wp2;have bV:=O N;clear f N hx;go_loopw [3,4,25] (λm l g w'=>∃a:Nat,a<=3/\g=Y a/\m=.bool false/\l=Y ((Ns.take a).sum:Nat)/\J [] E w') (λ_ _ g _=>3-(intOf g).toNat)
 case atStart=>exact⟨0,X,gn,rfl,H,F_ _ _⟩
 obtain⟨a,hk,rfl,rfl,rfl,F⟩:=hrel;by_cases ag:a<3
 .have r:a<fs.length:=ov e.out.len;have K:a<Ns.length:=ov e.out.nl;obtain⟨ai,off,hA,z0,M,P⟩:=B1.at_ (e.out.hF F).hfs r;subst hA;have C:=(e.out.hF F).rd _ (N_ r);obtain⟨hn1,R,b4⟩:=e.out.nm _ (N_ r);have t:=e.out.sg a r K;obtain⟨U,eJ⟩:=pq Ns a K;have x:=e.out.sum;have aj:=O hn1;have S:=O R;have cY:=O U;have ak:(Ns.take a).sum+Ns[a]<=64:=X;obtain⟨b,hf⟩:=nm_ (fs[a]);obtain⟨al,D⟩:=nm_ (Ns[a]);have HM:=O D;rw[<-hf]at z0 M P C aj S b4 t;rw[<-D]at t ak;obtain⟨am,y⟩:=nm_ ((Ns.take a).sum);have an:=O y;rw[<-y]at ak |-;clear U eJ x hn1 R hf D y;have z:=O C;have cZ:=O t;clear C t;obtain⟨ap,bz,b6,hg1,G,i⟩:=box1 wr 213 #[.string b.name,.slice b.AP b.ps.length b.cP,.slice b.A b.bs.length b.c];obtain⟨f,k,h⟩:=i.nQ
  go_upto_region 9 with(go_at_call 197;refine(nN aj.out).mono ?_;rintro W w2⟨rfl,v⟩;replace i:=i.hF v;clear f k h;obtain⟨f,k,h⟩:=i.nQ);have bU:=G.trans v;clear v f k h;go_loopw [36] (λg w'=>∃j:Nat,j<=b.ps.length/\g=Y j/\J [] w2 w') (λg _=>b.ps.length-(intOf g).toNat)
  case atStart=>exact⟨0,X,gn,F_ _ _⟩
  obtain⟨j,hj,rfl,A⟩:=hrel;have p:=bU.trans A;obtain⟨n,u⟩:=nm_ b.ps.length;have ar:=O u;have Nt:n<=2:=X;by_cases Q:j<b.ps.length
  .obtain⟨b2,au,B,hc⟩:=Sl.f_ (z.out.hF p).hp X;have h:=hc j (.string b.ps[j]) (by rw[GF,K_ Q];rfl);have d:=S.out _ (N_ Q);have I:=O (L _ d);generalize b.ps[j]=av at h I;rw[B]at*;clear hc u B d;go_wp2_with (go_at_call 197;refine(nN I.out).mono ?_;rintro W ae⟨rfl,ad⟩);exact MF
  rw[<-u]at*;clear u;obtain⟨f,k,h⟩:=(i.hF A).nQ;have aK:=O (Bb L 5 X al b.A _ b.c b.bs q _ X rfl cZ.out (z.out.hF p).hb (z.out.hF p).hs);go_wp2_with fail;go_at_call 198;refine aK.out.mono ?_;rintro W ae⟨dp,aQ,I,rfl,ad⟩;obtain⟨z0,M,P⟩:=(i.hF (A.trans ad)).nQ;have cM:dp<=5:=I;clear f k h I;go_wp2;go_roundw
  case rel=>
   refine⟨a+1,X,gn,by rw[G6 X],?_,(F.trans p).trans ad⟩;rw[cY.out,<-an.out,<-HM.out];go_num
  case measure=>exact mz
 have b:a=3:=X;have x:(Ns.take a).sum<=64:=by
  rw[F7 (ov e.out.nl)];exact e.out.sum
 generalize (Ns.take a).sum=am at x |-;exact M5
def Ez(V:QU)(w:World)(e:Ending)(w':World):Prop:=∃(A:OA) (c:Nat) (l:QU),e=.returned (.slice A l.length c)/\Bs w' A l/\(∀x∈l,x∈V)/\l.length<=V.length/\(∀x off,A=some (Z x off)->0<l.length->w.heap.size<=x)/\J [] w w'
def Fm(V:QU)(p:Nat->Prop)(t:ET):Prop:=∀w:World,kw p w t->Calls prog 199 #[.agg t.g_] w (Ez V w)
def uy(V:QU)(L:V.length<=1000)(p:Nat->Prop)(k n:Int)(s:ByteArray)(o:Int)(A:OA)(c:Nat)(l:QE)(hk:k=3->s∈V)(c9:l.length<=2)(hl:∀u∈l,Fm V p u):Fm V p (.mk k n s o A c l):=by
 intro al hE;refine h6 λan ao=>?_;obtain⟨i2,ap,bV,b9,cz⟩:=info_parts infoStr;have bn:Sl al 226 5 A l.length (l.flatMap ET.E):=by cases hE with|mk aA t _ _ _=>exact t
 have Nw:∀u∈l,kw p al u:=by cases hE with|mk aA _ _ _ t=>exact t
 obtain⟨m,hm⟩:=mn_ l.length;obtain⟨j,gx,aV,y,hg,hB⟩:=box1 al 226 (ET.mk k n s o A c l).g_;replace hB:Bk j gx 226 #[Y k,Y n,.string s,Y o,.slice A m c]:=by rw[<-hm];exact hB
 rw[hm]at bn c9;obtain⟨bd,ah,ay,aS,ax⟩:=hB.cells5;have HM:=O hm;have b8:=O (bn.hF hg);have cV:=O (λu M=>(Nw u M).hF hg:∀u∈l,kw p j u);clear hm bn Nw hE;obtain⟨base,aG⟩:=nm_ j.heap.size;have cD:base<=j.heap.size:=X;have dr:al.heap.size<=base:=ov hg.size;have di:=O aG;clear aG;go_enter func199,ntmps199;go_upto_region 2 with fail;go_upto_if 10 with fail
 go_cut [3] (λov a8=>∃(Q:OA) (c1:Nat) (N:QU),ov=.slice Q N.length c1/\p6 base a8 Q c1 N/\Nm V [] N/\J [] j a8)
 case first=>
  by_cases a:k=3
  .have z:(k==3)=true:=by simp[a]
   have r:=O (hk a);clear hk a;obtain⟨b,aD,E,F,e,v⟩:=box1 j 9 #[.string s];have C:b.ownsRow base 9 1 (n_) 0 []:=iS _ _ _ _;have f:Sl b 9 1 (j_ aD) 1 ([s].map Value.string):=jh (n:=1) (s:=1) v rfl;have g:=G_ cD e.size;go_wp2_with (at_builtin;refine jZ rfl rfl base 9 i2 1 16 underlying207 ap bV b9 cz rfl I I none 0 0 _ rfl C _ 1 1 _ rfl f (sV) X g ?_;intro h c3 D i w _);go_meet;refine⟨h,c3,[s],rfl,i,⟨H,λx y=>?_,λ_=>by simp⟩,?_⟩;have:x=s:=zu y;subst this;exact .inr r.out;exact e.trans ((J.iR w).mono (by simp[oK,Value.ownBlock]))
  have z:(k==3)=false:=by simp[a]
  clear hk a;go_wp2;go_meet;exact⟨none,0,[],rfl,iS _ _ _ _,.refl _ _,F_ _ _⟩
 obtain⟨Q,c1,N,rfl,bJ,aM,hg1⟩:=hcut;have bf:=hB.hF hg1;clear bd ah ay aS ax;obtain⟨bd,ah,ay,aS,ax⟩:=bf.cells5;go_wp2_with fail;have bi:=O bJ;have bP:=O aM;go_loopw [3,19] (λov r w'=>∃(h:Nat) (v:OA) (w:Nat) (i:QU),h<=m/\r=Y h/\ov=.slice v i.length w/\p6 base w' v w i/\Nm V [] i/\Gt base [9] j w') (λ_ r _=>m-(intOf r).toNat)
 case atStart=>exact⟨0,Q,c1,N,X,gn,rfl,bi.out,bP.out,.jD hg1⟩
 obtain⟨h,aw,aj,P,hi,rfl,rfl,q,cH,z⟩:=hrel;by_cases ag:h<m
 .have aH:h<l.length:=ov HM.out;obtain⟨bh,f,K,z0,aR,aZ,z3,z4⟩:=ET.at_ (by rw[HM.out];exact b8.out.gt z I) aH;have bT:=hl l[h] (N_ aH);have M:=(cV.out _ (N_ aH)).gt z I;have HA:=O K;generalize l[h]=u at z0 aR aZ z3 z4 bT M;obtain⟨bk,bz,b6,bK,G,aU⟩:=box1 wr 226 #[Y u.h7,Y u.n,.string u.name,Y u.op,.slice u.A u.l.length u.c];obtain⟨aT,bp,aD,ak,Nt⟩:=aU.cells5;have aK:=O (bT bk (M.hF G));rw[K]at*;clear bT M K;go_wp2_with fail;go_at_call 199;refine aK.out.mono ?_;rintro bm w2⟨aW,c5,b,rfl,aO,aP,Nq,aF,ai⟩;have Nu:=G.trans ai;have cf:=iD q Nu;have br:=G_ cD (z.trans (.jD Nu)).size;have aC:∀x f,aW=some (Z x f)->0<b.length->(Value.slice aw P.length aj).ownBlock≠some x:=λx f h1 h2 F=>by
   have am:=(kD q F).2;have au:=aF x f h1 h2;have bl:=G.size;omega
  have aE:b.length<=1000:=X;obtain⟨cZ,bv⟩:=mn_ b.length;have bx:=O bv;rw[bv]at aE;have az:=O aC;have ad:=O aO;have ar:=O cf;clear bv aC aO q aT bp aD ak Nt z0 aR aZ z3 z4 cf;rw[bx.out];go_wp2_with fail;go_loopw [3,26] (λov r w'=>∃(e:Nat) (v:OA) (w:Nat) (i:QU),e<=cZ/\r=Y e/\ov=.slice v i.length w/\p6 base w' v w i/\Nm V P i/\Gt base [9] w2 w'/\Bs w' aW b/\(∀x f,aW=some (Z x f)->0<b.length->(Value.slice v i.length w).ownBlock≠some x)) (λ_ r _=>cZ-(intOf r).toNat)
  case atStart=>exact⟨0,aw,aj,P,X,gn,gn,ar.out,.refl _ _,.refl _ _ _,ad.out,az.out⟩
  obtain⟨e,S,R,a,hj,rfl,rfl,bB,bF,U,bG,bL⟩:=hrel;have Nv:=cH.trans bF;have a7:=Nv.nd .nil;have be:=λx y=>(Nv.new x y).elim (λt=>by cases t) id;have e2:=G_ (ly a V a7 be) L;have aJ:=G_ br U.size;have bM:=O bL;clear bL;by_cases bC:e<cZ
  .have T:e<b.length:=ov bx.out;obtain⟨dD,bo,aN,aB⟩:=Sl.f_ bG X;have bN:=aB e (.string b[e]) (by rw[GF,K_ T];rfl);have d:=aP _ (N_ T);subst aN;generalize b[e]=g at bN d;have W:=O (oF S _ R a g wr rfl bB.bs X);have bR:=O d;have B:=O bG;clear aB d bG;cases E:hasB a g with
   |true=>
    rw[E]at W;clear E;go_wp2_with (go_at_call 171;refine W.out.mono ?_;rintro bm ae⟨rfl,rfl⟩);go_roundw;exact⟨e+1,S,R,a,X,gn,gn,bB,bF,U,B.out,bM.out⟩;exact mz
   |false=>
    rw[E]at W;have dm:qY a g=a++[g]:=by unfold qY;rw[T_ (by rw[E];decide)]
    have bW:=O dm;clear E dm;obtain⟨bq,ce,eV,fk,C,bE⟩:=box1 wr 9 #[.string g];have cu:=iD bB C;have bt:Sl bq 9 1 (j_ ce) 1 ([g].map Value.string):=jh (n:=1) (s:=1) bE rfl;have ei:=G_ aJ C.size;go_wp2_with (first|(go_at_call 171;refine W.out.mono ?_;rintro bm ae⟨rfl,rfl⟩)|(at_builtin;refine jZ rfl rfl base 9 i2 1 16 underlying207 ap bV b9 cz rfl I I S a.length R _ rfl cu _ 1 1 _ rfl bt (sV) X ei ?_;intro cy cK Nr dn dO eD));go_roundw
    case rel=>
     have cW:p6 base Nr cy cK (qY a g):=by
      unfold p6;rw[bW.out,I_,Gd];exact dn
     refine⟨e+1,cy,cK,qY a g,X,gn,by rw[bW.out,I_];rfl,cW,bF.trans (.add bR.out),(U.trans (.jD C)).trans (.app dO cu H),?_,?_⟩;have D:Bs bq (some (Z dD bo)) b:=Sl.hF B.out C;exact Sl.rV D λhn bh o aQ hb=>dO.block bh hb λhe=>bM.out bh o aQ hn he.symm;intro x f h1 h2;rw[bW.out,I_];have bw:=by
      have D:Bs bq (some (Z dD bo)) b:=Sl.hF B.out C;unfold Bs at D;rw[h1]at D;exact D.lt h2
     rcases eD with ho|ho
     exact λF=>bM.out x f h1 h2 (ho.symm.trans F);exact λF=>by
      have:some bq.heap.size=some x:=ho.symm.trans F;injection this;omega
    case measure=>exact mz
  go_wp2;go_roundw;exact⟨h+1,S,R,a,X,gn,gn,bB,Nv,(z.trans (.jD Nu)).trans U⟩;exact mz
 have b:=cH.nd .nil;have a:=λx y=>(cH.new x y).elim (λt=>by cases t) id;have e:=ly P V b a;go_wp2;rw[ao.out];refine⟨aw,aj,P,rfl,q.bs,a,e,λx f K _=>?_,hg.trans (z.gr (by rw[di.out];exact H_ _))⟩;subst K;have:=(kD q (x:=x) rfl).1;omega
def DG(L:V.length<=1000)(p:Nat->Prop)(d:Nat)(t:ET)(h:EG V d t):Fm V p t:=by
 induction h with
 |num d n _ _=>exact uy V L p 1 n _ 0 none 0 [] (λh=>Gc h I) H (λb a=>by cases a)
 |var d s e=>exact uy V L p 3 0 s 0 none 0 [] (λ_=>e) H (λb a=>by cases a)
 |new d n _ _=>exact uy V L p 6 n _ 0 none 0 [] (λh=>Gc h I) H (λb a=>by cases a)
 |field d n c s _ _ e=>
  refine uy V L p 4 n _ 0 c 1 [jy s] (λh=>Gc h I) H (λb a=>?_);have:b=jy s:=zu a;subst this;exact uy V L p 3 0 s 0 none 0 [] (λ_=>e) H (λb a=>by cases a)
 |bin d o c g f _ _ _ _ j i=>
  refine uy V L p 5 0 _ o c 2 [g,f] (λh=>Gc h I) H (λb a=>?_);rcases O_.1 a with rfl|a
  exact j;have:b=f:=zu a;subst this;exact i
structure PC(w:World)(PA:OA)(fs:QF):Prop where
 hfs:B1 w PA fs
 len:fs.length=3
 i1:tX p4 fs 0=1
 i2:tX pD fs 0=2
 l1:∀h:1<fs.length,fs[1].ps.length=2
 l2:∀h:2<fs.length,fs[2].ps.length=1
def PC.hF{w:World}{fs:QF}(h:PC w PA fs)(a:J [] w w'):PC w' PA fs:=⟨Sl.hF h.hfs a,h.len,h.i1,h.i2,h.l1,h.l2⟩
def PC.p3{w:World}{fs:QF}(h:PC w PA fs):∃b a A c A' c',PA=some (Z b a)/\w.cell? (Z b (a+3+1))=some (.slice A 2 c)/\w.cell? (Z b (a+6+1))=some (.slice A' 1 c'):=by
 have t:=h.len;obtain⟨b,a,i,_,f,_⟩:=h.hfs.at_ (k:=1) X;obtain⟨r,u,e,_,g,_⟩:=h.hfs.at_ (k:=2) X;rw[i]at e;injection e with e;injection e with p j;subst p;subst j;rw[h.l1 X]at f;rw[h.l2 X]at g;exact⟨b,a,_,_,_,_,i,f,g⟩
def PC.idx{w:World}{fs:QF}(h:PC w PA fs)(pc:Nat):Calls prog 170 #[.agg #[.slice PA 3 pc],.string p4] w (λe w'=>e=.returned (Y 1)/\J [] w w')/\Calls prog 170 #[.agg #[.slice PA 3 pc],.string pD] w (λe w'=>e=.returned (Y 2)/\J [] w w'):=by
 have a:=nP PA 3 pc fs p4 w h.len h.hfs X;have b:=nP PA 3 pc fs pD w h.len h.hfs X;rw[h.i1]at a;rw[h.i2]at b;exact⟨a,b⟩
def m_.call{k:Int}{x f:ByteArray}{L:Bool}(h:m_ V k x f n o m B L)(a:k=3):(f=p4/\m=2)∨(f=pD/\m=1):=by
 cases h<;>first|exact Gc a I|exact .inl ⟨rfl,rfl⟩|exact .inr ⟨rfl,rfl⟩
def m_.E1{k:Int}{x f:ByteArray}{L:Bool}(h:m_ V k x f n o m B L)(a:k=12):rB o=true:=by
 cases h<;>first|exact Gc a I|(rename_i b;rcases b with rfl|rfl|rfl<;>rfl)
def DX(V:QU)(D:Nat):Prop:=∀(N:Nat) (PA:OA) (pc:Nat) (fs:QF) (VA:OA) (vc:Nat) (vs:QU) (A:OA) (n c:Nat) (ts:QV) (p:Nat->Prop) (w:World),N<=1000->ts.length=n->l4 V D N ts->(∀x∈V,x∈vs)->vs.length<=1000->Bs w VA vs->PC w PA fs->Sl w 229 8 A n (ts.flatMap ST.E)->(∀u∈ts,jL p w u)->
 Calls prog 172 #[.agg #[.slice PA 3 pc],.slice VA vs.length vc,.slice A n c] w (vE (Y 0) w)
def Au(L:V.length<=1000)(E:Nat)(HD:∀r,E=r+1->DX V r):DX V E:=by
 intro al PA pc fs VA vc vs an n aA v p bd cW hn bX bh au hbs vJ bn ku;refine h6 λbk ao=>?_;obtain⟨bm,gx,aV,hx,hg,C⟩:=box1 bd 150 #[.slice PA 3 pc];have aX:=O hn;have b8:=O (bn.hF hg);have cV:=O (λu hu=>(ku u hu).hF hg:∀u∈v,jL p bm u);have di:=O (Sl.hF hbs hg:Bs bm VA vs);have l:=O (vJ.hF hg);have cI:=O bh;have cZ:=O (show l4 V E al (v.drop 0) from bX);have cQ:n<=1000:=ov bX.len;obtain⟨v9,N⟩:=mn_ vs.length;rw[N]at au;have h:=O N;clear hn bn ku hbs vJ bh bX;rw[N];clear N;go_enter func172,ntmps172;go_wp2;have bV:=O aV;clear aV hx;go_loopw [18] (λb w'=>∃(k a bv:Nat),k<=n/\b=Y k/\a+bv=al/\l4 V E bv (v.drop k)/\J [] bm w') (λb _=>n-(intOf b).toNat)
 case atStart=>exact⟨0,0,al,L_ _,gn,X,cZ.out,F_ _ _⟩
 obtain⟨k,a,bv,hk,rfl,hab,b5,F⟩:=hrel;have o:=O hab;clear hab;by_cases ag:k<n
 .have aE:k<v.length:=ov aX.out;obtain⟨bE,off,hA,w,i,j,A,D,z5,cv,cU⟩:=ST.at_ (b8.out.hF F) aX.out aE;subst hA;rw[R_ aE]at b5;obtain⟨T,b2,bW,bF,ca⟩:=b5.split;have ap:=O bW;have am:=(cV.out _ (N_ aE)).hF F;generalize v[k]=t at w i j A D z5 cv cU bF am;clear b5 bW;obtain⟨r,nb,nl,aP,bq,hD,bt,H,a6,Nv,hes,hb,hl⟩:=bF.one;have HB:=HD r hD;have Nw:=O bt;have aF:=O ca;obtain⟨R,W,y,ar,cA,P⟩:=am.parts;have hbl:nb+nl+1<=1000:=by have:=o.out;have:=ap.out;omega
  have cH:=H.rng;have bG:=O H.call;have bM:=O H.E1;clear hD bt H bF a6 Nv ca;obtain⟨I,bg,b6,hg1,G,a7⟩:=box1 wr 229 #[Y t.h7,.string t.name,.string t.fn,Y t.n,Y t.op,.slice t.AE t.es.length t.cE,.slice t.AB t.bs.length t.cB,.slice t.AL t.ls.length t.cL];obtain⟨U,ah,ay,aS,ax,bP,bQ,z⟩:=a7.i4;have bu:=F.trans G;replace R:=Sl.hF R G;replace W:∀u∈t.es,kw p I u:=λu hu=>(W u hu).hF G;replace y:=Sl.hF y G;replace ar:∀u∈t.bs,jL p I u:=λu hu=>(ar u hu).hF G;replace cA:=Sl.hF cA G;replace P:∀u∈t.ls,jL p I u:=λu hu=>(P u hu).hF G;have be:=O R;obtain⟨m,hm⟩:=mn_ t.es.length;rw[hm]at bP cH;have HM:=O hm;clear hm R G F;go_upto_region 5 with fail;clear b6 hg1 U ah ay aS ax bP bQ z w i j A D z5 cv cU;go_loopw [25] (λb w'=>∃f:Nat,f<=m/\b=Y f/\J [] I w') (λb _=>m-(intOf b).toNat)
  case atStart=>exact⟨0,X,gn,F_ _ _⟩
  obtain⟨f,hi,rfl,G⟩:=hrel;by_cases aH:f<m
  .have aQ:f<t.es.length:=ov HM.out;obtain⟨d9,bR,az,w,i,j,A,D⟩:=ET.at_ (Sl.hF be.out G) aQ;have bT:=DG L p 2 t.es[f] (hes _ (N_ aQ));have hu:=(W _ (N_ aQ)).hF G;generalize t.es[f]=u at w i j A D bT hu;obtain⟨a2,aM,bI,Np,bU,aU⟩:=box1 wr 226 #[Y u.h7,Y u.n,.string u.name,Y u.op,.slice u.A u.l.length u.c];obtain⟨aT,bp,aD,ak,Nt⟩:=aU.cells5;have aK:=O (bT a2 (hu.hF bU));rw[az];clear bT hu az;go_wp2_with fail;go_at_call 199;refine aK.out.mono ?_;rintro e af⟨aL,aI,M,rfl,bx,bi,bN,_,aC⟩;have dY:=(G.trans bU).trans aC;have B:=O bx;obtain⟨Q,aW⟩:=mn_ M.length;have bK:=O aW;have bO:Q<=1000:=X;clear aT bp aD ak Nt w i j A D bx bN;rw[aW];clear aW;go_wp2_with fail;go_loopw [32] (λb w'=>∃c:Nat,c<=Q/\b=Y c/\w'=af) (λb _=>Q-(intOf b).toNat)
   case atStart=>exact⟨0,X,gn,rfl⟩
   obtain⟨c,hj,rfl,rfl⟩:=hrel;by_cases bC:c<Q
   .have bB:c<M.length:=ov bK.out;obtain⟨dD,bo,aN,aB⟩:=Sl.f_ B.out X;have z:=aB c (.string M[c]) (by rw[GF,K_ bB];rfl);have d:=cI.out _ (bi _ (N_ bB));generalize M[c]=bY at z d;have g:=oF VA _ vc vs bY wr h.out (Sl.hF di.out (bu.trans dY)) X;rw[qP.2 d]at g;have bS:=O g;rw[aN];clear aB d aN g;go_wp2_with (go_at_call 171;refine bS.out.mono ?_;rintro e ae⟨rfl,rfl⟩);go_roundw;exact⟨c+1,X,gn,trivial⟩;exact mz
   go_wp2;go_roundw;exact⟨f+1,X,gn,dY⟩;exact mz
  have hg1:=bu.trans G;have av:=a7.hF G;obtain⟨U,ah,ay,aS,ax,bP,bQ,z⟩:=av.i4;go_upto_if 44 with fail
  go_cut [13] (λb a8=>J [] wr a8)
  case first=>
   by_cases c:t.h7=3
   .have M:(t.h7==3)=true:=by simp[c]
    have Q:=bG.out c;rw[HM.out]at Q;clear c;have ck:wr.cell? (Z gx 0)=some (.slice PA 3 pc):=(C.hF hg1).f_ 0;rcases Q with⟨hf,dJ⟩|⟨hf,dJ⟩
    all_goals (subst dJ)
    rw[hf]at ay;have K:=O ((l.out.hF hg1).idx pc).1;exact Jp;rw[hf]at ay;have K:=O ((l.out.hF hg1).idx pc).2;exact Jp
   have M:(t.h7==3)=false:=by simp[c]
   clear c;go_wp2;go_meet;exact F_ _ _
  have bw:=G.trans hcut;have Np:=hg1.trans hcut;have Nu:=av.hF hcut;clear U ah ay aS ax bP bQ z hcut;obtain⟨U,ah,ay,aS,ax,bP,bQ,z⟩:=Nu.i4;have ck:wc.cell? (Z gx 0)=some (.slice PA 3 pc):=(C.hF Np).f_ 0;by_cases c:t.h7=12
  .have M:(t.h7==12)=true:=by simp[c]
   have g:=uQ t.op wc;rw[bM.out c]at g;have Q:=O g;clear c g;go_upto_region 22 with(go_at_call 179;refine Q.out.mono ?_;rintro e af⟨rfl,rfl⟩);exact I3
  have M:(t.h7==12)=false:=by simp[c]
  clear c;go_upto_region 22 with fail;exact I3
 exact M5
def yi{V:QU}(L:V.length<=1000):∀a,DX V a
 |0=>Au L 0 λr h=>by omega
 |a+1=>Au L (a+1) λr b=>by
  have e:r=a:=X;subst e;exact yi L r
