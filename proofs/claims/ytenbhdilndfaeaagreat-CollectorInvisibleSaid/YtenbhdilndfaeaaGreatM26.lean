import Derived.Test.YtenbhdilndfaeaaGreatM25
set_option maxRecDepth 100000
set_option maxHeartbeats 0
set_option linter.all false
namespace Go.Proofs.YtenbhdilndfaeaaGreat
open Go.RowKit Go.Proofs.Tryz
variable{G:Prop}{n o:Int}{s:ByteArray}{base m:Nat}{V l:List ByteArray}{T:List TypeId}{B:Bool}{q:Nat->Prop}{w':World}{PA:OA}(d:Nat)
def IJ(h:G:=by
 have a6:=U (bi nb PA pc fs VA vc vs t.AB _ t.cB t.bs p wc X rfl hb cG.out (by rw[o.out];exact az) (Sl.hF c8.out M0) (q.out.hF M0) (Sl.hF P bF) (λu hu=>(aI u hu).hF bF));rw[o.out]at a6
 go_wp2_with fail
 go_at_call 172
 refine a6.out.mono ?_;rintro e ad⟨rfl,MS⟩;have C:=bF.trans MS;have bR:=M0.trans MS;have br:ad.cell? (Z gx 0)=some (.slice PA 3 pc):=(E.hF bR).f_ 0;have aU:=MY.hF MS;clear MV MU au aP ar bz z y bY;obtain⟨MV,MU,au,aP,ar,bz,z,y⟩:=aU.i5;have s:=U (bi nl PA pc fs VA vc vs t.AL _ t.cL t.ls p ad X rfl hl cG.out (by rw[o.out];exact az) (Sl.hF c8.out bR) (q.out.hF bR) (Sl.hF cx C) (λu hu=>(R u hu).hF C));rw[o.out]at s
 go_wp2_with fail
 go_at_call 172
 refine s.out.mono ?_;rintro e MT⟨rfl,aj⟩;go_wp2;go_roundw
 case rel=>
  have aN:=f.out;have aK:=av.out;have bQ:=B.out;exact⟨k+1,a+G,b2,X,gn,X,aJ.out,bR.trans aj⟩
 case measure=>exact mz):G:=h
def I9(h:G:=by
 clear hf
 go_upto_region 18 with(go_at_call 170;refine aw.out.mono ?_;rintro e ag⟨rfl,S⟩)
 obtain⟨bf,off,A1,c1,ap,ai,x,bM,ce⟩:=((q.out.hF hg1).hF S).pW;have bO:ag.cell? (Z gx 0)=some (.slice PA 3 pc):=(E.hF (hg1.trans S)).f_ 0;have bt:=(aM.hF S).i5.2.2.2.2.2.1;rw[HM.out]at bt;rw[x]at bO;clear MV MU au aP ar bz z y bY x
 go_quiet (fail)
 go_wp2;go_meet;exact S.trans ((H [] _).drewN _)):G:=h
def LE(h:G:=by
 have h3:(i+1:Int)*nb d<=m*nb d:=Hj X (ov j.out);rw[Int.add_mul,Int.one_mul]at h3;omega):G:=h
def LP(h:G:=by
 have h1:=ce.out;have h2:=q.out;have h3:(i:Int)*nb d<=m*nb d:=Hj X (ov j.out);omega):G:=h
def L2(h:G:=by
 go_wp2
 go_quiet (fail)
 go_wp2;go_meet;exact⟨rfl,rfl,rfl,(H [] _).drewN _⟩):G:=h
def nb:Nat->Int|0=>1|d+1=>1+2*nb d
def xu:1<=nb d:=by induction d with|zero=>decide|succ d a=>unfold nb;omega
def Ev(d:Nat)(w:World)(e:Ending)(w':World):Prop:=∃N:Int,1<=N/\N<=nb d/\e=.returned (Y N)/\I [] w w'
def Fb(d:Nat)(p:Nat->Prop)(t:ET):Prop:=∀(left:Int) (w:World),nb d<=left->left<=16->kq p w t->Calls prog 223 #[.agg t.g_,Y left] w (Ev d w)
inductive Kd:Int->Int->ByteArray->Int->Nat->Prop
 |num (n:Int):Kd 1 n i6 0 0
 |var (s:ByteArray) (h:mv s):Kd 3 0 s 0 0
 |new (n:Int) (h0:0<=n) (h1:n<=3):Kd 6 n i6 0 0
 |field (n:Int) (h0:0<=n) (h1:n<=2):Kd 4 n i6 0 1
 |bin (o:Int) (h0:1<=o) (h1:o<=11):Kd 5 0 i6 o 2
def Kd.FD{k:Int}(h:Kd k n s o m):m<=2:=by cases h<;>omega
def yc:i6.toList=[]:=by rw[Hn];rfl
def te(p:Nat->Prop)(k n:Int)(s:ByteArray)(o:Int)(A:OA)(c:Nat)(l:List ET)(E:Int)(hD:E<=7)(F:Kd k n s o l.length)(hl:∀u∈l,Fb d p u)(left:Int)(w:World)(O:1+l.length*nb d<=left)(T:left<=16)(x:1+l.length*nb d<=E)(Q:kq p w (.mk k n s o A c l)):
 Calls prog 223 #[.agg (ET.mk k n s o A c l).g_,Y left] w λe w'=>∃a:Int,1<=a/\a<=E/\e=.returned (Y a)/\I [] w w':=by
 refine h5 λad aq=>?_
 have W:=xu d;have b6:l.length<=2:=F.FD
 have N:Sl w 226 5 A l.length (l.flatMap ET.E):=by cases Q with|mk ae P _ _ _=>exact P
 have ag:∀u∈l,kq p w u:=by cases Q with|mk ae _ _ _ P=>exact P
 have V:1<=left:=ov (Int.mul_nonneg (show(0:Int)<=l.length by omega) (show(0:Int)<=nb d by omega));obtain⟨m,D⟩:=mn_ l.length;obtain⟨aj,ak,aW,hg,g,b⟩:=box1 w 226 (ET.mk k n s o A c l).g_
 replace b:Bk aj ak 226 #[Y k,Y n,.string s,Y o,.slice A m c]:=by rw[<-D];exact b
 rw[D]at F b6 N O x;obtain⟨r,h,y,t,v⟩:=b.cells5;have HM:=U D;have bj:=U (N.hF g);clear D N Q;have hq1:¬left<1:=X
 go_enter func223,ntmps223
 go_upto_region 2 with(go_at_call 180;refine(qM o).mono ?_;rintro e w1⟨⟨s1,rfl⟩,z⟩)
 replace b:=b.hF z;replace g:=g.trans z;have B:=U (bj.out.hF z);clear bj z r h y t v;obtain⟨r,h,y,t,v⟩:=b.cells5;have al:=yc
 go_upto_block 0 with fail
 go_cut [7,8,9] (λK an c a7=>K=.bool true/\an=Y m/\c=.bool true/\I [] w1 a7)
 case first=>
  rcases F with⟨_⟩|⟨_,L⟩|⟨_,C,h1⟩|⟨_,C,h1⟩|⟨_,C,h1⟩
  .go_wp2;go_meet;exact⟨rfl,rfl,rfl,H _ _⟩
  .go_wp2_with (go_at_call 197;refine(nK L).mono ?_;rintro e w2⟨rfl,f⟩;replace b:=b.hF f;clear r h y t v;obtain⟨r,h,y,t,v⟩:=b.cells5)
   go_meet;exact⟨rfl,rfl,rfl,f⟩
  .have h2:n<=16:=X;exact L2
  .have h2:n<16:=X;exact L2
  .have M:pA o=true:=by simp[pA];omega
   go_wp2;go_meet;exact⟨rfl,rfl,rfl,H _ _⟩
 case rest=>
  obtain⟨rfl,rfl,rfl,f⟩:=hcut;replace b:=b.hF f;replace g:=g.trans f;have ao:=U (B.out.hF f);clear B f r h y t v al;obtain⟨r,h,y,t,v⟩:=b.cells5;have ap:=U O;have q:=U x;have j:=U W;clear O x W
  go_upto_region 22 with fail
  have bC:I [] wc wc:=H _ _
  go_loopw [10,118] (λK M w'=>∃(k:Nat) (a:Int),k<=m/\M=Y k/\K=Y a/\1<=a/\a<=1+k*nb d/\I [] wc w') (λ_ M _=>m-(intOf M).toNat)
  case atStart=>exact⟨0,1,X,gn,rfl,X,J,bC⟩
  case round=>
   obtain⟨i,a,hi,rfl,rfl,av,aw,C⟩:=hrel;have ce:=U aw;clear aw;have ax:a<=7:=LP
   by_cases af:i<m
   .have L:i<l.length:=ov HM.out;obtain⟨an,off,hA,aB,c1,ai,aO,c4⟩:=ET.at_ (by rw[HM.out];exact ao.out.hF C) L;have S:=hl l[i] (O_ L);have R:=(ag _ (O_ L)).hF g |>.hF C;subst hA;generalize l[i]=u at aB c1 ai aO c4 S R;obtain⟨am,bt,b9,z,MX,ay⟩:=box1 wr 226 #[Y u.h6,Y u.n,.string u.name,Y u.op,.slice u.A u.l.length u.c];obtain⟨z0,aR,aZ,z3,z4⟩:=ay.cells5
    have G:nb d<=left-a:=by
     have h1:=ce.out;have h2:=ap.out;exact LE
    have aG:=U (S (left-a) am G X (R.hF MX));clear S R G
    go_wp2_with fail
    refine aG.out.mono ?_;rintro e w2⟨Z,az,cq,rfl,aA⟩;have bJ:=U cq
    have cC:a+Z<=7:=by
     have h1:=ce.out;have h2:=q.out;exact LE
    clear cq;go_wp2;go_roundw
    case rel=>
     refine⟨i+1,a+Z,X,gn,rfl,X,?_,(C.trans MX).trans aA⟩;have h1:=ce.out;have h2:=bJ.out
     have h3:((i+1:Nat):Int)*nb d=i*nb d+nb d:=by rw[show((i+1:Nat):Int)=(i:Int)+1 by omega,Int.add_mul,Int.one_mul]
     omega
    case measure=>exact mz
   .go_wp2;rw[aq.out];refine⟨a,av,?_,rfl,g.trans C⟩;exact LP
def zg(r:∀s∈V,mv s)(p:Nat->Prop)(d:Nat)(t:ET)(h:EG V d t)(a:d<=2):Fb d p t:=by
 have B:∀d,d<=2->nb d<=7:=by
  intro d a
  rcases(by omega:d=0∨d=1∨d=2)with rfl|rfl|rfl<;>decide
 have g:∀(d:Nat) (f n:Int) (s:ByteArray) (o:Int),d<=2->Kd f n s o 0->Fb d p (.mk f n s o none 0 []):=by
  intro d f n s o a v left w c h2 hE
  have:=xu d
  exact(te 0 p f n s o none 0 [] 1 X v (λi b=>by cases b) left w p_ h2 J hE).mono λH w'⟨x,z,G,A,C⟩=>⟨x,z,X,A,C⟩
 induction h with
 |num d n _ _=>exact g d _ _ _ _ a (.num n)
 |var d s k=>exact g d _ _ _ _ a (.var s (r s k))
 |new d n e c=>exact g d _ _ _ _ a (.new n e c)
 |field d n j s e c k=>
  intro left w h1' h2 hE;have D:nb (d+1)=1+2*nb d:=rfl
  have:=xu d
  have:=B (d+1) a
  refine(te d p 4 n i6 0 j 1 [jA s] (nb (d+1)) this (.field n e c) (λi b=>?_) left w p_ h2 p_ hE)
  have:i=jA s:=zu b
  subst this;exact g d _ _ _ _ X (.var s (r s k))
 |bin d o j y u e c _ _ F E=>
  intro left w h1' h2 hE;have D:nb (d+1)=1+2*nb d:=rfl
  have:=B (d+1) a
  refine(te d p 5 0 i6 o j 2 [y,u] (nb (d+1)) this (.bin o e c) (λi b=>?_) left w p_ h2 p_ hE)
  rcases M_.1 b with rfl|b
  .exact F X
  .have:i=u:=zu b
   subst this;exact E X
def xF(k:∀s∈V,mv s)(p:Nat->Prop)(t:ET)(h:EG V 2 t)(w:World)(v:kq p w t):
 Calls prog 222 #[.agg t.g_] w λe w'=>e=.returned (.bool true)/\I [] w w':=by
 refine h5 λz r=>?_
 obtain⟨c,u,D,H,b,a⟩:=box1 w 226 t.g_;replace a:Bk c u 226 #[Y t.h6,Y t.n,.string t.name,Y t.op,.slice t.A t.l.length t.c]:=a;obtain⟨y,x,F,C,E⟩:=a.cells5;have j:=U (zg k p 2 t h X 16 c O X (v.hF b))
 go_enter func222,ntmps222
 go_wp2_with (go_at_call 223;refine j.out.mono ?_;rintro e J⟨g,K,f,rfl,i⟩;have A:g<=16:=Int.le_trans f O;clear f)
 rw[r.out];exact⟨rfl,b.trans i⟩
def ve(v:Value)(w:World)(e:Ending)(w':World):Prop:=e=.returned v/\I [] w w'
def tY(ao:∀s∈V,mv s)(p:Nat->Prop)(k:Int)(x f:ByteArray)(n o:Int)(E:OA)(S:Nat)(es:List ET)(N:OA)(R:Nat)(F:List ST)(P:OA)(W:Nat)(K:List ST)(B L:Bool)(w:World)(bH:mY V k x f n o es.length B L)(hB:B=false->F=[])(hL:L=false->K=[])(hes:∀e∈es,EG V 2 e)(bn:Sl w 226 5 E es.length (es.flatMap ET.E))(km:∀u∈es,kq p w u):
 Calls prog 215 #[.agg (ST.mk k x f n o E S es N R F P W K).g_] w (ve (.bool true) w):=by
 refine h5 λad aq=>?_
 obtain⟨m,J⟩:=mn_ es.length;rw[J]at bH;have HM:=U J;obtain⟨z,gx,aW,hx,Z,a⟩:=box1 w 229 (ST.mk k x f n o E S es N R F P W K).g_
 replace a:Bk z gx 229 #[Y k,.string x,.string f,Y n,Y o,.slice E m S,.slice N F.length R,.slice P K.length W]:=by rw[<-J];exact a
 have bj:=U (bn.hF Z);have cR:=U (λu C=>(km u C).hF Z:∀u∈es,kq p z u);clear J bn km;have ae:=yc;obtain⟨_,eT,ag⟩:=yl;have dm:=U eT;have aj:=U ag;clear eT ag
 rcases bH with⟨_,d⟩|⟨_,dG,cX⟩|⟨_,d⟩|⟨_,d⟩|_|⟨_,d⟩|_|_|_|⟨_,d⟩|_|⟨_,d⟩|⟨_,d,_,eZ⟩
 all_goals
  (try(have hbs:=hB rfl;subst hbs))
  (try(have hls:=hL rfl;subst hls))
  (try have ak:=U (ao _ d))
  clear hB hL
  (try simp only[F7]at a)
  obtain⟨h,g,r,i,j,t,y,v⟩:=a.i5
  go_enter func215,ntmps215
  go_upto_region 5 with(go_at_call 216;refine(uv _ _ O O).mono ?_;rintro e w'⟨rfl,rfl⟩;simp only[ED.v,prt])
 all_goals
  clear h g r i j t y v;have aF:=HM.out;have bC:I [] z z:=H _ _
  go_loopw [49] (λQ w'=>∃k:Nat,k<=es.length/\Q=Y k/\I [] z w') (λQ _=>es.length-(intOf Q).toNat)
  case atStart=>exact⟨0,N_ _,gn,bC⟩
  case round=>
   obtain⟨D,hi,rfl,b⟩:=hrel
   by_cases A:D<es.length
   .obtain⟨al,off,hA,aB,c1,ai,aO,c4⟩:=ET.at_ (bj.out.hF b) A;have c:=hes es[D] (O_ A);have C:=(cR.out _ (O_ A)).hF b;subst hA;generalize es[D]=u at aB c1 ai aO c4 c C;obtain⟨am,bt,b9,hg1,MX,an⟩:=box1 wr 226 #[Y u.h6,Y u.n,.string u.name,Y u.op,.slice u.A u.l.length u.c];obtain⟨z0,aR,aZ,z3,z4⟩:=an.cells5;have aG:=U (xF ao p u c am (C.hF MX));have aw:=A;rw[aF]at aw;clear c C
    first
     |(exact FU aw X)
     |(go_wp2_with (go_at_call 222;refine aG.out.mono ?_;rintro e M⟨rfl,ap⟩)
       go_roundw
       case rel=>exact⟨D+1,X,gn,(b.trans MX).trans ap⟩
       case measure=>exact mz)
   .have bF:¬D<es.length:=A;rw[aF]at bF;replace a:=a.hF b;obtain⟨h,g,r,i,j,t,y,v⟩:=a.i5
    (try(have av:n<16:=by omega))
    (try(have ax:pA o=true:=by rcases eZ with rfl|rfl|rfl<;>rfl))
    clear bF bC
    go_upto_region 11 with((first|(go_at_call 180;refine(qM _).mono ?_;rintro e M⟨⟨b7,rfl⟩,c⟩)|(go_at_call 197;refine(nK (by first|exact ak.out|exact dm.out|exact aj.out)).mono ?_;rintro e M⟨rfl,c⟩));replace b:=b.trans c;replace a:=a.hF c;clear c h g r i j t y v;obtain⟨h,g,r,i,j,t,y,v⟩:=a.i5)
    simp only[List.append_eq,Hq,FY]
    go_wp2_with ((first|(go_at_call 180;refine(qM _).mono ?_;rintro e M⟨⟨b7,rfl⟩,c⟩)|(go_at_call 197;refine(nK (by first|exact ak.out|exact dm.out|exact aj.out)).mono ?_;rintro e M⟨rfl,c⟩));replace b:=b.trans c;replace a:=a.hF c;clear c h g r i j t y v;obtain⟨h,g,r,i,j,t,y,v⟩:=a.i5)
    rw[aq.out];exact⟨rfl,Z.trans b⟩
def Ew(N D:Nat)(w:World)(e:Ending)(w':World):Prop:=∃dp:Int,0<=dp/\dp<=D/\e=.returned (.tuple #[Y N,Y dp,.bool true])/\I [] w w'
def Fc(V:List ByteArray)(D:Nat):Prop:=∀(N:Nat) (A:OA) (n c:Nat) (ts:List ST) (p:Nat->Prop) (w:World),N<=1000->ts.length=n->lX V D N ts->Sl w 229 8 A n (ts.flatMap ST.E)->(∀u∈ts,jL p w u)->
 Calls prog 198 #[.slice A n c] w (Ew N D w)
def C6(ao:∀s∈V,mv s)(f:Nat)(m:f<=1000)(HD:∀r,f=r+1->Fc V r):Fc V f:=by
 intro v aj n ak C S al cV hn bX bn km
 refine h5 λan aq=>?_
 have K:=U hn;have bj:=U bn;have ai:lX V f v (C.drop 0):=bX;have cJ:n<=1000:=ov bX.len;clear hn bn
 go_enter func198,ntmps198
 go_wp2
 go_loopw [5,6,17] (λap dv N w'=>∃(e g z:Nat) (h:Int),e<=n/\N=Y e/\ap=Y g/\dv=Y h/\0<=h/\h<=f/\g+z=v/\lX V f z (C.drop e)/\I [] al w') (λ_ _ N _=>n-(intOf N).toNat)
 case atStart=>exact⟨0,0,v,0,N_ _,gn,gn,rfl,X,X,X,ai,H _ _⟩
 case round=>
  obtain⟨e,g,z,h,hk,rfl,rfl,rfl,aU,cT,hab,i,p⟩:=hrel;have R:=U hab;have o:g<=1000:=X;clear ai hab
  by_cases af:e<n
  .have L:e<C.length:=ov K.out;obtain⟨bC,off,hA,z0,aR,aZ,z3,z4,z5,cp,cQ⟩:=ST.at_ (bj.out.hF p) K.out L;subst hA;rw[Q_ L]at i;obtain⟨G,b2,bT,O,b4⟩:=i.split;have av:=U bT;have ae:=(km _ (O_ L)).hF p;generalize C[e]=a at z0 aR aZ z3 z4 z5 cp cQ O ae;clear i bT;obtain⟨r,nb,nl,aQ,aY,hD,bA,bH,aS,a8,hes,hb,hl⟩:=O.one;have bi:=HD r hD;have B:=U bA;obtain⟨p1,l,aw,aI,cx,ax⟩:=ae.parts
   have hbl:nb+nl+1<=1000:=by have:=R.out;have:=av.out;omega
   have d:(r:Int)+1=f:=X;have ay:=U d;have aG:=U (λaz(hg:I [] wr az)=>tY ao S a.h6 a.name a.fn a.n a.op a.AE a.cE a.es a.AB a.cB a.bs a.AL a.cL a.ls aQ aY az bH aS a8 hes (p1.hF hg) (λk j=>(l k j).hF hg));clear hD bA bH O d;obtain⟨am,gx,b9,aL,W,F⟩:=box1 wr 229 #[Y a.h6,.string a.name,.string a.fn,Y a.n,Y a.op,.slice a.AE a.es.length a.cE,.slice a.AB a.bs.length a.cB,.slice a.AL a.ls.length a.cL];obtain⟨u,t,y,w,x,A,E,D⟩:=F.i5
   go_wp2_with fail
   go_at_call 215
   refine(aG.out am W).mono ?_;rintro aA w2⟨rfl,J⟩;have M:=W.trans J;clear u t y w x A E D aG;obtain⟨u,t,y,w,x,A,E,D⟩:=(F.hF J).i5
   go_wp2_with fail
   go_at_call 198
   refine(bi nb a.AB _ a.cB a.bs S _ X rfl hb (aw.hF M) (λk j=>(aI k j).hF M)).mono ?_;rintro aA ag⟨b,aH,q,rfl,Z⟩;have Q:=M.trans Z;clear u t y w x A E D;obtain⟨u,t,y,w,x,A,E,D⟩:=(F.hF (J.trans Z)).i5
   go_wp2_with fail
   go_at_call 198
   refine(bi nl a.AL _ a.cL a.ls S _ X rfl hl (cx.hF Q) (λk j=>(ax k j).hF Q)).mono ?_;rintro aA ad⟨c,aB,aC,rfl,MS⟩;have aE:=Q.trans MS
   have cf:0<=(if b<c then c else b)/\(if b<c then c else b)<=1000:=by have b8:=ay.out;split<;>omega
   have p7:wrap64 (1+if b<c then c else b)=1+(if b<c then c else b):=by
    generalize (if b<c then c else b)=aF at cf |-;unfold wrap64;omega
   go_wp2;go_roundw
   case rel=>
    have aN:=R.out;have aK:=av.out;have P:=B.out;have b8:=ay.out;refine⟨e+1,g+G,b2,_,X,gn,by rw[P];go_num,rfl,?_,?_,X,b4,p.trans aE⟩
    .split<;>(try split)<;>omega
    .split<;>(try split)<;>omega
   case measure=>exact mz
  .go_wp2;rw[aq.out]
   have aN:z=0:=by
    rw[Gb (ov K.out)]at i
    cases i;rfl
   have aK:=R.out;have P:g=v:=X;subst P;refine⟨rfl,.tuple #[Y g,Y h,.bool true],?_,h,aU,cT,rfl,p⟩
   kernel_rfl
def A5{V:List ByteArray}(b:∀s∈V,mv s):∀a,a<=1000->Fc V a
 |0,_=>C6 b 0 X λr h=>by omega
 |a+1,h=>C6 b (a+1) X λr c=>by
  have e:r=a:=X;subst e;exact A5 b r X
structure Nm(V l l':List ByteArray):Prop where
 sub:∀x∈l,x∈l'
 new:∀x∈l',x∈l∨x∈V
 nd:l.Nodup->l'.Nodup
def Nm.refl(V l:List ByteArray):Nm V l l:=⟨λ_ a=>a,λ_ a=>.inl a,λa=>a⟩
def Nm.trans{f b c:List ByteArray}(h:Nm V f b)(k:Nm V b c):Nm V f c:=⟨λa e=>k.sub a (h.sub a e),λa e=>(k.new a e).elim (h.new a) .inr,λg=>k.nd (h.nd g)⟩
def ba_eq{x:ByteArray}(h:x.toList=s.toList):x=s:=by
 rw[Hn,Hn]at h
 cases x;cases s
 congr 1;exact Array.toList_inj.1 h
def qQ:hasB l s=true↔s∈l:=by
 unfold hasB;rw[List.any_eq_true];constructor
 .rintro⟨c,b,a⟩
  have:c=s:=ba_eq (zu a)
  rw[<-this];exact b
 .intro a;exact⟨s,a,J⟩
def Nm.add(k:s∈V):Nm V l (qY l s):=by
 unfold qY
 by_cases b:hasB l s=true
 .rw[U_ b];exact .refl _ _
 .rw[R_ b]
  have j:s∉l:=λi=>b (qQ.2 i)
  refine⟨λc a=>F9 _ a,λc a=>?_,λh=>?_⟩
  .rcases X_.1 a with a|a
   .exact .inl a
   .have:c=s:=zu a
    subst this;exact .inr k
  .rw[Hv];refine⟨h,J,λp f e g=>?_⟩
   have:e=s:=zu g
   subst this;rintro rfl;exact j f
def wC:s∈qY l s:=by
 unfold qY
 by_cases a:hasB l s=true
 .rw[U_ a];exact qQ.1 a
 .rw[R_ a];simp
inductive nT(L:List ByteArray):List ST->Prop
 |nil:nT L []
 |cons (t:ST) (l:List ST) (h:(prt t.h6).name=true->t.name∈L) (hb:nT L t.bs) (hl:nT L t.ls) (hr:nT L l):nT L (t::l)
def nT.mono{L M:List ByteArray}{l:List ST}(h:nT L l)(e:∀x∈L,x∈M):nT M l:=by
 induction h with
 |nil=>exact .nil
 |cons f l h g i j a d c=>exact .cons f l (λb=>e _ (h b)) a d c
def nT.append{L:List ByteArray}{l m:List ST}(h:nT L l)(k:nT L m):nT L (l++m):=by
 induction h with
 |nil=>exact k
 |cons e l h b c f _ _ a=>exact .cons e _ h b c a
def Ep(base:Nat)(V l:List ByteArray)(ts:List ST)(w:World)(e:Ending)(w':World):Prop:=∃(A:OA) (c:Nat) (l':List ByteArray),e=.returned (.slice A l'.length c)/\p2 base w' A c l'/\Nm V l l'/\nT l' ts/\Gt base [9] w w'
def E5(base:Nat)(V:List ByteArray)(D:Nat):Prop:=∀(N:Nat) (A:OA) (n c:Nat) (l:List ByteArray) (B:OA) (m d:Nat) (ts:List ST) (p:Nat->Prop) (w:World),N<=1000->l.length=n->ts.length=m->m<=100000->l.Nodup->(∀x∈l,x∈V)->lX V D N ts->p2 base w A c l->base<=w.heap.size->Sl w 229 8 B m (ts.flatMap ST.E)->(∀u∈ts,jL p w u)->
 Calls prog 174 #[.slice A n c,.slice B m d] w (Ep base V l ts w)
open Classical in
def lr:∀(l m:List ByteArray),l.Nodup->(∀x∈l,x∈m)->l.length<=m.length
 |[],_,_,_=>by simp
 |x::l,m,h,c=>by
  have i:=c x J;have b:=HQ.1 h;obtain⟨j,k,rfl⟩:=List.append_of_mem i
  have:=lr l (j++k) b.2 λf e=>by
   have g:f≠x:=by rintro rfl;exact b.1 e
   have:=c f (by simp[e])
   simp only[X_,M_]at this |-
   rcases this with a|a|a
   .exact .inl a
   .exact FU a g
   .exact .inr a
  simp only[FK,J_]at this |-;omega
def Gt.Ea{b w:World}{M:List Nat}(h:I M b w)(k:∀g∈M,base<=g/\∃cs t,Bk b g t cs/\t∈T):Gt base T b w:=
 ⟨h.os,h.tape,h.output,h.size,λc i a=>h.block c i λj=>by
   obtain⟨p,cs,t,e,f⟩:=k c j
   rcases a with a|a
   .omega
   .exact a _ _ _ e f⟩
def mY.nm{k:Int}{x f:ByteArray}{L:Bool}(h:mY V k x f n o m B L)(a:(prt k).name=true):x∈V:=by
 cases h with
 |vb x h|wq x h|wo x h|Aw x h|Cb x h|ask x h|red x h=>assumption
 |EI|D3|EH|ret|EE|EM=>simp[prt]at a
def mY.kr{k:Int}{x f:ByteArray}{L:Bool}(h:mY V k x f n o m B L):1<=k/\k<=12:=by cases h<;>decide
def C1(base:Nat)(V:List ByteArray)(b0:V.length<=1000)(D:Nat)(HD:∀r,D=r+1->E5 base V r):E5 base V D:=by
 intro N al n an l B m d p aA aE aw hn hm cG s aH bX ao aK bn km
 refine h5 λaJ aq=>?_
 subst hn;have HM:=U hm;have ak:=bn;have bj:=U ak;have ai:lX V D N (p.drop 0):=bX;clear hm bn ak
 go_enter func174,ntmps174
 go_wp2
 go_loopw [0,9] (λov S w'=>∃(c:Nat) (A':OA) (c':Nat) (L:List ByteArray) (aN aT:Nat),c<=m/\S=Y c/\ov=.slice A' L.length c'/\p2 base w' A' c' L/\Nm V l L/\nT L (p.take c)/\Gt base [9] aE w'/\aN+aT=N/\lX V D aT (p.drop c)) (λ_ S _=>m-(intOf S).toNat)
 case atStart=>exact⟨0,al,an,l,0,N,N_ _,gn,gn,ao,.refl _ _,.nil,.refl _ _ _,X,ai⟩
 case round=>
  obtain⟨c,M,c1,C,a1,b1,hk,rfl,rfl,bO,F,bS,x,hab,bV⟩:=hrel;have aU:=U hab;clear ai hab
  by_cases af:c<m
  .have E:c<p.length:=ov HM.out;obtain⟨bC,off,hA,z0,aR,aZ,z3,z4,z5,cp,cQ⟩:=ST.at_ (bj.out.gt x O) HM.out E;subst hA;rw[Q_ E]at bV;obtain⟨G,b2,bT,bI,b4⟩:=bV.split;have av:=U bT;have ae:=(km _ (O_ E)).gt x O O;obtain⟨a,ht⟩:=nm_ (p[c]);have bR:=U ht;rw[<-ht]at z0 aR aZ z3 z4 z5 cp cQ bI ae;clear bV bT ht;obtain⟨r,nb,nl,aQ,aY,hD,bA,bH,_,_,_,hb,hl⟩:=bI.one;have bi:=HD r hD;obtain⟨_,_,P,R,cx,Q⟩:=ae.parts;obtain⟨bZ,bq⟩:=bH.kr;have d4:=bH.nm;have hbl:=hb.len;have ck:=hl.len
   have cJ:nb<=1000/\nl<=1000:=by
    have:=aU.out
    have:=av.out
    have:=aw
    omega
   have aV:=F.nd s
   have ag:=λg A=>(F.new g A).elim (aH g) id
   have hl1:=G_ (lr C V aV ag) b0;clear hD bA bH bI;obtain⟨I,gx,b9,aL,i,z⟩:=box1 wr 229 #[Y a.h6,.string a.name,.string a.fn,Y a.n,Y a.op,.slice a.AE a.es.length a.cE,.slice a.AB a.bs.length a.cB,.slice a.AL a.ls.length a.cL];obtain⟨MV,MU,au,aP,ar,bz,aW,aX⟩:=z.i5;have q:=iy bO i;replace P:=Sl.hF P i
   replace R:=λt k=>(R t k).hF i
   replace cx:=Sl.hF cx i
   replace Q:=λt k=>(Q t k).hF i
   have bW:=x.trans (.js i:Gt base [9] wr I);have be:=G_ aK ((x.trans (.js i:Gt base [9] wr I)).size);have a2:=U d4;clear d4
   go_upto_if 15 with(go_at_call 200;refine(vV bZ bq).mono ?_;rintro e w2⟨rfl,rfl⟩)
   go_cut [0] (λov a7=>∃(v:OA) (u:Nat) (w:List ByteArray),ov=.slice v w.length u/\p2 base a7 v u w/\Nm V C w/\((prt a.h6).name=true->a.name∈w)/\Gt base [9] I a7)
   case first=>
    cases b:(prt a.h6).name with
    |true=>
     have y:=U (uK base M c1 C a.name I rfl q X be);have f:=U b;clear b
     go_wp2_with (go_at_call 173;refine y.out.mono ?_;rintro e w2⟨v,u,rfl,bd,j⟩)
     go_meet;refine⟨v,u,_,rfl,bd,.add (a2.out f.out),λ_=>wC,(.Ea j λbf hg=>?_)⟩;obtain⟨W,K,h2⟩:=qJ q (jK.1 hg);exact⟨W,K,_,h2,J⟩
    |false=>
     have f:=U b;clear b;go_wp2;go_meet;exact⟨M,c1,C,rfl,q,.refl _ _,λe=>FU (e.symm.trans f.out) O,.refl _ _ _⟩
   case rest=>
    obtain⟨v,u,w,rfl,bd,dI,b6,j⟩:=hcut;have MZ:=dI.nd aV
    have bh:=λg A=>(dI.new g A).elim (ag g) id
    replace z:=z.gt j O;clear MV MU au aP ar bz aW aX;obtain⟨MV,MU,au,aP,ar,bz,aW,aX⟩:=z.i5
    go_upto_region 6 with fail
    refine hN (λw'=>w'.cell? (Z gx 6)=some (.slice a.AB a.bs.length a.cB)/\w'.cell? (Z gx 7)=some (.slice a.AL a.ls.length a.cL)) 7 k_ ?_
    refine m5 ⟨aW,aX⟩ λb=>?_
    refine iv 0 b ?_;refine iv 1 b ?_;refine iv 2 b ?_;refine iv 4 b ?_;refine iv 5 b ?_
    refine hZ 3 λy f=>?_
    go_simp
    go_at_call 174
    refine(bi nb v _ u w a.AB _ a.cB a.bs aA _ cJ.1 rfl rfl X MZ bh hb (iy bd (H [] _).drew) (G_ be j.size) (Sl.hF (P.gt j O) (H [] _).drew) (λt k=>((R t k).gt j O O).hF (H [] _).drew)).mono ?_;rintro e ad⟨aM,c4,o,rfl,aB,T,ca,MS⟩;have K:=j.trans ((Gt.js (H [] wc).drew).trans MS);have bQ:=z.gt ((Gt.js (H [] wc).drew).trans MS) O;have ay:=T.nd MZ
    have aC:=λg A=>(T.new g A).elim (bh g) id
    clear b
    refine h4 f ⟨bQ.f_ 6,bQ.f_ 7⟩ λb=>?_
    clear f y
    refine hZ 6 λy f=>?_
    go_simp
    go_at_call 174
    refine(bi nl aM _ c4 o a.AL _ a.cL a.ls aA _ cJ.2 rfl rfl X ay aC hl aB (G_ be K.size) (cx.gt K O) (λt k=>((Q t k).gt K O O))).mono ?_;rintro e MT⟨a8,c5,dF,rfl,M0,W,bk,aj⟩;have ax:=K.trans aj;have b8:=bQ.gt aj O;clear b
    refine h4 f ⟨b8.f_ 6,b8.f_ 7⟩ λb=>?_
    clear f y
    refine hZ 7 λy f=>?_
    go_simp;refine f.out _ _ (λh=>FU h O) ?_;clear f y b;refine hM k_ ?_ _;go_wp2;go_roundw
    case rel=>
     have ap:=(dI.trans T).trans W;refine⟨c+1,a8,c5,dF,a1+G,b2,X,gn,gn,M0,F.trans ap,?_,bW.trans ax,by have:=aU.out;have:=av.out;omega,b4⟩;rw[T_ E,<-bR.out];exact(bS.mono ap.sub).append (.cons a [] (λe=>W.sub _ (T.sub _ (b6 e))) (ca.mono W.sub) bk .nil)
    case measure=>exact mz
  .go_wp2;rw[aq.out];refine⟨M,c1,C,rfl,bO,F,?_,x⟩;have e:p.take c=p:=FP (ov HM.out);rw[e]at bS;exact bS
def Aa(base:Nat)(V:List ByteArray)(b:V.length<=1000):∀a,E5 base V a
 |0=>C1 base V b 0 λr h=>by omega
 |a+1=>C1 base V b (a+1) λr h=>by
  have e:r=a:=X;subst e;exact Aa base V b r
def Eq(V ps:List ByteArray)(bs:List ST)(w:World)(e:Ending)(w':World):Prop:=∃(A:OA) (c:Nat) (l:List ByteArray),e=.returned (.slice A l.length c)/\Bs w' A l/\l.Nodup/\(∀x∈l,x∈V)/\(∀x∈ps,x∈l)/\nT l bs/\I [] w w'
structure C0(q:Nat->Prop)(w:World)(f:FT):Prop where
 hp:Bs w f.AP f.ps
 vj:f.ps.length<=f.cP
 hb:Sl w 229 8 f.A f.bs.length (f.bs.flatMap ST.E)
 hs:∀t∈f.bs,jL q w t
def C0.hF{w:World}{f:FT}(h:C0 q w f)(a:I [] w w'):C0 q w' f:=⟨Sl.hF h.hp a,h.vj,Sl.hF h.hb a,λc b=>(h.hs c b).hF a⟩
def C0.gt{w:World}{f:FT}(h:C0 q w f)(a:Gt base T w w')(c:9∉T)(e:226∉T)(b:229∉T):C0 q w' f:=⟨Sl.gt h.hp a c,h.vj,Sl.gt h.hb a b,λi g=>(h.hs i g).gt a e b⟩
def FT.g_(f:FT):Array Value:=#[.string f.name,.slice f.AP f.ps.length f.cP,.slice f.A f.bs.length f.c]
def sN(V:List ByteArray)(b0:V.length<=1000)(P r:Nat)(f:FT)(q:Nat->Prop)(w:World)(aY:C0 q w f)(bX:lX V P r f.bs)(bA:r<=1000)(i:∀x∈f.ps,x∈V)(bZ:f.ps.length<=1000):
 Calls prog 135 #[.agg f.g_] w (Eq V f.ps f.bs w):=by
 refine h5 λad aq=>?_
 have hbl:=bX.len;obtain⟨g,E,aW,a,k,j⟩:=box1 w 213 f.g_;replace j:Bk g E 213 #[.string f.name,.slice f.AP f.ps.length f.cP,.slice f.A f.bs.length f.c]:=j;have Q:g.cell? (Z E 1)=some (.slice f.AP f.ps.length f.cP):=j.f_ 1;have R:=U (aY.hF k);obtain⟨n,I⟩:=mn_ f.ps.length;have S:=U I;rw[I]at Q bZ;clear I aY;obtain⟨base,aK⟩:=nm_ g.heap.size;have MZ:base<=g.heap.size:=X;have D:=U aK;clear aK
 go_enter func135,ntmps135
 go_wp2;clear Q aW a
 go_loopw [3,9] (λov z w'=>∃(b:Nat) (M:OA) (c':Nat) (p:List ByteArray),b<=n/\z=Y b/\ov=.slice M p.length c'/\p2 base w' M c' p/\Nm V [] p/\(∀x∈f.ps.take b,x∈p)/\Gt base [9] g w') (λ_ z _=>n-(intOf z).toNat)
 case atStart=>exact⟨0,none,0,[],N_ _,gn,rfl,iT _ _ _ _,.refl _ _,J,.refl _ _ _⟩
 case round=>
  obtain⟨b,N,c1,L,hk,rfl,rfl,A,h,bS,c⟩:=hrel;have ae:=h.nd .nil
  have ag:=λx a=>(h.new x a).elim (λF=>by cases F) id
  have hl1:=G_ (lr L V ae ag) b0;have W:=G_ MZ c.size
  by_cases af:b<n
  .have u:b<f.ps.length:=ov S.out;obtain⟨ai,off,H,hc⟩:=Sl.f_ (Sl.hF R.out.hp (c.gr (by rw[D.out];exact H_ _))) X;have au:=hc b (.string f.ps[b]) (by rw[Gf,K_ u];rfl);have d:=i _ (O_ u);obtain⟨x,a⟩:=nm_ (f.ps[b]);have T:=U a;have v:=U (uK base N c1 L x wr rfl A X W);have HA:=U H;rw[<-a]at au d;clear a hc;rw[H];clear H
   go_wp2_with (go_at_call 173;refine v.out.mono ?_;rintro aj w2⟨C,y,rfl,K,t⟩)
   go_roundw
   case rel=>
    refine⟨b+1,C,y,_,X,gn,gn,K,h.trans (.add d),λak e=>?_,c.trans (.Ea t λal k=>?_)⟩
    .rw[T_ u,<-T.out]at e
     rcases X_.1 e with e|e
     .exact(Nm.add (V:=V) d).sub _ (bS ak e)
     .have:ak=x:=zu e
      subst this;exact wC
    .obtain⟨h1,cs,h2⟩:=qJ A (jK.1 k);exact⟨h1,cs,_,h2,J⟩
   case measure=>exact mz
  .have br:=j.gt c O;have au:wr.cell? (Z E 2)=some (.slice f.A f.bs.length f.c):=br.f_ 2;have u:=U (R.out.hF (c.gr (by rw[D.out];exact H_ _)));have v:=U (Aa base V b0 P r N _ c1 L f.A _ f.c f.bs q wr bA rfl rfl X ae ag bX A W u.out.hb u.out.hs)
   go_wp2_with (go_at_call 174;refine v.out.mono ?_;rintro aj w2⟨C,y,dz,rfl,K,H,cM,t⟩)
   rw[aq.out];have e:=h.trans H;refine⟨C,y,dz,rfl,K.bs,e.nd .nil,λx a=>(e.new x a).elim (λF=>by cases F) id,λx a=>H.sub _ (bS x ?_),cM,k.trans ((c.trans t).gr (by rw[D.out];exact H_ _))⟩;rw[FP (ov S.out)];exact a
structure PG(V:List ByteArray)(q:Nat->Prop)(w:World)(PA:OA)(fs:List FT)(Ns:List Nat):Prop where
 hfs:BZ w PA fs
 len:fs.length=3
 rd:∀f∈fs,C0 q w f
 nm:∀f∈fs,mv f.name/\(∀x∈f.ps,x∈V)/\f.ps.length<=2
 nl:Ns.length=3
 sg:∀(k:Nat) (h:k<fs.length) (h2:k<Ns.length),lX V 5 Ns[k] fs[k].bs
 sum:Ns.sum<=64
def PG.hF{w:World}{fs:List FT}{Ns:List Nat}(h:PG V q w PA fs Ns)(a:I [] w w'):PG V q w' PA fs Ns:=
 ⟨Sl.hF h.hfs a,h.len,λb c=>(h.rd b c).hF a,h.nm,h.nl,h.sg,h.sum⟩
def pm(Ns:List Nat)(k:Nat)(h:k<Ns.length):(Ns.take (k+1)).sum=(Ns.take k).sum+Ns[k]/\(Ns.take (k+1)).sum<=Ns.sum:=by
 have a:(Ns.take (k+1)).sum=(Ns.take k).sum+Ns[k]:=by rw[T_ h,List.sum_append];simp
 refine⟨a,?_⟩;have b:=Z_ List.sum (Hu (k+1) Ns);rw[List.sum_append]at b;omega
def w7(P:∀s∈V,mv s)(q:Nat->Prop)(PA:OA)(c:Nat)(fs:List FT)(Ns:List Nat)(w:World)(hP:PG V q w PA fs Ns):
 Calls prog 169 #[.agg #[.slice PA 3 c]] w (ve (Y 0) w):=by
 refine h5 λae aq=>?_
 obtain⟨E,gx,N,hx,hg,hB⟩:=box1 w 150 #[.slice PA 3 c];have f:E.cell? (Z gx 0)=some (.slice PA 3 c):=hB.f_ 0;have e:=U (hP.hF hg);clear hP
 go_enter func169,ntmps169
 go_wp2;have bU:=U N;clear f N hx
 go_loopw [3,4,25] (λm l g w'=>∃a:Nat,a<=3/\g=Y a/\m=.bool false/\l=Y ((Ns.take a).sum:Nat)/\I [] E w') (λ_ _ g _=>3-(intOf g).toNat)
 case atStart=>exact⟨0,X,gn,rfl,J,H _ _⟩
 case round=>
  obtain⟨a,hk,rfl,rfl,rfl,F⟩:=hrel
  by_cases af:a<3
  .have p:a<fs.length:=ov e.out.len;have K:a<Ns.length:=ov e.out.nl;obtain⟨ag,off,hA,z0,L,O⟩:=BZ.at_ (e.out.hF F).hfs p;subst hA;have C:=(e.out.hF F).rd _ (O_ p);obtain⟨hn1,R,b6⟩:=e.out.nm _ (O_ p);have r:=e.out.sg a p K;obtain⟨W,eH⟩:=pm Ns a K;have x:=e.out.sum;have aj:=U hn1;have S:=U R;have cU:=U W;have al:(Ns.take a).sum+Ns[a]<=64:=X;obtain⟨b,hf⟩:=nm_ (fs[a]);obtain⟨an,D⟩:=nm_ (Ns[a]);have HM:=U D;rw[<-hf]at z0 L O C aj S b6 r;rw[<-D]at r al;obtain⟨ap,y⟩:=nm_ ((Ns.take a).sum);have ar:=U y;rw[<-y]at al |-;clear W eH x hn1 R hf D y;have z:=U C;have c9:=U r;clear C r;obtain⟨am,bt,b9,hg1,MX,i⟩:=box1 wr 213 #[.string b.name,.slice b.AP b.ps.length b.cP,.slice b.A b.bs.length b.c];obtain⟨f,k,h⟩:=i.nO
   go_upto_region 9 with(go_at_call 197;refine(nK aj.out).mono ?_;rintro av w2⟨rfl,v⟩;replace i:=i.hF v;clear f k h;obtain⟨f,k,h⟩:=i.nO)
   have bW:=MX.trans v;clear v f k h
   go_loopw [36] (λg w'=>∃j:Nat,j<=b.ps.length/\g=Y j/\I [] w2 w') (λg _=>b.ps.length-(intOf g).toNat)
   case atStart=>exact⟨0,X,gn,H _ _⟩
   case round=>
    obtain⟨j,hj,rfl,A⟩:=hrel;have u:=bW.trans A;obtain⟨n,t⟩:=nm_ b.ps.length;have aw:=U t;have ax:n<=2:=X
    by_cases Q:j<b.ps.length
    .obtain⟨b2,ak,B,hc⟩:=Sl.f_ (z.out.hF u).hp X;have h:=hc j (.string b.ps[j]) (by rw[Gf,K_ Q];rfl);have d:=S.out _ (O_ Q);have M:=U (P _ d);generalize b.ps[j]=ay at h M;rw[B]at*;clear hc t B d
     go_wp2_with (go_at_call 197;refine(nK M.out).mono ?_;rintro av ad⟨rfl,MS⟩)
     exact Mf
    .rw[<-t]at*;clear t;obtain⟨f,k,h⟩:=(i.hF A).nO;have aG:=U (A5 P 5 X an b.A _ b.c b.bs q _ X rfl c9.out (z.out.hF u).hb (z.out.hF u).hs)
     go_wp2_with fail
     go_at_call 198
     refine aG.out.mono ?_;rintro av ad⟨dp,ai,M,rfl,MS⟩;obtain⟨z0,L,O⟩:=(i.hF (A.trans MS)).nO;have cT:dp<=5:=M;clear f k h M;go_wp2;go_roundw
     case rel=>
      refine⟨a+1,X,gn,by rw[GX X],?_,(F.trans u).trans MS⟩;rw[cU.out,<-ar.out,<-HM.out];go_num
     case measure=>exact mz
  .have b:a=3:=X
   have x:(Ns.take a).sum<=64:=by
    rw[FP (ov e.out.nl)];exact e.out.sum
   generalize (Ns.take a).sum=ap at x |-;exact Mz
def Et(V:List ByteArray)(w:World)(e:Ending)(w':World):Prop:=∃(A:OA) (c:Nat) (l:List ByteArray),e=.returned (.slice A l.length c)/\Bs w' A l/\(∀x∈l,x∈V)/\l.length<=V.length/\(∀x off,A=some (Z x off)->0<l.length->w.heap.size<=x)/\I [] w w'
def Fa(V:List ByteArray)(p:Nat->Prop)(t:ET):Prop:=∀w:World,kq p w t->Calls prog 199 #[.agg t.g_] w (Et V w)
def ut(V:List ByteArray)(b0:V.length<=1000)(p:Nat->Prop)(k n:Int)(s:ByteArray)(o:Int)(A:OA)(c:Nat)(l:List ET)(hk:k=3->s∈V)(dg:l.length<=2)(hl:∀u∈l,Fa V p u):Fa V p (.mk k n s o A c l):=by
 intro al hE
 refine h5 λan aq=>?_
 obtain⟨i2,aA,ck,cr,cx⟩:=info_parts infoStr
 have bn:Sl al 226 5 A l.length (l.flatMap ET.E):=by cases hE with|mk bd t _ _ _=>exact t
 have bf:∀u∈l,kq p al u:=by cases hE with|mk bd _ _ _ t=>exact t
 obtain⟨m,hm⟩:=mn_ l.length;obtain⟨j,gx,aW,y,hg,hB⟩:=box1 al 226 (ET.mk k n s o A c l).g_
 replace hB:Bk j gx 226 #[Y k,Y n,.string s,Y o,.slice A m c]:=by rw[<-hm];exact hB
 rw[hm]at bn dg;obtain⟨MV,MU,au,aP,ar⟩:=hB.cells5;have HM:=U hm;have bj:=U (bn.hF hg);have cR:=U (λu L=>(bf u L).hF hg:∀u∈l,kq p j u);clear hm bn bf hE;obtain⟨base,aK⟩:=nm_ j.heap.size;have MZ:base<=j.heap.size:=X;have df:al.heap.size<=base:=ov hg.size;have c8:=U aK;clear aK
 go_enter func199,ntmps199
 go_upto_region 2 with fail
 go_upto_if 10 with fail
 go_cut [3] (λov a7=>∃(P:OA) (c1:Nat) (M:List ByteArray),ov=.slice P M.length c1/\p2 base a7 P c1 M/\Nm V [] M/\I [] j a7)
 case first=>
  by_cases a:k=3
  .have T:(k==3)=true:=by simp[a]
   have z:=U (hk a);clear hk a;obtain⟨b,aC,E,F,e,w⟩:=box1 j 9 #[.string s];have C:b.ownsRow base 9 1 (n_) 0 []:=iT _ _ _ _;have f:Sl b 9 1 (j_ aC) 1 ([s].map Value.string):=jj (n:=1) (s:=1) w rfl;have i:=G_ MZ e.size
   go_wp2_with (at_builtin;refine j7 rfl rfl base 9 i2 1 16 underlying207 aA ck cr cx rfl O O none 0 0 _ rfl C _ 1 1 _ rfl f (sV) X i ?_;intro r g D h v _)
   go_meet;refine⟨r,g,[s],rfl,h,⟨J,λx y=>?_,λ_=>by simp⟩,?_⟩
   .have:x=s:=zu y
    subst this;exact .inr z.out
   .exact e.trans ((I.iW v).mono (by simp[oK,Value.ownBlock]))
  .have T:(k==3)=false:=by simp[a]
   clear hk a;go_wp2;go_meet;exact⟨none,0,[],rfl,iT _ _ _ _,.refl _ _,H _ _⟩
 case rest=>
  obtain⟨P,c1,M,rfl,bO,aF,hg1⟩:=hcut;have bh:=hB.hF hg1;clear MV MU au aP ar;obtain⟨MV,MU,au,aP,ar⟩:=bh.cells5
  go_wp2_with fail
  have aU:=U bO;have bH:=U aF
  go_loopw [3,19] (λov r w'=>∃(h:Nat) (v:OA) (w:Nat) (i:List ByteArray),h<=m/\r=Y h/\ov=.slice v i.length w/\p2 base w' v w i/\Nm V [] i/\Gt base [9] j w') (λ_ r _=>m-(intOf r).toNat)
  case atStart=>exact⟨0,P,c1,M,X,gn,rfl,aU.out,bH.out,.js hg1⟩
  case round=>
   obtain⟨h,ap,ai,N,hi,rfl,rfl,q,cF,z⟩:=hrel
   by_cases af:h<m
   .have aL:h<l.length:=ov HM.out;obtain⟨bk,f,K,z0,aR,aZ,z3,z4⟩:=ET.at_ (by rw[HM.out];exact bj.out.gt z O) aL;have aB:=hl l[h] (O_ aL);have L:=(cR.out _ (O_ aL)).gt z O;have HA:=U K;generalize l[h]=u at z0 aR aZ z3 z4 aB L;obtain⟨am,bt,b9,bF,MX,bo⟩:=box1 wr 226 #[Y u.h6,Y u.n,.string u.name,Y u.op,.slice u.A u.l.length u.c];obtain⟨aV,bq,aC,ak,ao⟩:=bo.cells5;have aG:=U (aB am (L.hF MX));rw[K]at*;clear aB L K
    go_wp2_with fail
    go_at_call 199
    refine aG.out.mono ?_;rintro bm w2⟨a8,c5,b,rfl,b5,aQ,ax,a6,aj⟩;have bv:=MX.trans aj;have M0:=iy q bv;have bX:=G_ MZ (z.trans (.js bv)).size
    have ay:∀x f,a8=some (Z x f)->0<b.length->(Value.slice ap N.length ai).ownBlock≠some x:=λx f h1 h2 F=>by
     have aw:=(kk q F).2;have av:=a6 x f h1 h2;have aY:=MX.size;omega
    have a2:b.length<=1000:=X;obtain⟨dk,bx⟩:=mn_ b.length;have bK:=U bx;rw[bx]at a2;have aS:=U ay;have aJ:=U b5;have aN:=U M0;clear bx ay b5 q aV bq aC ak ao z0 aR aZ z3 z4 M0;rw[bK.out]
    go_wp2_with fail
    go_loopw [3,26] (λov r w'=>∃(e:Nat) (v:OA) (w:Nat) (i:List ByteArray),e<=dk/\r=Y e/\ov=.slice v i.length w/\p2 base w' v w i/\Nm V N i/\Gt base [9] w2 w'/\Bs w' a8 b/\(∀x f,a8=some (Z x f)->0<b.length->(Value.slice v i.length w).ownBlock≠some x)) (λ_ r _=>dk-(intOf r).toNat)
    case atStart=>exact⟨0,ap,ai,N,X,gn,gn,aN.out,.refl _ _,.refl _ _ _,aJ.out,aS.out⟩
    case round=>
     obtain⟨e,R,Q,a,hj,rfl,rfl,bL,MY,S,bP,MS⟩:=hrel;have G:=cF.trans MY;have bz:=G.nd .nil
     have bA:=λx y=>(G.new x y).elim (λt=>by cases t) id
     have eZ:=G_ (lr a V bz bA) b0;have aD:=G_ bX S.size;have B:=U MS;clear MS
     by_cases bw:e<dk
     .have MT:e<b.length:=ov bK.out;obtain⟨dE,bD,bl,bQ⟩:=Sl.f_ bP X;have bR:=bQ e (.string b[e]) (by rw[Gf,K_ MT];rfl);have d:=aQ _ (O_ MT);subst bl;generalize b[e]=g at bR d;have bS:=U (oC R _ Q a g wr rfl bL.bs X);have bT:=U d;have bU:=U bP;clear bQ d bP
      cases E:hasB a g with
      |true=>
       rw[E]at bS;clear E
       go_wp2_with (go_at_call 171;refine bS.out.mono ?_;rintro bm ad⟨rfl,rfl⟩)
       go_roundw
       case rel=>exact⟨e+1,R,Q,a,X,gn,gn,bL,MY,S,bU.out,B.out⟩
       case measure=>exact mz
      |false=>
       rw[E]at bS
       have db:qY a g=a++[g]:=by unfold qY;rw[R_ (by rw[E];decide)]
       have bV:=U db;clear E db;obtain⟨W,bN,dX,e0,C,bM⟩:=box1 wr 9 #[.string g];have cq:=iy bL C;have bG:Sl W 9 1 (j_ bN) 1 ([g].map Value.string):=jj (n:=1) (s:=1) bM rfl;have eF:=G_ aD C.size
       go_wp2_with (first|(go_at_call 171;refine bS.out.mono ?_;rintro bm ad⟨rfl,rfl⟩)|(at_builtin;refine j7 rfl rfl base 9 i2 1 16 underlying207 aA ck cr cx rfl O O R a.length Q _ rfl cq _ 1 1 _ rfl bG (sV) X eF ?_;intro ct cv ae de dL eB))
       go_roundw
       case rel=>
        have cV:p2 base ae ct cv (qY a g):=by
         unfold p2;rw[bV.out,J_,FV];exact de
        refine⟨e+1,ct,cv,qY a g,X,gn,by rw[bV.out,J_];rfl,cV,MY.trans (.add bT.out),(S.trans (.js C)).trans (.app dL cq J),?_,?_⟩
        .have D:Bs W (some (Z dE bD)) b:=Sl.hF bU.out C
         exact Sl.rT D λhn bk o aT hb=>dL.block bk hb λhe=>B.out bk o aT hn he.symm
        .intro x f h1 h2;rw[bV.out,J_]
         have bJ:=by
          have D:Bs W (some (Z dE bD)) b:=Sl.hF bU.out C;unfold Bs at D;rw[h1]at D;exact D.lt h2
         rcases eB with ho|ho
         .exact λF=>B.out x f h1 h2 (ho.symm.trans F)
         .exact λF=>by
           have:some W.heap.size=some x:=ho.symm.trans F
           injection this;omega
       case measure=>exact mz
     .go_wp2;go_roundw
      case rel=>exact⟨h+1,R,Q,a,X,gn,gn,bL,G,(z.trans (.js bv)).trans S⟩
      case measure=>exact mz
   .have e:=cF.nd .nil
    have a:=λx y=>(cF.new x y).elim (λt=>by cases t) id
    have b:=lr N V e a;go_wp2;rw[aq.out];refine⟨ap,ai,N,rfl,q.bs,a,b,λx f K _=>?_,hg.trans (z.gr (by rw[c8.out];exact H_ _))⟩;subst K
    have:=(kk q (x:=x) rfl).1
    omega
def DA(c:V.length<=1000)(p:Nat->Prop)(d:Nat)(t:ET)(h:EG V d t):Fa V p t:=by
 induction h with
 |num d n _ _=>exact ut V c p 1 n _ 0 none 0 [] (λh=>FU h O) J (λb a=>by cases a)
 |var d s f=>exact ut V c p 3 0 s 0 none 0 [] (λ_=>f) J (λb a=>by cases a)
 |new d n _ _=>exact ut V c p 6 n _ 0 none 0 [] (λh=>FU h O) J (λb a=>by cases a)
 |field d n e s _ _ f=>
  refine ut V c p 4 n _ 0 e 1 [jA s] (λh=>FU h O) J (λb a=>?_)
  have:b=jA s:=zu a
  subst this;exact ut V c p 3 0 s 0 none 0 [] (λ_=>f) J (λb a=>by cases a)
 |bin d o e i g _ _ _ _ k j=>
  refine ut V c p 5 0 _ o e 2 [i,g] (λh=>FU h O) J (λb a=>?_)
  rcases M_.1 a with rfl|a
  .exact k
  .have:b=g:=zu a
   subst this;exact j
structure PC(w:World)(PA:OA)(fs:List FT):Prop where
 hfs:BZ w PA fs
 len:fs.length=3
 i1:tS pX fs 0=1
 i2:tS pz fs 0=2
 l1:∀h:1<fs.length,fs[1].ps.length=2
 l2:∀h:2<fs.length,fs[2].ps.length=1
def PC.hF{w:World}{fs:List FT}(h:PC w PA fs)(a:I [] w w'):PC w' PA fs:=⟨Sl.hF h.hfs a,h.len,h.i1,h.i2,h.l1,h.l2⟩
def PC.pW{w:World}{fs:List FT}(h:PC w PA fs):∃b a A c A' c',PA=some (Z b a)/\w.cell? (Z b (a+3+1))=some (.slice A 2 c)/\w.cell? (Z b (a+6+1))=some (.slice A' 1 c'):=by
 have t:=h.len;obtain⟨b,a,i,_,f,_⟩:=h.hfs.at_ (k:=1) X;obtain⟨r,u,e,_,g,_⟩:=h.hfs.at_ (k:=2) X;rw[i]at e;injection e with e;injection e with p j;subst p;subst j;rw[h.l1 X]at f;rw[h.l2 X]at g;exact⟨b,a,_,_,_,_,i,f,g⟩
def PC.idx{w:World}{fs:List FT}(h:PC w PA fs)(pc:Nat):Calls prog 170 #[.agg #[.slice PA 3 pc],.string pX] w (λe w'=>e=.returned (Y 1)/\I [] w w')/\Calls prog 170 #[.agg #[.slice PA 3 pc],.string pz] w (λe w'=>e=.returned (Y 2)/\I [] w w'):=by
 have a:=nM PA 3 pc fs pX w h.len h.hfs X;have b:=nM PA 3 pc fs pz w h.len h.hfs X;rw[h.i1]at a;rw[h.i2]at b;exact⟨a,b⟩
def mY.call{k:Int}{x f:ByteArray}{L:Bool}(h:mY V k x f n o m B L)(a:k=3):(f=pX/\m=2)∨(f=pz/\m=1):=by
 cases h<;>first|exact FU a O|exact .inl ⟨rfl,rfl⟩|exact .inr ⟨rfl,rfl⟩
def mY.EV{k:Int}{x f:ByteArray}{L:Bool}(h:mY V k x f n o m B L)(a:k=12):rB o=true:=by
 cases h<;>first|exact FU a O|(rename_i b;rcases b with rfl|rfl|rfl<;>rfl)
def DS(V:List ByteArray)(D:Nat):Prop:=∀(N:Nat) (PA:OA) (pc:Nat) (fs:List FT) (VA:OA) (vc:Nat) (vs:List ByteArray) (A:OA) (n c:Nat) (ts:List ST) (p:Nat->Prop) (w:World),N<=1000->ts.length=n->lX V D N ts->(∀x∈V,x∈vs)->vs.length<=1000->Bs w VA vs->PC w PA fs->Sl w 229 8 A n (ts.flatMap ST.E)->(∀u∈ts,jL p w u)->
 Calls prog 172 #[.agg #[.slice PA 3 pc],.slice VA vs.length vc,.slice A n c] w (ve (Y 0) w)
def Al(b0:V.length<=1000)(K:Nat)(HD:∀r,K=r+1->DS V r):DS V K:=by
 intro al PA pc fs VA vc vs an n aA w p bd cV hn bX bh az hbs vj bn km
 refine h5 λbk aq=>?_
 obtain⟨bm,gx,aW,hx,hg,E⟩:=box1 bd 150 #[.slice PA 3 pc];have a2:=U hn;have bj:=U (bn.hF hg);have cR:=U (λu hu=>(km u hu).hF hg:∀u∈w,jL p bm u);have c8:=U (Sl.hF hbs hg:Bs bm VA vs);have q:=U (vj.hF hg);have cG:=U bh;have c9:=U (show lX V K al (w.drop 0) from bX);have cJ:n<=1000:=ov bX.len;obtain⟨v9,O⟩:=mn_ vs.length;rw[O]at az;have o:=U O;clear hn bn km hbs vj bh bX;rw[O];clear O
 go_enter func172,ntmps172
 go_wp2;have bU:=U aW;clear aW hx
 go_loopw [18] (λc w'=>∃(k a bv:Nat),k<=n/\c=Y k/\a+bv=al/\lX V K bv (w.drop k)/\I [] bm w') (λc _=>n-(intOf c).toNat)
 case atStart=>exact⟨0,0,al,N_ _,gn,X,c9.out,H _ _⟩
 case round=>
  obtain⟨k,a,bv,hk,rfl,hab,bV,F⟩:=hrel;have f:=U hab;clear hab
  by_cases af:k<n
  .have aD:k<w.length:=ov a2.out;obtain⟨bC,off,hA,A,j,v,D,J,z5,cp,cQ⟩:=ST.at_ (bj.out.hF F) a2.out aD;subst hA;rw[Q_ aD]at bV;obtain⟨G,b2,bT,bI,b4⟩:=bV.split;have av:=U bT;have ae:=(cR.out _ (O_ aD)).hF F;generalize w[k]=t at A j v D J z5 cp cQ bI ae;clear bV bT;obtain⟨r,nb,nl,aQ,aY,hD,bA,N,aS,a8,hes,hb,hl⟩:=bI.one;have bi:=HD r hD;have B:=U bA;have aJ:=U b4;obtain⟨W,l,P,aI,cx,R⟩:=ae.parts
   have hbl:nb+nl+1<=1000:=by have:=f.out;have:=av.out;omega
   have cF:=N.rng;have bK:=U N.call;have bP:=U N.EV;clear hD bA N bI aS a8 b4;obtain⟨L,aT,b9,hg1,b,bx⟩:=box1 wr 229 #[Y t.h6,.string t.name,.string t.fn,Y t.n,Y t.op,.slice t.AE t.es.length t.cE,.slice t.AB t.bs.length t.cB,.slice t.AL t.ls.length t.cL];obtain⟨MV,MU,au,aP,ar,bz,z,y⟩:=bx.i5;have bG:=F.trans b;replace W:=Sl.hF W b
   replace l:∀u∈t.es,kq p L u:=λu hu=>(l u hu).hF b
   replace P:=Sl.hF P b
   replace aI:∀u∈t.bs,jL p L u:=λu hu=>(aI u hu).hF b
   replace cx:=Sl.hF cx b
   replace R:∀u∈t.ls,jL p L u:=λu hu=>(R u hu).hF b
   have aO:=U W;obtain⟨m,hm⟩:=mn_ t.es.length;rw[hm]at bz cF;have HM:=U hm;clear hm W b F
   go_upto_region 5 with fail
   clear b9 hg1 MV MU au aP ar bz z y A j v D J z5 cp cQ
   go_loopw [25] (λc w'=>∃h:Nat,h<=m/\c=Y h/\I [] L w') (λc _=>m-(intOf c).toNat)
   case atStart=>exact⟨0,X,gn,H _ _⟩
   case round=>
    obtain⟨h,hi,rfl,b⟩:=hrel
    by_cases aL:h<m
    .have bg:h<t.es.length:=ov HM.out;obtain⟨ez,b6,ax,A,j,v,D,J⟩:=ET.at_ (Sl.hF aO.out b) bg;have aB:=DA b0 p 2 t.es[h] (hes _ (O_ bg));have hu:=(l _ (O_ bg)).hF b;generalize t.es[h]=u at A j v D J aB hu;obtain⟨aX,aF,bE,M0,bW,bo⟩:=box1 wr 226 #[Y u.h6,Y u.n,.string u.name,Y u.op,.slice u.A u.l.length u.c];obtain⟨aV,bq,aC,ak,ao⟩:=bo.cells5;have aG:=U (aB aX (hu.hF bW));rw[ax];clear aB hu ax
     go_wp2_with fail
     go_at_call 199
     refine aG.out.mono ?_;rintro e ag⟨aH,aE,M,rfl,cb,be,bZ,_,ay⟩;have dW:=(b.trans bW).trans ay;have cc:=U cb;obtain⟨Q,bp⟩:=mn_ M.length;have bN:=U bp;have b5:Q<=1000:=X;clear aV bq aC ak ao A j v D J cb bZ;rw[bp];clear bp
     go_wp2_with fail
     go_loopw [32] (λc w'=>∃g:Nat,g<=Q/\c=Y g/\w'=ag) (λc _=>Q-(intOf c).toNat)
     case atStart=>exact⟨0,X,gn,rfl⟩
     case round=>
      obtain⟨g,hj,rfl,rfl⟩:=hrel
      by_cases bw:g<Q
      .have bJ:g<M.length:=ov bN.out;obtain⟨dE,bD,bl,cf⟩:=Sl.f_ cc.out X;have y:=cf g (.string M[g]) (by rw[Gf,K_ bJ];rfl);have d:=cG.out _ (be _ (O_ bJ));generalize M[g]=ca at y d;have i:=oC VA _ vc vs ca wr o.out (Sl.hF c8.out (bG.trans dW)) X;rw[qQ.2 d]at i;have bS:=U i;rw[bl];clear cf d bl i
       go_wp2_with (go_at_call 171;refine bS.out.mono ?_;rintro e ad⟨rfl,rfl⟩)
       go_roundw
       case rel=>exact⟨g+1,X,gn,trivial⟩
       case measure=>exact mz
      .go_wp2;go_roundw
       case rel=>exact⟨h+1,X,gn,dW⟩
       case measure=>exact mz
    .have hg1:=bG.trans b;have aM:=bx.hF b;obtain⟨MV,MU,au,aP,ar,bz,z,y⟩:=aM.i5
     go_upto_if 44 with fail
     go_cut [13] (λc a7=>I [] wr a7)
     case first=>
      by_cases g:t.h6=3
      .have T:(t.h6==3)=true:=by simp[g]
       have M:=bK.out g;rw[HM.out]at M;clear g;have bY:wr.cell? (Z gx 0)=some (.slice PA 3 pc):=(E.hF hg1).f_ 0
       rcases M with⟨hf,Q⟩|⟨hf,Q⟩
       all_goals (subst Q)
       .rw[hf]at au;have aw:=U ((q.out.hF hg1).idx pc).1;exact I9
       .rw[hf]at au;have aw:=U ((q.out.hF hg1).idx pc).2;exact I9
      .have T:(t.h6==3)=false:=by simp[g]
       clear g;go_wp2;go_meet;exact H _ _
     case rest=>
      have bF:=b.trans hcut;have M0:=hg1.trans hcut;have MY:=aM.hF hcut;clear MV MU au aP ar bz z y hcut;obtain⟨MV,MU,au,aP,ar,bz,z,y⟩:=MY.i5;have bY:wc.cell? (Z gx 0)=some (.slice PA 3 pc):=(E.hF M0).f_ 0
      by_cases g:t.h6=12
      .have T:(t.h6==12)=true:=by simp[g]
       have i:=uJ t.op wc;rw[bP.out g]at i;have M:=U i;clear g i
       go_upto_region 22 with(go_at_call 179;refine M.out.mono ?_;rintro e ag⟨rfl,rfl⟩)
       exact IJ
      .have T:(t.h6==12)=false:=by simp[g]
       clear g
       go_upto_region 22 with fail
       exact IJ
  .exact Mz
def x3{V:List ByteArray}(b:V.length<=1000):∀a,DS V a
 |0=>Al b 0 λr h=>by omega
 |a+1=>Al b (a+1) λr c=>by
  have e:r=a:=X;subst e;exact x3 b r
