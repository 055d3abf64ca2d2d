import Derived.Test.YtenbhdilndfaeaaGreatM20
set_option maxRecDepth 100000
set_option maxHeartbeats 0
set_option linter.all false
namespace Go.Proofs.YtenbhdilndfaeaaGreat
open Go.RowKit Go.Proofs.Tryz
variable{G:Prop}{n o:Int}{s:ByteArray}{base m:Nat}{V:List ByteArray}{T:List TypeId}{B:Bool}{q:Nat->Prop}{w':World}{PA:Option Addr}(d:Nat)
theorem Gu(h:G:=by
 have bt:=h_ (aY nb PA pc fs VA vc vs t.AB _ t.cB t.bs p wc o_ rfl hb cv.out (by rw[d.out];exact ax) (Sl.g_ cW.out ad) (g.out.g_ ad) (Sl.g_ M bq) (λu hu=>(bi u hu).g_ bq));rw[d.out]at bt
 go_wp2_with fail
 go_at_call 172
 refine bt.out.mono ?_;rintro e T⟨rfl,af⟩;have x:=bq.trans af;have bG:=ad.trans af;have bo:T.cell? (c_ gx 0)=some (.slice PA 3 pc):=(H.g_ bG).f_ 0;have aM:=K.g_ af;clear Z ah au aQ aV aE z y b4;obtain⟨Z,ah,au,aQ,aV,aE,z,y⟩:=aM.iT;have l:=h_ (aY nl PA pc fs VA vc vs t.AL _ t.cL t.ls p T o_ rfl hl cv.out (by rw[d.out];exact ax) (Sl.g_ cW.out bG) (g.out.g_ bG) (Sl.g_ cA x) (λu hu=>(ak u hu).g_ x));rw[d.out]at l
 go_wp2_with fail
 go_at_call 172
 refine l.out.mono ?_;rintro e ae⟨rfl,am⟩;go_wp2;go_roundw
 case rel=>
  have aP:=o.out;have aL:=v.out;have bN:=C.out;exact⟨k+1,a+f,b2,by omega,by go_num,by omega,bD.out,bG.trans am⟩
 case measure=>simp[intOf];omega):G:=h
theorem G6(h:G:=by
 clear hf
 go_upto_region 18 with(go_at_call 170;refine ag.out.mono ?_;rintro e ai⟨rfl,S⟩)
 obtain⟨bW,off,A1,c1,ay,an,q,bH,bZ⟩:=((g.out.g_ hg1).g_ S).pI;have bO:ai.cell? (c_ gx 0)=some (.slice PA 3 pc):=(H.g_ (hg1.trans S)).f_ 0;have bC:=(aI.g_ S).iT.2.2.2.2.2.1;rw[O.out]at bC;rw[q]at bO;clear Z ah au aQ aV aE z y b4 q
 go_quiet (fail)
 go_wp2;go_meet;exact S.trans ((D_ [] _).drewN _)):G:=h
theorem Ji(h:G:=by
 have h3:(i+1:Int)*nb d<=m*nb d:=Fp o_ (by have:=j.out;omega);rw[Int.add_mul,Int.one_mul]at h3;omega):G:=h
theorem Js(h:G:=by
 have h1:=ai.out;have h2:=r.out;have h3:(i:Int)*nb d<=m*nb d:=Fp o_ (by have:=j.out;omega);omega):G:=h
theorem JS(h:G:=by
 go_wp2
 go_quiet (fail)
 go_wp2;go_meet;exact⟨rfl,rfl,rfl,(D_ [] _).drewN _⟩):G:=h
def nb:Nat->Int|0=>1|d+1=>1+2*nb d
theorem wC:1<=nb d:=by induction d with|zero=>decide|succ d ad=>unfold nb;omega
def C0(d:Nat)(w:World)(e:Ending)(w':World):Prop:=∃N:Int,1<=N/\N<=nb d/\e=.returned (i_ N)/\Gr [] w w'
def DD(d:Nat)(p:Nat->Prop)(t:ET):Prop:=∀(left:Int) (w:World),nb d<=left->left<=16->kc p w t->Calls prog 223 #[.agg t.g8,i_ left] w (C0 d w)
inductive Kd:Int->Int->ByteArray->Int->Nat->Prop
 |num (n:Int):Kd 1 n iU 0 0
 |var (s:ByteArray) (h:l3 s):Kd 3 0 s 0 0
 |new (n:Int) (h0:0<=n) (h1:n<=3):Kd 6 n iU 0 0
 |field (n:Int) (h0:0<=n) (h1:n<=2):Kd 4 n iU 0 1
 |bin (o:Int) (h0:1<=o) (h1:o<=11):Kd 5 0 iU o 2
theorem Kd.DX{k:Int}(h:Kd k n s o m):m<=2:=by cases h<;>omega
theorem xl:iU.toList=[]:=by rw[Ft];rfl
theorem sP(p:Nat->Prop)(k n:Int)(s:ByteArray)(o:Int)(A:Option Addr)(c:Nat)(l:List ET)(D:Int)(hD:D<=7)(H:Kd k n s o l.length)(hl:∀u∈l,DD d p u)(left:Int)(w:World)(dF:1+l.length*nb d<=left)(T:left<=16)(z:1+l.length*nb d<=D)(hE:kc p w (.mk k n s o A c l)):
 Calls prog 223 #[.agg (ET.mk k n s o A c l).g8,i_ left] w λe w'=>∃N:Int,1<=N/\N<=D/\e=.returned (i_ N)/\Gr [] w w':=by
 refine hX λQ aD=>?_
 have G:=wC d;have cF:l.length<=2:=H.DX
 have be:Sl w 226 5 A l.length (l.flatMap ET.E):=by cases hE with|mk t h _ _ _=>exact h
 have v:∀u∈l,kc p w u:=by cases hE with|mk t _ _ _ h=>exact h
 have V:1<=left:=by have:=Int.mul_nonneg (show(0:Int)<=l.length by omega) (show(0:Int)<=nb d by omega);omega
 obtain⟨m,Y⟩:=mn_ l.length;obtain⟨W,g,aZ,hg,J,hB⟩:=box1 w 226 (ET.mk k n s o A c l).g8
 replace hB:Bk W g 226 #[i_ k,i_ n,.string s,i_ o,.slice A m c]:=by rw[<-Y];exact hB
 rw[Y]at H cF be dF z;obtain⟨Z,ah,au,aQ,aV⟩:=hB.cells5;have O:=h_ Y;have b8:=h_ (be.g_ J);clear Y be hE
 have hq1:¬left<1:=by omega
 go_enter func223,ntmps223
 go_upto_region 2 with(go_at_call 180;refine(qA o _).mono ?_;rintro e w1⟨⟨s1,rfl⟩,hg1⟩)
 replace hB:=hB.g_ hg1;replace J:=J.trans hg1;have B:=h_ (b8.out.g_ hg1);clear b8 hg1 Z ah au aQ aV;obtain⟨Z,ah,au,aQ,aV⟩:=hB.cells5;have K:=xl
 go_upto_block 0 with fail
 go_cut [7,8,9] (λa b c a7=>a=.bool true/\b=i_ m/\c=.bool true/\Gr [] w1 a7)
 case first=>
  rcases H with⟨_⟩|⟨_,bL⟩|⟨_,h0,h1⟩|⟨_,h0,h1⟩|⟨_,h0,h1⟩
  .go_wp2;go_meet;exact⟨rfl,rfl,rfl,D_ _ _⟩
  .go_wp2_with (go_at_call 197;refine(nj _ _ bL).mono ?_;rintro e w2⟨rfl,ad⟩;replace hB:=hB.g_ ad;clear Z ah au aQ aV;obtain⟨Z,ah,au,aQ,aV⟩:=hB.cells5)
   go_meet;exact⟨rfl,rfl,rfl,ad⟩
  .have h2:n<=16:=by omega
   exact JS
  .have h2:n<16:=by omega
   exact JS
  .have dV:ph o=true:=by simp[ph];omega
   go_wp2;go_meet;exact⟨rfl,rfl,rfl,D_ _ _⟩
 case rest=>
  obtain⟨rfl,rfl,rfl,ad⟩:=hcut;replace hB:=hB.g_ ad;replace J:=J.trans ad;have L:=h_ (B.out.g_ ad);clear B ad Z ah au aQ aV K;obtain⟨Z,ah,au,aQ,aV⟩:=hB.cells5;have C:=h_ dF;have r:=h_ z;have j:=h_ G;clear dF z G
  go_upto_region 22 with fail
  have af:Gr [] wc wc:=D_ _ _
  go_loopw [10,118] (λa ar w'=>∃(k:Nat) (N:Int),k<=m/\ar=i_ k/\a=i_ N/\1<=N/\N<=1+k*nb d/\Gr [] wc w') (λ_ ar _=>m-(intOf ar).toNat)
  case atStart=>exact⟨0,1,by omega,by go_num,rfl,by omega,by simp,af⟩
  case round=>
   obtain⟨i,N,hi,rfl,rfl,q,f,F⟩:=hrel;have ai:=h_ f;clear f;have P:N<=7:=Js
   by_cases aj:i<m
   .have bm:i<l.length:=by have:=O.out;omega
    obtain⟨b,off,U,aI,c1,an,aN,c4⟩:=ET.at_ (by rw[O.out];exact L.out.g_ F) bm;have x:=hl l[i] (J_ bm);have hu:=(v _ (J_ bm)).g_ J |>.g_ F;subst U;generalize l[i]=u at aI c1 an aN c4 x hu;obtain⟨R,bt,b5,hg1,E,az⟩:=box1 wr 226 #[i_ u.hT,i_ u.n,.string u.name,i_ u.op,.slice u.A u.l.length u.c];obtain⟨z0,aS,aX,z3,z4⟩:=az.cells5
    have I:nb d<=left-N:=by
     have h1:=ai.out;have h2:=C.out;exact Ji
    have aW:=h_ (x (left-N) R I o_ (hu.g_ E));clear x hu I
    go_wp2_with fail
    refine aW.out.mono ?_;rintro e w2⟨M,y,cj,rfl,S⟩;have bB:=h_ cj
    have cx:N+M<=7:=by
     have h1:=ai.out;have h2:=r.out;exact Ji
    clear cj;go_wp2;go_roundw
    case rel=>
     refine⟨i+1,N+M,by omega,by go_num,rfl,by omega,?_,(F.trans E).trans S⟩;have h1:=ai.out;have h2:=bB.out
     have h3:((i+1:Nat):Int)*nb d=i*nb d+nb d:=by rw[show((i+1:Nat):Int)=(i:Int)+1 by omega,Int.add_mul,Int.one_mul]
     omega
    case measure=>simp[intOf];omega
   .go_wp2;rw[aD.out];refine⟨N,q,?_,rfl,J.trans F⟩;exact Js
theorem yg(aq:∀s∈V,l3 s)(p:Nat->Prop)(d:Nat)(t:ET)(h:EG V d t)(hd:d<=2):DD d p t:=by
 have m:∀d,d<=2->nb d<=7:=by
  intro d hd
  rcases(by omega:d=0∨d=1∨d=2)with rfl|rfl|rfl<;>decide
 have leaf:∀(d:Nat) (k n:Int) (s:ByteArray) (o:Int),d<=2->Kd k n s o 0->DD d p (.mk k n s o none 0 []):=by
  intro d k n s o hd H left w h1 h2 hE
  have:=wC d
  exact(sP 0 p k n s o none 0 [] 1 o_ H (λu hu=>by cases hu) left w p_ h2 s_ hE).mono λe w'⟨N,a1,f,a3,a4⟩=>⟨N,a1,by omega,a3,a4⟩
 induction h with
 |num d n _ _=>exact leaf d _ _ _ _ hd (.num n)
 |var d s hs=>exact leaf d _ _ _ _ hd (.var s (aq s hs))
 |new d n h0 h1=>exact leaf d _ _ _ _ hd (.new n h0 h1)
 |field d n A s h0 h1 hs=>
  intro left w h1' h2 hE;have aP:nb (d+1)=1+2*nb d:=rfl
  have:=wC d
  have:=m (d+1) hd
  refine(sP d p 4 n iU 0 A 1 [jl s] (nb (d+1)) this (.field n h0 h1) (λu hu=>?_) left w p_ h2 p_ hE)
  have:u=jl s:=by simpa using hu
  subst this;exact leaf d _ _ _ _ o_ (.var s (aq s hs))
 |bin d o A a b h0 h1 _ _ i c=>
  intro left w h1' h2 hE;have aP:nb (d+1)=1+2*nb d:=rfl
  have:=m (d+1) hd
  refine(sP d p 5 0 iU o A 2 [a,b] (nb (d+1)) this (.bin o h0 h1) (λu hu=>?_) left w p_ h2 p_ hE)
  rcases M_.1 hu with rfl|hu
  .exact i o_
  .have:u=b:=by simpa using hu
   subst this;exact c o_
theorem wL(aq:∀s∈V,l3 s)(p:Nat->Prop)(t:ET)(h:EG V 2 t)(w:World)(hE:kc p w t):
 Calls prog 222 #[.agg t.g8] w λe w'=>e=.returned (.bool true)/\Gr [] w w':=by
 refine hX λQ aD=>?_
 obtain⟨W,g,aZ,hg,J,hB⟩:=box1 w 226 t.g8;replace hB:Bk W g 226 #[i_ t.hT,i_ t.n,.string t.name,i_ t.op,.slice t.A t.l.length t.c]:=hB;obtain⟨Z,ah,au,aQ,aV⟩:=hB.cells5;have aW:=h_ (yg aq p 2 t h o_ 16 W d_ o_ (hE.g_ J))
 go_enter func222,ntmps222
 go_wp2_with (go_at_call 223;refine aW.out.mono ?_;rintro e w2⟨M,y,cj,rfl,S⟩;have F:M<=16:=Int.le_trans cj d_;clear cj)
 rw[aD.out];exact⟨rfl,J.trans S⟩
def uG(v:Value)(w:World)(e:Ending)(w':World):Prop:=e=.returned v/\Gr [] w w'
theorem tu(aq:∀s∈V,l3 s)(p:Nat->Prop)(k:Int)(x f:ByteArray)(n o:Int)(AE:Option Addr)(cE:Nat)(es:List ET)(AB:Option Addr)(cB:Nat)(bs:List ST)(AL:Option Addr)(cL:Nat)(ls:List ST)(B L:Bool)(w:World)(bL:mE V k x f n o es.length B L)(hB:B=false->bs=[])(hL:L=false->ls=[])(hes:∀e∈es,EG V 2 e)(be:Sl w 226 5 AE es.length (es.flatMap ET.E))(kb:∀u∈es,kc p w u):
 Calls prog 215 #[.agg (ST.mk k x f n o AE cE es AB cB bs AL cL ls).g8] w (uG (.bool true) w):=by
 refine hX λQ aD=>?_
 obtain⟨m,Y⟩:=mn_ es.length;rw[Y]at bL;have O:=h_ Y;obtain⟨W,gx,aZ,I,hg,bg⟩:=box1 w 229 (ST.mk k x f n o AE cE es AB cB bs AL cL ls).g8
 replace bg:Bk W gx 229 #[i_ k,.string x,.string f,i_ n,i_ o,.slice AE m cE,.slice AB bs.length cB,.slice AL ls.length cL]:=by rw[<-Y];exact bg
 have b8:=h_ (be.g_ hg);have cK:=h_ (λu hu=>(kb u hu).g_ hg:∀u∈es,kc p W u);clear Y be kb;have K:=xl;obtain⟨_,eK,c⟩:=xt;have da:=h_ eK;have a:=h_ c;clear eK c
 rcases bL with⟨_,X⟩|⟨_,dy,dP⟩|⟨_,X⟩|⟨_,X⟩|_|⟨_,X⟩|_|_|_|⟨_,X⟩|_|⟨_,X⟩|⟨_,X,_,eQ⟩
 all_goals
  (try(have hbs:=hB rfl;subst hbs))
  (try(have hls:=hL rfl;subst hls))
  (try have d:=h_ (aq _ X))
  clear hB hL
  (try simp only[EB]at bg)
  obtain⟨Z,ah,au,aQ,aV,aE,z,y⟩:=bg.iT
  go_enter func215,ntmps215
  go_upto_region 5 with(go_at_call 216;refine(tV _ _ d_ d_).mono ?_;rintro e w'⟨rfl,rfl⟩;simp only[C6.v,prt])
 all_goals
  clear Z ah au aQ aV aE z y;have bY:=O.out;have af:Gr [] W W:=D_ _ _
  go_loopw [49] (λar w'=>∃k:Nat,k<=es.length/\ar=i_ k/\Gr [] W w') (λar _=>es.length-(intOf ar).toNat)
  case atStart=>exact⟨0,N_ _,by go_num,af⟩
  case round=>
   obtain⟨i,hi,rfl,F⟩:=hrel
   by_cases aj:i<es.length
   .obtain⟨b,off,U,aI,c1,an,aN,c4⟩:=ET.at_ (b8.out.g_ F) aj;have hE:=hes es[i] (J_ aj);have hu:=(cK.out _ (J_ aj)).g_ F;subst U;generalize es[i]=u at aI c1 an aN c4 hE hu;obtain⟨R,bt,b5,hg1,E,az⟩:=box1 wr 226 #[i_ u.hT,i_ u.n,.string u.name,i_ u.op,.slice u.A u.l.length u.c];obtain⟨z0,aS,aX,z3,z4⟩:=az.cells5;have aW:=h_ (wL aq p u hE R (hu.g_ E));have aL:=aj;rw[bY]at aL;clear hE hu
    first
     |(exact D6 aL o_)
     |(go_wp2_with (go_at_call 222;refine aW.out.mono ?_;rintro e w2⟨rfl,S⟩)
       go_roundw
       case rel=>exact⟨i+1,by omega,by go_num,(F.trans E).trans S⟩
       case measure=>simp[intOf];omega)
   .have bC:¬i<es.length:=aj;rw[bY]at bC;replace bg:=bg.g_ F;obtain⟨Z,ah,au,aQ,aV,aE,z,y⟩:=bg.iT
    (try(have v:n<16:=by omega))
    (try(have G:ph o=true:=by rcases eQ with rfl|rfl|rfl<;>rfl))
    clear bC af
    go_upto_region 11 with((first|(go_at_call 180;refine(qA _ _).mono ?_;rintro e w2⟨⟨b6,rfl⟩,ad⟩)|(go_at_call 197;refine(nj _ _ (by first|exact d.out|exact da.out|exact a.out)).mono ?_;rintro e w2⟨rfl,ad⟩));replace F:=F.trans ad;replace bg:=bg.g_ ad;clear ad Z ah au aQ aV aE z y;obtain⟨Z,ah,au,aQ,aV,aE,z,y⟩:=bg.iT)
    simp only[List.append_eq,FE,Ea]
    go_wp2_with ((first|(go_at_call 180;refine(qA _ _).mono ?_;rintro e w2⟨⟨b6,rfl⟩,ad⟩)|(go_at_call 197;refine(nj _ _ (by first|exact d.out|exact da.out|exact a.out)).mono ?_;rintro e w2⟨rfl,ad⟩));replace F:=F.trans ad;replace bg:=bg.g_ ad;clear ad Z ah au aQ aV aE z y;obtain⟨Z,ah,au,aQ,aV,aE,z,y⟩:=bg.iT)
    rw[aD.out];exact⟨rfl,hg.trans F⟩
def C1(N D:Nat)(w:World)(e:Ending)(w':World):Prop:=∃dp:Int,0<=dp/\dp<=D/\e=.returned (.tuple #[i_ N,i_ dp,.bool true])/\Gr [] w w'
def DE(V:List ByteArray)(D:Nat):Prop:=∀(N:Nat) (A:Option Addr) (n c:Nat) (ts:List ST) (p:Nat->Prop) (w:World),N<=1000->ts.length=n->lJ V D N ts->Sl w 229 8 A n (ts.flatMap ST.E)->(∀u∈ts,jx p w u)->
 Calls prog 198 #[.slice A n c] w (C1 N D w)
theorem Bx(aq:∀s∈V,l3 s)(D:Nat)(j:D<=1000)(HD:∀r,D=r+1->DE V r):DE V D:=by
 intro N A n c ts p w cG hn bS be kb
 refine hX λQ aD=>?_
 have a2:=h_ hn;have b8:=h_ be;have ao:lJ V D N (ts.drop 0):=bS
 have cy:n<=1000:=by have:=bS.len;omega
 clear hn be
 go_enter func198,ntmps198
 go_wp2
 go_loopw [5,6,17] (λh dv ar w'=>∃(k a b:Nat) (dp:Int),k<=n/\ar=i_ k/\h=i_ a/\dv=i_ dp/\0<=dp/\dp<=D/\a+b=N/\lJ V D b (ts.drop k)/\Gr [] w w') (λ_ _ ar _=>n-(intOf ar).toNat)
 case atStart=>exact⟨0,0,N,0,N_ _,by go_num,by go_num,rfl,by omega,by omega,by omega,ao,D_ _ _⟩
 case round=>
  obtain⟨k,a,b,dp,hk,rfl,rfl,rfl,bh,ct,hab,bT,F⟩:=hrel;have o:=h_ hab
  have l:a<=1000:=by omega
  clear ao hab
  by_cases aj:k<n
  .have aH:k<ts.length:=by have:=a2.out;omega
   obtain⟨bv,off,U,z0,aS,aX,z3,z4,z5,ck,cJ⟩:=ST.at_ (b8.out.g_ F) a2.out aH;subst U;rw[X_ aH]at bT;obtain⟨f,b2,bB,bA,b9⟩:=bT.split;have v:=h_ bB;have aw:=(kb _ (J_ aH)).g_ F;generalize ts[k]=t at z0 aS aX z3 z4 z5 ck cJ bA aw;clear bT bB;obtain⟨r,nb,nl,aO,bp,hD,br,bL,aN,aT,hes,hb,hl⟩:=bA.one;have aY:=HD r hD;have C:=h_ br;obtain⟨p1,G,M,bi,cA,ak⟩:=aw.parts
   have hbl:nb+nl+1<=1000:=by have:=o.out;have:=v.out;omega
   have d:(r:Int)+1=D:=by omega
   have O:=h_ d;have aW:=h_ (λW(hg:Gr [] wr W)=>tu aq p t.hT t.name t.fn t.n t.op t.AE t.cE t.es t.AB t.cB t.bs t.AL t.cL t.ls aO bp W bL aN aT hes (p1.g_ hg) (λu hu=>(G u hu).g_ hg));clear hD br bL bA d;obtain⟨R,gx,b5,aM,E,bg⟩:=box1 wr 229 #[i_ t.hT,.string t.name,.string t.fn,i_ t.n,i_ t.op,.slice t.AE t.es.length t.cE,.slice t.AB t.bs.length t.cB,.slice t.AL t.ls.length t.cL];obtain⟨Z,ah,au,aQ,aV,aE,z,y⟩:=bg.iT
   go_wp2_with fail
   go_at_call 215
   refine(aW.out R E).mono ?_;rintro e w2⟨rfl,ad⟩;have cx:=E.trans ad;clear Z ah au aQ aV aE z y aW;obtain⟨Z,ah,au,aQ,aV,aE,z,y⟩:=(bg.g_ ad).iT
   go_wp2_with fail
   go_at_call 198
   refine(aY nb t.AB _ t.cB t.bs p _ o_ rfl hb (M.g_ cx) (λu hu=>(bi u hu).g_ cx)).mono ?_;rintro e ai⟨aB,aJ,m,rfl,S⟩;have dg:=cx.trans S;clear Z ah au aQ aV aE z y;obtain⟨Z,ah,au,aQ,aV,aE,z,y⟩:=(bg.g_ (ad.trans S)).iT
   go_wp2_with fail
   go_at_call 198
   refine(aY nl t.AL _ t.cL t.ls p _ o_ rfl hl (cA.g_ dg) (λu hu=>(ak u hu).g_ dg)).mono ?_;rintro e T⟨bm,q,x,rfl,af⟩;have g:=dg.trans af
   have aZ:0<=(if aB<bm then bm else aB)/\(if aB<bm then bm else aB)<=1000:=by have bY:=O.out;split<;>omega
   have rb:wrap64 (1+if aB<bm then bm else aB)=1+(if aB<bm then bm else aB):=by
    generalize (if aB<bm then bm else aB)=i at aZ |-;unfold wrap64;omega
   go_wp2;go_roundw
   case rel=>
    have aP:=o.out;have aL:=v.out;have bN:=C.out;have bY:=O.out;refine⟨k+1,a+f,b2,_,by omega,by go_num,by rw[bN];go_num,rfl,?_,?_,by omega,b9,F.trans g⟩
    .split<;>(try split)<;>omega
    .split<;>(try split)<;>omega
   case measure=>simp[intOf];omega
  .go_wp2;rw[aD.out]
   have aP:b=0:=by
    rw[El (by have:=a2.out;omega)]at bT
    cases bT;rfl
   have aL:=o.out
   have bN:a=N:=by omega
   subst bN;refine⟨rfl,.tuple #[i_ a,i_ dp,.bool true],?_,dp,bh,ct,rfl,F⟩
   kernel_rfl
theorem zK{V:List ByteArray}(aq:∀s∈V,l3 s):∀D,D<=1000->DE V D
 |0,_=>Bx aq 0 o_ λr h=>by omega
 |D+1,h=>Bx aq (D+1) o_ λr h2=>by
  have e:r=D:=by omega
  subst e;exact zK aq r o_
structure Nm(V l l':List ByteArray):Prop where
 sub:∀x∈l,x∈l'
 new:∀x∈l',x∈l∨x∈V
 nd:l.Nodup->l'.Nodup
theorem Nm.refl(V l:List ByteArray):Nm V l l:=⟨λ_ h=>h,λ_ h=>.inl h,λh=>h⟩
theorem Nm.trans{a b c:List ByteArray}(h:Nm V a b)(k:Nm V b c):Nm V a c:=⟨λx I=>k.sub x (h.sub x I),λx I=>(k.new x I).elim (h.new x) .inr,λhd=>k.nd (h.nd hd)⟩
theorem ba_eq{x:ByteArray}(h:x.toList=s.toList):x=s:=by
 rw[Ft,Ft]at h
 cases x;cases s
 congr 1;exact Array.toList_inj.1 h
theorem qF{l:List ByteArray}:hasB l s=true↔s∈l:=by
 unfold hasB;rw[List.any_eq_true];constructor
 .rintro⟨x,I,he⟩
  have:x=s:=ba_eq (by simpa using he)
  rw[<-this];exact I
 .intro h;exact⟨s,h,by simp⟩
theorem Nm.add{l:List ByteArray}(hs:s∈V):Nm V l (qM l s):=by
 unfold qM
 by_cases h:hasB l s=true
 .rw[Q_ h];exact .refl _ _
 .rw[P_ h]
  have hn:s∉l:=λY=>h (qF.2 Y)
  refine⟨λx I=>D4 _ I,λx I=>?_,λhd=>?_⟩
  .rcases T_.1 I with I|I
   .exact .inl I
   .have:x=s:=by simpa using I
    subst this;exact .inr hs
  .rw[Fj];refine⟨hd,by simp,λa ha b hb=>?_⟩
   have:b=s:=by simpa using hb
   subst this;rintro rfl;exact hn ha
theorem vK(l:List ByteArray)(s:ByteArray):s∈qM l s:=by
 unfold qM
 by_cases h:hasB l s=true
 .rw[Q_ h];exact qF.1 h
 .rw[P_ h];simp
inductive nF(L:List ByteArray):List ST->Prop
 |nil:nF L []
 |cons (t:ST) (l:List ST) (h:(prt t.hT).name=true->t.name∈L) (hb:nF L t.bs) (hl:nF L t.ls) (hr:nF L l):nF L (t::l)
theorem nF.mono{L M:List ByteArray}{l:List ST}(h:nF L l)(Y:∀x∈L,x∈M):nF M l:=by
 induction h with
 |nil=>exact .nil
 |cons t l h hb hl hr c d f=>exact .cons t l (λe=>Y _ (h e)) c d f
theorem nF.append{L:List ByteArray}{l m:List ST}(h:nF L l)(k:nF L m):nF L (l++m):=by
 induction h with
 |nil=>exact k
 |cons t l h hb hl hr _ _ ad=>exact .cons t _ h hb hl ad
def CV(base:Nat)(V l:List ByteArray)(ts:List ST)(w:World)(e:Ending)(w':World):Prop:=∃(A:Option Addr) (c:Nat) (l':List ByteArray),e=.returned (.slice A l'.length c)/\pM base w' A c l'/\Nm V l l'/\nF l' ts/\Gt base [9] w w'
def Dx(base:Nat)(V:List ByteArray)(D:Nat):Prop:=∀(N:Nat) (A:Option Addr) (n c:Nat) (l:List ByteArray) (B:Option Addr) (m d:Nat) (ts:List ST) (p:Nat->Prop) (w:World),N<=1000->l.length=n->ts.length=m->m<=100000->l.Nodup->(∀x∈l,x∈V)->lJ V D N ts->pM base w A c l->base<=w.heap.size->Sl w 229 8 B m (ts.flatMap ST.E)->(∀u∈ts,jx p w u)->
 Calls prog 174 #[.slice A n c,.slice B m d] w (CV base V l ts w)
open Classical in
theorem k6:∀(l m:List ByteArray),l.Nodup->(∀x∈l,x∈m)->l.length<=m.length
 |[],_,_,_=>by simp
 |x::l,m,hn,hs=>by
  have I:=hs x s_;have D:=FJ.1 hn;obtain⟨m1,m2,rfl⟩:=List.append_of_mem I
  have:=k6 l (m1++m2) D.2 λy hy=>by
   have av:y≠x:=by rintro rfl;exact D.1 hy
   have:=hs y (by simp[hy])
   simp only[T_,M_]at this |-
   rcases this with h|h|h
   .exact .inl h
   .exact D6 h av
   .exact .inr h
  simp only[D3,H_]at this |-;omega
theorem Gt.CK{a w:World}{M:List Nat}(h:Gr M a w)(z:∀g∈M,base<=g/\∃cs t,Bk a g t cs/\t∈T):Gt base T a w:=
 ⟨h.os,h.tape,h.output,h.size,λi hi hp=>h.block i hi λY=>by
   obtain⟨h1,cs,t,h2,h3⟩:=z i Y
   rcases hp with hp|hp
   .omega
   .exact hp _ _ _ h2 h3⟩
theorem mE.nm{k:Int}{x f:ByteArray}{L:Bool}(h:mE V k x f n o m B L)(hn:(prt k).name=true):x∈V:=by
 cases h with
 |uE x h|vB x h|vA x h|zh x h|AI x h|ask x h|red x h=>assumption
 |C9|Cv|C8|ret|C7|Dd=>simp[prt]at hn
theorem mE.kr{k:Int}{x f:ByteArray}{L:Bool}(h:mE V k x f n o m B L):1<=k/\k<=12:=by cases h<;>decide
theorem Bq(base:Nat)(V:List ByteArray)(bu:V.length<=1000)(D:Nat)(HD:∀r,D=r+1->Dx base V r):Dx base V D:=by
 intro N A n c l B m d ts p w ax hn Y cu J L bS aq aL be kb
 refine hX λQ aD=>?_
 subst hn;have O:=h_ Y;have ap:=be;have b8:=h_ ap;have ao:lJ V D N (ts.drop 0):=bS;clear Y be ap
 go_enter func174,ntmps174
 go_wp2
 go_loopw [0,9] (λG ar w'=>∃(k:Nat) (A':Option Addr) (c':Nat) (l':List ByteArray) (a b:Nat),k<=m/\ar=i_ k/\G=.slice A' l'.length c'/\pM base w' A' c' l'/\Nm V l l'/\nF l' (ts.take k)/\Gt base [9] w w'/\a+b=N/\lJ V D b (ts.drop k)) (λ_ ar _=>m-(intOf ar).toNat)
 case atStart=>exact⟨0,A,c,l,0,N,N_ _,by go_num,by go_num,aq,.refl _ _,.nil,.refl _ _ _,by omega,ao⟩
 case round=>
  obtain⟨k,A1,c1,l1,a1,b1,hk,rfl,rfl,bD,bY,bK,F,hab,bT⟩:=hrel;have o:=h_ hab;clear ao hab
  by_cases aj:k<m
  .have aH:k<ts.length:=by have:=O.out;omega
   obtain⟨bv,off,U,z0,aS,aX,z3,z4,z5,ck,cJ⟩:=ST.at_ (b8.out.gt F d_) O.out aH;subst U;rw[X_ aH]at bT;obtain⟨f,b2,bB,bA,b9⟩:=bT.split;have v:=h_ bB;have aw:=(kb _ (J_ aH)).gt F d_ d_;obtain⟨t,X⟩:=nm_ (ts[k]);have bG:=h_ X;rw[<-X]at z0 aS aX z3 z4 z5 ck cJ bA aw;clear bT bB X;obtain⟨r,nb,nl,aO,bp,hD,br,bL,_,_,_,hb,hl⟩:=bA.one;have aY:=HD r hD;obtain⟨_,_,M,bi,cA,ak⟩:=aw.parts;obtain⟨bW,cj⟩:=bL.kr;have dV:=bL.nm;have hbl:=hb.len;have cN:=hl.len
   have cy:nb<=1000/\nl<=1000:=by
    have:=o.out
    have:=v.out
    have:=ax
    omega
   have j:=bY.nd J
   have P:=λx I=>(bY.new x I).elim (L x) id
   have hl1:=F_ (k6 l1 V j P) bu;clear hD br bL bA;obtain⟨R,gx,b5,aM,E,bg⟩:=box1 wr 229 #[i_ t.hT,.string t.name,.string t.fn,i_ t.n,i_ t.op,.slice t.AE t.es.length t.cE,.slice t.AB t.bs.length t.cB,.slice t.AL t.ls.length t.cL];obtain⟨Z,ah,au,aQ,aV,aE,z,y⟩:=bg.iT;have q:=iu bD E;replace M:=Sl.g_ M E
   replace bi:=λu hu=>(bi u hu).g_ E
   replace cA:=Sl.g_ cA E
   replace ak:=λu hu=>(ak u hu).g_ E
   have bV:=F.trans (.jQ E:Gt base [9] wr R);have bf:=F_ aL ((F.trans (.jQ E:Gt base [9] wr R)).size);have a2:=h_ dV;clear dV
   go_upto_if 15 with(go_at_call 200;refine(vi _ _ bW cj).mono ?_;rintro e w2⟨rfl,rfl⟩)
   go_cut [0] (λG a7=>∃(a8:Option Addr) (aN:Nat) (dk:List ByteArray),G=.slice a8 dk.length aN/\pM base a7 a8 aN dk/\Nm V l1 dk/\((prt t.hT).name=true->t.name∈dk)/\Gt base [9] R a7)
   case first=>
    cases hp:(prt t.hT).name with
    |true=>
     have aW:=h_ (ud base A1 _ c1 l1 t.name R rfl q o_ bf);have aT:=h_ hp;clear hp
     go_wp2_with (go_at_call 173;refine aW.out.mono ?_;rintro e w2⟨a8,aN,rfl,i,S⟩)
     go_meet;refine⟨a8,aN,_,rfl,i,.add (a2.out aT.out),λ_=>vK _ _,(.CK S λg hg=>?_)⟩;obtain⟨h1,cs,h2⟩:=qv q (jw.1 hg);exact⟨h1,cs,_,h2,by simp⟩
    |false=>
     have aT:=h_ hp;clear hp;go_wp2;go_meet;exact⟨A1,c1,l1,rfl,q,.refl _ _,λe=>D6 (e.symm.trans aT.out) d_,.refl _ _ _⟩
   case rest=>
    obtain⟨a8,aN,dk,rfl,i,db,bX,S⟩:=hcut;have ai:=db.nd j
    have an:=λx I=>(db.new x I).elim (P x) id
    replace bg:=bg.gt S d_;clear Z ah au aQ aV aE z y;obtain⟨Z,ah,au,aQ,aV,aE,z,y⟩:=bg.iT
    go_upto_region 6 with fail
    refine hC (λw'=>w'.cell? (c_ gx 6)=some (.slice t.AB t.bs.length t.cB)/\w'.cell? (c_ gx 7)=some (.slice t.AL t.ls.length t.cL)) 7 k_ ?_
    refine nc ⟨z,y⟩ λC=>?_
    refine ih 0 C ?_;refine ih 1 C ?_;refine ih 2 C ?_;refine ih 4 C ?_;refine ih 5 C ?_
    refine hQ 3 λK H=>?_
    go_simp
    go_at_call 174
    refine(aY nb a8 _ aN dk t.AB _ t.cB t.bs p _ cy.1 rfl rfl o_ ai an hb (iu i (D_ [] _).drew) (F_ bf S.size) (Sl.g_ (M.gt S d_) (D_ [] _).drew) (λu hu=>((bi u hu).gt S d_ d_).g_ (D_ [] _).drew)).mono ?_;rintro e T⟨aR,c4,s,rfl,aB,ad,b3,af⟩;have W:=S.trans ((Gt.jQ (D_ [] wc).drew).trans af);have bU:=bg.gt ((Gt.jQ (D_ [] wc).drew).trans af) d_;have az:=ad.nd ai
    have aC:=λx I=>(ad.new x I).elim (an x) id
    clear C
    refine hS H ⟨bU.f_ 6,bU.f_ 7⟩ λC=>?_
    clear H K
    refine hQ 6 λK H=>?_
    go_simp
    go_at_call 174
    refine(aY nl aR _ c4 s t.AL _ t.cL t.ls p _ cy.2 rfl rfl o_ az aC hl aB (F_ bf W.size) (cA.gt W d_) (λu hu=>((ak u hu).gt W d_ d_))).mono ?_;rintro e ae⟨a6,c5,dt,rfl,bq,bo,av,am⟩;have ay:=W.trans am;have b7:=bU.gt am d_;clear C
    refine hS H ⟨b7.f_ 6,b7.f_ 7⟩ λC=>?_
    clear H K
    refine hQ 7 λK H=>?_
    go_simp;refine H.out _ _ (λh=>D6 h d_) ?_;clear H K C;refine hA k_ ?_ _;go_wp2;go_roundw
    case rel=>
     have ag:=(db.trans ad).trans bo;refine⟨k+1,a6,c5,dt,a1+f,b2,by omega,by go_num,by go_num,bq,bY.trans ag,?_,bV.trans ay,by have:=o.out;have:=v.out;omega,b9⟩;rw[O_ aH,<-bG.out];exact(bK.mono ag.sub).append (.cons t [] (λe=>bo.sub _ (ad.sub _ (bX e))) (b3.mono bo.sub) av .nil)
    case measure=>simp[intOf];omega
  .go_wp2;rw[aD.out];refine⟨A1,c1,l1,rfl,bD,bY,?_,F⟩;have e:ts.take k=ts:=W_ (by have:=O.out;omega);rw[e]at bK;exact bK
theorem yZ(base:Nat)(V:List ByteArray)(bu:V.length<=1000):∀D,Dx base V D
 |0=>Bq base V bu 0 λr h=>by omega
 |D+1=>Bq base V bu (D+1) λr h=>by
  have e:r=D:=by omega
  subst e;exact yZ base V bu r
def CW(V ps:List ByteArray)(bs:List ST)(w:World)(e:Ending)(w':World):Prop:=∃(A:Option Addr) (c:Nat) (l:List ByteArray),e=.returned (.slice A l.length c)/\Bs w' A l/\l.Nodup/\(∀x∈l,x∈V)/\(∀x∈ps,x∈l)/\nF l bs/\Gr [] w w'
structure Bp(q:Nat->Prop)(w:World)(f:FT):Prop where
 hp:Bs w f.AP f.ps
 uK:f.ps.length<=f.cP
 hb:Sl w 229 8 f.A f.bs.length (f.bs.flatMap ST.E)
 hs:∀t∈f.bs,jx q w t
theorem Bp.g_{w:World}{f:FT}(h:Bp q w f)(hg:Gr [] w w'):Bp q w' f:=⟨Sl.g_ h.hp hg,h.uK,Sl.g_ h.hb hg,λt X=>(h.hs t X).g_ hg⟩
theorem Bp.gt{w:World}{f:FT}(h:Bp q w f)(hg:Gt base T w w')(h1:9∉T)(h2:226∉T)(h3:229∉T):Bp q w' f:=⟨Sl.gt h.hp hg h1,h.uK,Sl.gt h.hb hg h3,λt X=>(h.hs t X).gt hg h2 h3⟩
def FT.g8(f:FT):Array Value:=#[.string f.name,.slice f.AP f.ps.length f.cP,.slice f.A f.bs.length f.c]
theorem sn(V:List ByteArray)(bu:V.length<=1000)(D N:Nat)(f:FT)(q:Nat->Prop)(w:World)(ai:Bp q w f)(bS:lJ V D N f.bs)(br:N<=1000)(l:∀x∈f.ps,x∈V)(bW:f.ps.length<=1000):
 Calls prog 135 #[.agg f.g8] w (CW V f.ps f.bs w):=by
 refine hX λQ aD=>?_
 have hbl:=bS.len;obtain⟨W,gx,aZ,I,hg,hB⟩:=box1 w 213 f.g8;replace hB:Bk W gx 213 #[.string f.name,.slice f.AP f.ps.length f.cP,.slice f.A f.bs.length f.c]:=hB;have ah:W.cell? (c_ gx 1)=some (.slice f.AP f.ps.length f.cP):=hB.f_ 1;have ak:=h_ (ai.g_ hg);obtain⟨n,hn⟩:=mn_ f.ps.length;have a2:=h_ hn;rw[hn]at ah bW;clear hn ai;obtain⟨base,aL⟩:=nm_ W.heap.size
 have cv:base<=W.heap.size:=by omega
 have cW:=h_ aL;clear aL
 go_enter func135,ntmps135
 go_wp2;clear ah aZ I
 go_loopw [3,9] (λG ar w'=>∃(k:Nat) (A':Option Addr) (c':Nat) (l':List ByteArray),k<=n/\ar=i_ k/\G=.slice A' l'.length c'/\pM base w' A' c' l'/\Nm V [] l'/\(∀x∈f.ps.take k,x∈l')/\Gt base [9] W w') (λ_ ar _=>n-(intOf ar).toNat)
 case atStart=>exact⟨0,none,0,[],N_ _,by go_num,rfl,iJ _ _ _ _,.refl _ _,by simp,.refl _ _ _⟩
 case round=>
  obtain⟨k,A1,c1,l1,hk,rfl,rfl,bD,bY,bK,F⟩:=hrel;have j:=bY.nd .nil
  have P:=λx I=>(bY.new x I).elim (λh=>by cases h) id
  have hl1:=F_ (k6 l1 V j P) bu;have bi:=F_ cv F.size
  by_cases aj:k<n
  .have aH:k<f.ps.length:=by have:=a2.out;omega
   obtain⟨b,off,U,hc⟩:=Sl.f_ (Sl.g_ ak.out.hp (F.gr (by rw[cW.out];exact G_ _))) o_;have au:=hc k (.string f.ps[k]) (by rw[Eq,K_ aH];rfl);have X:=l _ (J_ aH);obtain⟨x,I⟩:=nm_ (f.ps[k]);have M:=h_ I;have aW:=h_ (ud base A1 _ c1 l1 x wr rfl bD o_ bi);have HA:=h_ U;rw[<-I]at au X;clear I hc;rw[U];clear U
   go_wp2_with (go_at_call 173;refine aW.out.mono ?_;rintro e w2⟨a8,aN,rfl,i,S⟩)
   go_roundw
   case rel=>
    refine⟨k+1,a8,aN,_,by omega,by go_num,by go_num,i,bY.trans (.add X),λy hy=>?_,F.trans (.CK S λg hg=>?_)⟩
    .rw[O_ aH,<-M.out]at hy
     rcases T_.1 hy with hy|hy
     .exact(Nm.add (V:=V) X).sub _ (bK y hy)
     .have:y=x:=by simpa using hy
      subst this;exact vK _ _
    .obtain⟨h1,cs,h2⟩:=qv bD (jw.1 hg);exact⟨h1,cs,_,h2,by simp⟩
   case measure=>simp[intOf];omega
  .have bo:=hB.gt F d_;have au:wr.cell? (c_ gx 2)=some (.slice f.A f.bs.length f.c):=bo.f_ 2;have aq:=h_ (ak.out.g_ (F.gr (by rw[cW.out];exact G_ _)));have aW:=h_ (yZ base V bu D N A1 _ c1 l1 f.A _ f.c f.bs q wr br rfl rfl o_ j P bS bD bi aq.out.hb aq.out.hs)
   go_wp2_with (go_at_call 174;refine aW.out.mono ?_;rintro e w2⟨a8,aN,dk,rfl,i,db,cH,S⟩)
   rw[aD.out];have a:=bY.trans db;refine⟨a8,aN,dk,rfl,i.bs,a.nd .nil,λx I=>(a.new x I).elim (λh=>by cases h) id,λx I=>db.sub _ (bK x ?_),cH,hg.trans ((F.trans S).gr (by rw[cW.out];exact G_ _))⟩;rw[W_ (by have:=a2.out;omega)];exact I
structure PG(V:List ByteArray)(q:Nat->Prop)(w:World)(PA:Option Addr)(fs:List FT)(Ns:List Nat):Prop where
 hfs:Au w PA fs
 len:fs.length=3
 rd:∀f∈fs,Bp q w f
 nm:∀f∈fs,l3 f.name/\(∀x∈f.ps,x∈V)/\f.ps.length<=2
 nl:Ns.length=3
 sg:∀(k:Nat) (h:k<fs.length) (h2:k<Ns.length),lJ V 5 Ns[k] fs[k].bs
 sum:Ns.sum<=64
theorem PG.g_{w:World}{fs:List FT}{Ns:List Nat}(h:PG V q w PA fs Ns)(hg:Gr [] w w'):PG V q w' PA fs Ns:=
 ⟨Sl.g_ h.hfs hg,h.len,λf hf=>(h.rd f hf).g_ hg,h.nm,h.nl,h.sg,h.sum⟩
theorem o4(Ns:List Nat)(k:Nat)(h:k<Ns.length):(Ns.take (k+1)).sum=(Ns.take k).sum+Ns[k]/\(Ns.take (k+1)).sum<=Ns.sum:=by
 have h1:(Ns.take (k+1)).sum=(Ns.take k).sum+Ns[k]:=by rw[O_ h,List.sum_append];simp
 refine⟨h1,?_⟩;have h2:=D9 List.sum (List.take_append_drop (k+1) Ns);rw[List.sum_append]at h2;omega
theorem wm(aq:∀s∈V,l3 s)(q:Nat->Prop)(PA:Option Addr)(c:Nat)(fs:List FT)(Ns:List Nat)(w:World)(hP:PG V q w PA fs Ns):
 Calls prog 169 #[.agg #[.slice PA 3 c]] w (uG (i_ 0) w):=by
 refine hX λQ aD=>?_
 obtain⟨W,gx,aZ,I,hg,hB⟩:=box1 w 150 #[.slice PA 3 c];have Z:W.cell? (c_ gx 0)=some (.slice PA 3 c):=hB.f_ 0;have aT:=h_ (hP.g_ hg);clear hP
 go_enter func169,ntmps169
 go_wp2;have bl:=h_ aZ;clear Z aZ I
 go_loopw [3,4,25] (λo l ar w'=>∃k:Nat,k<=3/\ar=i_ k/\o=.bool false/\l=i_ ((Ns.take k).sum:Nat)/\Gr [] W w') (λ_ _ ar _=>3-(intOf ar).toNat)
 case atStart=>exact⟨0,by omega,by go_num,rfl,by simp,D_ _ _⟩
 case round=>
  obtain⟨k,hk,rfl,rfl,rfl,F⟩:=hrel
  by_cases aj:k<3
  .have aH:k<fs.length:=by have:=aT.out.len;omega
   have a7:k<Ns.length:=by have:=aT.out.nl;omega
   obtain⟨b,off,U,z0,aS,aX⟩:=Au.at_ (aT.out.g_ F).hfs aH;subst U;have y:=(aT.out.g_ F).rd _ (J_ aH);obtain⟨hn1,bq,bX⟩:=aT.out.nm _ (J_ aH);have bS:=aT.out.sg k aH a7;obtain⟨dS,ew⟩:=o4 Ns k a7;have cz:=aT.out.sum;have g:=h_ hn1;have ai:=h_ bq;have cU:=h_ dS
   have h:(Ns.take k).sum+Ns[k]<=64:=by omega
   obtain⟨f,hf⟩:=nm_ (fs[k]);obtain⟨M,z⟩:=nm_ (Ns[k]);have O:=h_ z;rw[<-hf]at z0 aS aX y g ai bX bS;rw[<-z]at bS h;obtain⟨a,ha⟩:=nm_ ((Ns.take k).sum);have i:=h_ ha;rw[<-ha]at h |-;clear dS ew cz hn1 bq hf z ha;have r:=h_ y;have cT:=h_ bS;clear y bS;obtain⟨R,bt,b5,hg1,E,az⟩:=box1 wr 213 #[.string f.name,.slice f.AP f.ps.length f.cP,.slice f.A f.bs.length f.c];obtain⟨Z,ah,au⟩:=az.nz
   go_upto_region 9 with(go_at_call 197;refine(nj _ _ g.out).mono ?_;rintro e w2⟨rfl,ad⟩;replace az:=az.g_ ad;clear Z ah au;obtain⟨Z,ah,au⟩:=az.nz)
   have bV:=E.trans ad;clear ad Z ah au
   go_loopw [36] (λar w'=>∃j:Nat,j<=f.ps.length/\ar=i_ j/\Gr [] w2 w') (λar _=>f.ps.length-(intOf ar).toNat)
   case atStart=>exact⟨0,by omega,by go_num,D_ _ _⟩
   case round=>
    obtain⟨j,hj,rfl,A⟩:=hrel;have N:=bV.trans A;obtain⟨n,hn⟩:=nm_ f.ps.length;have C:=h_ hn
    have Y:n<=2:=by omega
    by_cases B:j<f.ps.length
    .obtain⟨b2,p,m,hc⟩:=Sl.f_ (r.out.g_ N).hp o_;have au:=hc j (.string f.ps[j]) (by rw[Eq,K_ B];rfl);have X:=ai.out _ (J_ B);have d:=h_ (aq _ X);generalize f.ps[j]=x at au d;rw[m]at*;clear hc hn m X
     go_wp2_with (go_at_call 197;refine(nj _ _ d.out).mono ?_;rintro e T⟨rfl,af⟩)
     exact Jk
    .rw[<-hn]at*;clear hn;obtain⟨Z,ah,au⟩:=(az.g_ A).nz;have aW:=h_ (zK aq 5 o_ M f.A _ f.c f.bs q _ o_ rfl cT.out (r.out.g_ N).hb (r.out.g_ N).hs)
     go_wp2_with fail
     go_at_call 198
     refine aW.out.mono ?_;rintro e T⟨dp,ao,bh,rfl,af⟩;obtain⟨z0,aS,aX⟩:=(az.g_ (A.trans af)).nz;have ct:dp<=5:=bh;clear Z ah au bh;go_wp2;go_roundw
     case rel=>
      refine⟨k+1,by omega,by go_num,by rw[EU o_],?_,(F.trans N).trans af⟩;rw[cU.out,<-i.out,<-O.out];go_num
     case measure=>simp[intOf];omega
  .have b0:k=3:=by omega
   have cz:(Ns.take k).sum<=64:=by
    rw[W_ (by have:=aT.out.nl;omega)];exact aT.out.sum
   generalize (Ns.take k).sum=a at cz |-;exact Kj
def CY(V:List ByteArray)(w:World)(e:Ending)(w':World):Prop:=∃(A:Option Addr) (c:Nat) (l:List ByteArray),e=.returned (.slice A l.length c)/\Bs w' A l/\(∀x∈l,x∈V)/\l.length<=V.length/\(∀x off,A=some (c_ x off)->0<l.length->w.heap.size<=x)/\Gr [] w w'
def DC(V:List ByteArray)(p:Nat->Prop)(t:ET):Prop:=∀w:World,kc p w t->Calls prog 199 #[.agg t.g8] w (CY V w)
theorem tU(V:List ByteArray)(bu:V.length<=1000)(p:Nat->Prop)(k n:Int)(s:ByteArray)(o:Int)(A:Option Addr)(c:Nat)(l:List ET)(hk:k=3->s∈V)(cX:l.length<=2)(hl:∀u∈l,DC V p u):DC V p (.mk k n s o A c l):=by
 intro w hE
 refine hX λQ aD=>?_
 obtain⟨i2,aM,bX,cg,cp⟩:=info_parts infoStr
 have be:Sl w 226 5 A l.length (l.flatMap ET.E):=by cases hE with|mk t h _ _ _=>exact h
 have v:∀u∈l,kc p w u:=by cases hE with|mk t _ _ _ h=>exact h
 obtain⟨m,Y⟩:=mn_ l.length;obtain⟨W,gx,aZ,I,hg,hB⟩:=box1 w 226 (ET.mk k n s o A c l).g8
 replace hB:Bk W gx 226 #[i_ k,i_ n,.string s,i_ o,.slice A m c]:=by rw[<-Y];exact hB
 rw[Y]at be cX;obtain⟨Z,ah,au,aQ,aV⟩:=hB.cells5;have O:=h_ Y;have b8:=h_ (be.g_ hg);have cK:=h_ (λu hu=>(v u hu).g_ hg:∀u∈l,kc p W u);clear Y be v hE;obtain⟨base,aL⟩:=nm_ W.heap.size
 have cv:base<=W.heap.size:=by omega
 have dY:w.heap.size<=base:=by have:=hg.size;omega
 have cW:=h_ aL;clear aL
 go_enter func199,ntmps199
 go_upto_region 2 with fail
 go_upto_if 10 with fail
 go_cut [3] (λG a7=>∃(A1:Option Addr) (c1:Nat) (l1:List ByteArray),G=.slice A1 l1.length c1/\pM base a7 A1 c1 l1/\Nm V [] l1/\Gr [] W a7)
 case first=>
  by_cases b0:k=3
  .have bj:(k==3)=true:=by simp[b0]
   have ap:=h_ (hk b0);clear hk b0;obtain⟨bh,P,bF,bw,bV,bo⟩:=box1 W 9 #[.string s];have g:bh.ownsRow base 9 1 (n_) 0 []:=iJ _ _ _ _;have C:Sl bh 9 1 (j_ P) 1 ([s].map Value.string):=i5 (n:=1) (s:=1) bo rfl;have bf:=F_ cv bV.size
   go_wp2_with (at_builtin;refine jU rfl _ _ _ rfl base 9 i2 _ 1 16 underlying207 aM bX cg cp rfl d_ d_ none 0 0 _ rfl g _ 1 1 _ rfl C (sw _) o_ bf ?_;intro a8 aN ai bE bg _)
   go_meet;refine⟨a8,aN,[s],rfl,bE,⟨by simp,λx I=>?_,λ_=>by simp⟩,?_⟩
   .have:x=s:=by simpa using I
    subst this;exact .inr ap.out
   .exact bV.trans ((Gr.iM bg).mono (by simp[ot,Value.ownBlock]))
  .have bj:(k==3)=false:=by simp[b0]
   clear hk b0;go_wp2;go_meet;exact⟨none,0,[],rfl,iJ _ _ _ _,.refl _ _,D_ _ _⟩
 case rest=>
  obtain⟨A1,c1,l1,rfl,bD,bY,hg1⟩:=hcut;have az:=hB.g_ hg1;clear Z ah au aQ aV;obtain⟨Z,ah,au,aQ,aV⟩:=az.cells5
  go_wp2_with fail
  have D:=h_ bD;have bL:=h_ bY
  go_loopw [3,19] (λG ar w'=>∃(i:Nat) (A':Option Addr) (c':Nat) (l':List ByteArray),i<=m/\ar=i_ i/\G=.slice A' l'.length c'/\pM base w' A' c' l'/\Nm V [] l'/\Gt base [9] W w') (λ_ ar _=>m-(intOf ar).toNat)
  case atStart=>exact⟨0,A1,c1,l1,by omega,by go_num,rfl,D.out,bL.out,.jQ hg1⟩
  case round=>
   obtain⟨i,ay,an,l2,hi,rfl,rfl,q,cl,F⟩:=hrel
   by_cases aj:i<m
   .have bm:i<l.length:=by have:=O.out;omega
    obtain⟨b,off,U,z0,aS,aX,z3,z4⟩:=ET.at_ (by rw[O.out];exact b8.out.gt F d_) bm;have bU:=hl l[i] (J_ bm);have hu:=(cK.out _ (J_ bm)).gt F d_;have HA:=h_ U;generalize l[i]=u at z0 aS aX z3 z4 bU hu;obtain⟨R,bt,b5,bC,E,aR⟩:=box1 wr 226 #[i_ u.hT,i_ u.n,.string u.name,i_ u.op,.slice u.A u.l.length u.c];obtain⟨aU,bn,P,ao,aq⟩:=aR.cells5;have aW:=h_ (bU R (hu.g_ E));rw[U]at*;clear bU hu U
    go_wp2_with fail
    go_at_call 199
    refine aW.out.mono ?_;rintro e w2⟨a6,c5,dt,rfl,bO,bG,aC,aT,am⟩;have K:=E.trans am;have bq:=iu q K;have bQ:=F_ cv (F.trans (.jQ K)).size
    have ak:∀x off,a6=some (c_ x off)->0<dt.length->(Value.slice ay l2.length an).ownBlock≠some x:=λx off h1 h2 h3=>by
     have aw:=(kj q h3).2;have ax:=aT x off h1 h2;have aY:=E.size;omega
    have aP:dt.length<=1000:=by omega
    obtain⟨da,ad⟩:=mn_ dt.length;have ae:=h_ ad;rw[ad]at aP;have aO:=h_ ak;have aH:=h_ bO;have aI:=h_ bq;clear ad ak bO q aU bn P ao aq z0 aS aX z3 z4 bq;rw[ae.out]
    go_wp2_with fail
    go_loopw [3,26] (λG ar w'=>∃(j:Nat) (A':Option Addr) (c':Nat) (l':List ByteArray),j<=da/\ar=i_ j/\G=.slice A' l'.length c'/\pM base w' A' c' l'/\Nm V l2 l'/\Gt base [9] w2 w'/\Bs w' a6 dt/\(∀x off,a6=some (c_ x off)->0<dt.length->(Value.slice A' l'.length c').ownBlock≠some x)) (λ_ ar _=>da-(intOf ar).toNat)
    case atStart=>exact⟨0,ay,an,l2,by omega,by go_num,by go_num,aI.out,.refl _ _,.refl _ _ _,aH.out,aO.out⟩
    case round=>
     obtain⟨j,aJ,aK,cr,hj,rfl,rfl,a,N,bP,J,z⟩:=hrel;have M:=cl.trans N;have bi:=M.nd .nil
     have bl:=λx I=>(M.new x I).elim (λh=>by cases h) id
     have eU:=F_ (k6 cr V bi bl) bu;have aE:=F_ bQ bP.size;have H:=h_ z;clear z
     by_cases B:j<da
     .have af:j<dt.length:=by have:=ae.out;omega
      obtain⟨dy,bz,aF,aG⟩:=Sl.f_ J o_;have y:=aG j (.string dt[j]) (by rw[Eq,K_ af];rfl);have X:=bG _ (J_ af);subst aF;generalize dt[j]=b7 at y X;have bK:=h_ (oi aJ _ aK cr b7 wr rfl a.bs o_);have d:=h_ X;have L:=h_ J;clear aG X J
      cases aB:hasB cr b7 with
      |true=>
       rw[aB]at bK;clear aB
       go_wp2_with (go_at_call 171;refine bK.out.mono ?_;rintro e T⟨rfl,rfl⟩)
       go_roundw
       case rel=>exact⟨j+1,aJ,aK,cr,by omega,by go_num,by go_num,a,N,bP,L.out,H.out⟩
       case measure=>simp[intOf];omega
      |false=>
       rw[aB]at bK
       have cZ:qM cr b7=cr++[b7]:=by unfold qM;rw[P_ (by rw[aB];decide)]
       have r:=h_ cZ;clear aB cZ;obtain⟨bR,bZ,dG,fg,S,bv⟩:=box1 wr 9 #[.string b7];have ce:=iu a S;have br:Sl bR 9 1 (j_ bZ) 1 ([b7].map Value.string):=i5 (n:=1) (s:=1) bv rfl;have eo:=F_ aE S.size
       go_wp2_with (first|(go_at_call 171;refine bK.out.mono ?_;rintro e T⟨rfl,rfl⟩)|(at_builtin;refine jU rfl _ _ _ rfl base 9 i2 _ 1 16 underlying207 aM bX cg cp rfl d_ d_ aJ cr.length aK _ rfl ce _ 1 1 _ rfl br (sw _) o_ eo ?_;intro db cU ag c3 dE ep))
       go_roundw
       case rel=>
        have cG:pM base ag db cU (qM cr b7):=by
         unfold pM;rw[r.out,H_,Ed];exact c3
        refine⟨j+1,db,cU,qM cr b7,by omega,by go_num,by rw[r.out,H_];rfl,cG,N.trans (.add d.out),(bP.trans (.jQ S)).trans (.app dE ce s_),?_,?_⟩
        .have f:Bs bR (some (c_ dy bz)) dt:=Sl.g_ L.out S
         exact Sl.rD f λhn b o bp hb=>dE.block b hb λhe=>H.out b o bp hn he.symm
        .intro x off h1 h2;rw[r.out,H_]
         have bA:=by
          have f:Bs bR (some (c_ dy bz)) dt:=Sl.g_ L.out S;unfold Bs at f;rw[h1]at f;exact f.lt h2
         rcases ep with ho|ho
         .exact λh3=>H.out x off h1 h2 (ho.symm.trans h3)
         .exact λh3=>by
           have:some bR.heap.size=some x:=ho.symm.trans h3
           injection this;omega
       case measure=>simp[intOf];omega
     .go_wp2;go_roundw
      case rel=>exact⟨i+1,aJ,aK,cr,by omega,by go_num,by go_num,a,M,(F.trans (.jQ K)).trans bP⟩
      case measure=>simp[intOf];omega
   .have a2:=cl.nd .nil
    have av:=λx I=>(cl.new x I).elim (λh=>by cases h) id
    have cF:=k6 l2 V a2 av;go_wp2;rw[aD.out];refine⟨ay,an,l2,rfl,q.bs,av,cF,λx off U _=>?_,hg.trans (F.gr (by rw[cW.out];exact G_ _))⟩;subst U
    have:=(kj q (x:=x) rfl).1
    omega
theorem BZ(bu:V.length<=1000)(p:Nat->Prop)(d:Nat)(t:ET)(h:EG V d t):DC V p t:=by
 induction h with
 |num d n _ _=>exact tU V bu p 1 n _ 0 none 0 [] (λh=>D6 h d_) s_ (λu hu=>by cases hu)
 |var d s hs=>exact tU V bu p 3 0 s 0 none 0 [] (λ_=>hs) s_ (λu hu=>by cases hu)
 |new d n _ _=>exact tU V bu p 6 n _ 0 none 0 [] (λh=>D6 h d_) s_ (λu hu=>by cases hu)
 |field d n A s _ _ hs=>
  refine tU V bu p 4 n _ 0 A 1 [jl s] (λh=>D6 h d_) s_ (λu hu=>?_)
  have:u=jl s:=by simpa using hu
  subst this;exact tU V bu p 3 0 s 0 none 0 [] (λ_=>hs) s_ (λu hu=>by cases hu)
 |bin d o A a b _ _ _ _ i c=>
  refine tU V bu p 5 0 _ o A 2 [a,b] (λh=>D6 h d_) s_ (λu hu=>?_)
  rcases M_.1 hu with rfl|hu
  .exact i
  .have:u=b:=by simpa using hu
   subst this;exact c
structure PC(w:World)(PA:Option Addr)(fs:List FT):Prop where
 hfs:Au w PA fs
 len:fs.length=3
 i1:tk pJ fs 0=1
 i2:tk pf fs 0=2
 l1:∀h:1<fs.length,fs[1].ps.length=2
 l2:∀h:2<fs.length,fs[2].ps.length=1
theorem PC.g_{w:World}{fs:List FT}(h:PC w PA fs)(hg:Gr [] w w'):PC w' PA fs:=⟨Sl.g_ h.hfs hg,h.len,h.i1,h.i2,h.l1,h.l2⟩
theorem PC.pI{w:World}{fs:List FT}(h:PC w PA fs):∃b off A c A' c',PA=some (c_ b off)/\w.cell? (c_ b (off+3+1))=some (.slice A 2 c)/\w.cell? (c_ b (off+6+1))=some (.slice A' 1 c'):=by
 have hl:=h.len;obtain⟨b,off,U,_,h1,_⟩:=h.hfs.at_ (k:=1) o_;obtain⟨b',z,f,_,h2,_⟩:=h.hfs.at_ (k:=2) o_;rw[U]at f;injection f with f;injection f with aP aL;subst aP;subst aL;rw[h.l1 o_]at h1;rw[h.l2 o_]at h2;exact⟨b,off,_,_,_,_,U,h1,h2⟩
theorem PC.idx{w:World}{fs:List FT}(h:PC w PA fs)(pc:Nat):Calls prog 170 #[.agg #[.slice PA 3 pc],.string pJ] w (λe w'=>e=.returned (i_ 1)/\Gr [] w w')/\Calls prog 170 #[.agg #[.slice PA 3 pc],.string pf] w (λe w'=>e=.returned (i_ 2)/\Gr [] w w'):=by
 have h1:=nt PA 3 pc fs pJ w h.len h.hfs o_;have h2:=nt PA 3 pc fs pf w h.len h.hfs o_;rw[h.i1]at h1;rw[h.i2]at h2;exact⟨h1,h2⟩
theorem mE.call{k:Int}{x f:ByteArray}{L:Bool}(h:mE V k x f n o m B L)(hk:k=3):(f=pJ/\m=2)∨(f=pf/\m=1):=by
 cases h<;>first|exact D6 hk d_|exact .inl ⟨rfl,rfl⟩|exact .inr ⟨rfl,rfl⟩
theorem mE.Dm{k:Int}{x f:ByteArray}{L:Bool}(h:mE V k x f n o m B L)(hk:k=12):ri o=true:=by
 cases h<;>first|exact D6 hk d_|(rename_i ho;rcases ho with rfl|rfl|rfl<;>rfl)
def Ci(V:List ByteArray)(D:Nat):Prop:=∀(N:Nat) (PA:Option Addr) (pc:Nat) (fs:List FT) (VA:Option Addr) (vc:Nat) (vs:List ByteArray) (A:Option Addr) (n c:Nat) (ts:List ST) (p:Nat->Prop) (w:World),N<=1000->ts.length=n->lJ V D N ts->(∀x∈V,x∈vs)->vs.length<=1000->Bs w VA vs->PC w PA fs->Sl w 229 8 A n (ts.flatMap ST.E)->(∀u∈ts,jx p w u)->
 Calls prog 172 #[.agg #[.slice PA 3 pc],.slice VA vs.length vc,.slice A n c] w (uG (i_ 0) w)
theorem y8(bu:V.length<=1000)(D:Nat)(HD:∀r,D=r+1->Ci V r):Ci V D:=by
 intro N PA pc fs VA vc vs A n c ts p w cG hn bS h ax hbs uK be kb
 refine hX λQ aD=>?_
 obtain⟨W,gx,aZ,I,hg,H⟩:=box1 w 150 #[.slice PA 3 pc];have a2:=h_ hn;have b8:=h_ (be.g_ hg);have cK:=h_ (λu hu=>(kb u hu).g_ hg:∀u∈ts,jx p W u);have cW:=h_ (Sl.g_ hbs hg:Bs W VA vs);have g:=h_ (uK.g_ hg);have cv:=h_ h;have cT:=h_ (show lJ V D N (ts.drop 0) from bS)
 have cy:n<=1000:=by have:=bS.len;omega
 obtain⟨v9,cf⟩:=mn_ vs.length;rw[cf]at ax;have d:=h_ cf;clear hn be kb hbs uK h bS;rw[cf];clear cf
 go_enter func172,ntmps172
 go_wp2;have bl:=h_ aZ;clear aZ I
 go_loopw [18] (λar w'=>∃(k a b:Nat),k<=n/\ar=i_ k/\a+b=N/\lJ V D b (ts.drop k)/\Gr [] W w') (λar _=>n-(intOf ar).toNat)
 case atStart=>exact⟨0,0,N,N_ _,by go_num,by omega,cT.out,D_ _ _⟩
 case round=>
  obtain⟨k,a,b,hk,rfl,hab,bT,F⟩:=hrel;have o:=h_ hab;clear hab
  by_cases aj:k<n
  .have aH:k<ts.length:=by have:=a2.out;omega
   obtain⟨bv,off,U,z0,aS,aX,z3,z4,z5,ck,cJ⟩:=ST.at_ (b8.out.g_ F) a2.out aH;subst U;rw[X_ aH]at bT;obtain⟨f,b2,bB,bA,b9⟩:=bT.split;have v:=h_ bB;have aw:=(cK.out _ (J_ aH)).g_ F;generalize ts[k]=t at z0 aS aX z3 z4 z5 ck cJ bA aw;clear bT bB;obtain⟨r,nb,nl,aO,bp,hD,br,bL,aN,aT,hes,hb,hl⟩:=bA.one;have aY:=HD r hD;have C:=h_ br;have bD:=h_ b9;obtain⟨p1,G,M,bi,cA,ak⟩:=aw.parts
   have hbl:nb+nl+1<=1000:=by have:=o.out;have:=v.out;omega
   have cl:=bL.rng;have bM:=h_ bL.call;have bR:=h_ bL.Dm;clear hD br bL bA aN aT b9;obtain⟨R,av,b5,hg1,E,bg⟩:=box1 wr 229 #[i_ t.hT,.string t.name,.string t.fn,i_ t.n,i_ t.op,.slice t.AE t.es.length t.cE,.slice t.AB t.bs.length t.cB,.slice t.AL t.ls.length t.cL];obtain⟨Z,ah,au,aQ,aV,aE,z,y⟩:=bg.iT;have bI:=F.trans E;replace p1:=Sl.g_ p1 E
   replace G:∀u∈t.es,kc p R u:=λu hu=>(G u hu).g_ E
   replace M:=Sl.g_ M E
   replace bi:∀u∈t.bs,jx p R u:=λu hu=>(bi u hu).g_ E
   replace cA:=Sl.g_ cA E
   replace ak:∀u∈t.ls,jx p R u:=λu hu=>(ak u hu).g_ E
   have az:=h_ p1;obtain⟨m,Y⟩:=mn_ t.es.length;rw[Y]at aE cl;have O:=h_ Y;clear Y p1 E F
   go_upto_region 5 with fail
   clear b5 hg1 Z ah au aQ aV aE z y z0 aS aX z3 z4 z5 ck cJ
   go_loopw [25] (λar w'=>∃i:Nat,i<=m/\ar=i_ i/\Gr [] R w') (λar _=>m-(intOf ar).toNat)
   case atStart=>exact⟨0,by omega,by go_num,D_ _ _⟩
   case round=>
    obtain⟨i,hi,rfl,E⟩:=hrel
    by_cases bm:i<m
    .have a6:i<t.es.length:=by have:=O.out;omega
     obtain⟨et,b3,aB,z0,aS,aX,z3,z4⟩:=ET.at_ (Sl.g_ az.out E) a6;have bU:=BZ bu p 2 t.es[i] (hes _ (J_ a6));have hu:=(G _ (J_ a6)).g_ E;generalize t.es[i]=u at z0 aS aX z3 z4 bU hu;obtain⟨bh,bf,bF,ad,bV,aR⟩:=box1 wr 226 #[i_ u.hT,i_ u.n,.string u.name,i_ u.op,.slice u.A u.l.length u.c];obtain⟨aU,bn,P,ao,aq⟩:=aR.cells5;have aW:=h_ (bU bh (hu.g_ bV));rw[aB];clear bU hu aB
     go_wp2_with fail
     go_at_call 199
     refine aW.out.mono ?_;rintro e ai⟨aJ,aK,cr,rfl,J,a8,bX,_,aC⟩;have dL:=(E.trans bV).trans aC;have L:=h_ J;obtain⟨d0,bw⟩:=mn_ cr.length;have bQ:=h_ bw
     have bY:d0<=1000:=by omega
     clear aU bn P ao aq z0 aS aX z3 z4 J bX;rw[bw];clear bw
     go_wp2_with fail
     go_loopw [32] (λar w'=>∃j:Nat,j<=d0/\ar=i_ j/\w'=ai) (λar _=>d0-(intOf ar).toNat)
     case atStart=>exact⟨0,by omega,by go_num,rfl⟩
     case round=>
      obtain⟨j,hj,rfl,rfl⟩:=hrel
      by_cases B:j<d0
      .have bJ:j<cr.length:=by have:=bQ.out;omega
       obtain⟨dy,bz,aF,aG⟩:=Sl.f_ L.out o_;have y:=aG j (.string cr[j]) (by rw[Eq,K_ bJ];rfl);have X:=cv.out _ (a8 _ (J_ bJ));generalize cr[j]=b7 at y X;have s:=oi VA _ vc vs b7 wr d.out (Sl.g_ cW.out (bI.trans dL)) o_;rw[qF.2 X]at s;have bK:=h_ s;rw[aF];clear aG X aF s
       go_wp2_with (go_at_call 171;refine bK.out.mono ?_;rintro e T⟨rfl,rfl⟩)
       go_roundw
       case rel=>exact⟨j+1,by omega,by go_num,trivial⟩
       case measure=>simp[intOf];omega
      .go_wp2;go_roundw
       case rel=>exact⟨i+1,by omega,by go_num,dL⟩
       case measure=>simp[intOf];omega
    .have hg1:=bI.trans E;have aI:=bg.g_ E;obtain⟨Z,ah,au,aQ,aV,aE,z,y⟩:=aI.iT
     go_upto_if 44 with fail
     go_cut [13] (λar a7=>Gr [] wr a7)
     case first=>
      by_cases b0:t.hT=3
      .have bj:(t.hT==3)=true:=by simp[b0]
       have bE:=bM.out b0;rw[O.out]at bE;clear b0;have b4:wr.cell? (c_ gx 0)=some (.slice PA 3 pc):=(H.g_ hg1).f_ 0
       rcases bE with⟨hf,c7⟩|⟨hf,c7⟩
       all_goals (subst c7)
       .rw[hf]at au;have ag:=h_ ((g.out.g_ hg1).idx pc).1;exact G6
       .rw[hf]at au;have ag:=h_ ((g.out.g_ hg1).idx pc).2;exact G6
      .have bj:(t.hT==3)=false:=by simp[b0]
       clear b0;go_wp2;go_meet;exact D_ _ _
     case rest=>
      have bq:=E.trans hcut;have ad:=hg1.trans hcut;have K:=aI.g_ hcut;clear Z ah au aQ aV aE z y hcut;obtain⟨Z,ah,au,aQ,aV,aE,z,y⟩:=K.iT;have b4:wc.cell? (c_ gx 0)=some (.slice PA 3 pc):=(H.g_ ad).f_ 0
      by_cases ap:t.hT=12
      .have bj:(t.hT==12)=true:=by simp[ap]
       have s:=uc t.op wc;rw[bR.out ap]at s;have bP:=h_ s;clear ap s
       go_upto_region 22 with(go_at_call 179;refine bP.out.mono ?_;rintro e ai⟨rfl,rfl⟩)
       exact Gu
      .have bj:(t.hT==12)=false:=by simp[ap]
       clear ap
       go_upto_region 22 with fail
       exact Gu
  .exact Kj
theorem xa{V:List ByteArray}(bu:V.length<=1000):∀D,Ci V D
 |0=>y8 bu 0 λr h=>by omega
 |D+1=>y8 bu (D+1) λr h2=>by
  have e:r=D:=by omega
  subst e;exact xa bu r
end Go.Proofs.YtenbhdilndfaeaaGreat
