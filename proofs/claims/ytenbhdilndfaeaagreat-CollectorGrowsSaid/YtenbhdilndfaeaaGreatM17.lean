import Derived.Test.YtenbhdilndfaeaaGreatM16
set_option maxRecDepth 100000
set_option maxHeartbeats 0
set_option linter.all false
namespace Go.Proofs.YtenbhdilndfaeaaGreat
open Go.RowKit Go.Proofs.Tryz
variable{G:Prop}{n o:Int}{s:ByteArray}{base m:Nat}{V:List ByteArray}{T:List TypeId}{B:Bool}{q:Nat->Prop}{w':World}{PA:OA}(d:Nat)
theorem Hz(h:G:=by
 have br:=h_ (a6 nb PA pc fs VA vc vs t.AB _ t.cB t.bs p wc o_ rfl hb cx.out (by rw[f.out];exact aC) (Sl.hG c7.out J) (s.out.hG J) (Sl.hG M bA) (λu hu=>(am u hu).hG bA));rw[f.out]at br
 go_wp2_with fail
 go_at_call 172
 refine br.out.mono ?_;rintro e T⟨rfl,Z⟩;have I:=bA.trans Z;have bZ:=J.trans Z;have bE:T.cell? (c_ gx 0)=some (.slice PA 3 pc):=(E.hG bZ).f_ 0;have aY:=H.hG Z;clear U ad ar aL ao aP z y b6;obtain⟨U,ad,ar,aL,ao,aP,z,y⟩:=aY.i0;have x:=h_ (a6 nl PA pc fs VA vc vs t.AL _ t.cL t.ls p T o_ rfl hl cx.out (by rw[f.out];exact aC) (Sl.hG c7.out bZ) (s.out.hG bZ) (Sl.hG cz I) (λu hu=>(X u hu).hG I));rw[f.out]at x
 go_wp2_with fail
 go_at_call 172
 refine x.out.mono ?_;rintro e Y⟨rfl,ah⟩;go_wp2;go_roundw
 case rel=>
  have aJ:=o.out;have aG:=q.out;have bQ:=B.out;exact⟨k+1,a+G,b2,o_,gn,o_,aD.out,bZ.trans ah⟩
 case measure=>exact mz):G:=h
theorem H3(h:G:=by
 clear hf
 go_upto_region 18 with(go_at_call 170;refine au.out.mono ?_;rintro e ae⟨rfl,S⟩)
 obtain⟨bf,off,A1,c1,av,ai,C,bH,b8⟩:=((s.out.hG hg1).hG S).pP;have bJ:ae.cell? (c_ gx 0)=some (.slice PA 3 pc):=(E.hG (hg1.trans S)).f_ 0;have bu:=(aE.hG S).i0.2.2.2.2.2.1;rw[HM.out]at bu;rw[C]at bJ;clear U ad ar aL ao aP z y b6 C
 go_quiet (fail)
 go_wp2;go_meet;exact S.trans ((F_ [] _).drewN _)):G:=h
theorem Kz(h:G:=by
 have h3:(i+1:Int)*nb d<=m*nb d:=F1 o_ (ov j.out);rw[Int.add_mul,Int.one_mul]at h3;omega):G:=h
theorem KH(h:G:=by
 have h1:=bn.out;have h2:=r.out;have h3:(i:Int)*nb d<=m*nb d:=F1 o_ (ov j.out);omega):G:=h
theorem KS(h:G:=by
 go_wp2
 go_quiet (fail)
 go_wp2;go_meet;exact⟨rfl,rfl,rfl,(F_ [] _).drewN _⟩):G:=h
def nb:Nat->Int|0=>1|d+1=>1+2*nb d
theorem w9:1<=nb d:=by induction d with|zero=>decide|succ d Z=>unfold nb;omega
def DA(d:Nat)(w:World)(e:Ending)(w':World):Prop:=∃N:Int,1<=N/\N<=nb d/\e=.returned (i_ N)/\Gr [] w w'
def D8(d:Nat)(p:Nat->Prop)(t:ET):Prop:=∀(left:Int) (w:World),nb d<=left->left<=16->kk p w t->Calls prog 223 #[.agg t.g_,i_ left] w (DA d w)
inductive Kd:Int->Int->ByteArray->Int->Nat->Prop
 |num (n:Int):Kd 1 n i4 0 0
 |var (s:ByteArray) (h:mg s):Kd 3 0 s 0 0
 |new (n:Int) (h0:0<=n) (h1:n<=3):Kd 6 n i4 0 0
 |field (n:Int) (h0:0<=n) (h1:n<=2):Kd 4 n i4 0 1
 |bin (o:Int) (h0:1<=o) (h1:o<=11):Kd 5 0 i4 o 2
theorem Kd.Ev{k:Int}(h:Kd k n s o m):m<=2:=by cases h<;>omega
theorem xU:i4.toList=[]:=by rw[F4];rfl
theorem sZ(p:Nat->Prop)(k n:Int)(s:ByteArray)(o:Int)(A:OA)(c:Nat)(l:List ET)(D:Int)(hD:D<=7)(H:Kd k n s o l.length)(hl:∀u∈l,D8 d p u)(left:Int)(w:World)(dK:1+l.length*nb d<=left)(T:left<=16)(B:1+l.length*nb d<=D)(hE:kk p w (.mk k n s o A c l)):
 Calls prog 223 #[.agg (ET.mk k n s o A c l).g_,i_ left] w λe w'=>∃N:Int,1<=N/\N<=D/\e=.returned (i_ N)/\Gr [] w w':=by
 refine ia λQ ak=>?_
 have C:=w9 d;have ca:l.length<=2:=H.Ev
 have a7:Sl w 226 5 A l.length (l.flatMap ET.E):=by cases hE with|mk t h _ _ _=>exact h
 have q:∀u∈l,kk p w u:=by cases hE with|mk t _ _ _ h=>exact h
 have V:1<=left:=ov (Int.mul_nonneg (show(0:Int)<=l.length by omega) (show(0:Int)<=nb d by omega));obtain⟨m,hm⟩:=mn_ l.length;obtain⟨W,g,aT,hg,I,hB⟩:=box1 w 226 (ET.mk k n s o A c l).g_
 replace hB:Bk W g 226 #[i_ k,i_ n,.string s,i_ o,.slice A m c]:=by rw[<-hm];exact hB
 rw[hm]at H ca a7 dK B;obtain⟨U,ad,ar,aL,ao⟩:=hB.cells5;have HM:=h_ hm;have bi:=h_ (a7.hG I);clear hm a7 hE;have hq1:¬left<1:=o_
 go_enter func223,ntmps223
 go_upto_region 2 with(go_at_call 180;refine(qC o _).mono ?_;rintro e w1⟨⟨s1,rfl⟩,hg1⟩)
 replace hB:=hB.hG hg1;replace I:=I.trans hg1;have G:=h_ (bi.out.hG hg1);clear bi hg1 U ad ar aL ao;obtain⟨U,ad,ar,aL,ao⟩:=hB.cells5;have O:=xU
 go_upto_block 0 with fail
 go_cut [7,8,9] (λa b c aX=>a=.bool true/\b=i_ m/\c=.bool true/\Gr [] w1 aX)
 case first=>
  rcases H with⟨_⟩|⟨_,bw⟩|⟨_,h0,h1⟩|⟨_,h0,h1⟩|⟨_,h0,h1⟩
  .go_wp2;go_meet;exact⟨rfl,rfl,rfl,F_ _ _⟩
  .go_wp2_with (go_at_call 197;refine(nB _ _ bw).mono ?_;rintro e w2⟨rfl,J⟩;replace hB:=hB.hG J;clear U ad ar aL ao;obtain⟨U,ad,ar,aL,ao⟩:=hB.cells5)
   go_meet;exact⟨rfl,rfl,rfl,J⟩
  .have h2:n<=16:=o_;exact KS
  .have h2:n<16:=o_;exact KS
  .have d2:pn o=true:=by simp[pn];omega
   go_wp2;go_meet;exact⟨rfl,rfl,rfl,F_ _ _⟩
 case rest=>
  obtain⟨rfl,rfl,rfl,J⟩:=hcut;replace hB:=hB.hG J;replace I:=I.trans J;have L:=h_ (G.out.hG J);clear G J U ad ar aL ao O;obtain⟨U,ad,ar,aL,ao⟩:=hB.cells5;have v:=h_ dK;have r:=h_ B;have j:=h_ C;clear dK B C
  go_upto_region 22 with fail
  have bl:Gr [] wc wc:=F_ _ _
  go_loopw [10,118] (λa ap w'=>∃(k:Nat) (N:Int),k<=m/\ap=i_ k/\a=i_ N/\1<=N/\N<=1+k*nb d/\Gr [] wc w') (λ_ ap _=>m-(intOf ap).toNat)
  case atStart=>exact⟨0,1,o_,gn,rfl,o_,s_,bl⟩
  case round=>
   obtain⟨i,N,hi,rfl,rfl,z,f,F⟩:=hrel;have bn:=h_ f;clear f;have P:N<=7:=KH
   by_cases ag:i<m
   .have aS:i<l.length:=ov HM.out;obtain⟨b,off,hA,aw,c1,ai,aC,c4⟩:=ET.at_ (by rw[HM.out];exact L.out.hG F) aS;have x:=hl l[i] (N_ aS);have hu:=(q _ (N_ aS)).hG I |>.hG F;subst hA;generalize l[i]=u at aw c1 ai aC c4 x hu;obtain⟨R,a2,bW,hg1,af,E⟩:=box1 wr 226 #[i_ u.h6,i_ u.n,.string u.name,i_ u.op,.slice u.A u.l.length u.c];obtain⟨z0,aM,aV,z3,z4⟩:=E.cells5
    have K:nb d<=left-N:=by
     have h1:=bn.out;have h2:=v.out;exact Kz
    have aK:=h_ (x (left-N) R K o_ (hu.hG af));clear x hu K
    go_wp2_with fail
    refine aK.out.mono ?_;rintro e w2⟨M,y,cv,rfl,S⟩;have bN:=h_ cv
    have cD:N+M<=7:=by
     have h1:=bn.out;have h2:=r.out;exact Kz
    clear cv;go_wp2;go_roundw
    case rel=>
     refine⟨i+1,N+M,o_,gn,rfl,o_,?_,(F.trans af).trans S⟩;have h1:=bn.out;have h2:=bN.out
     have h3:((i+1:Nat):Int)*nb d=i*nb d+nb d:=by rw[show((i+1:Nat):Int)=(i:Int)+1 by omega,Int.add_mul,Int.one_mul]
     omega
    case measure=>exact mz
   .go_wp2;rw[ak.out];refine⟨N,z,?_,rfl,I.trans F⟩;exact KH
theorem yN(aZ:∀s∈V,mg s)(p:Nat->Prop)(d:Nat)(t:ET)(h:EG V d t)(hd:d<=2):D8 d p t:=by
 have B:∀d,d<=2->nb d<=7:=by
  intro d hd
  rcases(by omega:d=0∨d=1∨d=2)with rfl|rfl|rfl<;>decide
 have leaf:∀(d:Nat) (k n:Int) (s:ByteArray) (o:Int),d<=2->Kd k n s o 0->D8 d p (.mk k n s o none 0 []):=by
  intro d k n s o hd H left w h1 h2 hE
  have:=w9 d
  exact(sZ 0 p k n s o none 0 [] 1 o_ H (λu hu=>by cases hu) left w p_ h2 s_ hE).mono λe w'⟨N,a1,G,a3,a4⟩=>⟨N,a1,o_,a3,a4⟩
 induction h with
 |num d n _ _=>exact leaf d _ _ _ _ hd (.num n)
 |var d s hs=>exact leaf d _ _ _ _ hd (.var s (aZ s hs))
 |new d n h0 h1=>exact leaf d _ _ _ _ hd (.new n h0 h1)
 |field d n A s h0 h1 hs=>
  intro left w h1' h2 hE;have aJ:nb (d+1)=1+2*nb d:=rfl
  have:=w9 d
  have:=B (d+1) hd
  refine(sZ d p 4 n i4 0 A 1 [jA s] (nb (d+1)) this (.field n h0 h1) (λu hu=>?_) left w p_ h2 p_ hE)
  have:u=jA s:=zu hu
  subst this;exact leaf d _ _ _ _ o_ (.var s (aZ s hs))
 |bin d o A a b h0 h1 _ _ f c=>
  intro left w h1' h2 hE;have aJ:nb (d+1)=1+2*nb d:=rfl
  have:=B (d+1) hd
  refine(sZ d p 5 0 i4 o A 2 [a,b] (nb (d+1)) this (.bin o h0 h1) (λu hu=>?_) left w p_ h2 p_ hE)
  rcases L_.1 hu with rfl|hu
  .exact f o_
  .have:u=b:=zu hu
   subst this;exact c o_
theorem xk(aZ:∀s∈V,mg s)(p:Nat->Prop)(t:ET)(h:EG V 2 t)(w:World)(hE:kk p w t):
 Calls prog 222 #[.agg t.g_] w λe w'=>e=.returned (.bool true)/\Gr [] w w':=by
 refine ia λQ ak=>?_
 obtain⟨W,g,aT,hg,I,hB⟩:=box1 w 226 t.g_;replace hB:Bk W g 226 #[i_ t.h6,i_ t.n,.string t.name,i_ t.op,.slice t.A t.l.length t.c]:=hB;obtain⟨U,ad,ar,aL,ao⟩:=hB.cells5;have aK:=h_ (yN aZ p 2 t h o_ 16 W d_ o_ (hE.hG I))
 go_enter func222,ntmps222
 go_wp2_with (go_at_call 223;refine aK.out.mono ?_;rintro e w2⟨M,y,cv,rfl,S⟩;have a:M<=16:=Int.le_trans cv d_;clear cv)
 rw[ak.out];exact⟨rfl,I.trans S⟩
def uW(v:Value)(w:World)(e:Ending)(w':World):Prop:=e=.returned v/\Gr [] w w'
theorem tL(aZ:∀s∈V,mg s)(p:Nat->Prop)(k:Int)(x f:ByteArray)(n o:Int)(AE:OA)(cE:Nat)(es:List ET)(AB:OA)(cB:Nat)(bs:List ST)(AL:OA)(cL:Nat)(ls:List ST)(B L:Bool)(w:World)(bw:mP V k x f n o es.length B L)(hB:B=false->bs=[])(hL:L=false->ls=[])(hes:∀e∈es,EG V 2 e)(a7:Sl w 226 5 AE es.length (es.flatMap ET.E))(kh:∀u∈es,kk p w u):
 Calls prog 215 #[.agg (ST.mk k x f n o AE cE es AB cB bs AL cL ls).g_] w (uW (.bool true) w):=by
 refine ia λQ ak=>?_
 obtain⟨m,hm⟩:=mn_ es.length;rw[hm]at bw;have HM:=h_ hm;obtain⟨W,gx,aT,hx,hg,a8⟩:=box1 w 229 (ST.mk k x f n o AE cE es AB cB bs AL cL ls).g_
 replace a8:Bk W gx 229 #[i_ k,.string x,.string f,i_ n,i_ o,.slice AE m cE,.slice AB bs.length cB,.slice AL ls.length cL]:=by rw[<-hm];exact a8
 have bi:=h_ (a7.hG hg);have cO:=h_ (λu hu=>(kh u hu).hG hg:∀u∈es,kk p W u);clear hm a7 kh;have O:=xU;obtain⟨_,eO,c⟩:=x1;have dk:=h_ eO;have a:=h_ c;clear eO c
 rcases bw with⟨_,d⟩|⟨_,dG,cX⟩|⟨_,d⟩|⟨_,d⟩|_|⟨_,d⟩|_|_|_|⟨_,d⟩|_|⟨_,d⟩|⟨_,d,_,eU⟩
 all_goals
  (try(have hbs:=hB rfl;subst hbs))
  (try(have hls:=hL rfl;subst hls))
  (try have g:=h_ (aZ _ d))
  clear hB hL
  (try simp only[EY]at a8)
  obtain⟨U,ad,ar,aL,ao,aP,z,y⟩:=a8.i0
  go_enter func215,ntmps215
  go_upto_region 5 with(go_at_call 216;refine(uc _ _ d_ d_).mono ?_;rintro e w'⟨rfl,rfl⟩;simp only[DG.v,prt])
 all_goals
  clear U ad ar aL ao aP z y;have bN:=HM.out;have bl:Gr [] W W:=F_ _ _
  go_loopw [49] (λap w'=>∃k:Nat,k<=es.length/\ap=i_ k/\Gr [] W w') (λap _=>es.length-(intOf ap).toNat)
  case atStart=>exact⟨0,O_ _,gn,bl⟩
  case round=>
   obtain⟨i,hi,rfl,F⟩:=hrel
   by_cases ag:i<es.length
   .obtain⟨b,off,hA,aw,c1,ai,aC,c4⟩:=ET.at_ (bi.out.hG F) ag;have hE:=hes es[i] (N_ ag);have hu:=(cO.out _ (N_ ag)).hG F;subst hA;generalize es[i]=u at aw c1 ai aC c4 hE hu;obtain⟨R,a2,bW,hg1,af,E⟩:=box1 wr 226 #[i_ u.h6,i_ u.n,.string u.name,i_ u.op,.slice u.A u.l.length u.c];obtain⟨z0,aM,aV,z3,z4⟩:=E.cells5;have aK:=h_ (xk aZ p u hE R (hu.hG af));have aJ:=ag;rw[bN]at aJ;clear hE hu
    first
     |(exact EK aJ o_)
     |(go_wp2_with (go_at_call 222;refine aK.out.mono ?_;rintro e w2⟨rfl,S⟩)
       go_roundw
       case rel=>exact⟨i+1,o_,gn,(F.trans af).trans S⟩
       case measure=>exact mz)
   .have bA:¬i<es.length:=ag;rw[bN]at bA;replace a8:=a8.hG F;obtain⟨U,ad,ar,aL,ao,aP,z,y⟩:=a8.i0
    (try(have v:n<16:=by omega))
    (try(have C:pn o=true:=by rcases eU with rfl|rfl|rfl<;>rfl))
    clear bA bl
    go_upto_region 11 with((first|(go_at_call 180;refine(qC _ _).mono ?_;rintro e w2⟨⟨b0,rfl⟩,J⟩)|(go_at_call 197;refine(nB _ _ (by first|exact g.out|exact dk.out|exact a.out)).mono ?_;rintro e w2⟨rfl,J⟩));replace F:=F.trans J;replace a8:=a8.hG J;clear J U ad ar aL ao aP z y;obtain⟨U,ad,ar,aL,ao,aP,z,y⟩:=a8.i0)
    simp only[List.append_eq,F8,EO]
    go_wp2_with ((first|(go_at_call 180;refine(qC _ _).mono ?_;rintro e w2⟨⟨b0,rfl⟩,J⟩)|(go_at_call 197;refine(nB _ _ (by first|exact g.out|exact dk.out|exact a.out)).mono ?_;rintro e w2⟨rfl,J⟩));replace F:=F.trans J;replace a8:=a8.hG J;clear J U ad ar aL ao aP z y;obtain⟨U,ad,ar,aL,ao,aP,z,y⟩:=a8.i0)
    rw[ak.out];exact⟨rfl,hg.trans F⟩
def DB(N D:Nat)(w:World)(e:Ending)(w':World):Prop:=∃dp:Int,0<=dp/\dp<=D/\e=.returned (.tuple #[i_ N,i_ dp,.bool true])/\Gr [] w w'
def D9(V:List ByteArray)(D:Nat):Prop:=∀(N:Nat) (A:OA) (n c:Nat) (ts:List ST) (p:Nat->Prop) (w:World),N<=1000->ts.length=n->lR V D N ts->Sl w 229 8 A n (ts.flatMap ST.E)->(∀u∈ts,jK p w u)->
 Calls prog 198 #[.slice A n c] w (DB N D w)
theorem B4(aZ:∀s∈V,mg s)(D:Nat)(j:D<=1000)(HD:∀r,D=r+1->D9 V r):D9 V D:=by
 intro N A n c ts p w cS hn bO a7 kh
 refine ia λQ ak=>?_
 have aW:=h_ hn;have bi:=h_ a7;have ai:lR V D N (ts.drop 0):=bO;have ce:n<=1000:=ov bO.len;clear hn a7
 go_enter func198,ntmps198
 go_wp2
 go_loopw [5,6,17] (λh dv ap w'=>∃(k a b:Nat) (dp:Int),k<=n/\ap=i_ k/\h=i_ a/\dv=i_ dp/\0<=dp/\dp<=D/\a+b=N/\lR V D b (ts.drop k)/\Gr [] w w') (λ_ _ ap _=>n-(intOf ap).toNat)
 case atStart=>exact⟨0,0,N,0,O_ _,gn,gn,rfl,o_,o_,o_,ai,F_ _ _⟩
 case round=>
  obtain⟨k,a,b,dp,hk,rfl,rfl,rfl,bg,cO,hab,bS,F⟩:=hrel;have o:=h_ hab;have m:a<=1000:=o_;clear ai hab
  by_cases ag:k<n
  .have az:k<ts.length:=ov aW.out;obtain⟨bB,off,hA,z0,aM,aV,z3,z4,z5,cg,cQ⟩:=ST.at_ (bi.out.hG F) aW.out az;subst hA;rw[R_ az]at bS;obtain⟨G,b2,bU,bz,cj⟩:=bS.split;have q:=h_ bU;have aq:=(kh _ (N_ az)).hG F;generalize ts[k]=t at z0 aM aV z3 z4 z5 cg cQ bz aq;clear bS bU;obtain⟨r,nb,nl,aN,aU,hD,bt,bw,aR,bl,hes,hb,hl⟩:=bz.one;have a6:=HD r hD;have B:=h_ bt;obtain⟨p1,l,M,am,cz,X⟩:=aq.parts
   have hbl:nb+nl+1<=1000:=by have:=o.out;have:=q.out;omega
   have d:(r:Int)+1=D:=o_;have f:=h_ d;have aK:=h_ (λW(hg:Gr [] wr W)=>tL aZ p t.h6 t.name t.fn t.n t.op t.AE t.cE t.es t.AB t.cB t.bs t.AL t.cL t.ls aN aU W bw aR bl hes (p1.hG hg) (λu hu=>(l u hu).hG hg));clear hD bt bw bz d;obtain⟨R,gx,bW,aE,af,a8⟩:=box1 wr 229 #[i_ t.h6,.string t.name,.string t.fn,i_ t.n,i_ t.op,.slice t.AE t.es.length t.cE,.slice t.AB t.bs.length t.cB,.slice t.AL t.ls.length t.cL];obtain⟨U,ad,ar,aL,ao,aP,z,y⟩:=a8.i0
   go_wp2_with fail
   go_at_call 215
   refine(aK.out R af).mono ?_;rintro e w2⟨rfl,J⟩;have cD:=af.trans J;clear U ad ar aL ao aP z y aK;obtain⟨U,ad,ar,aL,ao,aP,z,y⟩:=(a8.hG J).i0
   go_wp2_with fail
   go_at_call 198
   refine(a6 nb t.AB _ t.cB t.bs p _ o_ rfl hb (M.hG cD) (λu hu=>(am u hu).hG cD)).mono ?_;rintro e ae⟨bH,aF,v,rfl,S⟩;have dq:=cD.trans S;clear U ad ar aL ao aP z y;obtain⟨U,ad,ar,aL,ao,aP,z,y⟩:=(a8.hG (J.trans S)).i0
   go_wp2_with fail
   go_at_call 198
   refine(a6 nl t.AL _ t.cL t.ls p _ o_ rfl hl (cz.hG dq) (λu hu=>(X u hu).hG dq)).mono ?_;rintro e T⟨bp,x,C,rfl,Z⟩;have g:=dq.trans Z
   have b6:0<=(if bH<bp then bp else bH)/\(if bH<bp then bp else bH)<=1000:=by have b4:=f.out;split<;>omega
   have qF:wrap64 (1+if bH<bp then bp else bH)=1+(if bH<bp then bp else bH):=by
    generalize (if bH<bp then bp else bH)=i at b6 |-;unfold wrap64;omega
   go_wp2;go_roundw
   case rel=>
    have aJ:=o.out;have aG:=q.out;have bQ:=B.out;have b4:=f.out;refine⟨k+1,a+G,b2,_,o_,gn,by rw[bQ];go_num,rfl,?_,?_,o_,cj,F.trans g⟩
    .split<;>(try split)<;>omega
    .split<;>(try split)<;>omega
   case measure=>exact mz
  .go_wp2;rw[ak.out]
   have aJ:b=0:=by
    rw[E3 (ov aW.out)]at bS
    cases bS;rfl
   have aG:=o.out;have bQ:a=N:=o_;subst bQ;refine⟨rfl,.tuple #[i_ a,i_ dp,.bool true],?_,dp,bg,cO,rfl,F⟩
   kernel_rfl
theorem Aj{V:List ByteArray}(aZ:∀s∈V,mg s):∀D,D<=1000->D9 V D
 |0,_=>B4 aZ 0 o_ λr h=>by omega
 |D+1,h=>B4 aZ (D+1) o_ λr h2=>by
  have e:r=D:=o_;subst e;exact Aj aZ r o_
structure Nm(V l l':List ByteArray):Prop where
 sub:∀x∈l,x∈l'
 new:∀x∈l',x∈l∨x∈V
 nd:l.Nodup->l'.Nodup
theorem Nm.refl(V l:List ByteArray):Nm V l l:=⟨λ_ h=>h,λ_ h=>.inl h,λh=>h⟩
theorem Nm.trans{a b c:List ByteArray}(h:Nm V a b)(k:Nm V b c):Nm V a c:=⟨λx hx=>k.sub x (h.sub x hx),λx hx=>(k.new x hx).elim (h.new x) .inr,λhd=>k.nd (h.nd hd)⟩
theorem ba_eq{x:ByteArray}(h:x.toList=s.toList):x=s:=by
 rw[F4,F4]at h
 cases x;cases s
 congr 1;exact Array.toList_inj.1 h
theorem qH{l:List ByteArray}:hasB l s=true↔s∈l:=by
 unfold hasB;rw[List.any_eq_true];constructor
 .rintro⟨x,hx,he⟩
  have:x=s:=ba_eq (zu he)
  rw[<-this];exact hx
 .intro h;exact⟨s,h,s_⟩
theorem Nm.add{l:List ByteArray}(hs:s∈V):Nm V l (qO l s):=by
 unfold qO
 by_cases h:hasB l s=true
 .rw[T_ h];exact .refl _ _
 .rw[Q_ h]
  have hn:s∉l:=λhm=>h (qH.2 hm)
  refine⟨λx hx=>E4 _ hx,λx hx=>?_,λhd=>?_⟩
  .rcases X_.1 hx with hx|hx
   .exact .inl hx
   .have:x=s:=zu hx
    subst this;exact .inr hs
  .rw[Gu];refine⟨hd,s_,λa ha b hb=>?_⟩
   have:b=s:=zu hb
   subst this;rintro rfl;exact hn ha
theorem wj(l:List ByteArray)(s:ByteArray):s∈qO l s:=by
 unfold qO
 by_cases h:hasB l s=true
 .rw[T_ h];exact qH.1 h
 .rw[Q_ h];simp
inductive nK(L:List ByteArray):List ST->Prop
 |nil:nK L []
 |cons (t:ST) (l:List ST) (h:(prt t.h6).name=true->t.name∈L) (hb:nK L t.bs) (hl:nK L t.ls) (hr:nK L l):nK L (t::l)
theorem nK.mono{L M:List ByteArray}{l:List ST}(h:nK L l)(hm:∀x∈L,x∈M):nK M l:=by
 induction h with
 |nil=>exact .nil
 |cons t l h hb hl hr c d f=>exact .cons t l (λe=>hm _ (h e)) c d f
theorem nK.append{L:List ByteArray}{l m:List ST}(h:nK L l)(k:nK L m):nK L (l++m):=by
 induction h with
 |nil=>exact k
 |cons t l h hb hl hr _ _ Z=>exact .cons t _ h hb hl Z
def Dv(base:Nat)(V l:List ByteArray)(ts:List ST)(w:World)(e:Ending)(w':World):Prop:=∃(A:OA) (c:Nat) (l':List ByteArray),e=.returned (.slice A l'.length c)/\pS base w' A c l'/\Nm V l l'/\nK l' ts/\Gt base [9] w w'
def D2(base:Nat)(V:List ByteArray)(D:Nat):Prop:=∀(N:Nat) (A:OA) (n c:Nat) (l:List ByteArray) (B:OA) (m d:Nat) (ts:List ST) (p:Nat->Prop) (w:World),N<=1000->l.length=n->ts.length=m->m<=100000->l.Nodup->(∀x∈l,x∈V)->lR V D N ts->pS base w A c l->base<=w.heap.size->Sl w 229 8 B m (ts.flatMap ST.E)->(∀u∈ts,jK p w u)->
 Calls prog 174 #[.slice A n c,.slice B m d] w (Dv base V l ts w)
open Classical in
theorem ln:∀(l m:List ByteArray),l.Nodup->(∀x∈l,x∈m)->l.length<=m.length
 |[],_,_,_=>by simp
 |x::l,m,hn,hs=>by
  have hx:=hs x s_;have q:=GC.1 hn;obtain⟨m1,m2,rfl⟩:=List.append_of_mem hx
  have:=ln l (m1++m2) q.2 λy hy=>by
   have ao:y≠x:=by rintro rfl;exact q.1 hy
   have:=hs y (by simp[hy])
   simp only[X_,L_]at this |-
   rcases this with h|h|h
   .exact .inl h
   .exact EK h ao
   .exact .inr h
  simp only[Z_,J_]at this |-;omega
theorem Gt.De{a w:World}{M:List Nat}(h:Gr M a w)(z:∀g∈M,base<=g/\∃cs t,Bk a g t cs/\t∈T):Gt base T a w:=
 ⟨h.os,h.tape,h.output,h.size,λi hi hp=>h.block i hi λhm=>by
   obtain⟨h1,cs,t,h2,h3⟩:=z i hm
   rcases hp with hp|hp
   .omega
   .exact hp _ _ _ h2 h3⟩
theorem mP.nm{k:Int}{x f:ByteArray}{L:Bool}(h:mP V k x f n o m B L)(hn:(prt k).name=true):x∈V:=by
 cases h with
 |uU x h|v2 x h|vZ x h|zP x h|Bh x h|ask x h|red x h=>assumption
 |DJ|C7|DI|ret|DH|DN=>simp[prt]at hn
theorem mP.kr{k:Int}{x f:ByteArray}{L:Bool}(h:mP V k x f n o m B L):1<=k/\k<=12:=by cases h<;>decide
theorem B0(base:Nat)(V:List ByteArray)(bD:V.length<=1000)(D:Nat)(HD:∀r,D=r+1->D2 base V r):D2 base V D:=by
 intro N A n c l B m d ts p w ae hn hm cC s L bO aw br a7 kh
 refine ia λQ ak=>?_
 subst hn;have HM:=h_ hm;have W:=a7;have bi:=h_ W;have ai:lR V D N (ts.drop 0):=bO;clear hm a7 W
 go_enter func174,ntmps174
 go_wp2
 go_loopw [0,9] (λov ap w'=>∃(k:Nat) (A':OA) (c':Nat) (l':List ByteArray) (a b:Nat),k<=m/\ap=i_ k/\ov=.slice A' l'.length c'/\pS base w' A' c' l'/\Nm V l l'/\nK l' (ts.take k)/\Gt base [9] w w'/\a+b=N/\lR V D b (ts.drop k)) (λ_ ap _=>m-(intOf ap).toNat)
 case atStart=>exact⟨0,A,c,l,0,N,O_ _,gn,gn,aw,.refl _ _,.nil,.refl _ _ _,o_,ai⟩
 case round=>
  obtain⟨k,A1,c1,l1,a1,b1,hk,rfl,rfl,bJ,bN,bM,F,hab,bS⟩:=hrel;have o:=h_ hab;clear ai hab
  by_cases ag:k<m
  .have az:k<ts.length:=ov HM.out;obtain⟨bB,off,hA,z0,aM,aV,z3,z4,z5,cg,cQ⟩:=ST.at_ (bi.out.gt F d_) HM.out az;subst hA;rw[R_ az]at bS;obtain⟨G,b2,bU,bz,cj⟩:=bS.split;have q:=h_ bU;have aq:=(kh _ (N_ az)).gt F d_ d_;obtain⟨t,ht⟩:=nm_ (ts[k]);have bL:=h_ ht;rw[<-ht]at z0 aM aV z3 z4 z5 cg cQ bz aq;clear bS bU ht;obtain⟨r,nb,nl,aN,aU,hD,bt,bw,_,_,_,hb,hl⟩:=bz.one;have a6:=HD r hD;obtain⟨_,_,M,am,cz,X⟩:=aq.parts;obtain⟨bV,aj⟩:=bw.kr;have d2:=bw.nm;have hbl:=hb.len;have aH:=hl.len
   have ce:nb<=1000/\nl<=1000:=by
    have:=o.out
    have:=q.out
    have:=ae
    omega
   have v:=bN.nd s
   have J:=λx hx=>(bN.new x hx).elim (L x) id
   have hl1:=G_ (ln l1 V v J) bD;clear hD bt bw bz;obtain⟨R,gx,bW,aE,af,a8⟩:=box1 wr 229 #[i_ t.h6,.string t.name,.string t.fn,i_ t.n,i_ t.op,.slice t.AE t.es.length t.cE,.slice t.AB t.bs.length t.cB,.slice t.AL t.ls.length t.cL];obtain⟨U,ad,ar,aL,ao,aP,z,y⟩:=a8.i0;have f:=iK bJ af;replace M:=Sl.hG M af
   replace am:=λu hu=>(am u hu).hG af
   replace cz:=Sl.hG cz af
   replace X:=λu hu=>(X u hu).hG af
   have bR:=F.trans (.jC af:Gt base [9] wr R);have bo:=G_ br ((F.trans (.jC af:Gt base [9] wr R)).size);have aW:=h_ d2;clear d2
   go_upto_if 15 with(go_at_call 200;refine(vF _ _ bV aj).mono ?_;rintro e w2⟨rfl,rfl⟩)
   go_cut [0] (λov aX=>∃(aG:OA) (aC:Nat) (du:List ByteArray),ov=.slice aG du.length aC/\pS base aX aG aC du/\Nm V l1 du/\((prt t.h6).name=true->t.name∈du)/\Gt base [9] R aX)
   case first=>
    cases hp:(prt t.h6).name with
    |true=>
     have aK:=h_ (ut base A1 _ c1 l1 t.name R rfl f o_ bo);have aR:=h_ hp;clear hp
     go_wp2_with (go_at_call 173;refine aK.out.mono ?_;rintro e w2⟨aG,aC,rfl,i,S⟩)
     go_meet;refine⟨aG,aC,_,rfl,i,.add (aW.out aR.out),λ_=>wj _ _,(.De S λg hg=>?_)⟩;obtain⟨h1,cs,h2⟩:=qy f (jJ.1 hg);exact⟨h1,cs,_,h2,s_⟩
    |false=>
     have aR:=h_ hp;clear hp;go_wp2;go_meet;exact⟨A1,c1,l1,rfl,f,.refl _ _,λe=>EK (e.symm.trans aR.out) d_,.refl _ _ _⟩
   case rest=>
    obtain⟨aG,aC,du,rfl,i,dE,bX,S⟩:=hcut;have O:=dE.nd v
    have P:=λx hx=>(dE.new x hx).elim (J x) id
    replace a8:=a8.gt S d_;clear U ad ar aL ao aP z y;obtain⟨U,ad,ar,aL,ao,aP,z,y⟩:=a8.i0
    go_upto_region 6 with fail
    refine hQ (λw'=>w'.cell? (c_ gx 6)=some (.slice t.AB t.bs.length t.cB)/\w'.cell? (c_ gx 7)=some (.slice t.AL t.ls.length t.cL)) 7 k_ ?_
    refine nt ⟨z,y⟩ λC=>?_
    refine iP 0 C ?_;refine iP 1 C ?_;refine iP 2 C ?_;refine iP 4 C ?_;refine iP 5 C ?_
    refine h4 3 λK H=>?_
    go_simp
    go_at_call 174
    refine(a6 nb aG _ aC du t.AB _ t.cB t.bs p _ ce.1 rfl rfl o_ O P hb (iK i (F_ [] _).drew) (G_ bo S.size) (Sl.hG (M.gt S d_) (F_ [] _).drew) (λu hu=>((am u hu).gt S d_ d_).hG (F_ [] _).drew)).mono ?_;rintro e T⟨aO,c4,j,rfl,aD,au,b6,Z⟩;have I:=S.trans ((Gt.jC (F_ [] wc).drew).trans Z);have bK:=a8.gt ((Gt.jC (F_ [] wc).drew).trans Z) d_;have aB:=au.nd O
    have aF:=λx hx=>(au.new x hx).elim (P x) id
    clear C
    refine h5 H ⟨bK.f_ 6,bK.f_ 7⟩ λC=>?_
    clear H K
    refine h4 6 λK H=>?_
    go_simp
    go_at_call 174
    refine(a6 nl aO _ c4 j t.AL _ t.cL t.ls p _ ce.2 rfl rfl o_ aB aF hl aD (G_ bo I.size) (cz.gt I d_) (λu hu=>((X u hu).gt I d_ d_))).mono ?_;rintro e Y⟨aY,c5,dB,rfl,bu,ay,E,ah⟩;have ax:=I.trans ah;have b4:=bK.gt ah d_;clear C
    refine h5 H ⟨b4.f_ 6,b4.f_ 7⟩ λC=>?_
    clear H K
    refine h4 7 λK H=>?_
    go_simp;refine H.out _ _ (λh=>EK h d_) ?_;clear H K C;refine hN k_ ?_ _;go_wp2;go_roundw
    case rel=>
     have av:=(dE.trans au).trans ay;refine⟨k+1,aY,c5,dB,a1+G,b2,o_,gn,gn,bu,bN.trans av,?_,bR.trans ax,by have:=o.out;have:=q.out;omega,cj⟩;rw[W_ az,<-bL.out];exact(bM.mono av.sub).append (.cons t [] (λe=>ay.sub _ (au.sub _ (bX e))) (b6.mono ay.sub) E .nil)
    case measure=>exact mz
  .go_wp2;rw[ak.out];refine⟨A1,c1,l1,rfl,bJ,bN,?_,F⟩;have e:ts.take k=ts:=EI (ov HM.out);rw[e]at bM;exact bM
theorem zw(base:Nat)(V:List ByteArray)(bD:V.length<=1000):∀D,D2 base V D
 |0=>B0 base V bD 0 λr h=>by omega
 |D+1=>B0 base V bD (D+1) λr h=>by
  have e:r=D:=o_;subst e;exact zw base V bD r
def Dw(V ps:List ByteArray)(bs:List ST)(w:World)(e:Ending)(w':World):Prop:=∃(A:OA) (c:Nat) (l:List ByteArray),e=.returned (.slice A l.length c)/\Bs w' A l/\l.Nodup/\(∀x∈l,x∈V)/\(∀x∈ps,x∈l)/\nK l bs/\Gr [] w w'
structure BZ(q:Nat->Prop)(w:World)(f:FT):Prop where
 hp:Bs w f.AP f.ps
 u1:f.ps.length<=f.cP
 hb:Sl w 229 8 f.A f.bs.length (f.bs.flatMap ST.E)
 hs:∀t∈f.bs,jK q w t
theorem BZ.hG{w:World}{f:FT}(h:BZ q w f)(hg:Gr [] w w'):BZ q w' f:=⟨Sl.hG h.hp hg,h.u1,Sl.hG h.hb hg,λt ht=>(h.hs t ht).hG hg⟩
theorem BZ.gt{w:World}{f:FT}(h:BZ q w f)(hg:Gt base T w w')(h1:9∉T)(h2:226∉T)(h3:229∉T):BZ q w' f:=⟨Sl.gt h.hp hg h1,h.u1,Sl.gt h.hb hg h3,λt ht=>(h.hs t ht).gt hg h2 h3⟩
def FT.g_(f:FT):Array Value:=#[.string f.name,.slice f.AP f.ps.length f.cP,.slice f.A f.bs.length f.c]
theorem sz(V:List ByteArray)(bD:V.length<=1000)(D N:Nat)(f:FT)(q:Nat->Prop)(w:World)(aj:BZ q w f)(bO:lR V D N f.bs)(bt:N<=1000)(l:∀x∈f.ps,x∈V)(bV:f.ps.length<=1000):
 Calls prog 135 #[.agg f.g_] w (Dw V f.ps f.bs w):=by
 refine ia λQ ak=>?_
 have hbl:=bO.len;obtain⟨W,gx,aT,hx,hg,hB⟩:=box1 w 213 f.g_;replace hB:Bk W gx 213 #[.string f.name,.slice f.AP f.ps.length f.cP,.slice f.A f.bs.length f.c]:=hB;have ad:W.cell? (c_ gx 1)=some (.slice f.AP f.ps.length f.cP):=hB.f_ 1;have af:=h_ (aj.hG hg);obtain⟨n,hn⟩:=mn_ f.ps.length;have aW:=h_ hn;rw[hn]at ad bV;clear hn aj;obtain⟨base,br⟩:=nm_ W.heap.size;have I:base<=W.heap.size:=o_;have c7:=h_ br;clear br
 go_enter func135,ntmps135
 go_wp2;clear ad aT hx
 go_loopw [3,9] (λov ap w'=>∃(k:Nat) (A':OA) (c':Nat) (l':List ByteArray),k<=n/\ap=i_ k/\ov=.slice A' l'.length c'/\pS base w' A' c' l'/\Nm V [] l'/\(∀x∈f.ps.take k,x∈l')/\Gt base [9] W w') (λ_ ap _=>n-(intOf ap).toNat)
 case atStart=>exact⟨0,none,0,[],O_ _,gn,rfl,iV _ _ _ _,.refl _ _,s_,.refl _ _ _⟩
 case round=>
  obtain⟨k,A1,c1,l1,hk,rfl,rfl,bJ,bN,bM,F⟩:=hrel;have v:=bN.nd .nil
  have J:=λx hx=>(bN.new x hx).elim (λh=>by cases h) id
  have hl1:=G_ (ln l1 V v J) bD;have a8:=G_ I F.size
  by_cases ag:k<n
  .have az:k<f.ps.length:=ov aW.out;obtain⟨b,off,hA,hc⟩:=Sl.f_ (Sl.hG af.out.hp (F.gr (by rw[c7.out];exact H_ _))) o_;have ar:=hc k (.string f.ps[k]) (by rw[E7,M_ az];rfl);have d:=l _ (N_ az);obtain⟨x,hx⟩:=nm_ (f.ps[k]);have bl:=h_ hx;have aK:=h_ (ut base A1 _ c1 l1 x wr rfl bJ o_ a8);have HA:=h_ hA;rw[<-hx]at ar d;clear hx hc;rw[hA];clear hA
   go_wp2_with (go_at_call 173;refine aK.out.mono ?_;rintro e w2⟨aG,aC,rfl,i,S⟩)
   go_roundw
   case rel=>
    refine⟨k+1,aG,aC,_,o_,gn,gn,i,bN.trans (.add d),λy hy=>?_,F.trans (.De S λg hg=>?_)⟩
    .rw[W_ az,<-bl.out]at hy
     rcases X_.1 hy with hy|hy
     .exact(Nm.add (V:=V) d).sub _ (bM y hy)
     .have:y=x:=zu hy
      subst this;exact wj _ _
    .obtain⟨h1,cs,h2⟩:=qy bJ (jJ.1 hg);exact⟨h1,cs,_,h2,s_⟩
   case measure=>exact mz
  .have bz:=hB.gt F d_;have ar:wr.cell? (c_ gx 2)=some (.slice f.A f.bs.length f.c):=bz.f_ 2;have aO:=h_ (af.out.hG (F.gr (by rw[c7.out];exact H_ _)));have aK:=h_ (zw base V bD D N A1 _ c1 l1 f.A _ f.c f.bs q wr bt rfl rfl o_ v J bO bJ a8 aO.out.hb aO.out.hs)
   go_wp2_with (go_at_call 174;refine aK.out.mono ?_;rintro e w2⟨aG,aC,du,rfl,i,dE,cM,S⟩)
   rw[ak.out];have a:=bN.trans dE;refine⟨aG,aC,du,rfl,i.bs,a.nd .nil,λx hx=>(a.new x hx).elim (λh=>by cases h) id,λx hx=>dE.sub _ (bM x ?_),cM,hg.trans ((F.trans S).gr (by rw[c7.out];exact H_ _))⟩;rw[EI (ov aW.out)];exact hx
structure PG(V:List ByteArray)(q:Nat->Prop)(w:World)(PA:OA)(fs:List FT)(Ns:List Nat):Prop where
 hfs:A6 w PA fs
 len:fs.length=3
 rd:∀f∈fs,BZ q w f
 nm:∀f∈fs,mg f.name/\(∀x∈f.ps,x∈V)/\f.ps.length<=2
 nl:Ns.length=3
 sg:∀(k:Nat) (h:k<fs.length) (h2:k<Ns.length),lR V 5 Ns[k] fs[k].bs
 sum:Ns.sum<=64
theorem PG.hG{w:World}{fs:List FT}{Ns:List Nat}(h:PG V q w PA fs Ns)(hg:Gr [] w w'):PG V q w' PA fs Ns:=
 ⟨Sl.hG h.hfs hg,h.len,λf hf=>(h.rd f hf).hG hg,h.nm,h.nl,h.sg,h.sum⟩
theorem pa(Ns:List Nat)(k:Nat)(h:k<Ns.length):(Ns.take (k+1)).sum=(Ns.take k).sum+Ns[k]/\(Ns.take (k+1)).sum<=Ns.sum:=by
 have h1:(Ns.take (k+1)).sum=(Ns.take k).sum+Ns[k]:=by rw[W_ h,List.sum_append];simp
 refine⟨h1,?_⟩;have h2:=ED List.sum (FW (k+1) Ns);rw[List.sum_append]at h2;omega
theorem wQ(aZ:∀s∈V,mg s)(q:Nat->Prop)(PA:OA)(c:Nat)(fs:List FT)(Ns:List Nat)(w:World)(hP:PG V q w PA fs Ns):
 Calls prog 169 #[.agg #[.slice PA 3 c]] w (uW (i_ 0) w):=by
 refine ia λQ ak=>?_
 obtain⟨W,gx,aT,hx,hg,hB⟩:=box1 w 150 #[.slice PA 3 c];have U:W.cell? (c_ gx 0)=some (.slice PA 3 c):=hB.f_ 0;have aR:=h_ (hP.hG hg);clear hP
 go_enter func169,ntmps169
 go_wp2;have bP:=h_ aT;clear U aT hx
 go_loopw [3,4,25] (λo m ap w'=>∃k:Nat,k<=3/\ap=i_ k/\o=.bool false/\m=i_ ((Ns.take k).sum:Nat)/\Gr [] W w') (λ_ _ ap _=>3-(intOf ap).toNat)
 case atStart=>exact⟨0,o_,gn,rfl,s_,F_ _ _⟩
 case round=>
  obtain⟨k,hk,rfl,rfl,rfl,F⟩:=hrel
  by_cases ag:k<3
  .have az:k<fs.length:=ov aR.out.len;have bS:k<Ns.length:=ov aR.out.nl;obtain⟨b,off,hA,z0,aM,aV⟩:=A6.at_ (aR.out.hG F).hfs az;subst hA;have y:=(aR.out.hG F).rd _ (N_ az);obtain⟨hn1,bC,bX⟩:=aR.out.nm _ (N_ az);have bO:=aR.out.sg k az bS;obtain⟨d2,eH⟩:=pa Ns k bS;have cF:=aR.out.sum;have p:=h_ hn1;have bn:=h_ bC;have cX:=h_ d2;have h:(Ns.take k).sum+Ns[k]<=64:=o_;obtain⟨f,hf⟩:=nm_ (fs[k]);obtain⟨M,z⟩:=nm_ (Ns[k]);have HM:=h_ z;rw[<-hf]at z0 aM aV y p bn bX bO;rw[<-z]at bO h;obtain⟨a,ha⟩:=nm_ ((Ns.take k).sum);have l:=h_ ha;rw[<-ha]at h |-;clear d2 eH cF hn1 bC hf z ha;have r:=h_ y;have c6:=h_ bO;clear y bO;obtain⟨R,a2,bW,hg1,af,E⟩:=box1 wr 213 #[.string f.name,.slice f.AP f.ps.length f.cP,.slice f.A f.bs.length f.c];obtain⟨U,ad,ar⟩:=E.nF
   go_upto_region 9 with(go_at_call 197;refine(nB _ _ p.out).mono ?_;rintro e w2⟨rfl,J⟩;replace E:=E.hG J;clear U ad ar;obtain⟨U,ad,ar⟩:=E.nF)
   have bR:=af.trans J;clear J U ad ar
   go_loopw [36] (λap w'=>∃j:Nat,j<=f.ps.length/\ap=i_ j/\Gr [] w2 w') (λap _=>f.ps.length-(intOf ap).toNat)
   case atStart=>exact⟨0,o_,gn,F_ _ _⟩
   case round=>
    obtain⟨j,hj,rfl,A⟩:=hrel;have t:=bR.trans A;obtain⟨n,hn⟩:=nm_ f.ps.length;have u:=h_ hn;have N:n<=2:=o_
    by_cases bp:j<f.ps.length
    .obtain⟨b2,i,B,hc⟩:=Sl.f_ (r.out.hG t).hp o_;have ar:=hc j (.string f.ps[j]) (by rw[E7,M_ bp];rfl);have d:=bn.out _ (N_ bp);have g:=h_ (aZ _ d);generalize f.ps[j]=x at ar g;rw[B]at*;clear hc hn B d
     go_wp2_with (go_at_call 197;refine(nB _ _ g.out).mono ?_;rintro e T⟨rfl,Z⟩)
     exact K6
    .rw[<-hn]at*;clear hn;obtain⟨U,ad,ar⟩:=(E.hG A).nF;have aK:=h_ (Aj aZ 5 o_ M f.A _ f.c f.bs q _ o_ rfl c6.out (r.out.hG t).hb (r.out.hG t).hs)
     go_wp2_with fail
     go_at_call 198
     refine aK.out.mono ?_;rintro e T⟨dp,ai,bg,rfl,Z⟩;obtain⟨z0,aM,aV⟩:=(E.hG (A.trans Z)).nF;have cO:dp<=5:=bg;clear U ad ar bg;go_wp2;go_roundw
     case rel=>
      refine⟨k+1,o_,gn,by rw[FH o_],?_,(F.trans t).trans Z⟩;rw[cX.out,<-l.out,<-HM.out];go_num
     case measure=>exact mz
  .have b0:k=3:=o_
   have cF:(Ns.take k).sum<=64:=by
    rw[EI (ov aR.out.nl)];exact aR.out.sum
   generalize (Ns.take k).sum=a at cF |-;exact Lv
def Dy(V:List ByteArray)(w:World)(e:Ending)(w':World):Prop:=∃(A:OA) (c:Nat) (l:List ByteArray),e=.returned (.slice A l.length c)/\Bs w' A l/\(∀x∈l,x∈V)/\l.length<=V.length/\(∀x off,A=some (c_ x off)->0<l.length->w.heap.size<=x)/\Gr [] w w'
def D7(V:List ByteArray)(p:Nat->Prop)(t:ET):Prop:=∀w:World,kk p w t->Calls prog 199 #[.agg t.g_] w (Dy V w)
theorem ub(V:List ByteArray)(bD:V.length<=1000)(p:Nat->Prop)(k n:Int)(s:ByteArray)(o:Int)(A:OA)(c:Nat)(l:List ET)(hk:k=3->s∈V)(c9:l.length<=2)(hl:∀u∈l,D7 V p u):D7 V p (.mk k n s o A c l):=by
 intro w hE
 refine ia λQ ak=>?_
 obtain⟨i2,aE,bP,ck,ct⟩:=info_parts infoStr
 have a7:Sl w 226 5 A l.length (l.flatMap ET.E):=by cases hE with|mk t h _ _ _=>exact h
 have q:∀u∈l,kk p w u:=by cases hE with|mk t _ _ _ h=>exact h
 obtain⟨m,hm⟩:=mn_ l.length;obtain⟨W,gx,aT,hx,hg,hB⟩:=box1 w 226 (ET.mk k n s o A c l).g_
 replace hB:Bk W gx 226 #[i_ k,i_ n,.string s,i_ o,.slice A m c]:=by rw[<-hm];exact hB
 rw[hm]at a7 c9;obtain⟨U,ad,ar,aL,ao⟩:=hB.cells5;have HM:=h_ hm;have bi:=h_ (a7.hG hg);have cO:=h_ (λu hu=>(q u hu).hG hg:∀u∈l,kk p W u);clear hm a7 q hE;obtain⟨base,br⟩:=nm_ W.heap.size;have I:base<=W.heap.size:=o_;have de:w.heap.size<=base:=ov hg.size;have c7:=h_ br;clear br
 go_enter func199,ntmps199
 go_upto_region 2 with fail
 go_upto_if 10 with fail
 go_cut [3] (λov aX=>∃(A1:OA) (c1:Nat) (l1:List ByteArray),ov=.slice A1 l1.length c1/\pS base aX A1 c1 l1/\Nm V [] l1/\Gr [] W aX)
 case first=>
  by_cases b0:k=3
  .have be:(k==3)=true:=by simp[b0]
   have bG:=h_ (hk b0);clear hk b0;obtain⟨aH,P,bC,bK,bR,bz⟩:=box1 W 9 #[.string s];have r:aH.ownsRow base 9 1 (n_) 0 []:=iV _ _ _ _;have C:Sl aH 9 1 (j_ P) 1 ([s].map Value.string):=jj (n:=1) (s:=1) bz rfl;have bo:=G_ I bR.size
   go_wp2_with (at_builtin;refine j4 rfl _ _ _ rfl base 9 i2 _ 1 16 underlying207 aE bP ck ct rfl d_ d_ none 0 0 _ rfl r _ 1 1 _ rfl C (sI _) o_ bo ?_;intro aG aC ae b5 bw _)
   go_meet;refine⟨aG,aC,[s],rfl,b5,⟨s_,λx hx=>?_,λ_=>by simp⟩,?_⟩
   .have:x=s:=zu hx
    subst this;exact .inr bG.out
   .exact bR.trans ((Gr.iX bw).mono (by simp[oA,Value.ownBlock]))
  .have be:(k==3)=false:=by simp[b0]
   clear hk b0;go_wp2;go_meet;exact⟨none,0,[],rfl,iV _ _ _ _,.refl _ _,F_ _ _⟩
 case rest=>
  obtain⟨A1,c1,l1,rfl,bJ,bN,hg1⟩:=hcut;have E:=hB.hG hg1;clear U ad ar aL ao;obtain⟨U,ad,ar,aL,ao⟩:=E.cells5
  go_wp2_with fail
  have bg:=h_ bJ;have b4:=h_ bN
  go_loopw [3,19] (λov ap w'=>∃(i:Nat) (A':OA) (c':Nat) (l':List ByteArray),i<=m/\ap=i_ i/\ov=.slice A' l'.length c'/\pS base w' A' c' l'/\Nm V [] l'/\Gt base [9] W w') (λ_ ap _=>m-(intOf ap).toNat)
  case atStart=>exact⟨0,A1,c1,l1,o_,gn,rfl,bg.out,b4.out,.jC hg1⟩
  case round=>
   obtain⟨i,av,ai,l2,hi,rfl,rfl,f,cA,F⟩:=hrel
   by_cases ag:i<m
   .have aS:i<l.length:=ov HM.out;obtain⟨b,off,hA,z0,aM,aV,z3,z4⟩:=ET.at_ (by rw[HM.out];exact bi.out.gt F d_) aS;have K:=hl l[i] (N_ aS);have hu:=(cO.out _ (N_ aS)).gt F d_;have HA:=h_ hA;generalize l[i]=u at z0 aM aV z3 z4 K hu;obtain⟨R,a2,bW,bA,af,aZ⟩:=box1 wr 226 #[i_ u.h6,i_ u.n,.string u.name,i_ u.op,.slice u.A u.l.length u.c];obtain⟨aQ,bj,P,aj,O⟩:=aZ.cells5;have aK:=h_ (K R (hu.hG af));rw[hA]at*;clear K hu hA
    go_wp2_with fail
    go_at_call 199
    refine aK.out.mono ?_;rintro e w2⟨aY,c5,dB,rfl,a6,aN,am,a8,ah⟩;have D:=af.trans ah;have bu:=iK f D;have bH:=G_ I (F.trans (.jC D)).size
    have az:∀x off,aY=some (c_ x off)->0<dB.length->(Value.slice av l2.length ai).ownBlock≠some x:=λx off h1 h2 h3=>by
     have au:=(ku f h3).2;have aq:=a8 x off h1 h2;have aU:=af.size;omega
    have aW:dB.length<=1000:=o_;obtain⟨dj,J⟩:=mn_ dB.length;have S:=h_ J;rw[J]at aW;have aR:=h_ az;have aB:=h_ a6;have aD:=h_ bu;clear J az a6 f aQ bj P aj O z0 aM aV z3 z4 bu;rw[S.out]
    go_wp2_with fail
    go_loopw [3,26] (λov ap w'=>∃(j:Nat) (A':OA) (c':Nat) (l':List ByteArray),j<=dj/\ap=i_ j/\ov=.slice A' l'.length c'/\pS base w' A' c' l'/\Nm V l2 l'/\Gt base [9] w2 w'/\Bs w' aY dB/\(∀x off,aY=some (c_ x off)->0<dB.length->(Value.slice A' l'.length c').ownBlock≠some x)) (λ_ ap _=>dj-(intOf ap).toNat)
    case atStart=>exact⟨0,av,ai,l2,o_,gn,gn,aD.out,.refl _ _,.refl _ _ _,aB.out,aR.out⟩
    case round=>
     obtain⟨j,aI,aF,bL,hj,rfl,rfl,a,H,bT,v,M⟩:=hrel;have G:=cA.trans H;have bt:=G.nd .nil
     have bB:=λx hx=>(G.new x hx).elim (λh=>by cases h) id
     have e1:=G_ (ln bL V bt bB) bD;have aP:=G_ bH bT.size;have B:=h_ M;clear M
     by_cases bp:j<dj
     .have Y:j<dB.length:=ov S.out;obtain⟨bX,bF,aO,aw⟩:=Sl.f_ v o_;have y:=aw j (.string dB[j]) (by rw[E7,M_ Y];rfl);have d:=aN _ (N_ Y);subst aO;generalize dB[j]=b7 at y d;have bM:=h_ (oq aI _ aF bL b7 wr rfl a.bs o_);have g:=h_ d;have L:=h_ v;clear aw d v
      cases ay:hasB bL b7 with
      |true=>
       rw[ay]at bM;clear ay
       go_wp2_with (go_at_call 171;refine bM.out.mono ?_;rintro e T⟨rfl,rfl⟩)
       go_roundw
       case rel=>exact⟨j+1,aI,aF,bL,o_,gn,gn,a,H,bT,L.out,B.out⟩
       case measure=>exact mz
      |false=>
       rw[ay]at bM
       have da:qO bL b7=bL++[b7]:=by unfold qO;rw[Q_ (by rw[ay];decide)]
       have z:=h_ da;clear ay da;obtain⟨bl,bI,eT,eV,N,Z⟩:=box1 wr 9 #[.string b7];have cj:=iK a N;have bE:Sl bl 9 1 (j_ bI) 1 ([b7].map Value.string):=jj (n:=1) (s:=1) Z rfl;have eW:=G_ aP N.size
       go_wp2_with (first|(go_at_call 171;refine bM.out.mono ?_;rintro e T⟨rfl,rfl⟩)|(at_builtin;refine j4 rfl _ _ _ rfl base 9 i2 _ 1 16 underlying207 aE bP ck ct rfl d_ d_ aI bL.length aF _ rfl cj _ 1 1 _ rfl bE (sI _) o_ eW ?_;intro cY cN X db dK eB))
       go_roundw
       case rel=>
        have cS:pS base X cY cN (qO bL b7):=by
         unfold pS;rw[z.out,J_,EL];exact db
        refine⟨j+1,cY,cN,qO bL b7,o_,gn,by rw[z.out,J_];rfl,cS,H.trans (.add g.out),(bT.trans (.jC N)).trans (.app dK cj s_),?_,?_⟩
        .have aJ:Bs bl (some (c_ bX bF)) dB:=Sl.hG L.out N
         exact Sl.rI aJ λhn b o bn hb=>dK.block b hb λhe=>B.out b o bn hn he.symm
        .intro x off h1 h2;rw[z.out,J_]
         have bO:=by
          have aJ:Bs bl (some (c_ bX bF)) dB:=Sl.hG L.out N;unfold Bs at aJ;rw[h1]at aJ;exact aJ.lt h2
         rcases eB with ho|ho
         .exact λh3=>B.out x off h1 h2 (ho.symm.trans h3)
         .exact λh3=>by
           have:some bl.heap.size=some x:=ho.symm.trans h3
           injection this;omega
       case measure=>exact mz
     .go_wp2;go_roundw
      case rel=>exact⟨i+1,aI,aF,bL,o_,gn,gn,a,G,(F.trans (.jC D)).trans bT⟩
      case measure=>exact mz
   .have bq:=cA.nd .nil
    have ax:=λx hx=>(cA.new x hx).elim (λh=>by cases h) id
    have ca:=ln l2 V bq ax;go_wp2;rw[ak.out];refine⟨av,ai,l2,rfl,f.bs,ax,ca,λx off hA _=>?_,hg.trans (F.gr (by rw[c7.out];exact H_ _))⟩;subst hA
    have:=(ku f (x:=x) rfl).1
    omega
theorem Cy(bD:V.length<=1000)(p:Nat->Prop)(d:Nat)(t:ET)(h:EG V d t):D7 V p t:=by
 induction h with
 |num d n _ _=>exact ub V bD p 1 n _ 0 none 0 [] (λh=>EK h d_) s_ (λu hu=>by cases hu)
 |var d s hs=>exact ub V bD p 3 0 s 0 none 0 [] (λ_=>hs) s_ (λu hu=>by cases hu)
 |new d n _ _=>exact ub V bD p 6 n _ 0 none 0 [] (λh=>EK h d_) s_ (λu hu=>by cases hu)
 |field d n A s _ _ hs=>
  refine ub V bD p 4 n _ 0 A 1 [jA s] (λh=>EK h d_) s_ (λu hu=>?_)
  have:u=jA s:=zu hu
  subst this;exact ub V bD p 3 0 s 0 none 0 [] (λ_=>hs) s_ (λu hu=>by cases hu)
 |bin d o A a b _ _ _ _ f c=>
  refine ub V bD p 5 0 _ o A 2 [a,b] (λh=>EK h d_) s_ (λu hu=>?_)
  rcases L_.1 hu with rfl|hu
  .exact f
  .have:u=b:=zu hu
   subst this;exact c
structure PC(w:World)(PA:OA)(fs:List FT):Prop where
 hfs:A6 w PA fs
 len:fs.length=3
 i1:tF pQ fs 0=1
 i2:tF pm fs 0=2
 l1:∀h:1<fs.length,fs[1].ps.length=2
 l2:∀h:2<fs.length,fs[2].ps.length=1
theorem PC.hG{w:World}{fs:List FT}(h:PC w PA fs)(hg:Gr [] w w'):PC w' PA fs:=⟨Sl.hG h.hfs hg,h.len,h.i1,h.i2,h.l1,h.l2⟩
theorem PC.pP{w:World}{fs:List FT}(h:PC w PA fs):∃b off A c A' c',PA=some (c_ b off)/\w.cell? (c_ b (off+3+1))=some (.slice A 2 c)/\w.cell? (c_ b (off+6+1))=some (.slice A' 1 c'):=by
 have hl:=h.len;obtain⟨b,off,hA,_,h1,_⟩:=h.hfs.at_ (k:=1) o_;obtain⟨b',z,f,_,h2,_⟩:=h.hfs.at_ (k:=2) o_;rw[hA]at f;injection f with f;injection f with aJ aG;subst aJ;subst aG;rw[h.l1 o_]at h1;rw[h.l2 o_]at h2;exact⟨b,off,_,_,_,_,hA,h1,h2⟩
theorem PC.idx{w:World}{fs:List FT}(h:PC w PA fs)(pc:Nat):Calls prog 170 #[.agg #[.slice PA 3 pc],.string pQ] w (λe w'=>e=.returned (i_ 1)/\Gr [] w w')/\Calls prog 170 #[.agg #[.slice PA 3 pc],.string pm] w (λe w'=>e=.returned (i_ 2)/\Gr [] w w'):=by
 have h1:=nD PA 3 pc fs pQ w h.len h.hfs o_;have h2:=nD PA 3 pc fs pm w h.len h.hfs o_;rw[h.i1]at h1;rw[h.i2]at h2;exact⟨h1,h2⟩
theorem mP.call{k:Int}{x f:ByteArray}{L:Bool}(h:mP V k x f n o m B L)(hk:k=3):(f=pQ/\m=2)∨(f=pm/\m=1):=by
 cases h<;>first|exact EK hk d_|exact .inl ⟨rfl,rfl⟩|exact .inr ⟨rfl,rfl⟩
theorem mP.DT{k:Int}{x f:ByteArray}{L:Bool}(h:mP V k x f n o m B L)(hk:k=12):rl o=true:=by
 cases h<;>first|exact EK hk d_|(rename_i ho;rcases ho with rfl|rfl|rfl<;>rfl)
def CV(V:List ByteArray)(D:Nat):Prop:=∀(N:Nat) (PA:OA) (pc:Nat) (fs:List FT) (VA:OA) (vc:Nat) (vs:List ByteArray) (A:OA) (n c:Nat) (ts:List ST) (p:Nat->Prop) (w:World),N<=1000->ts.length=n->lR V D N ts->(∀x∈V,x∈vs)->vs.length<=1000->Bs w VA vs->PC w PA fs->Sl w 229 8 A n (ts.flatMap ST.E)->(∀u∈ts,jK p w u)->
 Calls prog 172 #[.agg #[.slice PA 3 pc],.slice VA vs.length vc,.slice A n c] w (uW (i_ 0) w)
theorem zG(bD:V.length<=1000)(D:Nat)(HD:∀r,D=r+1->CV V r):CV V D:=by
 intro N PA pc fs VA vc vs A n c ts p w cS hn bO h aC hbs u1 a7 kh
 refine ia λQ ak=>?_
 obtain⟨W,gx,aT,hx,hg,E⟩:=box1 w 150 #[.slice PA 3 pc];have aW:=h_ hn;have bi:=h_ (a7.hG hg);have cO:=h_ (λu hu=>(kh u hu).hG hg:∀u∈ts,jK p W u);have c7:=h_ (Sl.hG hbs hg:Bs W VA vs);have s:=h_ (u1.hG hg);have cx:=h_ h;have c6:=h_ (show lR V D N (ts.drop 0) from bO);have ce:n<=1000:=ov bO.len;obtain⟨v9,cp⟩:=mn_ vs.length;rw[cp]at aC;have f:=h_ cp;clear hn a7 kh hbs u1 h bO;rw[cp];clear cp
 go_enter func172,ntmps172
 go_wp2;have bP:=h_ aT;clear aT hx
 go_loopw [18] (λap w'=>∃(k a b:Nat),k<=n/\ap=i_ k/\a+b=N/\lR V D b (ts.drop k)/\Gr [] W w') (λap _=>n-(intOf ap).toNat)
 case atStart=>exact⟨0,0,N,O_ _,gn,o_,c6.out,F_ _ _⟩
 case round=>
  obtain⟨k,a,b,hk,rfl,hab,bS,F⟩:=hrel;have o:=h_ hab;clear hab
  by_cases ag:k<n
  .have az:k<ts.length:=ov aW.out;obtain⟨bB,off,hA,z0,aM,aV,z3,z4,z5,cg,cQ⟩:=ST.at_ (bi.out.hG F) aW.out az;subst hA;rw[R_ az]at bS;obtain⟨G,b2,bU,bz,cj⟩:=bS.split;have q:=h_ bU;have aq:=(cO.out _ (N_ az)).hG F;generalize ts[k]=t at z0 aM aV z3 z4 z5 cg cQ bz aq;clear bS bU;obtain⟨r,nb,nl,aN,aU,hD,bt,bw,aR,bl,hes,hb,hl⟩:=bz.one;have a6:=HD r hD;have B:=h_ bt;have aD:=h_ cj;obtain⟨p1,l,M,am,cz,X⟩:=aq.parts
   have hbl:nb+nl+1<=1000:=by have:=o.out;have:=q.out;omega
   have cA:=bw.rng;have bT:=h_ bw.call;have b4:=h_ bw.DT;clear hD bt bw bz aR bl cj;obtain⟨R,bo,bW,hg1,af,a8⟩:=box1 wr 229 #[i_ t.h6,.string t.name,.string t.fn,i_ t.n,i_ t.op,.slice t.AE t.es.length t.cE,.slice t.AB t.bs.length t.cB,.slice t.AL t.ls.length t.cL];obtain⟨U,ad,ar,aL,ao,aP,z,y⟩:=a8.i0;have bK:=F.trans af;replace p1:=Sl.hG p1 af
   replace l:∀u∈t.es,kk p R u:=λu hu=>(l u hu).hG af
   replace M:=Sl.hG M af
   replace am:∀u∈t.bs,jK p R u:=λu hu=>(am u hu).hG af
   replace cz:=Sl.hG cz af
   replace X:∀u∈t.ls,jK p R u:=λu hu=>(X u hu).hG af
   have bG:=h_ p1;obtain⟨m,hm⟩:=mn_ t.es.length;rw[hm]at aP cA;have HM:=h_ hm;clear hm p1 af F
   go_upto_region 5 with fail
   clear bW hg1 U ad ar aL ao aP z y z0 aM aV z3 z4 z5 cg cQ
   go_loopw [25] (λap w'=>∃i:Nat,i<=m/\ap=i_ i/\Gr [] R w') (λap _=>m-(intOf ap).toNat)
   case atStart=>exact⟨0,o_,gn,F_ _ _⟩
   case round=>
    obtain⟨i,hi,rfl,af⟩:=hrel
    by_cases aS:i<m
    .have bn:i<t.es.length:=ov HM.out;obtain⟨ev,ca,ax,z0,aM,aV,z3,z4⟩:=ET.at_ (Sl.hG bG.out af) bn;have K:=Cy bD p 2 t.es[i] (hes _ (N_ bn));have hu:=(l _ (N_ bn)).hG af;generalize t.es[i]=u at z0 aM aV z3 z4 K hu;obtain⟨aH,a2,bC,J,bR,aZ⟩:=box1 wr 226 #[i_ u.h6,i_ u.n,.string u.name,i_ u.op,.slice u.A u.l.length u.c];obtain⟨aQ,bj,P,aj,O⟩:=aZ.cells5;have aK:=h_ (K aH (hu.hG bR));rw[ax];clear K hu ax
     go_wp2_with fail
     go_at_call 199
     refine aK.out.mono ?_;rintro e ae⟨aI,aF,bL,rfl,v,bg,b5,_,aB⟩;have dU:=(af.trans bR).trans aB;have L:=h_ v;obtain⟨d5,bq⟩:=mn_ bL.length;have bY:=h_ bq;have b9:d5<=1000:=o_;clear aQ bj P aj O z0 aM aV z3 z4 v b5;rw[bq];clear bq
     go_wp2_with fail
     go_loopw [32] (λap w'=>∃j:Nat,j<=d5/\ap=i_ j/\w'=ae) (λap _=>d5-(intOf ap).toNat)
     case atStart=>exact⟨0,o_,gn,rfl⟩
     case round=>
      obtain⟨j,hj,rfl,rfl⟩:=hrel
      by_cases bp:j<d5
      .have bN:j<bL.length:=ov bY.out;obtain⟨bX,bF,aO,aw⟩:=Sl.f_ L.out o_;have y:=aw j (.string bL[j]) (by rw[E7,M_ bN];rfl);have d:=cx.out _ (bg _ (N_ bN));generalize bL[j]=b7 at y d;have g:=oq VA _ vc vs b7 wr f.out (Sl.hG c7.out (bK.trans dU)) o_;rw[qH.2 d]at g;have bM:=h_ g;rw[aO];clear aw d aO g
       go_wp2_with (go_at_call 171;refine bM.out.mono ?_;rintro e T⟨rfl,rfl⟩)
       go_roundw
       case rel=>exact⟨j+1,o_,gn,trivial⟩
       case measure=>exact mz
      .go_wp2;go_roundw
       case rel=>exact⟨i+1,o_,gn,dU⟩
       case measure=>exact mz
    .have hg1:=bK.trans af;have aE:=a8.hG af;obtain⟨U,ad,ar,aL,ao,aP,z,y⟩:=aE.i0
     go_upto_if 44 with fail
     go_cut [13] (λap aX=>Gr [] wr aX)
     case first=>
      by_cases b0:t.h6=3
      .have be:(t.h6==3)=true:=by simp[b0]
       have bI:=bT.out b0;rw[HM.out]at bI;clear b0;have b6:wr.cell? (c_ gx 0)=some (.slice PA 3 pc):=(E.hG hg1).f_ 0
       rcases bI with⟨hf,dD⟩|⟨hf,dD⟩
       all_goals (subst dD)
       .rw[hf]at ar;have au:=h_ ((s.out.hG hg1).idx pc).1;exact H3
       .rw[hf]at ar;have au:=h_ ((s.out.hG hg1).idx pc).2;exact H3
      .have be:(t.h6==3)=false:=by simp[b0]
       clear b0;go_wp2;go_meet;exact F_ _ _
     case rest=>
      have bA:=af.trans hcut;have J:=hg1.trans hcut;have H:=aE.hG hcut;clear U ad ar aL ao aP z y hcut;obtain⟨U,ad,ar,aL,ao,aP,z,y⟩:=H.i0;have b6:wc.cell? (c_ gx 0)=some (.slice PA 3 pc):=(E.hG J).f_ 0
      by_cases ay:t.h6=12
      .have be:(t.h6==12)=true:=by simp[ay]
       have g:=ur t.op wc;rw[b4.out ay]at g;have bV:=h_ g;clear ay g
       go_upto_region 22 with(go_at_call 179;refine bV.out.mono ?_;rintro e ae⟨rfl,rfl⟩)
       exact Hz
      .have be:(t.h6==12)=false:=by simp[ay]
       clear ay
       go_upto_region 22 with fail
       exact Hz
  .exact Lv
theorem xK{V:List ByteArray}(bD:V.length<=1000):∀D,CV V D
 |0=>zG bD 0 λr h=>by omega
 |D+1=>zG bD (D+1) λr h2=>by
  have e:r=D:=o_;subst e;exact xK bD r
end Go.Proofs.YtenbhdilndfaeaaGreat
