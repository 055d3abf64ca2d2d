import Derived.Test.YtenbhdilndfaeaaGreatM14
import Derived.Test.YtenbhdilndfaeaaGreatM15
set_option maxRecDepth 100000
set_option maxHeartbeats 0
set_option linter.all false
namespace Go.Proofs.YtenbhdilndfaeaaGreat
open Go.RowKit Go.Proofs.Tryz
variable{G:Prop}{w:World}{k:Nat}(b:World)(gx:Nat)(x:X1)(i:In)
def Jw(h:G:=by
 go_wp2_with (go_at_call 165;((with_reducible refine(kX b gx aC (-1) B b4).mono ?_);unfold kR;rintro e ae⟨aw,rfl,W,F,G⟩;have MT:=U F;clear F))
 exact KQ):G:=h
def KD(h:G:=by
 clear C
 refine h4 MY m.c5 λC=>?_
 clear MY K;exact Lt):G:=h
def KQ(h:G:=by
 refine F6 (v:=.tuple #[Y 0,.bool false]) (H7 (t:=6) (u:=7) rfl _ _ _) rfl ?_;rw[HM.out];exact⟨aw,rfl,W,MT.out,aD.trans G⟩):G:=h
def Lt(h:G:=by
 refine hM k_ ?_ _;go_wp2;go_ret;exact⟨_,rfl,g.r5 T aU rfl rfl rfl rfl rfl rfl rfl,rfl,aD.it T⟩):G:=h
def Mv(h:G:=by
 go_wp2;go_ret;exact MB):G:=h
def Mx(h:G:=by
 have q:=l_ hs n;rw[k.out]at q;exact q.mono O):G:=h
def ME(h:G:=by
 go_wp2;go_ret;exact⟨x,rfl,g,rfl,aD⟩):G:=h
def kX(n:Int)(M:kw b w gx x)(f:x.p.e.sm 900000):
 Calls prog 165 #[q_ gx,Y n] w (kR (.tuple #[]) (jk x.p n) b gx w):=by
 go_enter func165,ntmps165
 go_wp2_with (go_at_call 117;((with_reducible refine(pl b gx x ⟨false,n⟩ M f).mono ?_);unfold kR;rintro h g⟨e,rfl,d,a,G⟩;have c:=U a;clear a))
 refine en_ ?_;exact⟨e,rfl,d,c.out,G⟩
def wF(P:XP × Int × Int × Bool)(b:World)(gx:Nat)(w:World)(e:Ending)(w':World):Prop:=∃x':X1,e=.returned (.tuple #[Y P.2.1,Y P.2.2.1,.bool P.2.2.2])/\kw b w' gx x'/\x'.p=P.1/\XG gx w w'
def BR(P:XP × Int × Bool)(b:World)(gx:Nat)(w:World)(e:Ending)(w':World):Prop:=∃x':X1,e=.returned (.tuple #[Y P.2.1,.bool P.2.2])/\kw b w' gx x'/\x'.p=P.1/\XG gx w w'
def xV(a:XP × Int × Int)(n:Int):XP × Int × Int × Bool:=
 if a.1.hO=true then(a.1,0,0,false) else
 if a.2.2<=3+n then(jk a.1 (-1),0,0,false) else(a.1,a.2.1,3+n,true)
def B1(x:XP)(n:Int):hI x n=xV (hT x) n:=rfl
def yB(x:XP):0<=(hT x).2.2:=by
 unfold hT;simp only;split
 .exact Gg _
 .show 0<=iN _ _
  unfold iN;split<;>omega
def mf(n:Int)(M:kw b w gx x)(y:x.p.e.sm 800000)(h0:0<=n)(K:n<=1000000):
 Calls prog 167 #[q_ gx,Y n] w (wF (hI x.p n) b gx w):=by
 have i:=lY y;have B:=yB x.p
 go_enter func167,ntmps167
 go_upto_region 2 with(go_at_call 161;((with_reducible refine(mU b gx x M (G_ y.rs O)).mono ?_);unfold uL;rintro F I⟨a,rfl,f,q,m⟩;have d:=U q;clear q;have r:I.cell? (Z gx 81)=some (.bool a.hO):=(f.bk.f_ 81).trans rfl))
 have j:=U (B1 x.p n);obtain⟨s,h⟩:=mn_ ((hT x.p).2.1);rw[h];obtain⟨l,g⟩:=mn_ ((hT x.p).2.2);rw[g]at B |-;have p:=U g;have D:=U h;clear h g;rw[<-d.out]at i
 cases c:a.hO with
 |true=>
  rw[c]at r;have HM:Hid (hI x.p n=(a.p,0,0,false)):=U (by rw[j.out,d.out];unfold xV;rw[U_ (by rw[<-d.out];exact c)]);clear c i;go_wp2;refine F6 (v:=.tuple #[Y 0,Y 0,.bool false]) (results_tmp3 (t:=4) (u:=5) (v:=6) rfl _ _ _) rfl ?_;rw[HM.out];exact⟨_,rfl,f,rfl,m⟩
 |false=>
  rw[c]at r
  by_cases e:l<=3+n
  .have HM:Hid (hI x.p n=(jk a.p (-1),0,0,false)):=U (by
    rw[j.out,d.out];unfold xV
    rw[R_ (by rw[<-d.out];show ¬a.hO=true;rw[c];decide),U_ (by rw[p.out];exact e)])
   have H:(l<=3+n)=True:=by simp[e]
   have E:a.p.e.sm 900000:=i.mono X;clear c i e
   go_wp2_with (go_at_call 165;((with_reducible refine(kX b gx a (-1) f E).mono ?_);unfold kR;rintro F J⟨C,rfl,A,o,G⟩;have z:=U o;clear o))
   refine F6 (v:=.tuple #[Y 0,Y 0,.bool false]) (results_tmp3 (t:=4) (u:=5) (v:=6) rfl _ _ _) rfl ?_;rw[HM.out];exact⟨C,rfl,A,z.out,m.trans G⟩
  .have HM:Hid (hI x.p n=(a.p,s,3+n,true)):=U (by
    rw[j.out,d.out];unfold xV
    rw[R_ (by rw[<-d.out];show ¬a.hO=true;rw[c];decide),R_ (by rw[p.out];exact e),D.out])
   have H:(l<=3+n)=False:=by simp[e]
   clear c i e;go_wp2;refine F6 (v:=.tuple #[Y s,Y (3+n),.bool true]) (results_tmp3 (t:=4) (u:=5) (v:=6) rfl _ _ _) rfl ?_;rw[HM.out];exact⟨a,rfl,f,rfl,m⟩
def qK(aC:X1)(v:Vl)(d:Int)(M:kw b w gx aC)(E:aC.p.e.sm 800000):
 Calls prog 168 #[q_ gx,.agg #[.bool v.r,Y v.n],Y d] w (BR (iA aC.p v d) b gx w):=by
 have B:=M.hF ((H [] w).alloc (.cells #[.bool v.r,Y v.n] 38));have i:=P_ w 38 #[.bool v.r,Y v.n];have aD:=(XG.refl gx w).hF ((H [] w).alloc (.cells #[.bool v.r,Y v.n] 38));have b4:aC.p.e.sm 900000:=E.mono O;have R:w.heap.size≠gx:=ov M.bk.lt
 go_enter func168,ntmps168
 go_upto_region 1 with fail
 obtain⟨aI,A⟩:=nm_ (w.alloc (.cells #[.bool v.r,Y v.n] 38));rw[<-A]at B i aD |-;clear A;generalize w.heap.size=aP at*
 cases f:v.r with
 |false=>
  have HM:Hid (iA aC.p v d=(jk aC.p (-2),0,false)):=U (by unfold iA;rw[U_ f]);rw[f]at i;clear f;have MV:=i.f_ 0
  go_wp2_with (go_at_call 165;((with_reducible refine(kX b gx aC (-2) B b4).mono ?_);unfold kR;rintro e ae⟨aw,rfl,W,F,G⟩;have MT:=U F;clear F))
  exact KQ
 |true=>
  have N:=U f
  by_cases m:v.n=0
  .have HM:Hid (iA aC.p v d=(jk aC.p (-1),0,false)):=U (by unfold iA;rw[R_ (by rw[f];decide),U_ m]);have q:(v.n==0)=true:=zu m;rw[f]at i;clear f m N;have MV:=i.f_ 0;have MU:=i.f_ 1;exact Jw
  .have q:(v.n==0)=false:=zu m
   have y:Hid (iA aC.p v d=(match jl aC.p.h v.n with
    |none=>(kN aC.p,0,false)
    |some r=>if(r.fs.length:Int)<=d then(jk aC.p (-1),0,false) else(aC.p,v.n,true))):=U (by unfold iA;rw[R_ (by rw[f];decide),R_ m];rfl)
   have MV:aI.cell? (Z aP 0)=some (.bool true):=(i.f_ 0).trans (by rw[f];rfl);have MU:=i.f_ 1;clear m f
   go_upto_region 7 with fail
   clear MV MU
   cases l:jl (hX aC.h.l) v.n with
   |none=>
    have HM:Hid (iA aC.p v d=(({aC with hO:=true}:X1).p,0,false)):=U (by rw[y.out];have e:jl aC.p.h v.n=none:=l;rw[e];rfl);clear y
    go_cut [8,9] (λp r o=>∃(j:Nat) (aM:OA) (c4:Nat),p=q_ j/\r=.bool false/\Bk o j 56 #[Y 0,.slice aM 0 c4]/\I [] aI o)
    case first=>
     have L:I [] aI aI.drew:=(H [] aI).drew;refine hN (λw'=>w'.cell? (Z gx 36)=some (.slice aC.h.A aC.h.l.length aC.h.c)/\w'.cell? (Z aP 0)=some (.bool v.r)/\w'.cell? (Z aP 1)=some (Y v.n)) 13 k_ ?_
     refine m5 ⟨((B.bk.hF L).f_ 36).trans rfl,(i.hF L).f_ 0,(i.hF L).f_ 1⟩ λC=>?_
     (iterate 6 refine jQ C ?_)
     refine ji 6 10 rfl rfl k_ (λK MY=>?_) (λK MY=>?_)
     .go_simp
      (go_at_call 14;((with_reducible refine(get_none aC.h.A aC.h.c aC.h.l v.n _ (B.hF L).km.os B.hl l).mono ?_);rintro e ad⟨rfl,MS⟩))
      clear C
      refine h4 MY ⟨((B.bk.hF (L.trans MS)).f_ 36).trans rfl,(i.hF (L.trans MS)).f_ 0,(i.hF (L.trans MS)).f_ 1⟩ λC=>?_
      clear MY K
      iterate 3 refine jQ C ?_
      exact II
     .go_simp;have z:Bk ((aI.alloc (.cells #[Y 0,n_] 56)).drew) aI.heap.size 56 #[Y 0,n_]:=(P_ aI 56 #[Y 0,n_]).drew;have aF:I [] aI ((aI.alloc (.cells #[Y 0,n_] 56)).drew):=((H [] aI).alloc _).drew;clear C
      refine h4 MY ⟨((B.bk.hF aF).f_ 36).trans rfl,(i.hF aF).f_ 0,(i.hF aF).f_ 1⟩ λC=>?_
      clear MY K
      refine hZ 6 λK MY=>?_
      go_simp
      (go_at_call 14;((with_reducible refine(get_none aC.h.A aC.h.c aC.h.l v.n _ (B.hF aF).km.os B.hl l).mono ?_);rintro e ad⟨rfl,MS⟩))
      have c:=aF.trans MS;clear C;have C:ad.cell? (Z gx 36)=some (.slice aC.h.A aC.h.l.length aC.h.c)/\ad.cell? (Z aP 0)=some (.bool v.r)/\ad.cell? (Z aP 1)=some (Y v.n):=⟨((B.bk.hF c).f_ 36).trans rfl,(i.hF c).f_ 0,(i.hF c).f_ 1⟩;have av:=z.hF MS;have MV:=av.f_ 0;have MU:=av.f_ 1;have bB:=av.hG 0;have bM:=av.hG 1
      refine h4 MY C λC=>?_
      clear MY K
      iterate 3 refine jQ C ?_
      refine hZ 11 λK MY=>?_
      go_simp;have Ee:aI.heap.size<=aI.heap.size:=H_ _;exact I4
    case rest=>
     obtain⟨j,aM,c4,rfl,rfl,av,g⟩:=hcut;replace B:=B.hF g;replace i:=i.hF g;replace aD:=aD.hF g;clear g;have s:wc.cell? (Z gx 81)=some (.bool aC.hO):=(B.bk.f_ 81).trans rfl;have n:=B.bk.hG 81;go_wp2;have bT:=B.set (x':={aC with hO:=true}) 81 (.bool true) rfl rfl rfl rfl rfl rfl rfl rfl;refine F6 (v:=.tuple #[Y 0,.bool false]) (H7 (t:=6) (u:=7) rfl _ _ _) rfl ?_;exact L7
   |some a=>
    have s:Hid (iA aC.p v d=if(a.fs.length:Int)<=d then(jk aC.p (-1),0,false) else(aC.p,v.n,true)):=U (by rw[y.out];have e:jl aC.p.h v.n=some a:=l;rw[e]);clear y
    go_cut [8,9] (λp r o=>∃(j:Nat) (aM:OA) (c4:Nat),p=q_ j/\r=.bool true/\Bk o j 56 #[Y a.id,.slice aM a.fs.length c4]/\I [] aI o)
    case first=>
     have L:I [] aI aI.drew:=(H [] aI).drew;refine hN (λw'=>w'.cell? (Z gx 36)=some (.slice aC.h.A aC.h.l.length aC.h.c)/\w'.cell? (Z aP 0)=some (.bool v.r)/\w'.cell? (Z aP 1)=some (Y v.n)) 13 k_ ?_
     refine m5 ⟨((B.bk.hF L).f_ 36).trans rfl,(i.hF L).f_ 0,(i.hF L).f_ 1⟩ λC=>?_
     (iterate 6 refine jQ C ?_)
     refine ji 6 10 rfl rfl k_ (λK MY=>?_) (λK MY=>?_)
     .go_simp
      (go_at_call 14;((with_reducible refine(get_some aC.h.A aC.h.c aC.h.l v.n a _ (B.hF L).km.os (B.hF L).km.k5 B.hl l).mono ?_);rintro e ad⟨aM,c4,rfl,n,MS⟩))
      clear C
      refine h4 MY ⟨((B.bk.hF (L.trans MS)).f_ 36).trans rfl,(i.hF (L.trans MS)).f_ 0,(i.hF (L.trans MS)).f_ 1⟩ λC=>?_
      clear MY K
      iterate 3 refine jQ C ?_
      refine hZ 10 λK MY=>?_
      go_simp;have av:=P_ ad 56 #[Y 0,n_];have aF:I [] aI (ad.alloc (.cells #[Y 0,n_] 56)):=(L.trans MS).alloc _;clear C;have C:(ad.alloc (.cells #[Y 0,n_] 56)).cell? (Z gx 36)=some (.slice aC.h.A aC.h.l.length aC.h.c)/\(ad.alloc (.cells #[Y 0,n_] 56)).cell? (Z aP 0)=some (.bool v.r)/\(ad.alloc (.cells #[Y 0,n_] 56)).cell? (Z aP 1)=some (Y v.n):=⟨((B.bk.hF aF).f_ 36).trans rfl,(i.hF aF).f_ 0,(i.hF aF).f_ 1⟩;have MV:=av.f_ 0;have MU:=av.f_ 1;have bB:=av.hG 0;have bM:=av.hG 1;exact I5
     .go_simp;have z:Bk ((aI.alloc (.cells #[Y 0,n_] 56)).drew) aI.heap.size 56 #[Y 0,n_]:=(P_ aI 56 #[Y 0,n_]).drew;have aF:I [] aI ((aI.alloc (.cells #[Y 0,n_] 56)).drew):=((H [] aI).alloc _).drew;clear C
      refine h4 MY ⟨((B.bk.hF aF).f_ 36).trans rfl,(i.hF aF).f_ 0,(i.hF aF).f_ 1⟩ λC=>?_
      clear MY K
      refine hZ 6 λK MY=>?_
      go_simp
      (go_at_call 14;((with_reducible refine(get_some aC.h.A aC.h.c aC.h.l v.n a _ (B.hF aF).km.os (B.hF aF).km.k5 B.hl l).mono ?_);rintro e ad⟨aM,c4,rfl,n,MS⟩))
      have c:=aF.trans MS;clear C;have C:ad.cell? (Z gx 36)=some (.slice aC.h.A aC.h.l.length aC.h.c)/\ad.cell? (Z aP 0)=some (.bool v.r)/\ad.cell? (Z aP 1)=some (Y v.n):=⟨((B.bk.hF c).f_ 36).trans rfl,(i.hF c).f_ 0,(i.hF c).f_ 1⟩;have av:=z.hF MS;have MV:=av.f_ 0;have MU:=av.f_ 1;have bB:=av.hG 0;have bM:=av.hG 1
      refine h4 MY C λC=>?_
      clear MY K
      iterate 3 refine jQ C ?_
      refine hZ 11 λK MY=>?_
      go_simp;have Ee:aI.heap.size<=aI.heap.size:=H_ _;exact I1
    case rest=>
     obtain⟨j,aM,c4,rfl,rfl,av,g⟩:=hcut;replace B:=B.hF g;replace i:=i.hF g;replace aD:=aD.hF g;clear g;have P:=av.f_ 1
     by_cases n:(a.fs.length:Int)<=d
     .have HM:Hid (iA aC.p v d=(jk aC.p (-1),0,false)):=U (by rw[s.out,U_ n])
      have D:((a.fs.length:Int)<=d)=True:=by simp[n]
      clear n s;exact Jw
     .have HM:Hid (iA aC.p v d=(aC.p,v.n,true)):=U (by rw[s.out,R_ n])
      have D:((a.fs.length:Int)<=d)=False:=by simp[n]
      clear n s;have MU:=i.f_ 1;go_wp2;refine F6 (v:=.tuple #[Y v.n,.bool true]) (H7 (t:=6) (u:=7) rfl _ _ _) rfl ?_;rw[HM.out];exact⟨aC,rfl,B,rfl,aD⟩
def kh:∀a,a<16->x.g_[40+a*2]?=some (.bool (x.e.r a).r)/\x.g_[40+a*2+1]?=some (Y (x.e.r a).n)
 |0,_=>⟨rfl,rfl⟩
 |1,_=>⟨rfl,rfl⟩
 |2,_=>⟨rfl,rfl⟩
 |3,_=>⟨rfl,rfl⟩
 |4,_=>⟨rfl,rfl⟩
 |5,_=>⟨rfl,rfl⟩
 |6,_=>⟨rfl,rfl⟩
 |7,_=>⟨rfl,rfl⟩
 |8,_=>⟨rfl,rfl⟩
 |9,_=>⟨rfl,rfl⟩
 |10,_=>⟨rfl,rfl⟩
 |11,_=>⟨rfl,rfl⟩
 |12,_=>⟨rfl,rfl⟩
 |13,_=>⟨rfl,rfl⟩
 |14,_=>⟨rfl,rfl⟩
 |15,_=>⟨rfl,rfl⟩
 |n+16,h=>FU h X
def so{gx:Nat}{x:X1}(h:Bk w gx 186 x.g_)(a:k<16):w.cell? (Z gx (40+k*2))=some (.bool (x.e.r k).r)/\w.cell? (Z gx (40+k*2+1))=some (Y (x.e.r k).n):=⟨(h.f_ _).trans (kh x k a).1,(h.f_ _).trans (kh x k a).2⟩
def mA(v:Vl):∀a:Nat,a<16->(x.g_.setIfInBounds (40+a*2) (.bool v.r)).setIfInBounds (40+a*2+1) (Y v.n)=({x with e:={x.e with r:=rf x.e.r a v}}:X1).g_
 |0,_=>rfl
 |1,_=>rfl
 |2,_=>rfl
 |3,_=>rfl
 |4,_=>rfl
 |5,_=>rfl
 |6,_=>rfl
 |7,_=>rfl
 |8,_=>rfl
 |9,_=>rfl
 |10,_=>rfl
 |11,_=>rfl
 |12,_=>rfl
 |13,_=>rfl
 |14,_=>rfl
 |15,_=>rfl
 |n+16,h=>FU h X
def ly(P:XP)(bC:Bool)(b:World)(gx:Nat)(w:World)(e:Ending)(w':World):Prop:=∃x':X1,e=.returned (.bool bC)/\kw b w' gx x'/\x'.p=P/\XG gx w w'
def D0{b:World}{gx:Nat}{x:X1}(h:kw b w gx x)(v:Vl)(a:k<16):Bk ((w.setCell (Z gx (40+k*2)) (.bool v.r)).setCell (Z gx (40+k*2+1)) (Y v.n)).drew gx 186 ({x with e:={x.e with r:=rf x.e.r k v}}:X1).g_/\I [gx] w ((w.setCell (Z gx (40+k*2)) (.bool v.r)).setCell (Z gx (40+k*2+1)) (Y v.n)).drew:=
 ⟨by rw[<-mA x v k a];exact(h.bk.hV (40+k*2) (.bool v.r)).hV (40+k*2+1) (Y v.n),I.drew (((H [gx] w).setCell (p:=(Z gx (40+k*2))) (.inl J) (.bool v.r)).setCell (p:=(Z gx (40+k*2+1))) (.inl J) (Y v.n))⟩
def plain_0(w:World)(gx:Nat)(x:X1)(a V c:Int)(n:Int)(M:kw b w gx x):
 Calls prog 119 #[q_ gx,.agg #[Y 0,Y a,Y V,Y c,Y n]] w (ly x.p true b gx w):=by
 obtain⟨l,j,f,d,g,e,aD,m⟩:=r7 M #[Y 0,Y a,Y V,Y c,Y n]
 go_enter func119,ntmps119
 go_upto_region 1 with fail
 clear f d;have h:=e.f_ 0;exact ME
def plain_1(w:World)(gx:Nat)(x:X1)(E:Nat)(V c:Int)(n:Int)(M:kw b w gx x)(j:E<16):
 Calls prog 119 #[q_ gx,.agg #[Y 1,Y (E:Int),Y V,Y c,Y n]] w (ly (kY x.p E ⟨false,n⟩) true b gx w):=by
 obtain⟨d,a,s,o,g,f,aD,l⟩:=r7 M #[Y 1,Y (E:Int),Y V,Y c,Y n]
 go_enter func119,ntmps119
 go_upto_region 1 with fail
 clear s o;have q:=f.f_ 0
 go_upto_region 6 with fail
 clear q;refine hN (λw'=>w'.cell? (Z a 0)=some (Y 1)/\w'.cell? (Z a 1)=some (Y (E:Int))/\w'.cell? (Z a 2)=some (Y V)/\w'.cell? (Z a 3)=some (Y c)/\w'.cell? (Z a 4)=some (Y n)) 9 k_ ?_;have C:d.drew.cell? (Z a 0)=some (Y 1)/\d.drew.cell? (Z a 1)=some (Y (E:Int))/\d.drew.cell? (Z a 2)=some (Y V)/\d.drew.cell? (Z a 3)=some (Y c)/\d.drew.cell? (Z a 4)=some (Y n):=f.drew.c5;have u:(0:Int)<=(E:Int):=X;have t:(E:Int)<16:=X
 (iterate 8 refine jQ C ?_)
 have e:=g.bk;have A:d.cell? (Z gx (40+E*2))=some (.bool (x.e.r E).r):=(e.f_ _).trans (kh x E j).1;have z:d.cell? (Z gx (40+E*2+1))=some (Y (x.e.r E).n):=(e.f_ _).trans (kh x E j).2;have v:=e.hG (40+E*2);have y:=e.hG (40+E*2+1)
 refine hZ 8 λK MY=>?_
 go_simp;have m:Bk ((d.setCell (Z gx (40+E*2)) (.bool false)).setCell (Z gx (40+E*2+1)) (Y n)).drew a 189 #[Y 1,Y (E:Int),Y V,Y c,Y n]:=(f.ih (p:=(Z gx (40+E*2))) l (.bool false)).ih (p:=(Z gx (40+E*2+1))) l (Y n);obtain⟨aU,T⟩:=D0 g ⟨false,n⟩ j;exact KD
def plain_2(w:World)(gx:Nat)(x:X1)(E:Nat)(V c:Int)(n:Int)(M:kw b w gx x)(j:E<16):
 Calls prog 119 #[q_ gx,.agg #[Y 2,Y (E:Int),Y V,Y c,Y n]] w (ly (kY x.p E ⟨true,0⟩) true b gx w):=by
 obtain⟨d,a,s,o,g,f,aD,l⟩:=r7 M #[Y 2,Y (E:Int),Y V,Y c,Y n]
 go_enter func119,ntmps119
 go_upto_region 1 with fail
 clear s o;have q:=f.f_ 0
 go_upto_region 8 with fail
 clear q;refine hN (λw'=>w'.cell? (Z a 0)=some (Y 2)/\w'.cell? (Z a 1)=some (Y (E:Int))/\w'.cell? (Z a 2)=some (Y V)/\w'.cell? (Z a 3)=some (Y c)/\w'.cell? (Z a 4)=some (Y n)) 7 k_ ?_;have C:d.drew.cell? (Z a 0)=some (Y 2)/\d.drew.cell? (Z a 1)=some (Y (E:Int))/\d.drew.cell? (Z a 2)=some (Y V)/\d.drew.cell? (Z a 3)=some (Y c)/\d.drew.cell? (Z a 4)=some (Y n):=f.drew.c5;have u:(0:Int)<=(E:Int):=X;have t:(E:Int)<16:=X
 (iterate 6 refine jQ C ?_)
 have e:=g.bk;have A:d.cell? (Z gx (40+E*2))=some (.bool (x.e.r E).r):=(e.f_ _).trans (kh x E j).1;have z:d.cell? (Z gx (40+E*2+1))=some (Y (x.e.r E).n):=(e.f_ _).trans (kh x E j).2;have v:=e.hG (40+E*2);have y:=e.hG (40+E*2+1)
 refine hZ 6 λK MY=>?_
 go_simp;have m:Bk ((d.setCell (Z gx (40+E*2)) (.bool true)).setCell (Z gx (40+E*2+1)) (Y 0)).drew a 189 #[Y 2,Y (E:Int),Y V,Y c,Y n]:=(f.ih (p:=(Z gx (40+E*2))) l (.bool true)).ih (p:=(Z gx (40+E*2+1))) l (Y 0);obtain⟨aU,T⟩:=D0 g ⟨true,0⟩ j;exact KD
def plain_3(w:World)(gx:Nat)(x:X1)(E d:Nat)(c:Int)(n:Int)(M:kw b w gx x)(f:E<16)(u:d<16):
 Calls prog 119 #[q_ gx,.agg #[Y 3,Y (E:Int),Y (d:Int),Y c,Y n]] w (ly (kY x.p E (x.e.r d)) true b gx w):=by
 obtain⟨m,a,t,o,g,l,aD,H⟩:=r7 M #[Y 3,Y (E:Int),Y (d:Int),Y c,Y n]
 go_enter func119,ntmps119
 go_upto_region 1 with fail
 clear t o;have s:=l.f_ 0
 go_upto_region 10 with fail
 clear s;refine hN (λw'=>(w'.cell? (Z a 0)=some (Y 3)/\w'.cell? (Z a 1)=some (Y (E:Int))/\w'.cell? (Z a 2)=some (Y (d:Int))/\w'.cell? (Z a 3)=some (Y c)/\w'.cell? (Z a 4)=some (Y n))/\w'.cell? (Z gx (40+d*2))=some (.bool (x.e.r d).r)/\w'.cell? (Z gx (40+d*2+1))=some (Y (x.e.r d).n)) 11 k_ ?_;have p:=And.intro l.drew.c5 (so (g.bk.drew) u);have z:(0:Int)<=(E:Int):=X;have y:(E:Int)<16:=X;have v:(0:Int)<=(d:Int):=X;have C:(d:Int)<16:=X
 (iterate 11 refine jQ p ?_)
 have e:=g.bk;have F:m.cell? (Z gx (40+E*2))=some (.bool (x.e.r E).r):=(e.f_ _).trans (kh x E f).1;have D:m.cell? (Z gx (40+E*2+1))=some (Y (x.e.r E).n):=(e.f_ _).trans (kh x E f).2;have A:=e.hG (40+E*2);have B:=e.hG (40+E*2+1)
 refine hZ 11 λq j=>?_
 go_simp;obtain⟨aU,T⟩:=D0 g (x.e.r d) f;refine j.out _ _ (λh=>FU h O) ?_;clear j q
 try simp only[a_]
 exact Lt
def plain_11(w:World)(gx:Nat)(x:X1)(f V c:Int)(n:Int)(M:kw b w gx x):
 Calls prog 119 #[q_ gx,.agg #[Y 11,Y f,Y V,Y c,Y n]] w (ly (tP x.p n) true b gx w):=by
 obtain⟨l,p,j,g,a,d,h,t⟩:=r7 M #[Y 11,Y f,Y V,Y c,Y n]
 go_enter func119,ntmps119
 go_upto_region 1 with fail
 clear j g;have o:=d.f_ 0;have q:=d.f_ 4;have s:l.cell? (Z gx 39)=some (Y x.e.pc):=(a.bk.f_ 39).trans rfl;have r:=a.bk.hG 39;go_wp2;go_ret;have m:=a.set (x':={x with e:={x.e with pc:=n}}) 39 (Y n) rfl rfl rfl rfl rfl rfl rfl rfl;exact⟨_,rfl,m,rfl,h.it ((H [gx] _).setCell (.inl J) _)⟩
def plain_12(w:World)(gx:Nat)(x:X1)(E:Nat)(V c:Int)(n:Int)(M:kw b w gx x)(u:E<16):
 Calls prog 119 #[q_ gx,.agg #[Y 12,Y (E:Int),Y V,Y c,Y n]] w (ly (if(x.e.r E).n≠0 then x.p else tP x.p n) true b gx w):=by
 obtain⟨D,A⟩:=mn_ (if(x.e.r E).n≠0 then x.p else tP x.p n);rw[A];have C:=U A;clear A;obtain⟨s,a,L,K,t,m,F,T⟩:=r7 M #[Y 12,Y (E:Int),Y V,Y c,Y n]
 go_enter func119,ntmps119
 go_upto_region 1 with fail
 clear L K;have B:=m.f_ 0
 by_cases j:(x.e.r E).n=0
 .have z:=U (show((x.e.r E).n !=0)=false by simp[j]);have HM:Hid (D=tP x.p n):=U (by rw[<-C.out,R_ (zu j)]);clear j
  go_upto_region 20 with fail
  clear B;refine hN (λw'=>(w'.cell? (Z a 0)=some (Y 12)/\w'.cell? (Z a 1)=some (Y (E:Int))/\w'.cell? (Z a 2)=some (Y V)/\w'.cell? (Z a 3)=some (Y c)/\w'.cell? (Z a 4)=some (Y n))/\w'.cell? (Z gx (40+E*2))=some (.bool (x.e.r E).r)/\w'.cell? (Z gx (40+E*2+1))=some (Y (x.e.r E).n)) 8 k_ ?_;have d:=And.intro m.drew.c5 (so (t.bk.drew) u);have O:(0:Int)<=(E:Int):=X;have N:(E:Int)<16:=X
  iterate 6 refine jQ d ?_
  refine hZ 6 λv l=>?_
  go_simp
  (go_at_call 166;((with_reducible refine(sQ (x.e.r E)).mono ?_);rintro e p⟨rfl,y⟩;rw[z.out]))
  have g:I [] s p:=(H [] s).drew.trans y;have o:=m.hF g;have f:=t.hF g;clear d
  refine h4 l ⟨o.c5,so (f.bk) u⟩ λd=>?_
  clear l v;refine iv 7 d ?_;refine hM k_ ?_ _;have P:=o.f_ 4;have R:p.cell? (Z gx 39)=some (Y x.e.pc):=(f.bk.f_ 39).trans rfl;have Q:=f.bk.hG 39;go_wp2;go_ret;have S:=f.set (x':={x with e:={x.e with pc:=n}}) 39 (Y n) rfl rfl rfl rfl rfl rfl rfl rfl;rw[HM.out];exact⟨_,rfl,S,rfl,(F.hF g).it ((H [gx] _).setCell (.inl J) _)⟩
 .have z:=U (show((x.e.r E).n !=0)=true by simp[j]);have HM:Hid (D=x.p):=U (by rw[<-C.out,U_ (zu j)]);clear j
  go_upto_region 20 with fail
  clear B;refine hN (λw'=>(w'.cell? (Z a 0)=some (Y 12)/\w'.cell? (Z a 1)=some (Y (E:Int))/\w'.cell? (Z a 2)=some (Y V)/\w'.cell? (Z a 3)=some (Y c)/\w'.cell? (Z a 4)=some (Y n))/\w'.cell? (Z gx (40+E*2))=some (.bool (x.e.r E).r)/\w'.cell? (Z gx (40+E*2+1))=some (Y (x.e.r E).n)) 8 k_ ?_;have d:=And.intro m.drew.c5 (so (t.bk.drew) u);have O:(0:Int)<=(E:Int):=X;have N:(E:Int)<16:=X
  iterate 6 refine jQ d ?_
  refine hZ 6 λv l=>?_
  go_simp
  (go_at_call 166;((with_reducible refine(sQ (x.e.r E)).mono ?_);rintro e p⟨rfl,y⟩;rw[z.out]))
  have g:I [] s p:=(H [] s).drew.trans y;have o:=m.hF g;have f:=t.hF g;clear d
  refine h4 l ⟨o.c5,so (f.bk) u⟩ λd=>?_
  clear l v;refine iv 7 d ?_;refine hM k_ ?_ _;have P:=o.f_ 4;have R:p.cell? (Z gx 39)=some (Y x.e.pc):=(f.bk.f_ 39).trans rfl;have Q:=f.bk.hG 39;go_wp2;go_ret;rw[HM.out];exact⟨x,rfl,f,rfl,F.hF g⟩
def AW(w:World)(gx:Nat)(x:X1)(a d V c:Int)(n:Int)(M:kw b w gx x)(j:a≠0/\a≠1/\a≠2/\a≠3/\a≠4/\a≠11/\a≠12/\a≠21/\a≠16/\a≠19):
 Calls prog 119 #[q_ gx,.agg #[Y a,Y d,Y V,Y c,Y n]] w (ly x.p false b gx w):=by
 obtain⟨s,m,h,e,g,f,aD,J⟩:=r7 M #[Y a,Y d,Y V,Y c,Y n]
 go_enter func119,ntmps119
 go_upto_region 1 with fail
 clear h e;have l:=f.f_ 0;have p:(a=0)=False:=p_;have o:(a==0)=false:=p_;have u:(a=1)=False:=p_;have A:(a==1)=false:=p_;have y:(a=2)=False:=p_;have r:(a==2)=false:=p_;have v:(a=3)=False:=p_;have q:(a==3)=false:=p_;have z:(a=4)=False:=p_;have B:(a==4)=false:=p_;have F:(a=11)=False:=p_;have K:(a==11)=false:=p_;have i:(a=12)=False:=p_;have t:(a==12)=false:=p_;have I:(a=21)=False:=p_;have E:(a==21)=false:=p_;have H:(a=16)=False:=p_;have C:(a==16)=false:=p_;have k:(a=19)=False:=p_;have D:(a==19)=false:=p_;clear j;exact ME
def kw.B5{b w':World}{gx:Nat}{x x':X1}(h:kw b w gx x)(k:I [gx] w w')(m:Bk w' gx 186 x'.g_)(c:x'.jt=x.jt)(d:x'.h=x.h)(e:x'.e.rs=x.e.rs)(a:x'.e.ws=x.e.ws)(n:Os w x'.e.nw.A x'.e.nw.l)(o:l5 w x'.e.nw.l)(p:Ds w x'.e.ds.A x'.e.ds.l)(q:As w x'.e.h8.A x'.e.h8.l)(r:x'.e.nw.ok)(j:x'.e.ds.ok)(s:x'.e.h8.ok):kw b w' gx x':=by
 have f:∀g l,w.heap[gx]?≠some (.cells g 116 l):=h.bk.pU O;refine⟨m,h.gr.trans k,h.bx,by rw[c];exact h.jt,by rw[d];exact h.h,?_,?_,by rw[e,a];exact h.ne,?_,?_,?_,?_,r,j,s,by rw[c];exact h.il,by rw[d];exact h.hl⟩
 .rw[e];exact ku (x:=gx) h.rs f k
 .rw[a];exact ku (x:=gx) h.ws f k
 .exact Sl.it n h.bk O k
 .exact o.it h.bk O k
 .exact Sl.it p h.bk O k
 .exact Sl.it q h.bk O k
def qI(r:Nat->Vl):Array Value:=#[.bool (r 0).r,Y (r 0).n,.bool (r 1).r,Y (r 1).n,.bool (r 2).r,Y (r 2).n,.bool (r 3).r,Y (r 3).n,.bool (r 4).r,Y (r 4).n,.bool (r 5).r,Y (r 5).n,.bool (r 6).r,Y (r 6).n,.bool (r 7).r,Y (r 7).n,.bool (r 8).r,Y (r 8).n,.bool (r 9).r,Y (r 9).n,.bool (r 10).r,Y (r 10).n,.bool (r 11).r,Y (r 11).n,.bool (r 12).r,Y (r 12).n,.bool (r 13).r,Y (r 13).n,.bool (r 14).r,Y (r 14).n,.bool (r 15).r,Y (r 15).n]
def wN(r:Nat->Vl):uU x.g_ 40 (qI r).toList=({x with e:={x.e with r:=r}}:X1).g_:=rfl
def Co{r:Nat->Vl}:(qI r).all (·.oneCell')=true:=by unfold qI;simp[Value.oneCell']
def plain_16(w:World)(gx:Nat)(x:X1)(E:Nat)(V c:Int)(n:Int)(M:kw b w gx x)(z:E<16)(A:x.p.e.sm 900000):
 Calls prog 119 #[q_ gx,.agg #[Y 16,Y (E:Int),Y V,Y c,Y n]] w (ly (jm x.p (x.e.r E)) true b gx w):=by
 obtain⟨d,a,v,m,l,j,u,J⟩:=r7 M #[Y 16,Y (E:Int),Y V,Y c,Y n]
 go_enter func119,ntmps119
 go_upto_region 1 with fail
 clear v m;have s:=j.f_ 0
 go_upto_region 26 with fail
 clear s;have f:I [] d d.drew:=(H [] d).drew;refine hN (λw'=>(w'.cell? (Z a 0)=some (Y 16)/\w'.cell? (Z a 1)=some (Y (E:Int))/\w'.cell? (Z a 2)=some (Y V)/\w'.cell? (Z a 3)=some (Y c)/\w'.cell? (Z a 4)=some (Y n))/\w'.cell? (Z gx (40+E*2))=some (.bool (x.e.r E).r)/\w'.cell? (Z gx (40+E*2+1))=some (Y (x.e.r E).n)) 7 k_ ?_;have o:=And.intro j.drew.c5 (so (l.bk.drew) z);have C:(0:Int)<=(E:Int):=X;have B:(E:Int)<16:=X
 iterate 7 refine jQ o ?_
 refine hZ 7 λp g=>?_
 go_simp
 (go_at_call 117;((with_reducible refine(pl b gx x (x.e.r E) (l.hF f) A).mono ?_);unfold kR;rintro F D⟨y,rfl,t,e,G⟩;have q:=U e;clear e))
 refine g.out _ _ (λh=>FU h O) ?_;clear g p
 try simp only[a_]
 refine hM k_ ?_ _;go_wp2;go_ret;exact⟨y,rfl,t,q.out,(u.hF f).trans G⟩
def plain_19(w:World)(gx:Nat)(x:X1)(E:Nat)(V c:Int)(n:Int)(M:kw b w gx x)(y:E<16)(hs:x.p.e.sm 900000):
 Calls prog 119 #[q_ gx,.agg #[Y 19,Y (E:Int),Y V,Y c,Y n]] w (ly (if(x.e.r E).r=true then jk x.p (-2) else{x.p with e:={x.p.e with h8:=[⟨false,(x.e.r E).n,0⟩]}}) true b gx w):=by
 obtain⟨N,F⟩:=mn_ (if(x.e.r E).r=true then jk x.p (-2) else{x.p with e:={x.p.e with h8:=[⟨false,(x.e.r E).n,0⟩]}});rw[F];have L:=U F;clear F;obtain⟨l,a,aG,ad,t,q,B,af⟩:=r7 M #[Y 19,Y (E:Int),Y V,Y c,Y n]
 go_enter func119,ntmps119
 go_upto_region 1 with fail
 clear aG ad;have K:=q.f_ 0
 cases D:(x.e.r E).r with
 |true=>
  have HM:Hid (N=jk x.p (-2)):=U (by rw[<-L.out,U_ D])
  go_upto_region 28 with fail
  clear K;have j:I [] l l.drew:=(H [] l).drew;refine hN (λw'=>(w'.cell? (Z a 0)=some (Y 19)/\w'.cell? (Z a 1)=some (Y (E:Int))/\w'.cell? (Z a 2)=some (Y V)/\w'.cell? (Z a 3)=some (Y c)/\w'.cell? (Z a 4)=some (Y n))/\w'.cell? (Z gx (40+E*2))=some (.bool (x.e.r E).r)/\w'.cell? (Z gx (40+E*2+1))=some (Y (x.e.r E).n)) 7 k_ ?_;have f:=And.intro q.drew.c5 (so (t.bk.drew) y);have aT:(0:Int)<=(E:Int):=X;have aN:(E:Int)<16:=X
  (iterate 7 refine jQ f ?_)
  refine hM k_ ?_ _
  go_wp2_with (go_at_call 165;((with_reducible refine(kX b gx x (-2) (t.hF j) hs).mono ?_);unfold kR;rintro e u⟨o,rfl,m,d,G⟩;have g:=U d;clear d))
  go_ret;rw[HM.out];exact⟨o,rfl,m,g.out,(B.hF j).trans G⟩
 |false=>
  have HM:Hid (N={x.p with e:={x.p.e with h8:=[⟨false,(x.e.r E).n,0⟩]}}):=U (by rw[<-L.out,R_ (by rw[D];decide)])
  go_upto_region 28 with fail
  clear K;have j:I [] l l.drew:=(H [] l).drew;refine hN (λw'=>(w'.cell? (Z a 0)=some (Y 19)/\w'.cell? (Z a 1)=some (Y (E:Int))/\w'.cell? (Z a 2)=some (Y V)/\w'.cell? (Z a 3)=some (Y c)/\w'.cell? (Z a 4)=some (Y n))/\w'.cell? (Z gx (40+E*2))=some (.bool (x.e.r E).r)/\w'.cell? (Z gx (40+E*2+1))=some (Y (x.e.r E).n)) 7 k_ ?_;have f:=And.intro q.drew.c5 (so (t.bk.drew) y);have aT:(0:Int)<=(E:Int):=X;have aN:(E:Int)<16:=X
  (iterate 7 refine jQ f ?_)
  refine hM k_ ?_ _;clear D
  go_upto_region 31 with fail
  clear f;have A:=t.hF j;have C:=q.hF j;have R:=B.hF j;obtain⟨g,S⟩:=nm_ l.drew;rw[<-S]at A C R |-;clear S t q B j;refine hN (λw'=>(w'.cell? (Z a 0)=some (Y 19)/\w'.cell? (Z a 1)=some (Y (E:Int))/\w'.cell? (Z a 2)=some (Y V)/\w'.cell? (Z a 3)=some (Y c)/\w'.cell? (Z a 4)=some (Y n))/\w'.cell? (Z gx (40+E*2))=some (.bool (x.e.r E).r)/\w'.cell? (Z gx (40+E*2+1))=some (Y (x.e.r E).n)) 13 k_ ?_
  refine m5 ⟨C.drew.c5,so (A.bk.drew) y⟩ λf=>?_
  iterate 9 refine jQ f ?_
  refine hZ 9 λz o=>?_
  go_simp;have v:I [] g ((g.alloc (.cells #[.bool false,Y (x.e.r E).n,Y 0] 162)).drew):=((H [] g).alloc _).drew;have W:Bk ((g.alloc (.cells #[.bool false,Y (x.e.r E).n,Y 0] 162)).drew) g.heap.size 162 #[.bool false,Y (x.e.r E).n,Y 0]:=(P_ g 162 #[.bool false,Y (x.e.r E).n,Y 0]).drew;have d:=A.hF v;have P:=C.hF v;have ag:=R.hF v;clear f;obtain⟨u,T⟩:=nm_ ((g.alloc (.cells #[.bool false,Y (x.e.r E).n,Y 0] 162)).drew);rw[<-T]at v W d P ag |-;clear T;generalize g.heap.size=m at*
  refine h4 o ⟨P.c5,so (d.bk) y⟩ λf=>?_
  clear o z
  (iterate 3 refine jQ f ?_)
  have ah:u.cell? (Z gx 76)=some (.slice x.e.h8.A x.e.h8.l.length x.e.h8.c):=(d.bk.f_ 76).trans rfl;have dT:=d.bk.hG 76
  refine hZ 13 λz o=>?_
  go_simp;refine o.out _ _ (λh=>FU h O) ?_;clear o z
  try simp only[a_]
  refine hM k_ ?_ _;have Q:=(H [gx] u).setCell (p:=(Z gx 76)) (.inl J) (.slice (j_ m) 1 1);have aU:Bk (u.setCell (Z gx 76) (.slice (j_ m) 1 1)) gx 186 ({x with e:={x.e with h8:=⟨some (Z m 0),1,[⟨false,(x.e.r E).n,0⟩]⟩}}:X1).g_:=d.bk.hV 76 (.slice (j_ m) 1 1);have ai:As u (j_ m) [⟨false,(x.e.r E).n,0⟩]:=kP (s:=3) W rfl;go_wp2;go_ret;rw[HM.out];exact⟨_,rfl,d.B5 (x':=({x with e:={x.e with h8:=⟨some (Z m 0),1,[⟨false,(x.e.r E).n,0⟩]⟩}}:X1)) Q aU rfl rfl rfl rfl d.nw d.nr d.ds ai d.td d.r8 (H_ 1),rfl,ag.it Q⟩
def plain_21(w:World)(gx:Nat)(x:X1)(l V c:Int)(n:Int)(M:kw b w gx x):
 Calls prog 119 #[q_ gx,.agg #[Y 21,Y l,Y V,Y c,Y n]] w (ly {x.p with e:={x.p.e with r:=jp,h6:=1,kA:=n}} true b gx w):=by
 obtain⟨R,f,N,E,D,v,L,u⟩:=r7 M #[Y 21,Y l,Y V,Y c,Y n]
 go_enter func119,ntmps119
 go_upto_region 1 with fail
 clear N E;have F:=v.f_ 0
 go_upto_region 24 with(refine je rfl 47 _ _ rfl gx 40 r_ (qI jp) r_ 186 _ D.bk (by show 40+32<=82;decide) k_ (Co) ?_;intro a j s)
 rw[wN]at j;have K:=D.r5 (x':=({x with e:={x.e with r:=jp}}:X1)) s j rfl rfl rfl rfl rfl rfl rfl;have B:=v.gr s (zu u);have O:=L.it s;clear F;refine hN (λw'=>w'.cell? (Z f 0)=some (Y 21)/\w'.cell? (Z f 1)=some (Y l)/\w'.cell? (Z f 2)=some (Y V)/\w'.cell? (Z f 3)=some (Y c)/\w'.cell? (Z f 4)=some (Y n)) 12 k_ ?_
 refine m5 B.drew.c5 λd=>?_
 (iterate 7 refine jQ d ?_)
 have U:a.cell? (Z gx 38)=some (Y x.e.h6):=(j.f_ 38).trans rfl;have T:=j.hG 38
 refine hZ 7 λo g=>?_
 go_simp;have m:Bk ((a.setCell (Z gx 38) (Y 1)).drew) gx 186 ({x with e:={x.e with r:=jp,h6:=1}}:X1).g_:=j.hV 38 (Y 1);have t:Bk ((a.setCell (Z gx 38) (Y 1)).drew) f 189 #[Y 21,Y l,Y V,Y c,Y n]:=B.ih (p:=(Z gx 38)) u (Y 1);have z:I [gx] a ((a.setCell (Z gx 38) (Y 1)).drew):=((H [gx] a).setCell (p:=(Z gx 38)) (.inl J) (Y 1)).drew;obtain⟨A,C⟩:=nm_ ((a.setCell (Z gx 38) (Y 1)).drew);rw[<-C]at m t z |-;clear C d
 refine h4 g t.c5 λd=>?_
 clear g o
 (iterate 3 refine jQ d ?_)
 have h:A.cell? (Z gx 77)=some (Y x.e.kA):=(m.f_ 77).trans rfl;have S:=m.hG 77
 refine hZ 11 λo g=>?_
 go_simp;have Q:=t.ih (p:=(Z gx 77)) u (Y n);have P:Bk (A.setCell (Z gx 77) (Y n)) gx 186 ({x with e:={x.e with r:=jp,h6:=1,kA:=n}}:X1).g_:=m.hV 77 (Y n);have y:=z.setCell (p:=(Z gx 77)) (.inl J) (Y n);clear d
 refine h4 g Q.c5 λd=>?_
 clear g o;refine hM k_ ?_ _;go_wp2;go_ret;exact⟨_,rfl,K.r5 (x':=({x with e:={x.e with r:=jp,h6:=1,kA:=n}}:X1)) y P rfl rfl rfl rfl rfl rfl rfl,rfl,O.it y⟩
def plain_4(w:World)(gx:Nat)(x:X1)(E d f:Nat)(n:Int)(M:kw b w gx x)(R:E<16)(y:d<16)(hc:f<16)(hs:x.p.e.sm 900000):
 Calls prog 119 #[q_ gx,.agg #[Y 4,Y (E:Int),Y (d:Int),Y (f:Int),Y n]] w (ly (if(iK n (x.e.r d) (x.e.r f)).2≠0 then jk x.p (iK n (x.e.r d) (x.e.r f)).2 else kY x.p E (iK n (x.e.r d) (x.e.r f)).1) true b gx w):=by
 obtain⟨T,N⟩:=mn_ (if(iK n (x.e.r d) (x.e.r f)).2≠0 then jk x.p (iK n (x.e.r d) (x.e.r f)).2 else kY x.p E (iK n (x.e.r d) (x.e.r f)).1);rw[N];obtain⟨⟨m,A⟩,S⟩:∃ag,iK n (x.e.r d) (x.e.r f)=ag:=⟨_,rfl⟩;rw[S]at N;have F:=U N;have k:=U S;clear N S;obtain⟨e,a,aG,ah,g,t,B,ai⟩:=r7 M #[Y 4,Y (E:Int),Y (d:Int),Y (f:Int),Y n]
 go_enter func119,ntmps119
 go_upto_region 1 with fail
 clear aG ah;have P:=t.f_ 0
 go_upto_region 12 with fail
 clear P
 go_cut [6,7] (λp aj V=>∃z:Nat,p=q_ z/\aj=Y A/\Bk V z 38 #[.bool m.r,Y m.n]/\I [] e V)
 case first=>
  have C:I [] e e.drew:=(H [] e).drew;refine hN (λw'=>(w'.cell? (Z a 0)=some (Y 4)/\w'.cell? (Z a 1)=some (Y (E:Int))/\w'.cell? (Z a 2)=some (Y (d:Int))/\w'.cell? (Z a 3)=some (Y (f:Int))/\w'.cell? (Z a 4)=some (Y n))/\(w'.cell? (Z gx (40+d*2))=some (.bool (x.e.r d).r)/\w'.cell? (Z gx (40+d*2+1))=some (Y (x.e.r d).n))/\w'.cell? (Z gx (40+f*2))=some (.bool (x.e.r f).r)/\w'.cell? (Z gx (40+f*2+1))=some (Y (x.e.r f).n)) 21 k_ ?_;have j:(e.drew.cell? (Z a 0)=some (Y 4)/\e.drew.cell? (Z a 1)=some (Y (E:Int))/\e.drew.cell? (Z a 2)=some (Y (d:Int))/\e.drew.cell? (Z a 3)=some (Y (f:Int))/\e.drew.cell? (Z a 4)=some (Y n))/\(e.drew.cell? (Z gx (40+d*2))=some (.bool (x.e.r d).r)/\e.drew.cell? (Z gx (40+d*2+1))=some (Y (x.e.r d).n))/\e.drew.cell? (Z gx (40+f*2))=some (.bool (x.e.r f).r)/\e.drew.cell? (Z gx (40+f*2+1))=some (Y (x.e.r f).n):=⟨(t.hF C).c5,(so (g.bk.hF C) y),so (g.bk.hF C) hc⟩;have aT:(0:Int)<=(d:Int):=X;have aN:(d:Int)<16:=X;have aK:(0:Int)<=(f:Int):=X;have bQ:(f:Int)<16:=X
  (iterate 14 refine jQ j ?_)
  refine ji 14 18 rfl rfl k_ (λs l=>?_) (λs l=>?_)
  .go_simp
   (go_at_call 164;((with_reducible refine(mL n (x.e.r d) (x.e.r f)).mono ?_);unfold qt;rintro ak c⟨rfl,D⟩;rw[k.out]))
   clear j;have i:=C.trans D
   refine h4 l ⟨(t.hF i).c5,(so (g.bk.hF i) y),so (g.bk.hF i) hc⟩ λj=>?_
   clear l s
   iterate 3 refine jQ j ?_
   refine hZ 18 λs l=>?_
   go_simp;have o:=P_ c 38 #[.bool false,Y 0];have v:I [] e (c.alloc (.cells #[.bool false,Y 0] 38)):=i.alloc _;clear j;have j:((c.alloc (.cells #[.bool false,Y 0] 38)).cell? (Z a 0)=some (Y 4)/\(c.alloc (.cells #[.bool false,Y 0] 38)).cell? (Z a 1)=some (Y (E:Int))/\(c.alloc (.cells #[.bool false,Y 0] 38)).cell? (Z a 2)=some (Y (d:Int))/\(c.alloc (.cells #[.bool false,Y 0] 38)).cell? (Z a 3)=some (Y (f:Int))/\(c.alloc (.cells #[.bool false,Y 0] 38)).cell? (Z a 4)=some (Y n))/\((c.alloc (.cells #[.bool false,Y 0] 38)).cell? (Z gx (40+d*2))=some (.bool (x.e.r d).r)/\(c.alloc (.cells #[.bool false,Y 0] 38)).cell? (Z gx (40+d*2+1))=some (Y (x.e.r d).n))/\(c.alloc (.cells #[.bool false,Y 0] 38)).cell? (Z gx (40+f*2))=some (.bool (x.e.r f).r)/\(c.alloc (.cells #[.bool false,Y 0] 38)).cell? (Z gx (40+f*2+1))=some (Y (x.e.r f).n):=⟨(t.hF v).c5,(so (g.bk.hF v) y),so (g.bk.hF v) hc⟩;have P:=o.f_ 0;have MU:=o.f_ 1;have W:=o.hG 0;have bM:=o.hG 1
   refine h4 l j λj=>?_
   clear l s
   refine hZ 19 λs l=>?_
   go_simp;have Q:=P_ c 38 #[.bool m.r,Y m.n];have u:I [] e (c.alloc (.cells #[.bool m.r,Y m.n] 38)):=i.alloc _;clear j
   refine h4 l ⟨(t.hF u).c5,(so (g.bk.hF u) y),so (g.bk.hF u) hc⟩ λj=>?_
   clear l s;refine iv 20 j ?_;refine hM k_ ?_ _;go_wp2;go_meet;exact⟨c.heap.size,rfl,rfl,Q,u⟩
  .go_simp;have al:Bk ((e.alloc (.cells #[.bool false,Y 0] 38)).drew) e.heap.size 38 #[.bool false,Y 0]:=(P_ e 38 #[.bool false,Y 0]).drew;have v:I [] e ((e.alloc (.cells #[.bool false,Y 0] 38)).drew):=((H [] e).alloc _).drew;clear j
   refine h4 l ⟨(t.hF v).c5,(so (g.bk.hF v) y),so (g.bk.hF v) hc⟩ λj=>?_
   clear l s
   refine hZ 14 λs l=>?_
   go_simp
   (go_at_call 164;((with_reducible refine(mL n (x.e.r d) (x.e.r f)).mono ?_);unfold qt;rintro ak c⟨rfl,D⟩;rw[k.out]))
   have L:=v.trans D;clear j;have j:(c.cell? (Z a 0)=some (Y 4)/\c.cell? (Z a 1)=some (Y (E:Int))/\c.cell? (Z a 2)=some (Y (d:Int))/\c.cell? (Z a 3)=some (Y (f:Int))/\c.cell? (Z a 4)=some (Y n))/\(c.cell? (Z gx (40+d*2))=some (.bool (x.e.r d).r)/\c.cell? (Z gx (40+d*2+1))=some (Y (x.e.r d).n))/\c.cell? (Z gx (40+f*2))=some (.bool (x.e.r f).r)/\c.cell? (Z gx (40+f*2+1))=some (Y (x.e.r f).n):=⟨(t.hF L).c5,(so (g.bk.hF L) y),so (g.bk.hF L) hc⟩;have o:=al.hF D;have P:=o.f_ 0;have MU:=o.f_ 1;have W:=o.hG 0;have bM:=o.hG 1
   refine h4 l j λj=>?_
   clear l s
   iterate 3 refine jQ j ?_
   refine hZ 19 λs l=>?_
   go_simp;have Q:=(o.hV 0 (.bool m.r)).hV 1 (Y m.n);have K:=((H [e.heap.size] c).setCell (p:=(Z e.heap.size 0)) (.inl J) (.bool m.r)).setCell (p:=(Z e.heap.size 1)) (.inl J) (Y m.n);have u:=L.hJ K J;clear j
   refine h4 l ⟨(t.hF u).c5,(so (g.bk.hF u) y),so (g.bk.hF u) hc⟩ λj=>?_
   clear l s;refine iv 20 j ?_;refine hM k_ ?_ _;go_wp2;go_meet;exact⟨e.heap.size,rfl,rfl,Q,u⟩
 case rest=>
  obtain⟨z,rfl,rfl,o,v⟩:=hcut;replace g:=g.hF v;replace t:=t.hF v;replace B:=B.hF v;clear v
  by_cases u:A=0
  .have HM:Hid (T=kY x.p E m):=U (by rw[<-F.out,R_ (by simp[u])]);have q:(A !=0)=false:=zu u;clear u F k
   go_upto_region 16 with fail
   obtain⟨c,C⟩:=nm_ wc;rw[<-C]at g t B o |-;clear C;refine hN (λw'=>(w'.cell? (Z a 0)=some (Y 4)/\w'.cell? (Z a 1)=some (Y (E:Int))/\w'.cell? (Z a 2)=some (Y (d:Int))/\w'.cell? (Z a 3)=some (Y (f:Int))/\w'.cell? (Z a 4)=some (Y n))/\w'.cell? (Z z 0)=some (.bool m.r)/\w'.cell? (Z z 1)=some (Y m.n)) 6 k_ ?_;have j:(c.drew.cell? (Z a 0)=some (Y 4)/\c.drew.cell? (Z a 1)=some (Y (E:Int))/\c.drew.cell? (Z a 2)=some (Y (d:Int))/\c.drew.cell? (Z a 3)=some (Y (f:Int))/\c.drew.cell? (Z a 4)=some (Y n))/\c.drew.cell? (Z z 0)=some (.bool m.r)/\c.drew.cell? (Z z 1)=some (Y m.n):=⟨t.drew.c5,o.drew.f_ 0,o.drew.f_ 1⟩;have aT:(0:Int)<=(E:Int):=X;have aN:(E:Int)<16:=X
   (iterate 6 refine jQ j ?_)
   have Q:c.cell? (Z gx (40+E*2))=some (.bool (x.e.r E).r):=(g.bk.f_ _).trans (kh x E R).1;have L:c.cell? (Z gx (40+E*2+1))=some (Y (x.e.r E).n):=(g.bk.f_ _).trans (kh x E R).2;have W:=g.bk.hG (40+E*2);have bM:=g.bk.hG (40+E*2+1)
   refine hZ 6 λs l=>?_
   go_simp;obtain⟨D,K⟩:=D0 g m R;refine l.out _ _ (λh=>FU h O) ?_;clear l s
   try simp only[a_]
   refine hM k_ ?_ _;go_wp2;go_ret;rw[HM.out];exact⟨_,rfl,g.r5 K D rfl rfl rfl rfl rfl rfl rfl,rfl,B.it K⟩
  .have HM:Hid (T=jk x.p A):=U (by rw[<-F.out,U_ (zu u)]);have q:(A !=0)=true:=zu u;clear u F k
   go_wp2_with (go_at_call 165;((with_reducible refine(kX b gx x A g hs).mono ?_);unfold kR;rintro ak Q⟨L,rfl,D,c,G⟩;have C:=U c;clear c))
   go_ret;rw[HM.out];exact⟨L,rfl,D,C.out,B.trans G⟩
def py(M:kw b w gx x)(A:x.p.e.sm 900000)(D:0<=i.a)(E:i.a<16)(z:i.op=3∨i.op=4->0<=i.b/\i.b<16)(hc:i.op=4->0<=i.c/\i.c<16):
 Calls prog 119 #[q_ gx,.agg #[Y i.op,Y i.a,Y i.b,Y i.c,Y i.n]] w (ly ((jX x.p i).getD x.p) (jX x.p i).isSome b gx w):=by
 obtain⟨f,B,c,d,n⟩:=i;simp only at D E z hc |-;obtain⟨a,rfl⟩:∃k:Nat,B=k:=⟨B.toNat,X⟩;have h:a<16:=X
 by_cases t:f=0
 .subst t;have e:jX x.p ⟨0,a,c,d,n⟩=some x.p:=rfl;rw[e];exact plain_0 b w gx x a c d n M
 by_cases u:f=1
 .subst u;have e:jX x.p ⟨1,a,c,d,n⟩=some (kY x.p a ⟨false,n⟩):=rfl;rw[e];exact plain_1 b w gx x a c d n M h
 by_cases v:f=2
 .subst v;have e:jX x.p ⟨2,a,c,d,n⟩=some (kY x.p a ⟨true,0⟩):=rfl;rw[e];exact plain_2 b w gx x a c d n M h
 by_cases y:f=3
 .subst y;obtain⟨F,C⟩:=z (.inl rfl);obtain⟨g,rfl⟩:∃k:Nat,c=k:=⟨c.toNat,X⟩;have e:jX x.p ⟨3,a,g,d,n⟩=some (kY x.p a (x.e.r g)):=rfl;rw[e];exact plain_3 b w gx x a g d n M h X
 by_cases q:f=4
 .subst q;obtain⟨F,C⟩:=z (.inr rfl);obtain⟨H,I⟩:=hc rfl;obtain⟨g,rfl⟩:∃k:Nat,c=k:=⟨c.toNat,X⟩;obtain⟨j,rfl⟩:∃k:Nat,d=k:=⟨d.toNat,X⟩;have e:jX x.p ⟨4,a,g,j,n⟩=some (if(iK n (x.e.r g) (x.e.r j)).2≠0 then jk x.p (iK n (x.e.r g) (x.e.r j)).2 else kY x.p a (iK n (x.e.r g) (x.e.r j)).1):=rfl;rw[e];exact plain_4 b w gx x a g j n M h X X A
 by_cases l:f=11
 .subst l;have e:jX x.p ⟨11,a,c,d,n⟩=some (tP x.p n):=rfl;rw[e];exact plain_11 b w gx x a c d n M
 by_cases s:f=12
 .subst s;have e:jX x.p ⟨12,a,c,d,n⟩=some (if(x.e.r a).n≠0 then x.p else tP x.p n):=rfl;rw[e];exact plain_12 b w gx x a c d n M h
 by_cases o:f=21
 .subst o;have e:jX x.p ⟨21,a,c,d,n⟩=some {x.p with e:={x.p.e with r:=jp,h6:=1,kA:=n}}:=rfl;rw[e];exact plain_21 b w gx x a c d n M
 by_cases m:f=16
 .subst m;have e:jX x.p ⟨16,a,c,d,n⟩=some (jm x.p (x.e.r a)):=rfl;rw[e];exact plain_16 b w gx x a c d n M h A
 by_cases p:f=19
 .subst p;have e:jX x.p ⟨19,a,c,d,n⟩=some (if(x.e.r a).r=true then jk x.p (-2) else{x.p with e:={x.p.e with h8:=[⟨false,(x.e.r a).n,0⟩]}}):=rfl;rw[e];exact plain_19 b w gx x a c d n M h A
 have e:jX x.p ⟨f,a,c,d,n⟩=none:=by
  unfold jX;exact(R_ t).trans ((R_ u).trans ((R_ v).trans ((R_ y).trans ((R_ q).trans ((R_ l).trans ((R_ s).trans ((R_ o).trans ((R_ m).trans (R_ p)))))))))
 rw[e];exact AW b w gx x f a c d n M ⟨t,u,v,y,q,l,s,o,m,p⟩
def uR:∀a,a<16->x.g_[4+a*2]?=some (.bool (x.sr a).r)/\x.g_[4+a*2+1]?=some (Y (x.sr a).n)
 |0,_=>⟨rfl,rfl⟩
 |1,_=>⟨rfl,rfl⟩
 |2,_=>⟨rfl,rfl⟩
 |3,_=>⟨rfl,rfl⟩
 |4,_=>⟨rfl,rfl⟩
 |5,_=>⟨rfl,rfl⟩
 |6,_=>⟨rfl,rfl⟩
 |7,_=>⟨rfl,rfl⟩
 |8,_=>⟨rfl,rfl⟩
 |9,_=>⟨rfl,rfl⟩
 |10,_=>⟨rfl,rfl⟩
 |11,_=>⟨rfl,rfl⟩
 |12,_=>⟨rfl,rfl⟩
 |13,_=>⟨rfl,rfl⟩
 |14,_=>⟨rfl,rfl⟩
 |15,_=>⟨rfl,rfl⟩
 |n+16,h=>FU h X
def vh{gx:Nat}{x:X1}(h:Bk w gx 186 x.g_)(a:k<16):w.cell? (Z gx (4+k*2))=some (.bool (x.sr k).r)/\w.cell? (Z gx (4+k*2+1))=some (Y (x.sr k).n):=⟨(h.f_ _).trans (uR x k a).1,(h.f_ _).trans (uR x k a).2⟩
def rK{a gx:Nat}{t:TypeId}{x:X1}{y c u v q:Value}(h:Bk w a t #[y,c,u,v,q])(M:Bk w gx 186 x.g_)(d:k<16){o:Obj}:(((w.alloc o).drew.cell? (Z a 0)=some y/\(w.alloc o).drew.cell? (Z a 1)=some c/\(w.alloc o).drew.cell? (Z a 2)=some u/\(w.alloc o).drew.cell? (Z a 3)=some v/\(w.alloc o).drew.cell? (Z a 4)=some q)/\(w.alloc o).drew.cell? (Z gx (4+k*2))=some (.bool (x.sr k).r)/\(w.alloc o).drew.cell? (Z gx (4+k*2+1))=some (Y (x.sr k).n)):=
 ⟨(h.hF ((H [] w).alloc o).drew).c5,vh (M.hF ((H [] w).alloc o).drew) d⟩
def y_{b:World}{d gx:Nat}{x:X1}{e:World}{c:Array Value}(M:kw b w gx x)(f:Bk w d 189 c)(h:XG gx e w)(v:Array Value):∃W g,(w.alloc (.cells v 38)).drew=W/\w.heap.size=g/\kw b W gx x/\Bk W d 189 c/\Bk W g 38 v/\XG gx e W/\g≠gx:=
 have a:=((H [] w).alloc (.cells v 38)).drew
 ⟨_,_,rfl,rfl,M.hF a,f.hF a,(P_ w 38 v).drew,h.hF a,ov M.bk.lt⟩
def B4(w:World)(gx:Nat)(x:X1)(a d V c:Int)(n:Int)(M:kw b w gx x)(j:a≠8/\a≠9/\a≠10/\a≠20):
 Calls prog 120 #[q_ gx,.agg #[Y a,Y d,Y V,Y c,Y n]] w (ly x.p false b gx w):=by
 obtain⟨q,m,h,e,g,f,aD,C⟩:=r7 M #[Y a,Y d,Y V,Y c,Y n]
 go_enter func120,ntmps120
 go_upto_region 1 with fail
 clear h e;have l:=f.f_ 0;have p:(a=8)=False:=p_;have s:(a==8)=false:=p_;have v:(a !=8)=true:=p_;have A:(a=9)=False:=p_;have t:(a==9)=false:=p_;have r:(a !=9)=true:=p_;have i:(a=10)=False:=p_;have o:(a==10)=false:=p_;have z:(a !=10)=true:=p_;have y:(a=20)=False:=p_;have u:(a==20)=false:=p_;have B:(a !=20)=true:=p_;clear j;exact ME
def vars_9(w:World)(gx:Nat)(x:X1)(E:Nat)(V c:Int)(n:Int)(M:kw b w gx x)(u:E<16)(hs:x.p.e.sm 800000)(h0:0<=n)(h1:n<=1000000):
 Calls prog 120 #[q_ gx,.agg #[Y 9,Y (E:Int),Y V,Y c,Y n]] w (ly ((kM x.p ⟨9,E,V,c,n⟩).getD x.p) true b gx w):=by
 obtain⟨C,t⟩:=mn_ ((kM x.p ⟨9,E,V,c,n⟩).getD x.p);rw[t];have A:=U t;clear t;obtain⟨s,f,aG,S,g,d,D,ae⟩:=r7 M #[Y 9,Y (E:Int),Y V,Y c,Y n]
 go_enter func120,ntmps120
 go_upto_region 1 with fail
 clear aG S;have y:=d.f_ 0
 go_upto_region 3 with fail
 clear y;have T:I [] s s.drew:=(H [] s).drew;refine hN (λw'=>(w'.cell? (Z f 0)=some (Y 9)/\w'.cell? (Z f 1)=some (Y (E:Int))/\w'.cell? (Z f 2)=some (Y V)/\w'.cell? (Z f 3)=some (Y c)/\w'.cell? (Z f 4)=some (Y n))/\w'.cell? (Z gx (4+E*2))=some (.bool (x.sr E).r)/\w'.cell? (Z gx (4+E*2+1))=some (Y (x.sr E).n)) 10 k_ ?_;have a:=And.intro d.drew.c5 (vh (g.bk.drew) u);have aT:(0:Int)<=(E:Int):=X;have aN:(E:Int)<16:=X
 iterate 8 refine jQ a ?_
 refine hZ 8 λo e=>?_
 go_simp;clear a
 refine h4 e (rK d g.bk u) λa=>?_
 clear e o
 refine hZ 9 λo e=>?_
 go_simp;clear a
 refine h4 e (rK d g.bk u) λa=>?_
 clear e o;refine hM k_ ?_ _;obtain⟨aX,aP,K,v,z,p,L,F,aW⟩:=y_ g d D #[.bool (x.sr E).r,Y (x.sr E).n];rw[K,v];clear K v g d D T a;have ar:=p.f_ 4;obtain⟨⟨j,Q,P,ok⟩,R⟩:∃af,hI x.p n=af:=⟨_,rfl⟩;have k:=U R;clear R
 go_upto_region 5 with(go_at_call 167;((with_reducible refine(mf b gx x n z hs h0 h1).mono ?_);rw[k.out];unfold wF;rintro ah ag⟨ak,rfl,B,N,m⟩;have ai:=U N;clear N))
 have aj:=p.xg m ae;have i:=L.xg m aW;have l:=F.trans m;have a2:j.e.sm 800010:=Mx;clear z p L F m ar
 cases ok with
 |false=>
  have HM:Hid (C=j):=U (by rw[<-A.out];show(if(hI x.p n).2.2.2=false then some (hI x.p n).1 else some (ib (hI x.p n).1 (hI x.p n).2.1 (hI x.p n).2.2.1 (x.p.sr E))).getD x.p=j;rw[k.out];rfl);exact Mv
 |true=>
  have HM:Hid (C=ib j Q P (x.sr E)):=U (by rw[<-A.out];show(if(hI x.p n).2.2.2=false then some (hI x.p n).1 else some (ib (hI x.p n).1 (hI x.p n).2.1 (hI x.p n).2.2.1 (x.p.sr E))).getD x.p=_;rw[k.out];rfl)
  have b6:ak.e.ws.l.length<=1000000:=by have q:=a2.ws;rw[<-ai.out]at q;exact G_ q O
  have y:=aj.f_ 0;have v0:=i.f_ 0;have v1:=i.f_ 1
  go_wp2_with (go_at_call 163;((with_reducible refine(j6 b gx ak Q P (x.sr E) B b6).mono ?_);unfold kR;rintro ah ad⟨ao,rfl,ap,J,W⟩;have aY:=U J;clear J))
  go_ret;rw[HM.out];exact⟨ao,rfl,ap,by rw[aY.out,ai.out],l.trans W⟩
def vars_8(w:World)(gx:Nat)(x:X1)(E:Nat)(V c:Int)(n:Int)(M:kw b w gx x)(o:E<16)(hs:x.p.e.sm 800000)(h0:0<=n)(h1:n<=1000000):
 Calls prog 120 #[q_ gx,.agg #[Y 8,Y (E:Int),Y V,Y c,Y n]] w (ly ((kM x.p ⟨8,E,V,c,n⟩).getD x.p) true b gx w):=by
 obtain⟨ae,S⟩:=mn_ ((kM x.p ⟨8,E,V,c,n⟩).getD x.p);rw[S];have J:=U S;clear S;obtain⟨P,d,aG,af,u,m,aD,ah⟩:=r7 M #[Y 8,Y (E:Int),Y V,Y c,Y n]
 go_enter func120,ntmps120
 go_upto_region 1 with fail
 clear aG af;have v:=m.f_ 0
 go_upto_region 3 with fail
 clear v;have aj:I [] P P.drew:=(H [] P).drew;refine hN (λw'=>(w'.cell? (Z d 0)=some (Y 8)/\w'.cell? (Z d 1)=some (Y (E:Int))/\w'.cell? (Z d 2)=some (Y V)/\w'.cell? (Z d 3)=some (Y c)/\w'.cell? (Z d 4)=some (Y n))/\w'.cell? (Z gx (4+E*2))=some (.bool (x.sr E).r)/\w'.cell? (Z gx (4+E*2+1))=some (Y (x.sr E).n)) 10 k_ ?_;have f:=And.intro m.drew.c5 (vh (u.bk.drew) o);have aT:(0:Int)<=(E:Int):=X;have aN:(E:Int)<16:=X
 iterate 8 refine jQ f ?_
 refine hZ 8 λp g=>?_
 go_simp;clear f
 refine h4 g (rK m u.bk o) λf=>?_
 clear g p
 refine hZ 9 λp g=>?_
 go_simp;clear f
 refine h4 g (rK m u.bk o) λf=>?_
 clear g p;refine hM k_ ?_ _;obtain⟨aX,aP,bE,T,W,N,bL,aL,aW⟩:=y_ u m aD #[.bool (x.sr E).r,Y (x.sr E).n];rw[bE,T];clear bE T u m aD aj f;have ar:=N.f_ 4;obtain⟨⟨y,C,A,ok⟩,hy⟩:∃al,hI x.p n=al:=⟨_,rfl⟩;have k:=U hy;clear hy
 go_upto_region 5 with(go_at_call 167;((with_reducible refine(mf b gx x n W hs h0 h1).mono ?_);rw[k.out];unfold wF;rintro an ag⟨ak,rfl,B,bO,z⟩;have ai:=U bO;clear bO))
 have K:=N.xg z ah;have i:=bL.xg z aW;have l:=aL.trans z;have a2:y.e.sm 800010:=Mx;clear W N bL aL z ar
 cases ok with
 |false=>
  have HM:Hid (ae=y):=U (by rw[<-J.out];show(if(hI x.p n).2.2.2=false then some (hI x.p n).1 else some (kY (hW (hI x.p n).1 (hI x.p n).2.1 (hI x.p n).2.2.1).1 E (hW (hI x.p n).1 (hI x.p n).2.1 (hI x.p n).2.2.1).2)).getD x.p=_;rw[k.out];rfl);exact Mv
 |true=>
  obtain⟨a,hv⟩:=mn_ ((hW ak.p C A).2);have R:=U hv;clear hv
  have b6:ak.e.rs.l.length<=1000000:=by have q:=a2.rs;rw[<-ai.out]at q;exact G_ q O
  have v:=K.f_ 0
  go_upto_region 11 with(go_at_call 118;((with_reducible refine(jS b gx ak C A B b6).mono ?_);unfold mZ;rintro an s⟨t,rfl,ap,aR,F⟩;have aY:=U aR;clear aR;rw[R.out]))
  have HM:Hid (ae=kY t.p E a):=U (by rw[<-J.out];show(if(hI x.p n).2.2.2=false then some (hI x.p n).1 else some (kY (hW (hI x.p n).1 (hI x.p n).2.1 (hI x.p n).2.2.1).1 E (hW (hI x.p n).1 (hI x.p n).2.1 (hI x.p n).2.2.1).2)).getD x.p=_;rw[k.out];show kY (hW y C A).1 E (hW y C A).2=_;rw[<-ai.out,R.out,aY.out]);have L:=(K.xg F ah).alloc (.cells #[.bool a.r,Y a.n] 38);have j:=ap.hF ((H [] s).alloc (.cells #[.bool a.r,Y a.n] 38));have Q:=P_ s 38 #[.bool a.r,Y a.n];have bj:=(l.trans F).hF ((H [] s).alloc (.cells #[.bool a.r,Y a.n] 38));clear v R aY J k;obtain⟨e,bR⟩:=nm_ (s.alloc (.cells #[.bool a.r,Y a.n] 38));rw[<-bR]at L j Q bj |-;clear bR;clear ap F B l K i;generalize s.heap.size=D at*;have v:=L.f_ 0
  go_upto_region 13 with fail
  refine hN (λw'=>(w'.cell? (Z d 0)=some (Y 8)/\w'.cell? (Z d 1)=some (Y (E:Int))/\w'.cell? (Z d 2)=some (Y V)/\w'.cell? (Z d 3)=some (Y c)/\w'.cell? (Z d 4)=some (Y n))/\w'.cell? (Z D 0)=some (.bool a.r)/\w'.cell? (Z D 1)=some (Y a.n)) 9 k_ ?_;have f:(e.drew.cell? (Z d 0)=some (Y 8)/\e.drew.cell? (Z d 1)=some (Y (E:Int))/\e.drew.cell? (Z d 2)=some (Y V)/\e.drew.cell? (Z d 3)=some (Y c)/\e.drew.cell? (Z d 4)=some (Y n))/\e.drew.cell? (Z D 0)=some (.bool a.r)/\e.drew.cell? (Z D 1)=some (Y a.n):=⟨L.drew.c5,Q.drew.f_ 0,Q.drew.f_ 1⟩;have aT:(0:Int)<=(E:Int):=X;have aN:(E:Int)<16:=X
  (iterate 9 refine jQ f ?_)
  have bq:e.cell? (Z gx (40+E*2))=some (.bool (t.e.r E).r):=(j.bk.f_ _).trans (kh t E o).1;have bo:e.cell? (Z gx (40+E*2+1))=some (Y (t.e.r E).n):=(j.bk.f_ _).trans (kh t E o).2;have bB:=j.bk.hG (40+E*2);have bM:=j.bk.hG (40+E*2+1)
  refine hZ 9 λp g=>?_
  go_simp;obtain⟨aU,aq⟩:=D0 j a o;refine g.out _ _ (λh=>FU h O) ?_;clear g p
  try simp only[a_]
  refine hM k_ ?_ _;go_wp2;go_ret;rw[HM.out];exact⟨_,rfl,j.r5 aq aU rfl rfl rfl rfl rfl rfl rfl,rfl,bj.it aq⟩
def vars_20(w:World)(gx:Nat)(x:X1)(E:Nat)(V c:Int)(n:Int)(M:kw b w gx x)(ha:E<16)(hs:x.p.e.sm 800000)(h0:0<=n)(h1:n<=1000000):
 Calls prog 120 #[q_ gx,.agg #[Y 20,Y (E:Int),Y V,Y c,Y n]] w (ly ((kM x.p ⟨20,E,V,c,n⟩).getD x.p) true b gx w):=by
 obtain⟨R,hP⟩:=mn_ ((kM x.p ⟨20,E,V,c,n⟩).getD x.p);rw[hP];have MZ:=U hP;clear hP;obtain⟨am,N,aG,af,P,D,aD,ah⟩:=r7 M #[Y 20,Y (E:Int),Y V,Y c,Y n]
 go_enter func120,ntmps120
 go_upto_region 1 with fail
 clear aG af;have L:=D.f_ 0
 go_upto_region 3 with fail
 clear L;have aj:I [] am am.drew:=(H [] am).drew;refine hN (λw'=>(w'.cell? (Z N 0)=some (Y 20)/\w'.cell? (Z N 1)=some (Y (E:Int))/\w'.cell? (Z N 2)=some (Y V)/\w'.cell? (Z N 3)=some (Y c)/\w'.cell? (Z N 4)=some (Y n))/\w'.cell? (Z gx (4+E*2))=some (.bool (x.sr E).r)/\w'.cell? (Z gx (4+E*2+1))=some (Y (x.sr E).n)) 10 k_ ?_;have d:=And.intro D.drew.c5 (vh (P.bk.drew) ha);have aT:(0:Int)<=(E:Int):=X;have aN:(E:Int)<16:=X
 iterate 8 refine jQ d ?_
 refine hZ 8 λo f=>?_
 go_simp;clear d
 refine h4 f (rK D P.bk ha) λd=>?_
 clear f o
 refine hZ 9 λo f=>?_
 go_simp;clear d
 refine h4 f (rK D P.bk ha) λd=>?_
 clear f o;refine hM k_ ?_ _;obtain⟨aX,aP,bE,al,MX,aO,bL,aL,aW⟩:=y_ P D aD #[.bool (x.sr E).r,Y (x.sr E).n];rw[bE,al];clear bE al P D aD aj d;have ar:=aO.f_ 4;obtain⟨⟨s,m,j,ok⟩,hy⟩:∃an,hI x.p n=an:=⟨_,rfl⟩;have k:=U hy;clear hy
 go_upto_region 5 with(go_at_call 167;((with_reducible refine(mf b gx x n MX hs h0 h1).mono ?_);rw[k.out];unfold wF;rintro e ag⟨ak,rfl,B,bO,S⟩;have ai:=U bO;clear bO))
 have aq:=aO.xg S ah;have i:=bL.xg S aW;have l:=aL.trans S;have a2:s.e.sm 800010:=Mx;clear MX aO bL aL S ar
 cases ok with
 |false=>
  have HM:Hid (R=s):=U (by rw[<-MZ.out];show(if(hI x.p n).2.2.2=false then some (hI x.p n).1 else if(hW (hI x.p n).1 (hI x.p n).2.1 (hI x.p n).2.2.1).2.r=true then some (jk (hW (hI x.p n).1 (hI x.p n).2.1 (hI x.p n).2.2.1).1 (-2)) else some {(hW (hI x.p n).1 (hI x.p n).2.1 (hI x.p n).2.2.1).1 with e:={(hW (hI x.p n).1 (hI x.p n).2.1 (hI x.p n).2.2.1).1.e with h6:=3,v:=(hW (hI x.p n).1 (hI x.p n).2.1 (hI x.p n).2.2.1).2,pc:=(hW (hI x.p n).1 (hI x.p n).2.1 (hI x.p n).2.2.1).1.j2,r:=(hW (hI x.p n).1 (hI x.p n).2.1 (hI x.p n).2.2.1).1.sr}}).getD x.p=_;rw[k.out];rfl);exact Mv
 |true=>
  obtain⟨v,hv⟩:=mn_ ((hW ak.p m j).2);have az:=U hv;clear hv
  have b6:ak.e.rs.l.length<=1000000:=by have q:=a2.rs;rw[<-ai.out]at q;exact G_ q O
  have L:=aq.f_ 0
  go_upto_region 11 with(go_at_call 118;((with_reducible refine(jS b gx ak m j B b6).mono ?_);unfold mZ;rintro e K⟨a,rfl,ap,aR,MS⟩;have aY:=U aR;clear aR;rw[az.out]))
  have T:Hid (R=if v.r=true then jk a.p (-2) else{a.p with e:={a.p.e with h6:=3,v:=v,pc:=a.p.j2,r:=a.p.sr}}):=U (by rw[<-MZ.out];show(if(hI x.p n).2.2.2=false then some (hI x.p n).1 else if(hW (hI x.p n).1 (hI x.p n).2.1 (hI x.p n).2.2.1).2.r=true then some (jk (hW (hI x.p n).1 (hI x.p n).2.1 (hI x.p n).2.2.1).1 (-2)) else some {(hW (hI x.p n).1 (hI x.p n).2.1 (hI x.p n).2.2.1).1 with e:={(hW (hI x.p n).1 (hI x.p n).2.1 (hI x.p n).2.2.1).1.e with h6:=3,v:=(hW (hI x.p n).1 (hI x.p n).2.1 (hI x.p n).2.2.1).2,pc:=(hW (hI x.p n).1 (hI x.p n).2.1 (hI x.p n).2.2.1).1.j2,r:=(hW (hI x.p n).1 (hI x.p n).2.1 (hI x.p n).2.2.1).1.sr}}).getD x.p=_;rw[k.out];show(if(hW s m j).2.r=true then some (jk (hW s m j).1 (-2)) else some {(hW s m j).1 with e:={(hW s m j).1.e with h6:=3,v:=(hW s m j).2,pc:=(hW s m j).1.j2,r:=(hW s m j).1.sr}}).getD x.p=_;rw[<-ai.out,az.out,<-aY.out];split<;>rfl)
  have bI:a.p.e.sm 900000:=by
   have q:=kg a2 m j;rw[<-ai.out,<-aY.out]at q;exact q.mono O
  have aE:=(aq.xg MS ah).alloc (.cells #[.bool v.r,Y v.n] 38);have A:=ap.hF ((H [] K).alloc (.cells #[.bool v.r,Y v.n] 38));have z:=P_ K 38 #[.bool v.r,Y v.n];have bj:=(l.trans MS).hF ((H [] K).alloc (.cells #[.bool v.r,Y v.n] 38));have h:K.heap.size≠gx:=ov ap.bk.lt;clear L az aY MZ k;obtain⟨u,bR⟩:=nm_ (K.alloc (.cells #[.bool v.r,Y v.n] 38));rw[<-bR]at aE A z bj |-;clear bR;clear ap MS B l aq i;generalize K.heap.size=Q at*;have L:=aE.f_ 0
  cases F:v.r with
  |true=>
   have HM:Hid (R=jk a.p (-2)):=U (by rw[T.out,U_ F]);rw[F]at z;clear F T;have z0:=z.f_ 0
   go_wp2_with (go_at_call 165;((with_reducible refine(kX b gx a (-2) A bI).mono ?_);unfold kR;rintro e ae⟨C,rfl,y,g,G⟩;have t:=U g;clear g))
   go_ret;rw[HM.out];exact⟨C,rfl,y,t.out,bj.trans G⟩
  |false=>
   have HM:Hid (R={a.p with e:={a.p.e with h6:=3,v:=v,pc:=a.p.j2,r:=a.p.sr}}):=U (by rw[T.out,R_ (by rw[F];decide)]);have z0:u.cell? (Z Q 0)=some (.bool false):=(z.f_ 0).trans (by rw[F];rfl);clear F T
   go_upto_region 25 with fail
   clear L z0;have au:=A.bk.drew;refine hN (λw'=>(∀g,g<33->w'.cell? (Z gx (3+g))=(iM a.j2 a.sr)[g]?)/\w'.cell? (Z Q 0)=some (.bool v.r)/\w'.cell? (Z Q 1)=some (Y v.n)) 20 k_ ?_
   refine m5 ⟨λg t=>by rw[au.f_];exact mB a g t,z.drew.f_ 0,z.drew.f_ 1⟩ λd=>?_
   (iterate 7 refine jQ d ?_)
   refine iv 7 (v:=.agg (iM a.j2 a.sr)) d ?_ (hy:=(Or.inl ⟨r_,λw' bu=>lS 49 rfl gx 3 r_ (λg t=>bu.1 g t) underlying49 rfl k_⟩))
   (iterate 3 refine jQ d ?_)
   have bY:u.cell? (Z gx 38)=some (Y a.e.h6):=(A.bk.f_ 38).trans rfl;have bQ:=A.bk.hG 38
   refine hZ 11 λo f=>?_
   go_simp;have y:Bk ((u.setCell (Z gx 38) (Y 3)).drew) gx 186 ({a with e:={a.e with h6:=3}}:X1).g_:=(A.bk).hV 38 (Y 3);have W:Bk ((u.setCell (Z gx 38) (Y 3)).drew) Q 38 #[.bool v.r,Y v.n]:=(z).ih (p:=(Z gx 38)) h (Y 3);have aF:I [gx] u ((u.setCell (Z gx 38) (Y 3)).drew):=I.drew <| ((H [gx] u)).setCell (p:=(Z gx 38)) (.inl J) (Y 3);obtain⟨C,bV⟩:=nm_ ((u.setCell (Z gx 38) (Y 3)).drew);rw[<-bV]at y W aF |-;clear bV d
   refine h4 f ⟨λg t=>by rw[y.f_];exact mB ({a with e:={a.e with h6:=3}}:X1) g t,W.f_ 0,W.f_ 1⟩ λd=>?_
   clear f o;clear bY bQ
   (iterate 3 refine jQ d ?_)
   have b9:C.cell? (Z gx 79)=some (.bool a.e.v.r):=(y.f_ 79).trans rfl;have ca:C.cell? (Z gx 80)=some (Y a.e.v.n):=(y.f_ 80).trans rfl;have b7:=y.hG 79;have b8:=y.hG 80
   refine hZ 15 λo f=>?_
   go_simp;have bz:Bk ((C.setCell (Z gx 79) (.bool v.r)).setCell (Z gx 80) (Y v.n)) gx 186 ({a with e:={a.e with h6:=3,v:=v}}:X1).g_:=((y).hV 79 (.bool v.r)).hV 80 (Y v.n);have bG:Bk ((C.setCell (Z gx 79) (.bool v.r)).setCell (Z gx 80) (Y v.n)) Q 38 #[.bool v.r,Y v.n]:=((W).ih (p:=(Z gx 79)) h (.bool v.r)).ih (p:=(Z gx 80)) h (Y v.n);have bt:I [gx] u ((C.setCell (Z gx 79) (.bool v.r)).setCell (Z gx 80) (Y v.n)):=((aF).setCell (p:=(Z gx 79)) (.inl J) (.bool v.r)).setCell (p:=(Z gx 80)) (.inl J) (Y v.n);obtain⟨aM,bX⟩:=nm_ ((C.setCell (Z gx 79) (.bool v.r)).setCell (Z gx 80) (Y v.n));rw[<-bX]at bz bG bt |-;clear bX d
   refine h4 f ⟨λg t=>by rw[bz.f_];exact mB ({a with e:={a.e with h6:=3,v:=v}}:X1) g t,bG.f_ 0,bG.f_ 1⟩ λd=>?_
   clear f o;clear b9 b7 ca b8
   iterate 3 refine jQ d ?_
   refine hZ 19 λo f=>?_
   rw[U_ r_];refine jE 49 _ _ rfl gx 39 r_ (iM a.j2 a.sr) r_ 186 _ bz (by show 39+33<=82;decide) k_ (n9) ?_;intro ae b4 G;rw[nu]at b4;have b0:=bG.gr G (zu h);clear d
   refine h4 f ⟨λg t=>by rw[b4.f_];exact mB ({a with e:={a.e with h6:=3,v:=v,pc:=a.j2,r:=a.sr}}:X1) g t,b0.f_ 0,b0.f_ 1⟩ λd=>?_
   clear f o;refine hM k_ ?_ _;go_wp2;go_ret;rw[HM.out];exact⟨_,rfl,A.r5 (x':=({a with e:={a.e with h6:=3,v:=v,pc:=a.j2,r:=a.sr}}:X1)) (bt.trans G) b4 rfl rfl rfl rfl rfl rfl rfl,rfl,bj.it (bt.trans G)⟩
def vars_10(w:World)(gx:Nat)(x:X1)(E:Nat)(V c:Int)(n:Int)(M:kw b w gx x)(ha:E<16)(hs:x.p.e.sm 800000)(h0:0<=n)(h1:n<=1000000):
 Calls prog 120 #[q_ gx,.agg #[Y 10,Y (E:Int),Y V,Y c,Y n]] w (ly ((kM x.p ⟨10,E,V,c,n⟩).getD x.p) true b gx w):=by
 obtain⟨W,hP⟩:=mn_ ((kM x.p ⟨10,E,V,c,n⟩).getD x.p);rw[hP];have MZ:=U hP;clear hP;obtain⟨am,L,aG,al,R,z,aD,an⟩:=r7 M #[Y 10,Y (E:Int),Y V,Y c,Y n]
 go_enter func120,ntmps120
 go_upto_region 1 with fail
 clear aG al;have F:=z.f_ 0
 go_upto_region 3 with fail
 clear F;have aA:I [] am am.drew:=(H [] am).drew;refine hN (λw'=>(w'.cell? (Z L 0)=some (Y 10)/\w'.cell? (Z L 1)=some (Y (E:Int))/\w'.cell? (Z L 2)=some (Y V)/\w'.cell? (Z L 3)=some (Y c)/\w'.cell? (Z L 4)=some (Y n))/\w'.cell? (Z gx (4+E*2))=some (.bool (x.sr E).r)/\w'.cell? (Z gx (4+E*2+1))=some (Y (x.sr E).n)) 10 k_ ?_;have y:=And.intro z.drew.c5 (vh (R.bk.drew) ha);have aT:(0:Int)<=(E:Int):=X;have aN:(E:Int)<16:=X
 iterate 8 refine jQ y ?_
 refine hZ 8 λbd K=>?_
 go_simp;clear y
 refine h4 K (rK z R.bk ha) λy=>?_
 clear K bd
 refine hZ 9 λbd K=>?_
 go_simp;clear y
 refine h4 K (rK z R.bk ha) λy=>?_
 clear K bd;refine hM k_ ?_ _;obtain⟨aX,aP,bE,bf,MX,aO,bL,aL,aW⟩:=y_ R z aD #[.bool (x.sr E).r,Y (x.sr E).n];rw[bE,bf];clear bE bf R z aD aA y;have ar:=aO.f_ 4;obtain⟨⟨o,d,a,ok⟩,hy⟩:∃bh,hI x.p n=bh:=⟨_,rfl⟩;have k:=U hy;clear hy
 go_upto_region 5 with(go_at_call 167;((with_reducible refine(mf b gx x n MX hs h0 h1).mono ?_);rw[k.out];unfold wF;rintro e ag⟨ak,rfl,B,bO,bi⟩;have ai:=U bO;clear bO))
 have bk:=aO.xg bi an;have i:=bL.xg bi aW;have l:=aL.trans bi;have a2:o.e.sm 800010:=Mx;clear MX aO bL aL bi ar
 cases ok with
 |false=>
  have HM:Hid (W=o):=U (by rw[<-MZ.out];show(if(hI x.p n).2.2.2=false then some (hI x.p n).1 else(if(iK V (hW (hI x.p n).1 (hI x.p n).2.1 (hI x.p n).2.2.1).2 (x.sr E)).2≠0 then some (jk (hW (hI x.p n).1 (hI x.p n).2.1 (hI x.p n).2.2.1).1 (iK V (hW (hI x.p n).1 (hI x.p n).2.1 (hI x.p n).2.2.1).2 (x.sr E)).2) else some {(ib (hW (hI x.p n).1 (hI x.p n).2.1 (hI x.p n).2.2.1).1 (hI x.p n).2.1 (hI x.p n).2.2.1 (iK V (hW (hI x.p n).1 (hI x.p n).2.1 (hI x.p n).2.2.1).2 (x.sr E)).1)with e:={(ib (hW (hI x.p n).1 (hI x.p n).2.1 (hI x.p n).2.2.1).1 (hI x.p n).2.1 (hI x.p n).2.2.1 (iK V (hW (hI x.p n).1 (hI x.p n).2.1 (hI x.p n).2.2.1).2 (x.sr E)).1).e with ds:=[⟨(hI x.p n).2.1,(hI x.p n).2.2.1,V,x.sr E⟩]}})).getD x.p=_;rw[k.out];rfl);exact Mv
 |true=>
  obtain⟨f,hv⟩:=mn_ ((hW ak.p d a).2);have az:=U hv;clear hv
  have b6:ak.e.rs.l.length<=1000000:=by have q:=a2.rs;rw[<-ai.out]at q;exact G_ q O
  have F:=bk.f_ 0
  go_upto_region 11 with(go_at_call 118;((with_reducible refine(jS b gx ak d a B b6).mono ?_);unfold mZ;rintro e Q⟨j,rfl,ap,aR,S⟩;have aY:=U aR;clear aR;rw[az.out]))
  obtain⟨⟨m,u⟩,aF⟩:∃q,iK V f (x.sr E)=q:=⟨_,rfl⟩;have aB:=U aF;clear aF;have a6:Hid (W=if u≠0 then jk j.p u else{(ib j.p d a m)with e:={(ib j.p d a m).e with ds:=[⟨d,a,V,x.sr E⟩]}}):=U (by rw[<-MZ.out];show(if(hI x.p n).2.2.2=false then some (hI x.p n).1 else(if(iK V (hW (hI x.p n).1 (hI x.p n).2.1 (hI x.p n).2.2.1).2 (x.sr E)).2≠0 then some (jk (hW (hI x.p n).1 (hI x.p n).2.1 (hI x.p n).2.2.1).1 (iK V (hW (hI x.p n).1 (hI x.p n).2.1 (hI x.p n).2.2.1).2 (x.sr E)).2) else some {(ib (hW (hI x.p n).1 (hI x.p n).2.1 (hI x.p n).2.2.1).1 (hI x.p n).2.1 (hI x.p n).2.2.1 (iK V (hW (hI x.p n).1 (hI x.p n).2.1 (hI x.p n).2.2.1).2 (x.sr E)).1)with e:={(ib (hW (hI x.p n).1 (hI x.p n).2.1 (hI x.p n).2.2.1).1 (hI x.p n).2.1 (hI x.p n).2.2.1 (iK V (hW (hI x.p n).1 (hI x.p n).2.1 (hI x.p n).2.2.1).2 (x.sr E)).1).e with ds:=[⟨(hI x.p n).2.1,(hI x.p n).2.2.1,V,x.sr E⟩]}})).getD x.p=_;rw[k.out];show((if(iK V (hW o d a).2 (x.sr E)).2≠0 then some (jk (hW o d a).1 (iK V (hW o d a).2 (x.sr E)).2) else some {(ib (hW o d a).1 d a (iK V (hW o d a).2 (x.sr E)).1)with e:={(ib (hW o d a).1 d a (iK V (hW o d a).2 (x.sr E)).1).e with ds:=[⟨d,a,V,x.sr E⟩]}})).getD x.p=_;rw[<-ai.out,az.out,<-aY.out,aB.out];show(if u≠0 then some (jk j.p u) else _).getD x.p=_;split<;>rfl)
  have bI:j.p.e.sm 900000:=by
   have q:=kg a2 d a;rw[<-ai.out,<-aY.out]at q;exact q.mono O
  have N:=(bk.xg S an).alloc (.cells #[.bool f.r,Y f.n] 38);have P:=(i.xg S aW).alloc (.cells #[.bool f.r,Y f.n] 38);have bn:=ap.hF ((H [] Q).alloc (.cells #[.bool f.r,Y f.n] 38));have av:=P_ Q 38 #[.bool f.r,Y f.n];have bj:=(l.trans S).hF ((H [] Q).alloc (.cells #[.bool f.r,Y f.n] 38));clear F az aY MZ k;obtain⟨bm,bR⟩:=nm_ (Q.alloc (.cells #[.bool f.r,Y f.n] 38));rw[<-bR]at N P bn av bj |-;clear bR;clear ap S B l bk i;generalize Q.heap.size=bp at*;have F:=N.f_ 0;have au:=N.f_ 2;have v0:=P.f_ 0;have v1:=P.f_ 1;have M0:=av.f_ 0;have bt:=av.f_ 1
  go_upto_region 16 with(go_at_call 164;((with_reducible refine(mL V f (x.sr E)).mono ?_);unfold qt;rintro e ax⟨rfl,ay⟩;rw[aB.out]))
  have A:=ay.alloc (.cells #[.bool m.r,Y m.n] 38);have C:=bn.hF A;have bZ:=N.hF A;have be:=P.hF A;have T:=P_ ax 38 #[.bool m.r,Y m.n];have bg:=bj.hF A;clear F au v0 v1 M0 bt aB;obtain⟨ah,aj⟩:=nm_ (ax.alloc (.cells #[.bool m.r,Y m.n] 38));rw[<-aj]at bZ be C T bg A |-;clear aj;clear bn bj N P A
  have aV:ax.heap.size≠gx:=by have:=ay.size;have:=C.lt;have:=C.gr.size;intro he;have bY:=Bk.l8 T C.bk O;exact bY he
  generalize ax.heap.size=gq at*
  by_cases D:u=0
  .have HM:Hid (W={(ib j.p d a m)with e:={(ib j.p d a m).e with ds:=[⟨d,a,V,x.sr E⟩]}}):=U (by rw[a6.out,R_ (by simp[D])]);have q:(u !=0)=false:=zu D;clear D a6;have b5:j.e.ws.l.length<=1000000:=G_ bI.ws O;have bq:=T.f_ 0;have bo:=T.f_ 1
   go_upto_region 20 with(go_at_call 163;((with_reducible refine(j6 b gx j d a m C b5).mono ?_);unfold kR;rintro e g⟨v,rfl,br,bS,aQ⟩;have bV:=U bS;clear bS))
   have aI:=bZ.xg aQ an;have a8:=be.xg aQ aW;have h:=bg.trans aQ;have au:=aI.f_ 2;have v0:=a8.f_ 0;have v1:=a8.f_ 1;obtain⟨hA,aM⟩:=EO g 124 #[Y d,Y a,Y V,.bool (x.sr E).r,Y (x.sr E).n];have t:=br.hF aM;have aZ:(g.alloc (.cells #[Y d,Y a,Y V,.bool (x.sr E).r,Y (x.sr E).n] 124)).cell? (Z gx 75)=some (.slice v.e.ds.A v.e.ds.l.length v.e.ds.c):=(t.bk.f_ 75).trans rfl;have aK:=t.bk.hG 75;go_wp2;go_ret;have bv:=(H [gx] (g.alloc (.cells #[Y d,Y a,Y V,.bool (x.sr E).r,Y (x.sr E).n] 124))).setCell (p:=(Z gx 75)) (.inl J) (.slice (j_ g.heap.size) 1 1);have aU:Bk ((g.alloc (.cells #[Y d,Y a,Y V,.bool (x.sr E).r,Y (x.sr E).n] 124)).setCell (Z gx 75) (.slice (j_ g.heap.size) 1 1)) gx 186 ({v with e:={v.e with ds:=⟨some (Z g.heap.size 0),1,[⟨d,a,V,x.sr E⟩]⟩}}:X1).g_:=t.bk.hV 75 (.slice (j_ g.heap.size) 1 1);have aH:Ds (g.alloc (.cells #[Y d,Y a,Y V,.bool (x.sr E).r,Y (x.sr E).n] 124)) (j_ g.heap.size) [⟨d,a,V,x.sr E⟩]:=kP (s:=5) hA rfl;rw[HM.out];exact⟨_,rfl,t.B5 (x':=({v with e:={v.e with ds:=⟨some (Z g.heap.size 0),1,[⟨d,a,V,x.sr E⟩]⟩}}:X1)) bv aU rfl rfl rfl rfl t.nw t.nr aH t.h8 t.td (H_ 1) t.pN,Z_ (λbh:XP=>({bh with e:={bh.e with ds:=[⟨d,a,V,x.sr E⟩]}}:XP)) bV.out,(h.hF aM).it bv⟩
  .have HM:Hid (W=jk j.p u):=U (by rw[a6.out,U_ D]);have q:(u !=0)=true:=zu D;clear D a6
   go_wp2_with (go_at_call 165;((with_reducible refine(kX b gx j u C bI).mono ?_);unfold kR;rintro e ae⟨aw,rfl,v,g,G⟩;have t:=U g;clear g))
   go_ret;rw[HM.out];exact⟨aw,rfl,v,t.out,bg.trans G⟩
def oM{x:XP}{i:In}(h:i.op=8∨i.op=9∨i.op=10∨i.op=20):(kM x i).isSome=true:=by
 unfold kM;rw[R_ X];dsimp only
 repeat' split
 all_goals rfl
def sM(M:kw b w gx x)(j:x.p.e.sm 800000)(r:0<=i.a)(s:i.a<16)(h:i.op=8∨i.op=9∨i.op=10∨i.op=20->0<=i.n/\i.n<=1000000):
 Calls prog 120 #[q_ gx,.agg #[Y i.op,Y i.a,Y i.b,Y i.c,Y i.n]] w (ly ((kM x.p i).getD x.p) (kM x.p i).isSome b gx w):=by
 obtain⟨g,q,d,e,f⟩:=i;simp only at r s h |-;obtain⟨c,rfl⟩:∃k:Nat,q=k:=⟨q.toNat,X⟩;have l:c<16:=X
 by_cases n:g=8
 .subst n;have a:=h O;rw[oM J];exact vars_8 b w gx x c d e f M l j a.1 a.2
 by_cases m:g=9
 .subst m;have a:=h O;rw[oM J];exact vars_9 b w gx x c d e f M l j a.1 a.2
 by_cases p:g=10
 .subst p;have a:=h O;rw[oM J];exact vars_10 b w gx x c d e f M l j a.1 a.2
 by_cases o:g=20
 .subst o;have a:=h O;rw[oM J];exact vars_20 b w gx x c d e f M l j a.1 a.2
 have t:kM x.p ⟨g,c,d,e,f⟩=none:=by
  unfold kM;exact U_ ⟨n,m,p,o⟩
 rw[t];exact B4 b w gx x g c d e f M ⟨n,m,p,o⟩
def rest_17(w:World)(gx:Nat)(x:X1)(E:Nat)(V c:Int)(n:Int)(M:kw b w gx x)(o:E<16)(D:x.p.e.sm 800000):
 Calls prog 121 #[q_ gx,.agg #[Y 17,Y (E:Int),Y V,Y c,Y n]] w (kR (.tuple #[]) (j5 x.p ⟨17,E,V,c,n⟩) b gx w):=by
 obtain⟨m,f,Q,F,g,d,u,ae⟩:=r7 M #[Y 17,Y (E:Int),Y V,Y c,Y n]
 go_enter func121,ntmps121
 go_upto_region 1 with fail
 clear Q F;have q:=d.f_ 0;have K:I [] m m.drew:=(H [] m).drew;refine hN (λw'=>(w'.cell? (Z f 0)=some (Y 17)/\w'.cell? (Z f 1)=some (Y (E:Int))/\w'.cell? (Z f 2)=some (Y V)/\w'.cell? (Z f 3)=some (Y c)/\w'.cell? (Z f 4)=some (Y n))/\w'.cell? (Z gx (4+E*2))=some (.bool (x.sr E).r)/\w'.cell? (Z gx (4+E*2+1))=some (Y (x.sr E).n)) 10 k_ ?_;have a:=And.intro d.drew.c5 (vh (g.bk.drew) o);have aT:(0:Int)<=(E:Int):=X;have aN:(E:Int)<16:=X
 iterate 8 refine jQ a ?_
 refine hZ 8 λj e=>?_
 go_simp;clear a
 refine h4 e (rK d g.bk o) λa=>?_
 clear e j
 refine hZ 9 λj e=>?_
 go_simp;clear a
 refine h4 e (rK d g.bk o) λa=>?_
 clear e j;refine hM k_ ?_ _;obtain⟨aX,aP,B,p,N,v,bL,R,aW⟩:=y_ g d u #[.bool (x.sr E).r,Y (x.sr E).n];rw[B,p];clear B p g d u K a;have q:=v.f_ 0
 go_upto_region 40 with(go_at_call 161;((with_reducible refine(mU b gx x N (G_ D.rs O)).mono ?_);unfold uL;rintro af ag⟨A,rfl,J,C,s⟩;have z:=U C;clear C))
 obtain⟨ah,l⟩:=mn_ ((hT x.p).2.1);rw[l];have bo:=U l;clear l;have t:=lY D;rw[<-z.out]at t;have b6:A.e.ws.l.length<=1000000:=G_ t.ws O;have P:=v.xg s ae;have ar:=P.f_ 4;clear q
 go_wp2_with (go_at_call 163;((with_reducible refine(j6 b gx A ah 2 ⟨false,n⟩ J b6).mono ?_);unfold kR;rintro af ad⟨T,rfl,W,y,L⟩;have S:=U y;clear y))
 refine en_ ?_;exact⟨T,rfl,W,by rw[S.out,z.out,<-bo.out];rfl,(R.trans s).trans L⟩
def rest_5(w:World)(gx:Nat)(x:X1)(E d:Nat)(c:Int)(n:Int)(M:kw b w gx x)(z:E<16)(hb:d<16)(hs:x.p.e.sm 800000):
 Calls prog 121 #[q_ gx,.agg #[Y 5,Y (E:Int),Y (d:Int),Y c,Y n]] w (kR (.tuple #[]) (j5 x.p ⟨5,E,d,c,n⟩) b gx w):=by
 obtain⟨W,S⟩:=mn_ (j5 x.p ⟨5,E,d,c,n⟩);rw[S];have P:=U S;clear S;obtain⟨R,f,aG,ae,F,t,aD,af⟩:=r7 M #[Y 5,Y (E:Int),Y (d:Int),Y c,Y n]
 go_enter func121,ntmps121
 go_upto_region 1 with fail
 clear aG ae;have V:=t.f_ 0;have ah:I [] R R.drew:=(H [] R).drew;refine hN (λw'=>(w'.cell? (Z f 0)=some (Y 5)/\w'.cell? (Z f 1)=some (Y (E:Int))/\w'.cell? (Z f 2)=some (Y (d:Int))/\w'.cell? (Z f 3)=some (Y c)/\w'.cell? (Z f 4)=some (Y n))/\w'.cell? (Z gx (4+E*2))=some (.bool (x.sr E).r)/\w'.cell? (Z gx (4+E*2+1))=some (Y (x.sr E).n)) 10 k_ ?_;have a:=And.intro t.drew.c5 (vh (F.bk.drew) z);have aT:(0:Int)<=(E:Int):=X;have aN:(E:Int)<16:=X
 iterate 8 refine jQ a ?_
 refine hZ 8 λm g=>?_
 go_simp;clear a
 refine h4 g (rK t F.bk z) λa=>?_
 clear g m
 refine hZ 9 λm g=>?_
 go_simp;clear a
 refine h4 g (rK t F.bk z) λa=>?_
 clear g m;refine hM k_ ?_ _;obtain⟨D,aP,bE,T,N,L,bL,aL,aW⟩:=y_ F t aD #[.bool (x.sr E).r,Y (x.sr E).n];rw[bE,T];clear bE T F t aD ah a;have V:=L.f_ 0
 go_upto_region 4 with fail
 clear V;obtain⟨⟨C,id,ok⟩,hy⟩:∃aj,iA x.p (x.sr d) n=aj:=⟨_,rfl⟩;have k:=U hy;clear hy;have A:I [] D D.drew:=(H [] D).drew;refine hN (λw'=>(w'.cell? (Z f 0)=some (Y 5)/\w'.cell? (Z f 1)=some (Y (E:Int))/\w'.cell? (Z f 2)=some (Y (d:Int))/\w'.cell? (Z f 3)=some (Y c)/\w'.cell? (Z f 4)=some (Y n))/\w'.cell? (Z gx (4+d*2))=some (.bool (x.sr d).r)/\w'.cell? (Z gx (4+d*2+1))=some (Y (x.sr d).n)) 17 k_ ?_;have a:=And.intro L.drew.c5 (vh (N.bk.drew) hb);have aK:(0:Int)<=(d:Int):=X;have bQ:(d:Int)<16:=X;have al:=N.hF A
 iterate 11 refine jQ a ?_
 refine hZ 11 λm g=>?_
 go_simp
 (go_at_call 168;((with_reducible refine(qK b gx x (x.sr d) n al hs).mono ?_);rw[k.out];unfold BR;rintro e v⟨ak,rfl,B,bO,u⟩;have ai:=U bO;clear bO))
 have an:ak.sr=x.sr:=Ln;have u:XG gx D v:=((XG.refl gx D).hF A).trans u;have Q:=L.xg u af;clear a
 refine h4 g ⟨Q.c5,by rw[<-an];exact(vh (B.bk) hb)⟩ λa=>?_
 clear g m
 (iterate 5 refine jQ a ?_)
 refine hM k_ ?_ _;have i:=bL.xg u aW;have l:=aL.trans u
 have a2:C.e.sm 800010:=by
  have q:=qc hs (x.sr d) n;rw[k.out]at q;exact q.mono O
 clear al N L bL aL u a A;replace ai:Hid (ak.p=C):=ai
 cases ok with
 |false=>
  have HM:Hid (W=C):=U (by rw[<-P.out];show(if(iA x.p (x.sr d) n).2.2=true then kY (hW (iA x.p (x.sr d) n).1 (iA x.p (x.sr d) n).2.1 n).1 E (hW (iA x.p (x.sr d) n).1 (iA x.p (x.sr d) n).2.1 n).2 else(iA x.p (x.sr d) n).1)=_;rw[k.out];rfl);go_wp2;refine en_ ?_;exact MB
 |true=>
  obtain⟨j,hv⟩:=mn_ ((hW ak.p id n).2);have az:=U hv;clear hv
  have b6:ak.e.rs.l.length<=1000000:=by have q:=a2.rs;rw[<-ai.out]at q;exact G_ q O
  have a6:Hid (W=kY (hW ak.p id n).1 E j):=U (by rw[<-P.out];show(if(iA x.p (x.sr d) n).2.2=true then kY (hW (iA x.p (x.sr d) n).1 (iA x.p (x.sr d) n).2.1 n).1 E (hW (iA x.p (x.sr d) n).1 (iA x.p (x.sr d) n).2.1 n).2 else(iA x.p (x.sr d) n).1)=_;rw[k.out];show kY (hW C id n).1 E (hW C id n).2=_;rw[<-ai.out,az.out]);clear P k
  go_upto_region 6 with fail
  have A:I [] v v.drew:=(H [] v).drew;have aq:=B.hF A;refine hN (λw'=>w'.cell? (Z f 0)=some (Y 5)/\w'.cell? (Z f 1)=some (Y (E:Int))/\w'.cell? (Z f 2)=some (Y (d:Int))/\w'.cell? (Z f 3)=some (Y c)/\w'.cell? (Z f 4)=some (Y n)) 13 k_ ?_
  refine m5 Q.drew.c5 λa=>?_
  refine iv 0 a ?_;refine iv 1 a ?_;refine iv 2 a ?_;refine iv 3 a ?_;refine iv 4 a ?_;refine iv 5 a ?_;refine iv 6 a ?_;refine iv 8 a ?_;refine iv 9 a ?_;refine iv 10 a ?_;refine iv 11 a ?_
  refine hZ 7 λm g=>?_
  go_simp
  (go_at_call 118;((with_reducible refine(jS b gx ak id n aq b6).mono ?_);unfold mZ;rintro e s⟨o,rfl,y,aR,K⟩;have aY:=U aR;clear aR;rw[az.out]))
  have K:XG gx v s:=((XG.refl gx v).hF A).trans K;have aE:=Q.xg K af;clear a
  refine h4 g aE.c5 λa=>?_
  clear g m;refine iv 12 a ?_;have bq:s.cell? (Z gx (40+E*2))=some (.bool (o.e.r E).r):=(y.bk.f_ _).trans (kh o E z).1;have bo:s.cell? (Z gx (40+E*2+1))=some (Y (o.e.r E).n):=(y.bk.f_ _).trans (kh o E z).2;have bB:=y.bk.hG (40+E*2);have bM:=y.bk.hG (40+E*2+1)
  refine hZ 13 λm g=>?_
  go_simp
  have aU:Bk ((s.setCell (Z gx (40+E*2)) (.bool j.r)).setCell (Z gx (40+E*2+1)) (Y j.n)) gx 186 (({o with e:={o.e with r:=rf o.e.r E j}}:X1)).g_:=by rw[<-mA o j E z];exact(y.bk.hV (40+E*2) (.bool j.r)).hV (40+E*2+1) (Y j.n)
  have ar:I [gx] s ((s.setCell (Z gx (40+E*2)) (.bool j.r)).setCell (Z gx (40+E*2+1)) (Y j.n)):=(((H [gx] s).setCell (p:=(Z gx (40+E*2))) (.inl J) (.bool j.r)).setCell (p:=(Z gx (40+E*2+1))) (.inl J) (Y j.n));refine g.out _ _ (λh=>FU h O) ?_;clear g m
  try simp only[a_]
  refine hM k_ ?_ _;go_wp2;refine en_ ?_;rw[a6.out,<-aY.out];exact⟨_,rfl,y.r5 ar aU rfl rfl rfl rfl rfl rfl rfl,rfl,(l.trans K).it ar⟩
