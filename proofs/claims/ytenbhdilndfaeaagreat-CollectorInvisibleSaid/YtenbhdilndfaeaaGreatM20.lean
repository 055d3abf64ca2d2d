import Derived.Test.YtenbhdilndfaeaaGreatM19
set_option maxRecDepth 100000
set_option maxHeartbeats 0
set_option linter.all false
namespace Go.Proofs.YtenbhdilndfaeaaGreat
open Go.RowKit Go.Proofs.Tryz
variable{G:Prop}{P:Program}{g:Nat}{cs:Array Value}(A:OA)(c:Nat)(l:List In)(hA:OA)(hH:Int)(hc:Nat)(hC:Int)(hl:List Rw)(t:Tk)
def IG(h:G:=by
 go_wp2_with (go_at_call 148;have R:=ou hA hc hl g ay ⟨c,h⟩ (z.hF aL).os (z.hF aL).k5 aH y;refine R.mono ?_;rintro e ag⟨rfl,S⟩;have B:=((M.hF S).alloc (.cells #[.bool c,Y h] 38));have L:=((P.hF aL).hF S).alloc (.cells #[.bool c,Y h] 38);have av:=P_ ag 38 #[.bool c,Y h];have v0:=B.f_ 0;have v1:=B.f_ 1;have ck:=B.f_ 2;have v3:=B.f_ 3;have M0:=av.f_ 0;have bt:=av.f_ 1;have bW:=L.f_ 0;have r1:=L.f_ 1;have r2:=L.f_ 2;have r3:=L.f_ 3;have s0:=L.hG 0;have s1:=L.hG 1;have b7:=L.hG 2;have cz:=L.hG 3)
 exact Ja):G:=h
def Ja(h:G:=by
 refine F6 (v:=.tuple #[.agg #[Y g,Y ay,.bool xr,Y a],.bool true]) (iG (p:=4) (u:=5) rfl rfl (((((L.hV 0 (Y g)).hV 1 (Y ay)).hV 2 (.bool xr)).hV 3 (Y a))) underlying116 rfl k_) rfl ?_;rw[bp.out];exact⟨rfl,((((((F.trans aL).trans S).alloc _).setCell (p:=(Z gr 0)) (.inr aU) _).setCell (p:=(Z gr 1)) (.inr aU) _).setCell (p:=(Z gr 2)) (.inr aU) _).setCell (p:=(Z gr 3)) (.inr aU) _⟩):G:=h
def Jp(h:G:=by
 have aV:=s.f_ 0;have bM:=P.hG 0;have bq:=P.f_ 0;go_wp2;have T:I [gr] wr (wr.setCell (Z gr 0) (.slice A' rs.length c')):=(H [gr] wr).setCell (.inl J) _;refine rr_ #[.slice A' rs.length c'] (P.hV 0 (.slice A' rs.length c')) underlying35 ⟨A',c',rs,rfl,f.it P O O T,?_,F.jM T aU⟩;rw[q.out,bp.out]):G:=h
def JQ(h:G:=by
 rw[aW];exact⟨x.id,x.f,x.v.r,x.v.n,rfl,(((((MZ.trans S).alloc _).setCell (p:=(Z gr 0)) (.inr aU) _).setCell (p:=(Z gr 1)) (.inr aU) _).setCell (p:=(Z gr 2)) (.inr aU) _).setCell (p:=(Z gr 3)) (.inr aU) _⟩):G:=h
def K3(h:G:=by
 go_roundw
 case rel=>exact⟨k+1,X,gn,by rw[E.out,a2.out],W.hF V,z.hF V,MX.hF V,F.trans V⟩
 case measure=>exact mz):G:=h
def Lz(h:G:=by
 all_goals go_ret
 all_goals rw[HM.out]
 all_goals exact⟨rfl,((F.trans aL).trans S).alloc _⟩):G:=h
def Ts(w:World)(A:OA)(l:List Tk):Prop:=Sl w 53 48 A l.length (l.flatMap λt=>t.g_.toList)
structure xT(w:World)(A:OA)(l:List Tk):Prop where
 row:Ts w A l
 yO:∀t∈l,lh w t
def sT:(t.g_.toList).length=48:=rfl
def xT.hF{w w':World}{A:OA}{l:List Tk}(h:xT w A l)(a:I [] w w'):xT w' A l:=⟨Sl.hF h.row a,λt d=>(h.yO t d).hF a⟩
def xT.at_{w:World}{A:OA}{l:List Tk}(h:xT w A l){k:Nat}(o:k<l.length):∃b d,A=some (Z b d)/\(∀a,a<48->w.cell? (Z b (d+k*48+a))=(l[k]).g_[a]?):=by
 obtain⟨b,d,hA,hc⟩:=Sl.f_ h.row X;refine⟨b,d,hA,λa e=>?_⟩;have m:=jh (λt:Tk=>t.g_.toList) 48 sT l k a o e
 have i:a<(l[k]).g_.size:=by rw[Tk.size];exact e
 have j:(l[k]).g_.toList[a]?=some (l[k]).g_[a]:=by simp[i]
 rw[FR i,Hl];exact hc _ _ (m.trans j)
def nB(h:List Ob)(l:List i3)(k:Int):List Ob:=(l.take k.toNat).foldl lL h
def ya(h:List Ob)(t:i3):(lL h t).length<=h.length+t.nw.length:=by
 unfold lL;rw[nX,jW];exact oQ t.nw h
def vr(l:List i3)(h:List Ob){n:Nat}(a:∀t∈l,t.nw.length<=n):(l.foldl lL h).length<=h.length+l.length*n:=by
 induction l generalizing h with
 |nil=>simp
 |cons t l d=>
  have j:=d (lL h t) (λi e=>a i (FX _ e));have k:=ya h t;have m:=a t Gi;rw[Hf,FK,G1];omega
def Ae(l:List Rw)(TA:OA)(tc:Nat)(ts:List Tk)(k:Int)(w:World)(h:my w A c l)(hn:l.length<=10000000)(MX:xT w TA ts)(cx:ts.length<=100)(ak:∀t∈ts,t.p.sm 500000)(cg:k<=1000000000):
 Calls prog 40 #[.agg #[.slice A l.length c],.slice TA ts.length tc,Y k] w (mt (nB (hX l) (ts.map Tk.p) k) w):=by
 obtain⟨i1,bS,cj,co,cv⟩:=info_parts infoOb
 have ay:∀t∈ts,t.nw.l.length<=500000:=λt ht=>by have:=(ak t ht).nw;have ae:t.p.nw.length=t.nw.l.length:=h7 _;omega
 obtain⟨D,E,o⟩:=pZ w 35 #[.slice A l.length c] 35 #[n_]
 go_enter func40,ntmps40
 go_upto_region 1 with fail
 obtain⟨C,aG⟩:=nm_ ((w.alloc (.cells #[.slice A l.length c] 35)).alloc (.cells #[n_] 35));rw[<-aG]at D E o |-;clear aG;obtain⟨bG,bg⟩:=nm_ w.heap.size;obtain⟨gr,V⟩:=nm_ (w.heap.size+1);rw[<-V]at E;rw[<-bg]at D;rw[<-V,<-bg];have aU:w.heap.size<=gr:=X;clear bg V;have MV:=D.f_ 0;have cN:Sl C 56 2 A l.length (iV l):=(h.hF o).os;have ag:=iT C C.heap.size 56 2
 go_upto_region 2 with(at_builtin;refine iJ _ rfl (.const (n_)) (.tmp 10) 33 rfl C.heap.size 56 i1 _ 2 32 underlying33 bS cj co cv rfl O O none 0 0 _ rfl ag A l.length c _ rfl cN (jT l) X (H_ _) ?_;intro j i u M ar;simp only[W_,FY]at M)
 have e:=ar.gr [] C (H_ _) (H _ _);have aj:my u j i l:=⟨Sl.iR M,(h.hF (o.trans e)).k5,iY M⟩;have br:=D.hF e;have ck:=(E.hF e).alloc (.cells #[.slice j l.length i] 35);have MU:=P_ u 35 #[.slice j l.length i];have g:=aj.hF ((H [] u).alloc (.cells #[.slice j l.length i] 35));have al:=(o.trans e).alloc (.cells #[.slice j l.length i] 35);have a2:=(o.trans e).size
 have am:gr≠u.heap.size:=by have:=E.lt;have:=e.size;omega
 obtain⟨aI,a6⟩:=nm_ (u.alloc (.cells #[.slice j l.length i] 35));rw[<-a6]at ck MU g al |-;clear a6;clear M ar e aj br D E o MV cN ag;generalize u.heap.size=r at*;go_wp2
 go_loopw [8] (λan wr=>∃(a:Nat) (A':OA) (c':Nat) (rs:List Rw),a<=ts.length/\((a:Int)<=k∨a=0)/\an=Y a/\Bk wr r 35 #[.slice A' rs.length c']/\Bk wr gr 35 #[n_]/\my wr A' c' rs/\hX rs=((ts.map Tk.p).take a).foldl lL (hX l)/\I [] w wr) (λan _=>ts.length-(intOf an).toNat)
 case atStart=>exact⟨0,j,i,l,N_ _,.inr rfl,rfl,MU,ck,g,rfl,al⟩
 case round=>
  clear MU ck g al;obtain⟨a,A',c',rs,hm,cC,rfl,s,P,f,bD,F⟩:=hrel;have q:=U bD;clear bD
  by_cases bT:(a:Int)<k
  .by_cases z:a<ts.length
   .have G:(a:Int)<(ts.length:Int):=X;obtain⟨N,S,er,eB⟩:=(MX.hF F).at_ z;subst er
    have aK:rs.length<=100000000:=by
     have Q:=h7 rs
     have h2:=vr ((ts.map Tk.p).take a) (hX l) (n:=500000) (λao hu=>by
      obtain⟨t,ht,rfl⟩:=FQ.1 (Gp hu)
      exact(ak t ht).nw)
     rw[q.out]at Q;rw[Gj,Ge,h7]at h2;have h3:min a ts.length*500000<=100*500000:=Hy _ X;omega
    have aq:=(MX.hF F).yO ts[a] (O_ z);have cI:=ak ts[a] (O_ z);have au:=ay ts[a] (O_ z)
    have bR:=U (show((ts.map Tk.p).take (a+1)).foldl lL (hX l)=lL (hX rs) ts[a].p by
     rw[q.out,T_ (by rw[Ge];exact z),Hg,G9]
     rfl)
    generalize ts[a]=t at*
    go_upto_region 5 with fail
    refine hN (λw'=>w'.cell? (Z r 0)=some (.slice A' rs.length c')/\∀d,d<48->w'.cell? (Z N (S+a*48+d))=t.g_[d]?) 6 k_ ?_;have m:=(H [] wr).drew;replace s:=s.hF m;replace P:=P.hF m;replace f:=f.hF m;replace aq:=aq.hF m;replace F:=F.trans m;have x:wr.drew.cell? (Z r 0)=some (.slice A' rs.length c')/\∀d,d<48->wr.drew.cell? (Z N (S+a*48+d))=t.g_[d]?:=⟨s.f_ 0,eB⟩;have aT:(0:Int)<=(a:Int):=X
    (iterate 4 refine jQ x ?_)
    refine iv 4 (v:=.agg t.g_) x ?_ (hy:=(Or.inl ⟨r_,λw' bu=>lS 53 rfl N (S+a*48) r_ (λd R=>bu.2 d R) underlying53 rfl k_⟩))
    refine hZ 5 λW y=>?_
    go_simp
    (go_at_call 84;((with_reducible refine(vS A' c' rs t aq f X (G_ cI.ws O) (G_ cI.ds O)).mono ?_);unfold mt;rintro ae L⟨aM,c4,r4,rfl,aw,ax,K⟩))
    have az:=U ax;clear ax x
    have a8:∀d,d<48->L.cell? (Z N (S+a*48+d))=t.g_[d]?:=λd R=>by
     have Q:=eB d R
     have hs:d<t.g_.size:=by rw[Tk.size];exact R
     rw[FR hs]at Q |-;exact(m.trans K).f_ Q J
    have B:=s.hF K
    refine h4 y ⟨B.f_ 0,a8⟩ λx=>?_
    clear y W;have b:=P.hF K;have aV:=B.f_ 0;have bB:=B.hG 0;have T:I [r] L (L.setCell (Z r 0) (.slice aM r4.length c4)):=(H [r] L).setCell (.inl J) _
    refine hZ 6 λW y=>?_
    go_simp;refine y.out _ _ (λh=>FU h O) ?_;clear y W;refine hM k_ ?_ _;clear x aV bB;go_wp2;go_roundw
    case rel=>exact⟨a+1,aM,c4,r4,X,X,gn,B.hV 0 _,b.ih (zu am) _,aw.it B O O T,by rw[az.out,bR.out],(F.trans K).jM T a2⟩
    case measure=>exact mz
   .have G:¬(a:Int)<(ts.length:Int):=X
    have bp:=U (show nB (hX l) (ts.map Tk.p) k=((ts.map Tk.p).take a).foldl lL (hX l) by
     unfold nB
     rw[FP (by rw[Ge];omega),FP (by rw[Ge];omega)])
    exact Jp
  .have bp:=U (show nB (hX l) (ts.map Tk.p) k=((ts.map Tk.p).take a).foldl lL (hX l) by
    unfold nB
    have:k.toNat=a:=X
    rw[this])
   exact Jp
def pR(l:List Rw)(id f:Int){w:World}(h:Os w A l)(j:l5 w l)(i:l.length<=1000000000)(d:jy (hX l) id f=none):
 Calls prog 148 #[.agg #[.slice A l.length c],Y id,Y f] w λe w'=>e=.returned (.tuple #[.agg #[.bool false,Y 0],.bool false])/\I [] w w':=by
 have a:=kB A c l id f w h j i;rw[d]at a;exact a
def ou(l:List Rw)(id f:Int)(v:Vl){w:World}(h:Os w A l)(j:l5 w l)(i:l.length<=1000000000)(d:jy (hX l) id f=some v):
 Calls prog 148 #[.agg #[.slice A l.length c],Y id,Y f] w λe w'=>e=.returned (.tuple #[.agg #[.bool v.r,Y v.n],.bool true])/\I [] w w':=by
 have a:=kB A c l id f w h j i;rw[d]at a;exact a
def yF(h:List Ob)(c:Cl):Bool:=match jy h c.id c.f with
 |none=>true
 |some v=> !(v.r==c.v.r&&v.n==c.v.n)
def kO(h:List Ob)(l:List Cl):Option Cl:=l.find? (yF h)
def ue(d:OA)(cc:Nat)(i:List Cl){w:World}(o:my w hA hc hl)(aH:hl.length<=1000000000)(ad:Cs w d i)(cF:i.length<=1000000000):
 Calls prog 181 #[.agg #[.slice hA hl.length hc],.slice d i.length cc] w λe w'=>e=.returned (.tuple #[.agg #[Y ((kO (hX hl) i).getD default).id,Y ((kO (hX hl) i).getD default).f,.bool ((kO (hX hl) i).getD default).v.r,Y ((kO (hX hl) i).getD default).v.n],.bool (kO (hX hl) i).isSome])/\I [] w w':=by
 obtain⟨q,r,C⟩:=pZ w 35 #[.slice hA hl.length hc] 116 #[Y 0,Y 0,.bool false,Y 0];have ae:=U (show i.length=i.length from rfl);obtain⟨n,s⟩:=nm_ i.length;have N:=U s;rw[<-s];rw[<-s]at cF;clear s
 go_enter func181,ntmps181
 go_upto_region 1 with fail
 obtain⟨bw,T⟩:=nm_ ((w.alloc (.cells #[.slice hA hl.length hc] 35)).alloc (.cells #[Y 0,Y 0,.bool false,Y 0] 116));rw[<-T]at q r C |-;clear T;obtain⟨bG,D⟩:=nm_ w.heap.size;obtain⟨gr,x⟩:=nm_ (w.heap.size+1);rw[<-x]at r;rw[<-D]at q;rw[<-x,<-D];have aU:w.heap.size<=gr:=X;clear D x;go_wp2
 go_loopw [12] (λK wr=>∃j:Nat,j<=n/\K=Y j/\kO (hX hl) i=(i.drop j).find? (yF (hX hl))/\Bk wr bG 35 #[.slice hA hl.length hc]/\Bk wr gr 116 #[Y 0,Y 0,.bool false,Y 0]/\I [] w wr) (λK _=>n-(intOf K).toNat)
 case atStart=>exact⟨0,N_ _,rfl,rfl,q,r,C⟩
 case round=>
  clear q r C;obtain⟨j,hk,rfl,Q,ah,P,F⟩:=hrel;have k:=U Q;clear Q
  by_cases af:j<n
  .have O:j<i.length:=by rw[<-N.out];exact af
   obtain⟨b,off,aZ,bj,bz,bP,bQ⟩:=(ad.hF F).at_ O;subst aZ;have W:=Q_ O;generalize i[j]=ai at*;obtain⟨g,ay,xr,a⟩:=ai;simp only at bj bz bP bQ;have m:=U W;clear W;have aL:=(H [] wr).alloc (.cells #[Y g,Y ay,.bool xr,Y a] 116);have M:Bk (wr.alloc (.cells #[Y g,Y ay,.bool xr,Y a] 116)) wr.heap.size 116 #[Y g,Y ay,.bool xr,Y a]:=P_ wr _ _;have MV:=(ah.hF aL).f_ 0;have z:=o.hF F
   cases y:jy (hX hl) g ay with
   |none=>
    have bp:=U (show kO (hX hl) i=some ⟨g,ay,⟨xr,a⟩⟩ by rw[k.out,m.out,H6];unfold yF;simp only[y])
    go_wp2_with (go_at_call 148;have R:=pR hA hc hl g ay (z.hF aL).os (z.hF aL).k5 aH y;refine R.mono ?_;rintro e ag⟨rfl,S⟩;have B:=((M.hF S).alloc (.cells #[.bool false,Y 0] 38));have L:=((P.hF aL).hF S).alloc (.cells #[.bool false,Y 0] 38);have av:=P_ ag 38 #[.bool false,Y 0];have v0:=B.f_ 0;have v1:=B.f_ 1;have ck:=B.f_ 2;have v3:=B.f_ 3;have M0:=av.f_ 0;have bt:=av.f_ 1;have bW:=L.f_ 0;have r1:=L.f_ 1;have r2:=L.f_ 2;have r3:=L.f_ 3;have s0:=L.hG 0;have s1:=L.hG 1;have b7:=L.hG 2;have cz:=L.hG 3)
    exact Ja
   |some v=>
    obtain⟨c,h⟩:=v;have E:=U (show yF (hX hl) ⟨g,ay,⟨xr,a⟩⟩= !(c==xr&&h==a) by unfold yF;simp only[y])
    cases J:(c==xr)with
    |false=>
     have bp:=U (show kO (hX hl) i=some ⟨g,ay,⟨xr,a⟩⟩ by rw[k.out,m.out,H6];rw[E.out,J];rfl);exact IG
    |true=>
     cases V:(h==a)with
     |false=>
      have bp:=U (show kO (hX hl) i=some ⟨g,ay,⟨xr,a⟩⟩ by rw[k.out,m.out,H6];rw[E.out,J,V];rfl);exact IG
     |true=>
      have bp:=U (show kO (hX hl) i=(i.drop (j+1)).find? (yF (hX hl)) by rw[k.out,m.out,List.find?_cons_of_neg];rw[E.out,J,V];decide)
      go_wp2_with (go_at_call 148;have R:=ou hA hc hl g ay ⟨c,h⟩ (z.hF aL).os (z.hF aL).k5 aH y;refine R.mono ?_;rintro e ag⟨rfl,S⟩;have B:=((M.hF S).alloc (.cells #[.bool c,Y h] 38));have L:=((P.hF aL).hF S).alloc (.cells #[.bool c,Y h] 38);have av:=P_ ag 38 #[.bool c,Y h];have ck:=B.f_ 2;have v3:=B.f_ 3;have M0:=av.f_ 0;have bt:=av.f_ 1)
      go_roundw
      case rel=>exact⟨j+1,X,gn,bp.out,((ah.hF aL).hF S).alloc _,L,((F.trans aL).trans S).alloc _⟩
      case measure=>exact mz
  .have m:j=n:=X;have bp:=U (show kO (hX hl) i=none by rw[k.out,m,N.out,List.drop_length];rfl);have bW:=P.f_ 0;have r1:=P.f_ 1;have r2:=P.f_ 2;have r3:=P.f_ 3;have s0:=P.hG 0;have s1:=P.hG 1;have b7:=P.hG 2;have cz:=P.hG 3;go_wp2;refine F6 (v:=.tuple #[.agg #[Y 0,Y 0,.bool false,Y 0],.bool false]) (iG (p:=4) (u:=5) rfl rfl (((((P.hV 0 (Y 0)).hV 1 (Y 0)).hV 2 (.bool false)).hV 3 (Y 0))) underlying116 rfl k_) rfl ?_;rw[bp.out];exact⟨rfl,(((F.setCell (p:=(Z gr 0)) (.inr aU) _).setCell (p:=(Z gr 1)) (.inr aU) _).setCell (p:=(Z gr 2)) (.inr aU) _).setCell (p:=(Z gr 3)) (.inr aU) _⟩
def rP{w:World}(o:my w hA hc hl)(B:hl.length<=1000000000)(D:lh w t)(C:t.rs.l.length<=1000000000):
 Calls prog 150 #[.agg #[.slice hA hl.length hc],.agg t.g_] w λe w'=>∃(F b:Int) (r:Bool) (n:Int),e=.returned (.tuple #[.agg #[Y F,Y b,.bool r,Y n],.bool (kO (hX hl) t.rs.l).isNone])/\I [] w w':=by
 obtain⟨s,k,h,MZ⟩:=wI w 35 #[.slice hA hl.length hc] 53 t.g_ 116 #[Y 0,Y 0,.bool false,Y 0]
 go_enter func150,ntmps150
 go_upto_region 1 with fail
 obtain⟨L,z⟩:=nm_ (((w.alloc (.cells #[.slice hA hl.length hc] 35)).alloc (.cells t.g_ 53)).alloc (.cells #[Y 0,Y 0,.bool false,Y 0] 116));rw[<-z]at s k h MZ |-;clear z;obtain⟨bG,q⟩:=nm_ w.heap.size;obtain⟨Q,i⟩:=nm_ (w.heap.size+1);obtain⟨gr,j⟩:=nm_ (w.heap.size+1+1);rw[<-j]at h;rw[<-i]at k;rw[<-q]at s;rw[<-j,<-i,<-q];have aU:w.heap.size<=gr:=X;clear q j i;have MV:=s.f_ 0;have c:L.cell? (Z Q 37)=some (.slice t.rs.A t.rs.l.length t.rs.c):=(k.f_ 37).trans rfl
 cases aW:kO (hX hl) t.rs.l with
 |none=>
  obtain⟨x,y⟩:=mn_ ((none:Option Cl).getD default)
  go_wp2_with (go_at_call 181;((with_reducible refine(ue hA hc hl t.rs.A t.rs.c t.rs.l (o.hF MZ) B (D.hF MZ).rs C).mono ?_);rw[aW,y];rintro e m⟨rfl,S⟩;have a:=(h.hF S).alloc (.cells #[Y x.id,Y x.f,.bool x.v.r,Y x.v.n] 116);have d:=P_ m 116 #[Y x.id,Y x.f,.bool x.v.r,Y x.v.n];have E:=d.f_ 0;have K:=d.f_ 1;have N:=d.f_ 2;have O:=d.f_ 3;have J:=a.f_ 0;have R:=a.f_ 1;have T:=a.f_ 2;have U:=a.f_ 3;have V:=a.hG 0;have W:=a.hG 1;have H:=a.hG 2;have M:=a.hG 3))
  refine F6 (v:=.tuple #[.agg #[Y x.id,Y x.f,.bool x.v.r,Y x.v.n],.bool true]) (iG (p:=4) (u:=5) rfl rfl (((((a.hV 0 (Y x.id)).hV 1 (Y x.f)).hV 2 (.bool x.v.r)).hV 3 (Y x.v.n))) underlying116 rfl k_) rfl ?_;exact JQ
 |some ad=>
  obtain⟨x,y⟩:=mn_ ((some ad:Option Cl).getD default)
  go_wp2_with (go_at_call 181;((with_reducible refine(ue hA hc hl t.rs.A t.rs.c t.rs.l (o.hF MZ) B (D.hF MZ).rs C).mono ?_);rw[aW,y];rintro e m⟨rfl,S⟩;have a:=(h.hF S).alloc (.cells #[Y x.id,Y x.f,.bool x.v.r,Y x.v.n] 116);have d:=P_ m 116 #[Y x.id,Y x.f,.bool x.v.r,Y x.v.n];have E:=d.f_ 0;have K:=d.f_ 1;have N:=d.f_ 2;have O:=d.f_ 3;have J:=a.f_ 0;have R:=a.f_ 1;have T:=a.f_ 2;have U:=a.f_ 3;have V:=a.hG 0;have W:=a.hG 1;have H:=a.hG 2;have M:=a.hG 3))
  refine F6 (v:=.tuple #[.agg #[Y x.id,Y x.f,.bool x.v.r,Y x.v.n],.bool false]) (iG (p:=4) (u:=5) rfl rfl (((((a.hV 0 (Y x.id)).hV 1 (Y x.f)).hV 2 (.bool x.v.r)).hV 3 (Y x.v.n))) underlying116 rfl k_) rfl ?_;exact JQ
section
open Go.RowKit Go.Maps
def nJ{d:Type}{e:TypeId}(i:P.underlying e=some .bool){v:Value}{a:DataW d × List MemPlace}(h:plainElem P e v=some a):∃x,v=.bool x/\a=(.lit (.bool x),[]):=by
 unfold plainElem at h;rw[i]at h
 cases v<;>simp at h
 exact⟨_,rfl,h.symm⟩
def zW(w:World):(zeroValue 4).run prog w=.ok (.bool false) w:=by kernel_rfl
def Bm(w:World)(b n:Nat)(f:Int->Bool):Prop:=
 ∃D:DataW Unit,w.ownsMap prog 2 (plainElem prog 4) b n D/\IsMap D/\∀id:Int,(Lit.int .i64 id).wf=true->D.atKey (.int .i64 id) (.lit (.bool false))=.lit (.bool (f id))
section
variable{w w':World}{b n:Nat}{f:Int->Bool}
def Bm.made(w:World):Bm (w.alloc (.map #[] 0)) w.heap.size 0 (λ_=>false):=
 ⟨.map [],World.ownsMap_made w _ _ _,⟨[],rfl⟩,λid _=>rfl⟩
def Bm.lt(h:Bm w b n f):b<w.heap.size:=by obtain⟨d,a,_⟩:=h;exact a.lt
def Bm.iz(h:Bm w b n f)(hb:w'.heap[b]?=w.heap[b]?):Bm w' b n f:=LW
def Bm.hF(h:Bm w b n f)(a:I [] w w'):Bm w' b n f:=h.iz (a.block b h.lt J)
def Bm.congr{g:Int->Bool}(h:Bm w b n f)(d:∀i,f i=g i):Bm w b n g:=by
 have a:f=g:=funext d;rw[<-a];exact h
def Bm.C5{t:TypeId}(h:Bm w b n f)(d:Bk w g t cs):g≠b:=by
 rintro rfl;obtain⟨e,⟨i,m,a,j⟩,k⟩:=h;unfold Bk at d;rw[d]at a
 cases a
def Bm.lookup(h:Bm w b n f){id:Int}(d:(Lit.int .i64 id).wf=true):(Instr.lookup 105 (.map (some b)) (.int .i64 id) false).run prog w=.ok (.bool (f id)) w:=by
 obtain⟨p,j,q,k⟩:=h;obtain⟨s,r,e,m⟩:=j.lookup (int_keyed underlying2) underlying105 (zW w) (plainElem_bool underlying4 false) (keyOf_int_mk underlying2 d);obtain⟨u,rfl,o⟩:=nJ underlying4 m;have a:=Z_ Prod.fst o;simp only at a;rw[k id d]at a;have i:=Lit.bool.inj (DataW.lit.inj a);rw[i];exact e
def Bm.update(h:Bm w b n f)(q:n<maxLen){id:Int}{v:Bool}(j:(Lit.int .i64 id).wf=true):
 ∃w',(Instr.mapUpdate 105 (.map (some b)) (.int .i64 id) (.bool v)).run prog w=.ok () w'/\Bm w' b (n+1) (λi=>if i=id then v else f i)/\w.grownBy w' (some b):=by
 obtain⟨r,p,a,h3⟩:=h;obtain⟨w',d,o,m⟩:=p.update (int_keyed underlying2) underlying105 q (keyOf_int_mk underlying2 j) (plainElem_bool underlying4 v);refine⟨w',d,⟨_,o,a.put _ _,λi hi=>?_⟩,m⟩
 by_cases he:i=id
 .subst he
  show _=DataW.lit (.bool (if i=i then v else f i))
  rw[U_ rfl];exact atKey_put_same (k:=.int .i64 i) a trivial _ _
 .show _=DataW.lit (.bool (if i=id then v else f i))
  exact LL
end
def ub(h:List Ob)(d:Dl):Bool:=match jy h d.id d.f with
 |none=>true
 |some v=>v.r
def tZ(h:List Ob)(o:Ob):Bool:=(jl h o.id).isSome
def v7(nw:List Ob)(id:Int):Bool:=i0 (λo:Ob=>o.id==id) nw
def zM(h nw:List Ob)(c:Cl):Bool:=(jy h c.id c.f).isNone&& !(v7 nw c.id)
def pK(h:List Ob)(t:i3):Int:=
 if t.h9≠2/\t.h9≠3 then 7 else
 if(kO h t.rs).isSome=true then 14 else
 if i0 (ub h) t.ds=true then 14 else
 if i0 (tZ h) t.nw=true then 9 else
 if i0 (zM h t.nw) t.ws=true then 9 else 0
def zm{nw:List Ob}{k:Nat}(e:k<nw.length)(i:Int):v7 (nw.take (k+1)) i=(if i=nw[k].id then true else v7 (nw.take k) i):=by
 unfold v7 i0;rw[T_ e,List.any_append];simp only[H4,List.any_nil,Bool.or_false]
 by_cases a:i=nw[k].id
 .rw[U_ a,a];simp
 .rw[R_ a]
  have:(nw[k].id==i)=false:=by simpa using λd=>a d.symm
  rw[this,Bool.or_false]
def rY{w:World}(j:my w hA hc hl)(B:hl.length<=1000000000)(ht:lh w t)(ak:t.p.sm 500000)(bF:∀r∈t.nw.l,mQ r.o.id)(aJ:∀c∈t.ws.l,mQ c.id):
 Calls prog 100 #[.agg #[.slice hA hl.length hc],.agg t.g_] w λe w'=>e=.returned (.int .i64 (pK (hX hl) t.p))/\I [] w w':=by
 have aD:t.rs.l.length<=1000000000:=G_ ak.rs O;have bA:t.ds.l.length<=1000000000:=G_ ak.ds O;have bC:t.ws.l.length<=1000000000:=G_ ak.ws O
 have bB:t.nw.l.length<=1000000:=by have:=ak.nw;have e:t.p.nw.length=t.nw.l.length:=h7 _;omega
 obtain⟨P,hP⟩:=mn_ (pK (hX hl) t.p);rw[hP];have aS:=U hP;clear hP;obtain⟨z,MX,y⟩:=pZ w 35 #[.slice hA hl.length hc] 53 t.g_
 go_enter func100,ntmps100
 go_upto_region 1 with fail
 obtain⟨bw,aG⟩:=nm_ ((w.alloc (.cells #[.slice hA hl.length hc] 35)).alloc (.cells t.g_ 53));rw[<-aG]at z MX y |-;clear aG;obtain⟨ah,al⟩:=nm_ w.heap.size;obtain⟨D,an⟩:=nm_ (w.heap.size+1);rw[<-an]at MX;rw[<-al]at z;rw[<-an,<-al];clear an al;have ct:bw.cell? (Z D 42)=some (.int .i64 t.h9):=(MX.f_ 42).trans rfl;have Y:=z.f_ 0;have br:=MX.f_ 37
 by_cases C:t.h9≠2/\t.h9≠3
 .have HM:Hid (P=7):=U (by rw[<-aS.out];unfold pK;exact U_ C);have bN:(t.h9 !=2)=true:=zu C.1;have bU:(t.h9 !=3)=true:=zu C.2;clear C;go_wp2;go_ret;rw[HM.out];exact⟨rfl,y⟩
 have aO:Hid (P=if(kO (hX hl) t.rs.l).isSome=true then 14 else if i0 (ub (hX hl)) t.ds.l=true then 14 else if i0 (tZ (hX hl)) (hX t.nw.l)=true then 9 else if i0 (zM (hX hl) (hX t.nw.l)) t.ws.l=true then 9 else 0):=U (by rw[<-aS.out];unfold pK;exact R_ C);clear aS
 have bg:∀(q:Prop),q->q:=λ_ aA=>aA
 clear bg
 go_cut [27] (λb a7=>b=.bool false/\a7=bw)
 case first=>
  by_cases d:t.h9=2
  .have bN:(t.h9 !=2)=false:=by simp[d]
   clear C d;go_wp2;go_meet;exact MP
  .have h:t.h9=3:=by
    by_cases h:t.h9=3
    .exact h
    .exact FU ⟨d,h⟩ C
   have bN:(t.h9 !=2)=true:=zu d
   have bU:(t.h9 !=3)=false:=by simp[h]
   clear C d h;go_wp2;go_meet;exact MP
 case rest=>
 obtain⟨rfl,d6⟩:=hcut;subst wc;clear C
 have bp:∀bd,bd<48->bw.cell? (Z D (0+bd))=t.g_[bd]?:=λbd _=>by rw[W_];exact MX.f_ bd
 cases K:(kO (hX hl) t.rs.l).isSome with
 |true=>
  have aj:(kO (hX hl) t.rs.l).isNone=false:=by cases aA:kO (hX hl) t.rs.l with|none=>rw[aA]at K;cases K|some _=>rfl
  have HM:Hid (P=14):=U (by rw[aO.out,U_ K]);clear K
  go_wp2_with (first|(refine kV MX underlying53 ?_)|(go_at_call 150;((with_reducible refine(rP hA hc hl t (j.hF y) B (ht.hF y) aD).mono ?_);rw[aj];rintro e a⟨a6,rb,aM,aK,rfl,S⟩)))
  all_goals go_ret
  all_goals rw[HM.out]
  all_goals exact⟨rfl,(y.trans S).alloc _⟩
 |false=>
  have aj:(kO (hX hl) t.rs.l).isNone=true:=by cases aA:kO (hX hl) t.rs.l with|none=>rfl|some _=>rw[aA]at K;cases K
  have bf:Hid (P=if i0 (ub (hX hl)) t.ds.l=true then 14 else if i0 (tZ (hX hl)) (hX t.nw.l)=true then 9 else if i0 (zM (hX hl) (hX t.nw.l)) t.ws.l=true then 9 else 0):=U (by rw[aO.out,R_ (by rw[K];decide)]);clear K aO
  go_upto_region 6 with(first|(refine kV MX underlying53 ?_)|(go_at_call 150;((with_reducible refine(rP hA hc hl t (j.hF y) B (ht.hF y) aD).mono ?_);rw[aj];rintro e a⟨a6,rb,aM,aK,rfl,S⟩)))
  have aC:I [] bw (a.alloc (.cells #[.int .i64 a6,.int .i64 rb,.bool aM,.int .i64 aK] 116)):=S.alloc _;replace z:=z.hF aC;replace MX:=MX.hF aC;replace y:=y.trans aC;clear aC S Y ct br bp;obtain⟨am,bh⟩:=nm_ (a.alloc (.cells #[.int .i64 a6,.int .i64 rb,.bool aM,.int .i64 aK] 116));rw[<-bh]at z MX y |-;clear bh;have aR:am.cell? (Z D 40)=some (.slice t.ds.A t.ds.l.length t.ds.c):=(MX.f_ 40).trans rfl;go_wp2
  go_loopw [39] (λs wr=>∃k:Nat,k<=t.ds.l.length/\s=.int .i64 k/\i0 (ub (hX hl)) t.ds.l=i0 (ub (hX hl)) (t.ds.l.drop k)/\Bk wr ah 35 #[.slice hA hl.length hc]/\Bk wr D 53 t.g_/\I [] w wr) (λs _=>t.ds.l.length-(intOf s).toNat)
  case atStart=>exact⟨0,N_ _,rfl,rfl,z,MX,y⟩
  case round=>
   clear z MX y aR;obtain⟨k,hk,rfl,G,z,MX,F⟩:=hrel;have E:=U G;clear G
   by_cases x:k<t.ds.l.length
   .have M:(k:Int)<(t.ds.l.length:Int):=X;obtain⟨b,off,aZ,bj,bz,bP,bQ,be⟩:=(ht.ds.hF F).at_ x;rw[aZ];have N:=U (o2 (p:=ub (hX hl)) x);have L:=U (oI (p:=ub (hX hl)) x);generalize t.ds.l[k]=bk at*;obtain⟨Q,R,aP,aQ,aN⟩:=bk;simp only at bj bz bP bQ be;have aL:I [] wr (wr.alloc (.cells #[.int .i64 Q,.int .i64 R,.int .i64 aP,.bool aQ,.int .i64 aN] 124)):=(H [] wr).alloc _;have u:=P_ wr 124 #[.int .i64 Q,.int .i64 R,.int .i64 aP,.bool aQ,.int .i64 aN];have aI:=u.f_ 0;have bL:=u.f_ 1;have Y:=(z.hF aL).f_ 0
    cases h:jy (hX hl) Q R with
    |none=>
     have HM:Hid (P=14):=U (by rw[bf.out,E.out,N.out (by unfold ub;simp only[h]),U_ rfl])
     go_wp2_with (go_at_call 148;have m:=pR hA hc hl Q R (j.hF (F.trans aL)).os (j.hF (F.trans aL)).k5 B h;refine m.mono ?_;rintro e a⟨rfl,S⟩;have i:=P_ a 38 #[.bool false,.int .i64 0];have T:=i.f_ 0;have bt:=i.f_ 1;have aV:=(u.hF (S.alloc (.cells #[.bool false,.int .i64 0] 38))).f_ 0)
     exact Lz
    |some d=>
     cases az:d.r with
     |true=>
      have HM:Hid (P=14):=U (by rw[bf.out,E.out,N.out (by unfold ub;simp only[h];exact az),U_ rfl])
      go_wp2_with (go_at_call 148;have m:=ou hA hc hl Q R d (j.hF (F.trans aL)).os (j.hF (F.trans aL)).k5 B h;refine m.mono ?_;rintro e a⟨rfl,S⟩;have i:=P_ a 38 #[.bool d.r,.int .i64 d.n];have T:=(i.f_ 0).trans (Z_ (λq=>some (Value.bool q)) az);have bt:=i.f_ 1;have aV:=(u.hF (S.alloc (.cells #[.bool d.r,.int .i64 d.n] 38))).f_ 0)
      exact Lz
     |false=>
      have a2:=U (L.out (by unfold ub;simp only[h];exact az))
      go_wp2_with (go_at_call 148;have m:=ou hA hc hl Q R d (j.hF (F.trans aL)).os (j.hF (F.trans aL)).k5 B h;refine m.mono ?_;rintro e a⟨rfl,S⟩;have i:=P_ a 38 #[.bool d.r,.int .i64 d.n];have T:=(i.f_ 0).trans (Z_ (λq=>some (Value.bool q)) az);have bt:=i.f_ 1;have aV:=(u.hF (S.alloc (.cells #[.bool d.r,.int .i64 d.n] 38))).f_ 0)
      have V:I [] wr (a.alloc (.cells #[.bool false,.int .i64 d.n] 38)):=(aL.trans S).alloc _;go_roundw
      case rel=>exact⟨k+1,X,gn,by rw[E.out,a2.out],z.hF V,MX.hF V,F.trans V⟩
      case measure=>exact mz
   .have M:¬(k:Int)<(t.ds.l.length:Int):=X;have ai:Hid (P=if i0 (tZ (hX hl)) (hX t.nw.l)=true then 9 else if i0 (zM (hX hl) (hX t.nw.l)) t.ws.l=true then 9 else 0):=U (by rw[bf.out,E.out,qX X,R_ O]);clear bf E x;have bm:wr.cell? (Z D 39)=some (.slice t.nw.A t.nw.l.length t.nw.c):=(MX.f_ 39).trans rfl;have aF:= @run_makeMap prog;have aB:=Bm.made wr;have aT:w.heap.size<=wr.heap.size:=F.size;have bl:I [] wr (wr.alloc (.map #[] 0)):=(H [] wr).alloc _;replace z:=z.hF bl;replace MX:=MX.hF bl;have l:=F.trans bl
    go_upto_region 14 with fail
    clear M bm aF F bl;obtain⟨aX,ap⟩:=nm_ (wr.alloc (.map #[] 0));rw[<-ap]at z MX aB l |-;clear ap;generalize wr.heap.size=R at*;have bm:aX.cell? (Z D 39)=some (.slice t.nw.A t.nw.l.length t.nw.c):=(MX.f_ 39).trans rfl;have bv:w.heap.size<=R:=aT;clear aT;go_wp2
    go_loopw [63] (λs wr=>∃k:Nat,k<=t.nw.l.length/\s=.int .i64 k/\i0 (tZ (hX hl)) (hX t.nw.l)=i0 (tZ (hX hl)) ((hX t.nw.l).drop k)/\Bm wr R k (v7 ((hX t.nw.l).take k))/\Bk wr ah 35 #[.slice hA hl.length hc]/\Bk wr D 53 t.g_/\I [] w wr) (λs _=>t.nw.l.length-(intOf s).toNat)
    case atStart=>exact⟨0,N_ _,rfl,rfl,aB.congr (λs=>rfl),z,MX,l⟩
    case round=>
     clear z MX l bm aB;obtain⟨k,hk,rfl,G,W,z,MX,F⟩:=hrel;have E:=U G;clear G
     by_cases x:k<t.nw.l.length
     .have M:(k:Int)<(t.nw.l.length:Int):=X
      have ae:k<(hX t.nw.l).length:=by rw[h7];exact x
      obtain⟨b,off,aZ,bj,bz⟩:=(ht.nw.hF F).at_ x;rw[aZ]
      have ad:(hX t.nw.l)[k]=t.nw.l[k].o:=by simp[hX]
      have N:=U (o2 (p:=tZ (hX hl)) ae);have L:=U (oI (p:=tZ (hX hl)) ae);have bn:=U (zm ae);rw[ad]at N L bn;have A:=bF t.nw.l[k] (O_ x);clear ad;generalize t.nw.l[k]=r at*;have aL:I [] wr (wr.alloc (.cells #[.int .i64 r.o.id,.slice r.A r.o.fs.length r.c] 56)):=(H [] wr).alloc _;have u:=P_ wr 56 #[.int .i64 r.o.id,.slice r.A r.o.fs.length r.c];have aI:=u.f_ 0;have Y:=(z.hF aL).f_ 0
      cases h:jl (hX hl) r.o.id with
      |some o=>
       have HM:Hid (P=9):=U (by rw[ai.out,E.out,N.out (by unfold tZ;rw[h];rfl),U_ rfl])
       go_wp2_with (go_at_call 14;have m:=get_some hA hc hl r.o.id o _ (j.hF (F.trans aL)).os (j.hF (F.trans aL)).k5 B h;refine m.mono ?_;rintro e a⟨Q,c5,rfl,ax,S⟩)
       exact Lz
      |none=>
       have a2:=U (L.out (by unfold tZ;rw[h];rfl))
       go_upto_region 20 with(go_at_call 14;have m:=get_none hA hc hl r.o.id _ (j.hF (F.trans aL)).os B h;refine m.mono ?_;rintro e a⟨rfl,S⟩)
       have V:I [] wr (a.alloc (.cells #[.int .i64 0,n_] 56)):=(aL.trans S).alloc _;have Q:=W.hF V;have MU:=z.hF V;have bx:=MX.hF V;have bW:=F.trans V;have bi:=(u.hF (S.alloc (.cells #[.int .i64 0,n_] 56))).f_ 0;clear aI Y;obtain⟨bK,aW⟩:=nm_ (a.alloc (.cells #[.int .i64 0,n_] 56));rw[<-aW]at Q MU bx bW bi |-;clear aW;obtain⟨MT,bD,bq,bE⟩:=Q.update (show k<maxLen by simp only[maxLen];omega) (v:=true) A;go_wp2;have bo:I [R] bK MT:=(H [R] bK).grown bE (λq ao=>by injection ao with ao;subst ao;exact .inl J);go_roundw
       case rel=>exact⟨k+1,X,gn,by rw[E.out,a2.out],bq.congr (λs=>(bn.out s).symm),MU.gr bo (zu (Q.C5 MU)),bx.gr bo (zu (Q.C5 bx)),bW.jM bo bv⟩
       case measure=>exact mz
     .have M:¬(k:Int)<(t.nw.l.length:Int):=X;have aY:Hid (P=if i0 (zM (hX hl) (hX t.nw.l)) t.ws.l=true then 9 else 0):=U (by rw[ai.out,E.out,qX (by rw[h7];omega),R_ O]);have au:Bm wr R k (v7 (hX t.nw.l)):=W.congr (λs=>by rw[FP (by rw[h7];omega)]);clear ai E x W;have aU:wr.cell? (Z D 38)=some (.slice t.ws.A t.ws.l.length t.ws.c):=(MX.f_ 38).trans rfl;obtain⟨m0,cD⟩:=nm_ k;rw[<-cD]at au;obtain⟨bu,bG⟩:=nm_ wr;rw[<-bG]at au z MX F aU |-;clear bG;go_wp2;clear M hk cD
      go_loopw [82] (λs wr=>∃k:Nat,k<=t.ws.l.length/\s=.int .i64 k/\i0 (zM (hX hl) (hX t.nw.l)) t.ws.l=i0 (zM (hX hl) (hX t.nw.l)) (t.ws.l.drop k)/\Bm wr R m0 (v7 (hX t.nw.l))/\Bk wr ah 35 #[.slice hA hl.length hc]/\Bk wr D 53 t.g_/\I [] w wr) (λs _=>t.ws.l.length-(intOf s).toNat)
      case atStart=>exact⟨0,N_ _,rfl,rfl,au,z,MX,F⟩
      case round=>
       clear z MX F aU au;obtain⟨k,hk,rfl,G,W,z,MX,F⟩:=hrel;have E:=U G;clear G
       by_cases x:k<t.ws.l.length
       .have M:(k:Int)<(t.ws.l.length:Int):=X;obtain⟨b,off,aZ,bj,bz,bP,bQ⟩:=(ht.ws.hF F).at_ x;rw[aZ];have N:=U (o2 (p:=zM (hX hl) (hX t.nw.l)) x);have L:=U (oI (p:=zM (hX hl) (hX t.nw.l)) x);have A:=aJ t.ws.l[k] (O_ x);generalize t.ws.l[k]=bk at*;obtain⟨g,Q,xr,bH⟩:=bk;simp only at bj bz bP bQ A;have aL:I [] wr (wr.alloc (.cells #[.int .i64 g,.int .i64 Q,.bool xr,.int .i64 bH] 116)):=(H [] wr).alloc _;have u:=P_ wr 116 #[.int .i64 g,.int .i64 Q,.bool xr,.int .i64 bH];have aI:=u.f_ 0;have bL:=u.f_ 1;have Y:=(z.hF aL).f_ 0
        cases h:jy (hX hl) g Q with
        |some d=>
         have a2:=U (L.out (by unfold zM;simp only[h];rfl))
         go_wp2_with (go_at_call 148;have m:=ou hA hc hl g Q d (j.hF (F.trans aL)).os (j.hF (F.trans aL)).k5 B h;refine m.mono ?_;rintro e a⟨rfl,S⟩;have i:=P_ a 38 #[.bool d.r,.int .i64 d.n];have T:=i.f_ 0;have bt:=i.f_ 1;have aV:=(u.hF (S.alloc (.cells #[.bool d.r,.int .i64 d.n] 38))).f_ 0)
         have V:I [] wr (a.alloc (.cells #[.bool d.r,.int .i64 d.n] 38)):=(aL.trans S).alloc _;exact K3
        |none=>
         cases aq:v7 (hX t.nw.l) g with
         |true=>
          have a2:=U (L.out (by unfold zM;simp only[h,aq];rfl))
          go_wp2_with (go_at_call 148;have m:=pR hA hc hl g Q (j.hF (F.trans aL)).os (j.hF (F.trans aL)).k5 B h;refine m.mono ?_;rintro e a⟨rfl,S⟩;have i:=P_ a 38 #[.bool false,.int .i64 0];have T:=i.f_ 0;have bt:=i.f_ 1;have aV:=(u.hF (S.alloc (.cells #[.bool false,.int .i64 0] 38))).f_ 0;have V:I [] wr (a.alloc (.cells #[.bool false,.int .i64 0] 38)):=(aL.trans S).alloc _;have bT:=(W.hF V).lookup A;rw[aq]at bT)
          exact K3
         |false=>
          have HM:Hid (P=9):=U (by rw[aY.out,E.out,N.out (by unfold zM;simp only[h,aq];rfl),U_ rfl])
          go_wp2_with (go_at_call 148;have m:=pR hA hc hl g Q (j.hF (F.trans aL)).os (j.hF (F.trans aL)).k5 B h;refine m.mono ?_;rintro e a⟨rfl,S⟩;have i:=P_ a 38 #[.bool false,.int .i64 0];have T:=i.f_ 0;have bt:=i.f_ 1;have aV:=(u.hF (S.alloc (.cells #[.bool false,.int .i64 0] 38))).f_ 0;have V:I [] wr (a.alloc (.cells #[.bool false,.int .i64 0] 38)):=(aL.trans S).alloc _;have bT:=(W.hF V).lookup A;rw[aq]at bT)
          all_goals go_ret
          all_goals rw[HM.out]
          all_goals exact⟨rfl,F.trans V⟩
       .have M:¬(k:Int)<(t.ws.l.length:Int):=X;have HM:Hid (P=0):=U (by rw[aY.out,E.out,qX X,R_ O]);go_wp2;go_ret;rw[HM.out];exact⟨rfl,F⟩
end
def uf{w:World}{ops:Array Oper}{rest:List Oper}{o:Oper}{a:Act}{Q:Exit->Act->World->Prop}(L:o.guard=none){l c:Operand}{t:TypeId}(u:o.op=.makeSlice t l c)(e:TypeId)(i:TypeInfo){j:Value}(d bytes:Nat)(v:P.underlying t=some (.slice e))(s:P.info? e=some i)(x:i.zero=some j)(q:i.size=d)(p:i.bytes=bytes)(m f:IntKind)(n:Nat)(hl:a.eval l=.int m (n:Int))(hc:a.eval c=.int f (n:Int))(r:(bytes:Int)*(n:Int)<=281474976710656)(z:n<=1000000000)(h:wpList P ops Q rest (a.put o.dst (.slice (j_ w.heap.size) n n)) (w.alloc (.cells (madeCells j.cells (n*d)) e))):wpList P ops Q (o::rest) a w:=
 wpList_step λy k=>uk (w:=w) L l c t u e i j d bytes v s x q p m f (n:Int) hl hc X r X (k _ _ (zu h))
def rG{w:World}(n:Nat)(v:Vl)(h:Bk w g 38 (((madeCells #[.bool false,Y 0] ((n+1)*2)).setIfInBounds 0 (.bool v.r)).setIfInBounds 1 (Y v.n))):Vs w (j_ g) (v::List.replicate n default):=by
 have r:(madeCells #[Value.bool false,Y 0] ((n+1)*2)).size=(n+1)*2:=size_madeCells _ _;refine⟨by rw[lU],λ_=>⟨g,0,_,(0,0),rfl,h,?_⟩⟩;intro a q e;rw[W_]
 by_cases k:a=0
 .subst k;rw[GU O,If X];exact e
 by_cases m:a=1
 .subst m;rw[If p_];exact e
 rw[GU X,GU X]
 have j:a<(n+1)*2:=by
  have:=(He.1 e).1
  rw[lU,FK,Gh]at this;exact this
 rw[oA _ j];have o:a=(a / 2)*2+a % 2:=X
 have d:(iO (v::List.replicate n default))[(a / 2)*2+a % 2]?=(Vl.E default)[a % 2]?:=by
  unfold iO;rw[j0 Vl.E (λ_=>rfl) _ (a / 2) (a % 2) (by rw[FK,Gh];omega) X]
  have:(v::List.replicate n (default:Vl))[a / 2]'(by rw[FK,Gh];omega)=default:=by
   obtain⟨i,p⟩:∃i,a / 2=i+1:=⟨a / 2-1,X⟩;simp only[p,Hr,H5]
  rw[this]
 rw[<-o,e]at d
 show some ((#[Value.bool false,Value.int .i64 0])[a % 2]!)=some q
 rcases Hx a with h|h
 .rw[h]at d |-;exact d.symm
 .rw[h]at d |-;exact d.symm
def mN(h:Value)(nx:Int):Array Value:=#[h,Y 0,.bool false,Y 0,.bool false,Y 0,.bool false,Y 0,.bool false,Y 0,.bool false,Y 0,.bool false,Y 0,.bool false,Y 0,.bool false,Y 0,.bool false,Y 0,.bool false,Y 0,.bool false,Y 0,.bool false,Y 0,.bool false,Y 0,.bool false,Y 0,.bool false,Y 0,.bool false,Y 0,Y nx,Y 0,n_,.bool false,.bool false,.bool false,Y 0,Y 0]
def nW{A:OA}{n c:Nat}{a:Int}:(mN (.slice A n c) a).all (·.oneCell')=true:=by unfold mN;simp[Value.oneCell']
def startHeap(hH:Int):List Ob:=[⟨1,⟨true,2⟩::List.replicate 2 default⟩,⟨2,⟨true,0⟩::List.replicate (2+hH.toNat) default⟩]
def wG(ok:Bool)(hH:Int)(w:World)(e:Ending)(w':World):Prop:=
 ∃(A:OA) (c:Nat) (rs:List Rw),e=.returned (.tuple #[.agg #[.slice A rs.length c,Y 0,.bool false,Y 0,.bool false,Y 0,.bool false,Y 0,.bool false,Y 0,.bool false,Y 0,.bool false,Y 0,.bool false,Y 0,.bool false,Y 0,.bool false,Y 0,.bool false,Y 0,.bool false,Y 0,.bool false,Y 0,.bool false,Y 0,.bool false,Y 0,.bool false,Y 0,.bool false,Y 0,Y (if ok=true then 3 else 0),Y 0,n_,.bool false,.bool false,.bool false,Y 0,Y 0],Y (if ok=true then 0 else 1)])/\my w' A c rs/\hX rs=(if ok=true then startHeap hH else[])/\I [] w w'
def vz(w:World)(h:Is w A l)(u:l.length<=1000000000)(x:ic l hH hC=false):
 Calls prog 91 #[.agg #[.slice A l.length c,Y hH,Y hC]] w (wG false hH w):=by
 obtain⟨a,e,d⟩:=pZ w 26 #[.slice A l.length c,Y hH,Y hC] 154 #[n_,Y 0,.bool false,Y 0,.bool false,Y 0,.bool false,Y 0,.bool false,Y 0,.bool false,Y 0,.bool false,Y 0,.bool false,Y 0,.bool false,Y 0,.bool false,Y 0,.bool false,Y 0,.bool false,Y 0,.bool false,Y 0,.bool false,Y 0,.bool false,Y 0,.bool false,Y 0,.bool false,Y 0,Y 0,Y 0,n_,.bool false,.bool false,.bool false,Y 0,Y 0]
 go_enter func91,ntmps91
 go_upto_region 1 with fail
 obtain⟨E,m⟩:=nm_ ((w.alloc (.cells #[.slice A l.length c,Y hH,Y hC] 26)).alloc (.cells #[n_,Y 0,.bool false,Y 0,.bool false,Y 0,.bool false,Y 0,.bool false,Y 0,.bool false,Y 0,.bool false,Y 0,.bool false,Y 0,.bool false,Y 0,.bool false,Y 0,.bool false,Y 0,.bool false,Y 0,.bool false,Y 0,.bool false,Y 0,.bool false,Y 0,.bool false,Y 0,.bool false,Y 0,Y 0,Y 0,n_,.bool false,.bool false,.bool false,Y 0,Y 0] 154));rw[<-m]at a e d |-;clear m;obtain⟨s,j⟩:=nm_ w.heap.size;obtain⟨o,i⟩:=nm_ (w.heap.size+1);rw[<-i]at e;rw[<-j]at a;rw[<-i,<-j];have r:w.heap.size<=o:=X;have y:s≠o:=X;clear j i;have B:=a.f_ 0;have z:=a.f_ 1;have D:=a.f_ 2
 go_wp2_with (first|((go_at_call 92;have k:=iU A c l hH hC (h.hF d) u;rw[x]at k;refine k.mono ?_;rintro F I⟨rfl,p⟩);replace e:=e.hF p;replace d:=d.trans p)|(refine kS (mN (n_) 0) e (nW) ?_;intro C q G))
 exact lO (mN (n_) 0) (Y 1) q underlying154 ⟨none,0,[],rfl,⟨Gw _ _ _ _,(λH v=>by cases v),H_ _⟩,rfl,d.jM G r⟩
def w4(v:Nat)(hC:Int)(w:World)(h:Is w A l)(hn:l.length<=1000000000)(hv:ic l (v:Int) hC=true)(MT:v<=64):
 Calls prog 91 #[.agg #[.slice A l.length c,Y (v:Int),Y hC]] w (wG true (v:Int) w):=by
 obtain⟨ah,ad,M0,af,aC⟩:=info_parts infoVl;obtain⟨m,e,k⟩:=pZ w 26 #[.slice A l.length c,Y (v:Int),Y hC] 154 #[n_,Y 0,.bool false,Y 0,.bool false,Y 0,.bool false,Y 0,.bool false,Y 0,.bool false,Y 0,.bool false,Y 0,.bool false,Y 0,.bool false,Y 0,.bool false,Y 0,.bool false,Y 0,.bool false,Y 0,.bool false,Y 0,.bool false,Y 0,.bool false,Y 0,.bool false,Y 0,.bool false,Y 0,Y 0,Y 0,n_,.bool false,.bool false,.bool false,Y 0,Y 0]
 go_enter func91,ntmps91
 go_upto_region 1 with fail
 obtain⟨bw,aG⟩:=nm_ ((w.alloc (.cells #[.slice A l.length c,Y (v:Int),Y hC] 26)).alloc (.cells #[n_,Y 0,.bool false,Y 0,.bool false,Y 0,.bool false,Y 0,.bool false,Y 0,.bool false,Y 0,.bool false,Y 0,.bool false,Y 0,.bool false,Y 0,.bool false,Y 0,.bool false,Y 0,.bool false,Y 0,.bool false,Y 0,.bool false,Y 0,.bool false,Y 0,.bool false,Y 0,.bool false,Y 0,Y 0,Y 0,n_,.bool false,.bool false,.bool false,Y 0,Y 0] 154));rw[<-aG]at m e k |-;clear aG;obtain⟨U,N⟩:=nm_ w.heap.size;obtain⟨x,L⟩:=nm_ (w.heap.size+1);rw[<-L]at e;rw[<-N]at m;rw[<-L,<-N];have aU:w.heap.size<=x:=X;have ag:U≠x:=X;clear N L;have MV:=m.f_ 0;have M:=m.f_ 1;have au:=m.f_ 2
 go_upto_region 3 with(go_at_call 92;have ai:=iU A c l (v:Int) hC (h.hF k) hn;rw[hv]at ai;refine ai.mono ?_;rintro F i⟨rfl,K⟩)
 replace m:=m.hF K;replace e:=e.hF K;replace k:=k.trans K;have E:=k.size
 have g:x≠i.heap.size/\x≠i.heap.size+1/\U≠i.heap.size:=by have h1:=e.lt;have h2:=m.lt;omega
 clear K MV M au
 go_upto_region 4 with(at_make;refine uf rfl rfl 38 ah 2 16 underlying54 ad M0 af aC .i64 .i64 3 r_ r_ X X ?_)
 have o:Bk ((i.alloc (.cells (madeCells #[.bool false,Y 0] (3*2)) 38)).alloc (.cells #[Y 1,.slice (j_ i.heap.size) 3 3] 56)) i.heap.size 38 (madeCells #[.bool false,Y 0] ((2+1)*2)):=(P_ i 38 (madeCells #[.bool false,Y 0] ((2+1)*2))).alloc (.cells #[Y 1,.slice (j_ i.heap.size) 3 3] 56);obtain⟨-,f,-⟩:=pZ i 38 (madeCells #[.bool false,Y 0] (3*2)) 56 #[Y 1,.slice (j_ i.heap.size) 3 3];replace m:=(m.alloc (.cells (madeCells #[.bool false,Y 0] (3*2)) 38)).alloc (.cells #[Y 1,.slice (j_ i.heap.size) 3 3] 56);replace e:=(e.alloc (.cells (madeCells #[.bool false,Y 0] (3*2)) 38)).alloc (.cells #[Y 1,.slice (j_ i.heap.size) 3 3] 56);replace k:=(k.alloc (.cells (madeCells #[.bool false,Y 0] (3*2)) 38)).alloc (.cells #[Y 1,.slice (j_ i.heap.size) 3 3] 56)
 have aj:w.heap.size<=i.heap.size:=by have:=e.lt;have:=E;omega
 have n:x≠i.heap.size/\x≠i.heap.size+1/\U≠i.heap.size:=g;clear g E;obtain⟨Q,ap⟩:=nm_ ((i.alloc (.cells (madeCells #[.bool false,Y 0] (3*2)) 38)).alloc (.cells #[Y 1,.slice (j_ i.heap.size) 3 3] 56));rw[<-ap]at o f m e k |-;clear ap;obtain⟨ak,t⟩:=nm_ (i.heap.size+1);rw[<-t]at f n |-;have al:ak≠i.heap.size:=X;have am:w.heap.size<=ak:=X;clear t;generalize i.heap.size=a at*;have m0:Q.cell? (Z a 0)=some (.bool false):=(o.f_ 0).trans (oA 0 O);have m1:Q.cell? (Z a 1)=some (Y 0):=(o.f_ 1).trans (oA 1 O);have S:=o.hG 0;have T:=o.hG 1;have V:=f.f_ 1
 go_upto_region 5 with fail
 have D:=(o.hV 0 (.bool true)).hV 1 (Y 2);have s:=rG 2 ⟨true,2⟩ D;replace f:=(f.ih (p:=(Z a 0)) al (.bool true)).ih (p:=(Z a 1)) al (Y 2);replace m:=(m.ih (p:=(Z a 0)) n.2.2 (.bool true)).ih (p:=(Z a 1)) n.2.2 (Y 2);replace e:=(e.ih (p:=(Z a 0)) n.1 (.bool true)).ih (p:=(Z a 1)) n.1 (Y 2);replace k:=(k.setCell (p:=(Z a 0)) (.inr aj) (.bool true)).setCell (p:=(Z a 1)) (.inr aj) (Y 2);clear o D m0 m1 S T V;obtain⟨j,a6⟩:=nm_ ((Q.setCell (Z a 0) (.bool true)).setCell (Z a 1) (Y 2));rw[<-a6]at s f m e k |-;clear a6;have M:=m.f_ 1;have E:=k.size
 have g:x≠j.heap.size/\x≠j.heap.size+1/\ak≠j.heap.size/\a≠j.heap.size:=by
  have h1:=e.lt;have h2:=f.lt;refine⟨X,X,X,?_⟩;intro he
  rcases FW a j.heap.size with h3|h3
  .omega
  .obtain⟨b,off,hA,hc⟩:=Sl.f_ s J;injection hA with hA;injection hA with B;have an:=hc 0 (.bool true) rfl;have aw:=yp an;simp only at aw;omega
 go_upto_region 6 with(at_make;refine uf rfl rfl 38 ah 2 16 underlying54 ad M0 af aC .i64 .i64 (3+v) r_ r_ X X ?_)
 have o:Bk ((j.alloc (.cells (madeCells #[.bool false,Y 0] ((3+v)*2)) 38)).alloc (.cells #[Y 2,.slice (j_ j.heap.size) (3+v) (3+v)] 56)) j.heap.size 38 (madeCells #[.bool false,Y 0] ((2+v+1)*2)):=by
  have F:3+v=2+v+1:=X;have q:=(P_ j 38 (madeCells #[.bool false,Y 0] ((3+v)*2))).alloc (.cells #[Y 2,.slice (j_ j.heap.size) (3+v) (3+v)] 56);rw[<-F];exact q
 obtain⟨-,u,-⟩:=pZ j 38 (madeCells #[.bool false,Y 0] ((3+v)*2)) 56 #[Y 2,.slice (j_ j.heap.size) (3+v) (3+v)];replace f:=(f.alloc (.cells (madeCells #[.bool false,Y 0] ((3+v)*2)) 38)).alloc (.cells #[Y 2,.slice (j_ j.heap.size) (3+v) (3+v)] 56);replace s:=(s.alloc (.cells (madeCells #[.bool false,Y 0] ((3+v)*2)) 38)).alloc (.cells #[Y 2,.slice (j_ j.heap.size) (3+v) (3+v)] 56);replace e:=(e.alloc (.cells (madeCells #[.bool false,Y 0] ((3+v)*2)) 38)).alloc (.cells #[Y 2,.slice (j_ j.heap.size) (3+v) (3+v)] 56);replace k:=(k.alloc (.cells (madeCells #[.bool false,Y 0] ((3+v)*2)) 38)).alloc (.cells #[Y 2,.slice (j_ j.heap.size) (3+v) (3+v)] 56);clear m M;obtain⟨y,aW⟩:=nm_ ((j.alloc (.cells (madeCells #[.bool false,Y 0] ((3+v)*2)) 38)).alloc (.cells #[Y 2,.slice (j_ j.heap.size) (3+v) (3+v)] 56));rw[<-aW]at o f u s e k |-;clear aW;obtain⟨ao,aq⟩:=nm_ (j.heap.size+1);rw[<-aq]at u g |-;have ar:ao≠j.heap.size:=X;clear aq;generalize j.heap.size=d at*;have m0:y.cell? (Z d 0)=some (.bool false):=(o.f_ 0).trans (oA 0 X);have m1:y.cell? (Z d 1)=some (Y 0):=(o.f_ 1).trans (oA 1 X);have S:=o.hG 0;have T:=o.hG 1;have V:=u.f_ 1;have aT:(0:Int)<3+(v:Int):=X
 go_upto_region 7 with fail
 have D:=(o.hV 0 (.bool true)).hV 1 (Y 0);have bL:=rG (2+v) ⟨true,0⟩ D;have C:I [d] y ((y.setCell (Z d 0) (.bool true)).setCell (Z d 1) (Y 0)):=((H [d] y).setCell (p:=(Z d 0)) (.inl J) (.bool true)).setCell (p:=(Z d 1)) (.inl J) (Y 0);replace f:=f.gr C (zu g.2.2.1);replace u:=u.gr C (zu ar);replace e:=e.gr C (zu g.1)
 replace s:Vs ((y.setCell (Z d 0) (.bool true)).setCell (Z d 1) (Y 0)) (j_ a) (⟨true,2⟩::List.replicate 2 default):=Sl.iz s (λb off B _=>by
  injection B with B;injection B with B
  exact C.block b (by assumption) (by rw[<-B];simpa using g.2.2.2))
 replace k:=k.jM C E;clear o D m0 m1 S T V C;obtain⟨r,bR⟩:=nm_ ((y.setCell (Z d 0) (.bool true)).setCell (Z d 1) (Y 0));rw[<-bR]at s bL f u e k |-;clear bR;have p0:=f.f_ 0;have p1:=f.f_ 1;have bq:=u.f_ 0;have bo:=u.f_ 1;have z:I [] r (r.alloc (.cells #[Y 1,.slice (j_ a) 3 3,Y 2,.slice (j_ d) (3+v) (3+v)] 56)):=(H [] r).alloc _;have hB:=P_ r 56 #[Y 1,.slice (j_ a) 3 3,Y 2,.slice (j_ d) (3+v) (3+v)]
 go_wp2_with (refine kS (mN (.slice (j_ r.heap.size) 2 2) 3) (e.hF z) (nW) ?_;intro R aB G)
 have av:I [] r R∨True:=.inr trivial;clear av
 have MY:l5 R [(⟨⟨1,⟨true,2⟩::List.replicate 2 default⟩,some (Z a 0),3⟩:Rw),(⟨⟨2,⟨true,0⟩::List.replicate (2+v) default⟩,some (Z d 0),3+v⟩:Rw)]:=by
  intro ax W;have hk:=(e.hF z)
  rcases M_.1 W with rfl|W
  .exact⟨Sl.it (s.hF z) hk O G,by show(3:Nat)<=1000000000;decide⟩
  .have:ax=(⟨⟨2,⟨true,0⟩::List.replicate (2+v) default⟩,some (Z d 0),3+v⟩:Rw):=zu W
   subst this;exact⟨Sl.it (bL.hF z) hk O G,by show(⟨true,0⟩::List.replicate (2+v) (default:Vl)).length<=1000000000;simp;omega⟩
 have aJ:Os R (j_ r.heap.size) [(⟨⟨1,⟨true,2⟩::List.replicate 2 default⟩,some (Z a 0),3⟩:Rw),(⟨⟨2,⟨true,0⟩::List.replicate (2+v) default⟩,some (Z d 0),3+v⟩:Rw)]:=by
  have F:iV [(⟨⟨1,⟨true,2⟩::List.replicate 2 default⟩,some (Z a 0),3⟩:Rw),(⟨⟨2,⟨true,0⟩::List.replicate (2+v) default⟩,some (Z d 0),3+v⟩:Rw)]=(#[Y 1,.slice (j_ a) 3 3,Y 2,.slice (j_ d) (3+v) (3+v)]:Array Value).toList:=by
   simp[iV,Rw.E];omega
  have q:Sl (r.alloc (.cells #[Y 1,.slice (j_ a) 3 3,Y 2,.slice (j_ d) (3+v) (3+v)] 56)) 56 2 (j_ r.heap.size) 2 (iV [(⟨⟨1,⟨true,2⟩::List.replicate 2 default⟩,some (Z a 0),3⟩:Rw),(⟨⟨2,⟨true,0⟩::List.replicate (2+v) default⟩,some (Z d 0),3+v⟩:Rw)]):=by
   rw[F];exact⟨rfl,λ_=>⟨r.heap.size,0,_,(0,0),rfl,hB,λay az hu=>by rw[W_];simpa using hu⟩⟩
  exact Sl.it q (e.hF z) O G
 exact lO (mN (.slice (j_ r.heap.size) 2 2) 3) (Y 0) aB underlying154 ⟨some (Z r.heap.size 0),2,[(⟨⟨1,⟨true,2⟩::List.replicate 2 default⟩,some (Z a 0),3⟩:Rw),(⟨⟨2,⟨true,0⟩::List.replicate (2+v) default⟩,some (Z d 0),3+v⟩:Rw)],rfl,⟨aJ,MY,H_ _⟩,rfl,(k.trans z).jM G aU⟩
def rI{w:World}(h:Is w A l)(i:l.length<=1000000000):
 Calls prog 91 #[.agg #[.slice A l.length c,Y hH,Y hC]] w (wG (ic l hH hC) hH w):=by
 cases a:ic l hH hC with
 |false=>exact vz A c l hH hC w h i a
 |true=>
  have e:=a;unfold ic at e;simp only[F0,GE]at e;obtain⟨d,rfl⟩:∃d:Nat,hH=d:=⟨hH.toNat,X⟩;exact w4 A c l d hC w h i a X
structure Cm where
 h:Sv Rw
 hQ:Int
 jo:Int
 h8:Sv Ac
 jG:Bool
 hY:Bool
 v:Vl
 iS:Int
 hK:Int
def Cm.g_(s:Cm):Array Value:=#[.slice s.h.A s.h.l.length s.h.c,Y s.hQ,Y s.jo,.slice s.h8.A s.h8.l.length s.h8.c,.bool s.jG,.bool s.hY,.bool s.v.r,Y s.v.n,Y s.iS,Y s.hK]
def Cm.one(s:Cm):s.g_.all (·.oneCell')=true:=by unfold Cm.g_;simp[Value.oneCell']
structure p9 where
 h:List Ob
 hQ:Int
 jo:Int
 h8:List Ac
 jG:Bool
 hY:Bool
 v:Vl
 iS:Int
 hK:Int
def Cm.p(s:Cm):p9:=⟨hX s.h.l,s.hQ,s.jo,s.h8.l,s.jG,s.hY,s.v,s.iS,s.hK⟩
structure l6(w:World)(s:Cm):Prop where
 h:my w s.h.A s.h.c s.h.l
 h8:As w s.h8.A s.h8.l
 pN:s.h8.ok
def l6.hF{w w':World}{s:Cm}(h:l6 w s)(a:I [] w w'):l6 w' s:=⟨h.h.hF a,h.h8.hF a,h.pN⟩
def l6.it{w w':World}{s:Cm}{a:TypeId}(h:l6 w s)(i:Bk w g a cs)(d:56≠a/\38≠a/\162≠a)(e:I [g] w w'):l6 w' s:=⟨h.h.it i d.1 d.2.1 e,Sl.it h.h8 i d.2.2 e,h.pN⟩
def Cm.zero:Cm:=⟨.nil,0,0,.nil,false,false,default,0,0⟩
def l6.zero(w:World)(s:Cm)(a:s.h=.nil)(d:s.h8=.nil):l6 w s:=by
 obtain⟨i,G,j,k,m,h,f,b,o⟩:=s;simp only at a d;subst a;subst d;exact⟨⟨Gw _ _ _ _,λp e=>by simp[Sv.nil]at e,H_ _⟩,Gw _ _ _ _,H_ _⟩
def uM(P:p9)(n:Int)(w:World)(e:Ending)(w':World):Prop:=∃s:Cm,e=.returned (.tuple #[.agg s.g_,Y n])/\l6 w' s/\s.p=P/\I [] w w'
def sz(ok:Bool)(hH:Int):p9:=if ok=true then{Cm.zero.p with h:=startHeap hH} else Cm.zero.p
def wu{w:World}(h:Is w A l)(L:l.length<=1000000000):
 Calls prog 47 #[.agg #[.slice A l.length c,Y hH,Y hC]] w (uM (sz (ic l hH hC) hH) (if ic l hH hC=true then 0 else 1) w):=by
 obtain⟨p,o,q⟩:=pZ w 26 #[.slice A l.length c,Y hH,Y hC] 40 #[n_,Y 0,Y 0,n_,.bool false,.bool false,.bool false,Y 0,Y 0,Y 0]
 go_enter func47,ntmps47
 go_upto_region 1 with fail
 obtain⟨V,E⟩:=nm_ ((w.alloc (.cells #[.slice A l.length c,Y hH,Y hC] 26)).alloc (.cells #[n_,Y 0,Y 0,n_,.bool false,.bool false,.bool false,Y 0,Y 0,Y 0] 40));rw[<-E]at p o q |-;clear E;obtain⟨U,x⟩:=nm_ w.heap.size;obtain⟨C,v⟩:=nm_ (w.heap.size+1);rw[<-v]at o;rw[<-x]at p;rw[<-v,<-x];have F:w.heap.size<=C:=X;clear x v;have S:=p.f_ 0;have R:=p.f_ 1;have T:=p.f_ 2
 cases M:ic l hH hC with
 |false=>
  go_wp2_with (first|(go_at_call 91;have r:=rI A c l hH hC (h.hF q) L;rw[M]at r;refine r.mono ?_;unfold wG;rintro B d⟨e,i,a,j,D,K,k⟩;have j:B=.returned (.tuple #[.agg (mN (.slice e a.length i) 0),Y 1]):=j;subst j)|(refine kS (mN (.slice e a.length i) 0) (P_ d 154 #[n_,Y 0,.bool false,Y 0,.bool false,Y 0,.bool false,Y 0,.bool false,Y 0,.bool false,Y 0,.bool false,Y 0,.bool false,Y 0,.bool false,Y 0,.bool false,Y 0,.bool false,Y 0,.bool false,Y 0,.bool false,Y 0,.bool false,Y 0,.bool false,Y 0,.bool false,Y 0,.bool false,Y 0,Y 0,Y 0,n_,.bool false,.bool false,.bool false,Y 0,Y 0]) (nW) ?_;intro u z s;have N:u.cell? (Z d.heap.size 0)=some (.slice e a.length i):=(z.f_ 0).trans rfl)|(refine lD rfl 40 _ _ rfl (C) r_ (Cm.zero.g_) r_ 40 _ ((o.hF k).hF (((H [] d).alloc _).jM s (H_ _))) r_ k_ (Cm.one _) ?_;intro Q y G))
  all_goals (
   have m:I [] d u:=((H [] d).alloc _).jM s (H_ _);have J:=(o.hF k).hF m
   exact lO Cm.zero.g_ (Y 1) y underlying40 ⟨Cm.zero,rfl,l6.zero _ _ rfl rfl,rfl,((q.trans k).trans m).jM G F⟩)
 |true=>
  go_wp2_with (first|(go_at_call 91;have r:=rI A c l hH hC (h.hF q) L;rw[M]at r;refine r.mono ?_;unfold wG;rintro B d⟨e,i,a,j,D,K,k⟩;have j:B=.returned (.tuple #[.agg (mN (.slice e a.length i) 3),Y 0]):=j;subst j)|(refine kS (mN (.slice e a.length i) 3) (P_ d 154 #[n_,Y 0,.bool false,Y 0,.bool false,Y 0,.bool false,Y 0,.bool false,Y 0,.bool false,Y 0,.bool false,Y 0,.bool false,Y 0,.bool false,Y 0,.bool false,Y 0,.bool false,Y 0,.bool false,Y 0,.bool false,Y 0,.bool false,Y 0,.bool false,Y 0,.bool false,Y 0,.bool false,Y 0,Y 0,Y 0,n_,.bool false,.bool false,.bool false,Y 0,Y 0]) (nW) ?_;intro u z s;have N:u.cell? (Z d.heap.size 0)=some (.slice e a.length i):=(z.f_ 0).trans rfl)|(refine lD rfl 40 _ _ rfl (C) r_ (({Cm.zero with h:=⟨e,i,a⟩}:Cm).g_) r_ 40 _ ((o.hF k).hF (((H [] d).alloc _).jM s (H_ _))) r_ k_ (Cm.one _) ?_;intro Q y G))
  all_goals (
   have m:I [] d u:=((H [] d).alloc _).jM s (H_ _);have J:=(o.hF k).hF m
   exact lO ({Cm.zero with h:=⟨e,i,a⟩}:Cm).g_ (Y 0) y underlying40 ⟨({Cm.zero with h:=⟨e,i,a⟩}:Cm),rfl,⟨(D.hF m).it J O O G,Gw _ _ _ _,H_ _⟩,by unfold sz;rw[U_ rfl,<-show hX a=startHeap hH from K];rfl,((q.trans k).trans m).jM G F⟩)
def mD(c:List In)(hH hC:Int)(d:List Int)(t:i3)(view:List Ob):(jd c hH hC d t view).run=t.run:=by
 unfold jd;simp only;split
 .rfl
 split
 .rfl
 split
 .rfl
 .rename_i e a
  have:=(lG a).run
  split
  .exact this
  split
  .exact this
  .exact this
def og(c:List In)(hH hC:Int)(d:List Int)(view:List Ob):Nat->i3->i3
 |0,t=>t
 |n+1,t=>if t.h9=0 then og c hH hC d view n (jd c hH hC d t view) else t
def AD(c:List In)(hH hC:Int)(d:List Int)(view:List Ob)(t:i3):i3:=og c hH hC d view (todo c t+1) t
def y0{c:List In}{hH hC:Int}{d:List Int}{view:List Ob}(n:Nat){t:i3}(h:t.h9≠0):og c hH hC d view n t=t:=by
 cases n with
 |zero=>rfl
 |succ n=>unfold og;rw[R_ h]
def Bb(w:World)(g i:Nat):Int:=match w.cell? (Z g i)with
 |some (.int _ n)=>n
 |_=>0
def u1{w:World}{i:Nat}{k:IntKind}{n:Int}(h:w.cell? (Z g i)=some (.int k n)):Bb w g i=n:=by unfold Bb;rw[h]
def left(l:List In)(g:Nat)(w:World):Nat:=if Bb w g 42=0 then(64-Bb w g 47).toNat*(l.length+3)+o9 l (Bb w g 3)+1 else 0
def left_of{l:List In}{w:World}{t:Tk}(h:Bk w g 53 t.g_):left l g w=if t.h9=0 then todo l t.p+1 else 0:=by
 unfold left;rw[u1 ((h.f_ 42).trans rfl),u1 ((h.f_ 47).trans rfl),u1 ((h.f_ 3).trans rfl)]
 rfl
def y1(o:OA)(B:Nat)(d:List Int)(t:Tk)(p:OA)(vc:Nat)(b:List Rw){w:World}(af:Is w A l)(hn:l.length<=1000000000)(hD:Ns w 3 o d)(hd:d.length<=1000000000)(ht:lh w t)(hv:my w p vc b)(F:qT l hH hC d=true)(cN:b.length<=99999999)(bL:0<=t.run)(bO:t.run<=1099511627776)(aE:t.h9=0->Way l t.p):
 Calls prog 50 #[.agg #[.slice A l.length c,Y hH,Y hC],.agg #[.slice o d.length B],.agg t.g_,.agg #[.slice p b.length vc]] w (ni (AD l hH hC d (hX b) t.p) 0 w):=by
 have aD:=by unfold qT at F;simp only[F0]at F;exact F.2
 have cj:=L8;obtain⟨R,K⟩:=mn_ (AD l hH hC d (hX b) t.p);rw[K];unfold AD at K;obtain⟨k,v,e,x,m,E⟩:=Fl w 26 #[.slice A l.length c,Y hH,Y hC] 32 #[.slice o d.length B] 53 t.g_ 35 #[.slice p b.length vc] 53 lA
 go_enter func50,ntmps50
 go_upto_region 1 with fail
 obtain⟨bw,aG⟩:=nm_ (((((w.alloc (.cells #[.slice A l.length c,Y hH,Y hC] 26)).alloc (.cells #[.slice o d.length B] 32)).alloc (.cells t.g_ 53)).alloc (.cells #[.slice p b.length vc] 35)).alloc (.cells lA 53));rw[<-aG]at k v e x m E |-;clear aG;obtain⟨bT,T⟩:=nm_ w.heap.size;obtain⟨aY,Q⟩:=nm_ (w.heap.size+1);obtain⟨h,ap⟩:=nm_ (w.heap.size+1+1);obtain⟨W,N⟩:=nm_ (w.heap.size+1+1+1);obtain⟨gr,j⟩:=nm_ (w.heap.size+1+1+1+1);rw[<-j]at m;rw[<-N]at x;rw[<-ap]at e;rw[<-Q]at v;rw[<-T]at k;rw[<-j,<-N,<-ap,<-Q,<-T];have aU:w.heap.size<=gr:=X;have cM:w.heap.size<=h:=X;have ar:bT≠h/\aY≠h/\W≠h/\gr≠h:=X;clear T Q ap N j;go_wp2
 go_loopw [12] (λ_ wr=>∃(a:Tk) (n:Nat),Bk wr bT 26 #[.slice A l.length c,Y hH,Y hC]/\Bk wr aY 32 #[.slice o d.length B]/\Bk wr h 53 a.g_/\Bk wr W 35 #[.slice p b.length vc]/\Bk wr gr 53 lA/\lh wr a/\I [] w wr/\a.run=t.run/\og l hH hC d (hX b) n a.p=R/\(a.h9=0->Way l a.p/\todo l a.p+1<=n)) (λ_ wr=>left l h wr)
 case atStart=>exact⟨t,todo l t.p+1,k,v,e,x,m,ht.hF E,E,rfl,K,λi=>⟨aE i,H_ _⟩⟩
 case round=>
  clear k v e x m E K aE;obtain⟨a,n,k,v,e,x,m,ai,j,J,M,g⟩:=hrel;have aj:=U (left_of (l:=l) e)
  by_cases s:a.h9=0
  .obtain⟨u,ak⟩:=g s;have ct:wr.cell? (Z h 42)=some (Y 0):=(e.f_ 42).trans (Z_ (λn=>some (Value.int .i64 n)) s);have MV:=k.f_ 0;have MU:=k.f_ 1;have au:=k.f_ 2;have aV:=v.f_ 0;have v0:=x.f_ 0
   have al:0<=a.run:=by rw[J];exact bL
   have am:a.run<=1099511627776:=by rw[J];exact bO
   have bV:=u.s1;have aC:=u.s0
   have MY:a.hK<=1000000:=by have an:a.p.hK=a.hK:=rfl;omega
   have ao:128*a.p.hK.toNat<=500000:=X
   have aq:a.pc<=1000000:=by have i:=u.hi;have an:a.p.pc=a.pc:=rfl;omega
   have cO: -1<=a.pc:=u.lo;have av:0<=a.hK:=u.s0;have f:=U M;have D:=U s;have aw:=U J;clear M J bV aC
   go_wp2_with (first|(refine kV e underlying53 ?_)|(go_at_call 39;((with_reducible refine(un A c l hH hC o B d a p vc b _ (af.hF j) hn (hD.hF j) hd ai (hv.hF j) F s (u.sm.mono ao) cN cO aq al am av MY).mono ?_);unfold ni;rintro an L⟨C,rfl,ax,V,M0⟩))|(refine kS (C.g_) (P_ L 53 lA) (Tk.one _) ?_;intro ag bD S)|(refine kV bD underlying53 ?_)|(refine lD rfl 53 _ _ rfl (h) r_ (C.g_) r_ 53 _ ((e.hF M0).hF (((H [] L).alloc _).jM S (H_ _))) r_ k_ (Tk.one _) ?_;intro r bQ y))
   have z:=M0.trans (((H [] L).alloc _).jM S (H_ _));have MX:=((H [] L).alloc _).jM S (H_ _);obtain⟨n1,n2,n3,n4⟩:=ar;obtain⟨sm,st0,st1,lo,hi,ay⟩:=um aD u D.out (d:=d) (view:=hX b);rw[<-V]at ay;go_roundw
   case rel=>
    have az:∃(a:Tk) (n:Nat),Bk r bT 26 #[.slice A l.length c,Y hH,Y hC]/\Bk r aY 32 #[.slice o d.length B]/\Bk r h 53 a.g_/\Bk r W 35 #[.slice p b.length vc]/\Bk r gr 53 lA/\lh r a/\I [] w r/\a.run=t.run/\og l hH hC d (hX b) n a.p=R/\(a.h9=0->Way l a.p/\todo l a.p+1<=n):=by
     refine⟨C,n-1,(k.hF z).gr y (zu n1),(v.hF z).gr y (zu n2),bQ,(x.hF z).gr y (zu n3),(m.hF z).gr y (zu n4),(ax.hF MX).it (e.hF z) O y,(j.trans z).jM y cM,?_,?_,?_⟩
     .have i:C.p.run=C.run:=rfl;rw[<-i,V,mD];exact aw.out
     .obtain⟨aA,rfl⟩:∃aA,n=aA+1:=⟨n-1,X⟩;have i:=f.out;unfold og at i;rw[U_ (show a.p.h9=0 from D.out),<-V]at i;exact i
     .intro h0;obtain⟨i,h2⟩:=ay h0;exact⟨i,X⟩
    repeat apply Exists.intro
    first|exact az|exact⟨az,rfl⟩
    all_goals exact undef
   case measure=>
    have i:=aj.out;rw[U_ D.out]at i;have h2:=left_of (l:=l) bQ;rw[i,h2];split
    .rename_i h0
     have:=(ay h0).2
     omega
    .omega
  .have q:(a.h9==0)=false:=zu s;have ct:wr.cell? (Z h 42)=some (Y a.h9):=(e.f_ 42).trans rfl;have f:=U M;have D:=U s;clear s M g
   go_wp2_with (first|(refine kV e underlying53 ?_)|(refine kS (a.g_) m (Tk.one _) ?_;intro r i G))
   have HM:R=a.p:=by rw[<-f.out];exact y0 n D.out
   rw[HM];exact lO a.g_ (Y 0) i underlying53 ⟨a,rfl,ai.it m O G,rfl,j.jM G aU⟩
def lK(f:Fo)(dst:Int):Fo:=if f.dst=dst then⟨f.fr,f.dst,if 3<f.n+1 then 3 else f.n+1⟩ else if f.n-1<=0 then⟨f.fr,dst,1⟩ else⟨f.fr,f.dst,f.n-1⟩
def lk(l:List Fo)(fr dst:Int):List Fo:=
 if pd l fr=true then l.set (lw l fr) (lK (l.getD (lw l fr) default) dst) else l.take (lw l fr)++([⟨fr,dst,1⟩]++l.drop (lw l fr))
def yt(P:List Fo)(w:World)(e:Ending)(w':World):Prop:=∃(A:OA) (d:Nat),e=.returned (.agg #[.slice A P.length d])/\Fs w' A P/\P.length<=d/\I [] w w'
def yL(l:List Fo)(e i:Int)(w:World)(h:Fs w A l)(hn:l.length<=1000000000)(x:pd l e=false):
 Calls prog 51 #[.agg #[.slice A l.length c],Y e,Y i] w (yt (lk l e i) w):=by
 have aS:=U (show lk l e i=l.take (lw l e)++([⟨e,i,1⟩]++l.drop (lw l e)) by unfold lk;rw[x];rfl);obtain⟨a,F⟩:=nm_ (lw l e)
 have hk:a<=l.length:=by rw[F];exact CO
 have M:=U F;clear F;obtain⟨T,S,R,N,V⟩:=info_parts infoFo;obtain⟨d,E,q⟩:=pZ w 96 #[.slice A l.length c] 96 #[n_]
 go_enter func51,ntmps51
 go_upto_region 1 with fail
 obtain⟨o,aG⟩:=nm_ ((w.alloc (.cells #[.slice A l.length c] 96)).alloc (.cells #[n_] 96));rw[<-aG]at d E q |-;clear aG;obtain⟨gs,L⟩:=nm_ w.heap.size;obtain⟨D,K⟩:=nm_ (w.heap.size+1);rw[<-K]at E;rw[<-L]at d;rw[<-K,<-L];have aU:w.heap.size<=D:=X;clear L K;have MV:=d.f_ 0;have cN:Sl o 168 3 A l.length (l.flatMap Fo.E):=h.hF q
 go_upto_region 2 with(at_builtin;refine iJ _ rfl (.const (n_)) (.tmp 12) 94 rfl o.heap.size 168 T _ 3 24 underlying94 S R N V rfl O O none 0 0 [] rfl (iT _ _ _ _) A l.length c _ rfl cN (u3 l) X (H_ _) ?_;intro B z w2 Q ar;simp only[W_,FY]at Q;have MV:=(d.hF (ar.gr [] o (H_ _) (H _ _))).f_ 0)
 have p:I [] o w2:=ar.gr [] o (H_ _) (H _ _);have ao:Fs w2 B l:=Sl.iR Q;have aL:=iY Q;have bi:=d.hF p;have ck:=E.hF p;clear d E
 go_upto_region 4 with(go_at_call 99;((with_reducible refine(qW A c l e (h.hF (q.trans p)) hn).mono ?_);rw[x];rintro ad k⟨rfl,r⟩))
 rw[<-M.out];clear MV;refine hN (λ_=>True) 14 k_ ?_;have ae:I [] k k.drew:=(H [] k).drew;obtain⟨bK,P⟩:=nm_ k.drew;rw[<-P]at ae |-;clear P;have d:True:=trivial;have aT:(0:Int)<=(a:Int):=X;have aN:(a:Int)<=(l.length:Int):=X;have aK:(a:Int)<=(z:Int):=X;have aF:=U (show ∀W∈(#[Y e,Y i,Y 1]:Array Value).toList++(l.drop a).flatMap Fo.E,W.oneCell'=true from λW hu=>u3 (⟨e,i,1⟩::l.drop a) W hu)
 (iterate 3 refine jQ d ?_)
 refine iv 3 (v:=.slice B a a) d ?_ (hy:=(Or.inl ⟨r_,(by intro w' bu;go_simp;try with_reducible rfl)⟩));refine iv 4 d ?_;refine iv 5 d ?_;refine iv 6 d ?_;refine iv 8 d ?_;refine iv 9 d ?_;refine iv 10 (v:=.slice (if z=a then B else B.map (·.add (a*3))) (l.length-a) (z-a)) d ?_ (hy:=(Or.inl ⟨r_,(by intro w' bu;go_simp;try with_reducible rfl)⟩))
 refine hZ 7 λm j=>?_
 go_simp;have af:I [] k (bK.alloc (.cells #[Y e,Y i,Y 1] 168)):=ae.alloc _;have bI:=kP (s:=3) (P_ bK 168 #[Y e,Y i,Y 1]) rfl;have a2:=(Sl.yn oZ (ao.hF (r.trans af)) hk z aL);refine j.out _ _ (λ_=>trivial) ?_;clear j m
 try simp only[a_]
 refine hZ 11 λm j=>?_
 refine mC _ r_ (.tmp 29) (.tmp 32) 94 r_ 168 T _ 3 24 underlying94 S R N V rfl O O _ 1 _ r_ bI _ (l.length-a) _ _ r_ a2 (u3 _) X ?_;intro a8 c5 MT G bH aj;have ah:I [] k MT:=af.trans aj;have bj:=(Sl.x1 oZ (ao.hF (r.trans ah)) hk);refine j.out _ _ (λ_=>trivial) ?_;clear j m
 try simp only[a_]
 refine hZ 12 λm j=>?_
 refine mC _ r_ (.tmp 25) (.tmp 33) 94 r_ 168 T _ 3 24 underlying94 S R N V rfl O O _ a _ r_ bj _ (1+(l.length-a)) _ _ r_ bH aF.out X ?_;intro y u C bO bY ay;have ak:I [] k C:=ah.trans ay;refine j.out _ _ (λ_=>trivial) ?_;clear j m
 try simp only[a_]
 refine iv 13 d ?_;refine hM k_ ?_ _;have b:=ck.hF (r.trans ak);have bW:=b.f_ 0;have bB:=b.hG 0;go_wp2
 all_goals (
  have al:I [D] C (C.setCell (Z D 0) (.slice y (a+(1+(l.length-a))) u)):=(H [D] C).setCell (.inl J) _
  have iN:(lk l e i).length=a+(1+(l.length-a)):=by rw[aS.out,<-M.out];simp;omega
  refine F6 (v:=.agg #[.slice y (a+(1+(l.length-a))) u]) (G5 rfl _ _ _ _ _ _ _ rfl (b.hV 0 (.slice y (a+(1+(l.length-a))) u)) underlying96 rfl k_) rfl ⟨y,u,by rw[iN],?_,by rw[iN];exact bO,((q.trans p).trans (r.trans ak)).jM al aU⟩;unfold Fs;rw[iN,aS.out,<-M.out,F8,F8,HJ]
  exact Sl.it bY b O al)
def yK(l:List Fo)(u i:Int)(w:World)(h:Fs w A l)(hn:l.length<=1000000000)(x:pd l u=true)(hb:∀f∈l, -1000<=f.n/\f.n<=1000):
 Calls prog 51 #[.agg #[.slice A l.length c],Y u,Y i] w (yt (lk l u i) w):=by
 have da:=U (show lk l u i=l.set (lw l u) (lK (l.getD (lw l u) default) i) by unfold lk;rw[x];rfl);obtain⟨a,ad⟩:=nm_ (lw l u)
 have R:a<l.length:=by rw[ad];unfold pd at x;simp at x;exact x.1
 have ae:=U ad
 have af:l.getD a default=l[a]:=by simp[List.getD,K_ R]
 have E:Hid (lk l u i=l.set a (lK l[a] i)):=U (by rw[da.out,<-ae.out,af]);have MT:=hb l[a] (O_ R);clear ad da af hb;obtain⟨bJ,bG,bA,a6,be⟩:=info_parts infoFo;obtain⟨aj,hR,N⟩:=pZ w 96 #[.slice A l.length c] 96 #[n_]
 go_enter func51,ntmps51
 go_upto_region 1 with fail
 obtain⟨bw,aG⟩:=nm_ ((w.alloc (.cells #[.slice A l.length c] 96)).alloc (.cells #[n_] 96));rw[<-aG]at aj hR N |-;clear aG;obtain⟨gs,al⟩:=nm_ w.heap.size;obtain⟨s,am⟩:=nm_ (w.heap.size+1);rw[<-am]at hR;rw[<-al]at aj;rw[<-am,<-al];have aU:w.heap.size<=s:=X;clear al am;have MV:=aj.f_ 0;have cN:Sl bw 168 3 A l.length (l.flatMap Fo.E):=h.hF N
 go_upto_region 2 with(at_builtin;refine iJ _ rfl (.const (n_)) (.tmp 12) 94 rfl bw.heap.size 168 bJ _ 3 24 underlying94 bG bA a6 be rfl O O none 0 0 [] rfl (iT _ _ _ _) A l.length c _ rfl cN (u3 l) X (H_ _) ?_;intro ap o w2 av ar;simp only[W_,FY]at av;have MV:=(aj.hF (ar.gr [] bw (H_ _) (H _ _))).f_ 0)
 have M0:I [] bw w2:=ar.gr [] bw (H_ _) (H _ _);have ao:Fs w2 ap l:=Sl.iR av;have aL:=iY av;have bi:=aj.hF M0;have ck:=hR.hF M0;clear aj hR;obtain⟨g,cur,an,aq,au,t⟩:=kE av X;subst an
 have r:=λaw ax(hu:(Fo.E l[a])[aw]?=some ax)=>t (a*3+aw) ax (by
  have hj:aw<3:=by have:=(He.1 hu).1;rw[oZ]at this;exact this
  rw[jh Fo.E 3 oZ l a aw R hj]
  exact hu)
 go_upto_region 6 with(go_at_call 99;((with_reducible refine(qW A c l u (h.hF (N.trans M0)) hn).mono ?_);rw[x];rintro ay F⟨rfl,az⟩))
 rw[<-ae.out];clear MV;have ak:=au.hF az;have MS:(a:Int)<(l.length:Int):=X;obtain⟨f,cy⟩:=nm_ (l[a]);rw[<-cy]at r MT E;have dm:=U cy;clear cy;have k0:F.cell? (Z g (a*3))=some (Y f.fr):=(ak.f_ _).trans (r 0 _ rfl);have bz:F.cell? (Z g (a*3+1))=some (Y f.dst):=(ak.f_ _).trans (r 1 _ rfl);have a8:F.cell? (Z g (a*3+2))=some (Y f.n):=(ak.f_ _).trans (r 2 _ rfl)
 go_upto_region 7 with fail
 have j:=P_ F 168 #[Y f.fr,Y f.dst,Y f.n];have MY:=ak.alloc (.cells #[Y f.fr,Y f.dst,Y f.n] 168);have aA:=(ck.hF az).alloc (.cells #[Y f.fr,Y f.dst,Y f.n] 168);have aB:=((N.trans M0).trans az).alloc (.cells #[Y f.fr,Y f.dst,Y f.n] 168);have aE:g≠F.heap.size:=ov ak.lt;have ah:s≠F.heap.size:=ov ((ck.hF az).lt);have bE:w.heap.size<=F.heap.size:=((N.trans M0).trans az).size;have y:s≠g:=Bk.l8 ck au O;have v:w.heap.size<=g:=G_ N.size aq;clear k0 bz a8 ak av ar ao bi ck M0 az N cN au aq;obtain⟨K,bR⟩:=nm_ (F.alloc (.cells #[Y f.fr,Y f.dst,Y f.n] 168));rw[<-bR]at j MY aA aB |-;clear bR;generalize F.heap.size=e at*
 by_cases D:f.dst=i
 .have q:(f.dst==i)=true:=zu D
  by_cases h3:3<f.n+1
  .have T:=U (show lK f i=⟨f.fr,f.dst,3⟩ by unfold lK;rw[U_ D,U_ h3])
   have bU:(3<f.n+1)=True:=by simp[h3]
   clear D;have S:=j.f_ 0;have V:=j.f_ 1;have Q:=j.f_ 2;have L:=j.hG 0;have M:=j.hG 1;have P:=j.hG 2
   go_upto_region 12 with fail
   have m:Bk (K.setCell (Z e 2) (Y 3)) e 168 #[Y f.fr,Y f.dst,Y 3]:=(j).hV 2 (Y 3);have d:=(MY).ih (p:=(Z e 2)) aE (Y 3);have k:=(aA).ih (p:=(Z e 2)) ah (Y 3);have B:=(aB).setCell (p:=(Z e 2)) (.inr bE) (Y 3);clear S V Q L M P;obtain⟨b,C⟩:=nm_ (K.setCell (Z e 2) (Y 3));rw[<-C]at m d k B |-;clear C;have z0:=m.f_ 0;have aR:=m.f_ 1;have aZ:=m.f_ 2;have k0:b.cell? (Z g (a*3))=some (Y f.fr):=(d.f_ _).trans (r 0 _ rfl);have bz:b.cell? (Z g (a*3+1))=some (Y f.dst):=(d.f_ _).trans (r 1 _ rfl);have a8:b.cell? (Z g (a*3+2))=some (Y f.n):=(d.f_ _).trans (r 2 _ rfl);have bB:=d.hG (a*3);have bM:=d.hG (a*3+1);have ce:=d.hG (a*3+2);have bW:=k.f_ 0;have MU:=k.hG 0
   have W:Fs ((((b.setCell (Z g (a*3)) (Y f.fr)).setCell (Z g (a*3+1)) (Y f.dst)).setCell (Z g (a*3+2)) (Y 3))) (j_ g) (l.set a ⟨f.fr,f.dst,3⟩):=by
    unfold Fs;exact sn Fo.E oZ R ⟨f.fr,f.dst,3⟩ rfl d t J
   have n:=((k.ih (p:=(Z g (a*3))) y (Y f.fr)).ih (p:=(Z g (a*3+1))) y (Y f.dst)).ih (p:=(Z g (a*3+2))) y (Y 3);have z:I [s] _ _:=(H [s] ((((b.setCell (Z g (a*3)) (Y f.fr)).setCell (Z g (a*3+1)) (Y f.dst)).setCell (Z g (a*3+2)) (Y 3)))).setCell (p:=(Z s 0)) (.inl J) (.slice (j_ g) l.length o);have aF:=((B.setCell (p:=(Z g (a*3))) (.inr v) (Y f.fr)).setCell (p:=(Z g (a*3+1))) (.inr v) (Y f.dst)).setCell (p:=(Z g (a*3+2))) (.inr v) (Y 3)
   have iN:(lk l u i).length=l.length:=by rw[E.out];simp
   go_wp2;refine rr_ #[.slice (j_ g) l.length o] (n.hV 0 (.slice (j_ g) l.length o)) underlying96 ⟨some (Z g 0),o,by rw[iN],?_,by rw[iN];exact aL,aF.jM z aU⟩;rw[E.out,T.out];unfold Fs;rw[F1]
   have G:Sl ((((b.setCell (Z g (a*3)) (Y f.fr)).setCell (Z g (a*3+1)) (Y f.dst)).setCell (Z g (a*3+2)) (Y 3))) 168 3 (j_ g) l.length ((l.set a ⟨f.fr,f.dst,3⟩).flatMap Fo.E):=by have q:=W;unfold Fs at q;rw[F1]at q;exact q
   exact Sl.it G n O z
  .have T:=U (show lK f i=⟨f.fr,f.dst,f.n+1⟩ by unfold lK;rw[U_ D,R_ h3])
   have bU:(3<f.n+1)=False:=by simp[h3]
   clear D;have S:=j.f_ 0;have V:=j.f_ 1;have Q:=j.f_ 2;have L:=j.hG 0;have M:=j.hG 1;have P:=j.hG 2
   go_upto_region 12 with fail
   have m:Bk (K.setCell (Z e 2) (Y (f.n+1))) e 168 #[Y f.fr,Y f.dst,Y (f.n+1)]:=(j).hV 2 (Y (f.n+1));have d:=(MY).ih (p:=(Z e 2)) aE (Y (f.n+1));have k:=(aA).ih (p:=(Z e 2)) ah (Y (f.n+1));have B:=(aB).setCell (p:=(Z e 2)) (.inr bE) (Y (f.n+1));clear S V Q L M P;obtain⟨b,C⟩:=nm_ (K.setCell (Z e 2) (Y (f.n+1)));rw[<-C]at m d k B |-;clear C;have z0:=m.f_ 0;have aR:=m.f_ 1;have aZ:=m.f_ 2;have k0:b.cell? (Z g (a*3))=some (Y f.fr):=(d.f_ _).trans (r 0 _ rfl);have bz:b.cell? (Z g (a*3+1))=some (Y f.dst):=(d.f_ _).trans (r 1 _ rfl);have a8:b.cell? (Z g (a*3+2))=some (Y f.n):=(d.f_ _).trans (r 2 _ rfl);have bB:=d.hG (a*3);have bM:=d.hG (a*3+1);have ce:=d.hG (a*3+2);have bW:=k.f_ 0;have MU:=k.hG 0
   have W:Fs ((((b.setCell (Z g (a*3)) (Y f.fr)).setCell (Z g (a*3+1)) (Y f.dst)).setCell (Z g (a*3+2)) (Y (f.n+1)))) (j_ g) (l.set a ⟨f.fr,f.dst,f.n+1⟩):=by
    unfold Fs;exact sn Fo.E oZ R ⟨f.fr,f.dst,f.n+1⟩ rfl d t J
   have n:=((k.ih (p:=(Z g (a*3))) y (Y f.fr)).ih (p:=(Z g (a*3+1))) y (Y f.dst)).ih (p:=(Z g (a*3+2))) y (Y (f.n+1));have z:I [s] _ _:=(H [s] ((((b.setCell (Z g (a*3)) (Y f.fr)).setCell (Z g (a*3+1)) (Y f.dst)).setCell (Z g (a*3+2)) (Y (f.n+1))))).setCell (p:=(Z s 0)) (.inl J) (.slice (j_ g) l.length o);have aF:=((B.setCell (p:=(Z g (a*3))) (.inr v) (Y f.fr)).setCell (p:=(Z g (a*3+1))) (.inr v) (Y f.dst)).setCell (p:=(Z g (a*3+2))) (.inr v) (Y (f.n+1))
   have iN:(lk l u i).length=l.length:=by rw[E.out];simp
   go_wp2;refine rr_ #[.slice (j_ g) l.length o] (n.hV 0 (.slice (j_ g) l.length o)) underlying96 ⟨some (Z g 0),o,by rw[iN],?_,by rw[iN];exact aL,aF.jM z aU⟩;rw[E.out,T.out];unfold Fs;rw[F1]
   have G:Sl ((((b.setCell (Z g (a*3)) (Y f.fr)).setCell (Z g (a*3+1)) (Y f.dst)).setCell (Z g (a*3+2)) (Y (f.n+1)))) 168 3 (j_ g) l.length ((l.set a ⟨f.fr,f.dst,f.n+1⟩).flatMap Fo.E):=by have q:=W;unfold Fs at q;rw[F1]at q;exact q
   exact Sl.it G n O z
 .have q:(f.dst==i)=false:=zu D
  by_cases hz:f.n-1<=0
  .have T:=U (show lK f i=⟨f.fr,i,1⟩ by unfold lK;rw[R_ D,U_ hz])
   have bN:(f.n-1<=0)=True:=by simp[hz]
   clear D;have S:=j.f_ 0;have V:=j.f_ 1;have Q:=j.f_ 2;have L:=j.hG 0;have M:=j.hG 1;have P:=j.hG 2
   go_upto_region 12 with fail
   have m:Bk (((K.setCell (Z e 2) (Y (f.n-1))).setCell (Z e 1) (Y i)).setCell (Z e 2) (Y 1)) e 168 #[Y f.fr,Y i,Y 1]:=(((j).hV 2 (Y (f.n-1))).hV 1 (Y i)).hV 2 (Y 1);have d:=(((MY).ih (p:=(Z e 2)) aE (Y (f.n-1))).ih (p:=(Z e 1)) aE (Y i)).ih (p:=(Z e 2)) aE (Y 1);have k:=(((aA).ih (p:=(Z e 2)) ah (Y (f.n-1))).ih (p:=(Z e 1)) ah (Y i)).ih (p:=(Z e 2)) ah (Y 1);have B:=(((aB).setCell (p:=(Z e 2)) (.inr bE) (Y (f.n-1))).setCell (p:=(Z e 1)) (.inr bE) (Y i)).setCell (p:=(Z e 2)) (.inr bE) (Y 1);clear S V Q L M P;obtain⟨b,C⟩:=nm_ (((K.setCell (Z e 2) (Y (f.n-1))).setCell (Z e 1) (Y i)).setCell (Z e 2) (Y 1));rw[<-C]at m d k B |-;clear C;have z0:=m.f_ 0;have aR:=m.f_ 1;have aZ:=m.f_ 2;have k0:b.cell? (Z g (a*3))=some (Y f.fr):=(d.f_ _).trans (r 0 _ rfl);have bz:b.cell? (Z g (a*3+1))=some (Y f.dst):=(d.f_ _).trans (r 1 _ rfl);have a8:b.cell? (Z g (a*3+2))=some (Y f.n):=(d.f_ _).trans (r 2 _ rfl);have bB:=d.hG (a*3);have bM:=d.hG (a*3+1);have ce:=d.hG (a*3+2);have bW:=k.f_ 0;have MU:=k.hG 0
   have W:Fs ((((b.setCell (Z g (a*3)) (Y f.fr)).setCell (Z g (a*3+1)) (Y i)).setCell (Z g (a*3+2)) (Y 1))) (j_ g) (l.set a ⟨f.fr,i,1⟩):=by
    unfold Fs;exact sn Fo.E oZ R ⟨f.fr,i,1⟩ rfl d t J
   have n:=((k.ih (p:=(Z g (a*3))) y (Y f.fr)).ih (p:=(Z g (a*3+1))) y (Y i)).ih (p:=(Z g (a*3+2))) y (Y 1);have z:I [s] _ _:=(H [s] ((((b.setCell (Z g (a*3)) (Y f.fr)).setCell (Z g (a*3+1)) (Y i)).setCell (Z g (a*3+2)) (Y 1)))).setCell (p:=(Z s 0)) (.inl J) (.slice (j_ g) l.length o);have aF:=((B.setCell (p:=(Z g (a*3))) (.inr v) (Y f.fr)).setCell (p:=(Z g (a*3+1))) (.inr v) (Y i)).setCell (p:=(Z g (a*3+2))) (.inr v) (Y 1)
   have iN:(lk l u i).length=l.length:=by rw[E.out];simp
   go_wp2;refine rr_ #[.slice (j_ g) l.length o] (n.hV 0 (.slice (j_ g) l.length o)) underlying96 ⟨some (Z g 0),o,by rw[iN],?_,by rw[iN];exact aL,aF.jM z aU⟩;rw[E.out,T.out];unfold Fs;rw[F1]
   have G:Sl ((((b.setCell (Z g (a*3)) (Y f.fr)).setCell (Z g (a*3+1)) (Y i)).setCell (Z g (a*3+2)) (Y 1))) 168 3 (j_ g) l.length ((l.set a ⟨f.fr,i,1⟩).flatMap Fo.E):=by have q:=W;unfold Fs at q;rw[F1]at q;exact q
   exact Sl.it G n O z
  .have T:=U (show lK f i=⟨f.fr,f.dst,f.n-1⟩ by unfold lK;rw[R_ D,R_ hz])
   have bN:(f.n-1<=0)=False:=by simp[hz]
   clear D;have S:=j.f_ 0;have V:=j.f_ 1;have Q:=j.f_ 2;have L:=j.hG 0;have M:=j.hG 1;have P:=j.hG 2
   go_upto_region 12 with fail
   have m:Bk (K.setCell (Z e 2) (Y (f.n-1))) e 168 #[Y f.fr,Y f.dst,Y (f.n-1)]:=(j).hV 2 (Y (f.n-1));have d:=(MY).ih (p:=(Z e 2)) aE (Y (f.n-1));have k:=(aA).ih (p:=(Z e 2)) ah (Y (f.n-1));have B:=(aB).setCell (p:=(Z e 2)) (.inr bE) (Y (f.n-1));clear S V Q L M P;obtain⟨b,C⟩:=nm_ (K.setCell (Z e 2) (Y (f.n-1)));rw[<-C]at m d k B |-;clear C;have z0:=m.f_ 0;have aR:=m.f_ 1;have aZ:=m.f_ 2;have k0:b.cell? (Z g (a*3))=some (Y f.fr):=(d.f_ _).trans (r 0 _ rfl);have bz:b.cell? (Z g (a*3+1))=some (Y f.dst):=(d.f_ _).trans (r 1 _ rfl);have a8:b.cell? (Z g (a*3+2))=some (Y f.n):=(d.f_ _).trans (r 2 _ rfl);have bB:=d.hG (a*3);have bM:=d.hG (a*3+1);have ce:=d.hG (a*3+2);have bW:=k.f_ 0;have MU:=k.hG 0
   have W:Fs ((((b.setCell (Z g (a*3)) (Y f.fr)).setCell (Z g (a*3+1)) (Y f.dst)).setCell (Z g (a*3+2)) (Y (f.n-1)))) (j_ g) (l.set a ⟨f.fr,f.dst,f.n-1⟩):=by
    unfold Fs;exact sn Fo.E oZ R ⟨f.fr,f.dst,f.n-1⟩ rfl d t J
   have n:=((k.ih (p:=(Z g (a*3))) y (Y f.fr)).ih (p:=(Z g (a*3+1))) y (Y f.dst)).ih (p:=(Z g (a*3+2))) y (Y (f.n-1));have z:I [s] _ _:=(H [s] ((((b.setCell (Z g (a*3)) (Y f.fr)).setCell (Z g (a*3+1)) (Y f.dst)).setCell (Z g (a*3+2)) (Y (f.n-1))))).setCell (p:=(Z s 0)) (.inl J) (.slice (j_ g) l.length o);have aF:=((B.setCell (p:=(Z g (a*3))) (.inr v) (Y f.fr)).setCell (p:=(Z g (a*3+1))) (.inr v) (Y f.dst)).setCell (p:=(Z g (a*3+2))) (.inr v) (Y (f.n-1))
   have iN:(lk l u i).length=l.length:=by rw[E.out];simp
   go_wp2;refine rr_ #[.slice (j_ g) l.length o] (n.hV 0 (.slice (j_ g) l.length o)) underlying96 ⟨some (Z g 0),o,by rw[iN],?_,by rw[iN];exact aL,aF.jM z aU⟩;rw[E.out,T.out];unfold Fs;rw[F1]
   have G:Sl ((((b.setCell (Z g (a*3)) (Y f.fr)).setCell (Z g (a*3+1)) (Y f.dst)).setCell (Z g (a*3+2)) (Y (f.n-1)))) 168 3 (j_ g) l.length ((l.set a ⟨f.fr,f.dst,f.n-1⟩).flatMap Fo.E):=by have q:=W;unfold Fs at q;rw[F1]at q;exact q
   exact Sl.it G n O z
def yM(l:List Fo)(a d:Int){w:World}(h:Fs w A l)(e:l.length<=1000000000)(j:∀f∈l, -1000<=f.n/\f.n<=1000):
 Calls prog 51 #[.agg #[.slice A l.length c],Y a,Y d] w (yt (lk l a d) w):=by
 cases i:pd l a with
 |false=>exact yL A c l a d w h e i
 |true=>exact yK A c l a d w h e i j
