import Derived.Test.YtenbhdilndfaeaaGreatM30
set_option maxRecDepth 100000
set_option maxHeartbeats 0
set_option linter.all false
namespace Go.Proofs.YtenbhdilndfaeaaGreat
open Go.RowKit Go.Proofs.Tryz
variable{G:Prop}(A U:Option Addr)(c hc:Nat)(hl l:List Rw)(t:Tk)
theorem Gs(h:G:=by
 go_wp2_with (go_at_call 148;have ak:=ob U hc hl g aC ⟨d,h⟩ _ (z.g_ aM).os (z.g_ aM).la Q y;refine ak.mono ?_;rintro e ai⟨rfl,S⟩;have B:=((L.g_ S).alloc (.cells #[.bool d,i_ h] 38));have j:=((az.g_ aM).g_ S).alloc (.cells #[.bool d,i_ h] 38);have av:=L_ ai 38 #[.bool d,i_ h];have v0:=B.f_ 0;have v1:=B.f_ 1;have ao:=B.f_ 2;have v3:=B.f_ 3;have am:=av.f_ 0;have aN:=av.f_ 1;have bV:=j.f_ 0;have r1:=j.f_ 1;have r2:=j.f_ 2;have r3:=j.f_ 3;have s0:=j.hm 0;have s1:=j.hm 1;have b6:=j.hm 2;have cx:=j.hm 3)
 exact G5):G:=h
theorem G5(h:G:=by
 refine D8 (v:=.tuple #[.agg #[i_ g,i_ aC,.bool xr,i_ l],.bool true]) (it (p:=4) (u:=5) rfl _ _ _ _ _ _ _ rfl (((((j.hJ 0 (i_ g)).hJ 1 (i_ aC)).hJ 2 (.bool xr)).hJ 3 (i_ l))) underlying116 rfl k_) rfl ?_;rw[aq.out];exact⟨rfl,((((((F.trans aM).trans S).alloc _).setCell (p:=(c_ gr 0)) (.inr bE) _).setCell (p:=(c_ gr 1)) (.inr bE) _).setCell (p:=(c_ gr 2)) (.inr bE) _).setCell (p:=(c_ gr 3)) (.inr bE) _⟩):G:=h
theorem Hn(h:G:=by
 have aU:=s.f_ 0;have bH:=az.hm 0;have bn:=az.f_ 0;go_wp2;have M:Gr [gr] wr (wr.setCell (c_ gr 0) (.slice A' rs.length c')):=(D_ [gr] wr).setCell (.inl s_) _;refine rr_ #[.slice A' rs.length c'] (az.hJ 0 (.slice A' rs.length c')) underlying35 ⟨A',c',rs,rfl,d.ig az d_ d_ M,?_,F.jz M bE⟩;rw[q.out,aq.out]):G:=h
theorem KP(h:G:=by
 rw[aZ];exact⟨x.id,x.f,x.v.r,x.v.n,rfl,(((((J.trans S).alloc _).setCell (p:=(c_ gr 0)) (.inr bE) _).setCell (p:=(c_ gr 1)) (.inr bE) _).setCell (p:=(c_ gr 2)) (.inr bE) _).setCell (p:=(c_ gr 3)) (.inr bE) _⟩):G:=h
theorem Io(h:G:=by
 go_wp2
 all_goals go_ret
 all_goals exact⟨O,B,xs,by rw[<-cf.out];rfl,(by unfold Ns;rw[<-cf.out];exact Sl.iG (iu ao (D_ [] wr))),(by have:=cf.out;omega),R,F⟩):G:=h
theorem Iy(h:G:=by
 go_roundw
 case rel=>exact⟨k+1,by omega,by go_num,by rw[aR.out,a2.out],W.g_ aw,z.g_ aw,V.g_ aw,F.trans aw⟩
 case measure=>simp[intOf];omega):G:=h
theorem Lb(h:G:=by
 all_goals go_ret
 all_goals rw[O.out]
 all_goals exact⟨rfl,((F.trans aM).trans S).alloc _⟩):G:=h
def Ts(w:World)(A:Option Addr)(l:List Tk):Prop:=Sl w 53 48 A l.length (l.flatMap λt=>t.g8.toList)
structure wZ(w:World)(A:Option Addr)(l:List Tk):Prop where
 row:Ts w A l
 AF:∀t∈l,kY w t
theorem su:(t.g8.toList).length=48:=rfl
theorem wZ.g_{w w':World}{A:Option Addr}{l:List Tk}(h:wZ w A l)(hg:Gr [] w w'):wZ w' A l:=⟨Sl.g_ h.row hg,λt X=>(h.AF t X).g_ hg⟩
theorem wZ.at_{w:World}{A:Option Addr}{l:List Tk}(h:wZ w A l){k:Nat}(hk:k<l.length):∃b off,A=some (c_ b off)/\(∀j,j<48->w.cell? (c_ b (off+k*48+j))=(l[k]).g8[j]?):=by
 obtain⟨b,off,U,hc⟩:=Sl.f_ h.row o_;refine⟨b,off,U,λj hj=>?_⟩;have hg:=iW (λt:Tk=>t.g8.toList) 48 su l k j hk hj
 have hs:j<(l[k]).g8.size:=by rw[Tk.size];exact hj
 have he:(l[k]).g8.toList[j]?=some (l[k]).g8[j]:=by simp[hs]
 rw[D7 hs,Fr];exact hc _ _ (hg.trans he)
def mP(h:List Ob)(l:List jg)(k:Int):List Ob:=(l.take k.toNat).foldl mL h
theorem xi(h:List Ob)(t:jg):(mL h t).length<=h.length+t.nw.length:=by
 unfold mL;rw[nK,jG];exact oA t.nw h
theorem uS(l:List jg)(h:List Ob){n:Nat}(hs:∀t∈l,t.nw.length<=n):(l.foldl mL h).length<=h.length+l.length*n:=by
 induction l generalizing h with
 |nil=>simp
 |cons t l ad=>
  have h1:=ad (mL h t) (λu hu=>hs u (Eo _ hu));have h2:=xi h t;have h3:=hs t E0;rw[Fl,D3,Fa];omega
theorem y1(z:Option Addr)(tc:Nat)(ts:List Tk)(k:Int)(w:World)(h:l5 w A c l)(hn:l.length<=10000000)(V:wZ w z ts)(cp:ts.length<=100)(ao:∀t∈ts,t.p.sm 500000)(b8:k<=1000000000):
 Calls prog 40 #[.agg #[.slice A l.length c],.slice z ts.length tc,i_ k] w (l0 (mP (hN l) (ts.map Tk.p) k) w):=by
 obtain⟨i1,bK,b0,b5,cf⟩:=info_parts infoOb
 have a:∀t∈ts,t.nw.l.length<=500000:=λt X=>by have:=(ao t X).nw;have e:t.p.nw.length=t.nw.l.length:=hW _;omega
 obtain⟨hB,hR,J⟩:=pG w 35 #[.slice A l.length c] 35 #[n_]
 go_enter func40,ntmps40
 go_upto_region 1 with fail
 obtain⟨bm,bN⟩:=nm_ ((w.alloc (.cells #[.slice A l.length c] 35)).alloc (.cells #[n_] 35));rw[<-bN]at hB hR J |-;clear bN;obtain⟨aP,aV⟩:=nm_ w.heap.size;obtain⟨gr,E⟩:=nm_ (w.heap.size+1);rw[<-E]at hR;rw[<-aV]at hB;rw[<-E,<-aV]
 have bE:w.heap.size<=gr:=by omega
 clear aV E;have Z:=hB.f_ 0;have cN:Sl bm 56 2 A l.length (jy l):=(h.g_ J).os;have g:=iJ bm bm.heap.size 56 2
 go_upto_region 2 with(at_builtin;refine iD _ rfl (.const (n_)) (.tmp 10) 33 rfl bm.heap.size 56 i1 _ 2 32 underlying33 bK b0 b5 cf rfl d_ d_ none 0 0 _ rfl g A l.length c _ rfl cN (jO l) o_ (G_ _) ?_;intro ay an w2 aY av;simp only[U_,Ea]at aY)
 have ad:=av.gr [] bm (G_ _) (D_ _ _);have D:l5 w2 ay an l:=⟨Sl.iG aY,(h.g_ (J.trans ad)).la,iQ aY⟩;have bo:=hB.g_ ad;have bX:=(hR.g_ ad).alloc (.cells #[.slice ay l.length an] 35);have N:=L_ w2 35 #[.slice ay l.length an];have r:=D.g_ ((D_ [] w2).alloc (.cells #[.slice ay l.length an] 35));have bP:=(J.trans ad).alloc (.cells #[.slice ay l.length an] 35);have a6:=(J.trans ad).size
 have I:gr≠w2.heap.size:=by have:=hR.lt;have:=ad.size;omega
 obtain⟨aJ,a2⟩:=nm_ (w2.alloc (.cells #[.slice ay l.length an] 35));rw[<-a2]at bX N r bP |-;clear a2;clear aY av ad D bo hB hR J Z cN g;generalize w2.heap.size=aW at*;go_wp2
 go_loopw [8] (λi wr=>∃(m:Nat) (A':Option Addr) (c':Nat) (rs:List Rw),m<=ts.length/\((m:Int)<=k∨m=0)/\i=i_ m/\Bk wr aW 35 #[.slice A' rs.length c']/\Bk wr gr 35 #[n_]/\l5 wr A' c' rs/\hN rs=((ts.map Tk.p).take m).foldl mL (hN l)/\Gr [] w wr) (λi _=>ts.length-(intOf i).toNat)
 case atStart=>exact⟨0,ay,an,l,N_ _,.inr rfl,rfl,N,bX,r,rfl,bP⟩
 case round=>
  clear N bX r bP;obtain⟨m,A',c',rs,Y,co,rfl,s,az,d,bF,F⟩:=hrel;have q:=h_ bF;clear bF
  by_cases aQ:(m:Int)<k
  .by_cases aj:m<ts.length
   .have f:(m:Int)<(ts.length:Int):=by omega
    obtain⟨bv,off,eh,e3⟩:=(V.g_ F).at_ aj;subst eh
    have ar:rs.length<=100000000:=by
     have h1:=hW rs
     have h2:=uS ((ts.map Tk.p).take m) (hN l) (n:=500000) (λu hu=>by
      obtain⟨t,X,rfl⟩:=D2.1 (Eu hu)
      exact(ao t X).nw)
     rw[q.out]at h1;rw[Ey,Et,hW]at h2;have h3:min m ts.length*500000<=100*500000:=FB _ o_;omega
    have y:=(V.g_ F).AF ts[m] (J_ aj);have cH:=ao ts[m] (J_ aj);have x:=a ts[m] (J_ aj)
    have bG:=h_ (show((ts.map Tk.p).take (m+1)).foldl mL (hN l)=mL (hN rs) ts[m].p by
     rw[q.out,O_ (by rw[Et];exact aj),Fm,E7]
     rfl)
    generalize ts[m]=t at*
    go_upto_region 5 with fail
    refine hC (λw'=>w'.cell? (c_ aW 0)=some (.slice A' rs.length c')/\∀j,j<48->w'.cell? (c_ bv (off+m*48+j))=t.g8[j]?) 6 k_ ?_;have ap:=(D_ [] wr).drew;replace s:=s.g_ ap;replace az:=az.g_ ap;replace d:=d.g_ ap;replace y:=y.g_ ap;replace F:=F.trans ap;have C:wr.drew.cell? (c_ aW 0)=some (.slice A' rs.length c')/\∀j,j<48->wr.drew.cell? (c_ bv (off+m*48+j))=t.g8[j]?:=⟨s.f_ 0,e3⟩
    have e0:(0:Int)<=(m:Int):=by omega
    (iterate 4 refine jR C ?_)
    refine ih 4 (v:=.agg t.g8) C ?_ (hy:=(Or.inl ⟨by rfl,λw' bA=>lB 53 _ rfl bv (off+m*48) r_ _ (λj hj=>bA.2 j hj) _ underlying53 rfl k_⟩))
    refine hQ 5 λK H=>?_
    go_simp
    (go_at_call 84;((with_reducible refine(vb A' c' rs t _ y d o_ (F_ cH.ws d_) (F_ cH.ds d_)).mono ?_);unfold l0;rintro e T⟨aR,c4,r4,rfl,G,o,af⟩))
    have B:=h_ o;clear o C
    have bi:∀j,j<48->T.cell? (c_ bv (off+m*48+j))=t.g8[j]?:=λj hj=>by
     have h1:=e3 j hj
     have hs:j<t.g8.size:=by rw[Tk.size];exact hj
     rw[D7 hs]at h1 |-;exact(ap.trans af).f_ h1 s_
    have bU:=s.g_ af
    refine hS H ⟨bU.f_ 0,bi⟩ λC=>?_
    clear H K;have b:=az.g_ af;have aU:=bU.f_ 0;have bB:=bU.hm 0;have M:Gr [aW] T (T.setCell (c_ aW 0) (.slice aR r4.length c4)):=(D_ [aW] T).setCell (.inl s_) _
    refine hQ 6 λK H=>?_
    go_simp;refine H.out _ _ (λh=>D6 h d_) ?_;clear H K;refine hA k_ ?_ _;clear C aU bB;go_wp2;go_roundw
    case rel=>exact⟨m+1,aR,c4,r4,by omega,by omega,by go_num,bU.hJ 0 _,b.h7 (by simpa using I) _,G.ig bU d_ d_ M,by rw[B.out,bG.out],(F.trans af).jz M a6⟩
    case measure=>simp[intOf];omega
   .have f:¬(m:Int)<(ts.length:Int):=by omega
    have aq:=h_ (show mP (hN l) (ts.map Tk.p) k=((ts.map Tk.p).take m).foldl mL (hN l) by
     unfold mP
     rw[W_ (by rw[Et];omega),W_ (by rw[Et];omega)])
    exact Hn
  .have aq:=h_ (show mP (hN l) (ts.map Tk.p) k=((ts.map Tk.p).take m).foldl mL (hN l) by
    unfold mP
    have:k.toNat=m:=by omega
    rw[this])
   exact Hn
def lu(f:Fo)(dst:Int):Fo:=if f.dst=dst then⟨f.fr,f.dst,if 3<f.n+1 then 3 else f.n+1⟩ else if f.n-1<=0 then⟨f.fr,dst,1⟩ else⟨f.fr,f.dst,f.n-1⟩
def k2(l:List Fo)(fr dst:Int):List Fo:=
 if oX l fr=true then l.set (k7 l fr) (lu (l.getD (k7 l fr) default) dst) else l.take (k7 l fr)++([⟨fr,dst,1⟩]++l.drop (k7 l fr))
def xz(P:List Fo)(w:World)(e:Ending)(w':World):Prop:=∃(A:Option Addr) (d:Nat),e=.returned (.agg #[.slice A P.length d])/\Fs w' A P/\P.length<=d/\Gr [] w w'
theorem xR(l:List Fo)(fr dst:Int)(w:World)(h:Fs w A l)(hn:l.length<=1000000000)(x:oX l fr=false):
 Calls prog 51 #[.agg #[.slice A l.length c],i_ fr,i_ dst] w (xz (k2 l fr dst) w):=by
 have aT:=h_ (show k2 l fr dst=l.take (k7 l fr)++([⟨fr,dst,1⟩]++l.drop (k7 l fr)) by unfold k2;rw[x];rfl);obtain⟨k,D⟩:=nm_ (k7 l fr)
 have hk:k<=l.length:=by rw[D];exact Be _ _
 have N:=h_ D;clear D;obtain⟨bz,bw,br,bi,bf⟩:=info_parts infoFo;obtain⟨C,hR,J⟩:=pG w 96 #[.slice A l.length c] 96 #[n_]
 go_enter func51,ntmps51
 go_upto_region 1 with fail
 obtain⟨bm,bN⟩:=nm_ ((w.alloc (.cells #[.slice A l.length c] 96)).alloc (.cells #[n_] 96));rw[<-bN]at C hR J |-;clear bN;obtain⟨gs,z⟩:=nm_ w.heap.size;obtain⟨gr,E⟩:=nm_ (w.heap.size+1);rw[<-E]at hR;rw[<-z]at C;rw[<-E,<-z]
 have bE:w.heap.size<=gr:=by omega
 clear z E;have Z:=C.f_ 0;have cN:Sl bm 168 3 A l.length (l.flatMap Fo.E):=h.g_ J
 go_upto_region 2 with(at_builtin;refine iD _ rfl (.const (n_)) (.tmp 12) 94 rfl bm.heap.size 168 bz _ 3 24 underlying94 bw br bi bf rfl d_ d_ none 0 0 [] rfl (iJ _ _ _ _) A l.length c _ rfl cN (uw l) o_ (G_ _) ?_;intro ay an w2 aY av;simp only[U_,Ea]at aY;have Z:=(C.g_ (av.gr [] bm (G_ _) (D_ _ _))).f_ 0)
 have ad:Gr [] bm w2:=av.gr [] bm (G_ _) (D_ _ _);have aq:Fs w2 ay l:=Sl.iG aY;have b6:=iQ aY;have a8:=C.g_ ad;have bX:=hR.g_ ad;clear C hR
 go_upto_region 4 with(go_at_call 99;((with_reducible refine(qK A c l fr _ (h.g_ (J.trans ad)) hn).mono ?_);rw[x];rintro e ai⟨rfl,S⟩))
 rw[<-N.out];clear Z;refine hC (λ_=>True) 14 k_ ?_;have y:Gr [] ai ai.drew:=(D_ [] ai).drew;obtain⟨bG,cu⟩:=nm_ ai.drew;rw[<-cu]at y |-;clear cu;have C:True:=trivial
 have e0:(0:Int)<=(k:Int):=by omega
 have aP:(k:Int)<=(l.length:Int):=by omega
 have aL:(k:Int)<=(an:Int):=by omega
 have be:=h_ (show ∀u∈(#[i_ fr,i_ dst,i_ 1]:Array Value).toList++(l.drop k).flatMap Fo.E,u.oneCell'=true from λu hu=>uw (⟨fr,dst,1⟩::l.drop k) u hu)
 (iterate 3 refine jR C ?_)
 refine ih 3 (v:=.slice ay k k) C ?_ (hy:=(Or.inl ⟨by rfl,(by intro w' bA;go_simp;try with_reducible rfl)⟩));refine ih 4 C ?_;refine ih 5 C ?_;refine ih 6 C ?_;refine ih 8 C ?_;refine ih 9 C ?_;refine ih 10 (v:=.slice (if an=k then ay else ay.map (·.add (k*3))) (l.length-k) (an-k)) C ?_ (hy:=(Or.inl ⟨by rfl,(by intro w' bA;go_simp;try with_reducible rfl)⟩))
 refine hQ 7 λK H=>?_
 go_simp;have m:Gr [] ai (bG.alloc (.cells #[i_ fr,i_ dst,i_ 1] 168)):=y.alloc _;have bv:=kC (s:=3) (L_ bG 168 #[i_ fr,i_ dst,i_ 1]) rfl;have ao:=(Sl.xu oJ (aq.g_ (S.trans m)) hk an b6);refine H.out _ _ (λ_=>trivial) ?_;clear H K
 try simp only[a_]
 refine hQ 11 λK H=>?_
 refine l8 _ r_ (.tmp 29) (.tmp 32) 94 r_ 168 bz _ 3 24 underlying94 bw br bi bf rfl d_ d_ _ 1 _ r_ bv _ (l.length-k) _ _ r_ ao (uw _) o_ ?_;intro a6 c5 ae G bu am;have I:Gr [] ai ae:=m.trans am;have aN:=(Sl.w9 oJ (aq.g_ (S.trans I)) hk);refine H.out _ _ (λ_=>trivial) ?_;clear H K
 try simp only[a_]
 refine hQ 12 λK H=>?_
 refine l8 _ r_ (.tmp 25) (.tmp 33) 94 r_ 168 bz _ 3 24 underlying94 bw br bi bf rfl d_ d_ _ k _ r_ aN _ (1+(l.length-k)) _ _ r_ bu be.out o_ ?_;intro aJ aK aF bC bZ aC;have a:Gr [] ai aF:=I.trans aC;refine H.out _ _ (λ_=>trivial) ?_;clear H K
 try simp only[a_]
 refine ih 13 C ?_;refine hA k_ ?_ _;have b:=bX.g_ (S.trans a);have bV:=b.f_ 0;have bB:=b.hm 0;go_wp2
 all_goals (
  have aw:Gr [gr] aF (aF.setCell (c_ gr 0) (.slice aJ (k+(1+(l.length-k))) aK)):=(D_ [gr] aF).setCell (.inl s_) _
  have iv:(k2 l fr dst).length=k+(1+(l.length-k)):=by rw[aT.out,<-N.out];simp;omega
  refine D8 (v:=.agg #[.slice aJ (k+(1+(l.length-k))) aK]) (EV rfl _ _ _ _ _ _ _ rfl (b.hJ 0 (.slice aJ (k+(1+(l.length-k))) aK)) underlying96 rfl k_) rfl ⟨aJ,aK,by rw[iv],?_,by rw[iv];exact bC,((J.trans ad).trans (S.trans a)).jz aw bE⟩;unfold Fs;rw[iv,aT.out,<-N.out,Ej,Ej,FO]
  exact Sl.ig bZ b d_ aw)
theorem xQ(l:List Fo)(fr dst:Int)(w:World)(h:Fs w A l)(hn:l.length<=1000000000)(x:oX l fr=true)(hb:∀f∈l, -1000<=f.n/\f.n<=1000):
 Calls prog 51 #[.agg #[.slice A l.length c],i_ fr,i_ dst] w (xz (k2 l fr dst) w):=by
 have cY:=h_ (show k2 l fr dst=l.set (k7 l fr) (lu (l.getD (k7 l fr) default) dst) by unfold k2;rw[x];rfl);obtain⟨k,D⟩:=nm_ (k7 l fr)
 have aH:k<l.length:=by rw[D];unfold oX at x;simp at x;exact x.1
 have N:=h_ D
 have ap:l.getD k default=l[k]:=by simp[List.getD,K_ aH]
 have aT:Hid (k2 l fr dst=l.set k (lu l[k] dst)):=h_ (by rw[cY.out,<-N.out,ap]);have V:=hb l[k] (J_ aH);clear D cY ap hb;obtain⟨bz,bw,br,bi,bf⟩:=info_parts infoFo;obtain⟨C,hR,J⟩:=pG w 96 #[.slice A l.length c] 96 #[n_]
 go_enter func51,ntmps51
 go_upto_region 1 with fail
 obtain⟨bm,bN⟩:=nm_ ((w.alloc (.cells #[.slice A l.length c] 96)).alloc (.cells #[n_] 96));rw[<-bN]at C hR J |-;clear bN;obtain⟨gs,z⟩:=nm_ w.heap.size;obtain⟨gr,E⟩:=nm_ (w.heap.size+1);rw[<-E]at hR;rw[<-z]at C;rw[<-E,<-z]
 have bE:w.heap.size<=gr:=by omega
 clear z E;have Z:=C.f_ 0;have cN:Sl bm 168 3 A l.length (l.flatMap Fo.E):=h.g_ J
 go_upto_region 2 with(at_builtin;refine iD _ rfl (.const (n_)) (.tmp 12) 94 rfl bm.heap.size 168 bz _ 3 24 underlying94 bw br bi bf rfl d_ d_ none 0 0 [] rfl (iJ _ _ _ _) A l.length c _ rfl cN (uw l) o_ (G_ _) ?_;intro ay an w2 aY av;simp only[U_,Ea]at aY;have Z:=(C.g_ (av.gr [] bm (G_ _) (D_ _ _))).f_ 0)
 have ad:Gr [] bm w2:=av.gr [] bm (G_ _) (D_ _ _);have aq:Fs w2 ay l:=Sl.iG aY;have b6:=iQ aY;have a8:=C.g_ ad;have bX:=hR.g_ ad;clear C hR;obtain⟨g,cur,m,y,T,r⟩:=ky aY o_;subst m
 have n:=λj u(hu:(Fo.E l[k])[j]?=some u)=>r (k*3+j) u (by
  have hj:j<3:=by have:=(Fh.1 hu).1;rw[oJ]at this;exact this
  rw[iW Fo.E 3 oJ l k j aH hj]
  exact hu)
 go_upto_region 6 with(go_at_call 99;((with_reducible refine(qK A c l fr _ (h.g_ (J.trans ad)) hn).mono ?_);rw[x];rintro e ai⟨rfl,S⟩))
 rw[<-N.out];clear Z;have F:=T.g_ S
 have R:(k:Int)<(l.length:Int):=by omega
 obtain⟨f,bh⟩:=nm_ (l[k]);rw[<-bh]at n V aT;have da:=h_ bh;clear bh;have k0:ai.cell? (c_ g (k*3))=some (i_ f.fr):=(F.f_ _).trans (n 0 _ rfl);have bO:ai.cell? (c_ g (k*3+1))=some (i_ f.dst):=(F.f_ _).trans (n 1 _ rfl);have bl:ai.cell? (c_ g (k*3+2))=some (i_ f.n):=(F.f_ _).trans (n 2 _ rfl)
 go_upto_region 7 with fail
 have L:=L_ ai 168 #[i_ f.fr,i_ f.dst,i_ f.n];have H:=F.alloc (.cells #[i_ f.fr,i_ f.dst,i_ f.n] 168);have Q:=(bX.g_ S).alloc (.cells #[i_ f.fr,i_ f.dst,i_ f.n] 168);have ak:=((J.trans ad).trans S).alloc (.cells #[i_ f.fr,i_ f.dst,i_ f.n] 168)
 have O:g≠ai.heap.size:=by have:=F.lt;omega
 have W:gr≠ai.heap.size:=by have:=(bX.g_ S).lt;omega
 have b3:w.heap.size<=ai.heap.size:=((J.trans ad).trans S).size;have o:gr≠g:=Bk.lF bX T d_;have bq:w.heap.size<=g:=F_ J.size y;clear k0 bO bl F aY av aq a8 bX ad S J cN T y;obtain⟨a6,bv⟩:=nm_ (ai.alloc (.cells #[i_ f.fr,i_ f.dst,i_ f.n] 168));rw[<-bv]at L H Q ak |-;clear bv;generalize ai.heap.size=gx at*
 by_cases hd:f.dst=dst
 .have q:(f.dst==dst)=true:=by simpa using hd
  by_cases h3:3<f.n+1
  .have bK:=h_ (show lu f dst=⟨f.fr,f.dst,3⟩ by unfold lu;rw[Q_ hd,Q_ h3])
   have bP:(3<f.n+1)=True:=by simp[h3]
   clear hd;have aU:=L.f_ 0;have bn:=L.f_ 1;have P:=L.f_ 2;have I:=L.hm 0;have K:=L.hm 1;have M:=L.hm 2
   go_upto_region 12 with fail
   have i:Bk (a6.setCell (c_ gx 2) (i_ 3)) gx 168 #[i_ f.fr,i_ f.dst,i_ 3]:=(L).hJ 2 (i_ 3);have a:=(H).h7 (p:=(c_ gx 2)) O (i_ 3);have d:=(Q).h7 (p:=(c_ gx 2)) W (i_ 3);have s:=(ak).setCell (p:=(c_ gx 2)) (.inr b3) (i_ 3);clear aU bn P I K M;obtain⟨b,t⟩:=nm_ (a6.setCell (c_ gx 2) (i_ 3));rw[<-t]at i a d s |-;clear t;have z0:=i.f_ 0;have aS:=i.f_ 1;have aX:=i.f_ 2;have k0:b.cell? (c_ g (k*3))=some (i_ f.fr):=(a.f_ _).trans (n 0 _ rfl);have bO:b.cell? (c_ g (k*3+1))=some (i_ f.dst):=(a.f_ _).trans (n 1 _ rfl);have bl:b.cell? (c_ g (k*3+2))=some (i_ f.n):=(a.f_ _).trans (n 2 _ rfl);have bB:=a.hm (k*3);have bH:=a.hm (k*3+1);have bZ:=a.hm (k*3+2);have bV:=d.f_ 0;have U:=d.hm 0
   have oI:Fs ((((b.setCell (c_ g (k*3)) (i_ f.fr)).setCell (c_ g (k*3+1)) (i_ f.dst)).setCell (c_ g (k*3+2)) (i_ 3))) (j_ g) (l.set k ⟨f.fr,f.dst,3⟩):=by
    unfold Fs;exact rV Fo.E oJ aH ⟨f.fr,f.dst,3⟩ _ _ _ rfl a r _ s_
   have v:=((d.h7 (p:=(c_ g (k*3))) o (i_ f.fr)).h7 (p:=(c_ g (k*3+1))) o (i_ f.dst)).h7 (p:=(c_ g (k*3+2))) o (i_ 3);have aw:Gr [gr] _ _:=(D_ [gr] ((((b.setCell (c_ g (k*3)) (i_ f.fr)).setCell (c_ g (k*3+1)) (i_ f.dst)).setCell (c_ g (k*3+2)) (i_ 3)))).setCell (p:=(c_ gr 0)) (.inl s_) (.slice (j_ g) l.length an);have B:=((s.setCell (p:=(c_ g (k*3))) (.inr bq) (i_ f.fr)).setCell (p:=(c_ g (k*3+1))) (.inr bq) (i_ f.dst)).setCell (p:=(c_ g (k*3+2))) (.inr bq) (i_ 3)
   have iv:(k2 l fr dst).length=l.length:=by rw[aT.out];simp
   go_wp2;refine rr_ #[.slice (j_ g) l.length an] (v.hJ 0 (.slice (j_ g) l.length an)) underlying96 ⟨some (c_ g 0),an,by rw[iv],?_,by rw[iv];exact b6,B.jz aw bE⟩;rw[aT.out,bK.out];unfold Fs;rw[Eb]
   have G:Sl ((((b.setCell (c_ g (k*3)) (i_ f.fr)).setCell (c_ g (k*3+1)) (i_ f.dst)).setCell (c_ g (k*3+2)) (i_ 3))) 168 3 (j_ g) l.length ((l.set k ⟨f.fr,f.dst,3⟩).flatMap Fo.E):=by have q:=oI;unfold Fs at q;rw[Eb]at q;exact q
   exact Sl.ig G v d_ aw
  .have bK:=h_ (show lu f dst=⟨f.fr,f.dst,f.n+1⟩ by unfold lu;rw[Q_ hd,P_ h3])
   have bP:(3<f.n+1)=False:=by simp[h3]
   clear hd;have aU:=L.f_ 0;have bn:=L.f_ 1;have P:=L.f_ 2;have I:=L.hm 0;have K:=L.hm 1;have M:=L.hm 2
   go_upto_region 12 with fail
   have i:Bk (a6.setCell (c_ gx 2) (i_ (f.n+1))) gx 168 #[i_ f.fr,i_ f.dst,i_ (f.n+1)]:=(L).hJ 2 (i_ (f.n+1));have a:=(H).h7 (p:=(c_ gx 2)) O (i_ (f.n+1));have d:=(Q).h7 (p:=(c_ gx 2)) W (i_ (f.n+1));have s:=(ak).setCell (p:=(c_ gx 2)) (.inr b3) (i_ (f.n+1));clear aU bn P I K M;obtain⟨b,t⟩:=nm_ (a6.setCell (c_ gx 2) (i_ (f.n+1)));rw[<-t]at i a d s |-;clear t;have z0:=i.f_ 0;have aS:=i.f_ 1;have aX:=i.f_ 2;have k0:b.cell? (c_ g (k*3))=some (i_ f.fr):=(a.f_ _).trans (n 0 _ rfl);have bO:b.cell? (c_ g (k*3+1))=some (i_ f.dst):=(a.f_ _).trans (n 1 _ rfl);have bl:b.cell? (c_ g (k*3+2))=some (i_ f.n):=(a.f_ _).trans (n 2 _ rfl);have bB:=a.hm (k*3);have bH:=a.hm (k*3+1);have bZ:=a.hm (k*3+2);have bV:=d.f_ 0;have U:=d.hm 0
   have oI:Fs ((((b.setCell (c_ g (k*3)) (i_ f.fr)).setCell (c_ g (k*3+1)) (i_ f.dst)).setCell (c_ g (k*3+2)) (i_ (f.n+1)))) (j_ g) (l.set k ⟨f.fr,f.dst,f.n+1⟩):=by
    unfold Fs;exact rV Fo.E oJ aH ⟨f.fr,f.dst,f.n+1⟩ _ _ _ rfl a r _ s_
   have v:=((d.h7 (p:=(c_ g (k*3))) o (i_ f.fr)).h7 (p:=(c_ g (k*3+1))) o (i_ f.dst)).h7 (p:=(c_ g (k*3+2))) o (i_ (f.n+1));have aw:Gr [gr] _ _:=(D_ [gr] ((((b.setCell (c_ g (k*3)) (i_ f.fr)).setCell (c_ g (k*3+1)) (i_ f.dst)).setCell (c_ g (k*3+2)) (i_ (f.n+1))))).setCell (p:=(c_ gr 0)) (.inl s_) (.slice (j_ g) l.length an);have B:=((s.setCell (p:=(c_ g (k*3))) (.inr bq) (i_ f.fr)).setCell (p:=(c_ g (k*3+1))) (.inr bq) (i_ f.dst)).setCell (p:=(c_ g (k*3+2))) (.inr bq) (i_ (f.n+1))
   have iv:(k2 l fr dst).length=l.length:=by rw[aT.out];simp
   go_wp2;refine rr_ #[.slice (j_ g) l.length an] (v.hJ 0 (.slice (j_ g) l.length an)) underlying96 ⟨some (c_ g 0),an,by rw[iv],?_,by rw[iv];exact b6,B.jz aw bE⟩;rw[aT.out,bK.out];unfold Fs;rw[Eb]
   have G:Sl ((((b.setCell (c_ g (k*3)) (i_ f.fr)).setCell (c_ g (k*3+1)) (i_ f.dst)).setCell (c_ g (k*3+2)) (i_ (f.n+1)))) 168 3 (j_ g) l.length ((l.set k ⟨f.fr,f.dst,f.n+1⟩).flatMap Fo.E):=by have q:=oI;unfold Fs at q;rw[Eb]at q;exact q
   exact Sl.ig G v d_ aw
 .have q:(f.dst==dst)=false:=by simpa using hd
  by_cases hz:f.n-1<=0
  .have bK:=h_ (show lu f dst=⟨f.fr,dst,1⟩ by unfold lu;rw[P_ hd,Q_ hz])
   have bI:(f.n-1<=0)=True:=by simp[hz]
   clear hd;have aU:=L.f_ 0;have bn:=L.f_ 1;have P:=L.f_ 2;have I:=L.hm 0;have K:=L.hm 1;have M:=L.hm 2
   go_upto_region 12 with fail
   have i:Bk (((a6.setCell (c_ gx 2) (i_ (f.n-1))).setCell (c_ gx 1) (i_ dst)).setCell (c_ gx 2) (i_ 1)) gx 168 #[i_ f.fr,i_ dst,i_ 1]:=(((L).hJ 2 (i_ (f.n-1))).hJ 1 (i_ dst)).hJ 2 (i_ 1);have a:=(((H).h7 (p:=(c_ gx 2)) O (i_ (f.n-1))).h7 (p:=(c_ gx 1)) O (i_ dst)).h7 (p:=(c_ gx 2)) O (i_ 1);have d:=(((Q).h7 (p:=(c_ gx 2)) W (i_ (f.n-1))).h7 (p:=(c_ gx 1)) W (i_ dst)).h7 (p:=(c_ gx 2)) W (i_ 1);have s:=(((ak).setCell (p:=(c_ gx 2)) (.inr b3) (i_ (f.n-1))).setCell (p:=(c_ gx 1)) (.inr b3) (i_ dst)).setCell (p:=(c_ gx 2)) (.inr b3) (i_ 1);clear aU bn P I K M;obtain⟨b,t⟩:=nm_ (((a6.setCell (c_ gx 2) (i_ (f.n-1))).setCell (c_ gx 1) (i_ dst)).setCell (c_ gx 2) (i_ 1));rw[<-t]at i a d s |-;clear t;have z0:=i.f_ 0;have aS:=i.f_ 1;have aX:=i.f_ 2;have k0:b.cell? (c_ g (k*3))=some (i_ f.fr):=(a.f_ _).trans (n 0 _ rfl);have bO:b.cell? (c_ g (k*3+1))=some (i_ f.dst):=(a.f_ _).trans (n 1 _ rfl);have bl:b.cell? (c_ g (k*3+2))=some (i_ f.n):=(a.f_ _).trans (n 2 _ rfl);have bB:=a.hm (k*3);have bH:=a.hm (k*3+1);have bZ:=a.hm (k*3+2);have bV:=d.f_ 0;have U:=d.hm 0
   have oI:Fs ((((b.setCell (c_ g (k*3)) (i_ f.fr)).setCell (c_ g (k*3+1)) (i_ dst)).setCell (c_ g (k*3+2)) (i_ 1))) (j_ g) (l.set k ⟨f.fr,dst,1⟩):=by
    unfold Fs;exact rV Fo.E oJ aH ⟨f.fr,dst,1⟩ _ _ _ rfl a r _ s_
   have v:=((d.h7 (p:=(c_ g (k*3))) o (i_ f.fr)).h7 (p:=(c_ g (k*3+1))) o (i_ dst)).h7 (p:=(c_ g (k*3+2))) o (i_ 1);have aw:Gr [gr] _ _:=(D_ [gr] ((((b.setCell (c_ g (k*3)) (i_ f.fr)).setCell (c_ g (k*3+1)) (i_ dst)).setCell (c_ g (k*3+2)) (i_ 1)))).setCell (p:=(c_ gr 0)) (.inl s_) (.slice (j_ g) l.length an);have B:=((s.setCell (p:=(c_ g (k*3))) (.inr bq) (i_ f.fr)).setCell (p:=(c_ g (k*3+1))) (.inr bq) (i_ dst)).setCell (p:=(c_ g (k*3+2))) (.inr bq) (i_ 1)
   have iv:(k2 l fr dst).length=l.length:=by rw[aT.out];simp
   go_wp2;refine rr_ #[.slice (j_ g) l.length an] (v.hJ 0 (.slice (j_ g) l.length an)) underlying96 ⟨some (c_ g 0),an,by rw[iv],?_,by rw[iv];exact b6,B.jz aw bE⟩;rw[aT.out,bK.out];unfold Fs;rw[Eb]
   have G:Sl ((((b.setCell (c_ g (k*3)) (i_ f.fr)).setCell (c_ g (k*3+1)) (i_ dst)).setCell (c_ g (k*3+2)) (i_ 1))) 168 3 (j_ g) l.length ((l.set k ⟨f.fr,dst,1⟩).flatMap Fo.E):=by have q:=oI;unfold Fs at q;rw[Eb]at q;exact q
   exact Sl.ig G v d_ aw
  .have bK:=h_ (show lu f dst=⟨f.fr,f.dst,f.n-1⟩ by unfold lu;rw[P_ hd,P_ hz])
   have bI:(f.n-1<=0)=False:=by simp[hz]
   clear hd;have aU:=L.f_ 0;have bn:=L.f_ 1;have P:=L.f_ 2;have I:=L.hm 0;have K:=L.hm 1;have M:=L.hm 2
   go_upto_region 12 with fail
   have i:Bk (a6.setCell (c_ gx 2) (i_ (f.n-1))) gx 168 #[i_ f.fr,i_ f.dst,i_ (f.n-1)]:=(L).hJ 2 (i_ (f.n-1));have a:=(H).h7 (p:=(c_ gx 2)) O (i_ (f.n-1));have d:=(Q).h7 (p:=(c_ gx 2)) W (i_ (f.n-1));have s:=(ak).setCell (p:=(c_ gx 2)) (.inr b3) (i_ (f.n-1));clear aU bn P I K M;obtain⟨b,t⟩:=nm_ (a6.setCell (c_ gx 2) (i_ (f.n-1)));rw[<-t]at i a d s |-;clear t;have z0:=i.f_ 0;have aS:=i.f_ 1;have aX:=i.f_ 2;have k0:b.cell? (c_ g (k*3))=some (i_ f.fr):=(a.f_ _).trans (n 0 _ rfl);have bO:b.cell? (c_ g (k*3+1))=some (i_ f.dst):=(a.f_ _).trans (n 1 _ rfl);have bl:b.cell? (c_ g (k*3+2))=some (i_ f.n):=(a.f_ _).trans (n 2 _ rfl);have bB:=a.hm (k*3);have bH:=a.hm (k*3+1);have bZ:=a.hm (k*3+2);have bV:=d.f_ 0;have U:=d.hm 0
   have oI:Fs ((((b.setCell (c_ g (k*3)) (i_ f.fr)).setCell (c_ g (k*3+1)) (i_ f.dst)).setCell (c_ g (k*3+2)) (i_ (f.n-1)))) (j_ g) (l.set k ⟨f.fr,f.dst,f.n-1⟩):=by
    unfold Fs;exact rV Fo.E oJ aH ⟨f.fr,f.dst,f.n-1⟩ _ _ _ rfl a r _ s_
   have v:=((d.h7 (p:=(c_ g (k*3))) o (i_ f.fr)).h7 (p:=(c_ g (k*3+1))) o (i_ f.dst)).h7 (p:=(c_ g (k*3+2))) o (i_ (f.n-1));have aw:Gr [gr] _ _:=(D_ [gr] ((((b.setCell (c_ g (k*3)) (i_ f.fr)).setCell (c_ g (k*3+1)) (i_ f.dst)).setCell (c_ g (k*3+2)) (i_ (f.n-1))))).setCell (p:=(c_ gr 0)) (.inl s_) (.slice (j_ g) l.length an);have B:=((s.setCell (p:=(c_ g (k*3))) (.inr bq) (i_ f.fr)).setCell (p:=(c_ g (k*3+1))) (.inr bq) (i_ f.dst)).setCell (p:=(c_ g (k*3+2))) (.inr bq) (i_ (f.n-1))
   have iv:(k2 l fr dst).length=l.length:=by rw[aT.out];simp
   go_wp2;refine rr_ #[.slice (j_ g) l.length an] (v.hJ 0 (.slice (j_ g) l.length an)) underlying96 ⟨some (c_ g 0),an,by rw[iv],?_,by rw[iv];exact b6,B.jz aw bE⟩;rw[aT.out,bK.out];unfold Fs;rw[Eb]
   have G:Sl ((((b.setCell (c_ g (k*3)) (i_ f.fr)).setCell (c_ g (k*3+1)) (i_ f.dst)).setCell (c_ g (k*3+2)) (i_ (f.n-1)))) 168 3 (j_ g) l.length ((l.set k ⟨f.fr,f.dst,f.n-1⟩).flatMap Fo.E):=by have q:=oI;unfold Fs at q;rw[Eb]at q;exact q
   exact Sl.ig G v d_ aw
theorem xS(l:List Fo)(fr dst:Int)(w:World)(h:Fs w A l)(hn:l.length<=1000000000)(hb:∀f∈l, -1000<=f.n/\f.n<=1000):
 Calls prog 51 #[.agg #[.slice A l.length c],i_ fr,i_ dst] w (xz (k2 l fr dst) w):=by
 cases x:oX l fr with
 |false=>exact xR A c l fr dst w h hn x
 |true=>exact xQ A c l fr dst w h hn x hb
def B1(l:List In)(hq g9 x:Int):Prop:=mC l x=true/\jm l hq g9 x=false/\ -1000000000<=x/\x<=1000000000
def BG(l:List In)(hq g9:Int)(w:World)(e:Ending)(w':World):Prop:=∃(A:Option Addr) (d:Nat) (xs:List Int),e=.returned (.slice A xs.length d)/\Ns w' 3 A xs/\xs.length<=16/\(∀x∈xs,B1 l hq g9 x)/\Gr [] w w'
def roomOf(v:Value):Nat:=match v with
 | .slice _ n _=>16-n
 |_=>0
theorem yz(l:List In)(hq g9:Int)(sA:Option Addr)(sc:Nat)(fl:List Fo)(hG n:Int)(w:World)(h:Is w A l)(hn:l.length<=1000000000)(ai:Fs w sA fl)(V:fl.length<=1000000000)(r:∀f∈fl, -1000000000<=f.dst/\f.dst<=1000000000)(H: -1000000000<=hG)(bT:hG<=1000000000):
 Calls prog 53 #[.agg #[.slice A l.length c,i_ hq,i_ g9],.agg #[.slice sA fl.length sc],i_ hG,i_ n] w (BG l hq g9 w):=by
 obtain⟨bz,bw,br,bi,bf⟩:=info_parts infoInt;obtain⟨D,C,J⟩:=pG w 26 #[.slice A l.length c,i_ hq,i_ g9] 96 #[.slice sA fl.length sc]
 go_enter func53,ntmps53
 go_upto_region 1 with fail
 obtain⟨bm,bN⟩:=nm_ ((w.alloc (.cells #[.slice A l.length c,i_ hq,i_ g9] 26)).alloc (.cells #[.slice sA fl.length sc] 96));rw[<-bN]at D C J |-;clear bN;obtain⟨L,S⟩:=nm_ w.heap.size;obtain⟨gs,z⟩:=nm_ (w.heap.size+1);rw[<-z]at C;rw[<-S]at D;rw[<-z,<-S];clear z S;go_wp2
 go_loopw [9,10,11] (λo a b wr=>∃(O:Option Addr) (n0 B:Nat) (xs:List Int) (x:Int) (bv:Bool),o=.slice O n0 B/\a=i_ x/\b=.bool bv/\n0=xs.length/\n0<=16/\(∀y∈xs,B1 l hq g9 y)/\ -1000000000<=x/\x<=1000000000/\wr.ownsRow w.heap.size 3 1 (.slice O n0 B) n0 (xs.map (Value.int .i64))/\Bk wr L 26 #[.slice A l.length c,i_ hq,i_ g9]/\Bk wr gs 96 #[.slice sA fl.length sc]/\Gr [] w wr) (λo _ _ _=>roomOf o)
 case atStart=>exact⟨none,0,0,[],hG,true,rfl,rfl,rfl,rfl,N_ _,(λy hy=>by cases hy),H,bT,iJ _ _ _ _,D,C,J⟩
 case round=>
  clear D C J;obtain⟨O,n0,B,xs,x,bv,rfl,rfl,rfl,hn0,v,R,bX,cg,ao,D,C,F⟩:=hrel;have cf:=h_ hn0;clear hn0
  cases bv with
  |false=>
   exact Io
  |true=>
   by_cases h1:(n0:Int)<n
   .by_cases h2:(n0:Int)<16
    .have Z:=D.f_ 0;have ah:=D.f_ 1;have au:=D.f_ 2
     cases hbg:mC l x with
     |false=>
      go_wp2_with (go_at_call 97;have ak:=lM A c l hq g9 x _ (h.g_ F) hn bX cg;rw[hbg]at ak;refine ak.mono ?_;rintro e w1⟨rfl,hg1⟩)
      all_goals go_ret
      all_goals exact⟨O,B,xs,by rw[<-cf.out];rfl,(by unfold Ns;rw[<-cf.out];exact Sl.iG (iu ao hg1)),(by have:=cf.out;omega),R,F.trans hg1⟩
     |true=>
      cases j:jm l hq g9 x with
      |true=>
       go_wp2_with (first|(go_at_call 97;have ak:=lM A c l hq g9 x _ (h.g_ F) hn bX cg;rw[hbg]at ak;refine ak.mono ?_;rintro e w1⟨rfl,hg1⟩;have z0:=(D.g_ hg1).f_ 0;have aS:=(D.g_ hg1).f_ 1;have aX:=(D.g_ hg1).f_ 2)|(go_at_call 83;have ak:=k8 A c l hq g9 x _ (h.g_ (F.trans hg1)) hn;rw[j]at ak;refine ak.mono ?_;rintro e w2⟨rfl,ad⟩))
       all_goals go_ret
       all_goals exact⟨O,B,xs,by rw[<-cf.out];rfl,(by unfold Ns;rw[<-cf.out];exact Sl.iG (iu ao (hg1.trans ad))),(by have:=cf.out;omega),R,(F.trans hg1).trans ad⟩
      |false=>
       have k:=h_ hbg;have i:=h_ j
       go_upto_region 4 with(first|(go_at_call 97;have ak:=lM A c l hq g9 x _ (h.g_ F) hn bX cg;rw[hbg]at ak;refine ak.mono ?_;rintro e w1⟨rfl,hg1⟩;have z0:=(D.g_ hg1).f_ 0;have aS:=(D.g_ hg1).f_ 1;have aX:=(D.g_ hg1).f_ 2)|(go_at_call 83;have ak:=k8 A c l hq g9 x _ (h.g_ (F.trans hg1)) hn;rw[j]at ak;refine ak.mono ?_;rintro e w2⟨rfl,ad⟩))
       clear hbg j z0 aS aX Z ah au;have aw:Gr [] wr (w2.alloc (.cells #[i_ x] 3)):=(hg1.trans ad).alloc _;have ax:=iu ao aw;have X:Sl (w2.alloc (.cells #[i_ x] 3)) 3 1 (j_ w2.heap.size) 1 [i_ x]:=kC (s:=1) (L_ w2 3 #[i_ x]) rfl;have t:=(F.trans aw).size;have m:=D.g_ aw;have p:=C.g_ aw
       go_upto_region 5 with(at_builtin;refine iD _ rfl (.tmp 36) (.tmp 38) 30 rfl w.heap.size 3 bz _ 1 8 underlying30 bw br bi bf rfl d_ d_ O n0 B _ rfl ax _ 1 1 _ rfl X (by intro u hu;simp at hu;subst hu;rfl) o_ t ?_;intro ay an T aY av;have d:=av.bk m d_;have q:=av.bk p d_;have E:=q.f_ 0)
       have aE:=av.gr [] w (G_ _) (F.trans aw)
       go_wp2_with (go_at_call 101;((with_reducible refine(yp sA sc fl x _ (ai.g_ aE) V).mono ?_);rintro e ae⟨rfl,am⟩))
       go_roundw
       case rel=>
        have g: -1000000000<=(if oX fl x=true then(fl.getD (k7 fl x) default).dst else 0)/\(if oX fl x=true then(fl.getD (k7 fl x) default).dst else 0)<=1000000000:=by
         split
         .rename_i aB
          have aj:=by unfold oX at aB;simp at aB;exact aB.1
          have Y:fl.getD (k7 fl x) default∈fl:=by rw[List.getD,K_ aj];exact J_ aj
          exact r _ Y
         .omega
        exact⟨ay,n0+1,an,xs++[x],_,_,rfl,rfl,rfl,by rw[H_,<-cf.out];rfl,by omega,(λy hy=>by
         rcases T_.1 hy with h3|h3
         .exact R y h3
         .have:y=x:=by simpa using h3
          subst this
          exact⟨k.out,i.out,bX,cg⟩),g.1,g.2,by rw[Ed];exact iu aY am,d.g_ am,q.g_ am,aE.trans am⟩
       case measure=>simp[roomOf];omega
    .exact Io
   .exact Io
theorem pB(id f:Int)(w:World)(h:Os w A l)(hr:mW w l)(hn:l.length<=1000000000)(aB:ji (hN l) id f=none):
 Calls prog 148 #[.agg #[.slice A l.length c],i_ id,i_ f] w λe w'=>e=.returned (.tuple #[.agg #[.bool false,i_ 0],.bool false])/\Gr [] w w':=by
 have q:=km A c l id f w h hr hn;rw[aB]at q;exact q
theorem ob(id f:Int)(v:Vl)(w:World)(h:Os w A l)(hr:mW w l)(hn:l.length<=1000000000)(aB:ji (hN l) id f=some v):
 Calls prog 148 #[.agg #[.slice A l.length c],i_ id,i_ f] w λe w'=>e=.returned (.tuple #[.agg #[.bool v.r,i_ v.n],.bool true])/\Gr [] w w':=by
 have q:=km A c l id f w h hr hn;rw[aB]at q;exact q
def xL(h:List Ob)(c:Cl):Bool:=match ji h c.id c.f with
 |none=>true
 |some v=> !(v.r==c.v.r&&v.n==c.v.n)
def kB(h:List Ob)(l:List Cl):Option Cl:=l.find? (xL h)
theorem tH(c:Option Addr)(cc:Nat)(a:List Cl)(w:World)(m:l5 w U hc hl)(Q:hl.length<=1000000000)(D:Cs w c a)(bZ:a.length<=1000000000):
 Calls prog 181 #[.agg #[.slice U hl.length hc],.slice c a.length cc] w λe w'=>e=.returned (.tuple #[.agg #[i_ ((kB (hN hl) a).getD default).id,i_ ((kB (hN hl) a).getD default).f,.bool ((kB (hN hl) a).getD default).v.r,i_ ((kB (hN hl) a).getD default).v.n],.bool (kB (hN hl) a).isSome])/\Gr [] w w':=by
 obtain⟨hB,hR,J⟩:=pG w 35 #[.slice U hl.length hc] 116 #[i_ 0,i_ 0,.bool false,i_ 0];have C:=h_ (show a.length=a.length from rfl);obtain⟨n,hn⟩:=nm_ a.length;have a2:=h_ hn;rw[<-hn];rw[<-hn]at bZ;clear hn
 go_enter func181,ntmps181
 go_upto_region 1 with fail
 obtain⟨bm,bN⟩:=nm_ ((w.alloc (.cells #[.slice U hl.length hc] 35)).alloc (.cells #[i_ 0,i_ 0,.bool false,i_ 0] 116));rw[<-bN]at hB hR J |-;clear bN;obtain⟨aP,aV⟩:=nm_ w.heap.size;obtain⟨gr,E⟩:=nm_ (w.heap.size+1);rw[<-E]at hR;rw[<-aV]at hB;rw[<-E,<-aV]
 have bE:w.heap.size<=gr:=by omega
 clear aV E;go_wp2
 go_loopw [12] (λi wr=>∃k:Nat,k<=n/\i=i_ k/\kB (hN hl) a=(a.drop k).find? (xL (hN hl))/\Bk wr aP 35 #[.slice U hl.length hc]/\Bk wr gr 116 #[i_ 0,i_ 0,.bool false,i_ 0]/\Gr [] w wr) (λi _=>n-(intOf i).toNat)
 case atStart=>exact⟨0,N_ _,rfl,rfl,hB,hR,J⟩
 case round=>
  clear hB hR J;obtain⟨k,hk,rfl,aK,s,az,F⟩:=hrel;have bl:=h_ aK;clear aK
  by_cases aj:k<n
  .have aH:k<a.length:=by rw[<-a2.out];exact aj
   obtain⟨b,off,aX,bj,be,bJ,bU⟩:=(D.g_ F).at_ aH;subst aX;have aZ:=X_ aH;generalize a[k]=x at*;obtain⟨g,aC,xr,l⟩:=x;simp only at bj be bJ bU;have aU:=h_ aZ;clear aZ;have aM:=(D_ [] wr).alloc (.cells #[i_ g,i_ aC,.bool xr,i_ l] 116);have L:Bk (wr.alloc (.cells #[i_ g,i_ aC,.bool xr,i_ l] 116)) wr.heap.size 116 #[i_ g,i_ aC,.bool xr,i_ l]:=L_ wr _ _;have Z:=(s.g_ aM).f_ 0;have z:=m.g_ F
   cases y:ji (hN hl) g aC with
   |none=>
    have aq:=h_ (show kB (hN hl) a=some ⟨g,aC,⟨xr,l⟩⟩ by rw[bl.out,aU.out,F3];unfold xL;simp only[y])
    go_wp2_with (go_at_call 148;have ak:=pB U hc hl g aC _ (z.g_ aM).os (z.g_ aM).la Q y;refine ak.mono ?_;rintro e ai⟨rfl,S⟩;have B:=((L.g_ S).alloc (.cells #[.bool false,i_ 0] 38));have j:=((az.g_ aM).g_ S).alloc (.cells #[.bool false,i_ 0] 38);have av:=L_ ai 38 #[.bool false,i_ 0];have v0:=B.f_ 0;have v1:=B.f_ 1;have ao:=B.f_ 2;have v3:=B.f_ 3;have am:=av.f_ 0;have aN:=av.f_ 1;have bV:=j.f_ 0;have r1:=j.f_ 1;have r2:=j.f_ 2;have r3:=j.f_ 3;have s0:=j.hm 0;have s1:=j.hm 1;have b6:=j.hm 2;have cx:=j.hm 3)
    exact G5
   |some v=>
    obtain⟨d,h⟩:=v;have aY:=h_ (show xL (hN hl) ⟨g,aC,⟨xr,l⟩⟩= !(d==xr&&h==l) by unfold xL;simp only[y])
    cases bp:(d==xr)with
    |false=>
     have aq:=h_ (show kB (hN hl) a=some ⟨g,aC,⟨xr,l⟩⟩ by rw[bl.out,aU.out,F3];rw[aY.out,bp];rfl);exact Gs
    |true=>
     cases bI:(h==l)with
     |false=>
      have aq:=h_ (show kB (hN hl) a=some ⟨g,aC,⟨xr,l⟩⟩ by rw[bl.out,aU.out,F3];rw[aY.out,bp,bI];rfl);exact Gs
     |true=>
      have aq:=h_ (show kB (hN hl) a=(a.drop (k+1)).find? (xL (hN hl)) by rw[bl.out,aU.out,List.find?_cons_of_neg];rw[aY.out,bp,bI];decide)
      go_wp2_with (go_at_call 148;have ak:=ob U hc hl g aC ⟨d,h⟩ _ (z.g_ aM).os (z.g_ aM).la Q y;refine ak.mono ?_;rintro e ai⟨rfl,S⟩;have B:=((L.g_ S).alloc (.cells #[.bool d,i_ h] 38));have j:=((az.g_ aM).g_ S).alloc (.cells #[.bool d,i_ h] 38);have av:=L_ ai 38 #[.bool d,i_ h];have ao:=B.f_ 2;have v3:=B.f_ 3;have am:=av.f_ 0;have aN:=av.f_ 1)
      go_roundw
      case rel=>exact⟨k+1,by omega,by go_num,aq.out,((s.g_ aM).g_ S).alloc _,j,((F.trans aM).trans S).alloc _⟩
      case measure=>simp[intOf];omega
  .have a7:k=n:=by omega
   have aq:=h_ (show kB (hN hl) a=none by rw[bl.out,a7,a2.out,List.drop_length];rfl);have bV:=az.f_ 0;have r1:=az.f_ 1;have r2:=az.f_ 2;have r3:=az.f_ 3;have s0:=az.hm 0;have s1:=az.hm 1;have b6:=az.hm 2;have cx:=az.hm 3;go_wp2;refine D8 (v:=.tuple #[.agg #[i_ 0,i_ 0,.bool false,i_ 0],.bool false]) (it (p:=4) (u:=5) rfl _ _ _ _ _ _ _ rfl (((((az.hJ 0 (i_ 0)).hJ 1 (i_ 0)).hJ 2 (.bool false)).hJ 3 (i_ 0))) underlying116 rfl k_) rfl ?_;rw[aq.out];exact⟨rfl,(((F.setCell (p:=(c_ gr 0)) (.inr bE) _).setCell (p:=(c_ gr 1)) (.inr bE) _).setCell (p:=(c_ gr 2)) (.inr bE) _).setCell (p:=(c_ gr 3)) (.inr bE) _⟩
theorem rz(w:World)(m:l5 w U hc hl)(Q:hl.length<=1000000000)(X:kY w t)(bZ:t.rs.l.length<=1000000000):
 Calls prog 150 #[.agg #[.slice U hl.length hc],.agg t.g8] w λe w'=>∃(a b:Int) (r:Bool) (n:Int),e=.returned (.tuple #[.agg #[i_ a,i_ b,.bool r,i_ n],.bool (kB (hN hl) t.rs.l).isNone])/\Gr [] w w':=by
 obtain⟨hB,V,hR,J⟩:=vQ w 35 #[.slice U hl.length hc] 53 t.g8 116 #[i_ 0,i_ 0,.bool false,i_ 0]
 go_enter func150,ntmps150
 go_upto_region 1 with fail
 obtain⟨bm,bN⟩:=nm_ (((w.alloc (.cells #[.slice U hl.length hc] 35)).alloc (.cells t.g8 53)).alloc (.cells #[i_ 0,i_ 0,.bool false,i_ 0] 116));rw[<-bN]at hB V hR J |-;clear bN;obtain⟨aP,aV⟩:=nm_ w.heap.size;obtain⟨gt,K⟩:=nm_ (w.heap.size+1);obtain⟨gr,E⟩:=nm_ (w.heap.size+1+1);rw[<-E]at hR;rw[<-K]at V;rw[<-aV]at hB;rw[<-E,<-K,<-aV]
 have bE:w.heap.size<=gr:=by omega
 clear aV E K;have Z:=hB.f_ 0;have c:bm.cell? (c_ gt 37)=some (.slice t.rs.A t.rs.l.length t.rs.c):=(V.f_ 37).trans rfl
 cases aZ:kB (hN hl) t.rs.l with
 |none=>
  obtain⟨x,I⟩:=mn_ ((none:Option Cl).getD default)
  go_wp2_with (go_at_call 181;((with_reducible refine(tH U hc hl t.rs.A t.rs.c t.rs.l _ (m.g_ J) Q (X.g_ J).rs bZ).mono ?_);rw[aZ,I];rintro e ai⟨rfl,S⟩;have j:=(hR.g_ S).alloc (.cells #[i_ x.id,i_ x.f,.bool x.v.r,i_ x.v.n] 116);have av:=L_ ai 116 #[i_ x.id,i_ x.f,.bool x.v.r,i_ x.v.n];have am:=av.f_ 0;have aN:=av.f_ 1;have d:=av.f_ 2;have eA:=av.f_ 3;have bV:=j.f_ 0;have r1:=j.f_ 1;have r2:=j.f_ 2;have r3:=j.f_ 3;have s0:=j.hm 0;have s1:=j.hm 1;have b6:=j.hm 2;have cx:=j.hm 3))
  refine D8 (v:=.tuple #[.agg #[i_ x.id,i_ x.f,.bool x.v.r,i_ x.v.n],.bool true]) (it (p:=4) (u:=5) rfl _ _ _ _ _ _ _ rfl (((((j.hJ 0 (i_ x.id)).hJ 1 (i_ x.f)).hJ 2 (.bool x.v.r)).hJ 3 (i_ x.v.n))) underlying116 rfl k_) rfl ?_;exact KP
 |some y=>
  obtain⟨x,I⟩:=mn_ ((some y:Option Cl).getD default)
  go_wp2_with (go_at_call 181;((with_reducible refine(tH U hc hl t.rs.A t.rs.c t.rs.l _ (m.g_ J) Q (X.g_ J).rs bZ).mono ?_);rw[aZ,I];rintro e ai⟨rfl,S⟩;have j:=(hR.g_ S).alloc (.cells #[i_ x.id,i_ x.f,.bool x.v.r,i_ x.v.n] 116);have av:=L_ ai 116 #[i_ x.id,i_ x.f,.bool x.v.r,i_ x.v.n];have am:=av.f_ 0;have aN:=av.f_ 1;have d:=av.f_ 2;have eA:=av.f_ 3;have bV:=j.f_ 0;have r1:=j.f_ 1;have r2:=j.f_ 2;have r3:=j.f_ 3;have s0:=j.hm 0;have s1:=j.hm 1;have b6:=j.hm 2;have cx:=j.hm 3))
  refine D8 (v:=.tuple #[.agg #[i_ x.id,i_ x.f,.bool x.v.r,i_ x.v.n],.bool false]) (it (p:=4) (u:=5) rfl _ _ _ _ _ _ _ rfl (((((j.hJ 0 (i_ x.id)).hJ 1 (i_ x.f)).hJ 2 (.bool x.v.r)).hJ 3 (i_ x.v.n))) underlying116 rfl k_) rfl ?_;exact KP
section
open Go.RowKit Go.Maps
theorem pZ{H:Type}{P:Program}{e:TypeId}(he:P.underlying e=some .bool){v:Value}{z:DataW H × List MemPlace}(h:plainElem P e v=some z):∃x,v=.bool x/\z=(.lit (.bool x),[]):=by
 unfold plainElem at h;rw[he]at h
 cases v<;>simp at h
 exact⟨_,rfl,h.symm⟩
theorem yR(w:World):(zeroValue 4).run prog w=.ok (.bool false) w:=by kernel_rfl
def Bm(w:World)(b n:Nat)(f:Int->Bool):Prop:=
 ∃D:DataW Unit,w.ownsMap prog 2 (plainElem prog 4) b n D/\IsMap D/\∀id:Int,(Lit.int .i64 id).wf=true->D.atKey (.int .i64 id) (.lit (.bool false))=.lit (.bool (f id))
section
variable{w w':World}{b n:Nat}{f:Int->Bool}
theorem Bm.made(w:World):Bm (w.alloc (.map #[] 0)) w.heap.size 0 (λ_=>false):=
 ⟨.map [],World.ownsMap_made w _ _ _,⟨[],rfl⟩,λid _=>rfl⟩
theorem Bm.lt(h:Bm w b n f):b<w.heap.size:=by obtain⟨D,h1,_⟩:=h;exact h1.lt
theorem Bm.ir(h:Bm w b n f)(hb:w'.heap[b]?=w.heap[b]?):Bm w' b n f:=JN
theorem Bm.g_(h:Bm w b n f)(hg:Gr [] w w'):Bm w' b n f:=h.ir (hg.block b h.lt s_)
theorem Bm.congr{g:Int->Bool}(h:Bm w b n f)(hf:∀i,f i=g i):Bm w b n g:=by
 have e:f=g:=funext hf;rw[<-e];exact h
theorem Bm.zJ{g:Nat}{t:TypeId}{cs:Array Value}(h:Bm w b n f)(hk:Bk w g t cs):g≠b:=by
 rintro rfl;obtain⟨D,⟨es,a,h1,h2⟩,h3⟩:=h;unfold Bk at hk;rw[hk]at h1
 cases h1
theorem Bm.lookup(h:Bm w b n f){id:Int}(aK:(Lit.int .i64 id).wf=true):(Instr.lookup 105 (.map (some b)) (.int .i64 id) false).run prog w=.ok (.bool (f id)) w:=by
 obtain⟨D,h1,h2,h3⟩:=h;obtain⟨v,ps,H,hv⟩:=h1.lookup (int_keyed underlying2) underlying105 (yR w) (plainElem_bool underlying4 false) (keyOf_int_mk underlying2 aK);obtain⟨x,rfl,I⟩:=pZ underlying4 hv;have aw:=D9 Prod.fst I;simp only at aw;rw[h3 id aK]at aw;have ax:=Lit.bool.inj (DataW.lit.inj aw);rw[ax];exact H
theorem Bm.update(h:Bm w b n f)(hn:n<maxLen){id:Int}{v:Bool}(aK:(Lit.int .i64 id).wf=true):
 ∃w',(Instr.mapUpdate 105 (.map (some b)) (.int .i64 id) (.bool v)).run prog w=.ok () w'/\Bm w' b (n+1) (λi=>if i=id then v else f i)/\w.grownBy w' (some b):=by
 obtain⟨D,h1,h2,h3⟩:=h;obtain⟨w',H,aw,ax⟩:=h1.update (int_keyed underlying2) underlying105 hn (keyOf_int_mk underlying2 aK) (plainElem_bool underlying4 v);refine⟨w',H,⟨_,aw,h2.put _ _,λi hi=>?_⟩,ax⟩
 by_cases he:i=id
 .subst he
  show _=DataW.lit (.bool (if i=i then v else f i))
  rw[Q_ rfl];exact atKey_put_same (k:=.int .i64 i) h2 trivial _ _
 .show _=DataW.lit (.bool (if i=id then v else f i))
  exact JI
end
def tE(h:List Ob)(d:Dl):Bool:=match ji h d.id d.f with
 |none=>true
 |some v=>v.r
def tx(h:List Ob)(o:Ob):Bool:=(jn h o.id).isSome
def vr(nw:List Ob)(id:Int):Bool:=iN (λo:Ob=>o.id==id) nw
def yG(h nw:List Ob)(c:Cl):Bool:=(ji h c.id c.f).isNone&& !(vr nw c.id)
def pr(h:List Ob)(t:jg):Int:=
 if t.hV≠2/\t.hV≠3 then 7 else
 if(kB h t.rs).isSome=true then 14 else
 if iN (tE h) t.ds=true then 14 else
 if iN (tx h) t.nw=true then 9 else
 if iN (yG h t.nw) t.ws=true then 9 else 0
theorem yo{nw:List Ob}{k:Nat}(hk:k<nw.length)(i:Int):vr (nw.take (k+1)) i=(if i=nw[k].id then true else vr (nw.take k) i):=by
 unfold vr iN;rw[O_ hk,List.any_append];simp only[F1,List.any_nil,Bool.or_false]
 by_cases h:i=nw[k].id
 .rw[Q_ h,h];simp
 .rw[P_ h]
  have:(nw[k].id==i)=false:=by simpa using λe=>h e.symm
  rw[this,Bool.or_false]
theorem rF(w:World)(hv:l5 w U hc hl)(Q:hl.length<=1000000000)(X:kY w t)(ao:t.p.sm 500000)(aV:∀r∈t.nw.l,j9 r.o.id)(aO:∀c∈t.ws.l,j9 c.id):
 Calls prog 100 #[.agg #[.slice U hl.length hc],.agg t.g8] w λe w'=>e=.returned (.int .i64 (pr (hN hl) t.p))/\Gr [] w w':=by
 have ax:t.rs.l.length<=1000000000:=F_ ao.rs d_;have bz:t.ds.l.length<=1000000000:=F_ ao.ds d_;have bD:t.ws.l.length<=1000000000:=F_ ao.ws d_
 have bB:t.nw.l.length<=1000000:=by have:=ao.nw;have e:t.p.nw.length=t.nw.l.length:=hW _;omega
 obtain⟨P,hP⟩:=mn_ (pr (hN hl) t.p);rw[hP];have aT:=h_ hP;clear hP;obtain⟨z,V,J⟩:=pG w 35 #[.slice U hl.length hc] 53 t.g8
 go_enter func100,ntmps100
 go_upto_region 1 with fail
 obtain⟨bm,bN⟩:=nm_ ((w.alloc (.cells #[.slice U hl.length hc] 35)).alloc (.cells t.g8 53));rw[<-bN]at z V J |-;clear bN;obtain⟨aW,T⟩:=nm_ w.heap.size;obtain⟨gt,K⟩:=nm_ (w.heap.size+1);rw[<-K]at V;rw[<-T]at z;rw[<-K,<-T];clear K T;have ck:bm.cell? (c_ gt 42)=some (.int .i64 t.hV):=(V.f_ 42).trans rfl;have Z:=z.f_ 0;have bw:=V.f_ 37
 by_cases bA:t.hV≠2/\t.hV≠3
 .have O:Hid (P=7):=h_ (by rw[<-aT.out];unfold pr;exact Q_ bA)
  have bI:(t.hV !=2)=true:=by simpa using bA.1
  have bP:(t.hV !=3)=true:=by simpa using bA.2
  clear bA;go_wp2;go_ret;rw[O.out];exact⟨rfl,J⟩
 have az:Hid (P=if(kB (hN hl) t.rs.l).isSome=true then 14 else if iN (tE (hN hl)) t.ds.l=true then 14 else if iN (tx (hN hl)) (hN t.nw.l)=true then 9 else if iN (yG (hN hl) (hN t.nw.l)) t.ws.l=true then 9 else 0):=h_ (by rw[<-aT.out];unfold pr;exact P_ bA);clear aT
 have bp:∀(q:Prop),q->q:=λ_ h=>h
 clear bp
 go_cut [27] (λb a7=>b=.bool false/\a7=bm)
 case first=>
  by_cases h2:t.hV=2
  .have bI:(t.hV !=2)=false:=by simp[h2]
   clear bA h2;go_wp2;go_meet;exact⟨rfl,rfl⟩
  .have h3:t.hV=3:=by
    by_cases h3:t.hV=3
    .exact h3
    .exact D6 ⟨h2,h3⟩ bA
   have bI:(t.hV !=2)=true:=by simpa using h2
   have bP:(t.hV !=3)=false:=by simp[h3]
   clear bA h2 h3;go_wp2;go_meet;exact⟨rfl,rfl⟩
 case rest=>
 obtain⟨rfl,dZ⟩:=hcut;subst wc;clear bA
 have bt:∀j,j<48->bm.cell? (c_ gt (0+j))=t.g8[j]?:=λj _=>by rw[U_];exact V.f_ j
 cases aK:(kB (hN hl) t.rs.l).isSome with
 |true=>
  have D:(kB (hN hl) t.rs.l).isNone=false:=by cases h:kB (hN hl) t.rs.l with|none=>rw[h]at aK;cases aK|some _=>rfl
  have O:Hid (P=14):=h_ (by rw[az.out,Q_ aK]);clear aK
  go_wp2_with (first|(refine kJ V underlying53 ?_)|(go_at_call 150;((with_reducible refine(rz U hc hl t _ (hv.g_ J) Q (X.g_ J) ax).mono ?_);rw[D];rintro e ai⟨aJ,af,aY,aS,rfl,S⟩)))
  all_goals go_ret
  all_goals rw[O.out]
  all_goals exact⟨rfl,(J.trans S).alloc _⟩
 |false=>
  have D:(kB (hN hl) t.rs.l).isNone=true:=by cases h:kB (hN hl) t.rs.l with|none=>rfl|some _=>rw[h]at aK;cases aK
  have s:Hid (P=if iN (tE (hN hl)) t.ds.l=true then 14 else if iN (tx (hN hl)) (hN t.nw.l)=true then 9 else if iN (yG (hN hl) (hN t.nw.l)) t.ws.l=true then 9 else 0):=h_ (by rw[az.out,P_ (by rw[aK];decide)]);clear aK az
  go_upto_region 6 with(first|(refine kJ V underlying53 ?_)|(go_at_call 150;((with_reducible refine(rz U hc hl t _ (hv.g_ J) Q (X.g_ J) ax).mono ?_);rw[D];rintro e ai⟨aJ,af,aY,aS,rfl,S⟩)))
  have aI:Gr [] bm (ai.alloc (.cells #[.int .i64 aJ,.int .i64 af,.bool aY,.int .i64 aS] 116)):=S.alloc _;replace z:=z.g_ aI;replace V:=V.g_ aI;replace J:=J.trans aI;clear aI S Z ck bw bt;obtain⟨R,I⟩:=nm_ (ai.alloc (.cells #[.int .i64 aJ,.int .i64 af,.bool aY,.int .i64 aS] 116));rw[<-I]at z V J |-;clear I;have aZ:R.cell? (c_ gt 40)=some (.slice t.ds.A t.ds.l.length t.ds.c):=(V.f_ 40).trans rfl;go_wp2
  go_loopw [39] (λi wr=>∃k:Nat,k<=t.ds.l.length/\i=.int .i64 k/\iN (tE (hN hl)) t.ds.l=iN (tE (hN hl)) (t.ds.l.drop k)/\Bk wr aW 35 #[.slice U hl.length hc]/\Bk wr gt 53 t.g8/\Gr [] w wr) (λi _=>t.ds.l.length-(intOf i).toNat)
  case atStart=>exact⟨0,N_ _,rfl,rfl,z,V,J⟩
  case round=>
   clear z V J aZ;obtain⟨k,hk,rfl,G,z,V,F⟩:=hrel;have aR:=h_ G;clear G
   by_cases aj:k<t.ds.l.length
   .have aL:(k:Int)<(t.ds.l.length:Int):=by omega
    obtain⟨b,off,aX,bj,be,bJ,bU,bu⟩:=(X.ds.g_ F).at_ aj;rw[aX];have bK:=h_ (oO (p:=tE (hN hl)) aj);have a:=h_ (oo (p:=tE (hN hl)) aj);generalize t.ds.l[k]=x at*;obtain⟨Y,E,bg,bl,a8⟩:=x;simp only at bj be bJ bU bu;have aM:Gr [] wr (wr.alloc (.cells #[.int .i64 Y,.int .i64 E,.int .i64 bg,.bool bl,.int .i64 a8] 124)):=(D_ [] wr).alloc _;have L:=L_ wr 124 #[.int .i64 Y,.int .i64 E,.int .i64 bg,.bool bl,.int .i64 a8];have B:=L.f_ 0;have aB:=L.f_ 1;have Z:=(z.g_ aM).f_ 0
    cases y:ji (hN hl) Y E with
    |none=>
     have O:Hid (P=14):=h_ (by rw[s.out,aR.out,bK.out (by unfold tE;simp only[y]),Q_ rfl])
     go_wp2_with (go_at_call 148;have ak:=pB U hc hl Y E _ (hv.g_ (F.trans aM)).os (hv.g_ (F.trans aM)).la Q y;refine ak.mono ?_;rintro e ai⟨rfl,S⟩;have av:=L_ ai 38 #[.bool false,.int .i64 0];have am:=av.f_ 0;have aN:=av.f_ 1;have aU:=(L.g_ (S.alloc (.cells #[.bool false,.int .i64 0] 38))).f_ 0)
     exact Lb
    |some u=>
     cases aH:u.r with
     |true=>
      have O:Hid (P=14):=h_ (by rw[s.out,aR.out,bK.out (by unfold tE;simp only[y];exact aH),Q_ rfl])
      go_wp2_with (go_at_call 148;have ak:=ob U hc hl Y E u _ (hv.g_ (F.trans aM)).os (hv.g_ (F.trans aM)).la Q y;refine ak.mono ?_;rintro e ai⟨rfl,S⟩;have av:=L_ ai 38 #[.bool u.r,.int .i64 u.n];have am:=(av.f_ 0).trans (D9 (λq=>some (Value.bool q)) aH);have aN:=av.f_ 1;have aU:=(L.g_ (S.alloc (.cells #[.bool u.r,.int .i64 u.n] 38))).f_ 0)
      exact Lb
     |false=>
      have a2:=h_ (a.out (by unfold tE;simp only[y];exact aH))
      go_wp2_with (go_at_call 148;have ak:=ob U hc hl Y E u _ (hv.g_ (F.trans aM)).os (hv.g_ (F.trans aM)).la Q y;refine ak.mono ?_;rintro e ai⟨rfl,S⟩;have av:=L_ ai 38 #[.bool u.r,.int .i64 u.n];have am:=(av.f_ 0).trans (D9 (λq=>some (Value.bool q)) aH);have aN:=av.f_ 1;have aU:=(L.g_ (S.alloc (.cells #[.bool u.r,.int .i64 u.n] 38))).f_ 0)
      have aw:Gr [] wr (ai.alloc (.cells #[.bool false,.int .i64 u.n] 38)):=(aM.trans S).alloc _;go_roundw
      case rel=>exact⟨k+1,by omega,by go_num,by rw[aR.out,a2.out],z.g_ aw,V.g_ aw,F.trans aw⟩
      case measure=>simp[intOf];omega
   .have aL:¬(k:Int)<(t.ds.l.length:Int):=by omega
    have an:Hid (P=if iN (tx (hN hl)) (hN t.nw.l)=true then 9 else if iN (yG (hN hl) (hN t.nw.l)) t.ws.l=true then 9 else 0):=h_ (by rw[s.out,aR.out,qL o_,P_ d_]);clear s aR aj;have ad:wr.cell? (c_ gt 39)=some (.slice t.nw.A t.nw.l.length t.nw.c):=(V.f_ 39).trans rfl;have au:= @run_makeMap prog;have aP:=Bm.made wr;have bn:w.heap.size<=wr.heap.size:=F.size;have bC:Gr [] wr (wr.alloc (.map #[] 0)):=(D_ [] wr).alloc _;replace z:=z.g_ bC;replace V:=V.g_ bC;have A:=F.trans bC
    go_upto_region 14 with fail
    clear aL ad au F bC;obtain⟨bh,ay⟩:=nm_ (wr.alloc (.map #[] 0));rw[<-ay]at z V aP A |-;clear ay;generalize wr.heap.size=d at*;have ad:bh.cell? (c_ gt 39)=some (.slice t.nw.A t.nw.l.length t.nw.c):=(V.f_ 39).trans rfl;have m:w.heap.size<=d:=bn;clear bn;go_wp2
    go_loopw [63] (λi wr=>∃k:Nat,k<=t.nw.l.length/\i=.int .i64 k/\iN (tx (hN hl)) (hN t.nw.l)=iN (tx (hN hl)) ((hN t.nw.l).drop k)/\Bm wr d k (vr ((hN t.nw.l).take k))/\Bk wr aW 35 #[.slice U hl.length hc]/\Bk wr gt 53 t.g8/\Gr [] w wr) (λi _=>t.nw.l.length-(intOf i).toNat)
    case atStart=>exact⟨0,N_ _,rfl,rfl,aP.congr (λi=>rfl),z,V,A⟩
    case round=>
     clear z V A ad aP;obtain⟨k,hk,rfl,G,W,z,V,F⟩:=hrel;have aR:=h_ G;clear G
     by_cases aj:k<t.nw.l.length
     .have aL:(k:Int)<(t.nw.l.length:Int):=by omega
      have ar:k<(hN t.nw.l).length:=by rw[hW];exact aj
      obtain⟨b,off,aX,bj,be⟩:=(X.nw.g_ F).at_ aj;rw[aX]
      have ah:(hN t.nw.l)[k]=t.nw.l[k].o:=by simp[hN]
      have bK:=h_ (oO (p:=tx (hN hl)) ar);have a:=h_ (oo (p:=tx (hN hl)) ar);have bL:=h_ (yo ar);rw[ah]at bK a bL;have C:=aV t.nw.l[k] (J_ aj);clear ah;generalize t.nw.l[k]=r at*;have aM:Gr [] wr (wr.alloc (.cells #[.int .i64 r.o.id,.slice r.A r.o.fs.length r.c] 56)):=(D_ [] wr).alloc _;have L:=L_ wr 56 #[.int .i64 r.o.id,.slice r.A r.o.fs.length r.c];have B:=L.f_ 0;have Z:=(z.g_ aM).f_ 0
      cases y:jn (hN hl) r.o.id with
      |some o=>
       have O:Hid (P=9):=h_ (by rw[an.out,aR.out,bK.out (by unfold tx;rw[y];rfl),Q_ rfl])
       go_wp2_with (go_at_call 14;have ak:=get_some U hc hl r.o.id o _ (hv.g_ (F.trans aM)).os (hv.g_ (F.trans aM)).la Q y;refine ak.mono ?_;rintro e ai⟨a6,c5,rfl,ag,S⟩)
       exact Lb
      |none=>
       have a2:=h_ (a.out (by unfold tx;rw[y];rfl))
       go_upto_region 20 with(go_at_call 14;have ak:=get_none U hc hl r.o.id _ (hv.g_ (F.trans aM)).os Q y;refine ak.mono ?_;rintro e ai⟨rfl,S⟩)
       have aw:Gr [] wr (ai.alloc (.cells #[.int .i64 0,n_] 56)):=(aM.trans S).alloc _;have aF:=W.g_ aw;have N:=z.g_ aw;have M:=V.g_ aw;have bV:=F.trans aw;have br:=(L.g_ (S.alloc (.cells #[.int .i64 0,n_] 56))).f_ 0;clear B Z;obtain⟨bG,aE⟩:=nm_ (ai.alloc (.cells #[.int .i64 0,n_] 56));rw[<-aE]at aF N M bV br |-;clear aE;obtain⟨ae,H,bv,bE⟩:=aF.update (show k<maxLen by simp only[maxLen];omega) (v:=true) C;go_wp2;have bi:Gr [d] bG ae:=(D_ [d] bG).grown bE (λq aq=>by injection aq with aq;subst aq;exact .inl s_);go_roundw
       case rel=>exact⟨k+1,by omega,by go_num,by rw[aR.out,a2.out],bv.congr (λi=>(bL.out i).symm),N.gr bi (by simpa using aF.zJ N),M.gr bi (by simpa using aF.zJ M),bV.jz bi m⟩
       case measure=>simp[intOf];omega
     .have aL:¬(k:Int)<(t.nw.l.length:Int):=by omega
      have bf:Hid (P=if iN (yG (hN hl) (hN t.nw.l)) t.ws.l=true then 9 else 0):=h_ (by rw[an.out,aR.out,qL (by rw[hW];omega),P_ d_]);have aG:Bm wr d k (vr (hN t.nw.l)):=W.congr (λi=>by rw[W_ (by rw[hW];omega)]);clear an aR aj W;have bo:wr.cell? (c_ gt 38)=some (.slice t.ws.A t.ws.l.length t.ws.c):=(V.f_ 38).trans rfl;obtain⟨m0,cA⟩:=nm_ k;rw[<-cA]at aG;obtain⟨bq,ap⟩:=nm_ wr;rw[<-ap]at aG z V F bo |-;clear ap;go_wp2;clear aL hk cA
      go_loopw [82] (λi wr=>∃k:Nat,k<=t.ws.l.length/\i=.int .i64 k/\iN (yG (hN hl) (hN t.nw.l)) t.ws.l=iN (yG (hN hl) (hN t.nw.l)) (t.ws.l.drop k)/\Bm wr d m0 (vr (hN t.nw.l))/\Bk wr aW 35 #[.slice U hl.length hc]/\Bk wr gt 53 t.g8/\Gr [] w wr) (λi _=>t.ws.l.length-(intOf i).toNat)
      case atStart=>exact⟨0,N_ _,rfl,rfl,aG,z,V,F⟩
      case round=>
       clear z V F bo aG;obtain⟨k,hk,rfl,G,W,z,V,F⟩:=hrel;have aR:=h_ G;clear G
       by_cases aj:k<t.ws.l.length
       .have aL:(k:Int)<(t.ws.l.length:Int):=by omega
        obtain⟨b,off,aX,bj,be,bJ,bU⟩:=(X.ws.g_ F).at_ aj;rw[aX];have bK:=h_ (oO (p:=yG (hN hl) (hN t.nw.l)) aj);have a:=h_ (oo (p:=yG (hN hl) (hN t.nw.l)) aj);have C:=aO t.ws.l[k] (J_ aj);generalize t.ws.l[k]=x at*;obtain⟨g,aC,xr,l⟩:=x;simp only at bj be bJ bU C;have aM:Gr [] wr (wr.alloc (.cells #[.int .i64 g,.int .i64 aC,.bool xr,.int .i64 l] 116)):=(D_ [] wr).alloc _;have L:=L_ wr 116 #[.int .i64 g,.int .i64 aC,.bool xr,.int .i64 l];have B:=L.f_ 0;have aB:=L.f_ 1;have Z:=(z.g_ aM).f_ 0
        cases y:ji (hN hl) g aC with
        |some u=>
         have a2:=h_ (a.out (by unfold yG;simp only[y];rfl))
         go_wp2_with (go_at_call 148;have ak:=ob U hc hl g aC u _ (hv.g_ (F.trans aM)).os (hv.g_ (F.trans aM)).la Q y;refine ak.mono ?_;rintro e ai⟨rfl,S⟩;have av:=L_ ai 38 #[.bool u.r,.int .i64 u.n];have am:=av.f_ 0;have aN:=av.f_ 1;have aU:=(L.g_ (S.alloc (.cells #[.bool u.r,.int .i64 u.n] 38))).f_ 0)
         have aw:Gr [] wr (ai.alloc (.cells #[.bool u.r,.int .i64 u.n] 38)):=(aM.trans S).alloc _;exact Iy
        |none=>
         cases aD:vr (hN t.nw.l) g with
         |true=>
          have a2:=h_ (a.out (by unfold yG;simp only[y,aD];rfl))
          go_wp2_with (go_at_call 148;have ak:=pB U hc hl g aC _ (hv.g_ (F.trans aM)).os (hv.g_ (F.trans aM)).la Q y;refine ak.mono ?_;rintro e ai⟨rfl,S⟩;have av:=L_ ai 38 #[.bool false,.int .i64 0];have am:=av.f_ 0;have aN:=av.f_ 1;have aU:=(L.g_ (S.alloc (.cells #[.bool false,.int .i64 0] 38))).f_ 0;have aw:Gr [] wr (ai.alloc (.cells #[.bool false,.int .i64 0] 38)):=(aM.trans S).alloc _;have aQ:=(W.g_ aw).lookup C;rw[aD]at aQ)
          exact Iy
         |false=>
          have O:Hid (P=9):=h_ (by rw[bf.out,aR.out,bK.out (by unfold yG;simp only[y,aD];rfl),Q_ rfl])
          go_wp2_with (go_at_call 148;have ak:=pB U hc hl g aC _ (hv.g_ (F.trans aM)).os (hv.g_ (F.trans aM)).la Q y;refine ak.mono ?_;rintro e ai⟨rfl,S⟩;have av:=L_ ai 38 #[.bool false,.int .i64 0];have am:=av.f_ 0;have aN:=av.f_ 1;have aU:=(L.g_ (S.alloc (.cells #[.bool false,.int .i64 0] 38))).f_ 0;have aw:Gr [] wr (ai.alloc (.cells #[.bool false,.int .i64 0] 38)):=(aM.trans S).alloc _;have aQ:=(W.g_ aw).lookup C;rw[aD]at aQ)
          all_goals go_ret
          all_goals rw[O.out]
          all_goals exact⟨rfl,F.trans aw⟩
       .have aL:¬(k:Int)<(t.ws.l.length:Int):=by omega
        have O:Hid (P=0):=h_ (by rw[bf.out,aR.out,qL o_,P_ d_]);go_wp2;go_ret;rw[O.out];exact⟨rfl,F⟩
end
end Go.Proofs.YtenbhdilndfaeaaGreat
