import Derived.Test.YtenbhdilndfaeaaGreatM20
set_option maxRecDepth 100000
set_option maxHeartbeats 0
set_option linter.all false
namespace Go.Proofs.YtenbhdilndfaeaaGreat
open Go.RowKit Go.Proofs.Tryz
variable{G:Prop}{w:World}(A:OA)(c:Nat)(l:List In)(hH:Int)(h:List Ob)(hC pc:Int)
def Jk(h:G:=by
 clear M
 go_wp2_with (first|((go_at_call 92;have R:=iU A c l hH hC (h.hF MZ) hn;rw[hv]at R;refine R.mono ?_;rintro e w1⟨rfl,hg1⟩);replace hR:=hR.hF hg1;replace MZ:=MZ.trans hg1)|(refine kS (Cm.zero.g_) hR (Cm.one _) ?_;intro ae aB G))
 all_goals exact lO Cm.zero.g_ (Y 1) aB underlying40 ⟨Cm.zero,rfl,l6.zero _ _ rfl rfl,rfl,MZ.jM G aU⟩):G:=h
def JG(h:G:=by
 clear bz
 go_wp2_with (go_at_call 83;have R:=lx A c l hH hC s.hQ (h.hF MZ) hn;rw[j]at R;refine R.mono ?_;rintro e ad⟨rfl,MS⟩;have aT:ad.cell? (Z bt 0)=some (Y f.h6):=((hE.hF MS).f_ 0).trans rfl)
 go_meet;exact⟨jc bi.out.symm,MS⟩):G:=h
def Kc(h:G:=by
 clear C
 refine h4 MY ⟨(z.hF h).f_ 0,(aY.hF h).f_ 1,(D.hF h).f_ 0,(h).f_ km J⟩ λC=>?_
 clear MY K;refine iv 18 C ?_;refine hM k_ ?_ _;go_wp2;go_meet;exact⟨_,rfl,rfl,h⟩):G:=h
def Ke(h:G:=by
 go_wp2_with (refine kS (Cm.zero.g_) hR (Cm.one _) ?_;intro ae aB G)
 all_goals exact lO Cm.zero.g_ (Y 7) aB underlying40 ⟨Cm.zero,rfl,l6.zero _ _ rfl rfl,rfl,MZ.jM G aU⟩):G:=h
def Kw(h:G:=by
 go_wp2
 all_goals go_ret
 all_goals exact⟨MX,aI,xs,by rw[<-ag.out];rfl,(by unfold Ns;rw[<-ag.out];exact Sl.iR (iy ak (H [] wr))),(ov ag.out),aE,F⟩):G:=h
def LS(h:G:=by
 by_cases h3:s.hQ<0∨(l.length:Int)<=s.hQ
 .rw[U_ h3]at h2
  cases h2
 .omega):G:=h
def Mr(h:G:=by
 rw[bz]at m4;clear bz;exact My):G:=h
def DC(l:List In)(hH hC x:Int):Prop:=mX l x=true/\jB l hH hC x=false/\ -1000000000<=x/\x<=1000000000
def Dc(l:List In)(hH hC:Int)(w:World)(e:Ending)(w':World):Prop:=∃(A:OA) (d:Nat) (xs:List Int),e=.returned (.slice A xs.length d)/\Ns w' 3 A xs/\xs.length<=16/\(∀x∈xs,DC l hH hC x)/\I [] w w'
def roomOf(v:Value):Nat:=match v with
 | .slice _ n _=>16-n
 |_=>0
def zE(m:OA)(u:Nat)(b:List Fo)(hQ n:Int)(h:Is w A l)(t:l.length<=1000000000)(aY:Fs w m b)(T:b.length<=1000000000)(i:∀f∈b, -1000000000<=f.dst/\f.dst<=1000000000)(aC: -1000000000<=hQ)(bV:hQ<=1000000000):
 Calls prog 53 #[.agg #[.slice A l.length c,Y hH,Y hC],.agg #[.slice m b.length u],Y hQ,Y n] w (Dc l hH hC w):=by
 obtain⟨bJ,bG,bA,a6,be⟩:=info_parts infoInt;obtain⟨d,k,J⟩:=pZ w 26 #[.slice A l.length c,Y hH,Y hC] 96 #[.slice m b.length u]
 go_enter func53,ntmps53
 go_upto_region 1 with fail
 obtain⟨bw,V⟩:=nm_ ((w.alloc (.cells #[.slice A l.length c,Y hH,Y hC] 26)).alloc (.cells #[.slice m b.length u] 96));rw[<-V]at d k J |-;clear V;obtain⟨bT,E⟩:=nm_ w.heap.size;obtain⟨gs,K⟩:=nm_ (w.heap.size+1);rw[<-K]at k;rw[<-E]at d;rw[<-K,<-E];clear K E;go_wp2
 go_loopw [9,10,11] (λR ae ah wr=>∃(MX:OA) (j aI:Nat) (xs:List Int) (a:Int) (N:Bool),R=.slice MX j aI/\ae=Y a/\ah=.bool N/\j=xs.length/\j<=16/\(∀x∈xs,DC l hH hC x)/\ -1000000000<=a/\a<=1000000000/\wr.ownsRow w.heap.size 3 1 (.slice MX j aI) j (xs.map (Value.int .i64))/\Bk wr bT 26 #[.slice A l.length c,Y hH,Y hC]/\Bk wr gs 96 #[.slice m b.length u]/\I [] w wr) (λR _ _ _=>roomOf R)
 case atStart=>exact⟨none,0,0,[],hQ,true,rfl,rfl,rfl,rfl,N_ _,(λx Q=>by cases Q),aC,bV,iT _ _ _ _,d,k,J⟩
 case round=>
  clear d k J;obtain⟨MX,j,aI,xs,a,N,rfl,rfl,rfl,hn0,al,aE,B,C,ak,d,k,F⟩:=hrel;have ag:=U hn0;clear hn0
  cases N with
  |false=>
   exact Kw
  |true=>
   by_cases h1:(j:Int)<n
   .by_cases h2:(j:Int)<16
    .have MV:=d.f_ 0;have MU:=d.f_ 1;have au:=d.f_ 2
     cases r:mX l a with
     |false=>
      go_wp2_with (go_at_call 97;have g:=l4 A c l hH hC a (h.hF F) t B C;rw[r]at g;refine g.mono ?_;rintro p w1⟨rfl,e⟩)
      all_goals go_ret
      all_goals exact⟨MX,aI,xs,by rw[<-ag.out];rfl,(by unfold Ns;rw[<-ag.out];exact Sl.iR (iy ak e)),(ov ag.out),aE,F.trans e⟩
     |true=>
      cases D:jB l hH hC a with
      |true=>
       go_wp2_with (first|(go_at_call 97;have g:=l4 A c l hH hC a (h.hF F) t B C;rw[r]at g;refine g.mono ?_;rintro p w1⟨rfl,e⟩;have z0:=(d.hF e).f_ 0;have W:=(d.hF e).f_ 1;have Z:=(d.hF e).f_ 2)|(go_at_call 83;have g:=lx A c l hH hC a (h.hF (F.trans e)) t;rw[D]at g;refine g.mono ?_;rintro p v⟨rfl,y⟩))
       all_goals go_ret
       all_goals exact⟨MX,aI,xs,by rw[<-ag.out];rfl,(by unfold Ns;rw[<-ag.out];exact Sl.iR (iy ak (e.trans y))),(ov ag.out),aE,(F.trans e).trans y⟩
      |false=>
       have am:=U r;have an:=U D
       go_upto_region 4 with(first|(go_at_call 97;have g:=l4 A c l hH hC a (h.hF F) t B C;rw[r]at g;refine g.mono ?_;rintro p w1⟨rfl,e⟩;have z0:=(d.hF e).f_ 0;have W:=(d.hF e).f_ 1;have Z:=(d.hF e).f_ 2)|(go_at_call 83;have g:=lx A c l hH hC a (h.hF (F.trans e)) t;rw[D]at g;refine g.mono ?_;rintro p v⟨rfl,y⟩))
       clear r D z0 W Z MV MU au;have o:I [] wr (v.alloc (.cells #[Y a] 3)):=(e.trans y).alloc _;have aS:=iy ak o;have ao:Sl (v.alloc (.cells #[Y a] 3)) 3 1 (j_ v.heap.size) 1 [Y a]:=kP (s:=1) (P_ v 3 #[Y a]) rfl;have aq:=(F.trans o).size;have aw:=d.hF o;have q:=k.hF o
       go_upto_region 5 with(at_builtin;refine iJ _ rfl (.tmp 36) (.tmp 38) 30 rfl w.heap.size 3 bJ _ 1 8 underlying30 bG bA a6 be rfl O O MX j aI _ rfl aS _ 1 1 _ rfl ao (by intro ax hu;simp at hu;subst hu;rfl) X aq ?_;intro ap ai ad av L;have ay:=L.bk aw O;have aA:=L.bk q O;have aB:=aA.f_ 0)
       have S:=L.gr [] w (H_ _) (F.trans o)
       go_wp2_with (go_at_call 101;((with_reducible refine(zo m u b a (aY.hF S) T).mono ?_);rintro p MT⟨rfl,z⟩))
       go_roundw
       case rel=>
        have aD: -1000000000<=(if pd b a=true then(b.getD (lw b a) default).dst else 0)/\(if pd b a=true then(b.getD (lw b a) default).dst else 0)<=1000000000:=by
         split
         .rename_i M
          have af:=by unfold pd at M;simp at M;exact M.1
          have hm:b.getD (lw b a) default∈b:=by rw[List.getD,K_ af];exact O_ af
          exact i _ hm
         .omega
        exact⟨ap,j+1,ai,xs++[a],_,_,rfl,rfl,rfl,by rw[J_,<-ag.out];rfl,X,(λx Q=>by
         rcases X_.1 Q with P|P
         .exact aE x P
         .have:x=a:=zu P
          subst this
          exact⟨am.out,an.out,B,C⟩),aD.1,aD.2,by rw[FV];exact iy av z,ay.hF z,aA.hF z,S.trans z⟩
       case measure=>simp[roomOf];omega
    .exact Kw
   .exact Kw
def lW(s:p9)(t:i3):p9:=
 if t.h9=2 then{s with h:=lL s.h t,h8:=s.h8++t.h8,iS:=s.iS+1,hK:=s.hK+t.hK,hQ:=t.next}
 else{s with h:=lL s.h t,h8:=s.h8++t.h8,iS:=s.iS+1,hK:=s.hK+t.hK,jG:=true,hY:=t.hY,v:=t.v}
def oa(s:p9)(t:i3):Bool:=decide (s.jG=true∨t.hQ≠s.hQ)
def kK(ok:Bool)(s:p9)(t:i3):p9 × Int:=
 if ok=false then(Cm.zero.p,1) else
 if oa s t=true then(Cm.zero.p,7) else
 if pK s.h t≠0 then(Cm.zero.p,pK s.h t) else(lW s t,0)
def u6(s:Cm)(t:Tk)(h:Is w A l)(hn:l.length<=1000000000)(hs:l6 w s)(ht:lh w t)(Q:t.p.sm 500000)(bn:s.h.l.length<=99999999)(cW:s.h8.l.length<=100000000)(bF:∀r∈t.nw.l,mQ r.o.id)(aJ:∀c∈t.ws.l,mQ c.id)(aR:0<=s.iS)(b1:s.iS<=1000000000)(b2:0<=s.hK)(b3:s.hK<=1000000000000)(dH:0<=t.hK)(ez:t.hK<=1000000):
 Calls prog 52 #[.agg #[.slice A l.length c,Y hH,Y hC],.agg s.g_,.agg t.g_] w (uM (kK (ic l hH hC) s.p t.p).1 (kK (ic l hH hC) s.p t.p).2 w):=by
 have cX:t.nw.l.length<=500000:=by have:=Q.nw;have e:t.p.nw.length=t.nw.l.length:=h7 _;omega
 have al:t.h8.l.length<=1000000000:=G_ Q.h8 O;have ax:t.h8.l.length<=500000:=Q.h8;obtain⟨E,hE⟩:=mn_ (pK (hX s.h.l) t.p);have an:=U hE;clear hE;obtain⟨⟨aA,aC⟩,cV⟩:∃q,kK (ic l hH hC) s.p t.p=q:=⟨_,rfl⟩;rw[cV];have M:=U cV;clear cV;obtain⟨B,b,d,hR,MZ⟩:=Da w 26 #[.slice A l.length c,Y hH,Y hC] 40 s.g_ 53 t.g_ 40 #[n_,Y 0,Y 0,n_,.bool false,.bool false,.bool false,Y 0,Y 0,Y 0]
 go_enter func52,ntmps52
 go_upto_region 1 with fail
 obtain⟨bw,aG⟩:=nm_ ((((w.alloc (.cells #[.slice A l.length c,Y hH,Y hC] 26)).alloc (.cells s.g_ 40)).alloc (.cells t.g_ 53)).alloc (.cells #[n_,Y 0,Y 0,n_,.bool false,.bool false,.bool false,Y 0,Y 0,Y 0] 40));rw[<-aG]at B b d hR MZ |-;clear aG;obtain⟨bT,a8⟩:=nm_ w.heap.size;obtain⟨a,bl⟩:=nm_ (w.heap.size+1);obtain⟨o,ap⟩:=nm_ (w.heap.size+1+1);obtain⟨gr,aD⟩:=nm_ (w.heap.size+1+1+1);rw[<-aD]at hR;rw[<-ap]at d;rw[<-bl]at b;rw[<-a8]at B;rw[<-aD,<-ap,<-bl,<-a8];have aU:w.heap.size<=gr:=X;have aE:w.heap.size<=a:=X;have g:o≠a/\gr≠a:=X;clear a8 bl ap aD;have MV:=B.f_ 0;have MU:=B.f_ 1;have au:=B.f_ 2
 cases hv:ic l hH hC with
 |false=>
  obtain⟨rfl,rfl⟩:=Prod.mk.inj (M.out.symm.trans (by unfold kK;rw[hv];first|done|exact U_ rfl));exact Jk
 |true=>
 go_upto_region 3 with(go_at_call 92;have R:=iU A c l hH hC (h.hF MZ) hn;rw[hv]at R;refine R.mono ?_;rintro e w1⟨rfl,hg1⟩)
 replace B:=B.hF hg1;replace b:=b.hF hg1;replace d:=d.hF hg1;replace hR:=hR.hF hg1;replace MZ:=MZ.trans hg1;clear hg1 MV MU au
 have aq:Hid ((aA,aC)=if oa s.p t.p=true then(Cm.zero.p,7) else if E≠0 then(Cm.zero.p,E) else(lW s.p t.p,0)):=U (by
  rw[<-M.out];unfold kK
  rw[hv,R_ O,show pK s.p.h t.p=E from an.out])
 go_cut [21] (λaH a7=>aH=.bool (oa s.p t.p)/\a7=w1)
 case first=>
  have m4:w1.cell? (Z a 4)=some (.bool s.jG):=(b.f_ 4).trans rfl;have m1:w1.cell? (Z a 1)=some (Y s.hQ):=(b.f_ 1).trans rfl;have S:w1.cell? (Z o 0)=some (Y t.hQ):=(d.f_ 0).trans rfl
  cases bz:s.jG with
  |true=>
   have bi:=U (show oa s.p t.p=true by unfold oa;exact Gd (.inl bz));exact Mr
  |false=>
   have bi:=U (show oa s.p t.p=(t.hQ !=s.hQ) by
    unfold oa
    by_cases x:t.hQ=s.hQ
    .have:(t.hQ !=s.hQ)=false:=by simp[x]
     rw[this];exact GX (λL=>L.elim (λz=>FU z (by show ¬s.jG=true;rw[bz];decide)) (λz=>z x))
    .have:(t.hQ !=s.hQ)=true:=zu x
     rw[this]
     exact Gd (.inr x))
   exact Mr
 case rest=>
 obtain⟨rfl,d6⟩:=hcut;subst wc
 cases hcb:oa s.p t.p with
 |true=>
  obtain⟨rfl,rfl⟩:=Prod.mk.inj (aq.out.trans (U_ hcb));clear hcb M aq;exact Ke
 |false=>
 have aK:Hid ((aA,aC)=if E≠0 then(Cm.zero.p,E) else(lW s.p t.p,0)):=U (by rw[aq.out,R_ (by rw[hcb];decide)]);clear hcb aq;have m0:w1.cell? (Z a 0)=some (.slice s.h.A s.h.l.length s.h.c):=(b.f_ 0).trans rfl
 by_cases T:E=0
 case neg=>
  obtain⟨rfl,x⟩:=Prod.mk.inj (aK.out.trans (U_ T));subst aC;have q:(E !=0)=true:=zu T;clear T aK M
  go_wp2_with (first|(refine kV d underlying53 ?_)|(go_at_call 100;have R:=rY s.h.A s.h.c s.h.l t (hs.h.hF MZ) X (ht.hF MZ) Q bF aJ;rw[an.out]at R;refine R.mono ?_;rintro e w2⟨rfl,F⟩)|(refine kS (Cm.zero.g_) (hR.hF F) (Cm.one _) ?_;intro ae aB G))
  all_goals exact lO Cm.zero.g_ (Y E) aB underlying40 ⟨Cm.zero,rfl,l6.zero _ _ rfl rfl,rfl,(MZ.trans F).jM G aU⟩
 case pos=>
 have aL:Hid ((aA,aC)=(lW s.p t.p,0)):=U (by rw[aK.out,R_ (by simp[T])])
 have q:(E !=0)=false:=by simp[T]
 clear T aK
 go_upto_region 8 with(first|(refine kV d underlying53 ?_)|(go_at_call 100;have R:=rY s.h.A s.h.c s.h.l t (hs.h.hF MZ) X (ht.hF MZ) Q bF aJ;rw[an.out]at R;refine R.mono ?_;rintro e w2⟨rfl,F⟩))
 replace B:=B.hF F;replace b:=b.hF F;replace d:=d.hF F;replace hR:=hR.hF F;replace MZ:=MZ.trans F;clear F q;replace m0:w2.cell? (Z a 0)=some (.slice s.h.A s.h.l.length s.h.c):=(b.f_ 0).trans rfl
 go_upto_region 9 with(first|(refine kV d underlying53 ?_)|(go_at_call 84;((with_reducible refine(vS s.h.A s.h.c s.h.l t (ht.hF MZ) (hs.h.hF MZ) X (G_ Q.ws O) (G_ Q.ds O)).mono ?_);unfold mt;rintro e V⟨m,k,i,rfl,am,aN,N⟩;have aQ:=U aN;clear aN;have m0:V.cell? (Z a 0)=some (.slice s.h.A s.h.l.length s.h.c):=((b.hF N).f_ 0).trans rfl;have aF:=(b.hF N).hG 0)))
 have f:I [a] V (V.setCell (Z a 0) (.slice m i.length k)):=(H [a] V).setCell (.inl J) _;have aS:=am.it (b.hF N) O O f;have u:Bk (V.setCell (Z a 0) (.slice m i.length k)) a 40 ({s with h:=⟨m,k,i⟩}:Cm).g_:=(b.hF N).hV 0 (.slice m i.length k);replace d:=(d.hF N).gr f (zu g.1);replace hR:=(hR.hF N).gr f (zu g.2);replace MZ:=(MZ.trans N).jM f aE;clear m0 aF b B N f am;replace b:=u;clear u;obtain⟨aI,a6⟩:=nm_ (V.setCell (Z a 0) (.slice m i.length k));rw[<-a6]at aS b d hR MZ |-;clear a6;have m3:aI.cell? (Z a 3)=some (.slice s.h8.A s.h8.l.length s.h8.c):=(b.f_ 3).trans rfl;have t41:aI.cell? (Z o 41)=some (.slice t.h8.A t.h8.l.length t.h8.c):=(d.f_ 41).trans rfl
 go_upto_region 10 with(go_at_call 93;((with_reducible refine(wE s.h8.A s.h8.c s.h8.l t.h8.A t.h8.c t.h8.l (hs.h8.hF MZ) (ht.h8.hF MZ) X al).mono ?_);unfold DV;rintro e P⟨j,n,rfl,bC,be,C⟩;have m3:P.cell? (Z a 3)=some (.slice s.h8.A s.h8.l.length s.h8.c):=((b.hF C).f_ 3).trans rfl;have aP:=(b.hF C).hG 3))
 have f:I [a] P (P.setCell (Z a 3) (.slice j (s.h8.l.length+t.h8.l.length) n)):=(H [a] P).setCell (.inl J) _;have aT:As (P.setCell (Z a 3) (.slice j (s.h8.l.length+t.h8.l.length) n)) j (s.h8.l++t.h8.l):=Sl.it bC (b.hF C) O f;have aV:=(aS.hF C).it (b.hF C) O O f
 have u:Bk (P.setCell (Z a 3) (.slice j (s.h8.l.length+t.h8.l.length) n)) a 40 ({s with h:=⟨m,k,i⟩,h8:=⟨j,n,s.h8.l++t.h8.l⟩}:Cm).g_:=by
  rw[show({s with h:=⟨m,k,i⟩,h8:=⟨j,n,s.h8.l++t.h8.l⟩}:Cm).g_=({s with h:=⟨m,k,i⟩}:Cm).g_.setIfInBounds 3 (.slice j (s.h8.l.length+t.h8.l.length) n) from(show({s with h:=⟨m,k,i⟩,h8:=⟨j,n,s.h8.l++t.h8.l⟩}:Cm).g_=({s with h:=⟨m,k,i⟩}:Cm).g_.setIfInBounds 3 (.slice j (s.h8.l++t.h8.l).length n) from rfl).trans (Z_ (λaX=>({s with h:=⟨m,k,i⟩}:Cm).g_.setIfInBounds 3 (.slice j aX n)) J_)];exact(b.hF C).hV 3 (.slice j (s.h8.l.length+t.h8.l.length) n)
 replace d:=(d.hF C).gr f (zu g.1);replace hR:=(hR.hF C).gr f (zu g.2);replace MZ:=(MZ.trans C).jM f aE;clear m3 aP b t41 C f bC aS;replace b:=u;clear u;obtain⟨K,aW⟩:=nm_ (P.setCell (Z a 3) (.slice j (s.h8.l.length+t.h8.l.length) n));rw[<-aW]at aT aV b d hR MZ |-;clear aW;have dm:K.cell? (Z a 8)=some (Y s.iS):=(b.f_ 8).trans rfl;have aw:K.cell? (Z a 9)=some (Y s.hK):=(b.f_ 9).trans rfl;have ao:K.cell? (Z o 47)=some (Y t.hK):=(d.f_ 47).trans rfl;have af:=b.hG 8;have bD:=b.hG 9
 go_upto_region 12 with fail
 have f:I [a] K ((K.setCell (Z a 8) (Y (s.iS+1))).setCell (Z a 9) (Y (s.hK+t.hK))):=((H [a] K).setCell (p:=(Z a 8)) (.inl J) _).setCell (p:=(Z a 9)) (.inl J) _;have D:l6 ((K.setCell (Z a 8) (Y (s.iS+1))).setCell (Z a 9) (Y (s.hK+t.hK))) ({s with h:=⟨m,k,i⟩,h8:=⟨j,n,s.h8.l++t.h8.l⟩,iS:=s.iS+1,hK:=s.hK+t.hK}:Cm):=⟨aV.it b O O f,Sl.it aT b O f,be⟩;have u:Bk ((K.setCell (Z a 8) (Y (s.iS+1))).setCell (Z a 9) (Y (s.hK+t.hK))) a 40 ({s with h:=⟨m,k,i⟩,h8:=⟨j,n,s.h8.l++t.h8.l⟩,iS:=s.iS+1,hK:=s.hK+t.hK}:Cm).g_:=(b.hV 8 (Y (s.iS+1))).hV 9 (Y (s.hK+t.hK));replace d:=d.gr f (zu g.1);replace hR:=hR.gr f (zu g.2);replace MZ:=MZ.jM f aE;clear dm aw af bD ao b f aT aV;replace b:=u;clear u;obtain⟨y,bR⟩:=nm_ ((K.setCell (Z a 8) (Y (s.iS+1))).setCell (Z a 9) (Y (s.hK+t.hK)));rw[<-bR]at D b d hR MZ |-;clear bR;have ai:y.cell? (Z o 42)=some (Y t.h9):=(d.f_ 42).trans rfl;obtain⟨rfl,rfl⟩:=Prod.mk.inj aL.out;clear aL M
 by_cases W:t.h9=2
 .have HA:Hid (lW s.p t.p=({s with h:=⟨m,k,i⟩,h8:=⟨j,n,s.h8.l++t.h8.l⟩,iS:=s.iS+1,hK:=s.hK+t.hK,hQ:=t.next}:Cm).p):=U (by unfold lW;rw[U_ (show t.p.h9=2 from W),show lL s.p.h t.p=hX i from aQ.out.symm];rfl);have q:(t.h9==2)=true:=zu W;clear W;have x:y.cell? (Z o 43)=some (Y t.next):=(d.f_ 43).trans rfl;have m1:y.cell? (Z a 1)=some (Y s.hQ):=(b.f_ 1).trans rfl;have z:=b.hG 1;have f:I [a] y (y.setCell (Z a 1) (Y t.next)):=(H [a] y).setCell (.inl J) _;have u:Bk (y.setCell (Z a 1) (Y t.next)) a 40 ({s with h:=⟨m,k,i⟩,h8:=⟨j,n,s.h8.l++t.h8.l⟩,iS:=s.iS+1,hK:=s.hK+t.hK,hQ:=t.next}:Cm).g_:=b.hV 1 (Y t.next);have aY:=hR.gr f (zu g.2)
  go_wp2_with (first|(refine kV u underlying40 ?_)|(refine kS (({s with h:=⟨m,k,i⟩,h8:=⟨j,n,s.h8.l++t.h8.l⟩,iS:=s.iS+1,hK:=s.hK+t.hK,hQ:=t.next}:Cm).g_) aY (Cm.one _) ?_;intro ae aB G))
  rw[HA.out];exact lO ({s with h:=⟨m,k,i⟩,h8:=⟨j,n,s.h8.l++t.h8.l⟩,iS:=s.iS+1,hK:=s.hK+t.hK,hQ:=t.next}:Cm).g_ (Y 0) aB underlying40 ⟨({s with h:=⟨m,k,i⟩,h8:=⟨j,n,s.h8.l++t.h8.l⟩,iS:=s.iS+1,hK:=s.hK+t.hK,hQ:=t.next}:Cm),rfl,(l6.it (s:=({s with h:=⟨m,k,i⟩,h8:=⟨j,n,s.h8.l++t.h8.l⟩,iS:=s.iS+1,hK:=s.hK+t.hK,hQ:=t.next}:Cm)) ⟨(D.h.it b O O f),Sl.it D.h8 b O f,D.pN⟩ aY O G),rfl,(MZ.jM f aE).jM G aU⟩
 .have HA:Hid (lW s.p t.p=({s with h:=⟨m,k,i⟩,h8:=⟨j,n,s.h8.l++t.h8.l⟩,iS:=s.iS+1,hK:=s.hK+t.hK,jG:=true,hY:=t.hY,v:=t.v}:Cm).p):=U (by unfold lW;rw[R_ (show ¬t.p.h9=2 from W),show lL s.p.h t.p=hX i from aQ.out.symm];rfl);have q:(t.h9==2)=false:=zu W;clear W
  go_upto_region 14 with fail
  clear ai q;refine hN (λw'=>w'.cell? (Z o 44)=some (.bool t.hY)/\w'.cell? (Z o 45)=some (.bool t.v.r)/\w'.cell? (Z o 46)=some (Y t.v.n)) 10 k_ ?_;have S:I [] y y.drew:=(H [] y).drew;replace D:=D.hF S;replace b:=b.hF S;replace d:=d.hF S;replace hR:=hR.hF S;replace MZ:=MZ.trans S;clear S;obtain⟨x,aj⟩:=nm_ y.drew;rw[<-aj]at D b d hR MZ |-;clear aj;have z:x.cell? (Z o 44)=some (.bool t.hY)/\x.cell? (Z o 45)=some (.bool t.v.r)/\x.cell? (Z o 46)=some (Y t.v.n):=⟨(d.f_ 44).trans rfl,(d.f_ 45).trans rfl,(d.f_ 46).trans rfl⟩;have m4:x.cell? (Z a 4)=some (.bool s.jG):=(b.f_ 4).trans rfl;have bj:x.cell? (Z a 5)=some (.bool s.hY):=(b.f_ 5).trans rfl;have MT:x.cell? (Z a 6)=some (.bool s.v.r):=(b.f_ 6).trans rfl;have dh:x.cell? (Z a 7)=some (Y s.v.n):=(b.f_ 7).trans rfl;have bo:=b.hG 4;have bp:=b.hG 5;have bu:=b.hG 6;have bB:=b.hG 7
  iterate 5 refine jQ z ?_
  refine hZ 5 λaZ L=>?_
  go_simp;clear z
  refine h4 L ⟨((d.ih (p:=(Z a 4)) g.1 (.bool true)).f_ 44).trans rfl,((d.ih (p:=(Z a 4)) g.1 (.bool true)).f_ 45).trans rfl,((d.ih (p:=(Z a 4)) g.1 (.bool true)).f_ 46).trans rfl⟩ λz=>?_
  clear L aZ;refine iv 6 z ?_
  refine hZ 7 λaZ L=>?_
  go_simp;clear z
  refine h4 L ⟨(((d.ih (p:=(Z a 4)) g.1 (.bool true)).ih (p:=(Z a 5)) g.1 (.bool t.hY)).f_ 44).trans rfl,(((d.ih (p:=(Z a 4)) g.1 (.bool true)).ih (p:=(Z a 5)) g.1 (.bool t.hY)).f_ 45).trans rfl,(((d.ih (p:=(Z a 4)) g.1 (.bool true)).ih (p:=(Z a 5)) g.1 (.bool t.hY)).f_ 46).trans rfl⟩ λz=>?_
  clear L aZ;refine iv 8 z ?_
  refine hZ 9 λaZ L=>?_
  go_simp;clear z
  refine h4 L ⟨(((((d.ih (p:=(Z a 4)) g.1 (.bool true)).ih (p:=(Z a 5)) g.1 (.bool t.hY)).ih (p:=(Z a 6)) g.1 (.bool t.v.r)).ih (p:=(Z a 7)) g.1 (Y t.v.n)).f_ 44).trans rfl,(((((d.ih (p:=(Z a 4)) g.1 (.bool true)).ih (p:=(Z a 5)) g.1 (.bool t.hY)).ih (p:=(Z a 6)) g.1 (.bool t.v.r)).ih (p:=(Z a 7)) g.1 (Y t.v.n)).f_ 45).trans rfl,(((((d.ih (p:=(Z a 4)) g.1 (.bool true)).ih (p:=(Z a 5)) g.1 (.bool t.hY)).ih (p:=(Z a 6)) g.1 (.bool t.v.r)).ih (p:=(Z a 7)) g.1 (Y t.v.n)).f_ 46).trans rfl⟩ λz=>?_
  clear L aZ;have f:I [a] x ((((x.setCell (Z a 4) (.bool true)).setCell (Z a 5) (.bool t.hY)).setCell (Z a 6) (.bool t.v.r)).setCell (Z a 7) (Y t.v.n)):=((((H [a] x).setCell (p:=(Z a 4)) (.inl J) _).setCell (p:=(Z a 5)) (.inl J) _).setCell (p:=(Z a 6)) (.inl J) _).setCell (p:=(Z a 7)) (.inl J) _;have u:Bk ((((x.setCell (Z a 4) (.bool true)).setCell (Z a 5) (.bool t.hY)).setCell (Z a 6) (.bool t.v.r)).setCell (Z a 7) (Y t.v.n)) a 40 ({s with h:=⟨m,k,i⟩,h8:=⟨j,n,s.h8.l++t.h8.l⟩,iS:=s.iS+1,hK:=s.hK+t.hK,jG:=true,hY:=t.hY,v:=t.v}:Cm).g_:=(((b.hV 4 (.bool true)).hV 5 (.bool t.hY)).hV 6 (.bool t.v.r)).hV 7 (Y t.v.n);have aY:=hR.gr f (zu g.2);clear m4 bj MT dh bo bp bu bB z;refine hM k_ ?_ _
  go_wp2_with (first|(refine kV u underlying40 ?_)|(refine kS (({s with h:=⟨m,k,i⟩,h8:=⟨j,n,s.h8.l++t.h8.l⟩,iS:=s.iS+1,hK:=s.hK+t.hK,jG:=true,hY:=t.hY,v:=t.v}:Cm).g_) aY (Cm.one _) ?_;intro ae aB G))
  rw[HA.out];exact lO ({s with h:=⟨m,k,i⟩,h8:=⟨j,n,s.h8.l++t.h8.l⟩,iS:=s.iS+1,hK:=s.hK+t.hK,jG:=true,hY:=t.hY,v:=t.v}:Cm).g_ (Y 0) aB underlying40 ⟨({s with h:=⟨m,k,i⟩,h8:=⟨j,n,s.h8.l++t.h8.l⟩,iS:=s.iS+1,hK:=s.hK+t.hK,jG:=true,hY:=t.hY,v:=t.v}:Cm),rfl,(l6.it (s:=({s with h:=⟨m,k,i⟩,h8:=⟨j,n,s.h8.l++t.h8.l⟩,iS:=s.iS+1,hK:=s.hK+t.hK,jG:=true,hY:=t.hY,v:=t.v}:Cm)) ⟨(D.h.it b O O f),Sl.it D.h8 b O f,D.pN⟩ aY O G),rfl,(MZ.jM f aE).jM G aU⟩
def k4(h:List Ob)(e:p8):List Ob:=ja (e.nw.foldl lv h) e.ws
def zK(e:p8):(k4 h e).length<=h.length+e.nw.length:=by
 unfold k4;rw[jW];exact oQ e.nw h
def wB(l:List Rw)(f:Ef)(he:sE w f)(h:my w A c l)(hn:l.length+f.nw.l.length<=999999999)(bF:f.ws.l.length<=1000000000):
 Calls prog 96 #[.agg #[.slice A l.length c],.agg f.g_] w (mt (k4 (hX l) f.p) w):=by
 obtain⟨i1,bS,cj,co,cv⟩:=info_parts infoOb;obtain⟨d,r,n,W⟩:=wI w 35 #[.slice A l.length c] 134 f.g_ 35 #[n_]
 go_enter func96,ntmps96
 go_upto_region 1 with fail
 obtain⟨bw,aG⟩:=nm_ (((w.alloc (.cells #[.slice A l.length c] 35)).alloc (.cells f.g_ 134)).alloc (.cells #[n_] 35));rw[<-aG]at d r n W |-;clear aG;obtain⟨k,ad⟩:=nm_ w.heap.size;obtain⟨Q,ae⟩:=nm_ (w.heap.size+1);obtain⟨gr,ag⟩:=nm_ (w.heap.size+1+1);rw[<-ag]at n;rw[<-ae]at r;rw[<-ad]at d;rw[<-ag,<-ae,<-ad];have ak:w.heap.size<=k:=X;have aU:w.heap.size<=gr:=X;have M:Q≠k/\gr≠k/\k≠gr/\Q≠gr:=X;clear ad ae ag;have F:=d.f_ 0;have al:=h.hF W
 go_upto_region 2 with(at_builtin;refine pi _ rfl (.const (n_)) (.tmp 12) 33 rfl 56 i1 _ 2 32 underlying33 bS cj co cv rfl O O none 0 [] rfl (Gw _ _ _ _) A l.length c _ rfl al.os (jT _) X ?_;intro S R V an bi y;simp only[W_,FY]at bi an;replace F:=(d.hF y).f_ 0;have bB:=(d.hF y).hG 0)
 have aO:my V S R l:=⟨bi,al.k5.hF y,an⟩;have g:I [k] V (V.setCell (Z k 0) (.slice S l.length R)):=(H [k] V).setCell (.inl J) _;have ao:=aO.it (d.hF y) O O g;have am:=(d.hF y).hV 0 (.slice S l.length R);have bg:=(r.hF y).gr g (zu M.1);have cD:=(n.hF y).gr g (zu M.2.1);have ct:=(W.trans y).jM g ak;clear F bB d r n W al aO bi an g y;obtain⟨aI,a6⟩:=nm_ (V.setCell (Z k 0) (.slice S l.length R));rw[<-a6]at ao am bg cD ct |-;clear a6;have aq:aI.cell? (Z Q 36)=some (.slice f.nw.A f.nw.l.length f.nw.c):=(bg.f_ 36).trans rfl;go_wp2
 go_loopw [18] (λL wr=>∃(a:Nat) (i:OA) (m:Nat) (b:List Rw),a<=f.nw.l.length/\L=Y a/\Bk wr k 35 #[.slice i b.length m]/\Bk wr Q 134 f.g_/\Bk wr gr 35 #[n_]/\my wr i m b/\hX b=(hX (f.nw.l.take a)).foldl lv (hX l)/\I [] w wr) (λL _=>f.nw.l.length-(intOf L).toNat)
 case atStart=>exact⟨0,S,R,l,N_ _,rfl,am,bg,cD,ao,rfl,ct⟩
 case round=>
  clear am bg cD ao ct aq;obtain⟨a,i,m,b,hk,rfl,d,r,n,p,N,s⟩:=hrel;have q:=U N
  have av:b.length<=999999999:=by
   have h1:=h7 b;have h2:=oQ (hX (f.nw.l.take a)) (hX l);rw[N]at h1;rw[h7 (f.nw.l.take a),Gj,h7]at h2;omega
  clear N
  by_cases K:a<f.nw.l.length
  .obtain⟨ax,off,aZ,P,bz⟩:=(he.nw.hF s).at_ K;rw[aZ];have bR:=U (show(hX (f.nw.l.take (a+1))).foldl lv (hX l)=lv (hX b) f.nw.l[a].o by rw[q.out];exact rh K);have C:=(he.nr.hF (s.alloc (.cells #[Y f.nw.l[a].o.id,.slice f.nw.l[a].A f.nw.l[a].o.fs.length f.nw.l[a].c] 56))) f.nw.l[a] (O_ K);generalize f.nw.l[a]=e at*;have D:Sl (wr.alloc (.cells #[Y e.o.id,.slice e.A e.o.fs.length e.c] 56)) 38 2 e.A e.o.fs.length (iO e.o.fs):=C.1;have aw:(a:Int)<(f.nw.l.length:Int):=X;have j:I [] wr (wr.alloc (.cells #[Y e.o.id,.slice e.A e.o.fs.length e.c] 56)):=(H [] wr).alloc _;have E:=P_ wr 56 #[Y e.o.id,.slice e.A e.o.fs.length e.c];have MV:=E.f_ 0;have MU:=E.f_ 1;have F:=(d.hF j).f_ 0
   go_wp2_with (go_at_call 123;((with_reducible refine(uY i m b e.o.id e.A e.c e.o.fs (p.hF j).os (p.hF j).k5 p.l3 D C.2 av).mono ?_);rintro az t⟨v,x,u,rfl,G,aA,aF,T,B⟩;have aC:=U T;clear T;have z:=(d.hF j).hF B;replace F:=z.f_ 0;have bB:=z.hG 0))
   have g:I [k] t (t.setCell (Z k 0) (.slice v u.length x)):=(H [k] t).setCell (.inl J) _;go_roundw
   case rel=>exact⟨a+1,v,x,u,X,gn,z.hV 0 _,((r.hF j).hF B).gr g (zu M.1),((n.hF j).hF B).gr g (zu M.2.1),(my.mk aA aF G).it z O O g,by rw[bR.out,aC.out],((s.trans j).trans B).jM g ak⟩
   case measure=>exact mz
  .have bK:=U (show a=f.nw.l.length by omega);have aw:¬(a:Int)<(f.nw.l.length:Int):=X;have aS:=U (show hX b=f.p.nw.foldl lv (hX l) by rw[q.out,bK.out,GR];rfl);clear q hk K;have cA:wr.cell? (Z Q 35)=some (.slice f.ws.A f.ws.l.length f.ws.c):=(r.f_ 35).trans rfl;have aE:b.length<=1000000000:=X;obtain⟨aH,aJ⟩:=nm_ wr;rw[<-aJ]at d r n p s cA |-;clear aJ;obtain⟨aK,MY⟩:=nm_ i;obtain⟨aB,P⟩:=nm_ m;obtain⟨bW,bL⟩:=nm_ b;rw[<-MY,<-P,<-bL]at p;rw[<-MY,<-P,<-bL]at d;rw[<-bL]at aS aE;clear MY P bL av bK;go_wp2;clear aw
   go_loopw [29] (λL wr=>∃(a:Nat) (i:OA) (m:Nat) (b:List Rw),a<=f.ws.l.length/\L=Y a/\Bk wr k 35 #[.slice i b.length m]/\Bk wr Q 134 f.g_/\Bk wr gr 35 #[n_]/\my wr i m b/\hX b=ja (hX bW) (f.ws.l.take a)/\I [] w wr) (λL _=>f.ws.l.length-(intOf L).toNat)
   case atStart=>exact⟨0,aK,aB,bW,N_ _,rfl,d,r,n,p,rfl,s⟩
   case round=>
    clear d r n p s cA;obtain⟨a,i,m,b,hk,rfl,d,r,n,p,N,s⟩:=hrel;have q:=U N;clear N
    by_cases K:a<f.ws.l.length
    .obtain⟨ax,off,aZ,P,bz,bP,bQ⟩:=(he.ws.hF s).at_ K;rw[aZ];have bR:=U (show ja (hX bW) (f.ws.l.take (a+1))=p7 (hX b) f.ws.l[a] by rw[q.out];exact qu K)
     have MS:b.length<=1000000000:=by
      have:=h7 b
      rw[q.out,jW,h7]at this;omega
     have aw:(a:Int)<(f.ws.l.length:Int):=X;generalize f.ws.l[a]=aM at*;obtain⟨D,C,e⟩:=aM;simp only at P bz bP bQ;have j:I [] wr (wr.alloc (.cells #[Y D,Y C,.bool e.r,Y e.n] 116)):=(H [] wr).alloc _;have E:=P_ wr 116 #[Y D,Y C,.bool e.r,Y e.n];have MV:=E.f_ 0;have MU:=E.f_ 1;have au:=E.f_ 2;have aP:=E.f_ 3;have F:=(d.hF j).f_ 0
     cases aN:jy (hX b) D C with
     |none=>
      have bU:=U (show p7 (hX b) ⟨D,C,e⟩=hX b by unfold p7;simp only[aN])
      go_wp2_with (go_at_call 149;((with_reducible refine(qv i m b D C e (p.hF j).os (p.hF j).k5 MS aN).mono ?_);rintro az t⟨rfl,B⟩))
      have z:I [] wr (t.alloc (.cells #[n_] 35)):=(j.trans B).alloc _;go_roundw
      case rel=>exact⟨a+1,i,m,b,X,gn,d.hF z,r.hF z,n.hF z,p.hF z,by rw[bR.out,bU.out],s.trans z⟩
      case measure=>exact mz
     |some aQ=>
      have bU:=U (show p7 (hX b) ⟨D,C,e⟩=kQ (hX b) D C e by unfold p7;simp only[aN])
      go_wp2_with (go_at_call 149;((with_reducible refine(ol i m b D C e aQ (p.hF j).os (p.hF j).k5 MS aN).mono ?_);rintro az t⟨v,x,u,rfl,G,aA,aF,T,B⟩;have aC:=U T;clear T;have bA:=P_ t 35 #[.slice v u.length x];have n0:=bA.f_ 0;have aY:=((d.hF j).hF B).alloc (.cells #[.slice v u.length x] 35);replace F:=aY.f_ 0;have bB:=aY.hG 0))
      have z:I [] wr (t.alloc (.cells #[.slice v u.length x] 35)):=(j.trans B).alloc _;have g:I [k] (t.alloc (.cells #[.slice v u.length x] 35)) ((t.alloc (.cells #[.slice v u.length x] 35)).setCell (Z k 0) (.slice v u.length x)):=(H [k] _).setCell (.inl J) _;go_roundw
      case rel=>exact⟨a+1,v,x,u,X,gn,aY.hV 0 _,(r.hF z).gr g (zu M.1),(n.hF z).gr g (zu M.2.1),((my.mk aA aF G).hF ((H [] t).alloc _)).it aY O O g,by rw[bR.out,bU.out,aC.out],(s.trans z).jM g ak⟩
      case measure=>exact mz
    .have bK:=U (show a=f.ws.l.length by omega);have aw:¬(a:Int)<(f.ws.l.length:Int):=X;have F:=d.f_ 0;have e:=n.hG 0;have z:=n.f_ 0;go_wp2;have g:I [gr] wr (wr.setCell (Z gr 0) (.slice i b.length m)):=(H [gr] wr).setCell (.inl J) _;refine rr_ #[.slice i b.length m] (n.hV 0 (.slice i b.length m)) underlying35 ⟨i,m,b,rfl,p.it n O O g,?_,s.jM g aU⟩;rw[q.out,bK.out,GR,aS.out]
     rfl
def mK(c:List In)(h:List Ob)(pc k7:Int):List Ob:=
 p7 h ⟨((jy h 1 0).getD default).n,3+(c.getD pc.toNat default).n,⟨false,k7⟩⟩
def xP(c:List In)(h:List Ob)(pc a:Int):(mK c h pc a).length=h.length:=ye _ _
def wz(j:OA)(hc:Nat)(b:List Rw)(k:Nat)(x:Int)(ae:Is w A l)(hn:l.length<=1000000000)(y:my w j hc b)(aH:b.length<=1000000000)(hk:k<l.length)(h0:0<=l[k].n)(h1:l[k].n<=1000000):
 Calls prog 95 #[.agg #[.slice A l.length c,Y hH,Y hC],.agg #[.slice j b.length hc],Y k,Y x] w (mt (mK l (hX b) k x) w):=by
 obtain⟨t,u,rfl,bj,bz,bP,bQ,be⟩:=ae.at_ hk
 have ag:=U (show mK l (hX b) (k:Int) x=p7 (hX b) ⟨((jy (hX b) 1 0).getD default).n,3+l[k].n,⟨false,x⟩⟩ by
  unfold mK
  have V:l.getD (k:Int).toNat default=l[k]:=by simp[List.getD,K_ hk]
  rw[V])
 obtain⟨n,M0⟩:∃n,n=l[k].n:=⟨_,rfl⟩;rw[<-M0]at h0 h1 be ag;clear bj bz bP bQ M0;obtain⟨i,hf⟩:=mn_ ((jy (hX b) 1 0).getD default);rw[hf]at ag;obtain⟨D,z,s,o⟩:=wI w 26 #[.slice (some (Z t u)) l.length c,Y hH,Y hC] 35 #[.slice j b.length hc] 35 #[n_]
 go_enter func95,ntmps95
 go_upto_region 1 with fail
 obtain⟨bw,aG⟩:=nm_ (((w.alloc (.cells #[.slice (some (Z t u)) l.length c,Y hH,Y hC] 26)).alloc (.cells #[.slice j b.length hc] 35)).alloc (.cells #[n_] 35));rw[<-aG]at D z s o |-;clear aG;obtain⟨T,ai⟩:=nm_ w.heap.size;obtain⟨S,ak⟩:=nm_ (w.heap.size+1);obtain⟨Q,al⟩:=nm_ (w.heap.size+1+1);rw[<-al]at s;rw[<-ak]at z;rw[<-ai]at D;rw[<-al,<-ak,<-ai];have aU:w.heap.size<=Q:=X;clear ai ak al;have MV:=z.f_ 0
 go_upto_region 2 with(go_at_call 148;((with_reducible refine(kB j hc b 1 0 _ (y.hF o).os (y.hF o).k5 aH).mono ?_);rw[hf];rintro V w1⟨rfl,hg1⟩))
 have aY:=P_ w1 38 #[.bool i.r,Y i.n];have aC:I [] bw (w1.alloc (.cells #[.bool i.r,Y i.n] 38)):=hg1.alloc _;replace D:=D.hF aC;replace z:=z.hF aC;replace s:=s.hF aC;replace o:=o.trans aC;have km:=o.f_ be J;clear hg1 aC MV;obtain⟨e,an⟩:=nm_ (w1.alloc (.cells #[.bool i.r,Y i.n] 38));rw[<-an]at aY D z s o km |-;clear an;generalize w1.heap.size=R at*
 cases W:jy (hX b) i.n (3+n)with
 |none=>
  have bU:=U (show mK l (hX b) (k:Int) x=hX b by rw[ag.out];unfold p7;simp only[W])
  go_cut [11,12] (λao ap a7=>∃gn:Nat,ao=q_ gn/\ap=.bool false/\I [] e a7)
  case first=>
   refine hN (λw'=>w'.cell? (Z S 0)=some (.slice j b.length hc)/\w'.cell? (Z R 1)=some (Y i.n)/\w'.cell? (Z T 0)=some (.slice (some (Z t u)) l.length c)/\w'.cell? (Z t (u+k*5+4))=some (Y n)) 19 k_ ?_;have m:I [] e e.drew:=(H [] e).drew;obtain⟨f,bE⟩:=nm_ e.drew;rw[<-bE]at m |-;clear bE;have C:f.cell? (Z S 0)=some (.slice j b.length hc)/\f.cell? (Z R 1)=some (Y i.n)/\f.cell? (Z T 0)=some (.slice (some (Z t u)) l.length c)/\f.cell? (Z t (u+k*5+4))=some (Y n):=⟨(z.hF m).f_ 0,(aY.hF m).f_ 1,(D.hF m).f_ 0,(m).f_ km J⟩;have aT:(0:Int)<=(k:Int):=X;have aN:(k:Int)<(l.length:Int):=X
   (iterate 9 refine jQ C ?_)
   refine iv 9 (v:=Y (3+n)) C ?_ (hy:=(Or.inl ⟨r_,(by intro w' bu;go_simp;try(first|with_reducible rfl|(rw[Ha];omega)))⟩))
   (iterate 2 refine jQ C ?_)
   refine ji 12 16 rfl rfl k_ (λK MY=>?_) (λK MY=>?_)
   .go_simp;have g:I [] e f:=m
    (go_at_call 149;((with_reducible refine(qv j hc b i.n (3+n) ⟨false,x⟩ (y.hF (o.trans g)).os (y.hF (o.trans g)).k5 aH W).mono ?_);rintro V a⟨rfl,F⟩))
    have d:I [] e a:=m.trans F;clear C
    refine h4 MY ⟨(z.hF d).f_ 0,(aY.hF d).f_ 1,(D.hF d).f_ 0,(d).f_ km J⟩ λC=>?_
    clear MY K
    iterate 3 refine jQ C ?_
    refine hZ 16 λK MY=>?_
    go_simp;have L:I [] e (a.alloc (.cells #[n_] 35)):=d.alloc _;have B:=P_ a 35 #[n_];clear C;have C:(a.alloc (.cells #[n_] 35)).cell? (Z S 0)=some (.slice j b.length hc)/\(a.alloc (.cells #[n_] 35)).cell? (Z R 1)=some (Y i.n)/\(a.alloc (.cells #[n_] 35)).cell? (Z T 0)=some (.slice (some (Z t u)) l.length c)/\(a.alloc (.cells #[n_] 35)).cell? (Z t (u+k*5+4))=some (Y n):=⟨(z.hF L).f_ 0,(aY.hF L).f_ 1,(D.hF L).f_ 0,(L).f_ km J⟩;have z0:=B.f_ 0;have e4:=B.hG 0
    refine h4 MY C λC=>?_
    clear MY K
    refine hZ 17 λK MY=>?_
    go_simp;have h:I [] e (a.alloc (.cells #[n_] 35)):=d.alloc _;have aq:I [] a (a.alloc (.cells #[n_] 35)):=(H [] a).alloc _;have af:=P_ a 35 #[n_];exact Kc
   .go_simp;have g:I [] e (f.alloc (.cells #[n_] 35)):=m.alloc _;have B:=P_ f 35 #[n_];clear C
    refine h4 MY ⟨(z.hF g).f_ 0,(aY.hF g).f_ 1,(D.hF g).f_ 0,(g).f_ km J⟩ λC=>?_
    clear MY K
    refine hZ 12 λK MY=>?_
    go_simp
    (go_at_call 149;((with_reducible refine(qv j hc b i.n (3+n) ⟨false,x⟩ (y.hF (o.trans g)).os (y.hF (o.trans g)).k5 aH W).mono ?_);rintro V a⟨rfl,F⟩))
    have d:I [] e a:=g.trans F;clear C
    refine h4 MY ⟨(z.hF d).f_ 0,(aY.hF d).f_ 1,(D.hF d).f_ 0,(d).f_ km J⟩ λC=>?_
    clear MY K
    (iterate 3 refine jQ C ?_)
    have N:=B.hF F;have z0:=N.f_ 0;have e4:=N.hG 0
    refine hZ 17 λK MY=>?_
    go_simp;have E:I [f.heap.size] a (a.setCell (Z f.heap.size 0) (n_)):=(H [_] _).setCell (.inl J) _;have h:I [] e (a.setCell (Z f.heap.size 0) (n_)):=d.jM E m.size;have af:=N.hV 0 (n_);exact Kc
  case rest=>
   obtain⟨gn,rfl,rfl,P⟩:=hcut;replace z:=z.hF P;replace s:=s.hF P;have MV:=z.f_ 0;have bM:=s.hG 0;have bq:=s.f_ 0;go_wp2;have E:I [Q] wc (wc.setCell (Z Q 0) (.slice j b.length hc)):=(H [Q] wc).setCell (.inl J) _;exact rr_ #[.slice j b.length hc] (s.hV 0 (.slice j b.length hc)) underlying35 ⟨j,hc,b,rfl,(y.hF (o.trans P)).it s O O E,bU.out.symm,(o.trans P).jM E aU⟩
 |some ar=>
  have bU:=U (show mK l (hX b) (k:Int) x=kQ (hX b) i.n (3+n) ⟨false,x⟩ by rw[ag.out];unfold p7;simp only[W])
  go_cut [11,12] (λao ap a7=>∃(gn:Nat) (q:OA) (r:Nat) (p:List Rw),ao=q_ gn/\ap=.bool true/\Bk a7 gn 35 #[.slice q p.length r]/\my a7 q r p/\hX p=kQ (hX b) i.n (3+n) ⟨false,x⟩/\I [] e a7)
  case first=>
   refine hN (λw'=>w'.cell? (Z S 0)=some (.slice j b.length hc)/\w'.cell? (Z R 1)=some (Y i.n)/\w'.cell? (Z T 0)=some (.slice (some (Z t u)) l.length c)/\w'.cell? (Z t (u+k*5+4))=some (Y n)) 19 k_ ?_;have m:I [] e e.drew:=(H [] e).drew;obtain⟨f,bE⟩:=nm_ e.drew;rw[<-bE]at m |-;clear bE;have C:f.cell? (Z S 0)=some (.slice j b.length hc)/\f.cell? (Z R 1)=some (Y i.n)/\f.cell? (Z T 0)=some (.slice (some (Z t u)) l.length c)/\f.cell? (Z t (u+k*5+4))=some (Y n):=⟨(z.hF m).f_ 0,(aY.hF m).f_ 1,(D.hF m).f_ 0,(m).f_ km J⟩;have aT:(0:Int)<=(k:Int):=X;have aN:(k:Int)<(l.length:Int):=X
   (iterate 9 refine jQ C ?_)
   refine iv 9 (v:=Y (3+n)) C ?_ (hy:=(Or.inl ⟨r_,(by intro w' bu;go_simp;try(first|with_reducible rfl|(rw[Ha];omega)))⟩))
   (iterate 2 refine jQ C ?_)
   refine ji 12 16 rfl rfl k_ (λK MY=>?_) (λK MY=>?_)
   .go_simp;have g:I [] e f:=m
    (go_at_call 149;((with_reducible refine(ol j hc b i.n (3+n) ⟨false,x⟩ ar (y.hF (o.trans g)).os (y.hF (o.trans g)).k5 aH W).mono ?_);rintro V a⟨q,r,p,rfl,G,au,aF,M,F⟩;have av:=U M;clear M))
    have d:I [] e a:=m.trans F;clear C
    refine h4 MY ⟨(z.hF d).f_ 0,(aY.hF d).f_ 1,(D.hF d).f_ 0,(d).f_ km J⟩ λC=>?_
    clear MY K
    iterate 3 refine jQ C ?_
    refine hZ 16 λK MY=>?_
    go_simp;have L:I [] e (a.alloc (.cells #[n_] 35)):=d.alloc _;have B:=P_ a 35 #[n_];clear C;have C:(a.alloc (.cells #[n_] 35)).cell? (Z S 0)=some (.slice j b.length hc)/\(a.alloc (.cells #[n_] 35)).cell? (Z R 1)=some (Y i.n)/\(a.alloc (.cells #[n_] 35)).cell? (Z T 0)=some (.slice (some (Z t u)) l.length c)/\(a.alloc (.cells #[n_] 35)).cell? (Z t (u+k*5+4))=some (Y n):=⟨(z.hF L).f_ 0,(aY.hF L).f_ 1,(D.hF L).f_ 0,(L).f_ km J⟩;have z0:=B.f_ 0;have e4:=B.hG 0
    refine h4 MY C λC=>?_
    clear MY K
    refine hZ 17 λK MY=>?_
    go_simp;have h:I [] e (a.alloc (.cells #[.slice q p.length r] 35)):=d.alloc _;have aq:I [] a (a.alloc (.cells #[.slice q p.length r] 35)):=(H [] a).alloc _;have af:=P_ a 35 #[.slice q p.length r];clear C
    refine h4 MY ⟨(z.hF h).f_ 0,(aY.hF h).f_ 1,(D.hF h).f_ 0,(h).f_ km J⟩ λC=>?_
    clear MY K;refine iv 18 C ?_;refine hM k_ ?_ _;go_wp2;go_meet;exact⟨_,q,r,p,rfl,rfl,af,(my.mk au aF G).hF aq,av.out,h⟩
   .go_simp;have g:I [] e (f.alloc (.cells #[n_] 35)):=m.alloc _;have B:=P_ f 35 #[n_];clear C
    refine h4 MY ⟨(z.hF g).f_ 0,(aY.hF g).f_ 1,(D.hF g).f_ 0,(g).f_ km J⟩ λC=>?_
    clear MY K
    refine hZ 12 λK MY=>?_
    go_simp
    (go_at_call 149;((with_reducible refine(ol j hc b i.n (3+n) ⟨false,x⟩ ar (y.hF (o.trans g)).os (y.hF (o.trans g)).k5 aH W).mono ?_);rintro V a⟨q,r,p,rfl,G,au,aF,M,F⟩;have av:=U M;clear M))
    have d:I [] e a:=g.trans F;clear C
    refine h4 MY ⟨(z.hF d).f_ 0,(aY.hF d).f_ 1,(D.hF d).f_ 0,(d).f_ km J⟩ λC=>?_
    clear MY K
    (iterate 3 refine jQ C ?_)
    have N:=B.hF F;have z0:=N.f_ 0;have e4:=N.hG 0
    refine hZ 17 λK MY=>?_
    go_simp;have E:I [f.heap.size] a (a.setCell (Z f.heap.size 0) (.slice q p.length r)):=(H [_] _).setCell (.inl J) _;have h:I [] e (a.setCell (Z f.heap.size 0) (.slice q p.length r)):=d.jM E m.size;have af:=N.hV 0 (.slice q p.length r);clear C
    refine h4 MY ⟨(z.hF h).f_ 0,(aY.hF h).f_ 1,(D.hF h).f_ 0,(h).f_ km J⟩ λC=>?_
    clear MY K;refine iv 18 C ?_;refine hM k_ ?_ _;go_wp2;go_meet;exact⟨_,q,r,p,rfl,rfl,af,(my.mk au aF G).it N O O E,av.out,h⟩
  case rest=>
   obtain⟨gn,q,r,p,rfl,rfl,B,aw,M,P⟩:=hcut;have ax:=U M;clear M;replace s:=s.hF P;have MV:=B.f_ 0;have bM:=s.hG 0;have bq:=s.f_ 0;go_wp2;have E:I [Q] wc (wc.setCell (Z Q 0) (.slice q p.length r)):=(H [Q] wc).setCell (.inl J) _;exact rr_ #[.slice q p.length r] (s.hV 0 (.slice q p.length r)) underlying35 ⟨q,r,p,rfl,aw.it s O O E,by rw[ax.out,bU.out],(o.trans P).jM E aU⟩
def zG:(Instr.build 49 #[(0,Y pc)]).run prog w=.ok (.agg (iM pc jp)) w:=by kernel_rfl
def wD(l:List Ac)(h:As w A l)(B:l.length<=1000000000):
 Calls prog 93 #[.slice A l.length c,n_] w λe w'=>∃(A':OA) (d:Nat),e=.returned (.slice A' l.length d)/\w'.ownsRow w.heap.size 162 3 (.slice A' l.length d) l.length (l.flatMap Ac.E)/\I [] w w':=by
 obtain⟨j,i,g,b,m⟩:=info_parts infoAc;have n:Sl w 162 3 A l.length (l.flatMap Ac.E):=h;have x:w.heap.size<=w.heap.size:=H_ _
 go_enter func93,ntmps93
 go_wp2_with (first
  |(at_builtin;refine iJ _ rfl (.const (n_)) (.tmp 5) 36 rfl w.heap.size 162 j _ 3 24 underlying36 i g b m rfl O O none 0 0 [] rfl (iT _ _ _ _) A l.length c _ rfl n (tN) X x ?_;intro s r y f t;simp only[W_,FY]at f;have a:=t.gr [] w (H_ _) (H [] w);have p:=a.size;have v:=Gw y 162 3 none)
  |(at_builtin;refine iJ _ rfl (.tmp 6) (.tmp 7) 36 rfl w.heap.size 162 j _ 3 24 underlying36 i g b m rfl O O s l.length r _ rfl f none 0 0 _ rfl v (by intro C t;cases t) X p ?_;intro u q z k y;simp only[Hb,HS]at k;have o:=y.gr [] w (H_ _) a))
 go_ret;exact⟨u,q,rfl,k,o⟩
def ms(l:List In)(hH hC:Int)(s:p9)(e:p8):Bool:=decide (s.jG=true∨jB l hH hC s.hQ=false∨e.h6=4)
def oH(l:List In)(k7:List Int)(s:p9)(e:p8):p9:=
 if e.h6=3 then{s with h:=mK l s.h s.hQ (ju k7 s.jo),h8:=s.h8++[⟨true,e.v.n,ju k7 s.jo⟩],hK:=s.hK+1,hQ:=s.hQ+1,jo:=s.jo+1}
 else if e.h6=2 then{s with h:=k4 s.h e,hK:=s.hK+1,jG:=true,hY:=e.hY,v:=e.v}
 else{s with h:=k4 s.h e,hK:=s.hK+1,hQ:=e.pc}
def nR(l:List In)(hH hC:Int)(k7:List Int)(s:p9):p9 × Int:=
 if ic l hH hC=false then(Cm.zero.p,1) else
 if ms l hH hC s (lq l hH hC s.hQ jp s.h 0)=true then(Cm.zero.p,7) else
 (oH l k7 s (lq l hH hC s.hQ jp s.h 0),0)
def zI(aA:OA)(ac:Nat)(al:List Int)(s:Cm)(h:Is w A l)(hn:l.length<=1000000000)(ha:Ns w 2 aA al)(aZ:al.length<=1000000000)(hs:l6 w s)(bn:s.h.l.length<=99999999)(cW:s.h8.l.length<=100000000)(aR: -1000000000<=s.hQ)(b1:s.hQ<=1000000000)(b2:0<=s.hK)(b3:s.hK<=1000000000000)(dH:0<=s.jo)(ez:s.jo<=1000000000):
 Calls prog 48 #[.agg #[.slice A l.length c,Y hH,Y hC],.agg #[.slice aA al.length ac],.agg s.g_] w (uM (nR l hH hC al s.p).1 (nR l hH hC al s.p).2 w):=by
 obtain⟨bJ,bG,bA,a6,be⟩:=info_parts infoAc;obtain⟨an,hE⟩:=mn_ (lq l hH hC s.hQ jp (hX s.h.l) 0)
 have bE:an.sm 16:=by rw[<-hE];exact su _ _ _ _ _ _ _
 have cr:=U hE;clear hE;obtain⟨⟨bd,bf⟩,cV⟩:∃q,nR l hH hC al s.p=q:=⟨_,rfl⟩;rw[cV];have M:=U cV;clear cV;obtain⟨m,C,b,hR,MZ⟩:=Da w 26 #[.slice A l.length c,Y hH,Y hC] 29 #[.slice aA al.length ac] 40 s.g_ 40 #[n_,Y 0,Y 0,n_,.bool false,.bool false,.bool false,Y 0,Y 0,Y 0]
 go_enter func48,ntmps48
 go_upto_region 1 with fail
 obtain⟨bw,aG⟩:=nm_ ((((w.alloc (.cells #[.slice A l.length c,Y hH,Y hC] 26)).alloc (.cells #[.slice aA al.length ac] 29)).alloc (.cells s.g_ 40)).alloc (.cells #[n_,Y 0,Y 0,n_,.bool false,.bool false,.bool false,Y 0,Y 0,Y 0] 40));rw[<-aG]at m C b hR MZ |-;clear aG;obtain⟨bT,a8⟩:=nm_ w.heap.size;obtain⟨gw,bF⟩:=nm_ (w.heap.size+1);obtain⟨a,bl⟩:=nm_ (w.heap.size+1+1);obtain⟨gr,bh⟩:=nm_ (w.heap.size+1+1+1);rw[<-bh]at hR;rw[<-bl]at b;rw[<-bF]at C;rw[<-a8]at m;rw[<-bh,<-bl,<-bF,<-a8];have aU:w.heap.size<=gr:=X;have bk:w.heap.size<=a:=X;have N:bT≠a/\gw≠a/\gr≠a:=X;clear a8 bl bF bh;have MV:=m.f_ 0;have MU:=m.f_ 1;have au:=m.f_ 2
 cases hv:ic l hH hC with
 |false=>
  obtain⟨rfl,rfl⟩:=Prod.mk.inj (M.out.symm.trans (by unfold nR;exact U_ hv));exact Jk
 |true=>
 have aq:Hid ((bd,bf)=if ms l hH hC s.p an=true then(Cm.zero.p,7) else(oH l al s.p an,0)):=U (by
  rw[<-M.out];unfold nR
  rw[R_ (by rw[hv];decide),show lq l hH hC s.p.hQ jp s.p.h 0=an from cr.out])
 have aV:∀K,K<l.length->kW l K=true:=by
  intro K hk;have a2:=hv;unfold ic n6 at a2;simp only[F0]at a2;exact F4.mp a2.1.1.2 K (zu hk)
 clear M
 go_upto_region 3 with(go_at_call 92;have R:=iU A c l hH hC (h.hF MZ) hn;rw[hv]at R;refine R.mono ?_;rintro e w1⟨rfl,hg1⟩)
 replace m:=m.hF hg1;replace C:=C.hF hg1;replace b:=b.hF hg1;replace hR:=hR.hF hg1;replace MZ:=MZ.trans hg1;clear hg1 hv;replace MV:=m.f_ 0;replace MU:=m.f_ 1;replace au:=m.f_ 2;have m1:w1.cell? (Z a 1)=some (Y s.hQ):=(b.f_ 1).trans rfl;have m0:w1.cell? (Z a 0)=some (.slice s.h.A s.h.l.length s.h.c):=(b.f_ 0).trans rfl
 go_upto_region 4 with(first|(refine wpList_build rfl rfl #[(0,Y s.hQ)] k_ (zG s.hQ) ?_)|(go_at_call 78;have R:=pT A c l hH hC s.hQ 0 jp s.h.A s.h.c s.h.l (h.hF MZ) hn (hs.h.hF MZ) X X;rw[cr.out]at R;refine R.mono ?_;unfold wH;rintro e w2⟨f,rfl,E,aO,M0⟩)|(refine kS (f.g_) (P_ w2 134 tT) (Ef.one _) ?_;intro ag bg bm))
 have MX:I [] w2 ag:=((H [] w2).alloc _).jM bm (H_ _);have aC:I [] w1 ag:=M0.trans MX;have bC:sE ag f:=(E.hF ((H [] w2).alloc (.cells tT 134))).it (P_ w2 134 tT) O bm;have bM:w2.heap.size≠a:=ov ((b.hF M0).lt);replace m:=m.hF aC;replace C:=C.hF aC;replace b:=b.hF aC;replace hR:=hR.hF aC;replace MZ:=MZ.trans aC;clear aC M0 bm MX E MV MU au m0 m1;have hE:=bg;have E:=bC;clear bg bC;have r:w2.heap.size≠a:=bM;clear bM;generalize w2.heap.size=bt at*
 have cA:f.p.sm 16:=by rw[aO];exact bE
 rw[<-aO]at aq
 have bS:f.nw.l.length<=16:=by have:=cA.nw;have e:f.p.nw.length=f.nw.l.length:=h7 _;omega
 clear bE cr aO
 try simp only[a_]
 go_cut [34] (λbv a7=>bv=.bool (ms l hH hC s.p f.p)/\I [] ag a7)
 case first=>
  have MV:=m.f_ 0;have MU:=m.f_ 1;have au:=m.f_ 2;have m4:ag.cell? (Z a 4)=some (.bool s.jG):=(b.f_ 4).trans rfl;have m1:ag.cell? (Z a 1)=some (Y s.hQ):=(b.f_ 1).trans rfl
  cases bz:s.jG with
  |true=>
   have bi:=U (show ms l hH hC s.p f.p=true by unfold ms;exact Gd (.inl bz));rw[bz]at m4;clear bz;go_wp2;go_meet;exact⟨jc bi.out.symm,H _ _⟩
  |false=>
   rw[bz]at m4
   cases j:jB l hH hC s.hQ with
   |false=>
    have bi:=U (show ms l hH hC s.p f.p=true by unfold ms;exact Gd (.inr (.inl j)));exact JG
   |true=>
    have bi:=U (show ms l hH hC s.p f.p=(f.h6==4) by
     unfold ms
     by_cases h1:f.h6=4
     .have:(f.h6==4)=true:=zu h1
      rw[this];exact Gd (.inr (.inr h1))
     .have:(f.h6==4)=false:=zu h1
      rw[this]
      exact GX (λy=>y.elim (λh2=>FU h2 (by show ¬s.jG=true;rw[bz];decide)) (λh2=>h2.elim (λh3=>FU (show jB l hH hC s.hQ=false from h3) (by rw[j];decide)) (λh3=>h1 h3))))
    exact JG
 case rest=>
 obtain⟨rfl,V⟩:=hcut;replace m:=m.hF V;replace C:=C.hF V;replace b:=b.hF V;replace hR:=hR.hF V;replace MZ:=MZ.trans V;replace hE:=hE.hF V;replace E:=E.hF V;clear V
 cases hcb:ms l hH hC s.p f.p with
 |true=>
  obtain⟨rfl,rfl⟩:=Prod.mk.inj (aq.out.trans (U_ hcb));clear hcb aq;exact Ke
 |false=>
 obtain⟨rfl,rfl⟩:=Prod.mk.inj (aq.out.trans (R_ (by rw[hcb];decide)))
 have j:jB l hH hC s.hQ=true:=by
  unfold ms at hcb;have h1:=Ii hcb
  cases h2:jB l hH hC s.hQ with
  |true=>rfl
  |false=>exact FU (.inr (.inl h2)) h1
 obtain⟨K,hk⟩:∃K:Nat,s.hQ=K:=by
  unfold jB iB at j;simp only[F0]at j;have h2:=j.2;refine⟨s.hQ.toNat,?_⟩;exact LS
 have aD:K<l.length:=by
  unfold jB iB at j;simp only[F0]at j;have h2:=j.2;exact LS
 have P:l.getD K default=l[K]:=by simp[List.getD,K_ aD]
 have ak:l[K].op=20:=by
  unfold jB iB at j;simp only[F0]at j;have h2:=j.2;rw[R_ X,hk,Gs,P]at h2
  simpa using h2
 have am:=wa (aV K aD);rw[P]at am;have cg:=(am.hH (.inr (.inr (.inr ak)))).1;have bZ:=(am.hH (.inr (.inr (.inr ak)))).2;have bK:=U hk;clear hk ak P am j hcb aq aV;have m3:wc.cell? (Z a 3)=some (.slice s.h8.A s.h8.l.length s.h8.c):=(b.f_ 3).trans rfl
 go_upto_region 7 with(go_at_call 93;((with_reducible refine(wD s.h8.A s.h8.c s.h8.l (hs.h8.hF MZ) X).mono ?_);rintro e ad⟨n,o,rfl,cK,MS⟩;have m3:ad.cell? (Z a 3)=some (.slice s.h8.A s.h8.l.length s.h8.c):=((b.hF MS).f_ 3).trans rfl;have aP:=(b.hF MS).hG 3))
 have d:I [a] ad (ad.setCell (Z a 3) (.slice n s.h8.l.length o)):=(H [a] ad).setCell (.inl J) _;have B:Bk (ad.setCell (Z a 3) (.slice n s.h8.l.length o)) a 40 ({s with h8:=⟨n,o,s.h8.l⟩}:Cm).g_:=(b.hF MS).hV 3 (.slice n s.h8.l.length o);have D:=ku (x:=a) cK ((b.hF MS).pU O) d;replace m:=(m.hF MS).gr d (zu N.1);replace C:=(C.hF MS).gr d (zu N.2.1);replace hR:=(hR.hF MS).gr d (zu N.2.2);replace hE:=(hE.hF MS).gr d (zu r);replace E:sE (ad.setCell (Z a 3) (.slice n s.h8.l.length o)) f:=(E.hF MS).it (b.hF MS) O d;have aK:w.heap.size<=wc.heap.size:=MZ.size;replace MZ:=(MZ.trans MS).jM d bk;clear m3 aP b MS d cK;have b:=B;clear B;obtain⟨bx,bR⟩:=nm_ (ad.setCell (Z a 3) (.slice n s.h8.l.length o));rw[<-bR]at b D m C hR hE E MZ |-;clear bR;replace D:=DB D aK;have aw:bx.cell? (Z a 9)=some (Y s.hK):=(b.f_ 9).trans rfl;have bD:=b.hG 9
 go_upto_region 8 with fail
 have d:I [a] bx (bx.setCell (Z a 9) (Y (s.hK+1))):=(H [a] bx).setCell (.inl J) _;have B:Bk (bx.setCell (Z a 9) (Y (s.hK+1))) a 40 ({s with h8:=⟨n,o,s.h8.l⟩,hK:=s.hK+1}:Cm).g_:=b.hV 9 (Y (s.hK+1));replace D:=ku (x:=a) D (b.pU O) d;replace m:=m.gr d (zu N.1);replace C:=C.gr d (zu N.2.1);replace hR:=hR.gr d (zu N.2.2);replace hE:=hE.gr d (zu r);replace E:sE (bx.setCell (Z a 9) (Y (s.hK+1))) f:=E.it b O d;replace MZ:=MZ.jM d bk;clear aw bD b d aK;have b:=B;clear B;obtain⟨ah,aj⟩:=nm_ (bx.setCell (Z a 9) (Y (s.hK+1)));rw[<-aj]at b D m C hR hE E MZ |-;clear aj;have aT:ah.cell? (Z bt 0)=some (Y f.h6):=(hE.f_ 0).trans rfl;have m0:ah.cell? (Z a 0)=some (.slice s.h.A s.h.l.length s.h.c):=(b.f_ 0).trans rfl
 by_cases b7:f.h6=3
 .have bU:(f.h6==3)=true:=zu b7;have cM:Hid (oH l al s.p f.p={s.p with h:=mK l s.p.h s.hQ (ju al s.jo),h8:=s.p.h8++[(⟨true,f.v.n,ju al s.jo⟩:Ac)],hK:=s.hK+1,hQ:=s.hQ+1,jo:=s.jo+1}):=U (by unfold oH;exact U_ b7);clear b7;have w0:=C.f_ 0;have m2:ah.cell? (Z a 2)=some (Y s.jo):=(b.f_ 2).trans rfl
  go_upto_region 10 with(go_at_call 94;((with_reducible refine(xQ aA ac al s.jo (ha.hF MZ) aZ).mono ?_);rintro e ax⟨rfl,Q⟩))
  replace m:=m.hF Q;replace C:=C.hF Q;replace b:=b.hF Q;replace hR:=hR.hF Q;replace MZ:=MZ.trans Q;replace hE:=hE.hF Q;replace E:=E.hF Q;replace D:=iy D Q;clear Q w0 m2 aT bU m0;have MV:=m.f_ 0;have MU:=m.f_ 1;have au:=m.f_ 2;have m0:ax.cell? (Z a 0)=some (.slice s.h.A s.h.l.length s.h.c):=(b.f_ 0).trans rfl;have m1:ax.cell? (Z a 1)=some (Y (K:Int)):=(b.f_ 1).trans (Z_ (λbW=>some (Value.int .i64 bW)) bK.out)
  go_upto_region 11 with(go_at_call 95;((with_reducible refine(wz A c l hH hC s.h.A s.h.c s.h.l K (ju al s.jo) (h.hF MZ) hn (hs.h.hF MZ) X aD cg bZ).mono ?_);unfold mt;rintro e L⟨k,i,g,rfl,aY,dm,t⟩;have av:=U dm;clear dm;have m0:L.cell? (Z a 0)=some (.slice s.h.A s.h.l.length s.h.c):=((b.hF t).f_ 0).trans rfl;have aF:=(b.hF t).hG 0))
  have d:I [a] L (L.setCell (Z a 0) (.slice k g.length i)):=(H [a] L).setCell (.inl J) _;have B:Bk (L.setCell (Z a 0) (.slice k g.length i)) a 40 ({s with h8:=⟨n,o,s.h8.l⟩,hK:=s.hK+1,h:=⟨k,i,g⟩}:Cm).g_:=(b.hF t).hV 0 (.slice k g.length i);have bX:=aY.it (b.hF t) O O d;replace D:=ku (x:=a) (iy D t) ((b.hF t).pU O) d;replace hR:=(hR.hF t).gr d (zu N.2.2);replace hE:=(hE.hF t).gr d (zu r);replace MZ:=(MZ.trans t).jM d bk;clear m0 aF m1 MV MU au b d m C E aY t;have b:=B;clear B;obtain⟨u,bI⟩:=nm_ (L.setCell (Z a 0) (.slice k g.length i));rw[<-bI]at bX D b hR hE MZ |-;clear bI;have m3:u.cell? (Z a 3)=some (.slice n s.h8.l.length o):=(b.f_ 3).trans rfl;have bQ:u.cell? (Z bt 42)=some (Y f.v.n):=(hE.f_ 42).trans rfl;have T:I [] u (u.alloc (.cells #[.bool true,Y f.v.n,Y (ju al s.jo)] 162)):=(H [] u).alloc _;have ao:Sl (u.alloc (.cells #[.bool true,Y f.v.n,Y (ju al s.jo)] 162)) 162 3 (j_ u.heap.size) 1 [.bool true,Y f.v.n,Y (ju al s.jo)]:=kP (s:=3) (P_ u 162 #[.bool true,Y f.v.n,Y (ju al s.jo)]) rfl;have aS:=iy D T;have bY:w.heap.size<=(u.alloc (.cells #[.bool true,Y f.v.n,Y (ju al s.jo)] 162)).heap.size:=(MZ.trans T).size
  go_upto_region 12 with(at_builtin;refine iJ _ rfl (.tmp 60) (.tmp 66) 36 rfl w.heap.size 162 bJ _ 3 24 underlying36 bG bA a6 be rfl O O n s.h8.l.length o _ rfl aS _ 1 1 _ rfl ao (by intro cb hu;simp at hu;rcases hu with rfl|rfl|rfl<;>rfl) X bY ?_;intro y z W b9 ap;have ca:=ap.bk (b.hF T) O;have m3:W.cell? (Z a 3)=some (.slice n s.h8.l.length o):=(ca.f_ 3).trans rfl;have aP:=ca.hG 3)
  have d:I [a] W (W.setCell (Z a 3) (.slice y (s.h8.l.length+1) z)):=(H [a] W).setCell (.inl J) _
  have B:Bk (W.setCell (Z a 3) (.slice y (s.h8.l.length+1) z)) a 40 ({s with h8:=⟨y,z,s.h8.l++[(⟨true,f.v.n,ju al s.jo⟩:Ac)]⟩,hK:=s.hK+1,h:=⟨k,i,g⟩}:Cm).g_:=by
   rw[show({s with h8:=⟨y,z,s.h8.l++[(⟨true,f.v.n,ju al s.jo⟩:Ac)]⟩,hK:=s.hK+1,h:=⟨k,i,g⟩}:Cm).g_=({s with h8:=⟨n,o,s.h8.l⟩,hK:=s.hK+1,h:=⟨k,i,g⟩}:Cm).g_.setIfInBounds 3 (.slice y (s.h8.l.length+1) z) from(show({s with h8:=⟨y,z,s.h8.l++[(⟨true,f.v.n,ju al s.jo⟩:Ac)]⟩,hK:=s.hK+1,h:=⟨k,i,g⟩}:Cm).g_=({s with h8:=⟨n,o,s.h8.l⟩,hK:=s.hK+1,h:=⟨k,i,g⟩}:Cm).g_.setIfInBounds 3 (.slice y (s.h8.l++[(⟨true,f.v.n,ju al s.jo⟩:Ac)]).length z) from rfl).trans (Z_ (λbW=>({s with h8:=⟨n,o,s.h8.l⟩,hK:=s.hK+1,h:=⟨k,i,g⟩}:Cm).g_.setIfInBounds 3 (.slice y bW z)) (by rw[J_];rfl))];exact ca.hV 3 (.slice y (s.h8.l.length+1) z)
  have de:=ku (x:=a) b9 (ca.pU O) d
  have F:l6 (W.setCell (Z a 3) (.slice y (s.h8.l.length+1) z)) ({s with h8:=⟨y,z,s.h8.l++[(⟨true,f.v.n,ju al s.jo⟩:Ac)]⟩,hK:=s.hK+1,h:=⟨k,i,g⟩}:Cm):=by
   refine⟨(my.mk (ap.sl (bX.hF T).os O) (ap.Dz O (bX.hF T).k5) bX.l3).it ca O O d,?_,?_⟩
   .have q:=Sl.iR de
    show Sl (W.setCell (Z a 3) (.slice y (s.h8.l.length+1) z)) 162 3 y (s.h8.l++[(⟨true,f.v.n,ju al s.jo⟩:Ac)]).length ((s.h8.l++[(⟨true,f.v.n,ju al s.jo⟩:Ac)]).flatMap Ac.E)
    rw[F8,HJ,show(s.h8.l++[(⟨true,f.v.n,ju al s.jo⟩:Ac)]).length=s.h8.l.length+1 by rw[J_];rfl];exact q
   .show(s.h8.l++[(⟨true,f.v.n,ju al s.jo⟩:Ac)]).length<=z
    rw[J_];exact iY de
  replace hR:=(ap.bk (hR.hF T) O).gr d (zu N.2.2);replace MZ:=(ap.gr [] w (H_ _) (MZ.trans T)).jM d bk;clear m3 aP bQ ca b d hE bX D b9 de ap aS ao T bY;have b:=B;clear B;obtain⟨bH,b4⟩:=nm_ (W.setCell (Z a 3) (.slice y (s.h8.l.length+1) z));rw[<-b4]at F b hR MZ |-;clear b4;have m1:bH.cell? (Z a 1)=some (Y s.hQ):=(b.f_ 1).trans rfl;have m2:bH.cell? (Z a 2)=some (Y s.jo):=(b.f_ 2).trans rfl;have bO:=b.hG 1;have bV:=b.hG 2;have d:I [a] bH ((bH.setCell (Z a 1) (Y (s.hQ+1))).setCell (Z a 2) (Y (s.jo+1))):=((H [a] bH).setCell (p:=(Z a 1)) (.inl J) _).setCell (p:=(Z a 2)) (.inl J) _;have B:Bk ((bH.setCell (Z a 1) (Y (s.hQ+1))).setCell (Z a 2) (Y (s.jo+1))) a 40 ({s with h8:=⟨y,z,s.h8.l++[(⟨true,f.v.n,ju al s.jo⟩:Ac)]⟩,hK:=s.hK+1,h:=⟨k,i,g⟩,hQ:=s.hQ+1,jo:=s.jo+1}:Cm).g_:=(b.hV 1 (Y (s.hQ+1))).hV 2 (Y (s.jo+1));have S:=hR.gr d (zu N.2.2);have HA:Hid (oH l al s.p f.p=({s with h8:=⟨y,z,s.h8.l++[(⟨true,f.v.n,ju al s.jo⟩:Ac)]⟩,hK:=s.hK+1,h:=⟨k,i,g⟩,hQ:=s.hQ+1,jo:=s.jo+1}:Cm).p):=U (by rw[cM.out,bK.out,show mK l s.p.h (K:Int) (ju al s.jo)=hX g from av.out.symm,<-bK.out];rfl)
  go_wp2_with (first|(refine kV B underlying40 ?_)|(refine kS (({s with h8:=⟨y,z,s.h8.l++[(⟨true,f.v.n,ju al s.jo⟩:Ac)]⟩,hK:=s.hK+1,h:=⟨k,i,g⟩,hQ:=s.hQ+1,jo:=s.jo+1}:Cm).g_) S (Cm.one _) ?_;intro ae aB G))
  rw[HA.out];exact lO ({s with h8:=⟨y,z,s.h8.l++[(⟨true,f.v.n,ju al s.jo⟩:Ac)]⟩,hK:=s.hK+1,h:=⟨k,i,g⟩,hQ:=s.hQ+1,jo:=s.jo+1}:Cm).g_ (Y 0) aB underlying40 ⟨({s with h8:=⟨y,z,s.h8.l++[(⟨true,f.v.n,ju al s.jo⟩:Ac)]⟩,hK:=s.hK+1,h:=⟨k,i,g⟩,hQ:=s.hQ+1,jo:=s.jo+1}:Cm),rfl,(l6.mk (s:=({s with h8:=⟨y,z,s.h8.l++[(⟨true,f.v.n,ju al s.jo⟩:Ac)]⟩,hK:=s.hK+1,h:=⟨k,i,g⟩,hQ:=s.hQ+1,jo:=s.jo+1}:Cm)) (F.h.it b O O d) (Sl.it F.h8 b O d) F.pN).it S O G,rfl,(MZ.jM d bk).jM G aU⟩
 .have bU:(f.h6==3)=false:=zu b7;have cM:Hid (oH l al s.p f.p=if f.h6=2 then{s.p with h:=k4 s.p.h f.p,hK:=s.hK+1,jG:=true,hY:=f.hY,v:=f.v} else{s.p with h:=k4 s.p.h f.p,hK:=s.hK+1,hQ:=f.pc}):=U (by unfold oH;exact R_ b7);clear b7;have cc:I [] ah ah:=H _ _
  go_upto_region 16 with(first|(refine kV hE underlying134 ?_)|(go_at_call 96;((with_reducible refine(wB s.h.A s.h.c s.h.l f (E.hF cc) (hs.h.hF MZ) X (G_ cA.ws O)).mono ?_);unfold mt;rintro e L⟨k,i,g,rfl,aY,dm,t⟩;have av:=U dm;clear dm;have m0:L.cell? (Z a 0)=some (.slice s.h.A s.h.l.length s.h.c):=((b.hF t).f_ 0).trans rfl;have aF:=(b.hF t).hG 0)))
  have d:I [a] L (L.setCell (Z a 0) (.slice k g.length i)):=(H [a] L).setCell (.inl J) _;have B:Bk (L.setCell (Z a 0) (.slice k g.length i)) a 40 ({s with h8:=⟨n,o,s.h8.l⟩,hK:=s.hK+1,h:=⟨k,i,g⟩}:Cm).g_:=(b.hF t).hV 0 (.slice k g.length i);have F:l6 (L.setCell (Z a 0) (.slice k g.length i)) ({s with h8:=⟨n,o,s.h8.l⟩,hK:=s.hK+1,h:=⟨k,i,g⟩}:Cm):=⟨aY.it (b.hF t) O O d,Sl.it (Sl.iR (iy D t)) (b.hF t) O d,iY D⟩;replace hR:=(hR.hF t).gr d (zu N.2.2);replace hE:=(hE.hF t).gr d (zu r);replace MZ:=(MZ.trans t).jM d bk;clear m0 aF b d aT bU m C D E cc aY t;have b:=B;clear B;obtain⟨u,bI⟩:=nm_ (L.setCell (Z a 0) (.slice k g.length i));rw[<-bI]at F b hR hE MZ |-;clear bI;have aT:u.cell? (Z bt 0)=some (Y f.h6):=(hE.f_ 0).trans rfl
  by_cases T:f.h6=2
  .have bN:(f.h6==2)=true:=zu T;have HA:Hid (oH l al s.p f.p=({s with h8:=⟨n,o,s.h8.l⟩,hK:=s.hK+1,h:=⟨k,i,g⟩,jG:=true,hY:=f.hY,v:=f.v}:Cm).p):=U (by rw[cM.out,U_ T,show k4 s.p.h f.p=hX g from av.out.symm];rfl);clear T cM
   go_upto_region 17 with fail
   clear aT bN;refine hN (λw'=>w'.cell? (Z bt 40)=some (.bool f.hY)/\w'.cell? (Z bt 41)=some (.bool f.v.r)/\w'.cell? (Z bt 42)=some (Y f.v.n)) 10 k_ ?_;have P:I [] u u.drew:=(H [] u).drew;replace F:=F.hF P;replace b:=b.hF P;replace hR:=hR.hF P;replace hE:=hE.hF P;replace MZ:=MZ.trans P;clear P;obtain⟨y,bL⟩:=nm_ u.drew;rw[<-bL]at F b hR hE MZ |-;clear bL;have z:y.cell? (Z bt 40)=some (.bool f.hY)/\y.cell? (Z bt 41)=some (.bool f.v.r)/\y.cell? (Z bt 42)=some (Y f.v.n):=⟨(hE.f_ 40).trans rfl,(hE.f_ 41).trans rfl,(hE.f_ 42).trans rfl⟩;have m4:y.cell? (Z a 4)=some (.bool s.jG):=(b.f_ 4).trans rfl;have bj:y.cell? (Z a 5)=some (.bool s.hY):=(b.f_ 5).trans rfl;have MT:y.cell? (Z a 6)=some (.bool s.v.r):=(b.f_ 6).trans rfl;have dh:y.cell? (Z a 7)=some (Y s.v.n):=(b.f_ 7).trans rfl;have bo:=b.hG 4;have bp:=b.hG 5;have bu:=b.hG 6;have bB:=b.hG 7
   iterate 5 refine jQ z ?_
   refine hZ 5 λW Q=>?_
   go_simp;clear z
   refine h4 Q ⟨((hE.ih (p:=(Z a 4)) r (.bool true)).f_ 40).trans rfl,((hE.ih (p:=(Z a 4)) r (.bool true)).f_ 41).trans rfl,((hE.ih (p:=(Z a 4)) r (.bool true)).f_ 42).trans rfl⟩ λz=>?_
   clear Q W;refine iv 6 z ?_
   refine hZ 7 λW Q=>?_
   go_simp;clear z
   refine h4 Q ⟨(((hE.ih (p:=(Z a 4)) r (.bool true)).ih (p:=(Z a 5)) r (.bool f.hY)).f_ 40).trans rfl,(((hE.ih (p:=(Z a 4)) r (.bool true)).ih (p:=(Z a 5)) r (.bool f.hY)).f_ 41).trans rfl,(((hE.ih (p:=(Z a 4)) r (.bool true)).ih (p:=(Z a 5)) r (.bool f.hY)).f_ 42).trans rfl⟩ λz=>?_
   clear Q W;refine iv 8 z ?_
   refine hZ 9 λW Q=>?_
   go_simp;clear z
   refine h4 Q ⟨(((((hE.ih (p:=(Z a 4)) r (.bool true)).ih (p:=(Z a 5)) r (.bool f.hY)).ih (p:=(Z a 6)) r (.bool f.v.r)).ih (p:=(Z a 7)) r (Y f.v.n)).f_ 40).trans rfl,(((((hE.ih (p:=(Z a 4)) r (.bool true)).ih (p:=(Z a 5)) r (.bool f.hY)).ih (p:=(Z a 6)) r (.bool f.v.r)).ih (p:=(Z a 7)) r (Y f.v.n)).f_ 41).trans rfl,(((((hE.ih (p:=(Z a 4)) r (.bool true)).ih (p:=(Z a 5)) r (.bool f.hY)).ih (p:=(Z a 6)) r (.bool f.v.r)).ih (p:=(Z a 7)) r (Y f.v.n)).f_ 42).trans rfl⟩ λz=>?_
   clear Q W;have d:I [a] y ((((y.setCell (Z a 4) (.bool true)).setCell (Z a 5) (.bool f.hY)).setCell (Z a 6) (.bool f.v.r)).setCell (Z a 7) (Y f.v.n)):=((((H [a] y).setCell (p:=(Z a 4)) (.inl J) _).setCell (p:=(Z a 5)) (.inl J) _).setCell (p:=(Z a 6)) (.inl J) _).setCell (p:=(Z a 7)) (.inl J) _;have B:Bk ((((y.setCell (Z a 4) (.bool true)).setCell (Z a 5) (.bool f.hY)).setCell (Z a 6) (.bool f.v.r)).setCell (Z a 7) (Y f.v.n)) a 40 ({s with h8:=⟨n,o,s.h8.l⟩,hK:=s.hK+1,h:=⟨k,i,g⟩,jG:=true,hY:=f.hY,v:=f.v}:Cm).g_:=(((b.hV 4 (.bool true)).hV 5 (.bool f.hY)).hV 6 (.bool f.v.r)).hV 7 (Y f.v.n);have S:=hR.gr d (zu N.2.2);clear m4 bj MT dh bo bp bu bB z;refine hM k_ ?_ _
   go_wp2_with (first|(refine kV B underlying40 ?_)|(refine kS (({s with h8:=⟨n,o,s.h8.l⟩,hK:=s.hK+1,h:=⟨k,i,g⟩,jG:=true,hY:=f.hY,v:=f.v}:Cm).g_) S (Cm.one _) ?_;intro ae aB G))
   rw[HA.out];exact lO ({s with h8:=⟨n,o,s.h8.l⟩,hK:=s.hK+1,h:=⟨k,i,g⟩,jG:=true,hY:=f.hY,v:=f.v}:Cm).g_ (Y 0) aB underlying40 ⟨({s with h8:=⟨n,o,s.h8.l⟩,hK:=s.hK+1,h:=⟨k,i,g⟩,jG:=true,hY:=f.hY,v:=f.v}:Cm),rfl,(l6.mk (s:=({s with h8:=⟨n,o,s.h8.l⟩,hK:=s.hK+1,h:=⟨k,i,g⟩,jG:=true,hY:=f.hY,v:=f.v}:Cm)) (F.h.it b O O d) (Sl.it F.h8 b O d) F.pN).it S O G,rfl,(MZ.jM d bk).jM G aU⟩
  .have bN:(f.h6==2)=false:=zu T;have HA:Hid (oH l al s.p f.p=({s with h8:=⟨n,o,s.h8.l⟩,hK:=s.hK+1,h:=⟨k,i,g⟩,hQ:=f.pc}:Cm).p):=U (by rw[cM.out,R_ T,show k4 s.p.h f.p=hX g from av.out.symm];rfl);clear T cM;have y:u.cell? (Z bt 1)=some (Y f.pc):=(hE.f_ 1).trans rfl;have m1:u.cell? (Z a 1)=some (Y s.hQ):=(b.f_ 1).trans rfl;have bO:=b.hG 1;have d:I [a] u (u.setCell (Z a 1) (Y f.pc)):=(H [a] u).setCell (.inl J) _;have B:Bk (u.setCell (Z a 1) (Y f.pc)) a 40 ({s with h8:=⟨n,o,s.h8.l⟩,hK:=s.hK+1,h:=⟨k,i,g⟩,hQ:=f.pc}:Cm).g_:=b.hV 1 (Y f.pc);have S:=hR.gr d (zu N.2.2)
   go_wp2_with (first|(refine kV B underlying40 ?_)|(refine kS (({s with h8:=⟨n,o,s.h8.l⟩,hK:=s.hK+1,h:=⟨k,i,g⟩,hQ:=f.pc}:Cm).g_) S (Cm.one _) ?_;intro ae aB G))
   rw[HA.out];exact lO ({s with h8:=⟨n,o,s.h8.l⟩,hK:=s.hK+1,h:=⟨k,i,g⟩,hQ:=f.pc}:Cm).g_ (Y 0) aB underlying40 ⟨({s with h8:=⟨n,o,s.h8.l⟩,hK:=s.hK+1,h:=⟨k,i,g⟩,hQ:=f.pc}:Cm),rfl,(l6.mk (s:=({s with h8:=⟨n,o,s.h8.l⟩,hK:=s.hK+1,h:=⟨k,i,g⟩,hQ:=f.pc}:Cm)) (F.h.it b O O d) (Sl.it F.h8 b O d) F.pN).it S O G,rfl,(MZ.jM d bk).jM G aU⟩
