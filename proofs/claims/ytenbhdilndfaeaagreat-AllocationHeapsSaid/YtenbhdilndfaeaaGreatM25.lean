import Derived.Test.YtenbhdilndfaeaaGreatM13
import Derived.Test.YtenbhdilndfaeaaGreatM18
import Derived.Test.YtenbhdilndfaeaaGreatM24
import Derived.OwnWalk
set_option maxRecDepth 100000
set_option maxHeartbeats 0
set_option linter.all false
namespace Go.Proofs.YtenbhdilndfaeaaGreat
open Go.RowKit Go.Proofs.Tryz
variable{G:Prop}{w':World}(b w:World)(gx:Nat)(x:X1)(E:Nat)(ap X c pc:Int)
theorem Hq(h:G:=by
 go_wp2_with (go_at_call 165;((with_reducible refine(kK b _ gx P (-1) B b9).mono ?_);unfold kE;rintro e ag⟨ax,rfl,F,ae,G⟩;have aI:=h_ ae;clear ae))
 exact K6):G:=h
theorem HH(h:G:=by
 clear d hz Y;refine jB (W:=aJ) (D_ _ _) k_ k_ ?_
 repeat(go_big_quiet_step (((go_at_call 162;exact Calls.gq (O.out _)))))
 exact I8):G:=h
theorem KU(h:G:=by
 refine jB (W:=aJ) (D_ _ _) k_ k_ ?_
 repeat(go_big_quiet_step ((fail)))
 exact I8):G:=h
theorem K3(h:G:=by
 clear C
 refine hS H j.c5 λC=>?_
 clear H K;exact La):G:=h
theorem K6(h:G:=by
 refine D8 (v:=.tuple #[i_ 0,.bool false]) (F4 (t:=6) (u:=7) rfl _ _ _) rfl ?_;rw[O.out];exact⟨ax,rfl,F,aI.out,aH.trans G⟩):G:=h
theorem La(h:G:=by
 refine hA k_ ?_ _;go_wp2;go_ret;exact⟨_,rfl,g.rI M a2 rfl rfl rfl rfl rfl rfl rfl,rfl,aH.ig M⟩):G:=h
theorem Ld(h:G:=by
 refine rn_ ?_;exact J1):G:=h
theorem J1(h:G:=by
 rw[O.out];exact⟨_,rfl,bg,rfl,aH.ig ((D_ [gx] _).setCell (.inl s_) _)⟩):G:=h
theorem l6:∀j,j<33->x.g8[3+j]?=(iz x.jN x.sr)[j]?
 |0,_=>rfl
 |1,_=>rfl
 |2,_=>rfl
 |3,_=>rfl
 |4,_=>rfl
 |5,_=>rfl
 |6,_=>rfl
 |7,_=>rfl
 |8,_=>rfl
 |9,_=>rfl
 |10,_=>rfl
 |11,_=>rfl
 |12,_=>rfl
 |13,_=>rfl
 |14,_=>rfl
 |15,_=>rfl
 |16,_=>rfl
 |17,_=>rfl
 |18,_=>rfl
 |19,_=>rfl
 |20,_=>rfl
 |21,_=>rfl
 |22,_=>rfl
 |23,_=>rfl
 |24,_=>rfl
 |25,_=>rfl
 |26,_=>rfl
 |27,_=>rfl
 |28,_=>rfl
 |29,_=>rfl
 |30,_=>rfl
 |31,_=>rfl
 |32,_=>rfl
 |n+33,h=>D6 h o_
theorem nP(r:Nat->Vl):(iz pc r).all (·.oneCell')=true:=by unfold iz;simp[Value.oneCell']
theorem mY(r:Nat->Vl):ul x.g8 39 (iz pc r).toList=({x with e:={x.e with pc:=pc,r:=r}}:X1).g8:=rfl
theorem lB{P:Program}{a:Act}{o:Oper}(ty:TypeId)(x:Operand)(ho:o.op=.load ty x)(g off:Nat)(I:a.eval x=.pointer (some (c_ g off)))(vs:Array Value)(hc:∀j,j<vs.size->w'.cell? (c_ g (off+j))=vs[j]?)(d:TypeDesc)(hu:P.underlying ty=some d)(hd:d.isRow=true)(hi:(P.info? ty).map (·.size)=some vs.size):(execOp a.eval o).run P w'=.ok (.value (.agg vs)) w':=by
 have hl:=run_loadAt_mid (P:=P) w' g off ty vs.toList d (λj v hv=>by
  have aj:j<vs.size:=by
   rcases D5 j vs.size with h|h
   .exact h
   .rw[Eh (by simpa using h)]at hv
    cases hv
  rw[hc j aj]
  simpa using hv) hu hd (by simpa using hi)
 unfold execOp;simp only[ho,I,hl,Sem.run_bind,Sem.run_pure,Result.andThen_ok]
def qi(l:List In)(h:Vl):Bool:=decide (h.r=true∨(h.n≠0/\iX l h.n=false))
def rR(a:XP × Int × Int)(v:Vl):XP:=
 if a.1.hF=true then a.1 else
 let b:=hM a.1 a.2.1 2
 if qi b.1.jd b.2=true then kA b.1 else
 if b.2.n≠0 then
  let y:=hY (hY b.1 a.2.1 2 default) 1 2 v
  {y with e:={y.e with pc:=b.2.n,r:=jb}}
 else
  let p:=hM b.1 a.2.1 0
  if p.2.r=false then kA p.1 else
  if p.2.n=0 then{p.1 with e:={p.1.e with hT:=2,hO:=true,v:=v,pc:=p.1.jN,r:=p.1.sr}}
  else
   let y:=hY (hY p.1 1 0 p.2) 1 2 v
   {y with e:={y.e with hT:=1,kl:=y.g9,pc:= -1,r:=jb}}
theorem xD(x:XP)(v:Vl):jc x v=rR (hK x) v:=by
 unfold jc rR qi;simp only[EP]
theorem o3(v:Vl)(L:ke b w gx x)(hs:x.p.e.sm 900000):
 Calls prog 117 #[q_ gx,.agg #[.bool v.r,i_ v.n]] w (kE (.tuple #[]) (jc x.p v) b gx w):=by
 have N:=L_ w 38 #[.bool v.r,i_ v.n];have bP:=L.g_ ((D_ [] w).alloc (.cells #[.bool v.r,i_ v.n] 38));have S:=(XG.refl gx w).g_ ((D_ [] w).alloc (.cells #[.bool v.r,i_ v.n] 38))
 have ad:w.heap.size≠gx:=by have:=L.bk.lt;omega
 have i:=lK hs
 go_enter func117,ntmps117
 go_upto_region 1 with fail
 obtain⟨bm,bN⟩:=nm_ (w.alloc (.cells #[.bool v.r,i_ v.n] 38));rw[<-bN]at N bP S |-;clear bN
 go_upto_region 2 with(go_at_call 161;((with_reducible refine(mB b _ gx x bP (F_ hs.rs d_)).mono ?_);unfold ue;rintro e w1⟨bn,rfl,g,bo,hg1⟩;have az:=h_ bo;clear bo;have m:w1.cell? (c_ gx 81)=some (.bool bn.hF):=(g.bk.f_ 81).trans rfl))
 have aq:=N.xg hg1 ad;have aH:=S.trans hg1;clear N bP S hg1;have aD:=h_ (xD x.p v);obtain⟨f,bj⟩:=mn_ ((hK x.p).2.1);rw[bj];have aU:=h_ bj;clear bj;generalize (hK x.p).2.2=bY at*;rw[<-az.out]at i
 cases aT:bn.hF with
 |true=>
  rw[aT]at m;have O:Hid (jc x.p v=bn.p):=h_ (by rw[aD.out,az.out];unfold rR;rw[Q_ (by rw[<-az.out];exact aT)]);clear aT i;go_wp2;refine rn_ ?_;rw[O.out];exact⟨_,rfl,g,rfl,aH⟩
 |false=>
  rw[aT]at m
  have bL:Hid (jc x.p v=(let b:=hM bn.p f 2
   if qi b.1.jd b.2=true then kA b.1 else
   if b.2.n≠0 then
    let y:=hY (hY b.1 f 2 default) 1 2 v
    {y with e:={y.e with pc:=b.2.n,r:=jb}}
   else
    let p:=hM b.1 f 0
    if p.2.r=false then kA p.1 else
    if p.2.n=0 then{p.1 with e:={p.1.e with hT:=2,hO:=true,v:=v,pc:=p.1.jN,r:=p.1.sr}}
    else
     let y:=hY (hY p.1 1 0 p.2) 1 2 v
     {y with e:={y.e with hT:=1,kl:=y.g9,pc:= -1,r:=jb}})):=h_ (by
   rw[aD.out];unfold rR
   rw[P_ (by rw[<-az.out];show ¬bn.hF=true;rw[aT];decide),aU.out,<-az.out])
  clear aT aD az aU;have hn1:bn.e.rs.l.length<=1000000:=F_ i.rs o_;obtain⟨h,aB⟩:=mn_ ((hM bn.p f 2).2);have bK:=h_ aB;clear aB
  go_upto_region 4 with(go_at_call 118;((with_reducible refine(jD b _ gx bn f 2 g hn1).mono ?_);unfold mF;rintro e ai⟨ao,rfl,o,k,F⟩;have t:=h_ k;clear k;rw[bK.out]))
  have aR:=j6 i f 2;have an:=h_ t.out;clear t;rw[<-an.out]at aR
  have bB:Hid (jc x.p v=(if qi ao.jd.l h=true then kA ao.p else
   if h.n≠0 then
    let y:=hY (hY ao.p f 2 default) 1 2 v
    {y with e:={y.e with pc:=h.n,r:=jb}}
   else
    let p:=hM ao.p f 0
    if p.2.r=false then kA p.1 else
    if p.2.n=0 then{p.1 with e:={p.1.e with hT:=2,hO:=true,v:=v,pc:=p.1.jN,r:=p.1.sr}}
    else
     let y:=hY (hY p.1 1 0 p.2) 1 2 v
     {y with e:={y.e with hT:=1,kl:=y.g9,pc:= -1,r:=jb}})):=h_ (by
   rw[bL.out];simp only[bK.out];rw[<-an.out]
   rfl)
  clear bL an bK;have B:=o.g_ ((D_ [] ai).alloc (.cells #[.bool h.r,i_ h.n] 38));have z:=L_ ai 38 #[.bool h.r,i_ h.n]
  have aj:ai.heap.size≠gx:=by have:=o.bk.lt;omega
  replace aq:=(aq.xg F ad).alloc (.cells #[.bool h.r,i_ h.n] 38);replace aH:=(aH.trans F).g_ ((D_ [] ai).alloc (.cells #[.bool h.r,i_ h.n] 38));obtain⟨aJ,a2⟩:=nm_ (ai.alloc (.cells #[.bool h.r,i_ h.n] 38));rw[<-a2]at B z aq aH |-;clear a2;clear o F g m;generalize ai.heap.size=aW at*
  go_cut [36] (λy a7=>y=.bool (qi ao.jd.l h)/\Gr [] aJ a7)
  case first=>
   have aI:∀y:GW aJ,y.1.cell? (c_ aW 0)=some (.bool h.r):=z.yM 0;have c1:∀y:GW aJ,y.1.cell? (c_ aW 1)=some (i_ h.n):=z.yM 1
   have e0:∀y:GW aJ,y.1.cell? (c_ gx 0)=some (.slice ao.jd.A ao.jd.l.length ao.jd.c):=λy=>(B.bk.yM 0 y).trans rfl
   have aP:∀y:GW aJ,y.1.cell? (c_ gx 1)=some (i_ ao.hq):=λy=>(B.bk.yM 1 y).trans rfl
   have aL:∀y:GW aJ,y.1.cell? (c_ gx 2)=some (i_ ao.g9):=λy=>(B.bk.yM 2 y).trans rfl
   cases d:h.r with
   |true=>
    have aY:=h_ (show qi ao.jd.l h=true by unfold qi;simp[d]);rw[d]at aI;clear d;exact KU
   |false=>
    rw[d]at aI
    by_cases hz:h.n=0
    .have aY:=h_ (show qi ao.jd.l h=false by unfold qi;simp[d,hz])
     have q:(h.n !=0)=false:=by simpa using hz
     clear d hz;exact KU
    .have q:(h.n !=0)=true:=by simpa using hz
     cases Y:iX ao.jd.l h.n with
     |true=>
      have aY:=h_ (show qi ao.jd.l h=false by unfold qi;simp[d,Y])
      have O:Hid (∀y:GW aJ,Calls prog 162 #[.agg #[.slice ao.jd.A ao.jd.l.length ao.jd.c,i_ ao.hq,i_ ao.g9],i_ h.n] y.1 (λe w''=>e=.returned (.bool true)/\Gr [] y.1 w'')):=h_ λy=>by have q:=oH ao.jd.A ao.jd.c ao.jd.l ao.hq ao.g9 h.n y.1 (B.g_ y.2).CM B.il;rw[Y]at q;exact q
      exact HH
     |false=>
      have aY:=h_ (show qi ao.jd.l h=true by unfold qi;simp[d,hz,Y])
      have O:Hid (∀y:GW aJ,Calls prog 162 #[.agg #[.slice ao.jd.A ao.jd.l.length ao.jd.c,i_ ao.hq,i_ ao.g9],i_ h.n] y.1 (λe w''=>e=.returned (.bool false)/\Gr [] y.1 w'')):=h_ λy=>by have q:=oH ao.jd.A ao.jd.c ao.jd.l ao.hq ao.g9 h.n y.1 (B.g_ y.2).CM B.il;rw[Y]at q;exact q
      exact HH
  case rest=>
   obtain⟨rfl,aM⟩:=hcut;replace B:=B.g_ aM;replace z:=z.g_ aM;replace aq:=aq.g_ aM;replace aH:=aH.g_ aM;clear aM
   cases bp:qi ao.jd.l h with
   |true=>
    have O:Hid (jc x.p v=({ao with hF:=true}:X1).p):=h_ (by rw[bB.out,Q_ bp];rfl);clear bp bB;have m:wc.cell? (c_ gx 81)=some (.bool ao.hF):=(B.bk.f_ 81).trans rfl;have U:=B.bk.hm 81;go_wp2;have bg:=B.set (x':={ao with hF:=true}) 81 (.bool true) rfl rfl rfl rfl rfl rfl rfl rfl;exact Ld
   |false=>
    rw[bp]at bB
    by_cases hz:h.n=0
    .have O:Hid (jc x.p v=(let p:=hM ao.p f 0
      if p.2.r=false then kA p.1 else
      if p.2.n=0 then{p.1 with e:={p.1.e with hT:=2,hO:=true,v:=v,pc:=p.1.jN,r:=p.1.sr}}
      else
       let y:=hY (hY p.1 1 0 p.2) 1 2 v
       {y with e:={y.e with hT:=1,kl:=y.g9,pc:= -1,r:=jb}})):=h_ (by rw[bB.out,P_ d_,P_ (by simp[hz])])
     have q:(h.n !=0)=false:=by simpa using hz
     clear bp bB hz;have ah:=z.f_ 1;have bX:ao.e.rs.l.length<=1000000:=F_ aR.rs o_;obtain⟨p,hp⟩:=mn_ ((hM ao.p f 0).2);have u:=h_ hp;clear hp
     go_upto_region 11 with(go_at_call 118;((with_reducible refine(jD b _ gx ao f 0 B bX).mono ?_);unfold mF;rintro e aG⟨ar,rfl,o,k,F⟩;have t:=h_ k;clear k;rw[u.out]))
     have l:Hid (jc x.p v=(if p.r=false then kA ar.p else
      if p.n=0 then{ar.p with e:={ar.p.e with hT:=2,hO:=true,v:=v,pc:=ar.p.jN,r:=ar.p.sr}}
      else
       let y:=hY (hY ar.p 1 0 p) 1 2 v
       {y with e:={y.e with hT:=1,kl:=y.g9,pc:= -1,r:=jb}})):=h_ (by
      rw[O.out];simp only[u.out]
      rw[<-t.out])
     have R:=j6 aR f 0;rw[<-t.out]at R;clear O t u ah
     have b8:aG.heap.size≠gx:=by have:=o.bk.lt;omega
     have aK:=o.g_ ((D_ [] aG).alloc (.cells #[.bool p.r,i_ p.n] 38));have hP:=L_ aG 38 #[.bool p.r,i_ p.n];replace aq:=(aq.xg F ad).alloc (.cells #[.bool p.r,i_ p.n] 38);replace aH:=(aH.trans F).g_ ((D_ [] aG).alloc (.cells #[.bool p.r,i_ p.n] 38));obtain⟨Q,bH⟩:=nm_ (aG.alloc (.cells #[.bool p.r,i_ p.n] 38));rw[<-bH]at aK hP aq aH |-;clear bH;clear o F B z;generalize aG.heap.size=bz at*
     cases k:p.r with
     |false=>
      have O:Hid (jc x.p v=({ar with hF:=true}:X1).p):=h_ (by rw[l.out,Q_ k];rfl);rw[k]at hP;clear l k;have Z:=hP.f_ 0
      go_upto_region 12 with fail
      have m:Q.cell? (c_ gx 81)=some (.bool ar.hF):=(aK.bk.f_ 81).trans rfl;have U:=aK.bk.hm 81;go_wp2;have bg:=aK.set (x':={ar with hF:=true}) 81 (.bool true) rfl rfl rfl rfl rfl rfl rfl rfl;exact Ld
     |true=>
      rw[k]at l hP
      by_cases hz:p.n=0
      .have O:Hid (jc x.p v={ar.p with e:={ar.p.e with hT:=2,hO:=true,v:=v,pc:=ar.p.jN,r:=ar.p.sr}}):=h_ (by rw[l.out,P_ d_,Q_ hz])
       have bI:(p.n==0)=true:=by simpa using hz
       clear l hz k;have Z:=hP.f_ 0;have ah:=hP.f_ 1
       go_upto_region 14 with fail
       clear Z ah hP;have s:=aK.bk.drew;have T:=aq.drew;refine hC (λw'=>(∀j,j<33->w'.cell? (c_ gx (3+j))=(iz ar.jN ar.sr)[j]?)/\w'.cell? (c_ w.heap.size 0)=some (.bool v.r)/\w'.cell? (c_ w.heap.size 1)=some (i_ v.n)) 25 k_ ?_
       refine nc ⟨λj hj=>by rw[s.f_];exact l6 ar j hj,T.f_ 0,T.f_ 1⟩ λC=>?_
       refine ih 0 C ?_;refine ih 1 C ?_;refine ih 2 C ?_;refine ih 3 C ?_;refine ih 4 C ?_;refine ih 5 C ?_;refine ih 6 C ?_;refine ih 7 C ?_;refine ih 8 (v:=.agg (iz ar.jN ar.sr)) C ?_ (hy:=(Or.inl ⟨by rfl,λw' bA=>lB 49 _ rfl gx 3 r_ _ (λj hj=>bA.1 j hj) _ underlying49 rfl k_⟩));refine ih 9 C ?_;refine ih 10 C ?_;refine ih 11 C ?_;have bU:=s.f_ 38;have bE:=s.hm 38
       refine hQ 12 λK H=>?_
       go_simp;have aX:Bk ((Q.setCell (c_ gx 38) (i_ 2)).drew) gx 186 ({ar with e:={ar.e with hT:=2}}:X1).g8:=(aK.bk).hJ 38 (i_ 2);have bC:Bk ((Q.setCell (c_ gx 38) (i_ 2)).drew) w.heap.size 38 #[.bool v.r,i_ v.n]:=(aq).h7 (p:=(c_ gx 38)) ad (i_ 2);have aE:Gr [gx] Q ((Q.setCell (c_ gx 38) (i_ 2)).drew):=Gr.drew <| ((D_ [gx] Q)).setCell (p:=(c_ gx 38)) (.inl s_) (i_ 2);obtain⟨J,bM⟩:=nm_ ((Q.setCell (c_ gx 38) (i_ 2)).drew);rw[<-bM]at aX bC aE |-;clear bM C
       refine hS H ⟨λj hj=>by rw[aX.f_];exact l6 ({ar with e:={ar.e with hT:=2}}:X1) j hj,bC.f_ 0,bC.f_ 1⟩ λC=>?_
       clear H K;clear bU bE;refine ih 13 C ?_;refine ih 14 C ?_;refine ih 15 C ?_;have aC:=aX.f_ 78;have aw:=aX.hm 78
       refine hQ 16 λK H=>?_
       go_simp;have br:Bk (J.setCell (c_ gx 78) (.bool true)) gx 186 ({ar with e:={ar.e with hT:=2,hO:=true}}:X1).g8:=(aX).hJ 78 (.bool true);have bD:Bk (J.setCell (c_ gx 78) (.bool true)) w.heap.size 38 #[.bool v.r,i_ v.n]:=(bC).h7 (p:=(c_ gx 78)) ad (.bool true);have a8:Gr [gx] Q (J.setCell (c_ gx 78) (.bool true)):=(aE).setCell (p:=(c_ gx 78)) (.inl s_) (.bool true);obtain⟨bt,bR⟩:=nm_ (J.setCell (c_ gx 78) (.bool true));rw[<-bR]at br bD a8 |-;clear bR C
       refine hS H ⟨λj hj=>by rw[br.f_];exact l6 ({ar with e:={ar.e with hT:=2,hO:=true}}:X1) j hj,bD.f_ 0,bD.f_ 1⟩ λC=>?_
       clear H K;clear aC aw;refine ih 17 C ?_;refine ih 18 C ?_;refine ih 19 C ?_;have b4:bt.cell? (c_ gx 79)=some (.bool ar.e.v.r):=(br.f_ 79).trans rfl;have b6:bt.cell? (c_ gx 80)=some (i_ ar.e.v.n):=(br.f_ 80).trans rfl;have bV:=br.hm 79;have b3:=br.hm 80
       refine hQ 20 λK H=>?_
       go_simp;have cY:Bk ((bt.setCell (c_ gx 79) (.bool v.r)).setCell (c_ gx 80) (i_ v.n)) gx 186 ({ar with e:={ar.e with hT:=2,hO:=true,v:=v}}:X1).g8:=((br).hJ 79 (.bool v.r)).hJ 80 (i_ v.n);have D:Bk ((bt.setCell (c_ gx 79) (.bool v.r)).setCell (c_ gx 80) (i_ v.n)) w.heap.size 38 #[.bool v.r,i_ v.n]:=((bD).h7 (p:=(c_ gx 79)) ad (.bool v.r)).h7 (p:=(c_ gx 80)) ad (i_ v.n);have am:Gr [gx] Q ((bt.setCell (c_ gx 79) (.bool v.r)).setCell (c_ gx 80) (i_ v.n)):=((a8).setCell (p:=(c_ gx 79)) (.inl s_) (.bool v.r)).setCell (p:=(c_ gx 80)) (.inl s_) (i_ v.n);obtain⟨aS,V⟩:=nm_ ((bt.setCell (c_ gx 79) (.bool v.r)).setCell (c_ gx 80) (i_ v.n));rw[<-V]at cY D am |-;clear V C
       refine hS H ⟨λj hj=>by rw[cY.f_];exact l6 ({ar with e:={ar.e with hT:=2,hO:=true,v:=v}}:X1) j hj,D.f_ 0,D.f_ 1⟩ λC=>?_
       clear H K;clear b4 bV b6 b3;refine ih 21 C ?_;refine ih 22 C ?_;refine ih 23 C ?_
       refine hQ 24 λK H=>?_
       rw[Q_ r_];refine jq 49 _ _ rfl gx 39 r_ (iz ar.jN ar.sr) r_ 186 _ cY (by show 39+33<=82;decide) k_ (nP _ _) ?_;intro ag aN G;rw[mY]at aN;have bu:=D.gr G (by simpa using ad);clear C
       refine hS H ⟨λj hj=>by rw[aN.f_];exact l6 ({({ar with e:={ar.e with hT:=2,hO:=true,v:=v}}:X1)with e:={(({ar with e:={ar.e with hT:=2,hO:=true,v:=v}}:X1)).e with pc:=ar.jN,r:=ar.sr}}:X1) j hj,bu.f_ 0,bu.f_ 1⟩ λC=>?_
       clear H K;refine hA k_ ?_ _;go_wp2;refine rn_ ?_;rw[O.out];exact⟨_,rfl,aK.rI (am.trans G) aN rfl rfl rfl rfl rfl rfl rfl,rfl,aH.ig (am.trans G)⟩
      .have bf:¬p.n=0:=hz
       have O:Hid (jc x.p v=(let y:=hY (hY ar.p 1 0 p) 1 2 v
        {y with e:={y.e with hT:=1,kl:=y.g9,pc:= -1,r:=jb}})):=h_ (by rw[l.out,P_ d_,P_ hz])
       have bI:(p.n==0)=false:=by simpa using hz
       clear l hz bf;have Z:=hP.f_ 0;have ah:=hP.f_ 1;have ax:ar.e.ws.l.length<=1000000:=F_ R.ws o_;have ay:=h_ (show p=⟨true,p.n⟩ by cases p;simp only at k;subst k;rfl);clear k
       go_upto_region 16 with(go_at_call 163;((with_reducible refine(jT b _ gx ar 1 0 ⟨true,p.n⟩ aK ax).mono ?_);unfold kE;rintro e ae⟨bQ,rfl,au,aO,bq⟩;have M:=h_ aO;clear aO))
       have X:=h_ M.out;clear M;have aZ:=au;have be:=aH.trans bq;have bG:=aq.xg bq ad
       have dk:bQ.e.ws.l.length<=1000000:=by
        have e:bQ.e.ws.l=ar.e.ws.l++[⟨1,0,⟨true,p.n⟩⟩]:=D9 (λp:XP=>p.e.ws) X.out;rw[e,H_]
        have:=R.ws
        have aL:ar.p.e.ws.length=ar.e.ws.l.length:=rfl;simp only[D3,EB];omega
       clear au bq Z ah;have Z:=bG.f_ 0;have ah:=bG.f_ 1
       go_upto_region 17 with(go_at_call 163;((with_reducible refine(jT b _ gx bQ 1 2 v aZ dk).mono ?_);unfold kE;rintro e aF⟨bl,rfl,au,aO,bq⟩;have M:=h_ aO;clear aO))
       have bw:=h_ M.out;clear M;have bi:=au;have aQ:=be.trans bq;clear au bq Z ah
       have ak:Hid (jc x.p v=({bl with e:={bl.e with hT:=1,kl:=bl.g9,pc:= -1,r:=jb}}:X1).p):=h_ (by
        rw[O.out,ay.out]
        have E:hY (hY ar.p 1 0 ⟨true,p.n⟩) 1 2 v=bl.p:=by rw[bw.out,X.out]
        exact D9 (λy:XP=>({y with e:={y.e with hT:=1,kl:=y.g9,pc:= -1,r:=jb}}:XP)) E)
       have P:aF.cell? (c_ gx 2)=some (i_ bl.g9):=(bi.bk.f_ 2).trans rfl;have bW:aF.cell? (c_ gx 38)=some (i_ bl.e.hT):=(bi.bk.f_ 38).trans rfl;have aV:aF.cell? (c_ gx 77)=some (i_ bl.e.kl):=(bi.bk.f_ 77).trans rfl;have bE:=bi.bk.hm 38;have av:=bi.bk.hm 77;have bv:Bk ((aF.setCell (c_ gx 38) (i_ 1)).setCell (c_ gx 77) (i_ bl.g9)) gx 186 ({bl with e:={bl.e with hT:=1,kl:=bl.g9}}:X1).g8:=(bi.bk.hJ 38 (i_ 1)).hJ 77 (i_ bl.g9);have ap:=((D_ [gx] aF).setCell (p:=(c_ gx 38)) (.inl s_) (i_ 1)).setCell (p:=(c_ gx 77)) (.inl s_) (i_ bl.g9)
       go_wp2_with (refine i0 rfl 49 _ _ rfl gx 39 r_ (iz (-1) jb) r_ 186 _ bv (by show 39+33<=82;decide) k_ (nP _ _) ?_;intro ag aN G)
       rw[mY]at aN;refine en_ ?_;rw[ak.out];exact⟨_,rfl,bi.rI (ap.trans G) aN rfl rfl rfl rfl rfl rfl rfl,rfl,aQ.ig (ap.trans G)⟩
    .have O:Hid (jc x.p v=(let y:=hY (hY ao.p f 2 default) 1 2 v
      {y with e:={y.e with pc:=h.n,r:=jb}})):=h_ (by rw[bB.out,P_ d_,Q_ hz])
     have q:(h.n !=0)=true:=by simpa using hz
     clear bp bB hz;have a:ao.e.ws.l.length<=1000000:=F_ aR.ws o_;have ah:=z.f_ 1
     go_upto_region 8 with(go_at_call 163;((with_reducible refine(jT b _ gx ao f 2 ⟨false,0⟩ B a).mono ?_);unfold kE;rintro e ae⟨bQ,rfl,au,aO,bq⟩;have M:=h_ aO;clear aO))
     have X:=h_ M.out;clear M;have aZ:=au;have be:=aH.trans bq;have bG:=aq.xg bq ad;have n:=z.xg bq aj
     have dk:bQ.e.ws.l.length<=1000000:=by
      have e:bQ.e.ws.l=ao.e.ws.l++[⟨f,2,⟨false,0⟩⟩]:=D9 (λp:XP=>p.e.ws) X.out;rw[e,H_]
      have:=aR.ws
      have aL:ao.p.e.ws.length=ao.e.ws.l.length:=rfl;simp only[D3,EB];omega
     clear au bq ah;have Z:=bG.f_ 0;have ah:=bG.f_ 1
     go_upto_region 9 with(go_at_call 163;((with_reducible refine(jT b _ gx bQ 1 2 v aZ dk).mono ?_);unfold kE;rintro e aF⟨bl,rfl,au,aO,bq⟩;have M:=h_ aO;clear aO))
     have bw:=h_ M.out;clear M;have bi:=au;have aQ:=be.trans bq;have I:=n.xg bq aj;clear au bq Z ah;have ah:=I.f_ 1
     have ak:Hid (jc x.p v=({bl with e:={bl.e with pc:=h.n,r:=jb}}:X1).p):=h_ (by
      rw[O.out]
      have E:hY (hY ao.p f 2 default) 1 2 v=bl.p:=by rw[bw.out,X.out];rfl
      exact D9 (λy:XP=>({y with e:={y.e with pc:=h.n,r:=jb}}:XP)) E)
     go_wp2_with (refine i0 rfl 49 _ _ rfl gx 39 r_ (iz (h.n) jb) r_ 186 _ bi.bk (by show 39+33<=82;decide) k_ (nP _ _) ?_;intro ag aN G)
     rw[mY]at aN;refine rn_ ?_;rw[ak.out];exact⟨_,rfl,bi.rI G aN rfl rfl rfl rfl rfl rfl rfl,rfl,aQ.ig G⟩
theorem kK(n:Int)(L:ke b w gx x)(hs:x.p.e.sm 900000):
 Calls prog 165 #[q_ gx,i_ n] w (kE (.tuple #[]) (i9 x.p n) b gx w):=by
 go_enter func165,ntmps165
 go_wp2_with (go_at_call 117;((with_reducible refine(o3 b _ gx x ⟨false,n⟩ L hs).mono ?_);unfold kE;rintro e ag⟨ax,rfl,F,ae,G⟩;have aI:=h_ ae;clear ae))
 refine en_ ?_;exact⟨ax,rfl,F,aI.out,G⟩
def vN(P:XP × Int × Int × Bool)(b:World)(gx:Nat)(w:World)(e:Ending)(w':World):Prop:=∃x':X1,e=.returned (.tuple #[i_ P.2.1,i_ P.2.2.1,.bool P.2.2.2])/\ke b w' gx x'/\x'.p=P.1/\XG gx w w'
def An(P:XP × Int × Bool)(b:World)(gx:Nat)(w:World)(e:Ending)(w':World):Prop:=∃x':X1,e=.returned (.tuple #[i_ P.2.1,.bool P.2.2])/\ke b w' gx x'/\x'.p=P.1/\XG gx w w'
def w3(a:XP × Int × Int)(n:Int):XP × Int × Int × Bool:=
 if a.1.hF=true then(a.1,0,0,false) else
 if a.2.2<=3+n then(i9 a.1 (-1),0,0,false) else(a.1,a.2.1,3+n,true)
theorem Ax(x:XP)(n:Int):ht x n=w3 (hK x) n:=rfl
theorem xH(x:XP):0<=(hK x).2.2:=by
 unfold hK;simp only;split
 .exact Ev _
 .show 0<=iv _ _
  unfold iv;split<;>omega
theorem lQ(n:Int)(L:ke b w gx x)(hs:x.p.e.sm 800000)(h0:0<=n)(h1:n<=1000000):
 Calls prog 167 #[q_ gx,i_ n] w (vN (ht x.p n) b gx w):=by
 have i:=lK hs;have au:=xH x.p
 go_enter func167,ntmps167
 go_upto_region 2 with(go_at_call 161;((with_reducible refine(mB b _ gx x L (F_ hs.rs d_)).mono ?_);unfold ue;rintro e w1⟨bn,rfl,g,bo,hg1⟩;have az:=h_ bo;clear bo;have m:w1.cell? (c_ gx 81)=some (.bool bn.hF):=(g.bk.f_ 81).trans rfl))
 have aD:=h_ (Ax x.p n);obtain⟨f,bj⟩:=mn_ ((hK x.p).2.1);rw[bj];obtain⟨bY,H⟩:=mn_ ((hK x.p).2.2);rw[H]at au |-;have a:=h_ H;have aU:=h_ bj;clear bj H;rw[<-az.out]at i
 cases aT:bn.hF with
 |true=>
  rw[aT]at m;have O:Hid (ht x.p n=(bn.p,0,0,false)):=h_ (by rw[aD.out,az.out];unfold w3;rw[Q_ (by rw[<-az.out];exact aT)]);clear aT i;go_wp2;refine D8 (v:=.tuple #[i_ 0,i_ 0,.bool false]) (results_tmp3 (t:=4) (u:=5) (v:=6) rfl _ _ _) rfl ?_;rw[O.out];exact⟨_,rfl,g,rfl,hg1⟩
 |false=>
  rw[aT]at m
  by_cases d:bY<=3+n
  .have O:Hid (ht x.p n=(i9 bn.p (-1),0,0,false)):=h_ (by
    rw[aD.out,az.out];unfold w3
    rw[P_ (by rw[<-az.out];show ¬bn.hF=true;rw[aT];decide),Q_ (by rw[a.out];exact d)])
   have q:(bY<=3+n)=True:=by simp[d]
   have cp:bn.p.e.sm 900000:=i.mono o_;clear aT i d
   go_wp2_with (go_at_call 165;((with_reducible refine(kK b _ gx bn (-1) g cp).mono ?_);unfold kE;rintro e ag⟨ax,rfl,F,ae,G⟩;have aI:=h_ ae;clear ae))
   refine D8 (v:=.tuple #[i_ 0,i_ 0,.bool false]) (results_tmp3 (t:=4) (u:=5) (v:=6) rfl _ _ _) rfl ?_;rw[O.out];exact⟨ax,rfl,F,aI.out,hg1.trans G⟩
  .have O:Hid (ht x.p n=(bn.p,f,3+n,true)):=h_ (by
    rw[aD.out,az.out];unfold w3
    rw[P_ (by rw[<-az.out];show ¬bn.hF=true;rw[aT];decide),P_ (by rw[a.out];exact d),aU.out])
   have q:(bY<=3+n)=False:=by simp[d]
   clear aT i d;go_wp2;refine D8 (v:=.tuple #[i_ f,i_ (3+n),.bool true]) (results_tmp3 (t:=4) (u:=5) (v:=6) rfl _ _ _) rfl ?_;rw[O.out];exact⟨bn,rfl,g,rfl,hg1⟩
theorem qw(P:X1)(v:Vl)(fl:Int)(L:ke b w gx P)(hs:P.p.e.sm 800000):
 Calls prog 168 #[q_ gx,.agg #[.bool v.r,i_ v.n],i_ fl] w (An (ik P.p v fl) b gx w):=by
 have B:=L.g_ ((D_ [] w).alloc (.cells #[.bool v.r,i_ v.n] 38));have i:=L_ w 38 #[.bool v.r,i_ v.n];have aH:=(XG.refl gx w).g_ ((D_ [] w).alloc (.cells #[.bool v.r,i_ v.n] 38));have b9:P.p.e.sm 900000:=hs.mono d_
 have ad:w.heap.size≠gx:=by have:=L.bk.lt;omega
 go_enter func168,ntmps168
 go_upto_region 1 with fail
 obtain⟨aJ,a2⟩:=nm_ (w.alloc (.cells #[.bool v.r,i_ v.n] 38));rw[<-a2]at B i aH |-;clear a2;generalize w.heap.size=ay at*
 cases Y:v.r with
 |false=>
  have O:Hid (ik P.p v fl=(i9 P.p (-2),0,false)):=h_ (by unfold ik;rw[Q_ Y]);rw[Y]at i;clear Y;have Z:=i.f_ 0
  go_wp2_with (go_at_call 165;((with_reducible refine(kK b _ gx P (-2) B b9).mono ?_);unfold kE;rintro e ag⟨ax,rfl,F,ae,G⟩;have aI:=h_ ae;clear ae))
  exact K6
 |true=>
  have c:=h_ Y
  by_cases hz:v.n=0
  .have O:Hid (ik P.p v fl=(i9 P.p (-1),0,false)):=h_ (by unfold ik;rw[P_ (by rw[Y];decide),Q_ hz])
   have q:(v.n==0)=true:=by simpa using hz
   rw[Y]at i;clear Y hz c;have Z:=i.f_ 0;have ah:=i.f_ 1;exact Hq
  .have q:(v.n==0)=false:=by simpa using hz
   have g:Hid (ik P.p v fl=(match jn P.p.h v.n with
    |none=>(kA P.p,0,false)
    |some o=>if(o.fs.length:Int)<=fl then(i9 P.p (-1),0,false) else(P.p,v.n,true))):=h_ (by unfold ik;rw[P_ (by rw[Y];decide),P_ hz];rfl)
   have Z:aJ.cell? (c_ ay 0)=some (.bool true):=(i.f_ 0).trans (by rw[Y];rfl);have ah:=i.f_ 1;clear hz Y
   go_upto_region 7 with fail
   clear Z ah
   cases hg:jn (hN P.h.l) v.n with
   |none=>
    have O:Hid (ik P.p v fl=(({P with hF:=true}:X1).p,0,false)):=h_ (by rw[g.out];have e:jn P.p.h v.n=none:=hg;rw[e];rfl);clear g
    go_cut [8,9] (λp o a7=>∃(z:Nat) (aR:Option Addr) (c4:Nat),p=q_ z/\o=.bool false/\Bk a7 z 56 #[i_ 0,.slice aR 0 c4]/\Gr [] aJ a7)
    case first=>
     have ap:Gr [] aJ aJ.drew:=(D_ [] aJ).drew;refine hC (λw'=>w'.cell? (c_ gx 36)=some (.slice P.h.A P.h.l.length P.h.c)/\w'.cell? (c_ ay 0)=some (.bool v.r)/\w'.cell? (c_ ay 1)=some (i_ v.n)) 13 k_ ?_
     refine nc ⟨((B.bk.g_ ap).f_ 36).trans rfl,(i.g_ ap).f_ 0,(i.g_ ap).f_ 1⟩ λC=>?_
     (iterate 6 refine jR C ?_)
     refine i6 6 10 rfl rfl k_ (λK H=>?_) (λK H=>?_)
     .go_simp
      (go_at_call 14;((with_reducible refine(get_none P.h.A P.h.c P.h.l v.n _ (B.g_ ap).kb.os B.hl hg).mono ?_);rintro e T⟨rfl,af⟩))
      clear C
      refine hS H ⟨((B.bk.g_ (ap.trans af)).f_ 36).trans rfl,(i.g_ (ap.trans af)).f_ 0,(i.g_ (ap.trans af)).f_ 1⟩ λC=>?_
      clear H K
      iterate 3 refine jR C ?_
      exact Gv
     .go_simp;have l:Bk ((aJ.alloc (.cells #[i_ 0,n_] 56)).drew) aJ.heap.size 56 #[i_ 0,n_]:=(L_ aJ 56 #[i_ 0,n_]).drew;have aE:Gr [] aJ ((aJ.alloc (.cells #[i_ 0,n_] 56)).drew):=((D_ [] aJ).alloc _).drew;clear C
      refine hS H ⟨((B.bk.g_ aE).f_ 36).trans rfl,(i.g_ aE).f_ 0,(i.g_ aE).f_ 1⟩ λC=>?_
      clear H K
      refine hQ 6 λK H=>?_
      go_simp
      (go_at_call 14;((with_reducible refine(get_none P.h.A P.h.c P.h.l v.n _ (B.g_ aE).kb.os B.hl hg).mono ?_);rintro e T⟨rfl,af⟩))
      have am:=aE.trans af;clear C;have C:T.cell? (c_ gx 36)=some (.slice P.h.A P.h.l.length P.h.c)/\T.cell? (c_ ay 0)=some (.bool v.r)/\T.cell? (c_ ay 1)=some (i_ v.n):=⟨((B.bk.g_ am).f_ 36).trans rfl,(i.g_ am).f_ 0,(i.g_ am).f_ 1⟩;have av:=l.g_ af;have Z:=av.f_ 0;have ah:=av.f_ 1;have bB:=av.hm 0;have bH:=av.hm 1
      refine hS H C λC=>?_
      clear H K
      iterate 3 refine jR C ?_
      refine hQ 11 λK H=>?_
      go_simp;have Bz:aJ.heap.size<=aJ.heap.size:=G_ _;exact GZ
    case rest=>
     obtain⟨z,aR,c4,rfl,rfl,av,aM⟩:=hcut;replace B:=B.g_ aM;replace i:=i.g_ aM;replace aH:=aH.g_ aM;clear aM;have m:wc.cell? (c_ gx 81)=some (.bool P.hF):=(B.bk.f_ 81).trans rfl;have U:=B.bk.hm 81;go_wp2;have bg:=B.set (x':={P with hF:=true}) 81 (.bool true) rfl rfl rfl rfl rfl rfl rfl rfl;refine D8 (v:=.tuple #[i_ 0,.bool false]) (F4 (t:=6) (u:=7) rfl _ _ _) rfl ?_;exact J1
   |some a=>
    have x:Hid (ik P.p v fl=if(a.fs.length:Int)<=fl then(i9 P.p (-1),0,false) else(P.p,v.n,true)):=h_ (by rw[g.out];have e:jn P.p.h v.n=some a:=hg;rw[e]);clear g
    go_cut [8,9] (λp o a7=>∃(z:Nat) (aR:Option Addr) (c4:Nat),p=q_ z/\o=.bool true/\Bk a7 z 56 #[i_ a.id,.slice aR a.fs.length c4]/\Gr [] aJ a7)
    case first=>
     have ap:Gr [] aJ aJ.drew:=(D_ [] aJ).drew;refine hC (λw'=>w'.cell? (c_ gx 36)=some (.slice P.h.A P.h.l.length P.h.c)/\w'.cell? (c_ ay 0)=some (.bool v.r)/\w'.cell? (c_ ay 1)=some (i_ v.n)) 13 k_ ?_
     refine nc ⟨((B.bk.g_ ap).f_ 36).trans rfl,(i.g_ ap).f_ 0,(i.g_ ap).f_ 1⟩ λC=>?_
     (iterate 6 refine jR C ?_)
     refine i6 6 10 rfl rfl k_ (λK H=>?_) (λK H=>?_)
     .go_simp
      (go_at_call 14;((with_reducible refine(get_some P.h.A P.h.c P.h.l v.n a _ (B.g_ ap).kb.os (B.g_ ap).kb.la B.hl hg).mono ?_);rintro e T⟨aR,c4,rfl,J,af⟩))
      clear C
      refine hS H ⟨((B.bk.g_ (ap.trans af)).f_ 36).trans rfl,(i.g_ (ap.trans af)).f_ 0,(i.g_ (ap.trans af)).f_ 1⟩ λC=>?_
      clear H K
      iterate 3 refine jR C ?_
      refine hQ 10 λK H=>?_
      go_simp;have av:=L_ T 56 #[i_ 0,n_];have aE:Gr [] aJ (T.alloc (.cells #[i_ 0,n_] 56)):=(ap.trans af).alloc _;clear C;have C:(T.alloc (.cells #[i_ 0,n_] 56)).cell? (c_ gx 36)=some (.slice P.h.A P.h.l.length P.h.c)/\(T.alloc (.cells #[i_ 0,n_] 56)).cell? (c_ ay 0)=some (.bool v.r)/\(T.alloc (.cells #[i_ 0,n_] 56)).cell? (c_ ay 1)=some (i_ v.n):=⟨((B.bk.g_ aE).f_ 36).trans rfl,(i.g_ aE).f_ 0,(i.g_ aE).f_ 1⟩;have Z:=av.f_ 0;have ah:=av.f_ 1;have bB:=av.hm 0;have bH:=av.hm 1;exact G0
     .go_simp;have l:Bk ((aJ.alloc (.cells #[i_ 0,n_] 56)).drew) aJ.heap.size 56 #[i_ 0,n_]:=(L_ aJ 56 #[i_ 0,n_]).drew;have aE:Gr [] aJ ((aJ.alloc (.cells #[i_ 0,n_] 56)).drew):=((D_ [] aJ).alloc _).drew;clear C
      refine hS H ⟨((B.bk.g_ aE).f_ 36).trans rfl,(i.g_ aE).f_ 0,(i.g_ aE).f_ 1⟩ λC=>?_
      clear H K
      refine hQ 6 λK H=>?_
      go_simp
      (go_at_call 14;((with_reducible refine(get_some P.h.A P.h.c P.h.l v.n a _ (B.g_ aE).kb.os (B.g_ aE).kb.la B.hl hg).mono ?_);rintro e T⟨aR,c4,rfl,J,af⟩))
      have am:=aE.trans af;clear C;have C:T.cell? (c_ gx 36)=some (.slice P.h.A P.h.l.length P.h.c)/\T.cell? (c_ ay 0)=some (.bool v.r)/\T.cell? (c_ ay 1)=some (i_ v.n):=⟨((B.bk.g_ am).f_ 36).trans rfl,(i.g_ am).f_ 0,(i.g_ am).f_ 1⟩;have av:=l.g_ af;have Z:=av.f_ 0;have ah:=av.f_ 1;have bB:=av.hm 0;have bH:=av.hm 1
      refine hS H C λC=>?_
      clear H K
      iterate 3 refine jR C ?_
      refine hQ 11 λK H=>?_
      go_simp;have Bz:aJ.heap.size<=aJ.heap.size:=G_ _;exact GR
    case rest=>
     obtain⟨z,aR,c4,rfl,rfl,av,aM⟩:=hcut;replace B:=B.g_ aM;replace i:=i.g_ aM;replace aH:=aH.g_ aM;clear aM;have aS:=av.f_ 1
     by_cases d:(a.fs.length:Int)<=fl
     .have O:Hid (ik P.p v fl=(i9 P.p (-1),0,false)):=h_ (by rw[x.out,Q_ d])
      have bP:((a.fs.length:Int)<=fl)=True:=by simp[d]
      clear d x;exact Hq
     .have O:Hid (ik P.p v fl=(P.p,v.n,true)):=h_ (by rw[x.out,P_ d])
      have bP:((a.fs.length:Int)<=fl)=False:=by simp[d]
      clear d x;have ah:=i.f_ 1;go_wp2;refine D8 (v:=.tuple #[i_ v.n,.bool true]) (F4 (t:=6) (u:=7) rfl _ _ _) rfl ?_;rw[O.out];exact⟨P,rfl,B,rfl,aH⟩
theorem j7:∀a,a<16->x.g8[40+a*2]?=some (.bool (x.e.r a).r)/\x.g8[40+a*2+1]?=some (i_ (x.e.r a).n)
 |0,_=>⟨rfl,rfl⟩
 |1,_=>⟨rfl,rfl⟩
 |2,_=>⟨rfl,rfl⟩
 |3,_=>⟨rfl,rfl⟩
 |4,_=>⟨rfl,rfl⟩
 |5,_=>⟨rfl,rfl⟩
 |6,_=>⟨rfl,rfl⟩
 |7,_=>⟨rfl,rfl⟩
 |8,_=>⟨rfl,rfl⟩
 |9,_=>⟨rfl,rfl⟩
 |10,_=>⟨rfl,rfl⟩
 |11,_=>⟨rfl,rfl⟩
 |12,_=>⟨rfl,rfl⟩
 |13,_=>⟨rfl,rfl⟩
 |14,_=>⟨rfl,rfl⟩
 |15,_=>⟨rfl,rfl⟩
 |n+16,h=>D6 h o_
theorem rX{w:World}{gx k:Nat}{x:X1}(h:Bk w gx 186 x.g8)(ha:k<16):w.cell? (c_ gx (40+k*2))=some (.bool (x.e.r k).r)/\w.cell? (c_ gx (40+k*2+1))=some (i_ (x.e.r k).n):=⟨(h.f_ _).trans (j7 x k ha).1,(h.f_ _).trans (j7 x k ha).2⟩
theorem lh(v:Vl):∀a:Nat,a<16->(x.g8.setIfInBounds (40+a*2) (.bool v.r)).setIfInBounds (40+a*2+1) (i_ v.n)=({x with e:={x.e with r:=pV x.e.r a v}}:X1).g8
 |0,_=>rfl
 |1,_=>rfl
 |2,_=>rfl
 |3,_=>rfl
 |4,_=>rfl
 |5,_=>rfl
 |6,_=>rfl
 |7,_=>rfl
 |8,_=>rfl
 |9,_=>rfl
 |10,_=>rfl
 |11,_=>rfl
 |12,_=>rfl
 |13,_=>rfl
 |14,_=>rfl
 |15,_=>rfl
 |n+16,h=>D6 h o_
def k9(P:XP)(bv:Bool)(b:World)(gx:Nat)(w:World)(e:Ending)(w':World):Prop:=∃x':X1,e=.returned (.bool bv)/\ke b w' gx x'/\x'.p=P/\XG gx w w'
theorem Dj{b w:World}{gx k:Nat}{x:X1}(h:ke b w gx x)(v:Vl)(ha:k<16):Bk ((w.setCell (c_ gx (40+k*2)) (.bool v.r)).setCell (c_ gx (40+k*2+1)) (i_ v.n)).drew gx 186 ({x with e:={x.e with r:=pV x.e.r k v}}:X1).g8/\Gr [gx] w ((w.setCell (c_ gx (40+k*2)) (.bool v.r)).setCell (c_ gx (40+k*2+1)) (i_ v.n)).drew:=
 ⟨by rw[<-lh x v k ha];exact(h.bk.hJ (40+k*2) (.bool v.r)).hJ (40+k*2+1) (i_ v.n),Gr.drew (((D_ [gx] w).setCell (p:=(c_ gx (40+k*2))) (.inl s_) (.bool v.r)).setCell (p:=(c_ gx (40+k*2+1))) (.inl s_) (i_ v.n))⟩
theorem plain_0(n:Int)(L:ke b w gx x):
 Calls prog 119 #[q_ gx,.agg #[i_ 0,i_ ap,i_ X,i_ c,i_ n]] w (k9 x.p true b gx w):=by
 obtain⟨R,a,I,A,g,N,aH,t⟩:=rJ L #[i_ 0,i_ ap,i_ X,i_ c,i_ n]
 go_enter func119,ntmps119
 go_upto_region 1 with fail
 clear I A;have Z:=N.f_ 0;exact Ln
theorem plain_1(n:Int)(L:ke b w gx x)(ha:E<16):
 Calls prog 119 #[q_ gx,.agg #[i_ 1,i_ (E:Int),i_ X,i_ c,i_ n]] w (k9 (kL x.p E ⟨false,n⟩) true b gx w):=by
 obtain⟨R,a,I,A,g,N,aH,t⟩:=rJ L #[i_ 1,i_ (E:Int),i_ X,i_ c,i_ n]
 go_enter func119,ntmps119
 go_upto_region 1 with fail
 clear I A;have Z:=N.f_ 0
 go_upto_region 6 with fail
 clear Z;refine hC (λw'=>w'.cell? (c_ a 0)=some (i_ 1)/\w'.cell? (c_ a 1)=some (i_ (E:Int))/\w'.cell? (c_ a 2)=some (i_ X)/\w'.cell? (c_ a 3)=some (i_ c)/\w'.cell? (c_ a 4)=some (i_ n)) 9 k_ ?_;have C:R.drew.cell? (c_ a 0)=some (i_ 1)/\R.drew.cell? (c_ a 1)=some (i_ (E:Int))/\R.drew.cell? (c_ a 2)=some (i_ X)/\R.drew.cell? (c_ a 3)=some (i_ c)/\R.drew.cell? (c_ a 4)=some (i_ n):=N.drew.c5
 have e0:(0:Int)<=(E:Int):=by omega
 have aP:(E:Int)<16:=by omega
 (iterate 8 refine jR C ?_)
 have s:=g.bk;have bM:R.cell? (c_ gx (40+E*2))=some (.bool (x.e.r E).r):=(s.f_ _).trans (j7 x E ha).1;have bp:R.cell? (c_ gx (40+E*2+1))=some (i_ (x.e.r E).n):=(s.f_ _).trans (j7 x E ha).2;have bB:=s.hm (40+E*2);have bH:=s.hm (40+E*2+1)
 refine hQ 8 λK H=>?_
 go_simp;have j:Bk ((R.setCell (c_ gx (40+E*2)) (.bool false)).setCell (c_ gx (40+E*2+1)) (i_ n)).drew a 189 #[i_ 1,i_ (E:Int),i_ X,i_ c,i_ n]:=(N.h7 (p:=(c_ gx (40+E*2))) t (.bool false)).h7 (p:=(c_ gx (40+E*2+1))) t (i_ n);obtain⟨a2,M⟩:=Dj g ⟨false,n⟩ ha;exact K3
theorem plain_2(n:Int)(L:ke b w gx x)(ha:E<16):
 Calls prog 119 #[q_ gx,.agg #[i_ 2,i_ (E:Int),i_ X,i_ c,i_ n]] w (k9 (kL x.p E ⟨true,0⟩) true b gx w):=by
 obtain⟨R,a,I,A,g,N,aH,t⟩:=rJ L #[i_ 2,i_ (E:Int),i_ X,i_ c,i_ n]
 go_enter func119,ntmps119
 go_upto_region 1 with fail
 clear I A;have Z:=N.f_ 0
 go_upto_region 8 with fail
 clear Z;refine hC (λw'=>w'.cell? (c_ a 0)=some (i_ 2)/\w'.cell? (c_ a 1)=some (i_ (E:Int))/\w'.cell? (c_ a 2)=some (i_ X)/\w'.cell? (c_ a 3)=some (i_ c)/\w'.cell? (c_ a 4)=some (i_ n)) 7 k_ ?_;have C:R.drew.cell? (c_ a 0)=some (i_ 2)/\R.drew.cell? (c_ a 1)=some (i_ (E:Int))/\R.drew.cell? (c_ a 2)=some (i_ X)/\R.drew.cell? (c_ a 3)=some (i_ c)/\R.drew.cell? (c_ a 4)=some (i_ n):=N.drew.c5
 have e0:(0:Int)<=(E:Int):=by omega
 have aP:(E:Int)<16:=by omega
 (iterate 6 refine jR C ?_)
 have s:=g.bk;have bM:R.cell? (c_ gx (40+E*2))=some (.bool (x.e.r E).r):=(s.f_ _).trans (j7 x E ha).1;have bp:R.cell? (c_ gx (40+E*2+1))=some (i_ (x.e.r E).n):=(s.f_ _).trans (j7 x E ha).2;have bB:=s.hm (40+E*2);have bH:=s.hm (40+E*2+1)
 refine hQ 6 λK H=>?_
 go_simp;have j:Bk ((R.setCell (c_ gx (40+E*2)) (.bool true)).setCell (c_ gx (40+E*2+1)) (i_ 0)).drew a 189 #[i_ 2,i_ (E:Int),i_ X,i_ c,i_ n]:=(N.h7 (p:=(c_ gx (40+E*2))) t (.bool true)).h7 (p:=(c_ gx (40+E*2+1))) t (i_ 0);obtain⟨a2,M⟩:=Dj g ⟨true,0⟩ ha;exact K3
theorem plain_3(d:Nat)(c:Int)(n:Int)(L:ke b w gx x)(ha:E<16)(hb:d<16):
 Calls prog 119 #[q_ gx,.agg #[i_ 3,i_ (E:Int),i_ (d:Int),i_ c,i_ n]] w (k9 (kL x.p E (x.e.r d)) true b gx w):=by
 obtain⟨R,a,I,A,g,N,aH,t⟩:=rJ L #[i_ 3,i_ (E:Int),i_ (d:Int),i_ c,i_ n]
 go_enter func119,ntmps119
 go_upto_region 1 with fail
 clear I A;have Z:=N.f_ 0
 go_upto_region 10 with fail
 clear Z;refine hC (λw'=>(w'.cell? (c_ a 0)=some (i_ 3)/\w'.cell? (c_ a 1)=some (i_ (E:Int))/\w'.cell? (c_ a 2)=some (i_ (d:Int))/\w'.cell? (c_ a 3)=some (i_ c)/\w'.cell? (c_ a 4)=some (i_ n))/\w'.cell? (c_ gx (40+d*2))=some (.bool (x.e.r d).r)/\w'.cell? (c_ gx (40+d*2+1))=some (i_ (x.e.r d).n)) 11 k_ ?_;have C:=And.intro N.drew.c5 (rX (g.bk.drew) hb)
 have e0:(0:Int)<=(E:Int):=by omega
 have aP:(E:Int)<16:=by omega
 have aL:(0:Int)<=(d:Int):=by omega
 have bN:(d:Int)<16:=by omega
 (iterate 11 refine jR C ?_)
 have s:=g.bk;have bM:R.cell? (c_ gx (40+E*2))=some (.bool (x.e.r E).r):=(s.f_ _).trans (j7 x E ha).1;have bp:R.cell? (c_ gx (40+E*2+1))=some (i_ (x.e.r E).n):=(s.f_ _).trans (j7 x E ha).2;have bB:=s.hm (40+E*2);have bH:=s.hm (40+E*2+1)
 refine hQ 11 λK H=>?_
 go_simp;obtain⟨a2,M⟩:=Dj g (x.e.r d) ha;refine H.out _ _ (λh=>D6 h d_) ?_;clear H K
 try simp only[a_]
 exact La
theorem plain_11(n:Int)(L:ke b w gx x):
 Calls prog 119 #[q_ gx,.agg #[i_ 11,i_ ap,i_ X,i_ c,i_ n]] w (k9 (ti x.p n) true b gx w):=by
 obtain⟨R,a,I,A,g,N,aH,t⟩:=rJ L #[i_ 11,i_ ap,i_ X,i_ c,i_ n]
 go_enter func119,ntmps119
 go_upto_region 1 with fail
 clear I A;have Z:=N.f_ 0;have aV:=N.f_ 4;have bS:R.cell? (c_ gx 39)=some (i_ x.e.pc):=(g.bk.f_ 39).trans rfl;have bn:=g.bk.hm 39;go_wp2;go_ret;have hs:=g.set (x':={x with e:={x.e with pc:=n}}) 39 (i_ n) rfl rfl rfl rfl rfl rfl rfl rfl;exact⟨_,rfl,hs,rfl,aH.ig ((D_ [gx] _).setCell (.inl s_) _)⟩
theorem plain_12(n:Int)(L:ke b w gx x)(ha:E<16):
 Calls prog 119 #[q_ gx,.agg #[i_ 12,i_ (E:Int),i_ X,i_ c,i_ n]] w (k9 (if(x.e.r E).n≠0 then x.p else ti x.p n) true b gx w):=by
 obtain⟨P,hP⟩:=mn_ (if(x.e.r E).n≠0 then x.p else ti x.p n);rw[hP];have u:=h_ hP;clear hP;obtain⟨R,a,I,A,g,N,aH,t⟩:=rJ L #[i_ 12,i_ (E:Int),i_ X,i_ c,i_ n]
 go_enter func119,ntmps119
 go_upto_region 1 with fail
 clear I A;have Z:=N.f_ 0
 by_cases hz:(x.e.r E).n=0
 .have bG:=h_ (show((x.e.r E).n !=0)=false by simp[hz]);have O:Hid (P=ti x.p n):=h_ (by rw[<-u.out,P_ (by simpa using hz)]);clear hz
  go_upto_region 20 with fail
  clear Z;refine hC (λw'=>(w'.cell? (c_ a 0)=some (i_ 12)/\w'.cell? (c_ a 1)=some (i_ (E:Int))/\w'.cell? (c_ a 2)=some (i_ X)/\w'.cell? (c_ a 3)=some (i_ c)/\w'.cell? (c_ a 4)=some (i_ n))/\w'.cell? (c_ gx (40+E*2))=some (.bool (x.e.r E).r)/\w'.cell? (c_ gx (40+E*2+1))=some (i_ (x.e.r E).n)) 8 k_ ?_;have C:=And.intro N.drew.c5 (rX (g.bk.drew) ha)
  have e0:(0:Int)<=(E:Int):=by omega
  have aP:(E:Int)<16:=by omega
  iterate 6 refine jR C ?_
  refine hQ 6 λK H=>?_
  go_simp
  (go_at_call 166;((with_reducible refine(sp (x.e.r E) _).mono ?_);rintro e w2⟨rfl,ad⟩;rw[bG.out]))
  have ap:Gr [] R w2:=(D_ [] R).drew.trans ad;have aD:=N.g_ ap;have V:=g.g_ ap;clear C
  refine hS H ⟨aD.c5,rX (V.bk) ha⟩ λC=>?_
  clear H K;refine ih 7 C ?_;refine hA k_ ?_ _;have aV:=aD.f_ 4;have bS:w2.cell? (c_ gx 39)=some (i_ x.e.pc):=(V.bk.f_ 39).trans rfl;have bn:=V.bk.hm 39;go_wp2;go_ret;have hs:=V.set (x':={x with e:={x.e with pc:=n}}) 39 (i_ n) rfl rfl rfl rfl rfl rfl rfl rfl;rw[O.out];exact⟨_,rfl,hs,rfl,(aH.g_ ap).ig ((D_ [gx] _).setCell (.inl s_) _)⟩
 .have bG:=h_ (show((x.e.r E).n !=0)=true by simp[hz]);have O:Hid (P=x.p):=h_ (by rw[<-u.out,Q_ (by simpa using hz)]);clear hz
  go_upto_region 20 with fail
  clear Z;refine hC (λw'=>(w'.cell? (c_ a 0)=some (i_ 12)/\w'.cell? (c_ a 1)=some (i_ (E:Int))/\w'.cell? (c_ a 2)=some (i_ X)/\w'.cell? (c_ a 3)=some (i_ c)/\w'.cell? (c_ a 4)=some (i_ n))/\w'.cell? (c_ gx (40+E*2))=some (.bool (x.e.r E).r)/\w'.cell? (c_ gx (40+E*2+1))=some (i_ (x.e.r E).n)) 8 k_ ?_;have C:=And.intro N.drew.c5 (rX (g.bk.drew) ha)
  have e0:(0:Int)<=(E:Int):=by omega
  have aP:(E:Int)<16:=by omega
  iterate 6 refine jR C ?_
  refine hQ 6 λK H=>?_
  go_simp
  (go_at_call 166;((with_reducible refine(sp (x.e.r E) _).mono ?_);rintro e w2⟨rfl,ad⟩;rw[bG.out]))
  have ap:Gr [] R w2:=(D_ [] R).drew.trans ad;have aD:=N.g_ ap;have V:=g.g_ ap;clear C
  refine hS H ⟨aD.c5,rX (V.bk) ha⟩ λC=>?_
  clear H K;refine ih 7 C ?_;refine hA k_ ?_ _;have aV:=aD.f_ 4;have bS:w2.cell? (c_ gx 39)=some (i_ x.e.pc):=(V.bk.f_ 39).trans rfl;have bn:=V.bk.hm 39;go_wp2;go_ret;rw[O.out];exact⟨x,rfl,V,rfl,aH.g_ ap⟩
theorem zB(op ap X c:Int)(n:Int)(L:ke b w gx x)(ho:op≠0/\op≠1/\op≠2/\op≠3/\op≠4/\op≠11/\op≠12/\op≠21/\op≠16/\op≠19):
 Calls prog 119 #[q_ gx,.agg #[i_ op,i_ ap,i_ X,i_ c,i_ n]] w (k9 x.p false b gx w):=by
 obtain⟨R,a,I,A,g,N,aH,t⟩:=rJ L #[i_ op,i_ ap,i_ X,i_ c,i_ n]
 go_enter func119,ntmps119
 go_upto_region 1 with fail
 clear I A;have Z:=N.f_ 0
 have B:(op=0)=False:=by simp;omega
 have aI:(op==0)=false:=by simp;omega
 have aB:(op=1)=False:=by simp;omega
 have c1:(op==1)=false:=by simp;omega
 have bm:(op=2)=False:=by simp;omega
 have an:(op==2)=false:=by simp;omega
 have bB:(op=3)=False:=by simp;omega
 have aN:(op==3)=false:=by simp;omega
 have bn:(op=4)=False:=by simp;omega
 have c4:(op==4)=false:=by simp;omega
 have h:(op=11)=False:=by simp;omega
 have v:(op==11)=false:=by simp;omega
 have i:(op=12)=False:=by simp;omega
 have d:(op==12)=false:=by simp;omega
 have l:(op=21)=False:=by simp;omega
 have f:(op==21)=false:=by simp;omega
 have j:(op=16)=False:=by simp;omega
 have br:(op==16)=false:=by simp;omega
 have k:(op=19)=False:=by simp;omega
 have e:(op==19)=false:=by simp;omega
 clear ho;exact Ln
theorem ke.AD{b w:World}{gx:Nat}{x x':X1}(h:ke b w gx x)(k:Gr [gx] w w')(hb:Bk w' gx 186 x'.g8)(h1:x'.jd=x.jd)(h2:x'.h=x.h)(h3:x'.e.rs=x.e.rs)(aw:x'.e.ws=x.e.ws)(n1:Os w x'.e.nw.A x'.e.nw.l)(n2:mW w x'.e.nw.l)(n3:Ds w x'.e.ds.A x'.e.ds.l)(n4:As w x'.e.hU.A x'.e.hU.l)(n5:x'.e.nw.ok)(n6:x'.e.ds.ok)(n7:x'.e.hU.ok):ke b w' gx x':=by
 have n:∀y fz,w.heap[gx]?≠some (.cells y 116 fz):=h.bk.pF d_;refine⟨hb,h.gr.trans k,h.bx,by rw[h1];exact h.jd,by rw[h2];exact h.h,?_,?_,by rw[h3,aw];exact h.ne,?_,?_,?_,?_,n5,n6,n7,by rw[h1];exact h.il,by rw[h2];exact h.hl⟩
 .rw[h3];exact kx (x:=gx) h.rs n k
 .rw[aw];exact kx (x:=gx) h.ws n k
 .exact Sl.ig n1 h.bk d_ k
 .exact n2.ig h.bk d_ k
 .exact Sl.ig n3 h.bk d_ k
 .exact Sl.ig n4 h.bk d_ k
def qt(r:Nat->Vl):Array Value:=#[.bool (r 0).r,i_ (r 0).n,.bool (r 1).r,i_ (r 1).n,.bool (r 2).r,i_ (r 2).n,.bool (r 3).r,i_ (r 3).n,.bool (r 4).r,i_ (r 4).n,.bool (r 5).r,i_ (r 5).n,.bool (r 6).r,i_ (r 6).n,.bool (r 7).r,i_ (r 7).n,.bool (r 8).r,i_ (r 8).n,.bool (r 9).r,i_ (r 9).n,.bool (r 10).r,i_ (r 10).n,.bool (r 11).r,i_ (r 11).n,.bool (r 12).r,i_ (r 12).n,.bool (r 13).r,i_ (r 13).n,.bool (r 14).r,i_ (r 14).n,.bool (r 15).r,i_ (r 15).n]
theorem vX(r:Nat->Vl):ul x.g8 40 (qt r).toList=({x with e:={x.e with r:=r}}:X1).g8:=rfl
theorem AW(r:Nat->Vl):(qt r).all (·.oneCell')=true:=by unfold qt;simp[Value.oneCell']
theorem plain_16(n:Int)(L:ke b w gx x)(ha:E<16)(hs:x.p.e.sm 900000):
 Calls prog 119 #[q_ gx,.agg #[i_ 16,i_ (E:Int),i_ X,i_ c,i_ n]] w (k9 (jc x.p (x.e.r E)) true b gx w):=by
 obtain⟨R,a,I,A,g,N,aH,t⟩:=rJ L #[i_ 16,i_ (E:Int),i_ X,i_ c,i_ n]
 go_enter func119,ntmps119
 go_upto_region 1 with fail
 clear I A;have Z:=N.f_ 0
 go_upto_region 26 with fail
 clear Z;have ap:Gr [] R R.drew:=(D_ [] R).drew;refine hC (λw'=>(w'.cell? (c_ a 0)=some (i_ 16)/\w'.cell? (c_ a 1)=some (i_ (E:Int))/\w'.cell? (c_ a 2)=some (i_ X)/\w'.cell? (c_ a 3)=some (i_ c)/\w'.cell? (c_ a 4)=some (i_ n))/\w'.cell? (c_ gx (40+E*2))=some (.bool (x.e.r E).r)/\w'.cell? (c_ gx (40+E*2+1))=some (i_ (x.e.r E).n)) 7 k_ ?_;have C:=And.intro N.drew.c5 (rX (g.bk.drew) ha)
 have e0:(0:Int)<=(E:Int):=by omega
 have aP:(E:Int)<16:=by omega
 iterate 7 refine jR C ?_
 refine hQ 7 λK H=>?_
 go_simp
 (go_at_call 117;((with_reducible refine(o3 b _ gx x (x.e.r E) (g.g_ ap) hs).mono ?_);unfold kE;rintro e ag⟨ax,rfl,F,ae,G⟩;have aI:=h_ ae;clear ae))
 refine H.out _ _ (λh=>D6 h d_) ?_;clear H K
 try simp only[a_]
 refine hA k_ ?_ _;go_wp2;go_ret;exact⟨ax,rfl,F,aI.out,(aH.g_ ap).trans G⟩
theorem plain_19(n:Int)(L:ke b w gx x)(ha:E<16)(hs:x.p.e.sm 900000):
 Calls prog 119 #[q_ gx,.agg #[i_ 19,i_ (E:Int),i_ X,i_ c,i_ n]] w (k9 (if(x.e.r E).r=true then i9 x.p (-2) else{x.p with e:={x.p.e with hU:=[⟨false,(x.e.r E).n,0⟩]}}) true b gx w):=by
 obtain⟨P,hP⟩:=mn_ (if(x.e.r E).r=true then i9 x.p (-2) else{x.p with e:={x.p.e with hU:=[⟨false,(x.e.r E).n,0⟩]}});rw[hP];have u:=h_ hP;clear hP;obtain⟨R,a,I,A,g,N,aH,t⟩:=rJ L #[i_ 19,i_ (E:Int),i_ X,i_ c,i_ n]
 go_enter func119,ntmps119
 go_upto_region 1 with fail
 clear I A;have Z:=N.f_ 0
 cases b5:(x.e.r E).r with
 |true=>
  have O:Hid (P=i9 x.p (-2)):=h_ (by rw[<-u.out,Q_ b5])
  go_upto_region 28 with fail
  clear Z;have ap:Gr [] R R.drew:=(D_ [] R).drew;refine hC (λw'=>(w'.cell? (c_ a 0)=some (i_ 19)/\w'.cell? (c_ a 1)=some (i_ (E:Int))/\w'.cell? (c_ a 2)=some (i_ X)/\w'.cell? (c_ a 3)=some (i_ c)/\w'.cell? (c_ a 4)=some (i_ n))/\w'.cell? (c_ gx (40+E*2))=some (.bool (x.e.r E).r)/\w'.cell? (c_ gx (40+E*2+1))=some (i_ (x.e.r E).n)) 7 k_ ?_;have C:=And.intro N.drew.c5 (rX (g.bk.drew) ha)
  have e0:(0:Int)<=(E:Int):=by omega
  have aP:(E:Int)<16:=by omega
  (iterate 7 refine jR C ?_)
  refine hA k_ ?_ _
  go_wp2_with (go_at_call 165;((with_reducible refine(kK b _ gx x (-2) (g.g_ ap) hs).mono ?_);unfold kE;rintro e ag⟨ax,rfl,F,ae,G⟩;have aI:=h_ ae;clear ae))
  go_ret;rw[O.out];exact⟨ax,rfl,F,aI.out,(aH.g_ ap).trans G⟩
 |false=>
  have O:Hid (P={x.p with e:={x.p.e with hU:=[⟨false,(x.e.r E).n,0⟩]}}):=h_ (by rw[<-u.out,P_ (by rw[b5];decide)])
  go_upto_region 28 with fail
  clear Z;have ap:Gr [] R R.drew:=(D_ [] R).drew;refine hC (λw'=>(w'.cell? (c_ a 0)=some (i_ 19)/\w'.cell? (c_ a 1)=some (i_ (E:Int))/\w'.cell? (c_ a 2)=some (i_ X)/\w'.cell? (c_ a 3)=some (i_ c)/\w'.cell? (c_ a 4)=some (i_ n))/\w'.cell? (c_ gx (40+E*2))=some (.bool (x.e.r E).r)/\w'.cell? (c_ gx (40+E*2+1))=some (i_ (x.e.r E).n)) 7 k_ ?_;have C:=And.intro N.drew.c5 (rX (g.bk.drew) ha)
  have e0:(0:Int)<=(E:Int):=by omega
  have aP:(E:Int)<16:=by omega
  (iterate 7 refine jR C ?_)
  refine hA k_ ?_ _;clear b5
  go_upto_region 31 with fail
  clear C;have V:=g.g_ ap;have aD:=N.g_ ap;have aM:=aH.g_ ap;obtain⟨bh,bF⟩:=nm_ R.drew;rw[<-bF]at V aD aM |-;clear bF g N aH ap;refine hC (λw'=>(w'.cell? (c_ a 0)=some (i_ 19)/\w'.cell? (c_ a 1)=some (i_ (E:Int))/\w'.cell? (c_ a 2)=some (i_ X)/\w'.cell? (c_ a 3)=some (i_ c)/\w'.cell? (c_ a 4)=some (i_ n))/\w'.cell? (c_ gx (40+E*2))=some (.bool (x.e.r E).r)/\w'.cell? (c_ gx (40+E*2+1))=some (i_ (x.e.r E).n)) 13 k_ ?_
  refine nc ⟨aD.drew.c5,rX (V.bk.drew) ha⟩ λC=>?_
  iterate 9 refine jR C ?_
  refine hQ 9 λK H=>?_
  go_simp;have o:Gr [] bh ((bh.alloc (.cells #[.bool false,i_ (x.e.r E).n,i_ 0] 162)).drew):=((D_ [] bh).alloc _).drew;have U:Bk ((bh.alloc (.cells #[.bool false,i_ (x.e.r E).n,i_ 0] 162)).drew) bh.heap.size 162 #[.bool false,i_ (x.e.r E).n,i_ 0]:=(L_ bh 162 #[.bool false,i_ (x.e.r E).n,i_ 0]).drew;have B:=V.g_ o;have ak:=aD.g_ o;have l:=aM.g_ o;clear C;obtain⟨aJ,ci⟩:=nm_ ((bh.alloc (.cells #[.bool false,i_ (x.e.r E).n,i_ 0] 162)).drew);rw[<-ci]at o U B ak l |-;clear ci;generalize bh.heap.size=j at*
  refine hS H ⟨ak.c5,rX (B.bk) ha⟩ λC=>?_
  clear H K
  (iterate 3 refine jR C ?_)
  have f:aJ.cell? (c_ gx 76)=some (.slice x.e.hU.A x.e.hU.l.length x.e.hU.c):=(B.bk.f_ 76).trans rfl;have dK:=B.bk.hm 76
  refine hQ 13 λK H=>?_
  go_simp;refine H.out _ _ (λh=>D6 h d_) ?_;clear H K
  try simp only[a_]
  refine hA k_ ?_ _;have M:=(D_ [gx] aJ).setCell (p:=(c_ gx 76)) (.inl s_) (.slice (j_ j) 1 1);have a2:Bk (aJ.setCell (c_ gx 76) (.slice (j_ j) 1 1)) gx 186 ({x with e:={x.e with hU:=⟨some (c_ j 0),1,[⟨false,(x.e.r E).n,0⟩]⟩}}:X1).g8:=B.bk.hJ 76 (.slice (j_ j) 1 1);have d:As aJ (j_ j) [⟨false,(x.e.r E).n,0⟩]:=kC (s:=3) U rfl;go_wp2;go_ret;rw[O.out];exact⟨_,rfl,B.AD (x':=({x with e:={x.e with hU:=⟨some (c_ j 0),1,[⟨false,(x.e.r E).n,0⟩]⟩}}:X1)) M a2 rfl rfl rfl rfl B.nw B.nr B.ds d B.sO B.rL (G_ 1),rfl,l.ig M⟩
theorem plain_21(n:Int)(L:ke b w gx x):
 Calls prog 119 #[q_ gx,.agg #[i_ 21,i_ ap,i_ X,i_ c,i_ n]] w (k9 {x.p with e:={x.p.e with r:=jb,hT:=1,kl:=n}} true b gx w):=by
 obtain⟨R,a,I,A,g,N,aH,t⟩:=rJ L #[i_ 21,i_ ap,i_ X,i_ c,i_ n]
 go_enter func119,ntmps119
 go_upto_region 1 with fail
 clear I A;have Z:=N.f_ 0
 go_upto_region 24 with(refine i0 rfl 47 _ _ rfl gx 40 r_ (qt jb) r_ 186 _ g.bk (by show 40+32<=82;decide) k_ (AW _) ?_;intro w2 bo ad)
 rw[vX]at bo;have V:=g.rI (x':=({x with e:={x.e with r:=jb}}:X1)) ad bo rfl rfl rfl rfl rfl rfl rfl;have aD:=N.gr ad (by simpa using t);have aM:=aH.ig ad;clear Z;refine hC (λw'=>w'.cell? (c_ a 0)=some (i_ 21)/\w'.cell? (c_ a 1)=some (i_ ap)/\w'.cell? (c_ a 2)=some (i_ X)/\w'.cell? (c_ a 3)=some (i_ c)/\w'.cell? (c_ a 4)=some (i_ n)) 12 k_ ?_
 refine nc aD.drew.c5 λC=>?_
 (iterate 7 refine jR C ?_)
 have bU:w2.cell? (c_ gx 38)=some (i_ x.e.hT):=(bo.f_ 38).trans rfl;have bE:=bo.hm 38
 refine hQ 7 λK H=>?_
 go_simp;have d:Bk ((w2.setCell (c_ gx 38) (i_ 1)).drew) gx 186 ({x with e:={x.e with r:=jb,hT:=1}}:X1).g8:=bo.hJ 38 (i_ 1);have f:Bk ((w2.setCell (c_ gx 38) (i_ 1)).drew) a 189 #[i_ 21,i_ ap,i_ X,i_ c,i_ n]:=aD.h7 (p:=(c_ gx 38)) t (i_ 1);have aO:Gr [gx] w2 ((w2.setCell (c_ gx 38) (i_ 1)).drew):=((D_ [gx] w2).setCell (p:=(c_ gx 38)) (.inl s_) (i_ 1)).drew;obtain⟨aJ,ci⟩:=nm_ ((w2.setCell (c_ gx 38) (i_ 1)).drew);rw[<-ci]at d f aO |-;clear ci C
 refine hS H f.c5 λC=>?_
 clear H K
 (iterate 3 refine jR C ?_)
 have h:aJ.cell? (c_ gx 77)=some (i_ x.e.kl):=(d.f_ 77).trans rfl;have av:=d.hm 77
 refine hQ 11 λK H=>?_
 go_simp;have j:=f.h7 (p:=(c_ gx 77)) t (i_ n);have a2:Bk (aJ.setCell (c_ gx 77) (i_ n)) gx 186 ({x with e:={x.e with r:=jb,hT:=1,kl:=n}}:X1).g8:=d.hJ 77 (i_ n);have M:=aO.setCell (p:=(c_ gx 77)) (.inl s_) (i_ n);clear C
 refine hS H j.c5 λC=>?_
 clear H K;refine hA k_ ?_ _;go_wp2;go_ret;exact⟨_,rfl,V.rI (x':=({x with e:={x.e with r:=jb,hT:=1,kl:=n}}:X1)) M a2 rfl rfl rfl rfl rfl rfl rfl,rfl,aM.ig M⟩
theorem plain_4(d f:Nat)(n:Int)(L:ke b w gx x)(ha:E<16)(hb:d<16)(hc:f<16)(hs:x.p.e.sm 900000):
 Calls prog 119 #[q_ gx,.agg #[i_ 4,i_ (E:Int),i_ (d:Int),i_ (f:Int),i_ n]] w (k9 (if(iy n (x.e.r d) (x.e.r f)).2≠0 then i9 x.p (iy n (x.e.r d) (x.e.r f)).2 else kL x.p E (iy n (x.e.r d) (x.e.r f)).1) true b gx w):=by
 obtain⟨P,hP⟩:=mn_ (if(iy n (x.e.r d) (x.e.r f)).2≠0 then i9 x.p (iy n (x.e.r d) (x.e.r f)).2 else kL x.p E (iy n (x.e.r d) (x.e.r f)).1);rw[hP];obtain⟨⟨j,m⟩,hy⟩:∃y,iy n (x.e.r d) (x.e.r f)=y:=⟨_,rfl⟩;rw[hy]at hP;have u:=h_ hP;have k:=h_ hy;clear hP hy;obtain⟨R,a,I,A,g,N,aH,t⟩:=rJ L #[i_ 4,i_ (E:Int),i_ (d:Int),i_ (f:Int),i_ n]
 go_enter func119,ntmps119
 go_upto_region 1 with fail
 clear I A;have Z:=N.f_ 0
 go_upto_region 12 with fail
 clear Z
 go_cut [6,7] (λp o a7=>∃z:Nat,p=q_ z/\o=i_ m/\Bk a7 z 38 #[.bool j.r,i_ j.n]/\Gr [] R a7)
 case first=>
  have ap:Gr [] R R.drew:=(D_ [] R).drew;refine hC (λw'=>(w'.cell? (c_ a 0)=some (i_ 4)/\w'.cell? (c_ a 1)=some (i_ (E:Int))/\w'.cell? (c_ a 2)=some (i_ (d:Int))/\w'.cell? (c_ a 3)=some (i_ (f:Int))/\w'.cell? (c_ a 4)=some (i_ n))/\(w'.cell? (c_ gx (40+d*2))=some (.bool (x.e.r d).r)/\w'.cell? (c_ gx (40+d*2+1))=some (i_ (x.e.r d).n))/\w'.cell? (c_ gx (40+f*2))=some (.bool (x.e.r f).r)/\w'.cell? (c_ gx (40+f*2+1))=some (i_ (x.e.r f).n)) 21 k_ ?_;have C:(R.drew.cell? (c_ a 0)=some (i_ 4)/\R.drew.cell? (c_ a 1)=some (i_ (E:Int))/\R.drew.cell? (c_ a 2)=some (i_ (d:Int))/\R.drew.cell? (c_ a 3)=some (i_ (f:Int))/\R.drew.cell? (c_ a 4)=some (i_ n))/\(R.drew.cell? (c_ gx (40+d*2))=some (.bool (x.e.r d).r)/\R.drew.cell? (c_ gx (40+d*2+1))=some (i_ (x.e.r d).n))/\R.drew.cell? (c_ gx (40+f*2))=some (.bool (x.e.r f).r)/\R.drew.cell? (c_ gx (40+f*2+1))=some (i_ (x.e.r f).n):=⟨(N.g_ ap).c5,(rX (g.bk.g_ ap) hb),rX (g.bk.g_ ap) hc⟩
  have e0:(0:Int)<=(d:Int):=by omega
  have aP:(d:Int)<16:=by omega
  have aL:(0:Int)<=(f:Int):=by omega
  have bN:(f:Int)<16:=by omega
  (iterate 14 refine jR C ?_)
  refine i6 14 18 rfl rfl k_ (λK H=>?_) (λK H=>?_)
  .go_simp
   (go_at_call 164;((with_reducible refine(mm n (x.e.r d) (x.e.r f) _).mono ?_);unfold qa;rintro e T⟨rfl,af⟩;rw[k.out]))
   clear C;have c:=ap.trans af
   refine hS H ⟨(N.g_ c).c5,(rX (g.bk.g_ c) hb),rX (g.bk.g_ c) hc⟩ λC=>?_
   clear H K
   iterate 3 refine jR C ?_
   refine hQ 18 λK H=>?_
   go_simp;have av:=L_ T 38 #[.bool false,i_ 0];have aE:Gr [] R (T.alloc (.cells #[.bool false,i_ 0] 38)):=c.alloc _;clear C;have C:((T.alloc (.cells #[.bool false,i_ 0] 38)).cell? (c_ a 0)=some (i_ 4)/\(T.alloc (.cells #[.bool false,i_ 0] 38)).cell? (c_ a 1)=some (i_ (E:Int))/\(T.alloc (.cells #[.bool false,i_ 0] 38)).cell? (c_ a 2)=some (i_ (d:Int))/\(T.alloc (.cells #[.bool false,i_ 0] 38)).cell? (c_ a 3)=some (i_ (f:Int))/\(T.alloc (.cells #[.bool false,i_ 0] 38)).cell? (c_ a 4)=some (i_ n))/\((T.alloc (.cells #[.bool false,i_ 0] 38)).cell? (c_ gx (40+d*2))=some (.bool (x.e.r d).r)/\(T.alloc (.cells #[.bool false,i_ 0] 38)).cell? (c_ gx (40+d*2+1))=some (i_ (x.e.r d).n))/\(T.alloc (.cells #[.bool false,i_ 0] 38)).cell? (c_ gx (40+f*2))=some (.bool (x.e.r f).r)/\(T.alloc (.cells #[.bool false,i_ 0] 38)).cell? (c_ gx (40+f*2+1))=some (i_ (x.e.r f).n):=⟨(N.g_ aE).c5,(rX (g.bk.g_ aE) hb),rX (g.bk.g_ aE) hc⟩;have Z:=av.f_ 0;have ah:=av.f_ 1;have bB:=av.hm 0;have bH:=av.hm 1
   refine hS H C λC=>?_
   clear H K
   refine hQ 19 λK H=>?_
   go_simp;have X:=L_ T 38 #[.bool j.r,i_ j.n];have a8:Gr [] R (T.alloc (.cells #[.bool j.r,i_ j.n] 38)):=c.alloc _;clear C
   refine hS H ⟨(N.g_ a8).c5,(rX (g.bk.g_ a8) hb),rX (g.bk.g_ a8) hc⟩ λC=>?_
   clear H K;refine ih 20 C ?_;refine hA k_ ?_ _;go_wp2;go_meet;exact⟨T.heap.size,rfl,rfl,X,a8⟩
  .go_simp;have l:Bk ((R.alloc (.cells #[.bool false,i_ 0] 38)).drew) R.heap.size 38 #[.bool false,i_ 0]:=(L_ R 38 #[.bool false,i_ 0]).drew;have aE:Gr [] R ((R.alloc (.cells #[.bool false,i_ 0] 38)).drew):=((D_ [] R).alloc _).drew;clear C
   refine hS H ⟨(N.g_ aE).c5,(rX (g.bk.g_ aE) hb),rX (g.bk.g_ aE) hc⟩ λC=>?_
   clear H K
   refine hQ 14 λK H=>?_
   go_simp
   (go_at_call 164;((with_reducible refine(mm n (x.e.r d) (x.e.r f) _).mono ?_);unfold qa;rintro e T⟨rfl,af⟩;rw[k.out]))
   have am:=aE.trans af;clear C;have C:(T.cell? (c_ a 0)=some (i_ 4)/\T.cell? (c_ a 1)=some (i_ (E:Int))/\T.cell? (c_ a 2)=some (i_ (d:Int))/\T.cell? (c_ a 3)=some (i_ (f:Int))/\T.cell? (c_ a 4)=some (i_ n))/\(T.cell? (c_ gx (40+d*2))=some (.bool (x.e.r d).r)/\T.cell? (c_ gx (40+d*2+1))=some (i_ (x.e.r d).n))/\T.cell? (c_ gx (40+f*2))=some (.bool (x.e.r f).r)/\T.cell? (c_ gx (40+f*2+1))=some (i_ (x.e.r f).n):=⟨(N.g_ am).c5,(rX (g.bk.g_ am) hb),rX (g.bk.g_ am) hc⟩;have av:=l.g_ af;have Z:=av.f_ 0;have ah:=av.f_ 1;have bB:=av.hm 0;have bH:=av.hm 1
   refine hS H C λC=>?_
   clear H K
   iterate 3 refine jR C ?_
   refine hQ 19 λK H=>?_
   go_simp;have X:=(av.hJ 0 (.bool j.r)).hJ 1 (i_ j.n);have M:=((D_ [R.heap.size] T).setCell (p:=(c_ R.heap.size 0)) (.inl s_) (.bool j.r)).setCell (p:=(c_ R.heap.size 1)) (.inl s_) (i_ j.n);have a8:=am.hx M s_;clear C
   refine hS H ⟨(N.g_ a8).c5,(rX (g.bk.g_ a8) hb),rX (g.bk.g_ a8) hc⟩ λC=>?_
   clear H K;refine ih 20 C ?_;refine hA k_ ?_ _;go_wp2;go_meet;exact⟨R.heap.size,rfl,rfl,X,a8⟩
 case rest=>
  obtain⟨z,rfl,rfl,av,aM⟩:=hcut;replace g:=g.g_ aM;replace N:=N.g_ aM;replace aH:=aH.g_ aM;clear aM
  by_cases hz:m=0
  .have O:Hid (P=kL x.p E j):=h_ (by rw[<-u.out,P_ (by simp[hz])])
   have q:(m !=0)=false:=by simpa using hz
   clear hz u k
   go_upto_region 16 with fail
   obtain⟨bh,bF⟩:=nm_ wc;rw[<-bF]at g N aH av |-;clear bF;refine hC (λw'=>(w'.cell? (c_ a 0)=some (i_ 4)/\w'.cell? (c_ a 1)=some (i_ (E:Int))/\w'.cell? (c_ a 2)=some (i_ (d:Int))/\w'.cell? (c_ a 3)=some (i_ (f:Int))/\w'.cell? (c_ a 4)=some (i_ n))/\w'.cell? (c_ z 0)=some (.bool j.r)/\w'.cell? (c_ z 1)=some (i_ j.n)) 6 k_ ?_;have C:(bh.drew.cell? (c_ a 0)=some (i_ 4)/\bh.drew.cell? (c_ a 1)=some (i_ (E:Int))/\bh.drew.cell? (c_ a 2)=some (i_ (d:Int))/\bh.drew.cell? (c_ a 3)=some (i_ (f:Int))/\bh.drew.cell? (c_ a 4)=some (i_ n))/\bh.drew.cell? (c_ z 0)=some (.bool j.r)/\bh.drew.cell? (c_ z 1)=some (i_ j.n):=⟨N.drew.c5,av.drew.f_ 0,av.drew.f_ 1⟩
   have e0:(0:Int)<=(E:Int):=by omega
   have aP:(E:Int)<16:=by omega
   (iterate 6 refine jR C ?_)
   have bM:bh.cell? (c_ gx (40+E*2))=some (.bool (x.e.r E).r):=(g.bk.f_ _).trans (j7 x E ha).1;have bp:bh.cell? (c_ gx (40+E*2+1))=some (i_ (x.e.r E).n):=(g.bk.f_ _).trans (j7 x E ha).2;have bB:=g.bk.hm (40+E*2);have bH:=g.bk.hm (40+E*2+1)
   refine hQ 6 λK H=>?_
   go_simp;obtain⟨a2,M⟩:=Dj g j ha;refine H.out _ _ (λh=>D6 h d_) ?_;clear H K
   try simp only[a_]
   refine hA k_ ?_ _;go_wp2;go_ret;rw[O.out];exact⟨_,rfl,g.rI M a2 rfl rfl rfl rfl rfl rfl rfl,rfl,aH.ig M⟩
  .have O:Hid (P=i9 x.p m):=h_ (by rw[<-u.out,Q_ (by simpa using hz)])
   have q:(m !=0)=true:=by simpa using hz
   clear hz u k
   go_wp2_with (go_at_call 165;((with_reducible refine(kK b _ gx x m g hs).mono ?_);unfold kE;rintro e ag⟨ax,rfl,F,ae,G⟩;have aI:=h_ ae;clear ae))
   go_ret;rw[O.out];exact⟨ax,rfl,F,aI.out,aH.trans G⟩
theorem pe(i:In)(L:ke b w gx x)(hs:x.p.e.sm 900000)(Z:0<=i.a)(ah:i.a<16)(hb:i.op=3∨i.op=4->0<=i.b/\i.b<16)(hc:i.op=4->0<=i.c/\i.c<16):
 Calls prog 119 #[q_ gx,.agg #[i_ i.op,i_ i.a,i_ i.b,i_ i.c,i_ i.n]] w (k9 ((jS x.p i).getD x.p) (jS x.p i).isSome b gx w):=by
 obtain⟨op,ap,X,c,n⟩:=i;simp only at Z ah hb hc |-;obtain⟨E,rfl⟩:∃k:Nat,ap=k:=⟨ap.toNat,by omega⟩
 have j:E<16:=by omega
 by_cases h0:op=0
 .subst h0;have e:jS x.p ⟨0,E,X,c,n⟩=some x.p:=rfl;rw[e];exact plain_0 b w gx x E X c n L
 by_cases h1:op=1
 .subst h1;have e:jS x.p ⟨1,E,X,c,n⟩=some (kL x.p E ⟨false,n⟩):=rfl;rw[e];exact plain_1 b w gx x E X c n L j
 by_cases h2:op=2
 .subst h2;have e:jS x.p ⟨2,E,X,c,n⟩=some (kL x.p E ⟨true,0⟩):=rfl;rw[e];exact plain_2 b w gx x E X c n L j
 by_cases h3:op=3
 .subst h3;obtain⟨B,aT⟩:=hb (.inl rfl);obtain⟨d,rfl⟩:∃k:Nat,X=k:=⟨X.toNat,by omega⟩;have e:jS x.p ⟨3,E,d,c,n⟩=some (kL x.p E (x.e.r d)):=rfl;rw[e];exact plain_3 b w gx x E d c n L j o_
 by_cases aw:op=4
 .subst aw;obtain⟨B,aT⟩:=hb (.inr rfl);obtain⟨bj,be⟩:=hc rfl;obtain⟨d,rfl⟩:∃k:Nat,X=k:=⟨X.toNat,by omega⟩;obtain⟨f,rfl⟩:∃k:Nat,c=k:=⟨c.toNat,by omega⟩;have e:jS x.p ⟨4,E,d,f,n⟩=some (if(iy n (x.e.r d) (x.e.r f)).2≠0 then i9 x.p (iy n (x.e.r d) (x.e.r f)).2 else kL x.p E (iy n (x.e.r d) (x.e.r f)).1):=rfl;rw[e];exact plain_4 b w gx x E d f n L j o_ o_ hs
 by_cases A:op=11
 .subst A;have e:jS x.p ⟨11,E,X,c,n⟩=some (ti x.p n):=rfl;rw[e];exact plain_11 b w gx x E X c n L
 by_cases bm:op=12
 .subst bm;have e:jS x.p ⟨12,E,X,c,n⟩=some (if(x.e.r E).n≠0 then x.p else ti x.p n):=rfl;rw[e];exact plain_12 b w gx x E X c n L j
 by_cases t:op=21
 .subst t;have e:jS x.p ⟨21,E,X,c,n⟩=some {x.p with e:={x.p.e with r:=jb,hT:=1,kl:=n}}:=rfl;rw[e];exact plain_21 b w gx x E X c n L
 by_cases xp:op=16
 .subst xp;have e:jS x.p ⟨16,E,X,c,n⟩=some (jc x.p (x.e.r E)):=rfl;rw[e];exact plain_16 b w gx x E X c n L j hs
 by_cases cq:op=19
 .subst cq;have e:jS x.p ⟨19,E,X,c,n⟩=some (if(x.e.r E).r=true then i9 x.p (-2) else{x.p with e:={x.p.e with hU:=[⟨false,(x.e.r E).n,0⟩]}}):=rfl;rw[e];exact plain_19 b w gx x E X c n L j hs
 have e:jS x.p ⟨op,E,X,c,n⟩=none:=by
  unfold jS;exact(P_ h0).trans ((P_ h1).trans ((P_ h2).trans ((P_ h3).trans ((P_ aw).trans ((P_ A).trans ((P_ bm).trans ((P_ t).trans ((P_ xp).trans (P_ cq)))))))))
 rw[e];exact zB b w gx x op E X c n L ⟨h0,h1,h2,h3,aw,A,bm,t,xp,cq⟩
end Go.Proofs.YtenbhdilndfaeaaGreat
