import Derived.Test.YtenbhdilndfaeaaGreatM27
set_option maxRecDepth 100000
set_option maxHeartbeats 0
set_option linter.all false
namespace Go.Proofs.YtenbhdilndfaeaaGreat
open Go.RowKit Go.Proofs.Tryz
variable{G:Prop}{l:List In}(w:World)(x:X1)
theorem He(h:G:=by
 have O:Hid (P=({bl with hF:=true}:X1).p):=h_ (by rw[ae.out,Q_ bp];rfl);clear bp ae;have m:bo.cell? (c_ gx 81)=some (.bool bl.hF):=(aK.bk.f_ 81).trans rfl;exact HR):G:=h
theorem HR(h:G:=by
 have U:=aK.bk.hm 81;go_wp2;have bg:=aK.set (x':={bl with hF:=true}) 81 (.bool true) rfl rfl rfl rfl rfl rfl rfl rfl;refine rn_ ?_;rw[O.out];exact⟨_,rfl,bg,rfl,h.ig ((D_ [gx] _).setCell (.inl s_) _)⟩):G:=h
def qs(l:List In)(p r:Vl):Bool:=decide (p.r=false∨r.r=true∨iX l r.n=false)
def w4(a:XP × Int × Int)(v:Vl):XP:=
 if a.1.hF=true then a.1 else
 let p:=hM a.1 a.2.1 0
 if p.2.r=true/\p.2.n=0 then{p.1 with e:={p.1.e with hT:=2,v:=v,pc:=p.1.jN,r:=p.1.sr}} else
 let r:=hM p.1 a.2.1 1
 if qs r.1.jd p.2 r.2=true then kA r.1 else
 ti (hY (hY r.1 1 0 p.2) 1 1 v) r.2.n
theorem Ay(x:XP)(E:Nat)(X c n:Int):j5 x ⟨14,E,X,c,n⟩=w4 (hK x) (x.sr E):=by
 have h:j5 x ⟨14,E,X,c,n⟩=(if(hK x).1.hF=true then(hK x).1 else
  if(hM (hK x).1 (hK x).2.1 0).2.r=true/\(hM (hK x).1 (hK x).2.1 0).2.n=0 then{(hM (hK x).1 (hK x).2.1 0).1 with e:={(hM (hK x).1 (hK x).2.1 0).1.e with hT:=2,v:=x.sr E,pc:=(hM (hK x).1 (hK x).2.1 0).1.jN,r:=(hM (hK x).1 (hK x).2.1 0).1.sr}} else
  if(hM (hK x).1 (hK x).2.1 0).2.r=false∨(hM (hM (hK x).1 (hK x).2.1 0).1 (hK x).2.1 1).2.r=true∨iX (hM (hM (hK x).1 (hK x).2.1 0).1 (hK x).2.1 1).1.jd (hM (hM (hK x).1 (hK x).2.1 0).1 (hK x).2.1 1).2.n=false then kA (hM (hM (hK x).1 (hK x).2.1 0).1 (hK x).2.1 1).1 else
  ti (hY (hY (hM (hM (hK x).1 (hK x).2.1 0).1 (hK x).2.1 1).1 1 0 (hM (hK x).1 (hK x).2.1 0).2) 1 1 (x.sr E)) (hM (hM (hK x).1 (hK x).2.1 0).1 (hK x).2.1 1).2.n):=by
  unfold j5;dsimp only;rw[P_ d_,P_ d_,P_ d_,P_ d_,Q_ rfl]
  rfl
 rw[h];unfold w4 qs;simp only[EP]
def oa(l:List In)(p r:Vl):Nat:=if p.r=false then 2 else if r.r=true then 3 else if iX l r.n=false then 4 else 5
def Bv(p:XP × Vl)(F:Int):Nat:=if p.2.r=true/\p.2.n=0 then 1 else oa (hM p.1 F 1).1.jd p.2 (hM p.1 F 1).2
def Bw(a:XP × Int × Int):Nat:=if a.1.hF=true then 0 else Bv (hM a.1 a.2.1 0) a.2.1
theorem C_(a:XP × Int × Int):Bw a<=5:=by
 unfold Bw Bv oa
 repeat' split
 all_goals decide
theorem zp(l:List In)(p r:Vl):oa l p r=2∨oa l p r=3∨oa l p r=4∨oa l p r=5:=by
 unfold oa
 repeat' split
 all_goals simp
theorem retKC_2{p r:Vl}(h:oa l p r=2):p.r=false:=by
 unfold oa at h
 cases hp:p.r with
 |false=>rfl
 |true=>rw[P_ (by rw[hp];decide)]at h;split at h<;>first|(cases h;done)|(split at h<;>cases h)
theorem retKC_3{p r:Vl}(h:oa l p r=3):p.r=true/\r.r=true:=by
 unfold oa at h
 cases hp:p.r with
 |false=>rw[Q_ hp]at h;cases h
 |true=>
  rw[P_ (by rw[hp];decide)]at h
  cases hr:r.r with
  |true=>exact⟨rfl,rfl⟩
  |false=>rw[P_ (by rw[hr];decide)]at h;split at h<;>cases h
theorem retKC_45{p r:Vl}{k:Nat}(hk:k=4∨k=5)(h:oa l p r=k):p.r=true/\r.r=false/\iX l r.n=decide (k=5):=by
 unfold oa at h
 cases hp:p.r with
 |false=>rw[Q_ hp]at h;omega
 |true=>
  rw[P_ (by rw[hp];decide)]at h
  cases hr:r.r with
  |true=>rw[Q_ hr]at h;omega
  |false=>
   rw[P_ (by rw[hr];decide)]at h;refine⟨rfl,rfl,?_⟩
   cases Y:iX l r.n with
   |false=>rw[Q_ Y]at h;subst h;rfl
   |true=>rw[P_ (by rw[Y];decide)]at h;subst h;rfl
theorem rest_14(b w:World)(gx:Nat)(x:X1)(E:Nat)(X c:Int)(n:Int)(L:ke b w gx x)(ha:E<16)(hs:x.p.e.sm 800000):
 Calls prog 121 #[q_ gx,.agg #[i_ 14,i_ (E:Int),i_ X,i_ c,i_ n]] w (kE (.tuple #[]) (j5 x.p ⟨14,E,X,c,n⟩) b gx w):=by
 obtain⟨P,hP⟩:=mn_ (j5 x.p ⟨14,E,X,c,n⟩);have u:=h_ ((Ay x.p E X c n).symm.trans hP);rw[hP];clear hP;obtain⟨R,a,I,A,g,N,aH,t⟩:=rJ L #[i_ 14,i_ (E:Int),i_ X,i_ c,i_ n]
 go_enter func121,ntmps121
 go_upto_region 1 with fail
 clear I A;have Z:=N.f_ 0;have ap:Gr [] R R.drew:=(D_ [] R).drew;refine hC (λw'=>(w'.cell? (c_ a 0)=some (i_ 14)/\w'.cell? (c_ a 1)=some (i_ (E:Int))/\w'.cell? (c_ a 2)=some (i_ X)/\w'.cell? (c_ a 3)=some (i_ c)/\w'.cell? (c_ a 4)=some (i_ n))/\w'.cell? (c_ gx (4+E*2))=some (.bool (x.sr E).r)/\w'.cell? (c_ gx (4+E*2+1))=some (i_ (x.sr E).n)) 10 k_ ?_;have C:=And.intro N.drew.c5 (u0 (g.bk.drew) ha)
 have e0:(0:Int)<=(E:Int):=by omega
 have aP:(E:Int)<16:=by omega
 iterate 8 refine jR C ?_
 refine hQ 8 λK H=>?_
 go_simp;clear C
 refine hS H (rW N g.bk ha) λC=>?_
 clear H K
 refine hQ 9 λK H=>?_
 go_simp;clear C
 refine hS H (rW N g.bk ha) λC=>?_
 clear H K;refine hA k_ ?_ _;obtain⟨bh,ay,bF,fo,V,aD,bK,aM,ad⟩:=yH g N aH #[.bool (x.sr E).r,i_ (x.sr E).n];rw[bF,fo];clear bF fo g N aH ap C;have Z:=aD.f_ 0
 go_upto_region 23 with(go_at_call 161;((with_reducible refine(mB b _ gx x V (F_ hs.rs d_)).mono ?_);unfold ue;rintro e ai⟨ao,rfl,B,bO,S⟩;have an:=h_ bO;clear bO))
 have aR:=lK hs;rw[<-an.out]at aR;obtain⟨f,bj⟩:=mn_ ((hK x.p).2.1);rw[bj];have aU:=h_ bj;clear bj;generalize (hK x.p).2.2=bY at*;have i:=bK.xg S ad;have l:=aM.trans S;have m:ai.cell? (c_ gx 81)=some (.bool ao.hF):=(B.bk.f_ 81).trans rfl;clear V aD aM bK S Z
 cases d:ao.hF with
 |true=>
  have O:Hid (P=ao.p):=h_ (by rw[<-u.out];unfold w4;rw[Q_ (by rw[<-an.out];exact d),an.out]);rw[d]at m;clear d;go_wp2;refine rn_ ?_;rw[O.out];exact⟨ao,rfl,B,rfl,l⟩
 |false=>
  rw[d]at m;obtain⟨p,hv⟩:=mn_ ((hM ao.p f 0).2);have aB:=h_ hv;clear hv
  have aT:Hid (P=(if p.r=true/\p.n=0 then{(hM ao.p f 0).1 with e:={(hM ao.p f 0).1.e with hT:=2,v:=x.sr E,pc:=(hM ao.p f 0).1.jN,r:=(hM ao.p f 0).1.sr}} else
   let r:=hM (hM ao.p f 0).1 f 1
   if qs r.1.jd p r.2=true then kA r.1 else ti (hY (hY r.1 1 0 p) 1 1 (x.sr E)) r.2.n)):=h_ (by
   rw[<-u.out];unfold w4;rw[P_ (by rw[<-an.out];show ¬ao.hF=true;rw[d];decide),aU.out,<-an.out,<-aB.out]
   rfl)
  clear u an aU d;have bX:ao.e.rs.l.length<=1000000:=F_ aR.rs d_
  go_upto_region 25 with(go_at_call 118;((with_reducible refine(jD b _ gx ao f 0 B bX).mono ?_);unfold mF;rintro e T⟨aq,rfl,aj,aS,af⟩;have bf:=h_ aS;clear aS;rw[aB.out]))
  have bP:=j6 aR f 0;rw[<-bf.out]at bP
  have bL:Hid (P=(if p.r=true/\p.n=0 then{aq.p with e:={aq.p.e with hT:=2,v:=x.sr E,pc:=aq.p.jN,r:=aq.p.sr}} else
   let r:=hM aq.p f 1
   if qs r.1.jd p r.2=true then kA r.1 else ti (hY (hY r.1 1 0 p) 1 1 (x.sr E)) r.2.n)):=h_ (by rw[aT.out,<-bf.out])
  clear aT aB m;have aZ:=aj.g_ ((D_ [] T).alloc (.cells #[.bool p.r,i_ p.n] 38));have cG:=L_ T 38 #[.bool p.r,i_ p.n];have bG:=(i.xg af ad).alloc (.cells #[.bool p.r,i_ p.n] 38);have be:=(l.trans af).g_ ((D_ [] T).alloc (.cells #[.bool p.r,i_ p.n] 38))
  have b8:T.heap.size≠gx:=by have:=aj.bk.lt;omega
  obtain⟨a6,bv⟩:=nm_ (T.alloc (.cells #[.bool p.r,i_ p.n] 38));rw[<-bv]at aZ cG bG be |-;clear bv;clear aj af B l i;generalize T.heap.size=bz at*;have Z:=cG.f_ 0;have ah:=cG.f_ 1
  go_cut [189] (λy a7=>y=.bool (decide (p.r=true/\p.n=0))/\a7=a6)
  case first=>
   cases k:p.r with
   |false=>
    rw[k]at Z;have aY:=h_ (show decide (p.r=true/\p.n=0)=false by simp[k]);clear k;exact Ll
   |true=>
    rw[k]at Z;have aY:=h_ (show decide (p.r=true/\p.n=0)=(p.n==0) by simp[k,Bool.beq_eq_decide_eq]);clear k;exact Ll
  case rest=>
   obtain⟨rfl,dZ⟩:=hcut;subst wc
   by_cases bI:p.r=true/\p.n=0
   .have O:Hid (P={aq.p with e:={aq.p.e with hT:=2,v:=x.sr E,pc:=aq.p.jN,r:=aq.p.sr}}):=h_ (by rw[bL.out,Q_ bI]);have q:decide (p.r=true/\p.n=0)=true:=Ek bI;rw[q];clear q bI bL;clear Z ah cG
    go_upto_region 26 with fail
    have s:=aZ.bk.drew;refine hC (λw'=>(∀j,j<33->w'.cell? (c_ gx (3+j))=(iz aq.jN aq.sr)[j]?)/\w'.cell? (c_ ay 0)=some (.bool (x.sr E).r)/\w'.cell? (c_ ay 1)=some (i_ (x.sr E).n)) 20 k_ ?_
    refine nc ⟨λj hj=>by rw[s.f_];exact l6 aq j hj,bG.drew.f_ 0,bG.drew.f_ 1⟩ λC=>?_
    (iterate 7 refine jR C ?_)
    refine ih 7 (v:=.agg (iz aq.jN aq.sr)) C ?_ (hy:=(Or.inl ⟨by rfl,λw' bA=>lB 49 _ rfl gx 3 r_ _ (λj hj=>bA.1 j hj) _ underlying49 rfl k_⟩))
    (iterate 3 refine jR C ?_)
    have bU:a6.cell? (c_ gx 38)=some (i_ aq.e.hT):=(aZ.bk.f_ 38).trans rfl;have bE:=aZ.bk.hm 38
    refine hQ 11 λK H=>?_
    go_simp;have aX:Bk ((a6.setCell (c_ gx 38) (i_ 2)).drew) gx 186 ({aq with e:={aq.e with hT:=2}}:X1).g8:=(aZ.bk).hJ 38 (i_ 2);have bC:Bk ((a6.setCell (c_ gx 38) (i_ 2)).drew) ay 38 #[.bool (x.sr E).r,i_ (x.sr E).n]:=(bG).h7 (p:=(c_ gx 38)) ad (i_ 2);have aE:Gr [gx] a6 ((a6.setCell (c_ gx 38) (i_ 2)).drew):=Gr.drew <| ((D_ [gx] a6)).setCell (p:=(c_ gx 38)) (.inl s_) (i_ 2);obtain⟨J,bM⟩:=nm_ ((a6.setCell (c_ gx 38) (i_ 2)).drew);rw[<-bM]at aX bC aE |-;clear bM C
    refine hS H ⟨λj hj=>by rw[aX.f_];exact l6 ({aq with e:={aq.e with hT:=2}}:X1) j hj,bC.f_ 0,bC.f_ 1⟩ λC=>?_
    clear H K;clear bU bE
    (iterate 3 refine jR C ?_)
    have b4:J.cell? (c_ gx 79)=some (.bool aq.e.v.r):=(aX.f_ 79).trans rfl;have b6:J.cell? (c_ gx 80)=some (i_ aq.e.v.n):=(aX.f_ 80).trans rfl;have bV:=aX.hm 79;have b3:=aX.hm 80
    refine hQ 15 λK H=>?_
    go_simp;have br:Bk ((J.setCell (c_ gx 79) (.bool (x.sr E).r)).setCell (c_ gx 80) (i_ (x.sr E).n)) gx 186 ({aq with e:={aq.e with hT:=2,v:=x.sr E}}:X1).g8:=((aX).hJ 79 (.bool (x.sr E).r)).hJ 80 (i_ (x.sr E).n);have bD:Bk ((J.setCell (c_ gx 79) (.bool (x.sr E).r)).setCell (c_ gx 80) (i_ (x.sr E).n)) ay 38 #[.bool (x.sr E).r,i_ (x.sr E).n]:=((bC).h7 (p:=(c_ gx 79)) ad (.bool (x.sr E).r)).h7 (p:=(c_ gx 80)) ad (i_ (x.sr E).n);have a8:Gr [gx] a6 ((J.setCell (c_ gx 79) (.bool (x.sr E).r)).setCell (c_ gx 80) (i_ (x.sr E).n)):=((aE).setCell (p:=(c_ gx 79)) (.inl s_) (.bool (x.sr E).r)).setCell (p:=(c_ gx 80)) (.inl s_) (i_ (x.sr E).n);obtain⟨bt,bR⟩:=nm_ ((J.setCell (c_ gx 79) (.bool (x.sr E).r)).setCell (c_ gx 80) (i_ (x.sr E).n));rw[<-bR]at br bD a8 |-;clear bR C
    refine hS H ⟨λj hj=>by rw[br.f_];exact l6 ({aq with e:={aq.e with hT:=2,v:=x.sr E}}:X1) j hj,bD.f_ 0,bD.f_ 1⟩ λC=>?_
    clear H K;clear b4 bV b6 b3
    iterate 3 refine jR C ?_
    refine hQ 19 λK H=>?_
    rw[Q_ r_];refine jq 49 _ _ rfl gx 39 r_ (iz aq.jN aq.sr) r_ 186 _ br (by show 39+33<=82;decide) k_ (nP _ _) ?_;intro ag aN G;rw[mY]at aN;have bu:=bD.gr G (by simpa using ad);clear C
    refine hS H ⟨λj hj=>by rw[aN.f_];exact l6 ({aq with e:={aq.e with hT:=2,v:=x.sr E,pc:=aq.jN,r:=aq.sr}}:X1) j hj,bu.f_ 0,bu.f_ 1⟩ λC=>?_
    clear H K;refine hA k_ ?_ _;go_wp2;refine en_ ?_;rw[O.out];exact⟨_,rfl,aZ.rI (x':=({aq with e:={aq.e with hT:=2,v:=x.sr E,pc:=aq.jN,r:=aq.sr}}:X1)) (a8.trans G) aN rfl rfl rfl rfl rfl rfl rfl,rfl,be.ig (a8.trans G)⟩
   .have q:decide (p.r=true/\p.n=0)=false:=EU bI;rw[q];obtain⟨r,hr⟩:=mn_ ((hM aq.p f 1).2);have D:=h_ hr;clear hr;have bB:Hid (P=if qs (hM aq.p f 1).1.jd p r=true then kA (hM aq.p f 1).1 else ti (hY (hY (hM aq.p f 1).1 1 0 p) 1 1 (x.sr E)) r.n):=h_ (by rw[bL.out,P_ bI,<-D.out]);clear q bL;have b0:aq.e.rs.l.length<=1000000:=F_ bP.rs d_
    go_upto_region 28 with(go_at_call 118;((with_reducible refine(jD b _ gx aq f 1 aZ b0).mono ?_);unfold mF;rintro e aF⟨bl,rfl,bi,bT,aC⟩;have bw:=h_ bT;clear bT;rw[D.out]))
    have bW:=j6 bP f 1;rw[<-bw.out]at bW;have ae:Hid (P=if qs bl.jd.l p r=true then kA bl.p else ti (hY (hY bl.p 1 0 p) 1 1 (x.sr E)) r.n):=h_ (by rw[bB.out,<-bw.out];rfl);clear bB Z ah;have aK:=bi.g_ ((D_ [] aF).alloc (.cells #[.bool r.r,i_ r.n] 38));have aQ:=L_ aF 38 #[.bool r.r,i_ r.n];have bm:=(bG.xg aC ad).alloc (.cells #[.bool r.r,i_ r.n] 38);have av:=(cG.xg aC b8).alloc (.cells #[.bool r.r,i_ r.n] 38);have h:=(be.trans aC).g_ ((D_ [] aF).alloc (.cells #[.bool r.r,i_ r.n] 38))
    have W:aF.heap.size≠gx:=by have:=bi.bk.lt;omega
    obtain⟨Q,bH⟩:=nm_ (aF.alloc (.cells #[.bool r.r,i_ r.n] 38));rw[<-bH]at aK aQ bm av h |-;clear bH;clear bi aC aZ be bG cG;generalize aF.heap.size=gr at*;clear bf bw D bI
    rcases zp bl.jd.l p r with hk|hk|hk|hk
    .have bQ:=h_ hk;clear hk;have k:=retKC_2 bQ.out;refine hC (λw'=>w'.cell? (c_ bz 0)=some (.bool false)/\w'.cell? (c_ gr 0)=some (.bool r.r)/\w'.cell? (c_ gr 1)=some (i_ r.n)/\w'.cell? (c_ gx 0)=some (.slice bl.jd.A bl.jd.l.length bl.jd.c)/\w'.cell? (c_ gx 1)=some (i_ bl.hq)/\w'.cell? (c_ gx 2)=some (i_ bl.g9)) 17 k_ ?_;have aV:Gr [] Q Q.drew:=(D_ [] Q).drew;obtain⟨bo,z⟩:=nm_ Q.drew;rw[<-z]at aV |-;clear z
     refine nc ⟨(((av.g_ aV)).f_ 0).trans (by rw[k];rfl),(((aQ.g_ aV)).f_ 0).trans r_,((aQ.g_ aV)).f_ 1,(((aK.g_ aV)).bk.f_ 0).trans rfl,(((aK.g_ aV)).bk.f_ 1).trans rfl,(((aK.g_ aV)).bk.f_ 2).trans rfl⟩ λC=>?_
     (iterate 4 refine jR C ?_)
     refine ih 4 (v:=undef) C ?_ (hy:=(Or.inr ⟨by kernel_rfl,rfl⟩));refine ih 5 (v:=undef) C ?_ (hy:=(Or.inr ⟨by kernel_rfl,rfl⟩))
     (iterate 2 refine jR C ?_)
     refine ih 8 (v:=undef) C ?_ (hy:=(Or.inr ⟨by kernel_rfl,rfl⟩));refine ih 9 (v:=undef) C ?_ (hy:=(Or.inr ⟨by kernel_rfl,rfl⟩));refine ih 10 (v:=undef) C ?_ (hy:=(Or.inr ⟨by kernel_rfl,rfl⟩));refine ih 11 (v:=undef) C ?_ (hy:=(Or.inr ⟨by kernel_rfl,rfl⟩));refine ih 12 (v:=undef) C ?_ (hy:=(Or.inr ⟨by kernel_rfl,rfl⟩));refine ih 13 (v:=undef) C ?_ (hy:=(Or.inr ⟨by kernel_rfl,rfl⟩));refine ih 14 (v:=undef) C ?_ (hy:=(Or.inr ⟨by kernel_rfl,rfl⟩));refine ih 15 (v:=undef) C ?_ (hy:=(Or.inr ⟨by kernel_rfl,rfl⟩));refine ih 16 C ?_;have ar:=aV;refine hA k_ ?_ _;clear C;replace aK:=aK.g_ ar;replace aQ:=aQ.g_ ar;replace av:=av.g_ ar;replace bm:=bm.g_ ar;replace h:=h.g_ ar;clear ar aV
     have bp:qs bl.jd.l p r=true:=by unfold qs;simp[k]
     clear k bQ;exact He
    .have bQ:=h_ hk;clear hk;obtain⟨k,b5⟩:=retKC_3 bQ.out;refine hC (λw'=>w'.cell? (c_ bz 0)=some (.bool true)/\w'.cell? (c_ gr 0)=some (.bool true)/\w'.cell? (c_ gr 1)=some (i_ r.n)/\w'.cell? (c_ gx 0)=some (.slice bl.jd.A bl.jd.l.length bl.jd.c)/\w'.cell? (c_ gx 1)=some (i_ bl.hq)/\w'.cell? (c_ gx 2)=some (i_ bl.g9)) 17 k_ ?_;have aV:Gr [] Q Q.drew:=(D_ [] Q).drew;obtain⟨bo,z⟩:=nm_ Q.drew;rw[<-z]at aV |-;clear z
     refine nc ⟨(((av.g_ aV)).f_ 0).trans (by rw[k];rfl),(((aQ.g_ aV)).f_ 0).trans (by rw[b5];rfl),((aQ.g_ aV)).f_ 1,(((aK.g_ aV)).bk.f_ 0).trans rfl,(((aK.g_ aV)).bk.f_ 1).trans rfl,(((aK.g_ aV)).bk.f_ 2).trans rfl⟩ λC=>?_
     (iterate 8 refine jR C ?_)
     refine ih 8 (v:=undef) C ?_ (hy:=(Or.inr ⟨by kernel_rfl,rfl⟩));refine ih 9 (v:=undef) C ?_ (hy:=(Or.inr ⟨by kernel_rfl,rfl⟩));refine ih 10 (v:=undef) C ?_ (hy:=(Or.inr ⟨by kernel_rfl,rfl⟩));refine ih 11 (v:=undef) C ?_ (hy:=(Or.inr ⟨by kernel_rfl,rfl⟩));refine ih 12 (v:=undef) C ?_ (hy:=(Or.inr ⟨by kernel_rfl,rfl⟩));refine ih 13 (v:=undef) C ?_ (hy:=(Or.inr ⟨by kernel_rfl,rfl⟩));refine ih 14 (v:=undef) C ?_ (hy:=(Or.inr ⟨by kernel_rfl,rfl⟩));refine ih 15 (v:=undef) C ?_ (hy:=(Or.inr ⟨by kernel_rfl,rfl⟩));refine ih 16 C ?_;have ar:=aV;refine hA k_ ?_ _;clear C;replace aK:=aK.g_ ar;replace aQ:=aQ.g_ ar;replace av:=av.g_ ar;replace bm:=bm.g_ ar;replace h:=h.g_ ar;clear ar aV
     have bp:qs bl.jd.l p r=true:=by unfold qs;simp[b5]
     clear k b5 bQ;exact He
    .have bQ:=h_ hk;clear hk;obtain⟨k,b5,Y⟩:=retKC_45 (.inl rfl) bQ.out;replace Y:iX bl.jd.l r.n=false:=Y;refine hC (λw'=>w'.cell? (c_ bz 0)=some (.bool true)/\w'.cell? (c_ gr 0)=some (.bool false)/\w'.cell? (c_ gr 1)=some (i_ r.n)/\w'.cell? (c_ gx 0)=some (.slice bl.jd.A bl.jd.l.length bl.jd.c)/\w'.cell? (c_ gx 1)=some (i_ bl.hq)/\w'.cell? (c_ gx 2)=some (i_ bl.g9)) 17 k_ ?_;have aV:Gr [] Q Q.drew:=(D_ [] Q).drew;obtain⟨bo,z⟩:=nm_ Q.drew;rw[<-z]at aV |-;clear z
     refine nc ⟨(((av.g_ aV)).f_ 0).trans (by rw[k];rfl),(((aQ.g_ aV)).f_ 0).trans (by rw[b5];rfl),((aQ.g_ aV)).f_ 1,(((aK.g_ aV)).bk.f_ 0).trans rfl,(((aK.g_ aV)).bk.f_ 1).trans rfl,(((aK.g_ aV)).bk.f_ 2).trans rfl⟩ λC=>?_
     iterate 14 refine jR C ?_
     refine hQ 14 λK H=>?_
     go_simp
     (go_at_call 162;have q:=oH bl.jd.A bl.jd.c bl.jd.l bl.hq bl.g9 r.n bo (aK.g_ aV).CM aK.il;rw[Y]at q;refine q.mono ?_;rintro e bJ⟨rfl,aW⟩)
     have ar:=aV.trans aW;clear C
     refine hS H ⟨(((av.g_ ar)).f_ 0).trans (by rw[k];rfl),(((aQ.g_ ar)).f_ 0).trans (by rw[b5];rfl),((aQ.g_ ar)).f_ 1,(((aK.g_ ar)).bk.f_ 0).trans rfl,(((aK.g_ ar)).bk.f_ 1).trans rfl,(((aK.g_ ar)).bk.f_ 2).trans rfl⟩ λC=>?_
     clear H K
     (iterate 2 refine jR C ?_)
     refine hA k_ ?_ _;clear C;replace aK:=aK.g_ ar;replace aQ:=aQ.g_ ar;replace av:=av.g_ ar;replace bm:=bm.g_ ar;replace h:=h.g_ ar;clear ar aV
     have bp:qs bl.jd.l p r=true:=by unfold qs;simp[Y]
     clear k b5 Y bQ;have O:Hid (P=({bl with hF:=true}:X1).p):=h_ (by rw[ae.out,Q_ bp];rfl);clear bp ae;have m:bJ.cell? (c_ gx 81)=some (.bool bl.hF):=(aK.bk.f_ 81).trans rfl;exact HR
    .have bQ:=h_ hk;clear hk;obtain⟨k,b5,Y⟩:=retKC_45 (.inr rfl) bQ.out;replace Y:iX bl.jd.l r.n=true:=Y;refine hC (λw'=>w'.cell? (c_ bz 0)=some (.bool true)/\w'.cell? (c_ gr 0)=some (.bool false)/\w'.cell? (c_ gr 1)=some (i_ r.n)/\w'.cell? (c_ gx 0)=some (.slice bl.jd.A bl.jd.l.length bl.jd.c)/\w'.cell? (c_ gx 1)=some (i_ bl.hq)/\w'.cell? (c_ gx 2)=some (i_ bl.g9)) 17 k_ ?_;have aV:Gr [] Q Q.drew:=(D_ [] Q).drew;obtain⟨bo,z⟩:=nm_ Q.drew;rw[<-z]at aV |-;clear z
     refine nc ⟨(((av.g_ aV)).f_ 0).trans (by rw[k];rfl),(((aQ.g_ aV)).f_ 0).trans (by rw[b5];rfl),((aQ.g_ aV)).f_ 1,(((aK.g_ aV)).bk.f_ 0).trans rfl,(((aK.g_ aV)).bk.f_ 1).trans rfl,(((aK.g_ aV)).bk.f_ 2).trans rfl⟩ λC=>?_
     iterate 14 refine jR C ?_
     refine hQ 14 λK H=>?_
     go_simp
     (go_at_call 162;have q:=oH bl.jd.A bl.jd.c bl.jd.l bl.hq bl.g9 r.n bo (aK.g_ aV).CM aK.il;rw[Y]at q;refine q.mono ?_;rintro e bJ⟨rfl,aW⟩)
     have ar:=aV.trans aW;clear C
     refine hS H ⟨(((av.g_ ar)).f_ 0).trans (by rw[k];rfl),(((aQ.g_ ar)).f_ 0).trans (by rw[b5];rfl),((aQ.g_ ar)).f_ 1,(((aK.g_ ar)).bk.f_ 0).trans rfl,(((aK.g_ ar)).bk.f_ 1).trans rfl,(((aK.g_ ar)).bk.f_ 2).trans rfl⟩ λC=>?_
     clear H K
     (iterate 2 refine jR C ?_)
     refine hA k_ ?_ _;clear C;replace aK:=aK.g_ ar;replace aQ:=aQ.g_ ar;replace av:=av.g_ ar;replace bm:=bm.g_ ar;replace h:=h.g_ ar;clear ar aV
     have bp:qs bl.jd.l p r=false:=by unfold qs;simp[k,b5,Y]
     clear k b5 Y bQ;have O:Hid (P=ti (hY (hY bl.p 1 0 p) 1 1 (x.sr E)) r.n):=h_ (by rw[ae.out,P_ (by rw[bp];decide)]);clear bp ae;have d4:bl.e.ws.l.length<=1000000:=F_ bW.ws d_;have Z:=av.f_ 0;have ah:=av.f_ 1
     go_upto_region 31 with(go_at_call 163;((with_reducible refine(jT b _ gx bl 1 0 p aK d4).mono ?_);unfold kE;rintro e bJ⟨bZ,rfl,au,aO,bq⟩;have M:=h_ aO;clear aO))
     have b7:=h_ M.out;clear M;have aJ:=au;have b9:=h.trans bq;have bN:=bm.xg bq ad;have a2:=aQ.xg bq W
     have dy:bZ.e.ws.l.length<=1000000:=by
      have e:bZ.e.ws.l=bl.e.ws.l++[⟨1,0,p⟩]:=D9 (λp:XP=>p.e.ws) b7.out;rw[e,H_]
      have:=bW.ws
      have aL:bl.p.e.ws.length=bl.e.ws.l.length:=rfl;simp only[D3,EB];omega
     clear au bq Z ah;have Z:=bN.f_ 0;have ah:=bN.f_ 1
     go_upto_region 32 with(go_at_call 163;((with_reducible refine(jT b _ gx bZ 1 1 (x.sr E) aJ dy).mono ?_);unfold kE;rintro e ag⟨ax,rfl,au,aO,bq⟩;have M:=h_ aO;clear aO))
     have aI:=h_ M.out;clear M;have F:=au;have aG:=b9.trans bq;have az:=a2.xg bq W;clear au bq Z ah
     have ak:Hid (P=({ax with e:={ax.e with pc:=r.n}}:X1).p):=h_ (by
      rw[O.out,<-b7.out,<-aI.out]
      rfl)
     have ah:=az.f_ 1;have bS:ag.cell? (c_ gx 39)=some (i_ ax.e.pc):=(F.bk.f_ 39).trans rfl;have bn:=F.bk.hm 39;go_wp2;have bg:=F.set (x':={ax with e:={ax.e with pc:=r.n}}) 39 (i_ r.n) rfl rfl rfl rfl rfl rfl rfl rfl;refine en_ ?_;rw[ak.out];exact⟨_,rfl,bg,rfl,aG.ig ((D_ [gx] _).setCell (.inl s_) _)⟩
theorem xU{P:Program}{w:World}{ops:Array Oper}{o:Oper}{a:Act}{K:Act->World->Prop}{Q:Exit->Act->World->Prop}{E:Prop}(ap:o.guard=none)(s x:Operand)(t:TypeId)
 (ho:o.op=.call {callee:=.builtin .append,args:=#[s,x],argTypes:=#[t,t]})
 (base:Nat) (e:TypeId) (i:TypeInfo) (z:Value) (size bytes:Nat) (X:P.underlying t=some (.slice e)) (hi:P.info? e=some i) (hz:i.zero=some z)
 (C:i.size=size) (y:i.bytes=bytes) (D:z.cells.size=size) (au:0<size)
 (v:Value) (n:Nat) (xs:List Value) (hs:a.eval s=v) (ao:w.ownsRow base e size v n xs)
 (d:Addr) (m c:Nat) (news:List Value) (I:a.eval x=.slice (some d) m c) (hl:news.length=m*size) (k:∀j u,news[j]?=some u->w.cell? (d.add j)=some u) (h1:∀u∈news,u.oneCell'=true)
 (l:n+m<=maxLen) (f:(n+m)*bytes<=140737488355328) (aL:base<=w.heap.size)
 (h:∀(A':Option Addr) (c':Nat) (w':World),w'.ownsRow base e size (.slice A' (n+m) c') (n+m) (xs++news)->w.grownBy w' v.ownBlock->K (a.put o.dst (.slice A' (n+m) c')) w'):
 if Region.wanted o (yielded ops a.tmps)=true then Oper.wp P o a w K Q else E:=by
 have aK:Region.wanted o (yielded ops a.tmps)=true:=by simp[Region.wanted,ap]
 rw[Q_ aK];obtain⟨v',w',H,h2,h3,_⟩:=run_append_own (P:=P) w base t o.type e i z size bytes X hi hz C y D au v n xs ao d m c news hl k h1 l f aL;have hf:∃A' c',v'=.slice A' (n+m) c':=I7;obtain⟨A',c',rfl⟩:=hf;exact K4
theorem y9(k:Nat)(hk:k<=16):∀j u,(iR ((List.range k).map x.sr))[j]?=some u->x.g8[4+j]?=some u:=by
 intro j u hj
 have aj:j<k*2:=by
  have:=(Fh.1 hj).1
  rw[lD,Et,Fk]at this;exact this
 have h2:j=(j / 2)*2+j % 2:=by omega
 have hg:(iR ((List.range k).map x.sr))[(j / 2)*2+j % 2]?=(Vl.E (x.sr (j / 2)))[j % 2]?:=by
  unfold iR;rw[jL Vl.E (λ_=>rfl) _ (j / 2) (j % 2) (by rw[Et,Fk];omega) o_,E7,Fg]
 rw[<-h2,hj]at hg;obtain⟨s1,b6⟩:=mU x (j / 2) o_
 rcases Fz j with h|h
 .rw[h]at hg h2
  have e:4+j=4+j / 2*2:=by omega
  rw[e,s1];exact hg.symm
 .rw[h]at hg h2
  have e:4+j=4+j / 2*2+1:=by omega
  rw[e,b6];exact hg.symm
theorem zC(u v z:Vl):(w.alloc (.cells #[.bool u.r,i_ u.n,.bool v.r,i_ v.n,.bool z.r,i_ z.n] 38)).ownsRow w.heap.size 38 2 (.slice (j_ w.heap.size) 3 3) 3 (iR [u,v,z]):=
 ⟨rfl,.inr ⟨w.heap.size,3,_,rfl,G_ _,FX w _,G_ _,by decide,rfl,rfl⟩⟩
theorem rest_13(b w:World)(gx:Nat)(x:X1)(E d m:Nat)(n:Int)(L:ke b w gx x)(hb:d<=16)(Y:m<=1000000)(b4: -1<=x.jN)(bo:x.jN<=1000000)(ha:E<16)(hs:x.p.e.sm 800000):
 Calls prog 121 #[q_ gx,.agg #[i_ 13,i_ (E:Int),i_ (d:Int),i_ ((d:Int)+(m:Int)),i_ n]] w (kE (.tuple #[]) (j5 x.p ⟨13,E,d,((d:Int)+(m:Int)),n⟩) b gx w):=by
 obtain⟨R,a,I,A,g,N,aH,t⟩:=rJ L #[i_ 13,i_ (E:Int),i_ (d:Int),i_ ((d:Int)+(m:Int)),i_ n]
 go_enter func121,ntmps121
 go_upto_region 1 with fail
 clear I A;have Z:=N.f_ 0;have ap:Gr [] R R.drew:=(D_ [] R).drew;refine hC (λw'=>(w'.cell? (c_ a 0)=some (i_ 13)/\w'.cell? (c_ a 1)=some (i_ (E:Int))/\w'.cell? (c_ a 2)=some (i_ (d:Int))/\w'.cell? (c_ a 3)=some (i_ ((d:Int)+(m:Int)))/\w'.cell? (c_ a 4)=some (i_ n))/\w'.cell? (c_ gx (4+E*2))=some (.bool (x.sr E).r)/\w'.cell? (c_ gx (4+E*2+1))=some (i_ (x.sr E).n)) 10 k_ ?_;have C:=And.intro N.drew.c5 (u0 (g.bk.drew) ha)
 have e0:(0:Int)<=(E:Int):=by omega
 have aP:(E:Int)<16:=by omega
 iterate 8 refine jR C ?_
 refine hQ 8 λK H=>?_
 go_simp;clear C
 refine hS H (rW N g.bk ha) λC=>?_
 clear H K
 refine hQ 9 λK H=>?_
 go_simp;clear C
 refine hS H (rW N g.bk ha) λC=>?_
 clear H K;refine hA k_ ?_ _;obtain⟨bh,ay,bF,fo,V,aD,bK,aM,ad⟩:=yH g N aH #[.bool (x.sr E).r,i_ (x.sr E).n];rw[bF,fo];clear bF fo g N aH ap C;have Z:=aD.f_ 0
 go_upto_region 16 with(go_at_call 161;((with_reducible refine(mB b _ gx x V (F_ hs.rs d_)).mono ?_);unfold ue;rintro e ai⟨ao,rfl,B,bO,S⟩;have an:=h_ bO;clear bO))
 clear Z;have aR:=lK hs;rw[<-an.out]at aR;have b0:=tG x.p;rw[<-an.out]at b0;obtain⟨f,bj⟩:=mn_ ((hK x.p).2.1);rw[bj];have aU:=h_ bj;clear bj;generalize (hK x.p).2.2=bY at*
 have aT:Hid ((j5 x.p ⟨13,E,d,((d:Int)+(m:Int)),n⟩)=ti (hY {ao.p with e:={ao.p.e with nw:=[⟨ao.nx,[⟨true,f⟩,⟨false,ao.jN+1⟩,default]++((List.range d).map ao.sr++List.replicate m default)⟩]}} 1 0 ⟨true,ao.nx⟩) n):=h_ (by
  have aP:(((d:Int)+(m:Int))-(d:Int)).toNat=m:=by omega
  show ti (hY {(hK x.p).1 with e:={(hK x.p).1.e with nw:=[⟨(hK x.p).1.nx,[⟨true,(hK x.p).2.1⟩,⟨false,(hK x.p).1.jN+1⟩,default]++((List.range (d:Int).toNat).map (hK x.p).1.sr++List.replicate (((d:Int)+(m:Int))-(d:Int)).toNat default)⟩]}} 1 0 ⟨true,(hK x.p).1.nx⟩) n=_
  rw[aP,aU.out,<-an.out]
  rfl)
 clear an aU;have br:ao.jN=x.jN:=b0.jN
 have hq0: -1<=ao.jN:=by rw[br];exact b4
 have hq1:ao.jN<=1000000:=by rw[br];exact bo
 clear br b0;have ak:=aD.xg S t;have l:=aM.trans S;have aw:ao.e.ws.l.length<=1000000:=F_ aR.ws d_;clear V aD bK aM S aR;have aF:ai.cell? (c_ gx 3)=some (i_ ao.jN):=(B.bk.f_ 3).trans rfl
 go_upto_region 17 with fail
 clear aF;obtain⟨ar,z,P,s,ax⟩:=info_parts infoVl;have cv:=zC ai ⟨true,f⟩ ⟨false,ao.jN+1⟩ default;have af:Gr [] ai (ai.alloc (.cells #[.bool true,i_ f,.bool false,i_ (ao.jN+1),.bool false,i_ 0] 38)).drew:=((D_ [] ai).alloc _).drew;refine hC (λw'=>w'.cell? (c_ a 0)=some (i_ 13)/\w'.cell? (c_ a 1)=some (i_ (E:Int))/\w'.cell? (c_ a 2)=some (i_ (d:Int))/\w'.cell? (c_ a 3)=some (i_ ((d:Int)+(m:Int)))/\w'.cell? (c_ a 4)=some (i_ n)) 10 k_ ?_;have c:(ai.alloc (.cells #[.bool true,i_ f,.bool false,i_ (ao.jN+1),.bool false,i_ 0] 38)).drew.ownsRow ai.heap.size 38 2 (.slice (j_ ai.heap.size) 3 3) 3 (iR [⟨true,f⟩,⟨false,ao.jN+1⟩,default]):=iu cv ((D_ [] _).drew);clear cv;obtain⟨bG,cu⟩:=nm_ ((ai.alloc (.cells #[.bool true,i_ f,.bool false,i_ (ao.jN+1),.bool false,i_ 0] 38)).drew);rw[<-cu]at af c |-;clear cu;have C:bG.cell? (c_ a 0)=some (i_ 13)/\bG.cell? (c_ a 1)=some (i_ (E:Int))/\bG.cell? (c_ a 2)=some (i_ (d:Int))/\bG.cell? (c_ a 3)=some (i_ ((d:Int)+(m:Int)))/\bG.cell? (c_ a 4)=some (i_ n):=(ak.g_ af).c5
 have aL:(0:Int)<=(d:Int):=by omega
 have bN:(d:Int)<=16:=by omega
 iterate 8 refine jR C ?_
 refine hQ 8 λK H=>?_
 refine xU rfl _ _ _ rfl ai.heap.size 38 ar _ 2 16 underlying54 z P s ax rfl d_ _ 3 _ r_ c (c_ gx 4) d 16 (iR ((List.range d).map ao.sr)) r_ (by rw[lD,Et,Fk]) (λj u hj=>by rw[mD,(B.g_ af).bk.f_];exact y9 ao d o_ j u hj) (l7 _) (by simp only[maxLen];omega) o_ af.size ?_;intro a6 c5 ae aX dt;have am:Gr [] ai ae:=af.grown dt (λk hk=>.inr (c.lt k hk).1);clear C
 refine hS H (ak.g_ am).c5 λC=>?_
 clear H K;refine ih 9 C ?_;refine hA k_ ?_ _;clear C c dt af
 go_upto_region 18 with fail
 refine hC (λw'=>(w'.cell? (c_ a 0)=some (i_ 13)/\w'.cell? (c_ a 1)=some (i_ (E:Int))/\w'.cell? (c_ a 2)=some (i_ (d:Int))/\w'.cell? (c_ a 3)=some (i_ ((d:Int)+(m:Int)))/\w'.cell? (c_ a 4)=some (i_ n))/\w'.cell? (c_ gx 37)=some (i_ ao.nx)) 17 k_ ?_;replace aX:ae.drew.ownsRow ai.heap.size 38 2 (.slice a6 (3+d) c5) (3+d) (iR [⟨true,f⟩,⟨false,ao.jN+1⟩,default]++iR ((List.range d).map ao.sr)):=aX;replace am:Gr [] ai ae.drew:=am.drew;obtain⟨bt,G⟩:=nm_ ae.drew;rw[<-G]at am aX |-;clear G
 refine nc ⟨(ak.g_ am).c5,((B.g_ am).bk.f_ 37).trans rfl⟩ λC=>?_
 (iterate 10 refine jR C ?_)
 refine ih 10 (v:=i_ (m:Int)) C ?_ (hy:=(Or.inl ⟨by rfl,by(intro w' bA;(try dsimp only at bA);(have e:IntKind.i64.wrap ((d:Int)+(m:Int)-(d:Int))=(m:Int):=(by rw[E8];omega);go_simp;try(first|with_reducible rfl|(rw[e]))))⟩))
 refine hQ 11 λK H=>?_
 refine xT rfl _ _ _ _ rfl .i64 underlying3 ai.heap.size 38 ar _ 2 16 underlying54 z P s ax rfl d_ d_ m (uh m) _ (3+d) _ r_ aX .i64 r_ (by simp only[maxLen];omega) o_ am.size ?_;intro aJ aK Q cj X;have aC:Gr [] ai Q:=am.grown X (λk hk=>.inr (aX.lt k hk).1);clear C X aX am
 refine hS H ⟨(ak.g_ aC).c5,((B.g_ aC).bk.f_ 37).trans rfl⟩ λC=>?_
 clear H K;refine ih 12 C ?_
 refine hQ 13 λK H=>?_
 go_simp;have bC:Gr [] Q (Q.alloc (.cells #[i_ ao.nx,.slice aJ (3+d+m) aK] 56)):=(D_ [] Q).alloc _;have aW:Gr [] ai (Q.alloc (.cells #[i_ ao.nx,.slice aJ (3+d+m) aK] 56)):=aC.trans bC;have av:Bk (Q.alloc (.cells #[i_ ao.nx,.slice aJ (3+d+m) aK] 56)) Q.heap.size 56 #[i_ ao.nx,.slice aJ (3+d+m) aK]:=L_ Q _ _;have ce:=iu cj bC;clear C
 refine hS H ⟨(ak.g_ aW).c5,((B.g_ aW).bk.f_ 37).trans rfl⟩ λC=>?_
 clear H K;clear cj aC bC;obtain⟨bR,bT⟩:=nm_ (Q.alloc (.cells #[i_ ao.nx,.slice aJ (3+d+m) aK] 56));rw[<-bT]at av aW ce C |-;clear bT;generalize Q.heap.size=i at*;have aZ:=B.g_ aW;have y:=ak.g_ aW;have be:=l.g_ aW
 (iterate 3 refine jR C ?_)
 have ah:bR.cell? (c_ gx 74)=some (.slice ao.e.nw.A ao.e.nw.l.length ao.e.nw.c):=(aZ.bk.f_ 74).trans rfl;have U:=aZ.bk.hm 74;have M:=(D_ [gx] bR).setCell (p:=(c_ gx 74)) (.inl s_) (.slice (j_ i) 1 1);have a2:Bk (bR.setCell (c_ gx 74) (.slice (j_ i) 1 1)) gx 186 ({ao with e:={ao.e with nw:=⟨some (c_ i 0),1,[⟨⟨ao.nx,[⟨true,f⟩,⟨false,ao.jN+1⟩,default]++((List.range d).map ao.sr++List.replicate m default)⟩,aJ,aK⟩]⟩}}:X1).g8:=aZ.bk.hJ 74 (.slice (j_ i) 1 1)
 have aI:([⟨true,f⟩,⟨false,ao.jN+1⟩,default]++((List.range d).map ao.sr++List.replicate m default):List Vl).length=3+d+m:=by simp only[H_,D3,EB,Et,Fk,EE];omega
 have ag:Vs bR aJ ([⟨true,f⟩,⟨false,ao.jN+1⟩,default]++((List.range d).map ao.sr++List.replicate m default)):=by
  have q:=Sl.iG ce
  have e:iR ([⟨true,f⟩,⟨false,ao.jN+1⟩,default]++((List.range d).map ao.sr++List.replicate m default))=(iR [⟨true,f⟩,⟨false,ao.jN+1⟩,default]++iR ((List.range d).map ao.sr)++(Builtin.zeroCells #[.bool false,i_ 0] m).toList):=by rw[nU,nU,uL,Er]
  unfold Vs;rw[e,aI];exact q
 have W:Os bR (j_ i) [⟨⟨ao.nx,[⟨true,f⟩,⟨false,ao.jN+1⟩,default]++((List.range d).map ao.sr++List.replicate m default)⟩,aJ,aK⟩]:=by
  have q:=xw (r:=⟨⟨ao.nx,[⟨true,f⟩,⟨false,ao.jN+1⟩,default]++((List.range d).map ao.sr++List.replicate m default)⟩,aJ,aK⟩) (by
   show Bk bR i 56 #[i_ ao.nx,.slice aJ ([⟨true,f⟩,⟨false,ao.jN+1⟩,default]++((List.range d).map ao.sr++List.replicate m default):List Vl).length aK]
   rw[aI]
   exact av)
  exact q
 have az:mW bR [⟨⟨ao.nx,[⟨true,f⟩,⟨false,ao.jN+1⟩,default]++((List.range d).map ao.sr++List.replicate m default)⟩,aJ,aK⟩]:=by
  intro r hr
  have:r=⟨⟨ao.nx,[⟨true,f⟩,⟨false,ao.jN+1⟩,default]++((List.range d).map ao.sr++List.replicate m default)⟩,aJ,aK⟩:=by simpa using hr
  subst this;exact⟨ag,by show([⟨true,f⟩,⟨false,ao.jN+1⟩,default]++((List.range d).map ao.sr++List.replicate m default):List Vl).length<=1000000000;rw[aI];omega⟩
 have F:=aZ.AD (x':=({ao with e:={ao.e with nw:=⟨some (c_ i 0),1,[⟨⟨ao.nx,[⟨true,f⟩,⟨false,ao.jN+1⟩,default]++((List.range d).map ao.sr++List.replicate m default)⟩,aJ,aK⟩]⟩}}:X1)) M a2 rfl rfl rfl rfl W az aZ.ds aZ.hU (G_ 1) aZ.rL aZ.px;have aG:=be.ig M;have o:=y.gr M (by simpa using t)
 refine hQ 17 λK H=>?_
 go_simp;refine H.out _ _ (λh=>D6 h d_) ?_;clear H K
 try simp only[a_]
 clear C aZ y be ag av W az a2 ah U M ce aW B ak l;obtain⟨bQ,J⟩:=nm_ ({ao with e:={ao.e with nw:=⟨some (c_ i 0),1,[⟨⟨ao.nx,[⟨true,f⟩,⟨false,ao.jN+1⟩,default]++((List.range d).map ao.sr++List.replicate m default)⟩,aJ,aK⟩]⟩}}:X1);rw[<-J]at F;have O:Hid ((j5 x.p ⟨13,E,d,((d:Int)+(m:Int)),n⟩)=ti (hY bQ.p 1 0 ⟨true,bQ.nx⟩) n):=h_ (by rw[aT.out,J];rfl)
 have d5:bQ.e.ws.l.length<=1000000:=by rw[J];exact aw
 clear J aT aI;obtain⟨bl,bV⟩:=nm_ (bR.setCell (c_ gx 74) (.slice (j_ i) 1 1));rw[<-bV]at F o aG |-;clear bV;refine hA k_ ?_ _;have aE:bl.cell? (c_ gx 37)=some (i_ bQ.nx):=(F.bk.f_ 37).trans rfl
 go_upto_region 20 with(go_at_call 163;((with_reducible refine(jT b _ gx bQ 1 0 ⟨true,bQ.nx⟩ F d5).mono ?_);unfold kE;rintro e T⟨aq,rfl,aj,aS,af⟩;have bf:=h_ aS;clear aS))
 have aB:=aG.trans af;have au:=o.xg af t;have aV:=au.f_ 4;have bS:T.cell? (c_ gx 39)=some (i_ aq.e.pc):=(aj.bk.f_ 39).trans rfl;have bn:=aj.bk.hm 39;clear aE;go_wp2;have bg:=aj.set (x':={aq with e:={aq.e with pc:=n}}) 39 (i_ n) rfl rfl rfl rfl rfl rfl rfl rfl;refine en_ ?_;rw[O.out,<-bf.out];exact⟨_,rfl,bg,rfl,aB.ig ((D_ [gx] _).setCell (.inl s_) _)⟩
end Go.Proofs.YtenbhdilndfaeaaGreat
