import Derived.Test.YtenbhdilndfaeaaGreatR22
import Derived.Test.YtenbhdilndfaeaaGreatR24
set_option maxRecDepth 100000
set_option maxHeartbeats 0
set_option linter.all false
namespace Go.Proofs.YtenbhdilndfaeaaGreat
open Go.RowKit Go.Proofs.Tryz
variable{G:Prop}{P S:Int->Prop}{w:World}{ops:Array Oper}{o:Oper}{a:Act}{K:Act->World->Prop}{Q:Exit->Act->World->Prop}{t:TypeId}{l:List In}{h:List Ob}(x:X1)
def If(h:G:=by
 refine k2 rfl rfl r_ r_ r_ bo ?_;have i:J [] s bi:=p5 o aL (H_ _);clear C
 refine hX MT (D.g_ i).c5 λC=>?_
 clear MT K
 refine hV 7 λK MT=>?_
 go_simp
 refine hX MT C λC=>?_
 clear MT K
 refine hV 10 λK MT=>?_
 have bQ:(Instr.lookup 263 (.map (some s.heap.size)) (Y 15) false).run prog bi=.ok (Y 1) bi:=dq.lookup (show(Lit.int .i64 15).wf=true by decide);refine nY rfl rfl r_ r_ bQ ?_;clear bQ
 refine hX MT C λC=>?_
 clear MT K;have m:=B.g_ i;have y:=l.g_ i;have q:=D.g_ i;clear C j dq bo k Q aE o aL i B D l
 refine hV 11 λK MT=>?_
 go_simp
 (go_at_call 118;((with_reducible refine(jL b gx ao 1 1 m bR).mono ?_);unfold m8;rintro e T⟨MP,rfl,aD,aZ,af⟩;have be:=O aZ;clear aZ;rw[aO.out]))
 exact Io):G:=h
def Ig(h:G:=by
 refine k2 rfl rfl r_ r_ r_ bo ?_;have i:J [] s bi:=p5 o aL (H_ _);clear C
 refine hX MT (D.g_ i).c5 λC=>?_
 clear MT K
 refine hV 7 λK MT=>?_
 go_simp
 refine hX MT C λC=>?_
 clear MT K
 refine hV 10 λK MT=>?_
 have bQ:(Instr.lookup 263 (.map (some s.heap.size)) (Y 18) false).run prog bi=.ok (Y 2) bi:=dq.lookup (show(Lit.int .i64 18).wf=true by decide);refine nY rfl rfl r_ r_ bQ ?_;clear bQ
 refine hX MT C λC=>?_
 clear MT K;have m:=B.g_ i;have y:=l.g_ i;have q:=D.g_ i;clear C j dq bo k Q aE o aL i B D l
 refine hV 11 λK MT=>?_
 go_simp
 (go_at_call 118;((with_reducible refine(jL b gx ao 1 2 m bR).mono ?_);unfold m8;rintro e T⟨MP,rfl,aD,aZ,af⟩;have be:=O aZ;clear aZ;rw[aO.out]))
 exact Io):G:=h
def Io(h:G:=by
 have ag:=q.xg af t
 refine hX MT ag.c5 λC=>?_
 clear MT K;refine iH 16 C ?_;have bG:T.cell? (Z gx (40+E*2))=some (.bool (MP.e.r E).r):=(aD.bk.f_ _).trans (ke MP E ha).1;have q1:T.cell? (Z gx (40+E*2+1))=some (Y (MP.e.r E).n):=(aD.bk.f_ _).trans (ke MP E ha).2;have f0:=aD.bk.hm (40+E*2);have f1:=aD.bk.hm (40+E*2+1)
 refine hV 17 λK MT=>?_
 go_simp
 have aP:Bk ((T.setCell (Z gx (40+E*2)) (.bool v.r)).setCell (Z gx (40+E*2+1)) (Y v.n)) gx 186 (({MP with e:={MP.e with r:=pJ MP.e.r E v}}:X1)).g8:=by rw[<-mD MP v E ha];exact(aD.bk.hN (40+E*2) (.bool v.r)).hN (40+E*2+1) (Y v.n)
 have M:J [gx] T ((T.setCell (Z gx (40+E*2)) (.bool v.r)).setCell (Z gx (40+E*2+1)) (Y v.n)):=(((H [gx] T).setCell (p:=(Z gx (40+E*2))) (.inl s_) (.bool v.r)).setCell (p:=(Z gx (40+E*2+1))) (.inl s_) (Y v.n));refine MT.out _ _ (λh=>U_ h I) ?_;clear MT K
 try simp only[a_]
 refine hC k_ ?_ _;go_wp2;refine en_ ?_;rw[aW.out,<-be.out];exact⟨_,rfl,aD.sG M aP rfl rfl rfl rfl rfl rfl rfl,rfl,(y.trans af).ir M⟩):G:=h
def IW(h:G:=by
 have ap:Hid (P=({aP with hH:=true}:X1).p):=O (by rw[aU.out,O_ bn];rfl);clear bn aU;have d:bh.cell? (Z gx 81)=some (.bool aP.hH):=(aE.bk.f_ 81).trans rfl;exact Jy):G:=h
def Jy(h:G:=by
 have U:=aE.bk.hm 81;go_wp2;have bm:=aE.set (x':={aP with hH:=true}) 81 (.bool true) rfl rfl rfl rfl rfl rfl rfl rfl;refine rn_ ?_;rw[ap.out];exact⟨_,rfl,bm,rfl,h.ir ((H [gx] _).setCell (.inl s_) _)⟩):G:=h
def LN(h:G:=by
 rw[F]at d;clear F;go_wp2;refine en_ ?_;rw[ap.out];exact⟨ao,rfl,B,rfl,l⟩):G:=h
def qU{P:Program}{E:Prop}(d:o.guard=none)(e:o.op=.makeMap t none)(h:K (a.put o.dst (.map (some w.heap.size))) (w.alloc (.map #[] 0))):
 if Region.wanted o (yielded ops a.tmps)=true then Oper.wp P o a w K Q else E:=by
 have c:Region.wanted o (yielded ops a.tmps)=true:=by simp[Region.wanted,d]
 rw[O_ c];have b:(Instr.makeMap t none).run P w=.ok (.map (some w.heap.size)) (w.alloc (.map #[] 0)):=rfl;unfold Oper.wp execOp;simp only[e,Option.map_none,Sem.run_bind,Sem.run_pure,Result.andThen_ok,b];exact h
def p5{b:Nat}{w':World}(e:w.grownBy w' (some b)){a:World}(h:J [] a w)(d:a.heap.size<=b):J [] a w':=
 h.grown e (λf c=>by injection c with c;subst c;exact .inr d)
def rest_15(b w:World)(gx:Nat)(x:X1)(E:Nat)(f c:Int)(n:Int)(L:ks b w gx x)(ha:E<16)(hs:x.p.e.sm 800000):
 Calls prog 121 #[q_ gx,.agg #[Y 15,Y (E:Int),Y f,Y c,Y n]] w (kW (.tuple #[]) (jH x.p ⟨15,E,f,c,n⟩) b gx w):=by
 obtain⟨P,W⟩:=mn_ (jH x.p ⟨15,E,f,c,n⟩);rw[W];have ad:=O W;clear W;obtain⟨R,a,aI,ae,z,g,aF,t⟩:=sH L #[Y 15,Y (E:Int),Y f,Y c,Y n]
 go_enter func121,ntmps121
 go_upto_region 1 with fail
 clear aI ae;have MN:=g.f_ 0;have aq:J [] R R.drew:=(H [] R).drew;refine hI (λw'=>(w'.cell? (Z a 0)=some (Y 15)/\w'.cell? (Z a 1)=some (Y (E:Int))/\w'.cell? (Z a 2)=some (Y f)/\w'.cell? (Z a 3)=some (Y c)/\w'.cell? (Z a 4)=some (Y n))/\w'.cell? (Z gx (4+E*2))=some (.bool (x.sr E).r)/\w'.cell? (Z gx (4+E*2+1))=some (Y (x.sr E).n)) 10 k_ ?_;have C:=And.intro g.drew.c5 (vL (z.bk.drew) ha);have e0:(0:Int)<=(E:Int):=X;have aC:(E:Int)<16:=X
 iterate 8 refine jW C ?_
 refine hV 8 λK MT=>?_
 go_simp;clear C
 refine hX MT (sk g z.bk ha) λC=>?_
 clear MT K
 refine hV 9 λK MT=>?_
 go_simp;clear C
 refine hX MT (sk g z.bk ha) λC=>?_
 clear MT K;refine hC k_ ?_ _;obtain⟨bf,aS,bD,aQ,ai,U,bu,aM,MR⟩:=zv z g aF #[.bool (x.sr E).r,Y (x.sr E).n];rw[bD,aQ];clear bD aQ z g aF aq C;have MN:=U.f_ 0
 go_upto_region 36 with(go_at_call 116;((with_reducible refine(q6 b gx x ai).mono ?_);unfold kW;rintro e u⟨ao,rfl,B,bA,S⟩;have A:=O bA;clear bA))
 clear MN;have D:=U.xg S t;have l:=aM.trans S
 have MS:ao.p.e.sm 800010:=by rw[A.out];exact(show(iB x.p).e.sm 800010 from hs.mono I)
 have bR:ao.e.rs.l.length<=1000000:=G_ MS.rs I;have d:u.cell? (Z gx 81)=some (.bool ao.hH):=(B.bk.f_ 81).trans rfl;clear ai U aM bu S MS
 cases F:ao.hH with
 |true=>
  have ap:Hid (P=ao.p):=O (by rw[<-ad.out];show(if(iB x.p).hH=true then iB x.p else kY (hJ (iB x.p) 1 1).1 E (hJ (iB x.p) 1 1).2)=_;rw[<-A.out];exact O_ F);exact LN
 |false=>
  obtain⟨v,hv⟩:=mn_ ((hJ ao.p 1 1).2);have aO:=O hv;clear hv;have aW:Hid (P=kY (hJ ao.p 1 1).1 E v):=O (by rw[<-ad.out];show(if(iB x.p).hH=true then iB x.p else kY (hJ (iB x.p) 1 1).1 E (hJ (iB x.p) 1 1).2)=_;rw[<-A.out,aO.out];exact I_ (by show ¬ao.hH=true;rw[F];decide));clear ad A;rw[F]at d;clear F
  go_upto_region 37 with fail
  clear d;refine hI (λw'=>w'.cell? (Z a 0)=some (Y 15)/\w'.cell? (Z a 1)=some (Y (E:Int))/\w'.cell? (Z a 2)=some (Y f)/\w'.cell? (Z a 3)=some (Y c)/\w'.cell? (Z a 4)=some (Y n)) 17 k_ ?_;have N:J [] u u.drew:=(H [] u).drew;replace B:=B.g_ N;replace D:=D.g_ N;replace l:=l.g_ N;clear N;obtain⟨s,aj⟩:=nm_ u.drew;rw[<-aj]at B D l |-;clear aj
  refine nZ D.c5 λC=>?_
  refine iH 0 C ?_;refine iH 1 C ?_;refine iH 2 C ?_;refine iH 3 C ?_;refine iH 8 C ?_;refine iH 9 C ?_;refine iH 12 C ?_;refine iH 13 C ?_;refine iH 14 C ?_;refine iH 15 C ?_
  refine hV 4 λK MT=>?_
  refine qU rfl rfl ?_;have Q:Im (s.alloc (.map #[] 0)) s.heap.size 0 (λ_=>0):=Im.made s;clear C
  refine hX MT (D.g_ ((H [] s).alloc _)).c5 λC=>?_
  clear MT K;refine jh 5 6 rfl rfl k_ (λK MT=>?_) (λK MT=>?_)
  ·
   obtain⟨V,k,j,aE⟩:=Q.update I (show(Lit.int .i64 15).wf=true by decide) (show(Lit.int .i64 1).wf=true by decide);refine k2 rfl rfl r_ r_ r_ k ?_;have aL:J [] s V:=p5 aE ((H [] s).alloc _) (H_ _);clear C
   refine hX MT (D.g_ aL).c5 λC=>?_
   clear MT K
   refine hV 6 λK MT=>?_
   obtain⟨bi,bo,dq,o⟩:=j.update I (show(Lit.int .i64 18).wf=true by decide) (show(Lit.int .i64 2).wf=true by decide);exact If
  ·
   obtain⟨V,k,j,aE⟩:=Q.update I (show(Lit.int .i64 18).wf=true by decide) (show(Lit.int .i64 2).wf=true by decide);refine k2 rfl rfl r_ r_ r_ k ?_;have aL:J [] s V:=p5 aE ((H [] s).alloc _) (H_ _);clear C
   refine hX MT (D.g_ aL).c5 λC=>?_
   clear MT K
   refine hV 5 λK MT=>?_
   obtain⟨bi,bo,dq,o⟩:=j.update I (show(Lit.int .i64 15).wf=true by decide) (show(Lit.int .i64 1).wf=true by decide);exact If
def rest_18(b w:World)(gx:Nat)(x:X1)(E:Nat)(f c:Int)(n:Int)(L:ks b w gx x)(ha:E<16)(hs:x.p.e.sm 800000):
 Calls prog 121 #[q_ gx,.agg #[Y 18,Y (E:Int),Y f,Y c,Y n]] w (kW (.tuple #[]) (jH x.p ⟨18,E,f,c,n⟩) b gx w):=by
 obtain⟨P,W⟩:=mn_ (jH x.p ⟨18,E,f,c,n⟩);rw[W];have ad:=O W;clear W;obtain⟨R,a,aI,ae,z,g,aF,t⟩:=sH L #[Y 18,Y (E:Int),Y f,Y c,Y n]
 go_enter func121,ntmps121
 go_upto_region 1 with fail
 clear aI ae;have MN:=g.f_ 0;have aq:J [] R R.drew:=(H [] R).drew;refine hI (λw'=>(w'.cell? (Z a 0)=some (Y 18)/\w'.cell? (Z a 1)=some (Y (E:Int))/\w'.cell? (Z a 2)=some (Y f)/\w'.cell? (Z a 3)=some (Y c)/\w'.cell? (Z a 4)=some (Y n))/\w'.cell? (Z gx (4+E*2))=some (.bool (x.sr E).r)/\w'.cell? (Z gx (4+E*2+1))=some (Y (x.sr E).n)) 10 k_ ?_;have C:=And.intro g.drew.c5 (vL (z.bk.drew) ha);have e0:(0:Int)<=(E:Int):=X;have aC:(E:Int)<16:=X
 iterate 8 refine jW C ?_
 refine hV 8 λK MT=>?_
 go_simp;clear C
 refine hX MT (sk g z.bk ha) λC=>?_
 clear MT K
 refine hV 9 λK MT=>?_
 go_simp;clear C
 refine hX MT (sk g z.bk ha) λC=>?_
 clear MT K;refine hC k_ ?_ _;obtain⟨bf,aS,bD,aQ,ai,U,bu,aM,MR⟩:=zv z g aF #[.bool (x.sr E).r,Y (x.sr E).n];rw[bD,aQ];clear bD aQ z g aF aq C;have MN:=U.f_ 0
 go_upto_region 36 with(go_at_call 116;((with_reducible refine(q6 b gx x ai).mono ?_);unfold kW;rintro e u⟨ao,rfl,B,bA,S⟩;have A:=O bA;clear bA))
 clear MN;have D:=U.xg S t;have l:=aM.trans S
 have MS:ao.p.e.sm 800010:=by rw[A.out];exact(show(iB x.p).e.sm 800010 from hs.mono I)
 have bR:ao.e.rs.l.length<=1000000:=G_ MS.rs I;have d:u.cell? (Z gx 81)=some (.bool ao.hH):=(B.bk.f_ 81).trans rfl;clear ai U aM bu S MS
 cases F:ao.hH with
 |true=>
  have ap:Hid (P=ao.p):=O (by rw[<-ad.out];show(if(iB x.p).hH=true then iB x.p else kY (hJ (iB x.p) 1 2).1 E (hJ (iB x.p) 1 2).2)=_;rw[<-A.out];exact O_ F);exact LN
 |false=>
  obtain⟨v,hv⟩:=mn_ ((hJ ao.p 1 2).2);have aO:=O hv;clear hv;have aW:Hid (P=kY (hJ ao.p 1 2).1 E v):=O (by rw[<-ad.out];show(if(iB x.p).hH=true then iB x.p else kY (hJ (iB x.p) 1 2).1 E (hJ (iB x.p) 1 2).2)=_;rw[<-A.out,aO.out];exact I_ (by show ¬ao.hH=true;rw[F];decide));clear ad A;rw[F]at d;clear F
  go_upto_region 37 with fail
  clear d;refine hI (λw'=>w'.cell? (Z a 0)=some (Y 18)/\w'.cell? (Z a 1)=some (Y (E:Int))/\w'.cell? (Z a 2)=some (Y f)/\w'.cell? (Z a 3)=some (Y c)/\w'.cell? (Z a 4)=some (Y n)) 17 k_ ?_;have N:J [] u u.drew:=(H [] u).drew;replace B:=B.g_ N;replace D:=D.g_ N;replace l:=l.g_ N;clear N;obtain⟨s,aj⟩:=nm_ u.drew;rw[<-aj]at B D l |-;clear aj
  refine nZ D.c5 λC=>?_
  refine iH 0 C ?_;refine iH 1 C ?_;refine iH 2 C ?_;refine iH 3 C ?_;refine iH 8 C ?_;refine iH 9 C ?_;refine iH 12 C ?_;refine iH 13 C ?_;refine iH 14 C ?_;refine iH 15 C ?_
  refine hV 4 λK MT=>?_
  refine qU rfl rfl ?_;have Q:Im (s.alloc (.map #[] 0)) s.heap.size 0 (λ_=>0):=Im.made s;clear C
  refine hX MT (D.g_ ((H [] s).alloc _)).c5 λC=>?_
  clear MT K;refine jh 5 6 rfl rfl k_ (λK MT=>?_) (λK MT=>?_)
  ·
   obtain⟨V,k,j,aE⟩:=Q.update I (show(Lit.int .i64 15).wf=true by decide) (show(Lit.int .i64 1).wf=true by decide);refine k2 rfl rfl r_ r_ r_ k ?_;have aL:J [] s V:=p5 aE ((H [] s).alloc _) (H_ _);clear C
   refine hX MT (D.g_ aL).c5 λC=>?_
   clear MT K
   refine hV 6 λK MT=>?_
   obtain⟨bi,bo,dq,o⟩:=j.update I (show(Lit.int .i64 18).wf=true by decide) (show(Lit.int .i64 2).wf=true by decide);exact Ig
  ·
   obtain⟨V,k,j,aE⟩:=Q.update I (show(Lit.int .i64 18).wf=true by decide) (show(Lit.int .i64 2).wf=true by decide);refine k2 rfl rfl r_ r_ r_ k ?_;have aL:J [] s V:=p5 aE ((H [] s).alloc _) (H_ _);clear C
   refine hX MT (D.g_ aL).c5 λC=>?_
   clear MT K
   refine hV 5 λK MT=>?_
   obtain⟨bi,bo,dq,o⟩:=j.update I (show(Lit.int .i64 15).wf=true by decide) (show(Lit.int .i64 1).wf=true by decide);exact Ig
def q7(l:List In)(p r:Vl):Bool:=decide (p.r=false∨r.r=true∨iA l r.n=false)
def yq(a:XP × Int × Int)(v:Vl):XP:=
 if a.1.hH=true then a.1 else
 let p:=hJ a.1 a.2.1 0
 if p.2.r=true/\p.2.n=0 then{p.1 with e:={p.1.e with hS:=2,v:=v,pc:=p.1.js,r:=p.1.sr}} else
 let r:=hJ p.1 a.2.1 1
 if q7 r.1.i3 p.2 r.2=true then kU r.1 else
 sD (h4 (h4 r.1 1 0 p.2) 1 1 v) r.2.n
def B6(x:XP)(E:Nat)(b c n:Int):jH x ⟨14,E,b,c,n⟩=yq (hF x) (x.sr E):=by
 have h:jH x ⟨14,E,b,c,n⟩=(if(hF x).1.hH=true then(hF x).1 else
  if(hJ (hF x).1 (hF x).2.1 0).2.r=true/\(hJ (hF x).1 (hF x).2.1 0).2.n=0 then{(hJ (hF x).1 (hF x).2.1 0).1 with e:={(hJ (hF x).1 (hF x).2.1 0).1.e with hS:=2,v:=x.sr E,pc:=(hJ (hF x).1 (hF x).2.1 0).1.js,r:=(hJ (hF x).1 (hF x).2.1 0).1.sr}} else
  if(hJ (hF x).1 (hF x).2.1 0).2.r=false∨(hJ (hJ (hF x).1 (hF x).2.1 0).1 (hF x).2.1 1).2.r=true∨iA (hJ (hJ (hF x).1 (hF x).2.1 0).1 (hF x).2.1 1).1.i3 (hJ (hJ (hF x).1 (hF x).2.1 0).1 (hF x).2.1 1).2.n=false then kU (hJ (hJ (hF x).1 (hF x).2.1 0).1 (hF x).2.1 1).1 else
  sD (h4 (h4 (hJ (hJ (hF x).1 (hF x).2.1 0).1 (hF x).2.1 1).1 1 0 (hJ (hF x).1 (hF x).2.1 0).2) 1 1 (x.sr E)) (hJ (hJ (hF x).1 (hF x).2.1 0).1 (hF x).2.1 1).2.n):=by
  unfold jH;dsimp only;rw[I_ I,I_ I,I_ I,I_ I,O_ rfl]
  rfl
 rw[h];unfold yq q7;simp only[Gx]
def pL(l:List In)(p r:Vl):Nat:=if p.r=false then 2 else if r.r=true then 3 else if iA l r.n=false then 4 else 5
def A2(l:List In)(p r:Vl):pL l p r=2∨pL l p r=3∨pL l p r=4∨pL l p r=5:=by
 unfold pL
 repeat' split
 all_goals simp
def retKC_2{p r:Vl}(h:pL l p r=2):p.r=false:=by
 unfold pL at h
 cases b:p.r with
 |false=>rfl
 |true=>rw[I_ (by rw[b];decide)]at h;split at h<;>first|(cases h;done)|(split at h<;>cases h)
def retKC_3{p r:Vl}(h:pL l p r=3):p.r=true/\r.r=true:=by
 unfold pL at h
 cases b:p.r with
 |false=>rw[O_ b]at h;cases h
 |true=>
  rw[I_ (by rw[b];decide)]at h
  cases c:r.r with
  |true=>exact⟨rfl,rfl⟩
  |false=>rw[I_ (by rw[c];decide)]at h;split at h<;>cases h
def retKC_45{p r:Vl}{k:Nat}(e:k=4∨k=5)(h:pL l p r=k):p.r=true/\r.r=false/\iA l r.n=decide (k=5):=by
 unfold pL at h
 cases c:p.r with
 |false=>rw[O_ c]at h;omega
 |true=>
  rw[I_ (by rw[c];decide)]at h
  cases d:r.r with
  |true=>rw[O_ d]at h;omega
  |false=>
   rw[I_ (by rw[d];decide)]at h;refine⟨rfl,rfl,?_⟩
   cases b:iA l r.n with
   |false=>rw[O_ b]at h;subst h;rfl
   |true=>rw[I_ (by rw[b];decide)]at h;subst h;rfl
def rest_14(b w:World)(gx:Nat)(x:X1)(E:Nat)(MO c:Int)(n:Int)(L:ks b w gx x)(ha:E<16)(hs:x.p.e.sm 800000):
 Calls prog 121 #[q_ gx,.agg #[Y 14,Y (E:Int),Y MO,Y c,Y n]] w (kW (.tuple #[]) (jH x.p ⟨14,E,MO,c,n⟩) b gx w):=by
 obtain⟨P,hP⟩:=mn_ (jH x.p ⟨14,E,MO,c,n⟩);have al:=O ((B6 x.p E MO c n).symm.trans hP);rw[hP];clear hP;obtain⟨an,a,aI,aA,bd,br,aF,t⟩:=sH L #[Y 14,Y (E:Int),Y MO,Y c,Y n]
 go_enter func121,ntmps121
 go_upto_region 1 with fail
 clear aI aA;have B:=br.f_ 0;have aq:J [] an an.drew:=(H [] an).drew;refine hI (λw'=>(w'.cell? (Z a 0)=some (Y 14)/\w'.cell? (Z a 1)=some (Y (E:Int))/\w'.cell? (Z a 2)=some (Y MO)/\w'.cell? (Z a 3)=some (Y c)/\w'.cell? (Z a 4)=some (Y n))/\w'.cell? (Z gx (4+E*2))=some (.bool (x.sr E).r)/\w'.cell? (Z gx (4+E*2+1))=some (Y (x.sr E).n)) 10 k_ ?_;have f:=And.intro br.drew.c5 (vL (bd.bk.drew) ha);have e0:(0:Int)<=(E:Int):=X;have aC:(E:Int)<16:=X
 iterate 8 refine jW f ?_
 refine hV 8 λK m=>?_
 go_simp;clear f
 refine hX m (sk br bd.bk ha) λf=>?_
 clear m K
 refine hV 9 λK m=>?_
 go_simp;clear f
 refine hX m (sk br bd.bk ha) λf=>?_
 clear m K;refine hC k_ ?_ _;obtain⟨bf,aS,bD,aQ,bx,aR,bu,aM,R⟩:=zv bd br aF #[.bool (x.sr E).r,Y (x.sr E).n];rw[bD,aQ];clear bD aQ bd br aF aq f;have B:=aR.f_ 0
 go_upto_region 23 with(go_at_call 161;((with_reducible refine(m6 b gx x bx (G_ hs.rs I)).mono ?_);unfold vf;rintro e ah⟨y,rfl,ca,bA,S⟩;have am:=O bA;clear bA))
 have MS:=l4 hs;rw[<-am.out]at MS;obtain⟨u,bz⟩:=mn_ ((hF x.p).2.1);rw[bz];have aT:=O bz;clear bz;generalize (hF x.p).2.2=b5 at*;have cb:=bu.xg S R;have l:=aM.trans S;have d:ah.cell? (Z gx 81)=some (.bool y.hH):=(ca.bk.f_ 81).trans rfl;clear bx aR aM bu S B
 cases cc:y.hH with
 |true=>
  have ap:Hid (P=y.p):=O (by rw[<-al.out];unfold yq;rw[O_ (by rw[<-am.out];exact cc),am.out]);rw[cc]at d;clear cc;go_wp2;refine rn_ ?_;rw[ap.out];exact⟨y,rfl,ca,rfl,l⟩
 |false=>
  rw[cc]at d;obtain⟨p,hv⟩:=mn_ ((hJ y.p u 0).2);have aO:=O hv;clear hv
  have aW:Hid (P=(if p.r=true/\p.n=0 then{(hJ y.p u 0).1 with e:={(hJ y.p u 0).1.e with hS:=2,v:=x.sr E,pc:=(hJ y.p u 0).1.js,r:=(hJ y.p u 0).1.sr}} else
   let r:=hJ (hJ y.p u 0).1 u 1
   if q7 r.1.i3 p r.2=true then kU r.1 else sD (h4 (h4 r.1 1 0 p) 1 1 (x.sr E)) r.2.n)):=O (by
   rw[<-al.out];unfold yq;rw[I_ (by rw[<-am.out];show ¬y.hH=true;rw[cc];decide),aT.out,<-am.out,<-aO.out]
   rfl)
  clear al am aT cc;have bR:y.e.rs.l.length<=1000000:=G_ MS.rs I
  go_upto_region 25 with(go_at_call 118;((with_reducible refine(jL b gx y u 0 ca bR).mono ?_);unfold m8;rintro e ce⟨g,rfl,aD,aZ,af⟩;have be:=O aZ;clear aZ;rw[aO.out]))
  have bK:=kb MS u 0;rw[<-be.out]at bK
  have bS:Hid (P=(if p.r=true/\p.n=0 then{g.p with e:={g.p.e with hS:=2,v:=x.sr E,pc:=g.p.js,r:=g.p.sr}} else
   let r:=hJ g.p u 1
   if q7 r.1.i3 p r.2=true then kU r.1 else sD (h4 (h4 r.1 1 0 p) 1 1 (x.sr E)) r.2.n)):=O (by rw[aW.out,<-be.out])
  clear aW aO d;have T:=aD.g_ ((H [] ce).alloc (.cells #[.bool p.r,Y p.n] 38));have cv:=Q_ ce 38 #[.bool p.r,Y p.n];have bF:=(cb.xg af R).alloc (.cells #[.bool p.r,Y p.n] 38);have bl:=(l.trans af).g_ ((H [] ce).alloc (.cells #[.bool p.r,Y p.n] 38));have b8:ce.heap.size≠gx:=ov aD.bk.lt;obtain⟨N,bE⟩:=nm_ (ce.alloc (.cells #[.bool p.r,Y p.n] 38));rw[<-bE]at T cv bF bl |-;clear bE;clear aD af ca l cb;generalize ce.heap.size=bN at*;have B:=cv.f_ 0;have ai:=cv.f_ 1
  go_cut [189] (λcf a6=>cf=.bool (decide (p.r=true/\p.n=0))/\a6=N)
  case first=>
   cases o:p.r with
   |false=>
    rw[o]at B;have aV:=O (show decide (p.r=true/\p.n=0)=false by simp[o]);clear o;exact Mu
   |true=>
    rw[o]at B;have aV:=O (show decide (p.r=true/\p.n=0)=(p.n==0) by simp[o,Bool.beq_eq_decide_eq]);clear o;exact Mu
  case rest=>
   obtain⟨rfl,dR⟩:=hcut;subst wc
   by_cases bi:p.r=true/\p.n=0
   .have ap:Hid (P={g.p with e:={g.p.e with hS:=2,v:=x.sr E,pc:=g.p.js,r:=g.p.sr}}):=O (by rw[bS.out,O_ bi]);have q:decide (p.r=true/\p.n=0)=true:=FX bi;rw[q];clear q bi bS;clear B ai cv
    go_upto_region 26 with fail
    have cg:=T.bk.drew;refine hI (λw'=>(∀i,i<33->w'.cell? (Z gx (3+i))=(iE g.js g.sr)[i]?)/\w'.cell? (Z aS 0)=some (.bool (x.sr E).r)/\w'.cell? (Z aS 1)=some (Y (x.sr E).n)) 20 k_ ?_
    refine nZ ⟨λi j=>by rw[cg.f_];exact mE g i j,bF.drew.f_ 0,bF.drew.f_ 1⟩ λf=>?_
    (iterate 7 refine jW f ?_)
    refine iH 7 (v:=.agg (iE g.js g.sr)) f ?_ (hy:=(Or.inl ⟨r_,λw' bq=>lV 49 rfl gx 3 r_ (λi j=>bq.1 i j) underlying49 rfl k_⟩))
    (iterate 3 refine jW f ?_)
    have bZ:N.cell? (Z gx 38)=some (Y g.e.hS):=(T.bk.f_ 38).trans rfl;have bW:=T.bk.hm 38
    refine hV 11 λK m=>?_
    go_simp;have k:Bk ((N.setCell (Z gx 38) (Y 2)).drew) gx 186 ({g with e:={g.e with hS:=2}}:X1).g8:=(T.bk).hN 38 (Y 2);have z:Bk ((N.setCell (Z gx 38) (Y 2)).drew) aS 38 #[.bool (x.sr E).r,Y (x.sr E).n]:=(bF).ib (p:=(Z gx 38)) R (Y 2);have M:J [gx] N ((N.setCell (Z gx 38) (Y 2)).drew):=J.drew <| ((H [gx] N)).setCell (p:=(Z gx 38)) (.inl s_) (Y 2);obtain⟨s,V⟩:=nm_ ((N.setCell (Z gx 38) (Y 2)).drew);rw[<-V]at k z M |-;clear V f
    refine hX m ⟨λi j=>by rw[k.f_];exact mE ({g with e:={g.e with hS:=2}}:X1) i j,z.f_ 0,z.f_ 1⟩ λf=>?_
    clear m K;clear bZ bW
    (iterate 3 refine jW f ?_)
    have b6:s.cell? (Z gx 79)=some (.bool g.e.v.r):=(k.f_ 79).trans rfl;have b7:s.cell? (Z gx 80)=some (Y g.e.v.n):=(k.f_ 80).trans rfl;have b3:=k.hm 79;have b4:=k.hm 80
    refine hV 15 λK m=>?_
    go_simp;have F:Bk ((s.setCell (Z gx 79) (.bool (x.sr E).r)).setCell (Z gx 80) (Y (x.sr E).n)) gx 186 ({g with e:={g.e with hS:=2,v:=x.sr E}}:X1).g8:=((k).hN 79 (.bool (x.sr E).r)).hN 80 (Y (x.sr E).n);have A:Bk ((s.setCell (Z gx 79) (.bool (x.sr E).r)).setCell (Z gx 80) (Y (x.sr E).n)) aS 38 #[.bool (x.sr E).r,Y (x.sr E).n]:=((z).ib (p:=(Z gx 79)) R (.bool (x.sr E).r)).ib (p:=(Z gx 80)) R (Y (x.sr E).n);have C:J [gx] N ((s.setCell (Z gx 79) (.bool (x.sr E).r)).setCell (Z gx 80) (Y (x.sr E).n)):=((M).setCell (p:=(Z gx 79)) (.inl s_) (.bool (x.sr E).r)).setCell (p:=(Z gx 80)) (.inl s_) (Y (x.sr E).n);obtain⟨bw,W⟩:=nm_ ((s.setCell (Z gx 79) (.bool (x.sr E).r)).setCell (Z gx 80) (Y (x.sr E).n));rw[<-W]at F A C |-;clear W f
    refine hX m ⟨λi j=>by rw[F.f_];exact mE ({g with e:={g.e with hS:=2,v:=x.sr E}}:X1) i j,A.f_ 0,A.f_ 1⟩ λf=>?_
    clear m K;clear b6 b3 b7 b4
    iterate 3 refine jW f ?_
    refine hV 19 λK m=>?_
    rw[O_ r_];refine jz 49 _ _ rfl gx 39 r_ (iE g.js g.sr) r_ 186 _ F (by show 39+33<=82;decide) k_ (oi) ?_;intro ae D G;rw[ny]at D;have bp:=A.gr G (zu R);clear f
    refine hX m ⟨λi j=>by rw[D.f_];exact mE ({g with e:={g.e with hS:=2,v:=x.sr E,pc:=g.js,r:=g.sr}}:X1) i j,bp.f_ 0,bp.f_ 1⟩ λf=>?_
    clear m K;refine hC k_ ?_ _;go_wp2;refine en_ ?_;rw[ap.out];exact⟨_,rfl,T.sG (x':=({g with e:={g.e with hS:=2,v:=x.sr E,pc:=g.js,r:=g.sr}}:X1)) (C.trans G) D rfl rfl rfl rfl rfl rfl rfl,rfl,bl.ir (C.trans G)⟩
   .have q:decide (p.r=true/\p.n=0)=false:=GH bi;rw[q];obtain⟨r,hr⟩:=mn_ ((hJ g.p u 1).2);have ch:=O hr;clear hr;have bL:Hid (P=if q7 (hJ g.p u 1).1.i3 p r=true then kU (hJ g.p u 1).1 else sD (h4 (h4 (hJ g.p u 1).1 1 0 p) 1 1 (x.sr E)) r.n):=O (by rw[bS.out,I_ bi,<-ch.out]);clear q bS;have b0:g.e.rs.l.length<=1000000:=G_ bK.rs I
    go_upto_region 28 with(go_at_call 118;((with_reducible refine(jL b gx g u 1 T b0).mono ?_);unfold m8;rintro e ay⟨aP,rfl,bv,bg,az⟩;have bB:=O bg;clear bg;rw[ch.out]))
    have bO:=kb bK u 1;rw[<-bB.out]at bO;have aU:Hid (P=if q7 aP.i3.l p r=true then kU aP.p else sD (h4 (h4 aP.p 1 0 p) 1 1 (x.sr E)) r.n):=O (by rw[bL.out,<-bB.out];rfl);clear bL B ai;have aE:=bv.g_ ((H [] ay).alloc (.cells #[.bool r.r,Y r.n] 38));have k:=Q_ ay 38 #[.bool r.r,Y r.n];have M:=(bF.xg az R).alloc (.cells #[.bool r.r,Y r.n] 38);have s:=(cv.xg az b8).alloc (.cells #[.bool r.r,Y r.n] 38);have h:=(bl.trans az).g_ ((H [] ay).alloc (.cells #[.bool r.r,Y r.n] 38));have ad:ay.heap.size≠gx:=ov bv.bk.lt;obtain⟨Q,bQ⟩:=nm_ (ay.alloc (.cells #[.bool r.r,Y r.n] 38));rw[<-bQ]at aE k M s h |-;clear bQ;clear bv az T bl bF cv;generalize ay.heap.size=W at*;clear be bB ch bi
    rcases A2 aP.i3.l p r with D|D|D|D
    .have C:=O D;clear D;have o:=retKC_2 C.out;refine hI (λw'=>w'.cell? (Z bN 0)=some (.bool false)/\w'.cell? (Z W 0)=some (.bool r.r)/\w'.cell? (Z W 1)=some (Y r.n)/\w'.cell? (Z gx 0)=some (.slice aP.i3.A aP.i3.l.length aP.i3.c)/\w'.cell? (Z gx 1)=some (Y aP.hq)/\w'.cell? (Z gx 2)=some (Y aP.g9)) 17 k_ ?_;have i:J [] Q Q.drew:=(H [] Q).drew;obtain⟨bh,F⟩:=nm_ Q.drew;rw[<-F]at i |-;clear F
     refine nZ ⟨(((s.g_ i)).f_ 0).trans (by rw[o];rfl),(((k.g_ i)).f_ 0).trans r_,((k.g_ i)).f_ 1,(((aE.g_ i)).bk.f_ 0).trans rfl,(((aE.g_ i)).bk.f_ 1).trans rfl,(((aE.g_ i)).bk.f_ 2).trans rfl⟩ λf=>?_
     (iterate 4 refine jW f ?_)
     refine iH 4 (v:=undef) f ?_ (hy:=(Or.inr ⟨k_,rfl⟩));refine iH 5 (v:=undef) f ?_ (hy:=(Or.inr ⟨k_,rfl⟩))
     (iterate 2 refine jW f ?_)
     refine iH 8 (v:=undef) f ?_ (hy:=(Or.inr ⟨k_,rfl⟩));refine iH 9 (v:=undef) f ?_ (hy:=(Or.inr ⟨k_,rfl⟩));refine iH 10 (v:=undef) f ?_ (hy:=(Or.inr ⟨k_,rfl⟩));refine iH 11 (v:=undef) f ?_ (hy:=(Or.inr ⟨k_,rfl⟩));refine iH 12 (v:=undef) f ?_ (hy:=(Or.inr ⟨k_,rfl⟩));refine iH 13 (v:=undef) f ?_ (hy:=(Or.inr ⟨k_,rfl⟩));refine iH 14 (v:=undef) f ?_ (hy:=(Or.inr ⟨k_,rfl⟩));refine iH 15 (v:=undef) f ?_ (hy:=(Or.inr ⟨k_,rfl⟩));refine iH 16 f ?_;have j:=i;refine hC k_ ?_ _;clear f;replace aE:=aE.g_ j;replace k:=k.g_ j;replace s:=s.g_ j;replace M:=M.g_ j;replace h:=h.g_ j;clear j i
     have bn:q7 aP.i3.l p r=true:=by unfold q7;simp[o]
     clear o C;exact IW
    .have C:=O D;clear D;obtain⟨o,z⟩:=retKC_3 C.out;refine hI (λw'=>w'.cell? (Z bN 0)=some (.bool true)/\w'.cell? (Z W 0)=some (.bool true)/\w'.cell? (Z W 1)=some (Y r.n)/\w'.cell? (Z gx 0)=some (.slice aP.i3.A aP.i3.l.length aP.i3.c)/\w'.cell? (Z gx 1)=some (Y aP.hq)/\w'.cell? (Z gx 2)=some (Y aP.g9)) 17 k_ ?_;have i:J [] Q Q.drew:=(H [] Q).drew;obtain⟨bh,F⟩:=nm_ Q.drew;rw[<-F]at i |-;clear F
     refine nZ ⟨(((s.g_ i)).f_ 0).trans (by rw[o];rfl),(((k.g_ i)).f_ 0).trans (by rw[z];rfl),((k.g_ i)).f_ 1,(((aE.g_ i)).bk.f_ 0).trans rfl,(((aE.g_ i)).bk.f_ 1).trans rfl,(((aE.g_ i)).bk.f_ 2).trans rfl⟩ λf=>?_
     (iterate 8 refine jW f ?_)
     refine iH 8 (v:=undef) f ?_ (hy:=(Or.inr ⟨k_,rfl⟩));refine iH 9 (v:=undef) f ?_ (hy:=(Or.inr ⟨k_,rfl⟩));refine iH 10 (v:=undef) f ?_ (hy:=(Or.inr ⟨k_,rfl⟩));refine iH 11 (v:=undef) f ?_ (hy:=(Or.inr ⟨k_,rfl⟩));refine iH 12 (v:=undef) f ?_ (hy:=(Or.inr ⟨k_,rfl⟩));refine iH 13 (v:=undef) f ?_ (hy:=(Or.inr ⟨k_,rfl⟩));refine iH 14 (v:=undef) f ?_ (hy:=(Or.inr ⟨k_,rfl⟩));refine iH 15 (v:=undef) f ?_ (hy:=(Or.inr ⟨k_,rfl⟩));refine iH 16 f ?_;have j:=i;refine hC k_ ?_ _;clear f;replace aE:=aE.g_ j;replace k:=k.g_ j;replace s:=s.g_ j;replace M:=M.g_ j;replace h:=h.g_ j;clear j i
     have bn:q7 aP.i3.l p r=true:=by unfold q7;simp[z]
     clear o z C;exact IW
    .have C:=O D;clear D;obtain⟨o,z,A⟩:=retKC_45 (.inl rfl) C.out;replace A:iA aP.i3.l r.n=false:=A;refine hI (λw'=>w'.cell? (Z bN 0)=some (.bool true)/\w'.cell? (Z W 0)=some (.bool false)/\w'.cell? (Z W 1)=some (Y r.n)/\w'.cell? (Z gx 0)=some (.slice aP.i3.A aP.i3.l.length aP.i3.c)/\w'.cell? (Z gx 1)=some (Y aP.hq)/\w'.cell? (Z gx 2)=some (Y aP.g9)) 17 k_ ?_;have i:J [] Q Q.drew:=(H [] Q).drew;obtain⟨bh,F⟩:=nm_ Q.drew;rw[<-F]at i |-;clear F
     refine nZ ⟨(((s.g_ i)).f_ 0).trans (by rw[o];rfl),(((k.g_ i)).f_ 0).trans (by rw[z];rfl),((k.g_ i)).f_ 1,(((aE.g_ i)).bk.f_ 0).trans rfl,(((aE.g_ i)).bk.f_ 1).trans rfl,(((aE.g_ i)).bk.f_ 2).trans rfl⟩ λf=>?_
     iterate 14 refine jW f ?_
     refine hV 14 λK m=>?_
     go_simp
     (go_at_call 162;have q:=pb aP.i3.A aP.i3.c aP.i3.l aP.hq aP.g9 r.n bh (aE.g_ i).D8 aE.il;rw[A]at q;refine q.mono ?_;rintro e bH⟨rfl,aY⟩)
     have j:=i.trans aY;clear f
     refine hX m ⟨(((s.g_ j)).f_ 0).trans (by rw[o];rfl),(((k.g_ j)).f_ 0).trans (by rw[z];rfl),((k.g_ j)).f_ 1,(((aE.g_ j)).bk.f_ 0).trans rfl,(((aE.g_ j)).bk.f_ 1).trans rfl,(((aE.g_ j)).bk.f_ 2).trans rfl⟩ λf=>?_
     clear m K
     (iterate 2 refine jW f ?_)
     refine hC k_ ?_ _;clear f;replace aE:=aE.g_ j;replace k:=k.g_ j;replace s:=s.g_ j;replace M:=M.g_ j;replace h:=h.g_ j;clear j i
     have bn:q7 aP.i3.l p r=true:=by unfold q7;simp[A]
     clear o z A C;have ap:Hid (P=({aP with hH:=true}:X1).p):=O (by rw[aU.out,O_ bn];rfl);clear bn aU;have d:bH.cell? (Z gx 81)=some (.bool aP.hH):=(aE.bk.f_ 81).trans rfl;exact Jy
    .have C:=O D;clear D;obtain⟨o,z,A⟩:=retKC_45 (.inr rfl) C.out;replace A:iA aP.i3.l r.n=true:=A;refine hI (λw'=>w'.cell? (Z bN 0)=some (.bool true)/\w'.cell? (Z W 0)=some (.bool false)/\w'.cell? (Z W 1)=some (Y r.n)/\w'.cell? (Z gx 0)=some (.slice aP.i3.A aP.i3.l.length aP.i3.c)/\w'.cell? (Z gx 1)=some (Y aP.hq)/\w'.cell? (Z gx 2)=some (Y aP.g9)) 17 k_ ?_;have i:J [] Q Q.drew:=(H [] Q).drew;obtain⟨bh,F⟩:=nm_ Q.drew;rw[<-F]at i |-;clear F
     refine nZ ⟨(((s.g_ i)).f_ 0).trans (by rw[o];rfl),(((k.g_ i)).f_ 0).trans (by rw[z];rfl),((k.g_ i)).f_ 1,(((aE.g_ i)).bk.f_ 0).trans rfl,(((aE.g_ i)).bk.f_ 1).trans rfl,(((aE.g_ i)).bk.f_ 2).trans rfl⟩ λf=>?_
     iterate 14 refine jW f ?_
     refine hV 14 λK m=>?_
     go_simp
     (go_at_call 162;have q:=pb aP.i3.A aP.i3.c aP.i3.l aP.hq aP.g9 r.n bh (aE.g_ i).D8 aE.il;rw[A]at q;refine q.mono ?_;rintro e bH⟨rfl,aY⟩)
     have j:=i.trans aY;clear f
     refine hX m ⟨(((s.g_ j)).f_ 0).trans (by rw[o];rfl),(((k.g_ j)).f_ 0).trans (by rw[z];rfl),((k.g_ j)).f_ 1,(((aE.g_ j)).bk.f_ 0).trans rfl,(((aE.g_ j)).bk.f_ 1).trans rfl,(((aE.g_ j)).bk.f_ 2).trans rfl⟩ λf=>?_
     clear m K
     (iterate 2 refine jW f ?_)
     refine hC k_ ?_ _;clear f;replace aE:=aE.g_ j;replace k:=k.g_ j;replace s:=s.g_ j;replace M:=M.g_ j;replace h:=h.g_ j;clear j i
     have bn:q7 aP.i3.l p r=false:=by unfold q7;simp[o,z,A]
     clear o z A C;have ap:Hid (P=sD (h4 (h4 aP.p 1 0 p) 1 1 (x.sr E)) r.n):=O (by rw[aU.out,I_ (by rw[bn];decide)]);clear bn aU;have d0:aP.e.ws.l.length<=1000000:=G_ bO.ws I;have B:=s.f_ 0;have ai:=s.f_ 1
     go_upto_region 31 with(go_at_call 163;((with_reducible refine(jZ b gx aP 1 0 p aE d0).mono ?_);unfold kW;rintro e bH⟨bJ,rfl,aB,aN,V⟩;have ci:=O aN;clear aN))
     have bV:=O ci.out;clear ci;have aK:=aB;have b9:=h.trans V;have bC:=M.xg V R;have ar:=k.xg V ad
     have dr:bJ.e.ws.l.length<=1000000:=by
      have e:bJ.e.ws.l=aP.e.ws.l++[⟨1,0,p⟩]:=FN (λp:XP=>p.e.ws) bV.out;rw[e,K_]
      have:=bO.ws
      have aw:aP.p.e.ws.length=aP.e.ws.l.length:=rfl;simp only[FJ,Gh];omega
     clear aB V B ai;have B:=bC.f_ 0;have ai:=bC.f_ 1
     go_upto_region 32 with(go_at_call 163;((with_reducible refine(jZ b gx bJ 1 1 (x.sr E) aK dr).mono ?_);unfold kW;rintro e ae⟨au,rfl,aB,aN,V⟩;have ci:=O aN;clear aN))
     have ak:=O ci.out;clear ci;have aj:=aB;have aH:=b9.trans V;have ax:=ar.xg V ad;clear aB V B ai
     have ag:Hid (P=({au with e:={au.e with pc:=r.n}}:X1).p):=O (by
      rw[ap.out,<-bV.out,<-ak.out]
      rfl)
     have ai:=ax.f_ 1;have bT:ae.cell? (Z gx 39)=some (Y au.e.pc):=(aj.bk.f_ 39).trans rfl;have bU:=aj.bk.hm 39;go_wp2;have bm:=aj.set (x':={au with e:={au.e with pc:=r.n}}) 39 (Y r.n) rfl rfl rfl rfl rfl rfl rfl rfl;refine en_ ?_;rw[ag.out];exact⟨_,rfl,bm,rfl,aH.ir ((H [gx] _).setCell (.inl s_) _)⟩
def ze{P:Program}{E:Prop}(H:o.guard=none){s x:Operand}(ho:o.op=.call {callee:=.builtin .append,args:=#[s,x],argTypes:=#[t,t]})(base:Nat)(e:TypeId)(i:TypeInfo){p:Value}(j bytes:Nat)(z:P.underlying t=some (.slice e))(L:P.info? e=some i)(N:i.zero=some p)(C:i.size=j)(y:i.bytes=bytes)(r:p.cells.size=j)(A:0<j){v:Value}(n:Nat){xs:List Value}(hs:a.eval s=v)(F:w.ownsRow base e j v n xs)(d:Addr)(b c:Nat)(m:List Value)(hx:a.eval x=.slice (some d) b c)(M:m.length=b*j)(k:∀q u,m[q]?=some u->w.cell? (d.add q)=some u)(I:∀u∈m,u.oneCell'=true)(l:n+b<=maxLen)(f:(n+b)*bytes<=140737488355328)(D:base<=w.heap.size)(h:∀(A':OA) (c':Nat) (w':World),w'.ownsRow base e j (.slice A' (n+b) c') (n+b) (xs++m)->w.grownBy w' v.ownBlock->K (a.put o.dst (.slice A' (n+b) c')) w'):
 if Region.wanted o (yielded ops a.tmps)=true then Oper.wp P o a w K Q else E:=by
 have B:Region.wanted o (yielded ops a.tmps)=true:=by simp[Region.wanted,H]
 rw[O_ B];obtain⟨O,w',MT,h2,h3,_⟩:=run_append_own (P:=P) w base t o.type e i p j bytes z L N C y r A v n xs F d b c m M k I l f D;have J:∃A' c',O=.slice A' (n+b) c':=KW;obtain⟨A',c',rfl⟩:=J;exact Kn
def AH(k:Nat)(m:k<=16):∀b u,(jd ((List.range k).map x.sr))[b]?=some u->x.g8[4+b]?=some u:=by
 intro b u f
 have j:b<k*2:=by
  have:=(GR.1 f).1
  rw[lX,F6,Hp]at this;exact this
 have e:b=(b / 2)*2+b % 2:=X
 have c:(jd ((List.range k).map x.sr))[(b / 2)*2+b % 2]?=(Vl.E (x.sr (b / 2)))[b % 2]?:=by
  unfold jd;rw[jR Vl.E (λ_=>rfl) _ (b / 2) (b % 2) (by rw[F6,Hp];omega) X,Gg,Hn]
 rw[<-e,f]at c;obtain⟨i,g⟩:=vj x (b / 2) X
 rcases Hq b with h|h
 .rw[h]at c e;have d:4+b=4+b / 2*2:=X;rw[d,i];exact c.symm
 .rw[h]at c e;have d:4+b=4+b / 2*2+1:=X;rw[d,g];exact c.symm
def Bd(w:World)(u v b:Vl):(w.alloc (.cells #[.bool u.r,Y u.n,.bool v.r,Y v.n,.bool b.r,Y b.n] 38)).ownsRow w.heap.size 38 2 (.slice (j_ w.heap.size) 3 3) 3 (jd [u,v,b]):=
 ⟨rfl,.inr ⟨w.heap.size,3,_,rfl,H_ _,HN w _,H_ _,I,rfl,rfl⟩⟩
def rest_13(b w:World)(j:Nat)(x:X1)(E d f:Nat)(n:Int)(L:ks b w j x)(hb:d<=16)(MM:f<=1000000)(b4: -1<=x.js)(bC:x.js<=1000000)(ha:E<16)(hs:x.p.e.sm 800000):
 Calls prog 121 #[q_ j,.agg #[Y 13,Y (E:Int),Y (d:Int),Y ((d:Int)+(f:Int)),Y n]] w (kW (.tuple #[]) (jH x.p ⟨13,E,d,((d:Int)+(f:Int)),n⟩) b j w):=by
 obtain⟨al,a,aI,an,V,N,aF,t⟩:=sH L #[Y 13,Y (E:Int),Y (d:Int),Y ((d:Int)+(f:Int)),Y n]
 go_enter func121,ntmps121
 go_upto_region 1 with fail
 clear aI an;have MN:=N.f_ 0;have aq:J [] al al.drew:=(H [] al).drew;refine hI (λw'=>(w'.cell? (Z a 0)=some (Y 13)/\w'.cell? (Z a 1)=some (Y (E:Int))/\w'.cell? (Z a 2)=some (Y (d:Int))/\w'.cell? (Z a 3)=some (Y ((d:Int)+(f:Int)))/\w'.cell? (Z a 4)=some (Y n))/\w'.cell? (Z j (4+E*2))=some (.bool (x.sr E).r)/\w'.cell? (Z j (4+E*2+1))=some (Y (x.sr E).n)) 10 k_ ?_;have g:=And.intro N.drew.c5 (vL (V.bk.drew) ha);have e0:(0:Int)<=(E:Int):=X;have aC:(E:Int)<16:=X
 iterate 8 refine jW g ?_
 refine hV 8 λK k=>?_
 go_simp;clear g
 refine hX k (sk N V.bk ha) λg=>?_
 clear k K
 refine hV 9 λK k=>?_
 go_simp;clear g
 refine hX k (sk N V.bk ha) λg=>?_
 clear k K;refine hC k_ ?_ _;obtain⟨bf,aS,bD,aQ,aA,aR,bu,aM,MR⟩:=zv V N aF #[.bool (x.sr E).r,Y (x.sr E).n];rw[bD,aQ];clear bD aQ V N aF aq g;have MN:=aR.f_ 0
 go_upto_region 16 with(go_at_call 161;((with_reducible refine(m6 b j x aA (G_ hs.rs I)).mono ?_);unfold vf;rintro e m⟨c,rfl,D,bA,S⟩;have am:=O bA;clear bA))
 clear MN;have MS:=l4 hs;rw[<-am.out]at MS;have a2:=uD x.p;rw[<-am.out]at a2;obtain⟨i,bz⟩:=mn_ ((hF x.p).2.1);rw[bz];have aT:=O bz;clear bz;generalize (hF x.p).2.2=b5 at*
 have aW:Hid ((jH x.p ⟨13,E,d,((d:Int)+(f:Int)),n⟩)=sD (h4 {c.p with e:={c.p.e with nw:=[⟨c.nx,[⟨true,i⟩,⟨false,c.js+1⟩,default]++((List.range d).map c.sr++List.replicate f default)⟩]}} 1 0 ⟨true,c.nx⟩) n):=O (by
  have aC:(((d:Int)+(f:Int))-(d:Int)).toNat=f:=X
  show sD (h4 {(hF x.p).1 with e:={(hF x.p).1.e with nw:=[⟨(hF x.p).1.nx,[⟨true,(hF x.p).2.1⟩,⟨false,(hF x.p).1.js+1⟩,default]++((List.range (d:Int).toNat).map (hF x.p).1.sr++List.replicate (((d:Int)+(f:Int))-(d:Int)).toNat default)⟩]}} 1 0 ⟨true,(hF x.p).1.nx⟩) n=_
  rw[aC,aT.out,<-am.out]
  rfl)
 clear am aT;have bp:c.js=x.js:=a2.js
 have hq0: -1<=c.js:=by rw[bp];exact b4
 have hq1:c.js<=1000000:=by rw[bp];exact bC
 clear bp a2;have F:=aR.xg S t;have l:=aM.trans S;have ax:c.e.ws.l.length<=1000000:=G_ MS.ws I;clear aA aR bu aM S MS;have aB:m.cell? (Z j 3)=some (Y c.js):=(D.bk.f_ 3).trans rfl
 go_upto_region 17 with fail
 clear aB;obtain⟨aG,aE,P,aL,bi⟩:=info_parts infoVl;have cy:=Bd m ⟨true,i⟩ ⟨false,c.js+1⟩ default;have z:J [] m (m.alloc (.cells #[.bool true,Y i,.bool false,Y (c.js+1),.bool false,Y 0] 38)).drew:=((H [] m).alloc _).drew;refine hI (λw'=>w'.cell? (Z a 0)=some (Y 13)/\w'.cell? (Z a 1)=some (Y (E:Int))/\w'.cell? (Z a 2)=some (Y (d:Int))/\w'.cell? (Z a 3)=some (Y ((d:Int)+(f:Int)))/\w'.cell? (Z a 4)=some (Y n)) 10 k_ ?_;have aN:(m.alloc (.cells #[.bool true,Y i,.bool false,Y (c.js+1),.bool false,Y 0] 38)).drew.ownsRow m.heap.size 38 2 (.slice (j_ m.heap.size) 3 3) 3 (jd [⟨true,i⟩,⟨false,c.js+1⟩,default]):=iF cy ((H [] _).drew);clear cy;obtain⟨U,cD⟩:=nm_ ((m.alloc (.cells #[.bool true,Y i,.bool false,Y (c.js+1),.bool false,Y 0] 38)).drew);rw[<-cD]at z aN |-;clear cD;have g:U.cell? (Z a 0)=some (Y 13)/\U.cell? (Z a 1)=some (Y (E:Int))/\U.cell? (Z a 2)=some (Y (d:Int))/\U.cell? (Z a 3)=some (Y ((d:Int)+(f:Int)))/\U.cell? (Z a 4)=some (Y n):=(F.g_ z).c5;have aw:(0:Int)<=(d:Int):=X;have bE:(d:Int)<=16:=X
 iterate 8 refine jW g ?_
 refine hV 8 λK k=>?_
 refine ze rfl rfl m.heap.size 38 aG 2 16 underlying54 aE P aL bi rfl I 3 r_ aN (Z j 4) d 16 (jd ((List.range d).map c.sr)) r_ (by rw[lX,F6,Hp]) (λaO aV hj=>by rw[oP,(D.g_ z).bk.f_];exact AH c d X aO aV hj) (nE _) (by simp only[maxLen];omega) X z.size ?_;intro a7 c5 ad R dr;have A:J [] m ad:=z.grown dr (λbd hk=>.inr (aN.lt bd hk).1);clear g
 refine hX k (F.g_ A).c5 λg=>?_
 clear k K;refine iH 9 g ?_;refine hC k_ ?_ _;clear g aN dr z
 go_upto_region 18 with fail
 refine hI (λw'=>(w'.cell? (Z a 0)=some (Y 13)/\w'.cell? (Z a 1)=some (Y (E:Int))/\w'.cell? (Z a 2)=some (Y (d:Int))/\w'.cell? (Z a 3)=some (Y ((d:Int)+(f:Int)))/\w'.cell? (Z a 4)=some (Y n))/\w'.cell? (Z j 37)=some (Y c.nx)) 17 k_ ?_;replace R:ad.drew.ownsRow m.heap.size 38 2 (.slice a7 (3+d) c5) (3+d) (jd [⟨true,i⟩,⟨false,c.js+1⟩,default]++jd ((List.range d).map c.sr)):=R;replace A:J [] m ad.drew:=A.drew;obtain⟨bw,bg⟩:=nm_ ad.drew;rw[<-bg]at A R |-;clear bg
 refine nZ ⟨(F.g_ A).c5,((D.g_ A).bk.f_ 37).trans rfl⟩ λg=>?_
 (iterate 10 refine jW g ?_)
 refine iH 10 (v:=Y (f:Int)) g ?_ (hy:=(Or.inl ⟨r_,by(intro w' bq;(try dsimp only at bq);(have e:IntKind.i64.wrap ((d:Int)+(f:Int)-(d:Int))=(f:Int):=(by rw[GX];omega);go_simp;try(first|with_reducible rfl|(rw[e]))))⟩))
 refine hV 11 λK k=>?_
 refine zd rfl rfl .i64 underlying3 m.heap.size 38 aG 2 16 underlying54 aE P aL bi rfl I I f (vi f) (3+d) r_ R .i64 r_ (by simp only[maxLen];omega) X A.size ?_;intro s u Q b3 MO;have az:J [] m Q:=A.grown MO (λbd hk=>.inr (R.lt bd hk).1);clear g MO R A
 refine hX k ⟨(F.g_ az).c5,((D.g_ az).bk.f_ 37).trans rfl⟩ λg=>?_
 clear k K;refine iH 12 g ?_
 refine hV 13 λK k=>?_
 go_simp;have bt:J [] Q (Q.alloc (.cells #[Y c.nx,.slice s (3+d+f) u] 56)):=(H [] Q).alloc _;have M:J [] m (Q.alloc (.cells #[Y c.nx,.slice s (3+d+f) u] 56)):=az.trans bt;have ar:Bk (Q.alloc (.cells #[Y c.nx,.slice s (3+d+f) u] 56)) Q.heap.size 56 #[Y c.nx,.slice s (3+d+f) u]:=Q_ Q _ _;have b8:=iF b3 bt;clear g
 refine hX k ⟨(F.g_ M).c5,((D.g_ M).bk.f_ 37).trans rfl⟩ λg=>?_
 clear k K;clear b3 az bt;obtain⟨C,bJ⟩:=nm_ (Q.alloc (.cells #[Y c.nx,.slice s (3+d+f) u] 56));rw[<-bJ]at ar M b8 g |-;clear bJ;generalize Q.heap.size=B at*;have y:=D.g_ M;have bh:=F.g_ M;have bl:=l.g_ M
 (iterate 3 refine jW g ?_)
 have av:C.cell? (Z j 74)=some (.slice c.e.nw.A c.e.nw.l.length c.e.nw.c):=(y.bk.f_ 74).trans rfl;have G:=y.bk.hm 74;have W:=(H [j] C).setCell (p:=(Z j 74)) (.inl s_) (.slice (j_ B) 1 1);have aP:Bk (C.setCell (Z j 74) (.slice (j_ B) 1 1)) j 186 ({c with e:={c.e with nw:=⟨some (Z B 0),1,[⟨⟨c.nx,[⟨true,i⟩,⟨false,c.js+1⟩,default]++((List.range d).map c.sr++List.replicate f default)⟩,s,u⟩]⟩}}:X1).g8:=y.bk.hN 74 (.slice (j_ B) 1 1)
 have bo:([⟨true,i⟩,⟨false,c.js+1⟩,default]++((List.range d).map c.sr++List.replicate f default):List Vl).length=3+d+f:=by simp only[K_,FJ,Gh,F6,Hp,Gl];omega
 have ai:Vs C s ([⟨true,i⟩,⟨false,c.js+1⟩,default]++((List.range d).map c.sr++List.replicate f default)):=by
  have q:=Sl.iQ b8
  have e:jd ([⟨true,i⟩,⟨false,c.js+1⟩,default]++((List.range d).map c.sr++List.replicate f default))=(jd [⟨true,i⟩,⟨false,c.js+1⟩,default]++jd ((List.range d).map c.sr)++(Builtin.zeroCells #[.bool false,Y 0] f).toList):=by rw[qx,qx,vO,Ge]
  unfold Vs;rw[e,bo];exact q
 have bj:Os C (j_ B) [⟨⟨c.nx,[⟨true,i⟩,⟨false,c.js+1⟩,default]++((List.range d).map c.sr++List.replicate f default)⟩,s,u⟩]:=by
  have q:=yO (r:=⟨⟨c.nx,[⟨true,i⟩,⟨false,c.js+1⟩,default]++((List.range d).map c.sr++List.replicate f default)⟩,s,u⟩) (by
   show Bk C B 56 #[Y c.nx,.slice s ([⟨true,i⟩,⟨false,c.js+1⟩,default]++((List.range d).map c.sr++List.replicate f default):List Vl).length u]
   rw[bo]
   exact ar)
  exact q
 have au:nV C [⟨⟨c.nx,[⟨true,i⟩,⟨false,c.js+1⟩,default]++((List.range d).map c.sr++List.replicate f default)⟩,s,u⟩]:=by
  intro r hr
  have:r=⟨⟨c.nx,[⟨true,i⟩,⟨false,c.js+1⟩,default]++((List.range d).map c.sr++List.replicate f default)⟩,s,u⟩:=zu hr
  subst this;exact⟨ai,by show([⟨true,i⟩,⟨false,c.js+1⟩,default]++((List.range d).map c.sr++List.replicate f default):List Vl).length<=1000000000;rw[bo];omega⟩
 have aj:=y.B9 (x':=({c with e:={c.e with nw:=⟨some (Z B 0),1,[⟨⟨c.nx,[⟨true,i⟩,⟨false,c.js+1⟩,default]++((List.range d).map c.sr++List.replicate f default)⟩,s,u⟩]⟩}}:X1)) W aP rfl rfl rfl rfl bj au y.ds y.hW (H_ 1) y.sJ y.qc;have aH:=bl.ir W;have o:=bh.gr W (zu t)
 refine hV 17 λK k=>?_
 go_simp;refine k.out _ _ (λh=>U_ h I) ?_;clear k K
 try simp only[a_]
 clear g y bh bl ai ar bj au aP av G W b8 M D F l;obtain⟨T,ae⟩:=nm_ ({c with e:={c.e with nw:=⟨some (Z B 0),1,[⟨⟨c.nx,[⟨true,i⟩,⟨false,c.js+1⟩,default]++((List.range d).map c.sr++List.replicate f default)⟩,s,u⟩]⟩}}:X1);rw[<-ae]at aj;have ap:Hid ((jH x.p ⟨13,E,d,((d:Int)+(f:Int)),n⟩)=sD (h4 T.p 1 0 ⟨true,T.nx⟩) n):=O (by rw[aW.out,ae];rfl)
 have d1:T.e.ws.l.length<=1000000:=by rw[ae];exact ax
 clear ae aW bo;obtain⟨bF,bL⟩:=nm_ (C.setCell (Z j 74) (.slice (j_ B) 1 1));rw[<-bL]at aj o aH |-;clear bL;refine hC k_ ?_ _;have br:bF.cell? (Z j 37)=some (Y T.nx):=(aj.bk.f_ 37).trans rfl
 go_upto_region 20 with(go_at_call 163;((with_reducible refine(jZ b j T 1 0 ⟨true,T.nx⟩ aj d1).mono ?_);unfold kW;rintro e bv⟨MP,rfl,aD,aZ,z⟩;have be:=O aZ;clear aZ))
 have ay:=aH.trans z;have ag:=o.xg z t;have aX:=ag.f_ 4;have bT:bv.cell? (Z j 39)=some (Y MP.e.pc):=(aD.bk.f_ 39).trans rfl;have bU:=aD.bk.hm 39;clear br;go_wp2;have bm:=aD.set (x':={MP with e:={MP.e with pc:=n}}) 39 (Y n) rfl rfl rfl rfl rfl rfl rfl rfl;refine en_ ?_;rw[ap.out,<-be.out];exact⟨_,rfl,bm,rfl,ay.ir ((H [j] _).setCell (.inl s_) _)⟩
def Asc.eq{b zs:List Int}(h:Asc b P)(k:Asc zs P):b=zs:=by
 have c:b.Perm zs:=(List.perm_ext_iff_of_nodup h.nodup k.nodup).2 λx=>(h.mem x).trans (k.mem x).symm
 exact c.eq_of_pairwise (le:=(· < ·)) (λa d _ _ e f=>by omega) h.lt k.lt
open Classical in
noncomputable def pick (l:List Int) (P:Int->Prop):List Int:=oC (l.filter (λx=>decide (P x)))
inductive Ag(h:List Ob)(P:Int->Prop):Int->Prop
 |root {x:Int} (hp:P x) (hi:x∈hQ h):Ag h P x
 |step {x:Int} {o:Ob} {v:Vl} (hx:Ag h P x) (ho:iU h x=some o) (hv:v∈o.fs) (hr:isRef v=true) (hi:v.n∈hQ h):Ag h P v.n
noncomputable def ES (h:List Ob) (rs:List Int):List Int:=pick (hQ h) (Ag h (· ∈rs))
def Ag.ids{x:Int}(r:Ag h P x):x∈hQ h:=by
 cases r with
 |root _ b=>exact b
 |step _ _ _ _ b=>exact b
def od{n:Int}:n∈hQ h↔∃o,iU h n=some o:=by
 constructor
 .intro d;obtain⟨o,c,rfl⟩:=Z_.1 d
  cases b:iU h o.id with
  |some e=>exact⟨e,rfl⟩
  |none=>have:=List.find?_eq_none.1 b o c;simp at this
 .rintro⟨o,b⟩;exact Z_.2 ⟨o,tX b,ph b⟩
def Ag.mono{Q:Int->Prop}(g:∀x,P x->Q x){x:Int}(r:Ag h P x):Ag h Q x:=by
 induction r with
 |root a b=>exact .root (g _ a) b
 |step _ b d e f c=>exact .step c b d e f
structure yR(h:List Ob)(L:List Int)(S S':Int->Prop):Prop where
 up:∀x,S x->S' x
 roots:∀x∈L,x∈hQ h->S' x
 sound:∀x,S' x->S x∨Ag h (· ∈L) x
 closed:∀x,S' x->¬S x->∀o,iU h x=some o->∀v∈o.fs,isRef v=true->v.n∈hQ h->S' v.n
def yR.nil(h:List Ob)(S:Int->Prop):yR h [] S S:=⟨λ_ a=>a,λ_ a=>(by cases a),λ_ a=>.inl a,λ_ a b=>U_ a b⟩
def yR.congr{L:List Int}{b T a:Int->Prop}(v:yR h L S b)(e:∀x,S x↔T x)(f:∀x,b x↔a x):yR h L T a:=by
 have c:S=T:=funext λx=>propext (e x)
 have d:b=a:=funext λx=>propext (f x)
 rw[<-c,<-d];exact v
def yR.app{L i:List Int}{f c:Int->Prop}(a:yR h L S f)(b:yR h i f c):yR h (L++i) S c:=by
 refine⟨λx d=>b.up x (a.up x d),λx d e=>?_,λx d=>?_,λx d p o j n m k e=>?_⟩
 .rcases T_.1 d with d|d
  .exact b.up x (a.roots x d e)
  .exact b.roots x d e
 .rcases b.sound x d with d|d
  .rcases a.sound x d with d|d
   .exact .inl d
   .exact .inr (d.mono λq g=>FL _ g)
  .exact .inr (d.mono λq g=>GG _ g)
 .by_cases g:f x
  .exact b.up _ (a.closed x g p o j n m k e)
  .exact b.closed x d g o j n m k e
def yR.skip{n:Int}(q:n∈hQ h->S n):yR h [n] S S:=
 ⟨λ_ a=>a,λx a b=>by rw[R_.1 a]at b |-;exact q b,λ_ a=>.inl a,λ_ a c=>U_ a c⟩
def C0(fs:List Vl):List Int:=(fs.filter (·.r)).map (·.n)
def yR.node{m:Int->Prop}{n:Int}{o:Ob}(i:iU h n=some o)(h0:(0:Int)∉hQ h)(v:yR h (C0 o.fs) (λx=>S x∨x=n) m):yR h [n] S m:=by
 have p:n∈hQ h:=by
  have c:=ph i;exact Z_.2 ⟨o,tX i,c⟩
 have z:∀x,Ag h (· ∈C0 o.fs) x->Ag h (· ∈[n]) x:=by
  intro x y
  induction y with
  |root a g=>
   obtain⟨j,e,rfl⟩:=Z_.1 a;obtain⟨e,d⟩:=F5.1 e;refine .step (.root (R_.2 rfl) p) i e ?_ g
   have:j.n≠0:=λc=>h0 (c▸g)
   unfold isRef;simp[d,this]
  |step _ g r s c q=>exact .step q g r s c
 refine⟨λx b=>v.up x (.inl b),λx b k=>?_,λx b=>?_,λx b nq u f j e d k=>?_⟩
 .rw[R_.1 b];exact v.up n (.inr rfl)
 .rcases v.sound x b with(b|b)|b
  .exact .inl b
  .rw[b];exact .inr (.root (R_.2 rfl) p)
  .exact .inr (z x b)
 .by_cases c:x=n
  .subst c;rw[i]at f;injection f with f;subst f;refine v.roots _ (Z_.2 ⟨j,F5.2 ⟨e,?_⟩,rfl⟩) k;unfold isRef at d;simp at d;exact d.1
  .exact v.closed x b (λa=>a.elim nq c) u f j e d k
open Classical in
noncomputable def FE (h:List Ob) (S:Int->Prop):Nat:=((hQ h).filter (λx=> !decide (S x))).length
