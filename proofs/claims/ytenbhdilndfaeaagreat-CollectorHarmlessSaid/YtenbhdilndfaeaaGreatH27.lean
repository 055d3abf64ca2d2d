import Derived.Test.YtenbhdilndfaeaaGreatH22
import Derived.Test.YtenbhdilndfaeaaGreatH24
set_option maxRecDepth 100000
set_option maxHeartbeats 0
set_option linter.all false
namespace Go.Proofs.YtenbhdilndfaeaaGreat
open Go.RowKit Go.Proofs.Tryz
section
variable{G:Prop}{P S S':Int->Prop}{w:World}{ops:Array Oper}{o:Oper}{a:Act}{K:Act->World->Prop}{Q:Exit->Act->World->Prop}{t:TypeId}{l:QR}{h:QQ}{L:QS}(x:X1)
def Jm(h:G:=by
 refine k9 rfl rfl r_ r_ r_ bF ?_;have i:J [] s aQ:=p3 aP aU<|I_ _;clear C;refine hZ H (W.hF i).c5 λC=>?_;clear H K;refine h4 7 λK H=>?_;go_simp;refine hZ H C λC=>?_;clear H K;refine h4 10 λK H=>?_;have bO:(Instr.lookup 263 (.map<|some s.heap.size) (Y 18) false).run prog aQ=.ok (Y 2) aQ:=dG.lookup (show(Lit.int .i64 18).wf=true by decide);refine oa rfl rfl r_ r_ bO ?_;clear bO;refine hZ H C λC=>?_;clear H K;have m:=z.hF i;have q:=l.hF i;have o:=W.hF i;clear C j dG bF k N0 aG aP aU i z W l;refine h4 11 λK H=>?_;go_simp;(go_at_call 118;((with_reducible refine(jY b gx am 1 2 m bV).mono ?_);unfold ni;rintro e T⟨aq,rfl,ag,aM,NZ⟩;have bu:=O aM;clear aM;rw[aL.out]));exact Ju):G:=h
def Jn(h:G:=by
 refine k9 rfl rfl r_ r_ r_ bF ?_;have i:J [] s aQ:=p3 aP aU<|I_ _;clear C;refine hZ H (W.hF i).c5 λC=>?_;clear H K;refine h4 7 λK H=>?_;go_simp;refine hZ H C λC=>?_;clear H K;refine h4 10 λK H=>?_;have bO:(Instr.lookup 263 (.map<|some s.heap.size) (Y 15) false).run prog aQ=.ok (Y 1) aQ:=dG.lookup (show(Lit.int .i64 15).wf=true by decide);refine oa rfl rfl r_ r_ bO ?_;clear bO;refine hZ H C λC=>?_;clear H K;have m:=z.hF i;have q:=l.hF i;have o:=W.hF i;clear C j dG bF k N0 aG aP aU i z W l;refine h4 11 λK H=>?_;go_simp;(go_at_call 118;((with_reducible refine(jY b gx am 1 1 m bV).mono ?_);unfold ni;rintro e T⟨aq,rfl,ag,aM,NZ⟩;have bu:=O aM;clear aM;rw[aL.out]));exact Ju):G:=h
def Ju(h:G:=by
 have aJ:=o.xg NZ t;refine hZ H aJ.c5 λC=>?_;clear H K;refine iC 16 C ?_;have bq:T.cell? (Z gx<|40+E*2)=some (.bool (aq.e.r E).r):=(ag.bk.f_ _).trans (kt aq E ha).1;have aY:T.cell? (Z gx<|40+E*2+1)=some (Y (aq.e.r E).n):=(ag.bk.f_ _).trans (kt aq E ha).2;have bE:=ag.bk.hG<|40+E*2;have bz:=ag.bk.hG<|40+E*2+1;refine h4 17 λK H=>?_;go_simp;have aR:Bk ((T.setCell (Z gx<|40+E*2)<|.bool v.r).setCell (Z gx<|40+E*2+1)<|Y v.n) gx 186 (({aq with e:={aq.e with r:=pN aq.e.r E v}}:X1)).g_:=by rw[<-mJ aq v E ha];exact(ag.bk.hW (40+E*2)<|.bool v.r).hW (40+E*2+1)<|Y v.n
 have M:J [gx] T ((T.setCell (Z gx<|40+E*2)<|.bool v.r).setCell (Z gx<|40+E*2+1)<|Y v.n):=(((G_ [gx] T).setCell (p:=(Z gx<|40+E*2)) (.inl s_)<|.bool v.r).setCell (p:=(Z gx<|40+E*2+1)) (.inl s_)<|Y v.n);refine H.out _ _ (λh=>GR h I) ?_;clear H K;try simp only[a_]
 refine hN k_ ?_ _;go_wp2;refine en_ ?_;rw[bp.out,<-bu.out];exact⟨_,rfl,ag.sp M aR rfl rfl rfl rfl rfl rfl rfl,rfl,(q.trans NZ).iy M⟩):G:=h
def J0(h:G:=by
 have HM:Hid (P=({bo with hM:=true}:X1).p):=O (by rw[NY.out,L_ aO];rfl);clear aO NY;have d:aJ.cell? (Z gx 81)=some (.bool bo.hM):=(aG.bk.f_ 81).trans rfl;exact KI):G:=h
def KI(h:G:=by
 have ah:=aG.bk.hG 81;go_wp2;have bY:=aG.set (x':={bo with hM:=true}) 81 (.bool true) rfl rfl rfl rfl rfl rfl rfl rfl;refine rn_ ?_;rw[HM.out];exact⟨_,rfl,bY,rfl,h.iy<|(G_ [gx] _).setCell (.inl s_) _⟩):G:=h
def Mv(h:G:=by
 split;rename_i hp;rw[L_<|ha hp];simpa using NZ;split
 .simp;omega
 exact NZ):G:=h
def MS(h:G:=by
 rw[ai]at d;clear ai;go_wp2;refine en_ ?_;rw[HM.out];exact⟨am,rfl,z,rfl,l⟩):G:=h
def q4{P:Program}{E:Prop}(d:o.guard=none)(e:o.op=.makeMap t none)(h:K (a.put o.dst<|.map<|some w.heap.size)<|w.alloc<|.map #[] 0):
 if Region.wanted o (yielded ops a.tmps)=true then Oper.wp P o a w K Q else E:=by
 have c:Region.wanted o (yielded ops a.tmps)=true:=by simp[Region.wanted,d]
 rw[L_ c];have b:(Instr.makeMap t none).run P w=.ok (.map<|some w.heap.size) (w.alloc<|.map #[] 0):=rfl;unfold Oper.wp execOp;simp only[e,Option.map_none,Sem.run_bind,Sem.run_pure,Result.andThen_ok,b];exact h
def p3{b:Nat}{w':World}(e:w.grownBy w'<|some b){a:World}(h:J [] a w)(d:a.heap.size<=b):J [] a w':=
 h.grown e (λf c=>by injection c with c;subst c;exact .inr d)
def rest_15(b w:World)(gx:Nat)(x:X1)(E:Nat)(V c:Int)(n:Int)(L:kF b w gx x)(ha:E<16)(hs:x.p.e.sm 800000):
 Calls prog 121 #[q_ gx,.agg #[Y 15,Y (E:Int),Y V,Y c,Y n]] w (k5 (.tuple #[]) (jH x.p ⟨15,E,V,c,n⟩) b gx w):=by
 obtain⟨P,N⟩:=mn_<|jH x.p ⟨15,E,V,c,n⟩;rw[N];have R:=O N;clear N;obtain⟨B,a,Q,ad,u,f,aF,t⟩:=sP L #[Y 15,Y (E:Int),Y V,Y c,Y n];go_enter func121,ntmps121;go_upto_region 1 with fail;clear Q ad;have af:=f.f_ 0;have ao:J [] B B.drew:=(G_ [] B).drew;refine hS (λw'=>(w'.cell? (Z a 0)=some (Y 15)/\w'.cell? (Z a 1)=some (Y (E:Int))/\w'.cell? (Z a 2)=some (Y V)/\w'.cell? (Z a 3)=some (Y c)/\w'.cell? (Z a 4)=some (Y n))/\w'.cell? (Z gx<|4+E*2)=some (.bool (x.sr E).r)/\w'.cell? (Z gx<|4+E*2+1)=some (Y (x.sr E).n)) 10 k_ ?_;have C:=And.intro f.drew.c5<|wk (u.bk.drew) ha;have aT:(0:Int)<=(E:Int):=X;have aC:(E:Int)<16:=X;iterate 8 refine j8 C ?_
 refine h4 8 λK H=>?_;go_simp;clear C;refine hZ H (sw f u.bk ha) λC=>?_;clear H K;refine h4 9 λK H=>?_;go_simp;clear C;refine hZ H (sw f u.bk ha) λC=>?_;clear H K;refine hN k_ ?_ _;obtain⟨aK,ah,bN,aN,U,F,bD,a2,aS⟩:=Aa u f aF #[.bool (x.sr E).r,Y (x.sr E).n];rw[bN,aN];clear bN aN u f aF ao C;have af:=F.f_ 0;go_upto_region 36 with(go_at_call 116;((with_reducible refine(q9 b gx x U).mono ?_);unfold k5;rintro e g⟨am,rfl,z,bB,S⟩;have y:=O bB;clear bB));clear af;have W:=F.xg S t;have l:=a2.trans S;have aW:am.p.e.sm 800010:=by rw[y.out];exact(show(iv x.p).e.sm 800010 from hs.mono I)
 have bV:am.e.rs.l.length<=1000000:=H_ aW.rs I;have d:g.cell? (Z gx 81)=some (.bool am.hM):=(z.bk.f_ 81).trans rfl;clear U F a2 bD S aW;cases ai:am.hM with
 |true=>
  have HM:Hid (P=am.p):=O (by rw[<-R.out];show(if(iv x.p).hM=true then iv x.p else kJ (hQ (iv x.p) 1 1).1 E (hQ (iv x.p) 1 1).2)=_;rw[<-y.out];exact L_ ai);exact MS
 |false=>
  obtain⟨v,hv⟩:=mn_<|(hQ am.p 1 1).2;have aL:=O hv;clear hv;have bp:Hid (P=kJ (hQ am.p 1 1).1 E v):=O (by rw[<-R.out];show(if(iv x.p).hM=true then iv x.p else kJ (hQ (iv x.p) 1 1).1 E (hQ (iv x.p) 1 1).2)=_;rw[<-y.out,aL.out];exact K_<|by show ¬am.hM=true;rw[ai];decide);clear R y;rw[ai]at d;clear ai;go_upto_region 37 with fail;clear d;refine hS (λw'=>w'.cell? (Z a 0)=some (Y 15)/\w'.cell? (Z a 1)=some (Y (E:Int))/\w'.cell? (Z a 2)=some (Y V)/\w'.cell? (Z a 3)=some (Y c)/\w'.cell? (Z a 4)=some (Y n)) 17 k_ ?_;have A:J [] g g.drew:=(G_ [] g).drew;replace z:=z.hF A;replace W:=W.hF A;replace l:=l.hF A;clear A;obtain⟨s,aj⟩:=nm_ g.drew;rw[<-aj]at z W l |-;clear aj
  refine m6 W.c5 λC=>?_;refine iC 0 C ?_;refine iC 1 C ?_;refine iC 2 C ?_;refine iC 3 C ?_;refine iC 8 C ?_;refine iC 9 C ?_;refine iC 12 C ?_;refine iC 13 C ?_;refine iC 14 C ?_;refine iC 15 C ?_;refine h4 4 λK H=>?_;refine q4 rfl rfl ?_;have N0:Im (s.alloc<|.map #[] 0) s.heap.size 0 (λ_=>0):=Im.made s;clear C;refine hZ H (W.hF<|(G_ [] s).alloc _).c5 λC=>?_;clear H K;refine js 5 6 rfl rfl k_ (λK H=>?_) λK H=>?_
  ·
   obtain⟨D,k,j,aG⟩:=N0.update I (show(Lit.int .i64 15).wf=true by decide) (show(Lit.int .i64 1).wf=true by decide);refine k9 rfl rfl r_ r_ r_ k ?_;have aU:J [] s D:=p3 aG ((G_ [] s).alloc _)<|I_ _;clear C;refine hZ H (W.hF aU).c5 λC=>?_;clear H K;refine h4 6 λK H=>?_;obtain⟨aQ,bF,dG,aP⟩:=j.update I (show(Lit.int .i64 18).wf=true by decide) (show(Lit.int .i64 2).wf=true by decide);exact Jn
  ·
   obtain⟨D,k,j,aG⟩:=N0.update I (show(Lit.int .i64 18).wf=true by decide) (show(Lit.int .i64 2).wf=true by decide);refine k9 rfl rfl r_ r_ r_ k ?_;have aU:J [] s D:=p3 aG ((G_ [] s).alloc _)<|I_ _;clear C;refine hZ H (W.hF aU).c5 λC=>?_;clear H K;refine h4 5 λK H=>?_;obtain⟨aQ,bF,dG,aP⟩:=j.update I (show(Lit.int .i64 15).wf=true by decide) (show(Lit.int .i64 1).wf=true by decide);exact Jn
def rest_18(b w:World)(gx:Nat)(x:X1)(E:Nat)(V c:Int)(n:Int)(L:kF b w gx x)(ha:E<16)(hs:x.p.e.sm 800000):
 Calls prog 121 #[q_ gx,.agg #[Y 18,Y (E:Int),Y V,Y c,Y n]] w (k5 (.tuple #[]) (jH x.p ⟨18,E,V,c,n⟩) b gx w):=by
 obtain⟨P,N⟩:=mn_<|jH x.p ⟨18,E,V,c,n⟩;rw[N];have R:=O N;clear N;obtain⟨B,a,Q,ad,u,f,aF,t⟩:=sP L #[Y 18,Y (E:Int),Y V,Y c,Y n];go_enter func121,ntmps121;go_upto_region 1 with fail;clear Q ad;have af:=f.f_ 0;have ao:J [] B B.drew:=(G_ [] B).drew;refine hS (λw'=>(w'.cell? (Z a 0)=some (Y 18)/\w'.cell? (Z a 1)=some (Y (E:Int))/\w'.cell? (Z a 2)=some (Y V)/\w'.cell? (Z a 3)=some (Y c)/\w'.cell? (Z a 4)=some (Y n))/\w'.cell? (Z gx<|4+E*2)=some (.bool (x.sr E).r)/\w'.cell? (Z gx<|4+E*2+1)=some (Y (x.sr E).n)) 10 k_ ?_;have C:=And.intro f.drew.c5<|wk (u.bk.drew) ha;have aT:(0:Int)<=(E:Int):=X;have aC:(E:Int)<16:=X;iterate 8 refine j8 C ?_
 refine h4 8 λK H=>?_;go_simp;clear C;refine hZ H (sw f u.bk ha) λC=>?_;clear H K;refine h4 9 λK H=>?_;go_simp;clear C;refine hZ H (sw f u.bk ha) λC=>?_;clear H K;refine hN k_ ?_ _;obtain⟨aK,ah,bN,aN,U,F,bD,a2,aS⟩:=Aa u f aF #[.bool (x.sr E).r,Y (x.sr E).n];rw[bN,aN];clear bN aN u f aF ao C;have af:=F.f_ 0;go_upto_region 36 with(go_at_call 116;((with_reducible refine(q9 b gx x U).mono ?_);unfold k5;rintro e g⟨am,rfl,z,bB,S⟩;have y:=O bB;clear bB));clear af;have W:=F.xg S t;have l:=a2.trans S;have aW:am.p.e.sm 800010:=by rw[y.out];exact(show(iv x.p).e.sm 800010 from hs.mono I)
 have bV:am.e.rs.l.length<=1000000:=H_ aW.rs I;have d:g.cell? (Z gx 81)=some (.bool am.hM):=(z.bk.f_ 81).trans rfl;clear U F a2 bD S aW;cases ai:am.hM with
 |true=>
  have HM:Hid (P=am.p):=O (by rw[<-R.out];show(if(iv x.p).hM=true then iv x.p else kJ (hQ (iv x.p) 1 2).1 E (hQ (iv x.p) 1 2).2)=_;rw[<-y.out];exact L_ ai);exact MS
 |false=>
  obtain⟨v,hv⟩:=mn_<|(hQ am.p 1 2).2;have aL:=O hv;clear hv;have bp:Hid (P=kJ (hQ am.p 1 2).1 E v):=O (by rw[<-R.out];show(if(iv x.p).hM=true then iv x.p else kJ (hQ (iv x.p) 1 2).1 E (hQ (iv x.p) 1 2).2)=_;rw[<-y.out,aL.out];exact K_<|by show ¬am.hM=true;rw[ai];decide);clear R y;rw[ai]at d;clear ai;go_upto_region 37 with fail;clear d;refine hS (λw'=>w'.cell? (Z a 0)=some (Y 18)/\w'.cell? (Z a 1)=some (Y (E:Int))/\w'.cell? (Z a 2)=some (Y V)/\w'.cell? (Z a 3)=some (Y c)/\w'.cell? (Z a 4)=some (Y n)) 17 k_ ?_;have A:J [] g g.drew:=(G_ [] g).drew;replace z:=z.hF A;replace W:=W.hF A;replace l:=l.hF A;clear A;obtain⟨s,aj⟩:=nm_ g.drew;rw[<-aj]at z W l |-;clear aj
  refine m6 W.c5 λC=>?_;refine iC 0 C ?_;refine iC 1 C ?_;refine iC 2 C ?_;refine iC 3 C ?_;refine iC 8 C ?_;refine iC 9 C ?_;refine iC 12 C ?_;refine iC 13 C ?_;refine iC 14 C ?_;refine iC 15 C ?_;refine h4 4 λK H=>?_;refine q4 rfl rfl ?_;have N0:Im (s.alloc<|.map #[] 0) s.heap.size 0 (λ_=>0):=Im.made s;clear C;refine hZ H (W.hF<|(G_ [] s).alloc _).c5 λC=>?_;clear H K;refine js 5 6 rfl rfl k_ (λK H=>?_) λK H=>?_
  ·
   obtain⟨D,k,j,aG⟩:=N0.update I (show(Lit.int .i64 15).wf=true by decide) (show(Lit.int .i64 1).wf=true by decide);refine k9 rfl rfl r_ r_ r_ k ?_;have aU:J [] s D:=p3 aG ((G_ [] s).alloc _)<|I_ _;clear C;refine hZ H (W.hF aU).c5 λC=>?_;clear H K;refine h4 6 λK H=>?_;obtain⟨aQ,bF,dG,aP⟩:=j.update I (show(Lit.int .i64 18).wf=true by decide) (show(Lit.int .i64 2).wf=true by decide);exact Jm
  ·
   obtain⟨D,k,j,aG⟩:=N0.update I (show(Lit.int .i64 18).wf=true by decide) (show(Lit.int .i64 2).wf=true by decide);refine k9 rfl rfl r_ r_ r_ k ?_;have aU:J [] s D:=p3 aG ((G_ [] s).alloc _)<|I_ _;clear C;refine hZ H (W.hF aU).c5 λC=>?_;clear H K;refine h4 5 λK H=>?_;obtain⟨aQ,bF,dG,aP⟩:=j.update I (show(Lit.int .i64 15).wf=true by decide) (show(Lit.int .i64 1).wf=true by decide);exact Jm
def ra(l:QR)(p r:Vl):Bool:=decide (p.r=false\/r.r=true\/i0 l r.n=false)
def yV(a:XP × Int × Int)(v:Vl):XP:=
 if a.1.hM=true then a.1 else
 let p:=hQ a.1 a.2.1 0
 if p.2.r=true/\p.2.n=0 then{p.1 with e:={p.1.e with h7:=2,v:=v,pc:=p.1.j4,r:=p.1.sr}} else
 let r:=hQ p.1 a.2.1 1
 if ra r.1.ju p.2 r.2=true then kl r.1 else
 rM (h6 (h6 r.1 1 0 p.2) 1 1 v) r.2.n
def CO(x:XP)(E:Nat)(V c n:Int):jH x ⟨14,E,V,c,n⟩=yV (hO x) (x.sr E):=by
 have h:jH x ⟨14,E,V,c,n⟩=(if(hO x).1.hM=true then(hO x).1 else
  if(hQ (hO x).1 (hO x).2.1 0).2.r=true/\(hQ (hO x).1 (hO x).2.1 0).2.n=0 then{(hQ (hO x).1 (hO x).2.1 0).1 with e:={(hQ (hO x).1 (hO x).2.1 0).1.e with h7:=2,v:=x.sr E,pc:=(hQ (hO x).1 (hO x).2.1 0).1.j4,r:=(hQ (hO x).1 (hO x).2.1 0).1.sr}} else
  if(hQ (hO x).1 (hO x).2.1 0).2.r=false\/(hQ (hQ (hO x).1 (hO x).2.1 0).1 (hO x).2.1 1).2.r=true\/i0 (hQ (hQ (hO x).1 (hO x).2.1 0).1 (hO x).2.1 1).1.ju (hQ (hQ (hO x).1 (hO x).2.1 0).1 (hO x).2.1 1).2.n=false then kl (hQ (hQ (hO x).1 (hO x).2.1 0).1 (hO x).2.1 1).1 else
  rM (h6 (h6 (hQ (hQ (hO x).1 (hO x).2.1 0).1 (hO x).2.1 1).1 1 0 (hQ (hO x).1 (hO x).2.1 0).2) 1 1<|x.sr E) (hQ (hQ (hO x).1 (hO x).2.1 0).1 (hO x).2.1 1).2.n):=by
  unfold jH;dsimp only;rw[K_ I,K_ I,K_ I,K_ I,L_ rfl];rfl
 rw[h];unfold yV ra;simp only[HH]
def pP(l:QR)(p r:Vl):Nat:=if p.r=false then 2 else if r.r=true then 3 else if i0 l r.n=false then 4 else 5
def BG(l:QR)(p r:Vl):pP l p r=2\/pP l p r=3\/pP l p r=4\/pP l p r=5:=by
 unfold pP
 repeat' split
 all_goals simp
def retKC_2{p r:Vl}(h:pP l p r=2):p.r=false:=by
 unfold pP at h;cases b:p.r with
 |false=>rfl
 |true=>rw[K_<|by rw[b];decide]at h;split at h<;>first|(cases h;done)|(split at h<;>cases h)
def retKC_3{p r:Vl}(h:pP l p r=3):p.r=true/\r.r=true:=by
 unfold pP at h;cases b:p.r with
 |false=>rw[L_ b]at h;cases h
 |true=>
  rw[K_<|by rw[b];decide]at h;cases c:r.r with
  |true=>exact⟨rfl,rfl⟩
  |false=>rw[K_<|by rw[c];decide]at h;split at h<;>cases h
def retKC_45{p r:Vl}{k:Nat}(e:k=4\/k=5)(h:pP l p r=k):p.r=true/\r.r=false/\i0 l r.n=decide (k=5):=by
 unfold pP at h;cases c:p.r with
 |false=>rw[L_ c]at h;omega
 |true=>
  rw[K_<|by rw[c];decide]at h;cases d:r.r with
  |true=>rw[L_ d]at h;omega
  |false=>
   rw[K_<|by rw[d];decide]at h;refine⟨rfl,rfl,?_⟩;cases b:i0 l r.n with
   |false=>rw[L_ b]at h;subst h;rfl
   |true=>rw[K_<|by rw[b];decide]at h;subst h;rfl
def rest_14(b w:World)(gx:Nat)(x:X1)(E:Nat)(V c:Int)(n:Int)(L:kF b w gx x)(ha:E<16)(hs:x.p.e.sm 800000):
 Calls prog 121 #[q_ gx,.agg #[Y 14,Y (E:Int),Y V,Y c,Y n]] w (k5 (.tuple #[]) (jH x.p ⟨14,E,V,c,n⟩) b gx w):=by
 obtain⟨P,hP⟩:=mn_<|jH x.p ⟨14,E,V,c,n⟩;have al:=O<|(CO x.p E V c n).symm.trans hP;rw[hP];clear hP;obtain⟨an,a,Q,aA,bd,bf,aF,t⟩:=sP L #[Y 14,Y (E:Int),Y V,Y c,Y n];go_enter func121,ntmps121;go_upto_region 1 with fail;clear Q aA;have D:=bf.f_ 0;have ao:J [] an an.drew:=(G_ [] an).drew;refine hS (λw'=>(w'.cell? (Z a 0)=some (Y 14)/\w'.cell? (Z a 1)=some (Y (E:Int))/\w'.cell? (Z a 2)=some (Y V)/\w'.cell? (Z a 3)=some (Y c)/\w'.cell? (Z a 4)=some (Y n))/\w'.cell? (Z gx<|4+E*2)=some (.bool (x.sr E).r)/\w'.cell? (Z gx<|4+E*2+1)=some (Y (x.sr E).n)) 10 k_ ?_;have f:=And.intro bf.drew.c5<|wk (bd.bk.drew) ha;have aT:(0:Int)<=(E:Int):=X;have aC:(E:Int)<16:=X;iterate 8 refine j8 f ?_
 refine h4 8 λK s=>?_;go_simp;clear f;refine hZ s (sw bf bd.bk ha) λf=>?_;clear s K;refine h4 9 λK s=>?_;go_simp;clear f;refine hZ s (sw bf bd.bk ha) λf=>?_;clear s K;refine hN k_ ?_ _;obtain⟨aK,bh,bN,aN,bm,ax,bD,a2,R⟩:=Aa bd bf aF #[.bool (x.sr E).r,Y (x.sr E).n];rw[bN,aN];clear bN aN bd bf aF ao f;have D:=ax.f_ 0;go_upto_region 23 with(go_at_call 161;((with_reducible refine(nf b gx x bm<|H_ hs.rs I).mono ?_);unfold vE;rintro e ae⟨A,rfl,bv,bB,S⟩;have aw:=O bB;clear bB));have aW:=l9 hs;rw[<-aw.out]at aW;obtain⟨z,aQ⟩:=mn_<|(hO x.p).2.1;rw[aQ];have aY:=O aQ;clear aQ;generalize (hO x.p).2.2=b0 at*;have bx:=bD.xg S R;have l:=a2.trans S;have d:ae.cell? (Z gx 81)=some (.bool A.hM):=(bv.bk.f_ 81).trans rfl;clear bm ax a2 bD S D;cases ai:A.hM with
 |true=>
  have HM:Hid (P=A.p):=O (by rw[<-al.out];unfold yV;rw[L_ (by rw[<-aw.out];exact ai),aw.out]);rw[ai]at d;clear ai;go_wp2;refine rn_ ?_;rw[HM.out];exact⟨A,rfl,bv,rfl,l⟩
 |false=>
  rw[ai]at d;obtain⟨p,hv⟩:=mn_<|(hQ A.p z 0).2;have aL:=O hv;clear hv;have bp:Hid (P=(if p.r=true/\p.n=0 then{(hQ A.p z 0).1 with e:={(hQ A.p z 0).1.e with h7:=2,v:=x.sr E,pc:=(hQ A.p z 0).1.j4,r:=(hQ A.p z 0).1.sr}} else
   let r:=hQ (hQ A.p z 0).1 z 1
   if ra r.1.ju p r.2=true then kl r.1 else rM (h6 (h6 r.1 1 0 p) 1 1<|x.sr E) r.2.n)):=O (by
   rw[<-al.out];unfold yV;rw[K_ (by rw[<-aw.out];show ¬A.hM=true;rw[ai];decide),aY.out,<-aw.out,<-aL.out];rfl)
  clear al aw aY ai;have bV:A.e.rs.l.length<=1000000:=H_ aW.rs I;go_upto_region 25 with(go_at_call 118;((with_reducible refine(jY b gx A z 0 bv bV).mono ?_);unfold ni;rintro e cb⟨i,rfl,ag,aM,NZ⟩;have bu:=O aM;clear aM;rw[aL.out]));have br:=ko aW z 0;rw[<-bu.out]at br;have bQ:Hid (P=(if p.r=true/\p.n=0 then{i.p with e:={i.p.e with h7:=2,v:=x.sr E,pc:=i.p.j4,r:=i.p.sr}} else
   let r:=hQ i.p z 1
   if ra r.1.ju p r.2=true then kl r.1 else rM (h6 (h6 r.1 1 0 p) 1 1<|x.sr E) r.2.n)):=O (by rw[bp.out,<-bu.out])
  clear bp aL d;have U:=ag.hF<|(G_ [] cb).alloc<|.cells #[.bool p.r,Y p.n] 38;have cx:=T_ cb 38 #[.bool p.r,Y p.n];have bC:=(bx.xg NZ R).alloc<|.cells #[.bool p.r,Y p.n] 38;have be:=(l.trans NZ).hF<|(G_ [] cb).alloc<|.cells #[.bool p.r,Y p.n] 38;have b9:cb.heap.size≠gx:=ov ag.bk.lt;obtain⟨o,bG⟩:=nm_<|cb.alloc<|.cells #[.bool p.r,Y p.n] 38;rw[<-bG]at U cx bC be |-;clear bG;clear ag NZ bv l bx;generalize cb.heap.size=bK at*;have D:=cx.f_ 0;have af:=cx.f_ 1
  go_cut [189] (λcc aX=>cc=.bool (decide (p.r=true/\p.n=0))/\aX=o)
  case first=>
   cases k:p.r with
   |false=>
    rw[k]at D;have a8:=O (show decide (p.r=true/\p.n=0)=false by simp[k]);clear k;exact NA
   |true=>
    rw[k]at D;have a8:=O (show decide (p.r=true/\p.n=0)=(p.n==0) by simp[k,Bool.beq_eq_decide_eq]);clear k;exact NA
  obtain⟨rfl,d0⟩:=hcut;subst wc;by_cases bq:p.r=true/\p.n=0
  .have HM:Hid (P={i.p with e:={i.p.e with h7:=2,v:=x.sr E,pc:=i.p.j4,r:=i.p.sr}}):=O (by rw[bQ.out,L_ bq]);have q:decide (p.r=true/\p.n=0)=true:=Hn bq;rw[q];clear q bq bQ;clear D af cx;go_upto_region 26 with fail;have cf:=U.bk.drew;refine hS (λw'=>(∀g,g<33->w'.cell? (Z gx<|3+g)=(iE i.j4 i.sr)[g]?)/\w'.cell? (Z bh 0)=some (.bool (x.sr E).r)/\w'.cell? (Z bh 1)=some (Y (x.sr E).n)) 20 k_ ?_;refine m6 ⟨λg j=>by rw[cf.f_];exact mK i g j,bC.drew.f_ 0,bC.drew.f_ 1⟩ λf=>?_;(iterate 7 refine j8 f ?_);refine iC 7 (v:=.agg<|iE i.j4 i.sr) f ?_ (hy:=(Or.inl ⟨r_,λw' aZ=>jA 49 rfl gx 3 r_ (λg j=>aZ.1 g j) underlying49 rfl k_⟩));(iterate 3 refine j8 f ?_);have bZ:o.cell? (Z gx 38)=some (Y i.e.h7):=(U.bk.f_ 38).trans rfl;have bU:=U.bk.hG 38;refine h4 11 λK s=>?_;go_simp;have m:Bk ((o.setCell (Z gx 38)<|Y 2).drew) gx 186 ({i with e:={i.e with h7:=2}}:X1).g_:=(U.bk).hW 38<|Y 2;have y:Bk ((o.setCell (Z gx 38)<|Y 2).drew) bh 38 #[.bool (x.sr E).r,Y (x.sr E).n]:=(bC).ir (p:=(Z gx 38)) R<|Y 2;have M:J [gx] o ((o.setCell (Z gx 38)<|Y 2).drew):=J.drew <| ((G_ [gx] o)).setCell (p:=(Z gx 38)) (.inl s_) (Y 2);obtain⟨u,T⟩:=nm_<|(o.setCell (Z gx 38)<|Y 2).drew;rw[<-T]at m y M |-;clear T f
   refine hZ s ⟨λg j=>by rw[m.f_];exact mK ({i with e:={i.e with h7:=2}}:X1) g j,y.f_ 0,y.f_ 1⟩ λf=>?_;clear s K;clear bZ bU;(iterate 3 refine j8 f ?_);have b7:u.cell? (Z gx 79)=some (.bool i.e.v.r):=(m.f_ 79).trans rfl;have b8:u.cell? (Z gx 80)=some (Y i.e.v.n):=(m.f_ 80).trans rfl;have b4:=m.hG 79;have b6:=m.hG 80;refine h4 15 λK s=>?_;go_simp;have F:Bk ((u.setCell (Z gx 79)<|.bool (x.sr E).r).setCell (Z gx 80)<|Y (x.sr E).n) gx 186 ({i with e:={i.e with h7:=2,v:=x.sr E}}:X1).g_:=((m).hW 79<|.bool (x.sr E).r).hW 80<|Y (x.sr E).n;have B:Bk ((u.setCell (Z gx 79)<|.bool (x.sr E).r).setCell (Z gx 80)<|Y (x.sr E).n) bh 38 #[.bool (x.sr E).r,Y (x.sr E).n]:=((y).ir (p:=(Z gx 79)) R<|.bool (x.sr E).r).ir (p:=(Z gx 80)) R<|Y (x.sr E).n;have C:J [gx] o ((u.setCell (Z gx 79)<|.bool (x.sr E).r).setCell (Z gx 80)<|Y (x.sr E).n):=((M).setCell (p:=(Z gx 79)) (.inl s_)<|.bool (x.sr E).r).setCell (p:=(Z gx 80)) (.inl s_)<|Y (x.sr E).n;obtain⟨ay,W⟩:=nm_<|(u.setCell (Z gx 79)<|.bool (x.sr E).r).setCell (Z gx 80)<|Y (x.sr E).n;rw[<-W]at F B C |-;clear W f
   refine hZ s ⟨λg j=>by rw[F.f_];exact mK ({i with e:={i.e with h7:=2,v:=x.sr E}}:X1) g j,B.f_ 0,B.f_ 1⟩ λf=>?_;clear s K;clear b7 b4 b8 b6;iterate 3 refine j8 f ?_
   refine h4 19 λK s=>?_;rw[L_ r_];refine jL 49 _ _ rfl gx 39 r_ (iE i.j4 i.sr) r_ 186 _ F (by show 39+33<=82;decide) k_ (oo) ?_;intro N0 H G;rw[nG]at H;have N:=B.gr G<|zu R;clear f;refine hZ s ⟨λg j=>by rw[H.f_];exact mK ({i with e:={i.e with h7:=2,v:=x.sr E,pc:=i.j4,r:=i.sr}}:X1) g j,N.f_ 0,N.f_ 1⟩ λf=>?_;clear s K;refine hN k_ ?_ _;go_wp2;refine en_ ?_;rw[HM.out];exact⟨_,rfl,U.sp (x':=({i with e:={i.e with h7:=2,v:=x.sr E,pc:=i.j4,r:=i.sr}}:X1)) (C.trans G) H rfl rfl rfl rfl rfl rfl rfl,rfl,be.iy<|C.trans G⟩
  have q:decide (p.r=true/\p.n=0)=false:=H4 bq;rw[q];obtain⟨r,hr⟩:=mn_<|(hQ i.p z 1).2;have bn:=O hr;clear hr;have bL:Hid (P=if ra (hQ i.p z 1).1.ju p r=true then kl (hQ i.p z 1).1 else rM (h6 (h6 (hQ i.p z 1).1 1 0 p) 1 1<|x.sr E) r.n):=O (by rw[bQ.out,K_ bq,<-bn.out]);clear q bQ;have b5:i.e.rs.l.length<=1000000:=H_ br.rs I;go_upto_region 28 with(go_at_call 118;((with_reducible refine(jY b gx i z 1 U b5).mono ?_);unfold ni;rintro e aB⟨bo,rfl,a6,aR,aD⟩;have bl:=O aR;clear aR;rw[bn.out]));have bR:=ko br z 1;rw[<-bl.out]at bR;have NY:Hid (P=if ra bo.ju.l p r=true then kl bo.p else rM (h6 (h6 bo.p 1 0 p) 1 1<|x.sr E) r.n):=O (by rw[bL.out,<-bl.out];rfl);clear bL D af;have aG:=a6.hF<|(G_ [] aB).alloc<|.cells #[.bool r.r,Y r.n] 38;have m:=T_ aB 38 #[.bool r.r,Y r.n];have N:=(bC.xg aD R).alloc<|.cells #[.bool r.r,Y r.n] 38;have u:=(cx.xg aD b9).alloc<|.cells #[.bool r.r,Y r.n] 38;have h:=(be.trans aD).hF<|(G_ [] aB).alloc<|.cells #[.bool r.r,Y r.n] 38;have cg:aB.heap.size≠gx:=ov a6.bk.lt;obtain⟨y,bT⟩:=nm_<|aB.alloc<|.cells #[.bool r.r,Y r.n] 38;rw[<-bT]at aG m N u h |-;clear bT;clear a6 aD U be bC cx;generalize aB.heap.size=W at*;clear bu bl bn bq
  rcases BG bo.ju.l p r with H|H|H|H
  have F:=O H;clear H;have k:=retKC_2 F.out;refine hS (λw'=>w'.cell? (Z bK 0)=some (.bool false)/\w'.cell? (Z W 0)=some (.bool r.r)/\w'.cell? (Z W 1)=some (Y r.n)/\w'.cell? (Z gx 0)=some (.slice bo.ju.A bo.ju.l.length bo.ju.c)/\w'.cell? (Z gx 1)=some (Y bo.hH)/\w'.cell? (Z gx 2)=some (Y bo.hC)) 17 k_ ?_;have g:J [] y y.drew:=(G_ [] y).drew;obtain⟨aJ,C⟩:=nm_ y.drew;rw[<-C]at g |-;clear C
  refine m6 ⟨(((u.hF g)).f_ 0).trans (by rw[k];rfl),(((m.hF g)).f_ 0).trans r_,((m.hF g)).f_ 1,(((aG.hF g)).bk.f_ 0).trans rfl,(((aG.hF g)).bk.f_ 1).trans rfl,(((aG.hF g)).bk.f_ 2).trans rfl⟩ λf=>?_;(iterate 4 refine j8 f ?_);refine iC 4 (v:=undef) f ?_ (hy:=(Or.inr ⟨k_,rfl⟩));refine iC 5 (v:=undef) f ?_ (hy:=(Or.inr ⟨k_,rfl⟩));(iterate 2 refine j8 f ?_);refine iC 8 (v:=undef) f ?_ (hy:=(Or.inr ⟨k_,rfl⟩));refine iC 9 (v:=undef) f ?_ (hy:=(Or.inr ⟨k_,rfl⟩));refine iC 10 (v:=undef) f ?_ (hy:=(Or.inr ⟨k_,rfl⟩));refine iC 11 (v:=undef) f ?_ (hy:=(Or.inr ⟨k_,rfl⟩));refine iC 12 (v:=undef) f ?_ (hy:=(Or.inr ⟨k_,rfl⟩));refine iC 13 (v:=undef) f ?_ (hy:=(Or.inr ⟨k_,rfl⟩));refine iC 14 (v:=undef) f ?_ (hy:=(Or.inr ⟨k_,rfl⟩));refine iC 15 (v:=undef) f ?_ (hy:=(Or.inr ⟨k_,rfl⟩));refine iC 16 f ?_;have j:=g;refine hN k_ ?_ _;clear f;replace aG:=aG.hF j;replace m:=m.hF j;replace u:=u.hF j;replace N:=N.hF j;replace h:=h.hF j;clear j g;have aO:ra bo.ju.l p r=true:=by unfold ra;simp[k]
  clear k F;exact J0;have F:=O H;clear H;obtain⟨k,B⟩:=retKC_3 F.out;refine hS (λw'=>w'.cell? (Z bK 0)=some (.bool true)/\w'.cell? (Z W 0)=some (.bool true)/\w'.cell? (Z W 1)=some (Y r.n)/\w'.cell? (Z gx 0)=some (.slice bo.ju.A bo.ju.l.length bo.ju.c)/\w'.cell? (Z gx 1)=some (Y bo.hH)/\w'.cell? (Z gx 2)=some (Y bo.hC)) 17 k_ ?_;have g:J [] y y.drew:=(G_ [] y).drew;obtain⟨aJ,C⟩:=nm_ y.drew;rw[<-C]at g |-;clear C
  refine m6 ⟨(((u.hF g)).f_ 0).trans (by rw[k];rfl),(((m.hF g)).f_ 0).trans (by rw[B];rfl),((m.hF g)).f_ 1,(((aG.hF g)).bk.f_ 0).trans rfl,(((aG.hF g)).bk.f_ 1).trans rfl,(((aG.hF g)).bk.f_ 2).trans rfl⟩ λf=>?_;(iterate 8 refine j8 f ?_);refine iC 8 (v:=undef) f ?_ (hy:=(Or.inr ⟨k_,rfl⟩));refine iC 9 (v:=undef) f ?_ (hy:=(Or.inr ⟨k_,rfl⟩));refine iC 10 (v:=undef) f ?_ (hy:=(Or.inr ⟨k_,rfl⟩));refine iC 11 (v:=undef) f ?_ (hy:=(Or.inr ⟨k_,rfl⟩));refine iC 12 (v:=undef) f ?_ (hy:=(Or.inr ⟨k_,rfl⟩));refine iC 13 (v:=undef) f ?_ (hy:=(Or.inr ⟨k_,rfl⟩));refine iC 14 (v:=undef) f ?_ (hy:=(Or.inr ⟨k_,rfl⟩));refine iC 15 (v:=undef) f ?_ (hy:=(Or.inr ⟨k_,rfl⟩));refine iC 16 f ?_;have j:=g;refine hN k_ ?_ _;clear f;replace aG:=aG.hF j;replace m:=m.hF j;replace u:=u.hF j;replace N:=N.hF j;replace h:=h.hF j;clear j g;have aO:ra bo.ju.l p r=true:=by unfold ra;simp[B]
  clear k B F;exact J0
  .have F:=O H;clear H;obtain⟨k,B,M⟩:=retKC_45 (.inl rfl) F.out;replace M:i0 bo.ju.l r.n=false:=M;refine hS (λw'=>w'.cell? (Z bK 0)=some (.bool true)/\w'.cell? (Z W 0)=some (.bool false)/\w'.cell? (Z W 1)=some (Y r.n)/\w'.cell? (Z gx 0)=some (.slice bo.ju.A bo.ju.l.length bo.ju.c)/\w'.cell? (Z gx 1)=some (Y bo.hH)/\w'.cell? (Z gx 2)=some (Y bo.hC)) 17 k_ ?_;have g:J [] y y.drew:=(G_ [] y).drew;obtain⟨aJ,C⟩:=nm_ y.drew;rw[<-C]at g |-;clear C
   refine m6 ⟨(((u.hF g)).f_ 0).trans (by rw[k];rfl),(((m.hF g)).f_ 0).trans (by rw[B];rfl),((m.hF g)).f_ 1,(((aG.hF g)).bk.f_ 0).trans rfl,(((aG.hF g)).bk.f_ 1).trans rfl,(((aG.hF g)).bk.f_ 2).trans rfl⟩ λf=>?_;iterate 14 refine j8 f ?_
   refine h4 14 λK s=>?_;go_simp;(go_at_call 162;have q:=pe bo.ju.A bo.ju.c bo.ju.l bo.hH bo.hC r.n aJ (aG.hF g).Fc aG.il;rw[M]at q;refine q.mono ?_;rintro e bA⟨rfl,bE⟩);have j:=g.trans bE;clear f;refine hZ s ⟨(((u.hF j)).f_ 0).trans (by rw[k];rfl),(((m.hF j)).f_ 0).trans (by rw[B];rfl),((m.hF j)).f_ 1,(((aG.hF j)).bk.f_ 0).trans rfl,(((aG.hF j)).bk.f_ 1).trans rfl,(((aG.hF j)).bk.f_ 2).trans rfl⟩ λf=>?_;clear s K;(iterate 2 refine j8 f ?_);refine hN k_ ?_ _;clear f;replace aG:=aG.hF j;replace m:=m.hF j;replace u:=u.hF j;replace N:=N.hF j;replace h:=h.hF j;clear j g;have aO:ra bo.ju.l p r=true:=by unfold ra;simp[M]
   clear k B M F;have HM:Hid (P=({bo with hM:=true}:X1).p):=O (by rw[NY.out,L_ aO];rfl);clear aO NY;have d:bA.cell? (Z gx 81)=some (.bool bo.hM):=(aG.bk.f_ 81).trans rfl;exact KI
  have F:=O H;clear H;obtain⟨k,B,M⟩:=retKC_45 (.inr rfl) F.out;replace M:i0 bo.ju.l r.n=true:=M;refine hS (λw'=>w'.cell? (Z bK 0)=some (.bool true)/\w'.cell? (Z W 0)=some (.bool false)/\w'.cell? (Z W 1)=some (Y r.n)/\w'.cell? (Z gx 0)=some (.slice bo.ju.A bo.ju.l.length bo.ju.c)/\w'.cell? (Z gx 1)=some (Y bo.hH)/\w'.cell? (Z gx 2)=some (Y bo.hC)) 17 k_ ?_;have g:J [] y y.drew:=(G_ [] y).drew;obtain⟨aJ,C⟩:=nm_ y.drew;rw[<-C]at g |-;clear C
  refine m6 ⟨(((u.hF g)).f_ 0).trans (by rw[k];rfl),(((m.hF g)).f_ 0).trans (by rw[B];rfl),((m.hF g)).f_ 1,(((aG.hF g)).bk.f_ 0).trans rfl,(((aG.hF g)).bk.f_ 1).trans rfl,(((aG.hF g)).bk.f_ 2).trans rfl⟩ λf=>?_;iterate 14 refine j8 f ?_
  refine h4 14 λK s=>?_;go_simp;(go_at_call 162;have q:=pe bo.ju.A bo.ju.c bo.ju.l bo.hH bo.hC r.n aJ (aG.hF g).Fc aG.il;rw[M]at q;refine q.mono ?_;rintro e bA⟨rfl,bE⟩);have j:=g.trans bE;clear f;refine hZ s ⟨(((u.hF j)).f_ 0).trans (by rw[k];rfl),(((m.hF j)).f_ 0).trans (by rw[B];rfl),((m.hF j)).f_ 1,(((aG.hF j)).bk.f_ 0).trans rfl,(((aG.hF j)).bk.f_ 1).trans rfl,(((aG.hF j)).bk.f_ 2).trans rfl⟩ λf=>?_;clear s K;(iterate 2 refine j8 f ?_);refine hN k_ ?_ _;clear f;replace aG:=aG.hF j;replace m:=m.hF j;replace u:=u.hF j;replace N:=N.hF j;replace h:=h.hF j;clear j g;have aO:ra bo.ju.l p r=false:=by unfold ra;simp[k,B,M]
  clear k B M F;have HM:Hid (P=rM (h6 (h6 bo.p 1 0 p) 1 1<|x.sr E) r.n):=O (by rw[NY.out,K_<|by rw[aO];decide]);clear aO NY;have d2:bo.e.ws.l.length<=1000000:=H_ bR.ws I;have D:=u.f_ 0;have af:=u.f_ 1;go_upto_region 31 with(go_at_call 163;((with_reducible refine(ke b gx bo 1 0 p aG d2).mono ?_);unfold k5;rintro e bA⟨ca,rfl,N1,ak,T⟩;have N3:=O ak;clear ak));have bS:=O N3.out;clear N3;have aj:=N1;have ce:=h.trans T;have bM:=N.xg T R;have ap:=m.xg T cg;have dH:ca.e.ws.l.length<=1000000:=by
   have e:ca.e.ws.l=bo.e.ws.l++[⟨1,0,p⟩]:=GG (λp:XP=>p.e.ws) bS.out;rw[e,M_];have:=bR.ws;have av:bo.p.e.ws.length=bo.e.ws.l.length:=rfl;simp only[GI,Hb];omega
  clear N1 T D af;have D:=bM.f_ 0;have af:=bM.f_ 1;go_upto_region 32 with(go_at_call 163;((with_reducible refine(ke b gx ca 1 1 (x.sr E) aj dH).mono ?_);unfold k5;rintro e N0⟨aI,rfl,N1,ak,T⟩;have N3:=O ak;clear ak));have bj:=O N3.out;clear N3;have ch:=N1;have aH:=ce.trans T;have az:=ap.xg T cg;clear N1 T D af;have ad:Hid (P=({aI with e:={aI.e with pc:=r.n}}:X1).p):=O (by
   rw[HM.out,<-bS.out,<-bj.out];rfl)
  have af:=az.f_ 1;have bP:N0.cell? (Z gx 39)=some (Y aI.e.pc):=(ch.bk.f_ 39).trans rfl;have bJ:=ch.bk.hG 39;go_wp2;have bY:=ch.set (x':={aI with e:={aI.e with pc:=r.n}}) 39 (Y r.n) rfl rfl rfl rfl rfl rfl rfl rfl;refine en_ ?_;rw[ad.out];exact⟨_,rfl,bY,rfl,aH.iy<|(G_ [gx] _).setCell (.inl s_) _⟩
def zN{P:Program}{E:Prop}(H:o.guard=none){s x:Operand}(ho:o.op=.call {callee:=.builtin .append,args:=#[s,x],argTypes:=#[t,t]})(base:Nat)(e:TypeId)(i:TypeInfo){z:Value}(b bytes:Nat)(R:P.underlying t=some (.slice e))(M:P.info? e=some i)(T:i.zero=some z)(q:i.size=b)(p:i.bytes=bytes)(C:z.cells.size=b)(D:0<b){v:Value}(n:Nat){k:QX}(hs:a.eval s=v)(F:w.ownsRow base e b v n k)(d:Addr)(m c:Nat)(j:QX)(hx:a.eval x=.slice (some d) m c)(O:j.length=m*b)(f:∀r u,j[r]?=some u->w.cell? (d.add r)=some u)(I:∀u∈j,u.oneCell'=true)(l:n+m<=maxLen)(y:(n+m)*bytes<=140737488355328)(A:base<=w.heap.size)(h:∀(A':OA) (c':Nat) (w':World),w'.ownsRow base e b (.slice A' (n+m) c') (n+m) (k++j)->w.grownBy w' v.ownBlock->K (a.put o.dst<|.slice A' (n+m) c') w'):
 if Region.wanted o (yielded ops a.tmps)=true then Oper.wp P o a w K Q else E:=by
 have B:Region.wanted o (yielded ops a.tmps)=true:=by simp[Region.wanted,H]
 rw[L_ B];obtain⟨U,w',N,h2,h3,_⟩:=run_append_own (P:=P) w base t o.type e i z b bytes R M T q p C D v n k F d m c j O f I l y A;have J:∃A' c',U=.slice A' (n+m) c':=L7;obtain⟨A',c',rfl⟩:=J;exact Lw
def Bn(k:Nat)(m:k<=16):∀b u,(jo<|(List.range k).map x.sr)[b]?=some u->x.g_[4+b]?=some u:=by
 intro b u f;have j:b<k*2:=by
  have:=(Ie.1 f).1;rw[l3,Hf,Iv]at this;exact this
 have e:b=(b / 2)*2+b % 2:=X;have c:(jo<|(List.range k).map x.sr)[(b / 2)*2+b % 2]?=(Vl.E<|x.sr<|b / 2)[b % 2]?:=by
  unfold jo;rw[j7 Vl.E (λ_=>rfl) _ (b / 2) (b % 2) (by rw[Hf,Iv];omega) X,HF,It]
 rw[<-e,f]at c;obtain⟨i,g⟩:=vK x (b / 2) X;rcases Ix b with h|h
 rw[h]at c e;have d:4+b=4+b / 2*2:=X;rw[d,i];exact c.symm;rw[h]at c e;have d:4+b=4+b / 2*2+1:=X;rw[d,g];exact c.symm
def BR(w:World)(u v z:Vl):(w.alloc<|.cells #[.bool u.r,Y u.n,.bool v.r,Y v.n,.bool z.r,Y z.n] 38).ownsRow w.heap.size 38 2 (.slice (j_ w.heap.size) 3 3) 3 (jo [u,v,z]):=
 ⟨rfl,.inr ⟨w.heap.size,3,_,rfl,I_ _,IY w _,I_ _,I,rfl,rfl⟩⟩
def rest_13(b w:World)(i:Nat)(x:X1)(E d m:Nat)(n:Int)(L:kF b w i x)(hb:d<=16)(hm:m<=1000000)(ca: -1<=x.j4)(br:x.j4<=1000000)(ha:E<16)(hs:x.p.e.sm 800000):
 Calls prog 121 #[q_ i,.agg #[Y 13,Y (E:Int),Y (d:Int),Y<|(d:Int)+(m:Int),Y n]] w (k5 (.tuple #[]) (jH x.p ⟨13,E,d,((d:Int)+(m:Int)),n⟩) b i w):=by
 obtain⟨al,a,Q,an,V,N,aF,t⟩:=sP L #[Y 13,Y (E:Int),Y (d:Int),Y<|(d:Int)+(m:Int),Y n];go_enter func121,ntmps121;go_upto_region 1 with fail;clear Q an;have aA:=N.f_ 0;have ao:J [] al al.drew:=(G_ [] al).drew;refine hS (λw'=>(w'.cell? (Z a 0)=some (Y 13)/\w'.cell? (Z a 1)=some (Y (E:Int))/\w'.cell? (Z a 2)=some (Y (d:Int))/\w'.cell? (Z a 3)=some (Y<|(d:Int)+(m:Int))/\w'.cell? (Z a 4)=some (Y n))/\w'.cell? (Z i<|4+E*2)=some (.bool (x.sr E).r)/\w'.cell? (Z i<|4+E*2+1)=some (Y (x.sr E).n)) 10 k_ ?_;have f:=And.intro N.drew.c5<|wk (V.bk.drew) ha;have aT:(0:Int)<=(E:Int):=X;have aC:(E:Int)<16:=X;iterate 8 refine j8 f ?_
 refine h4 8 λK j=>?_;go_simp;clear f;refine hZ j (sw N V.bk ha) λf=>?_;clear j K;refine h4 9 λK j=>?_;go_simp;clear f;refine hZ j (sw N V.bk ha) λf=>?_;clear j K;refine hN k_ ?_ _;obtain⟨aK,aE,bN,aN,aP,ax,bD,a2,aS⟩:=Aa V N aF #[.bool (x.sr E).r,Y (x.sr E).n];rw[bN,aN];clear bN aN V N aF ao f;have aA:=ax.f_ 0;go_upto_region 16 with(go_at_call 161;((with_reducible refine(nf b i x aP<|H_ hs.rs I).mono ?_);unfold vE;rintro e k⟨c,rfl,M,bB,S⟩;have aw:=O bB;clear bB));clear aA;have aW:=l9 hs;rw[<-aw.out]at aW;have aV:=uR x.p;rw[<-aw.out]at aV;obtain⟨g,aQ⟩:=mn_<|(hO x.p).2.1;rw[aQ];have aY:=O aQ;clear aQ;generalize (hO x.p).2.2=b0 at*
 have bp:Hid ((jH x.p ⟨13,E,d,((d:Int)+(m:Int)),n⟩)=rM (h6 {c.p with e:={c.p.e with nw:=[⟨c.nx,[⟨true,g⟩,⟨false,c.j4+1⟩,default]++((List.range d).map c.sr++List.replicate m default)⟩]}} 1 0 ⟨true,c.nx⟩) n):=O (by
  have aC:(((d:Int)+(m:Int))-(d:Int)).toNat=m:=X;show rM (h6 {(hO x.p).1 with e:={(hO x.p).1.e with nw:=[⟨(hO x.p).1.nx,[⟨true,(hO x.p).2.1⟩,⟨false,(hO x.p).1.j4+1⟩,default]++((List.range (d:Int).toNat).map (hO x.p).1.sr++List.replicate (((d:Int)+(m:Int))-(d:Int)).toNat default)⟩]}} 1 0 ⟨true,(hO x.p).1.nx⟩) n=_;rw[aC,aY.out,<-aw.out];rfl)
 clear aw aY;have bV:c.j4=x.j4:=aV.j4;have hq0: -1<=c.j4:=by rw[bV];exact ca
 have hq1:c.j4<=1000000:=by rw[bV];exact br
 clear bV aV;have F:=ax.xg S t;have l:=a2.trans S;have N0:c.e.ws.l.length<=1000000:=H_ aW.ws I;clear aP ax bD a2 S aW;have af:k.cell? (Z i 3)=some (Y c.j4):=(M.bk.f_ 3).trans rfl;go_upto_region 17 with fail;clear af;obtain⟨ap,aB,aO,P,bt⟩:=info_parts infoVl;have cN:=BR k ⟨true,g⟩ ⟨false,c.j4+1⟩ default;have z:J [] k (k.alloc<|.cells #[.bool true,Y g,.bool false,Y<|c.j4+1,.bool false,Y 0] 38).drew:=((G_ [] k).alloc _).drew;refine hS (λw'=>w'.cell? (Z a 0)=some (Y 13)/\w'.cell? (Z a 1)=some (Y (E:Int))/\w'.cell? (Z a 2)=some (Y (d:Int))/\w'.cell? (Z a 3)=some (Y<|(d:Int)+(m:Int))/\w'.cell? (Z a 4)=some (Y n)) 10 k_ ?_;have aU:(k.alloc<|.cells #[.bool true,Y g,.bool false,Y<|c.j4+1,.bool false,Y 0] 38).drew.ownsRow k.heap.size 38 2 (.slice (j_ k.heap.size) 3 3) 3 (jo [⟨true,g⟩,⟨false,c.j4+1⟩,default]):=iO cN<|(G_ [] _).drew;clear cN;obtain⟨U,cx⟩:=nm_<|(k.alloc<|.cells #[.bool true,Y g,.bool false,Y<|c.j4+1,.bool false,Y 0] 38).drew;rw[<-cx]at z aU |-;clear cx;have f:U.cell? (Z a 0)=some (Y 13)/\U.cell? (Z a 1)=some (Y (E:Int))/\U.cell? (Z a 2)=some (Y (d:Int))/\U.cell? (Z a 3)=some (Y<|(d:Int)+(m:Int))/\U.cell? (Z a 4)=some (Y n):=(F.hF z).c5;have av:(0:Int)<=(d:Int):=X;have bO:(d:Int)<=16:=X
 iterate 8 refine j8 f ?_
 refine h4 8 λK j=>?_;refine zN rfl rfl k.heap.size 38 ap 2 16 underlying54 aB aO P bt rfl I 3 r_ aU (Z i 4) d 16 (jo<|(List.range d).map c.sr) r_ (by rw[l3,Hf,Iv]) (λaX bd hj=>by rw[oV,(M.hF z).bk.f_];exact Bn c d X aX bd hj) (nM _) (by simp only[maxLen];omega) X z.size ?_;intro a6 c5 NY R dE;have A:J [] k NY:=z.grown dE λbf hk=>.inr (aU.lt bf hk).1;clear f;refine hZ j (F.hF A).c5 λf=>?_;clear j K;refine iC 9 f ?_;refine hN k_ ?_ _;clear f aU dE z;go_upto_region 18 with fail;refine hS (λw'=>(w'.cell? (Z a 0)=some (Y 13)/\w'.cell? (Z a 1)=some (Y (E:Int))/\w'.cell? (Z a 2)=some (Y (d:Int))/\w'.cell? (Z a 3)=some (Y<|(d:Int)+(m:Int))/\w'.cell? (Z a 4)=some (Y n))/\w'.cell? (Z i 37)=some (Y c.nx)) 17 k_ ?_;replace R:NY.drew.ownsRow k.heap.size 38 2 (.slice a6 (3+d) c5) (3+d) (jo [⟨true,g⟩,⟨false,c.j4+1⟩,default]++jo ((List.range d).map c.sr)):=R;replace A:J [] k NY.drew:=A.drew;obtain⟨ay,G⟩:=nm_ NY.drew;rw[<-G]at A R |-;clear G
 refine m6 ⟨(F.hF A).c5,((M.hF A).bk.f_ 37).trans rfl⟩ λf=>?_;(iterate 10 refine j8 f ?_);refine iC 10 (v:=Y (m:Int)) f ?_ (hy:=(Or.inl ⟨r_,by(intro w' aZ;(try dsimp only at aZ);(have e:IntKind.i64.wrap ((d:Int)+(m:Int)-(d:Int))=(m:Int):=(by rw[Ic];omega);go_simp;try(first|with_reducible rfl|(rw[e]))))⟩));refine h4 11 λK j=>?_;refine zM rfl rfl .i64 underlying3 k.heap.size 38 ap 2 16 underlying54 aB aO P bt rfl I I m (vI m) (3+d) r_ R .i64 r_ (by simp only[maxLen];omega) X A.size ?_;intro s u y ce bh;have aD:J [] k y:=A.grown bh λbf hk=>.inr (R.lt bf hk).1;clear f bh R A;refine hZ j ⟨(F.hF aD).c5,((M.hF aD).bk.f_ 37).trans rfl⟩ λf=>?_;clear j K;refine iC 12 f ?_;refine h4 13 λK j=>?_;go_simp;have bl:J [] y (y.alloc<|.cells #[Y c.nx,.slice s (3+d+m) u] 56):=(G_ [] y).alloc _;have H:J [] k (y.alloc<|.cells #[Y c.nx,.slice s (3+d+m) u] 56):=aD.trans bl;have ar:Bk (y.alloc<|.cells #[Y c.nx,.slice s (3+d+m) u] 56) y.heap.size 56 #[Y c.nx,.slice s (3+d+m) u]:=T_ y _ _;have cq:=iO ce bl;clear f;refine hZ j ⟨(F.hF H).c5,((M.hF H).bk.f_ 37).trans rfl⟩ λf=>?_;clear j K;clear ce aD bl;obtain⟨D,bQ⟩:=nm_<|y.alloc<|.cells #[Y c.nx,.slice s (3+d+m) u] 56;rw[<-bQ]at ar H cq f |-;clear bQ;generalize y.heap.size=C at*;have B:=M.hF H;have bj:=F.hF H;have be:=l.hF H
 (iterate 3 refine j8 f ?_)
 have N3:D.cell? (Z i 74)=some (.slice c.e.nw.A c.e.nw.l.length c.e.nw.c):=(B.bk.f_ 74).trans rfl;have N2:=B.bk.hG 74;have bm:=(G_ [i] D).setCell (p:=(Z i 74)) (.inl s_)<|.slice (j_ C) 1 1;have aR:Bk (D.setCell (Z i 74)<|.slice (j_ C) 1 1) i 186 ({c with e:={c.e with nw:=⟨some<|Z C 0,1,[⟨⟨c.nx,[⟨true,g⟩,⟨false,c.j4+1⟩,default]++((List.range d).map c.sr++List.replicate m default)⟩,s,u⟩]⟩}}:X1).g_:=B.bk.hW 74<|.slice (j_ C) 1 1;have aJ:([⟨true,g⟩,⟨false,c.j4+1⟩,default]++((List.range d).map c.sr++List.replicate m default):QB).length=3+d+m:=by simp only[M_,GI,Hb,Hf,Iv,Hm];omega
 have ai:Vs D s ([⟨true,g⟩,⟨false,c.j4+1⟩,default]++((List.range d).map c.sr++List.replicate m default)):=by
  have q:=Sl.iZ cq;have e:jo ([⟨true,g⟩,⟨false,c.j4+1⟩,default]++((List.range d).map c.sr++List.replicate m default))=(jo [⟨true,g⟩,⟨false,c.j4+1⟩,default]++jo ((List.range d).map c.sr)++(Builtin.zeroCells #[.bool false,Y 0] m).toList):=by rw[qz,qz,wq,Hq]
  unfold Vs;rw[e,aJ];exact q
 have N1:Os D (j_ C) [⟨⟨c.nx,[⟨true,g⟩,⟨false,c.j4+1⟩,default]++((List.range d).map c.sr++List.replicate m default)⟩,s,u⟩]:=by
  have q:=Ct (r:=⟨⟨c.nx,[⟨true,g⟩,⟨false,c.j4+1⟩,default]++((List.range d).map c.sr++List.replicate m default)⟩,s,u⟩) (by
   show Bk D C 56 #[Y c.nx,.slice s ([⟨true,g⟩,⟨false,c.j4+1⟩,default]++((List.range d).map c.sr++List.replicate m default):QB).length u];rw[aJ];exact ar)
  exact q
 have aG:nv D [⟨⟨c.nx,[⟨true,g⟩,⟨false,c.j4+1⟩,default]++((List.range d).map c.sr++List.replicate m default)⟩,s,u⟩]:=by
  intro r hr;have:r=⟨⟨c.nx,[⟨true,g⟩,⟨false,c.j4+1⟩,default]++((List.range d).map c.sr++List.replicate m default)⟩,s,u⟩:=zu hr;subst this;exact⟨ai,by show([⟨true,g⟩,⟨false,c.j4+1⟩,default]++((List.range d).map c.sr++List.replicate m default):QB).length<=1000000000;rw[aJ];omega⟩
 have W:=B.CS (x':=({c with e:={c.e with nw:=⟨some<|Z C 0,1,[⟨⟨c.nx,[⟨true,g⟩,⟨false,c.j4+1⟩,default]++((List.range d).map c.sr++List.replicate m default)⟩,s,u⟩]⟩}}:X1)) bm aR rfl rfl rfl rfl N1 aG B.ds B.ia (I_ 1) B.sQ B.qf;have aH:=be.iy bm;have o:=bj.gr bm<|zu t;refine h4 17 λK j=>?_;go_simp;refine j.out _ _ (λh=>GR h I) ?_;clear j K;try simp only[a_]
 clear f B bj be ai ar N1 aG aR N3 N2 bm cq H M F l;obtain⟨T,az⟩:=nm_ ({c with e:={c.e with nw:=⟨some<|Z C 0,1,[⟨⟨c.nx,[⟨true,g⟩,⟨false,c.j4+1⟩,default]++((List.range d).map c.sr++List.replicate m default)⟩,s,u⟩]⟩}}:X1);rw[<-az]at W;have HM:Hid ((jH x.p ⟨13,E,d,((d:Int)+(m:Int)),n⟩)=rM (h6 T.p 1 0 ⟨true,T.nx⟩) n):=O (by rw[bp.out,az];rfl);have d3:T.e.ws.l.length<=1000000:=by rw[az];exact N0
 clear az bp aJ;obtain⟨bo,bR⟩:=nm_<|D.setCell (Z i 74)<|.slice (j_ C) 1 1;rw[<-bR]at W o aH |-;clear bR;refine hN k_ ?_ _;have bg:bo.cell? (Z i 37)=some (Y T.nx):=(W.bk.f_ 37).trans rfl
 go_upto_region 20 with(go_at_call 163;((with_reducible refine(ke b i T 1 0 ⟨true,T.nx⟩ W d3).mono ?_);unfold k5;rintro e bn⟨aq,rfl,ag,aM,z⟩;have bu:=O aM;clear aM));have ad:=aH.trans z;have bq:=o.xg z t;have ak:=bq.f_ 4;have bP:bn.cell? (Z i 39)=some (Y aq.e.pc):=(ag.bk.f_ 39).trans rfl;have bJ:=ag.bk.hG 39;clear bg;go_wp2;have bY:=ag.set (x':={aq with e:={aq.e with pc:=n}}) 39 (Y n) rfl rfl rfl rfl rfl rfl rfl rfl;refine en_ ?_;rw[HM.out,<-bu.out];exact⟨_,rfl,bY,rfl,ad.iy<|(G_ [i] _).setCell (.inl s_) _⟩
def Asc.eq{ys zs:QS}(h:Asc ys P)(k:Asc zs P):ys=zs:=by
 have b:ys.Perm zs:=(List.perm_ext_iff_of_nodup h.nodup k.nodup).2 λx=>(h.mem x).trans (k.mem x).symm;exact b.eq_of_pairwise (le:=(· < ·)) (λa c _ _ d e=>by omega) h.lt k.lt
open Classical in
noncomputable def pick (l:QS) (P:Int->Prop):List Int:=oA<|l.filter λx=>decide (P x)
def BQ(l:QS)(P:Int->Prop):Asc (pick l P) (λx=>x∈l/\P x):=by
 have h:=mA<|l.filter λx=> @decide (P x)<|Classical.propDecidable _;exact⟨h.lt,λx=>by unfold pick;rw[h.mem];simp⟩
def qu(v:Vl):List Int:=if isRef v=true then[v.n] else[]
def lj(l:QV):List Int:=l.flatMap λc=>c.id::qu c.v
def np(t:iP):List Int:=lj t.gs++(lj t.rs++(lj t.ws++(t.ds.map (·.id)++m7 t.nw)))
def k4(ts:QA):List Int:=1::ts.flatMap np
inductive wn(h:QQ)(P:Int->Prop):Int->Prop
 |root {x:Int} (hp:P x) (hi:x∈ie h):wn h P x
 |step {x:Int} {o:Ob} {v:Vl} (hx:wn h P x) (ho:jy h x=some o) (hv:v∈o.fs) (hr:isRef v=true) (hi:v.n∈ie h):wn h P v.n
noncomputable def qJ (h:QQ) (rs:QS):List Int:=pick (ie h)<|wn h (· ∈rs)
def wn.ids{x:Int}(r:wn h P x):x∈ie h:=by
 cases r with
 |root _ b=>exact b
 |step _ _ _ _ b=>exact b
def kz(h:QQ)(rs:QS):Asc (qJ h rs) (wn h (· ∈rs)):=by
 have b:=BQ (ie h)<|wn h (· ∈rs);exact⟨b.lt,λx=>(b.mem x).trans ⟨λa=>a.2,λa=>⟨a.ids,a⟩⟩⟩
def oh{n:Int}:n∈ie h↔∃o,jy h n=some o:=by
 constructor
 .intro d;obtain⟨o,c,rfl⟩:=GJ.1 d;cases b:jy h o.id with
  |some e=>exact⟨e,rfl⟩
  |none=>have:=List.find?_eq_none.1 b o c;simp at this
 rintro⟨o,b⟩;exact GJ.2 ⟨o,pZ b,ph b⟩
def wn.mono{Q:Int->Prop}(g:∀x,P x->Q x){x:Int}(r:wn h P x):wn h Q x:=by
 induction r with
 |root a b=>exact .root (g _ a) b
 |step _ b d e f c=>exact .step c b d e f
structure rJ(h:QQ)(L:QS)(S S':Int->Prop):Prop where
 up:∀x,S x->S' x
 roots:∀x∈L,x∈ie h->S' x
 sound:∀x,S' x->S x\/wn h (· ∈L) x
 closed:∀x,S' x->¬S x->∀o,jy h x=some o->∀v∈o.fs,isRef v=true->v.n∈ie h->S' v.n
def rJ.nil(h:QQ)(S:Int->Prop):rJ h [] S S:=⟨λ_ a=>a,λ_ a=>(by cases a),λ_ a=>.inl a,λ_ a b=>GR a b⟩
def rJ.congr{T a:Int->Prop}(v:rJ h L S S')(d:∀x,S x↔T x)(e:∀x,S' x↔a x):rJ h L T a:=by
 have b:S=T:=funext λx=>propext<|d x;have c:S'=a:=funext λx=>propext<|e x;rw[<-b,<-c];exact v
def rJ.app{M:QS}{c:Int->Prop}(a:rJ h L S S')(b:rJ h M S' c):rJ h (L++M) S c:=by
 refine⟨λx d=>b.up x<|a.up x d,λx d e=>?_,λx d=>?_,λx d m o g k j i e=>?_⟩;rcases X_.1 d with d|d
 .exact b.up x<|a.roots x d e
 exact b.roots x d e;rcases b.sound x d with d|d
 .rcases a.sound x d with d|d
  .exact .inl d
  exact .inr<|d.mono λn f=>GZ _ f
 exact .inr<|d.mono λn f=>G5 _ f;by_cases f:S' x
 .exact b.up _<|a.closed x f m o g k j i e
 exact b.closed x d f o g k j i e
def rJ.skip{n:Int}(q:n∈ie h->S n):rJ h [n] S S:=
 ⟨λ_ a=>a,λx a b=>by rw[J_.1 a]at b |-;exact q b,λ_ a=>.inl a,λ_ a c=>GR a c⟩
def sx(fs:QB):List Int:=(fs.filter (·.r)).map (·.n)
def rJ.node{n:Int}{o:Ob}(i:jy h n=some o)(h0:(0:Int)∉ie h)(v:rJ h (sx o.fs) (λx=>S x\/x=n) S'):rJ h [n] S S':=by
 have m:n∈ie h:=by
  have c:=ph i;exact GJ.2 ⟨o,pZ i,c⟩
 have p:∀x,wn h (· ∈sx o.fs) x->wn h (· ∈[n]) x:=by
  intro x y;induction y with
  |root a g=>
   obtain⟨j,e,rfl⟩:=GJ.1 a;obtain⟨e,d⟩:=H6.1 e;refine .step (.root (J_.2 rfl) m) i e ?_ g;have:j.n≠0:=λc=>h0<|c▸g;unfold isRef;simp[d,this]
  |step _ g r s c q=>exact .step q g r s c
 refine⟨λx b=>v.up x<|.inl b,λx b k=>?_,λx b=>?_,λx b nq u f j e d k=>?_⟩;rw[J_.1 b];exact v.up n<|.inr rfl;rcases v.sound x b with(b|b)|b
 .exact .inl b
 rw[b];exact .inr<|.root (J_.2 rfl) m;exact .inr<|p x b;by_cases c:x=n
 .subst c;rw[i]at f;injection f with f;subst f;refine v.roots _ (GJ.2 ⟨j,H6.2 ⟨e,?_⟩,rfl⟩) k;unfold isRef at d;simp at d;exact d.1
 exact v.closed x b (λa=>a.elim nq c) u f j e d k
def rJ.reach(v:rJ h L (λ_=>False) S')(x:Int):S' x↔wn h (· ∈L) x:=by
 refine⟨λg=>(v.sound x g).resolve_left id,λi=>?_⟩;induction i with
 |root a b=>exact v.roots _ a b
 |step _ b d e f c=>exact v.closed _ c id _ b _ d e f
open Classical in
noncomputable def uD (h:QQ) (S:Int->Prop):Nat:=((ie h).filter λx=> !decide (S x)).length
def zk{p q:Int->Bool}(l:QS)(b:∀x∈l,p x=true->q x=true):(l.filter p).length<=(l.filter q).length:=by
 induction l with
 |nil=>simp
 |cons a l NZ=>
  have NZ:=NZ λx c=>b x<|Z_ _ c;have ha:=b a GT;rw[Iz,Iz];exact Mv
def Dy{p q:Int->Bool}{l:QS}(b:∀x∈l,p x=true->q x=true){y:Int}(hy:y∈l)(d:q y=true)(e:p y=false):(l.filter p).length<(l.filter q).length:=by
 induction l with
 |nil=>cases hy
 |cons a l NZ=>
  have ha:=b a GT;have f:=zk l λx c=>b x<|Z_ _ c;rw[Iz,Iz];rcases N_.1 hy with rfl|hy
  rw[L_ d,K_<|by rw[e];decide];simp;omega;have NZ:=NZ (λx c=>b x<|Z_ _ c) hy;exact Mv
def Ed(c:∀x,S x->S' x):uD h S'<=uD h S:=by
 unfold uD;refine zk _ λx _ b=>?_;simp at b |-
 exact λa=>b<|c x a
def Ec{n:Int}(c:n∈ie h)(d:¬S n):uD h (λx=>S x\/x=n)<uD h S:=by
 unfold uD;refine Dy (λx _ b=>?_) c (zu d) s_;simp at b |-;exact b.1
def CT:uD h S<=h.length:=by
 unfold uD;exact H_ (Hw _ _) (by unfold ie;simp)
noncomputable def lb (h:QQ) (ts:QA):List Int:=qJ h<|oA<|k4 ts
noncomputable def lS (h:QQ) (ts:QA):List Ob:=h.filter λo=>decide (o.id∈lb h ts)
noncomputable def uh (h:QQ) (ts:QA):List Int:=(h.filter λo=> !decide (o.id∈lb h ts)).map (·.id)
end
section
variable{G:Prop}{w:World}{c:Cl}{l:QV}{t:TypeId}{g:Nat}{cs:Array Value}{d:Dl}(A:OA)(rs:QV)(h:QQ)(x:X1)
def Jt(h:G:=by
 obtain⟨aI,cD⟩:=nm_ bS;rw[<-cD]at F ad;clear cD;obtain⟨N0,cr⟩:=nm_ NY;exact Jv):G:=h
def Jv(h:G:=by
 rw[<-cr]at F o aC |-;clear cr
 cases ai:aI.hM with
 |true=>
  have HM:Hid (P=jl):=O (by rw[ad.out];exact L_ (show aI.p.hM=true from ai));have d:N0.cell? (Z gx 81)=some (.bool true):=(F.bk.f_ 81).trans<|GG (λq=>some<|Value.bool q) ai;clear ai;go_wp2_with (refine k6 (({Ef.zero with h7:=4}:Ef).g_) o (Ef.one _) ?_;intro a2 H V);rw[HM.out];exact rr_ ({Ef.zero with h7:=4}:Ef).g_ H underlying134 ⟨_,rfl,tk.nil _ _ rfl rfl rfl rfl rfl,rfl,aC.hJ V p_⟩
 |false=>
  have HM:Hid (P=aI.e.p):=O (by rw[ad.out];exact K_ (show ¬aI.p.hM=true by rw[show aI.p.hM=aI.hM from rfl,ai];decide));have d:N0.cell? (Z gx 81)=some (.bool false):=(F.bk.f_ 81).trans<|GG (λq=>some<|Value.bool q) ai;clear ai;go_wp2_with (first|(refine iH rfl 134 _ rfl gx 38 r_ 186 _ aI.e.g_ F.bk (λj hj=>A7 aI j hj) _ underlying134 rfl k_ ?_)|(refine k6 (aI.e.g_) o (Ef.one _) ?_;intro a2 H V));rw[HM.out];exact rr_ aI.e.g_ H underlying134 ⟨_,rfl,p6 F.Fh o V,rfl,aC.hJ V p_⟩):G:=h
def Ko(h:G:=by
 go_wp2_with (go_at_call 92;have ad:=iY A c l hH hC (N.hF N2) hn;rw[hv]at ad;refine ad.mono ?_;rintro e w1⟨rfl,hg1⟩;have p0:w1.cell? (Z bK 0)=some (Y pc):=((C.hF hg1).f_ 0).trans rfl;have k0:=(u.hF hg1).f_ 0);go_meet;exact⟨jk a8.out.symm,hg1⟩):G:=h
def Mf(h:G:=by
 try simp only[a_]
 refine wpList_nil ?_;go_wp2;go_meet;exact⟨jk a8.out.symm,(aG.trans aP).trans ao⟩):G:=h
def Mi(h:G:=by
 exact me t3.g_ (.bool false) az underlying53<|by rw[aZ.out];exact⟨t3,rfl,ar,λP h=>by cases h⟩):G:=h
def Da(b w:World)(k:Nat)(x:X1)(a:Int)(E:Nat)(V c:Int)(n:Int)(L:kF b w k x)(p:E<16)(v:a≠5/\a≠6/\a≠7/\a≠13/\a≠14/\a≠15/\a≠17/\a≠18):
 Calls prog 121 #[q_ k,.agg #[Y a,Y (E:Int),Y V,Y c,Y n]] w (k5 (.tuple #[]) (jH x.p ⟨a,E,V,c,n⟩) b k w):=by
 obtain⟨o,j,z,A,g,f,q,t⟩:=sP L #[Y a,Y (E:Int),Y V,Y c,Y n];go_enter func121,ntmps121;go_upto_region 1 with fail;clear z A;have B:=f.f_ 0;have F:J [] o o.drew:=(G_ [] o).drew;refine hS (λw'=>(w'.cell? (Z j 0)=some (Y a)/\w'.cell? (Z j 1)=some (Y (E:Int))/\w'.cell? (Z j 2)=some (Y V)/\w'.cell? (Z j 3)=some (Y c)/\w'.cell? (Z j 4)=some (Y n))/\w'.cell? (Z k<|4+E*2)=some (.bool (x.sr E).r)/\w'.cell? (Z k<|4+E*2+1)=some (Y (x.sr E).n)) 10 k_ ?_;have e:=And.intro f.drew.c5<|wk (g.bk.drew) p;have aT:(0:Int)<=(E:Int):=X;have S:(E:Int)<16:=X;iterate 8 refine j8 e ?_
 refine h4 8 λm i=>?_;go_simp;clear e;refine hZ i (sw f g.bk p) λe=>?_;clear i m;refine h4 9 λm i=>?_;go_simp;clear e;refine hZ i (sw f g.bk p) λe=>?_;clear i m;refine hN k_ ?_ _;obtain⟨U,P,u,s,y,I,bD,C,W⟩:=Aa g f q #[.bool (x.sr E).r,Y (x.sr E).n];rw[u,s];clear u s g f q F e;have d:(a=5)=False:=p_;have c5:(a==5)=false:=p_;have cI:(a=6)=False:=p_;have T:(a==6)=false:=p_;have cK:(a=7)=False:=p_;have br:(a==7)=false:=p_;have ad:(a=13)=False:=p_;have R:(a==13)=false:=p_;have ae:(a=14)=False:=p_;have af:(a==14)=false:=p_;have ag:(a=15)=False:=p_;have d8:(a==15)=false:=p_;have ah:(a=17)=False:=p_;have ai:(a==17)=false:=p_;have aj:(a=18)=False:=p_;have h:(a==18)=false:=p_;have HM:Hid (jH x.p ⟨a,E,V,c,n⟩=x.p):=O (by
  obtain⟨H,D,K,M,l,ak,N,Q⟩:=v;unfold jH;exact(K_ H).trans<|(K_ D).trans<|(K_ K).trans<|(K_ M).trans<|(K_ l).trans<|(K_<|by simp only;omega).trans<|K_ N)
 clear v;have B:=I.f_ 0;go_wp2;refine en_ ?_;rw[HM.out];exact⟨x,rfl,y,rfl,C⟩
def yi(b:World)(e:Nat)(x:X1)(i:In)(L:kF b w e x)(o:x.p.e.sm 800000)(H:0<=i.a)(E:i.a<16)(p:i.op=5\/i.op=6->0<=i.b/\i.b<16)(z:i.op=7->0<=i.n/\i.n<=1000000)(hc:i.op=13->0<=i.b/\i.b<=16/\i.b<=i.c/\i.c<=1000000)(K: -1<=x.j4)(J:x.j4<=1000000):
 Calls prog 121 #[q_ e,.agg #[Y i.op,Y i.a,Y i.b,Y i.c,Y i.n]] w (k5 (.tuple #[]) (jH x.p i) b e w):=by
 obtain⟨n,s,a,c,m⟩:=i;simp only at H E p z hc |-;obtain⟨f,rfl⟩:∃k:Nat,s=k:=⟨s.toNat,X⟩;have j:f<16:=X
 by_cases u:n=5
 .subst u;obtain⟨D,F⟩:=p I;obtain⟨d,rfl⟩:∃k:Nat,a=k:=⟨a.toNat,X⟩;exact rest_5 b w e x f d c m L j X o
 by_cases r:n=6
 .subst r;obtain⟨D,F⟩:=p I;obtain⟨d,rfl⟩:∃k:Nat,a=k:=⟨a.toNat,X⟩;exact rest_6 b w e x f d c m L j X o
 by_cases v:n=7
 .subst v;obtain⟨M,N⟩:=z rfl;exact rest_7 b w e x f a c m L j M N
 by_cases y:n=13
 .subst y;obtain⟨P,Q,O,N⟩:=hc rfl;obtain⟨d,rfl⟩:∃k:Nat,a=k:=⟨a.toNat,X⟩;obtain⟨M,rfl⟩:∃k:Nat,c=(d:Int)+(k:Int):=⟨(c-d).toNat,X⟩;exact rest_13 b w e x f d M m L X X K J j o
 by_cases l:n=14
 .subst l;exact rest_14 b w e x f a c m L j o
 by_cases B:n=15
 .subst B;exact rest_15 b w e x f a c m L j o
 by_cases C:n=17
 .subst C;exact rest_17 b w e x f a c m L j o
 by_cases q:n=18
 .subst q;exact rest_18 b w e x f a c m L j o
 exact Da b w e x n f a c m L j ⟨u,r,v,y,l,B,C,q⟩
structure Fit(i:In):Prop where
 a0:0<=i.a
 a1:i.a<16
 FY:i.op=3\/i.op=4->0<=i.b/\i.b<16
 c4:i.op=4->0<=i.c/\i.c<16
 hH:i.op=8\/i.op=9\/i.op=10\/i.op=20->0<=i.n/\i.n<=1000000
 GC:i.op=5\/i.op=6->0<=i.b/\i.b<16
 n7:i.op=7->0<=i.n/\i.n<=1000000
 Gg:i.op=13->0<=i.b/\i.b<=16/\i.b<=i.c/\i.c<=1000000
def vR{n:Int}{u:Bool}(h:mC n u=true):0<=n/\n<16:=by
 unfold mC at h;simp at h;omega
def xi{l:QR}{k:Nat}(h:kU l k=true):Fit (l.getD k default):=by
 unfold kU jU at h;generalize l.getD k default=x at*;obtain⟨b,z,f,c,n⟩:=x;simp only at h;split at h
 .cases h
 rename_i B;split at h
 .cases h
 rename_i p;split at h
 .cases h
 rename_i v;have C:0<=b/\b<=21:=X;simp only[Iu,G4,Bool.not_eq_true',bne_iff_ne,ne_eq,not_or,not_and,Bool.not_eq_false]at p;obtain⟨⟨q,y⟩,d⟩:=p;have m:=vR q;have o:b≠13->b≠10->0<=f/\f<16:=λi u=>vR<|y ⟨i,u⟩;have r:b≠13->0<=c/\c<16:=λi=>vR<|d i;have s:b=13->0<=f/\f<=4/\f<=c/\c<=64:=by
  intro a;subst a;simp at v;omega
 have j:b=7\/b=8\/b=9\/b=10\/b=20->0<=n/\n<=64:=by
  intro a;rcases a with a|a|a|a|a
  subst a;have e:(je.getD (7:Int).toNat default).n=4:=rfl;exact NS;subst a;have e:(je.getD (8:Int).toNat default).n=5:=rfl;exact NS;subst a;have e:(je.getD (9:Int).toNat default).n=5:=rfl;exact NS;subst a;have e:(je.getD (10:Int).toNat default).n=5:=rfl;exact NS;subst a;have e:(je.getD (20:Int).toNat default).n=5:=rfl;exact NS
 refine⟨m.1,m.2,λa=>o (by simp only at a;omega) (by simp only at a;omega),λa=>r (by simp only at a;omega),λa=>?_,λa=>o (by simp only at a;omega) (by simp only at a;omega),λa=>?_,λa=>?_⟩;have:=j (by simp only at a;omega);simp only;omega;have:=j (by simp only at a;omega);simp only;omega;have:=s a;simp only;omega
def wpList_build{P:Program}{ops:Array Oper}{rest:QZ}{a:Oper}{b:Act}{Q:Exit->Act->World->Prop}(i:a.guard=none){e:Array (Nat × Operand)}(j:a.op=.build t e)(vs:Array<|Nat × Value)(k:e.map (λp=>(p.1,b.eval p.2))=vs){v:Value}(f:(Instr.build t vs).run P w=.ok v w)(h:wpList P ops Q rest (b.put a.dst v) w):wpList P ops Q (a::rest) b w:=by
 refine ij i (v:=v) ?_ h;subst k;unfold execOp;simp only[j,Sem.run_bind,Sem.run_pure,Result.andThen_ok];rw[f];rfl
def Ef.zero:Ef:=⟨0,0,ja,.nil,.nil,.nil,.nil,.nil,0,false,default⟩
def kj(ju:Sv In)(hH hC pc:Int)(r:Nat->Vl)(h:Sv Rw)(nx:Int):X1:=⟨ju,hH,hC,pc,r,h,nx,Ef.zero,false⟩
def AG(a:Sv In)(hH hC pc:Int)(r:Nat->Vl)(h:Sv Rw)(b:Int):
 (Instr.build 186 #[(0,.agg #[.slice a.A a.l.length a.c,Y hH,Y hC]),(1,.agg<|iE pc r),(2,.agg #[.slice h.A h.l.length h.c]),(3,Y b)]).run prog w=.ok (.agg (kj a hH hC pc r h b).g_) w:=by kernel_rfl
def xN(P:pC)(w:World)(e:Ending)(w':World):Prop:=∃x:Ef,e=.returned (.agg x.g_)/\tk w' x/\x.p=P/\J [] w w'
def tk.nil(w:World)(t:Ef)(f:t.rs=.nil)(i:t.ws=.nil)(b:t.nw=.nil)(e:t.ds=.nil)(a:t.ia=.nil):tk w t:=by
 obtain⟨m,G,n,o,p,k,s,r,q,c,d⟩:=t;simp only at f i b e a;subst f;subst i;subst b;subst e;subst a;exact⟨HB _ _ _ _,HB _ _ _ _,HB _ _ _ _,λu j=>by simp[Sv.nil]at j,HB _ _ _ _,HB _ _ _ _,I_ _,I_ _,I_ _,I_ _,I_ _⟩
def A7:∀a,a<43->x.g_[38+a]?=x.e.g_[a]?
 |0,_=>rfl
 |1,_=>rfl
 |2,_=>rfl
 |3,_=>rfl
 |4,_=>rfl
 |5,_=>rfl
 |6,_=>rfl
 |7,_=>rfl
 |8,_=>rfl
 |9,_=>rfl
 |10,_=>rfl
 |11,_=>rfl
 |12,_=>rfl
 |13,_=>rfl
 |14,_=>rfl
 |15,_=>rfl
 |16,_=>rfl
 |17,_=>rfl
 |18,_=>rfl
 |19,_=>rfl
 |20,_=>rfl
 |21,_=>rfl
 |22,_=>rfl
 |23,_=>rfl
 |24,_=>rfl
 |25,_=>rfl
 |26,_=>rfl
 |27,_=>rfl
 |28,_=>rfl
 |29,_=>rfl
 |30,_=>rfl
 |31,_=>rfl
 |32,_=>rfl
 |33,_=>rfl
 |34,_=>rfl
 |35,_=>rfl
 |36,_=>rfl
 |37,_=>rfl
 |38,_=>rfl
 |39,_=>rfl
 |40,_=>rfl
 |41,_=>rfl
 |42,_=>rfl
 |n+43,h=>GR h X
def kF.Fh{b:World}{a:Nat}{x:X1}(h:kF b w a x):tk w x.e:=
 ⟨Sl.iZ h.rs,Sl.iZ h.ws,h.nw,h.nr,h.ds,h.ia,jq h.rs,jq h.ws,h.tX,h.sQ,h.qf⟩
def p6{w':World}{x:Ef}(h:tk w x)(b:Bk w g 134 cs)(a:J [g] w w'):tk w' x:=h.iy b I a
def pr(l:QR)(hH hC pc:Int):Bool:=decide (ih l hH hC=false\/pc< -1\/(l.length:Int)<=pc)
def qq(c:Nat)(l:QR)(hH hC pc v:Int)(r:Nat->Vl)(i:OA)(hc:Nat)(a:QT)(N:Is w A l)(hn:l.length<=1000000000)(al:mh w i hc a)(bE:a.length<=1000000000)(wm:pc<=9000000000000000000):
 Calls prog 78 #[.agg #[.slice A l.length c,Y hH,Y hC],.agg<|iE pc r,.agg #[.slice i a.length hc],Y v] w (xN (kR l hH hC pc r (hY a) v) w):=by
 obtain⟨P,hP⟩:=mn_<|kR l hH hC pc r (hY a) v;have aQ:Hid (P=if ih l hH hC=false\/pc< -1\/(l.length:Int)<=pc then jl else
  if(nk ({(kj ⟨A,c,l⟩ hH hC pc r ⟨i,hc,a⟩ v)with e:={(kj ⟨A,c,l⟩ hH hC pc r ⟨i,hc,a⟩ v).e with pc:=pc+1,r:=r}}:X1).p pc).hM=true then jl else(nk ({(kj ⟨A,c,l⟩ hH hC pc r ⟨i,hc,a⟩ v)with e:={(kj ⟨A,c,l⟩ hH hC pc r ⟨i,hc,a⟩ v).e with pc:=pc+1,r:=r}}:X1).p pc).e):=O (by rw[<-hP];rfl)
 rw[hP];clear hP;obtain⟨u,C,-,-,-⟩:=DX w 26 #[.slice A l.length c,Y hH,Y hC] 49 (iE pc r) 35 #[.slice i a.length hc] 134 uy;have aT:Bk ((((w.alloc<|.cells #[.slice A l.length c,Y hH,Y hC] 26).alloc<|.cells (iE pc r) 49).alloc<|.cells #[.slice i a.length hc] 35).alloc<|.cells uy 134) (w.heap.size+2) 35 #[.slice i a.length hc]:=zu<|(T_ ((w.alloc<|.cells #[.slice A l.length c,Y hH,Y hC] 26).alloc<|.cells (iE pc r) 49) 35 #[.slice i a.length hc]).alloc<|.cells uy 134;have Q:Bk ((((w.alloc<|.cells #[.slice A l.length c,Y hH,Y hC] 26).alloc<|.cells (iE pc r) 49).alloc<|.cells #[.slice i a.length hc] 35).alloc<|.cells uy 134) (w.heap.size+3) 134 uy:=zu<|T_ (((w.alloc<|.cells #[.slice A l.length c,Y hH,Y hC] 26).alloc<|.cells (iE pc r) 49).alloc<|.cells #[.slice i a.length hc] 35) 134 uy;obtain⟨-,-,-,-,N2⟩:=DX w 26 #[.slice A l.length c,Y hH,Y hC] 49 (iE pc r) 35 #[.slice i a.length hc] 134 uy;go_enter func78,ntmps78;go_upto_region 1 with fail;obtain⟨bw,an⟩:=nm_<|(((w.alloc<|.cells #[.slice A l.length c,Y hH,Y hC] 26).alloc<|.cells (iE pc r) 49).alloc<|.cells #[.slice i a.length hc] 35).alloc<|.cells uy 134;rw[<-an]at u C aT Q N2 |-;clear an;obtain⟨aA,bN⟩:=nm_ w.heap.size;obtain⟨bK,aU⟩:=nm_<|w.heap.size+1;obtain⟨ap,aW⟩:=nm_<|w.heap.size+2;obtain⟨aV,bI⟩:=nm_<|w.heap.size+3;rw[<-aW]at aT;rw[<-bI]at Q;rw[<-aU]at C;rw[<-bN]at u;rw[<-bI,<-aW,<-aU,<-bN];have cn:w.heap.size<=aV:=X;have cj:aA≠bK/\aA≠ap/\aA≠aV/\bK≠ap/\bK≠aV/\ap≠aV:=X;clear bN aU aW bI
 go_cut [26] (λE aX=>E=.bool (pr l hH hC pc)/\J [] bw aX)
 case first=>
  have M:=u.f_ 0;have R:=u.f_ 1;have T:=u.f_ 2;cases hv:ih l hH hC with
  |false=>
   have a8:=O (show pr l hH hC pc=true by unfold pr;simp[hv]);exact Ko
  |true=>
   by_cases b:pc< -1;have a8:=O (show pr l hH hC pc=true by unfold pr;simp[b]);have q:(pc< -1)=True:=by simp[b]
   exact Ko;have q:(pc< -1)=False:=by simp[b]
   by_cases f:(l.length:Int)<=pc;have a8:=O (show pr l hH hC pc=true by unfold pr;simp[f]);have m:((l.length:Int)<=pc)=True:=by simp[f]
   exact Ko;have a8:=O (show pr l hH hC pc=false by unfold pr;simp[hv];omega);have m:((l.length:Int)<=pc)=False:=p_;exact Ko
 obtain⟨rfl,aJ⟩:=hcut;replace u:=u.hF aJ;replace C:=C.hF aJ;replace aT:=aT.hF aJ;replace Q:=Q.hF aJ;replace N2:=N2.trans aJ;clear aJ;cases bq:pr l hH hC pc with
 |true=>
  have HM:Hid (P=jl):=O (by rw[aQ.out];unfold pr at bq;exact L_<|IZ bq);clear bq aQ;go_wp2_with (refine k6 (({Ef.zero with h7:=4}:Ef).g_) Q (Ef.one _) ?_;intro N0 b G);rw[HM.out];exact rr_ ({Ef.zero with h7:=4}:Ef).g_ b underlying134 ⟨_,rfl,tk.nil _ _ rfl rfl rfl rfl rfl,rfl,N2.hJ G p_⟩
 |false=>
  have bp:¬(ih l hH hC=false\/pc< -1\/(l.length:Int)<=pc):=by unfold pr at bq;exact Jf bq
  have S:Hid (P=if(nk ({(kj ⟨A,c,l⟩ hH hC pc r ⟨i,hc,a⟩ v)with e:={(kj ⟨A,c,l⟩ hH hC pc r ⟨i,hc,a⟩ v).e with pc:=pc+1,r:=r}}:X1).p pc).hM=true then jl else(nk ({(kj ⟨A,c,l⟩ hH hC pc r ⟨i,hc,a⟩ v)with e:={(kj ⟨A,c,l⟩ hH hC pc r ⟨i,hc,a⟩ v).e with pc:=pc+1,r:=r}}:X1).p pc).e):=O (by rw[aQ.out];exact K_ bp);clear bq aQ;have ar:ih l hH hC=true:=by cases h:ih l hH hC with|true=>rfl|false=>exact GR (.inl h) bp
  have W: -1<=pc/\pc<(l.length:Int):=X;have aK:∀k,k<l.length->kU l k=true:=by
   intro k hk;have hv:=ar;exact Nj
  have cg:l.length<=2048:=M9;clear bp ar;have M:=u.f_ 0;have R:=u.f_ 1;have T:=u.f_ 2;have z0:=aT.f_ 0;have L:wc.heap.size≠aV:=ov Q.lt;have ce:wc.heap.size≠bK:=ov C.lt;have au:wc.heap.size≠aA:=ov u.lt;have bZ:=N.hF N2;have bY:=al.hF N2;go_upto_region 4 with(first|(refine la C underlying49 ?_)|(refine wpList_build rfl rfl #[(0,.agg #[.slice A l.length c,Y hH,Y hC]),(1,.agg<|iE pc r),(2,.agg #[.slice i a.length hc]),(3,Y v)] k_ (AG ⟨A,c,l⟩ hH hC pc r ⟨i,hc,a⟩ v) ?_));have bT:w.heap.size<=wc.heap.size:=N2.size;have aP:J [] wc (wc.alloc<|.cells (kj ⟨A,c,l⟩ hH hC pc r ⟨i,hc,a⟩ v).g_ 186):=(G_ [] wc).alloc _;have be:=T_ wc 186 (kj ⟨A,c,l⟩ hH hC pc r ⟨i,hc,a⟩ v).g_;replace u:=u.hF aP;replace C:=C.hF aP;replace Q:=Q.hF aP;replace N2:=N2.trans aP;replace bZ:=bZ.hF aP;replace bY:=bY.hF aP;obtain⟨D,ca⟩:=nm_<|wc.alloc<|.cells (kj ⟨A,c,l⟩ hH hC pc r ⟨i,hc,a⟩ v).g_ 186;rw[<-ca]at u C Q be N2 bZ bY |-;clear ca;clear aP aT z0 M R T;generalize wc.heap.size=gx at*;have bO:kF D D gx (kj ⟨A,c,l⟩ hH hC pc r ⟨i,hc,a⟩ v):=⟨be,G_ _ _,⟨_,be⟩,bZ,bY,World.ownsRow_nil _ _ _ _,World.ownsRow_nil _ _ _ _,(λg h=>by cases h),HB _ _ _ _,(λr hr=>by simp[kj,Ef.zero,Sv.nil]at hr),HB _ _ _ _,HB _ _ _ _,I_ _,I_ _,I_ _,hn,bE⟩
  go_upto_region 5 with(first|(refine la C underlying49 ?_)|(refine jn rfl 49 _ _ rfl gx 39 r_ (iE pc r) r_ 186 _ be (by show 39+33<=82;decide) k_ (oo) ?_;intro w2 br N3));rw[nG]at br;have bd:kF D w2 gx ({(kj ⟨A,c,l⟩ hH hC pc r ⟨i,hc,a⟩ v)with e:={(kj ⟨A,c,l⟩ hH hC pc r ⟨i,hc,a⟩ v).e with pc:=pc,r:=r}}:X1):=bO.sp N3 br rfl rfl rfl rfl rfl rfl rfl;have b7:=u.gr N3<|zu au.symm;have b9:=C.gr N3<|zu ce.symm;have b8:=Q.gr N3<|zu L.symm;have bP:w2.cell? (Z gx 39)=some (Y pc):=(bd.bk.f_ 39).trans rfl;have bJ:=bd.bk.hG 39;clear bO be br u C Q;go_upto_region 6 with fail;have bf:kF D (w2.setCell (Z gx 39)<|Y<|pc+1) gx ({(kj ⟨A,c,l⟩ hH hC pc r ⟨i,hc,a⟩ v)with e:={(kj ⟨A,c,l⟩ hH hC pc r ⟨i,hc,a⟩ v).e with pc:=pc+1,r:=r}}:X1):=bd.set 39 (Y<|pc+1) rfl rfl rfl rfl rfl rfl rfl rfl;have b0:=b7.ir (p:=(Z gx 39)) au.symm<|Y<|pc+1;have b4:=b9.ir (p:=(Z gx 39)) ce.symm<|Y<|pc+1;have bQ:=b8.ir (p:=(Z gx 39)) L.symm<|Y<|pc+1;clear bP bJ bd b7 b9 b8 N3;obtain⟨aj,aN⟩:=nm_<|w2.setCell (Z gx 39)<|Y<|pc+1;rw[<-aN]at bf b0 b4 bQ |-;clear aN;obtain⟨x,hx⟩:=nm_ ({(kj ⟨A,c,l⟩ hH hC pc r ⟨i,hc,a⟩ v)with e:={(kj ⟨A,c,l⟩ hH hC pc r ⟨i,hc,a⟩ v).e with pc:=pc+1,r:=r}}:X1);rw[<-hx]at bf S;have bH:=O hx
  have bh:x.p.e.sm 0:=by rw[hx];exact⟨I_ _,I_ _,I_ _,I_ _,I_ _⟩
  have bV:x.j4=pc:=by rw[hx];rfl
  have cf:x.ju=⟨A,c,l⟩:=by rw[hx];rfl
  clear hx;have p0:aj.cell? (Z bK 0)=some (Y pc):=(b4.f_ 0).trans rfl;by_cases bX:pc= -1
  ·
   have q:(pc== -1)=true:=by simp[bX]
   have B:Hid (P=if(iv x.p).hM=true then(if(iv x.p).hM=true then jl else(iv x.p).e) else(if(iX (hQ (iv x.p) 1 2).1 (hQ (iv x.p) 1 2).2).hM=true then jl else(iX (hQ (iv x.p) 1 2).1 (hQ (iv x.p) 1 2).2).e)):=O (by
    rw[S.out];unfold nk;rw[L_ bX];dsimp only;split<;>rfl)
   clear S;go_upto_region 8 with(go_at_call 116;((with_reducible refine(q9 D gx x bf).mono ?_);unfold k5;rintro e K⟨f,rfl,b6,bB,bk⟩;have n:=O bB;clear bB;have d:K.cell? (Z gx 81)=some (.bool f.hM):=(b6.bk.f_ 81).trans rfl));have cJ:f.p.e.sm 0:=by rw[n.out];exact bh
   have bn:=bQ.xg bk L.symm;cases m:f.hM with
   |true=>
    have ad:Hid (P=if f.p.hM=true then jl else f.p.e):=O (by rw[B.out,<-n.out,L_ (show f.p.hM=true from m)]);rw[m]at d;clear m B n;go_upto_region 13 with fail;have F:=b6;have o:=bn;have aC:J [] w K:=N2.hJ F.gr p_;obtain⟨aI,cD⟩:=nm_ f;rw[<-cD]at F ad;clear d cD;obtain⟨N0,cr⟩:=nm_ K;exact Jv
   |false=>
    obtain⟨bm,hv⟩:=mn_<|(hQ f.p 1 2).2;have z:=O hv;clear hv;have s:Hid (P=if(iX (hQ f.p 1 2).1 bm).hM=true then jl else(iX (hQ f.p 1 2).1 bm).e):=O (by rw[B.out,<-n.out,K_ (show ¬f.p.hM=true by rw[show f.p.hM=f.hM from rfl,m];decide),z.out]);rw[m]at d;clear m B n;have bC:(hQ f.p 1 2).1.e.sm 900000:=(ko cJ 1 2).mono I;go_upto_region 13 with(first|(go_at_call 118;((with_reducible refine(jY D gx f 1 2 b6<|H_ cJ.rs I).mono ?_);unfold ni;rintro e bv⟨aq,rfl,ag,aM,NZ⟩;have bu:=O aM;clear aM;rw[z.out]))|(go_at_call 117;((with_reducible refine(pI D gx aq bm ag<|by rw[bu.out];exact bC).mono ?_);unfold k5;rintro e NY⟨bS,rfl,bi,U,b⟩;have y:=O U;clear U)));have ad:Hid (P=if bS.p.hM=true then jl else bS.p.e):=O (by rw[s.out,y.out,bu.out]);have F:=bi;have o:=(bn.xg NZ L.symm).xg b L.symm;have aC:J [] w NY:=N2.hJ F.gr p_;clear s y bu z d;exact Jt
  have q:(pc== -1)=false:=by simp[bX]
  obtain⟨k,rfl⟩:∃k:Nat,pc=k:=⟨pc.toNat,X⟩;have hk:k<l.length:=X;have b5:=bf.Fc;rw[cf]at b5;obtain⟨bG,off,bM,bt,bA,bW,bL,bD⟩:=b5.at_ hk;have bM:A=some (Z bG off):=bM;have n:=xi<|aK k hk;have ao:l.getD k default=l[k]:=by simp[List.getD,O_ hk]
  rw[ao]at n;have ck:nk x.p (k:Int)=(match ji x.p l[k]with
   |some E=>E
   |none=>match kb x.p l[k]with
    |some E=>E
    |none=>jH x.p l[k]):=by
   have e:x.p.ju.getD (k:Int).toNat default=l[k]:=by
    have av:x.p.ju=l:=GG (λbx:Sv In=>bx.l) cf;rw[av,<-ao];rfl
   unfold nk;rw[K_ bX,e];rfl
  rw[ck]at S;clear ck ao b5 aK;obtain⟨m,hi⟩:=nm_<|l[k];rw[<-hi]at n S bt bA bW bL bD;clear hi;have k0:aj.cell? (Z aA 0)=some (.slice (some<|Z bG off) l.length c):=by rw[<-bM];exact b0.f_ 0
  go_upto_region 11 with fail;have f:=T_ aj 189 #[Y m.op,Y m.a,Y m.b,Y m.c,Y m.n];have ag:=bf.hF<|(G_ [] aj).alloc<|.cells #[Y m.op,Y m.a,Y m.b,Y m.c,Y m.n] 189;have bR:=bQ.alloc<|.cells #[Y m.op,Y m.a,Y m.b,Y m.c,Y m.n] 189;have t:aj.heap.size≠gx:=ov bf.bk.lt;obtain⟨a7,aE⟩:=nm_<|aj.alloc<|.cells #[Y m.op,Y m.a,Y m.b,Y m.c,Y m.n] 189;rw[<-aE]at f ag bR |-;clear aE;generalize aj.heap.size=cb at*;clear bf bQ b0 b4 p0 k0 bt bA bW bL bD;have M:=f.f_ 0;have R:=f.f_ 1;have T:=f.f_ 2;have aS:=f.f_ 3;have ak:=f.f_ 4
  cases W:ji x.p m with
  |some E=>
   have B:Hid (P=if E.hM=true then jl else E.e):=O (by rw[S.out,W]);clear S;go_upto_region 13 with(go_at_call 119;have s:=pV D gx x m ag (bh.mono I) n.a0 n.a1 n.FY n.c4;rw[W]at s;refine s.mono ?_;unfold lI;rintro e NY⟨bS,K,bi,U,b⟩;have K:e=.returned (.bool true):=K;subst K;have y:Hid (bS.p=E):=O U;clear U s;replace M:=(f.xg b t).f_ 0;replace R:=(f.xg b t).f_ 1;replace T:=(f.xg b t).f_ 2;replace aS:=(f.xg b t).f_ 3;replace ak:=(f.xg b t).f_ 4);have ad:Hid (P=if bS.p.hM=true then jl else bS.p.e):=O (by rw[B.out,y.out]);have F:=bi;have o:=bR.xg b L.symm;clear B y M R T aS ak W;have aC:J [] w NY:=N2.hJ F.gr p_;exact Jt
  |none=>
   cases az:kb x.p m with
   |some E=>
    have B:Hid (P=if E.hM=true then jl else E.e):=O (by rw[S.out,W];simp only[az]);clear S;go_upto_region 13 with(first|(go_at_call 119;have s:=pV D gx x m ag (bh.mono I) n.a0 n.a1 n.FY n.c4;rw[W]at s;refine s.mono ?_;unfold lI;rintro e NY⟨bS,K,bi,U,b⟩;have K:e=.returned (.bool false):=K;subst K;have y:Hid (bS.p=x.p):=O U;clear U s;replace M:=(f.xg b t).f_ 0;replace R:=(f.xg b t).f_ 1;replace T:=(f.xg b t).f_ 2;replace aS:=(f.xg b t).f_ 3;replace ak:=(f.xg b t).f_ 4)|(go_at_call 120;have s:=tz D gx bS m bi (by rw[y.out];exact bh.mono I) n.a0 n.a1 n.hH;rw[y.out,az]at s;refine s.mono ?_;unfold lI;rintro e aB⟨bo,aF,a6,aR,z⟩;have aF:e=.returned (.bool true):=aF;subst aF;have bl:Hid (bo.p=E):=O aR;clear aR s;replace M:=((f.xg b t).xg z t).f_ 0;replace R:=((f.xg b t).xg z t).f_ 1;replace T:=((f.xg b t).xg z t).f_ 2;replace aS:=((f.xg b t).xg z t).f_ 3;replace ak:=((f.xg b t).xg z t).f_ 4));have ad:Hid (P=if bo.p.hM=true then jl else bo.p.e):=O (by rw[B.out,bl.out]);have F:=a6;have o:=(bR.xg b L.symm).xg z L.symm;clear B y bl M R T aS ak W az;have aC:J [] w aB:=N2.hJ F.gr p_;obtain⟨aI,cD⟩:=nm_ bo;rw[<-cD]at F ad;clear cD;obtain⟨N0,cr⟩:=nm_ aB;exact Jv
   |none=>
    have B:Hid (P=if(jH x.p m).hM=true then jl else(jH x.p m).e):=O (by rw[S.out,W];simp only[az]);clear S;go_upto_region 13 with(first|(go_at_call 119;have s:=pV D gx x m ag (bh.mono I) n.a0 n.a1 n.FY n.c4;rw[W]at s;refine s.mono ?_;unfold lI;rintro e NY⟨bS,K,bi,U,b⟩;have K:e=.returned (.bool false):=K;subst K;have y:Hid (bS.p=x.p):=O U;clear U s;replace M:=(f.xg b t).f_ 0;replace R:=(f.xg b t).f_ 1;replace T:=(f.xg b t).f_ 2;replace aS:=(f.xg b t).f_ 3;replace ak:=(f.xg b t).f_ 4)|(go_at_call 120;have s:=tz D gx bS m bi (by rw[y.out];exact bh.mono I) n.a0 n.a1 n.hH;rw[y.out,az]at s;refine s.mono ?_;unfold lI;rintro e aB⟨bo,aF,a6,aR,z⟩;have aF:e=.returned (.bool false):=aF;subst aF;have bl:Hid (bo.p=x.p):=O aR;clear aR s;replace M:=((f.xg b t).xg z t).f_ 0;replace R:=((f.xg b t).xg z t).f_ 1;replace T:=((f.xg b t).xg z t).f_ 2;replace aS:=((f.xg b t).xg z t).f_ 3;replace ak:=((f.xg b t).xg z t).f_ 4)|(go_at_call 121;have s:=yi D gx bo m a6 (by rw[bl.out];exact bh.mono I) n.a0 n.a1 n.GC n.n7 n.Gg (by show -1<=bo.p.j4;rw[bl.out];show -1<=x.j4;rw[bV];omega) (by show bo.p.j4<=1000000;rw[bl.out];show x.j4<=1000000;rw[bV];omega);refine s.mono ?_;unfold k5;rintro e aH⟨cc,rfl,aG,cX,aO⟩;have aZ:=O cX;clear cX s));have ad:Hid (P=if cc.p.hM=true then jl else cc.p.e):=O (by rw[B.out,aZ.out,bl.out]);have F:=aG;have o:=((bR.xg b L.symm).xg z L.symm).xg aO L.symm;clear B y bl aZ M R T aS ak W az;have aC:J [] w aH:=N2.hJ F.gr p_;obtain⟨aI,cD⟩:=nm_ cc;rw[<-cD]at F ad;clear cD;obtain⟨N0,cr⟩:=nm_ aH;exact Jv
def wh(o:Option iP)(w:World)(e:Ending)(w':World):Prop:=∃t:Tk,e=.returned (.tuple #[.agg t.g_,.bool o.isSome])/\J [] w w'/\∀P,o=some P->kV w' t/\t.p=P
def BL{t:iP}{rs ws:QV}{l:QC}(h:take t d=none):jf t rs ws (d::l)=jf t rs ws l:=by
 rw[jf,h]
def z8{t t':iP}{rs ws:QV}{l:QC}(h:take t d=some t'):jf t rs ws (d::l)=jf t' (jj rs d) (jj ws d) l:=by
 rw[jf,h]
def Cs.iy{w':World}{A:OA}(h:Cs w A l)(e:Bk w g t cs)(a:116≠t)(b:J [g] w w'):Cs w' A l:=Sl.iy h e a b
def nB(t:iP)(c:Cl):Bool:=decide (0<=jx t.nw c.id\/0<=cat t.ws c.id c.f\/0<=cat t.rs c.id c.f)
def yo{view:QQ}{t:iP}(h:nB t c=true):jB view t (c::l)=jB view t l:=by
 have a:0<=jx t.nw c.id\/0<=cat t.ws c.id c.f\/0<=cat t.rs c.id c.f:=by simpa[nB]using h
 rw[jB,m8,L_ a]
def wS{view:QQ}{t:iP}(h:nB t c=false)(b:pk t.ds c.id c.f<0):m8 view t c=some {t with rs:=kc t.rs c}:=by
 have a:¬(0<=jx t.nw c.id\/0<=cat t.ws c.id c.f\/0<=cat t.rs c.id c.f):=by simpa[nB]using h
 rw[m8,K_ a,K_ X]
def z7{view:QQ}{t:iP}(h:nB t c=false)(a:pk t.ds c.id c.f<0):jB view t (c::l)=jB view {t with rs:=kc t.rs c} l:=by
 rw[jB,wS h a]
def wR{view:QQ}{t:iP}(h:nB t c=false)(b:0<=pk t.ds c.id c.f):m8 view t c=jb t view c.id c.f:=by
 have a:¬(0<=jx t.nw c.id\/0<=cat t.ws c.id c.f\/0<=cat t.rs c.id c.f):=by simpa[nB]using h
 rw[m8,K_ a,L_ b]
def BK{view:QQ}{t:iP}(h:nB t c=false)(a:0<=pk t.ds c.id c.f)(b:jb t view c.id c.f=none):jB view t (c::l)=none:=by
 rw[jB,wR h a,b]
def z6{view:QQ}{t t':iP}(h:nB t c=false)(a:0<=pk t.ds c.id c.f)(b:jb t view c.id c.f=some t'):jB view t (c::l)=jB view t' l:=by
 rw[jB,wR h a,b]
def BJ{view:QQ}{t:iP}(a:jb t view c.id c.f=none):j6 view t (c::l)=none:=by
 rw[j6,pw,a];rfl
def z2{view:QQ}{t t':iP}(a:jb t view c.id c.f=some t'):j6 view t (c::l)=j6 view (jt t' c) l:=by
 rw[j6,pw,a];rfl
def Fi:116≠134/\56≠134/\38≠134/\124≠134/\162≠134:=by decide
def yn(t:Tk)(A:OA)(c:Nat)(l:QT)(f:Ef)(w:World)(ht:kV w t)(h:mh w A c l)(he:tk w f)(hs:t.p.sm 1000000)(hes:f.p.sm 1000)(hl:l.length<=100000000):
 Calls prog 81 #[.agg t.g_,.agg #[.slice A l.length c],.agg f.g_] w (wh (record t.p (hY l) f.p) w):=by
 obtain⟨b,j,o,r,N2⟩:=DX w 53 t.g_ 35 #[.slice A l.length c] 134 f.g_ 53 ks;go_enter func81,ntmps81;go_upto_region 1 with fail;obtain⟨al,an⟩:=nm_<|(((w.alloc<|.cells t.g_ 53).alloc<|.cells #[.slice A l.length c] 35).alloc<|.cells f.g_ 134).alloc<|.cells ks 53;rw[<-an]at b j o r N2 |-;clear an;have bg:al.cell? (Z (w.heap.size+1+1) 37)=some (.slice f.ds.A f.ds.l.length f.ds.c):=(o.f_ 37).trans rfl;go_wp2
 go_loopw [20] (λaA wr=>∃(s:Nat) (S:Tk) (rs ws:Sv Cl),s<=f.ds.l.length/\aA=Y s/\Bk wr (w.heap.size) 53 S.g_/\Bk wr (w.heap.size+1+1) 134 ({f with rs:=rs,ws:=ws}:Ef).g_/\Bk wr (w.heap.size+1) 35 #[.slice A l.length c]/\Bk wr (w.heap.size+1+1+1) 53 ks/\kV wr S/\Cs wr rs.A rs.l/\Cs wr ws.A ws.l/\rs.ok/\ws.ok/\jf t.p f.rs.l f.ws.l f.ds.l=jf S.p rs.l ws.l (f.ds.l.drop s)/\S.p.sm (1000000+s)/\rs.l.length<=1000/\ws.l.length<=1000/\J [] w wr) (λaA _=>f.ds.l.length-(intOf aA).toNat)
 case atStart=>exact⟨0,t,f.rs,f.ws,R_ _,rfl,b,o,j,r,ht.hF N2,(he.hF N2).rs,(he.hF N2).ws,he.ll,he.wy,rfl,hs.mono X,hes.rs,hes.ws,N2⟩
 clear b o j r N2 bg;obtain⟨s,S,rs,ws,hk,rfl,b,o,j,r,b6,Q,B,cw,dw,bu,z,cu,dh,u⟩:=hrel;have aR:=O bu;clear bu;have de:=hes.ds;by_cases ag:s<f.ds.l.length
 .have aC:(s:Int)<(f.ds.l.length:Int):=X;have dB:f.ds.l.length<=1000:=de;have aY:S.ds.l.length<=1000000000:=H_ z.ds X;have bj:S.nw.l.length<=1000000000:=by have:=z.nw;rw[show S.p.nw=hY S.nw.l from rfl,ib]at this;omega
  have bH:S.ws.l.length<=1000000000:=H_ z.ws X;have bZ:S.rs.l.length<=1000000000:=H_ z.rs X;obtain⟨bd,off,aU,bt,bA,bW,bL,bD⟩:=((he.hF u).ds).at_ ag;rw[aU];have aj:=O (show f.ds.l.drop s=f.ds.l[s]::f.ds.l.drop (s+1) from W_ ag);generalize f.ds.l[s]=d at*;have aG:=(G_ [] wr).alloc<|.cells #[Y d.id,Y d.f,Y d.op,.bool d.v.r,Y d.v.n] 124;have df:w.heap.size+1+1+1<wr.heap.size:=r.lt;have e:=T_ wr 124 #[Y d.id,Y d.f,Y d.op,.bool d.v.r,Y d.v.n];go_upto_region 5 with fail;replace b:=b.hF aG;replace o:=o.hF aG;replace j:=j.hF aG;replace r:=r.hF aG;replace b6:=b6.hF aG;replace Q:=Sl.hF Q aG;replace B:=Sl.hF B aG;replace u:=u.trans aG;clear aG bt bA bW bL bD aU;obtain⟨bf,bG⟩:=nm_<|wr.alloc<|.cells #[Y d.id,Y d.f,Y d.op,.bool d.v.r,Y d.v.n] 124;rw[<-bG]at b o j r e u b6 Q B |-;clear bG;generalize wr.heap.size=N at*;have W:=e.f_ 0;have af:=e.f_ 1;have ay:=e.f_ 2;have aS:=e.f_ 3;have ak:=e.f_ 4
  cases aT:take S.p d with
  |none=>
   have bi:=O aT;clear aT;go_wp2_with (first|(refine la b underlying53 ?_)|(go_at_call 126;((with_reducible refine(CV S d b6 aY bj bH bZ bi.out).mono ?_);unfold nC;rintro R V⟨a,rfl,k,bl,C⟩;have bC:=T_ V 53 ks;have cO:w.heap.size+1+1+1<V.heap.size:=HK r.lt C.size;have du:N<V.heap.size:=HK e.lt C.size))|(refine k6 (a.g_) bC (Tk.one _) ?_;intro bh cN K));have H:J [] bf bh:=(C.alloc<|.cells ks 53).hJ K (by simp;exact C.size);go_roundw;exact⟨s+1,S,rs,ws,X,gn,b.hF H,o.hF H,j.hF H,r.hF H,b6.hF H,Sl.hF Q H,Sl.hF B H,cw,dw,by rw[aR.out,aj.out,BL bi.out],z.mono X,cu,dh,u.trans H⟩;exact mz
  |some P=>
   have bi:=O aT;clear aT;go_upto_region 7 with(first|(refine la b underlying53 ?_)|(go_at_call 126;((with_reducible refine(Bh S d P b6 aY bj bH bZ bi.out).mono ?_);unfold nC;rintro R V⟨a,rfl,k,bl,C⟩;have bC:=T_ V 53 ks;have cO:w.heap.size+1+1+1<V.heap.size:=HK r.lt C.size;have du:N<V.heap.size:=HK e.lt C.size))|(refine k6 (a.g_) bC (Tk.one _) ?_;intro bh cN K));have aq:=O bl;clear bl;have H:J [] bf bh:=(C.alloc<|.cells ks 53).hJ K (by simp;exact C.size);have bk:J [] V bh:=((G_ [] V).alloc<|.cells ks 53).hJ K s_;replace b:=b.hF H;replace o:=o.hF H;replace j:=j.hF H;replace r:=r.hF H;replace e:=e.hF H;replace k:=k.hF bk;replace Q:=Q.hF H;replace B:=B.hF H;replace u:=u.trans H;clear C K H bk b6 bC W af ay aS ak;generalize V.heap.size=dz at*
   go_upto_region 8 with(first|(refine la cN underlying53 ?_)|(refine k6 (a.g_) b (Tk.one _) ?_;intro NY cp ah));replace o:=o.gr ah sd_;replace j:=j.gr ah sd_;replace r:=r.gr ah sd_;replace e:=e.gr ah sd_;replace k:=k.iy b oz ah;replace Q:=Sl.iy Q b I ah;replace B:=Sl.iy B b I ah;replace u:=u.hJ ah s_;replace b:=cp;clear cp ah cN;have c9:NY.drew.cell? (Z (w.heap.size+1+1) 34)=some (.slice rs.A rs.l.length rs.c)/\NY.drew.cell? (Z (w.heap.size+1+1) 35)=some (.slice ws.A ws.l.length ws.c)/\NY.drew.cell? (Z N 0)=some (Y d.id)/\NY.drew.cell? (Z N 1)=some (Y d.f)/\NY.drew.cell? (Z N 2)=some (Y d.op)/\NY.drew.cell? (Z N 3)=some (.bool d.v.r)/\NY.drew.cell? (Z N 4)=some (Y d.v.n):=
    ⟨(o.drew.f_ 34).trans rfl,(o.drew.f_ 35).trans rfl,e.drew.f_ 0,e.drew.f_ 1,e.drew.f_ 2,e.drew.f_ 3,e.drew.f_ 4⟩
   have q:=O<|And.intro o.drew e.drew;have bP:Hid (Cs NY.drew rs.A rs.l/\Cs NY.drew ws.A ws.l):=O ⟨Sl.hF Q (G_ [] NY).drew,Sl.hF B (G_ [] NY).drew⟩;refine hS (λw'=>w'.cell? (Z (w.heap.size+1+1) 34)=some (.slice rs.A rs.l.length rs.c)/\w'.cell? (Z (w.heap.size+1+1) 35)=some (.slice ws.A ws.l.length ws.c)/\w'.cell? (Z N 0)=some (Y d.id)/\w'.cell? (Z N 1)=some (Y d.f)/\w'.cell? (Z N 2)=some (Y d.op)/\w'.cell? (Z N 3)=some (.bool d.v.r)/\w'.cell? (Z N 4)=some (Y d.v.n)) 9 k_ ?_;have n:=c9;clear c9;refine iC 0 n ?_;refine iC 2 n ?_;refine iC 4 n ?_;refine iC 6 n ?_;refine iC 1 n ?_;refine iC 5 n ?_;refine h4 3 λy i=>?_;go_simp;(go_at_call 127;((with_reducible refine(sj rs.A rs.c rs.l d bP.out.1 X).mono ?_);unfold sU;rintro R T⟨aL,cI,rfl,dt,bS,D⟩));have bU:=And.intro ((q.out.1.hF D).f_ 34)<|(q.out.1.hF D).f_ 35;clear n;have n:T.cell? (Z (w.heap.size+1+1) 34)=some (.slice rs.A rs.l.length rs.c)/\T.cell? (Z (w.heap.size+1+1) 35)=some (.slice ws.A ws.l.length ws.c)/\T.cell? (Z N 0)=some (Y d.id)/\T.cell? (Z N 1)=some (Y d.f)/\T.cell? (Z N 2)=some (Y d.op)/\T.cell? (Z N 3)=some (.bool d.v.r)/\T.cell? (Z N 4)=some (Y d.v.n):=⟨((q.out.1.hF D).f_ 34).trans rfl,((q.out.1.hF D).f_ 35).trans rfl,(q.out.2.hF D).f_ 0,(q.out.2.hF D).f_ 1,(q.out.2.hF D).f_ 2,(q.out.2.hF D).f_ 3,(q.out.2.hF D).f_ 4⟩;clear bU;refine hZ i n λn=>?_;clear i y;refine iC 8 n ?_;refine h4 7 λy i=>?_;go_simp;(go_at_call 127;((with_reducible refine(sj ws.A ws.c ws.l d (Cs.hF bP.out.2 D) X).mono ?_);unfold sU;rintro R L⟨U,cK,rfl,cv,dC,M⟩));clear n;have E:=D.trans M;have n:L.cell? (Z (w.heap.size+1+1) 34)=some (.slice rs.A rs.l.length rs.c)/\L.cell? (Z (w.heap.size+1+1) 35)=some (.slice ws.A ws.l.length ws.c)/\L.cell? (Z N 0)=some (Y d.id)/\L.cell? (Z N 1)=some (Y d.f)/\L.cell? (Z N 2)=some (Y d.op)/\L.cell? (Z N 3)=some (.bool d.v.r)/\L.cell? (Z N 4)=some (Y d.v.n):=⟨((q.out.1.hF E).f_ 34).trans rfl,((q.out.1.hF E).f_ 35).trans rfl,(q.out.2.hF E).f_ 0,(q.out.2.hF E).f_ 1,(q.out.2.hF E).f_ 2,(q.out.2.hF E).f_ 3,(q.out.2.hF E).f_ 4⟩;have f34:=(q.out.1.hF E).hG 34;have f35:=(q.out.1.hF E).hG 35;have dD:=n.1;have z35:=n.2.1;refine hZ i n λn=>?_;clear i y;refine h4 9 λy i=>?_;go_simp;refine i.out _ _ (λh=>GR h I) ?_;clear i y;try simp only[a_]
   refine h4 10 λy i=>?_;go_simp;refine i.out _ _ (λh=>GR h I) ?_;clear i y;try simp only[a_]
   refine h4 11 λy i=>?_;go_simp;refine i.out _ _ (λh=>GR h I) ?_;clear i y;try simp only[a_]
   refine hN k_ ?_ _;go_wp2;go_roundw
   case rel=>
    have F:=((G_ [w.heap.size+1+1] L).setCell (p:=(Z (w.heap.size+1+1) 34)) (.inl s_)<|.slice aL (jj rs.l d).length cI).setCell (p:=(Z (w.heap.size+1+1) 35)) (.inl s_)<|.slice U (jj ws.l d).length cK;have ct:=q.out.1.hF E;have ao:J [] NY L:=((G_ [] NY).drew).trans E;have bI:=(u.trans ao).hJ F p_;exact⟨s+1,a,⟨aL,cI,jj rs.l d⟩,⟨U,cK,jj ws.l d⟩,X,gn,(b.hF ao).gr F sd_,(ct.hW 34 _).hW 35 _,(j.hF ao).gr F sd_,(r.hF ao).gr F sd_,(k.hF ao).iy ct Fi F,Sl.iy (Sl.hF dt M) ct I F,Sl.iy cv ct I F,bS,dC,by rw[aR.out,aj.out,z8 bi.out,aq.out],by rw[aq.out];exact(y1 z bi.out).mono X,H_ (qF _ _) cu,H_ (qF _ _) dh,bI⟩
   case measure=>exact mz
 have aC:¬(s:Int)<(f.ds.l.length:Int):=X;have cf:=O (show jf t.p f.rs.l f.ws.l f.ds.l=(S.p,rs.l,ws.l) by rw[aR.out,Hd X];rfl);clear aR;replace z:=z.mono (show 1000000+s<=1001000 by have:f.ds.l.length<=1000:=de;omega);clear ag hk;have dx:wr.cell? (Z (w.heap.size+1+1) 34)=some (.slice rs.A rs.l.length rs.c):=(o.f_ 34).trans rfl;have cj:=O (show record t.p (hY l) f.p=(match jB (hY l) S.p rs.l with
  |none=>none
  |some bm=>match j6 (hY l) {bm with nw:=bm.nw++hY f.nw.l} ws.l with
   |none=>none
   |some bd=>some {bd with ia:=bd.ia++f.ia.l}) by
  show(match jB (hY l) (jf t.p f.rs.l f.ws.l f.ds.l).1 (jf t.p f.rs.l f.ws.l f.ds.l).2.1 with
   |none=>none
   |some bm=>match j6 (hY l) {bm with nw:=bm.nw++hY f.nw.l} (jf t.p f.rs.l f.ws.l f.ds.l).2.2 with
    |none=>none
    |some bd=>some {bd with ia:=bd.ia++f.ia.l})=_
  rw[cf.out])
 clear cf;go_wp2;clear aC;go_loopw [46] (λaA wr=>∃(s:Nat) (a:Tk),s<=rs.l.length/\aA=Y s/\Bk wr (w.heap.size) 53 a.g_/\Bk wr (w.heap.size+1+1) 134 ({f with rs:=rs,ws:=ws}:Ef).g_/\Bk wr (w.heap.size+1) 35 #[.slice A l.length c]/\Bk wr (w.heap.size+1+1+1) 53 ks/\kV wr a/\Cs wr rs.A rs.l/\Cs wr ws.A ws.l/\jB (hY l) S.p rs.l=jB (hY l) a.p (rs.l.drop s)/\a.p.sm (1001000+2*s)/\J [] w wr) (λaA _=>rs.l.length-(intOf aA).toNat)
 case atStart=>exact⟨0,S,R_ _,rfl,b,o,j,r,b6,Q,B,rfl,z.mono X,u⟩
 clear b o j r b6 Q B u dx z;obtain⟨s,a,hk,rfl,b,o,j,r,k,Q,B,bu,z,u⟩:=hrel;have aR:=O bu;clear bu;by_cases ag:s<rs.l.length
 .have aC:(s:Int)<(rs.l.length:Int):=X;have aY:a.ds.l.length<=1000000000:=H_ z.ds X;have bj:a.nw.l.length<=1000000000:=by have:=z.nw;rw[show a.p.nw=hY a.nw.l from rfl,ib]at this;omega
  have bH:a.ws.l.length<=1000000000:=H_ z.ws X;have bZ:a.rs.l.length<=1000000000:=H_ z.rs X;have dk:a.p.sm 100000000:=z.mono X;obtain⟨bd,off,aU,bt,bA,bW,bL⟩:=Cs.at_ Q ag;rw[aU];have bX:=O aU;have aj:=O (show rs.l.drop s=rs.l[s]::rs.l.drop (s+1) from W_ ag);generalize rs.l[s]=x at*;have aG:=(G_ [] wr).alloc<|.cells #[Y x.id,Y x.f,.bool x.v.r,Y x.v.n] 116;have df:w.heap.size+1+1+1<wr.heap.size:=r.lt;have e:=T_ wr 116 #[Y x.id,Y x.f,.bool x.v.r,Y x.v.n];go_upto_region 13 with fail;replace b:=b.hF aG;replace o:=o.hF aG;replace j:=j.hF aG;replace r:=r.hF aG;replace k:=k.hF aG;replace Q:=Cs.hF Q aG;replace B:=Cs.hF B aG;replace u:=u.trans aG;clear aG bt bA bW bL aU;obtain⟨cG,da⟩:=nm_<|wr.alloc<|.cells #[Y x.id,Y x.f,.bool x.v.r,Y x.v.n] 116;rw[<-da]at b o j r k Q B e u |-;clear da;generalize wr.heap.size=N at*;have W:=e.f_ 0;have af:=e.f_ 1;have ay:=e.f_ 2;have aS:=e.f_ 3
  go_cut [74] (λbv aX=>bv=.bool (nB a.p x)/\J [] cG aX)
  case first=>
   clear o j r Q B u aR aj cj z ht he hs hes bX ay aS dk aY;have bJ:=(zh (hY a.nw.l) x.id).1;have cF:=(sd a.ws.l x.id x.f).1;have bF:=(sd a.rs.l x.id x.f).1;have be:=O (show nB a.p x=decide (0<=jx (hY a.nw.l) x.id\/0<=cat a.ws.l x.id x.f\/0<=cat a.rs.l x.id x.f) from rfl);have bg:cG.cell? (Z w.heap.size 37)=some (.slice a.rs.A a.rs.l.length a.rs.c):=(b.f_ 37).trans rfl;have bM:cG.cell? (Z w.heap.size 38)=some (.slice a.ws.A a.ws.l.length a.ws.c):=(b.f_ 38).trans rfl;generalize di:jx (hY a.nw.l) x.id=bx at*;generalize cZ:cat a.ws.l x.id x.f=b9 at*;generalize dm:cat a.rs.l x.id x.f=xr at*;have ck:=O di;have cD:=O cZ;have co:=O dm;clear di cZ dm;clear bJ cF bF;by_cases bK:bx<0
   .by_cases aE:b9<0
    .by_cases cb:xr<0
     .skip;have a8:=O (show nB a.p x=false by rw[be.out];exact H4 X);clear be;have aV:(0<=bx)=False:=p_;have au:(0<=b9)=False:=p_;have bw:(0<=xr)=False:=p_;clear bK aE cb;refine wp_region_lit ?_;refine la b underlying53 ?_;iterate 2 ((try simp only[a_]);refine ij rfl gs_ ?_)
      try simp only[a_]
      refine nK rfl λy i=>?_;go_simp;(go_at_call 128;((with_reducible refine(pd a x.id _ k bj).mono ?_);rintro R a6⟨rfl,aG⟩;rw[ck.out];replace b:=b.hF aG;replace e:=e.hF aG;replace k:=k.hF aG;replace W:=e.f_ 0;replace af:=e.f_ 1;replace bg:a6.cell? (Z w.heap.size 37)=some (.slice a.rs.A a.rs.l.length a.rs.c):=(b.f_ 37).trans rfl;replace bM:a6.cell? (Z w.heap.size 38)=some (.slice a.ws.A a.ws.l.length a.ws.c):=(b.f_ 38).trans rfl));refine i.out _ _ ?_;clear i y;iterate 2 ((try simp only[a_]);refine ij (v:=.bool false) rfl gs_ ?_)
      iterate 6 ((try simp only[a_]);refine h8 rfl rfl rfl rfl rfl gs_ ?_)
      try simp only[a_]
      refine km rfl rfl rfl rfl rfl λy i=>?_;go_simp;(go_at_call_of 129 (Value.slice a.ws.A a.ws.l.length a.ws.c);((with_reducible refine(lX a.ws.A a.ws.c a.ws.l x.id x.f _ k.ws bH).mono ?_);rintro R aQ⟨rfl,aP⟩;rw[cD.out];replace b:=b.hF aP;replace e:=e.hF aP;replace k:=k.hF aP;replace W:=e.f_ 0;replace af:=e.f_ 1;replace bg:aQ.cell? (Z w.heap.size 37)=some (.slice a.rs.A a.rs.l.length a.rs.c):=(b.f_ 37).trans rfl;replace bM:aQ.cell? (Z w.heap.size 38)=some (.slice a.ws.A a.ws.l.length a.ws.c):=(b.f_ 38).trans rfl));refine i.out _ _ ?_;clear i y;try simp only[a_]
      refine h8 (v:=.bool false) rfl rfl rfl rfl rfl gs_ ?_;iterate 2 ((try simp only[a_]);refine ij (v:=.bool false) rfl gs_ ?_)
      iterate 6 ((try simp only[a_]);refine h8 rfl rfl rfl rfl rfl gs_ ?_)
      try simp only[a_]
      refine km rfl rfl rfl rfl rfl λy i=>?_;go_simp;(go_at_call_of 129 (Value.slice a.rs.A a.rs.l.length a.rs.c);((with_reducible refine(lX a.rs.A a.rs.c a.rs.l x.id x.f _ k.rs bZ).mono ?_);rintro R dq⟨rfl,ao⟩;rw[co.out]));refine i.out _ _ ?_;clear i y;try simp only[a_]
      refine h8 (v:=.bool false) rfl rfl rfl rfl rfl gs_ ?_;try simp only[a_]
      refine ij (v:=.bool false) rfl gs_ ?_;exact Mf
     skip;have a8:=O (show nB a.p x=true by rw[be.out];exact Hn X);clear be;have aV:(0<=bx)=False:=p_;have au:(0<=b9)=False:=p_;have bw:(0<=xr)=True:=p_;clear bK aE cb;refine wp_region_lit ?_;refine la b underlying53 ?_;iterate 2 ((try simp only[a_]);refine ij rfl gs_ ?_)
     try simp only[a_]
     refine nK rfl λy i=>?_;go_simp;(go_at_call 128;((with_reducible refine(pd a x.id _ k bj).mono ?_);rintro R a6⟨rfl,aG⟩;rw[ck.out];replace b:=b.hF aG;replace e:=e.hF aG;replace k:=k.hF aG;replace W:=e.f_ 0;replace af:=e.f_ 1;replace bg:a6.cell? (Z w.heap.size 37)=some (.slice a.rs.A a.rs.l.length a.rs.c):=(b.f_ 37).trans rfl;replace bM:a6.cell? (Z w.heap.size 38)=some (.slice a.ws.A a.ws.l.length a.ws.c):=(b.f_ 38).trans rfl));refine i.out _ _ ?_;clear i y;iterate 2 ((try simp only[a_]);refine ij (v:=.bool false) rfl gs_ ?_)
     iterate 6 ((try simp only[a_]);refine h8 rfl rfl rfl rfl rfl gs_ ?_)
     try simp only[a_]
     refine km rfl rfl rfl rfl rfl λy i=>?_;go_simp;(go_at_call_of 129 (Value.slice a.ws.A a.ws.l.length a.ws.c);((with_reducible refine(lX a.ws.A a.ws.c a.ws.l x.id x.f _ k.ws bH).mono ?_);rintro R aQ⟨rfl,aP⟩;rw[cD.out];replace b:=b.hF aP;replace e:=e.hF aP;replace k:=k.hF aP;replace W:=e.f_ 0;replace af:=e.f_ 1;replace bg:aQ.cell? (Z w.heap.size 37)=some (.slice a.rs.A a.rs.l.length a.rs.c):=(b.f_ 37).trans rfl;replace bM:aQ.cell? (Z w.heap.size 38)=some (.slice a.ws.A a.ws.l.length a.ws.c):=(b.f_ 38).trans rfl));refine i.out _ _ ?_;clear i y;try simp only[a_]
     refine h8 (v:=.bool false) rfl rfl rfl rfl rfl gs_ ?_;iterate 2 ((try simp only[a_]);refine ij (v:=.bool false) rfl gs_ ?_)
     iterate 6 ((try simp only[a_]);refine h8 rfl rfl rfl rfl rfl gs_ ?_)
     try simp only[a_]
     refine km rfl rfl rfl rfl rfl λy i=>?_;go_simp;(go_at_call_of 129 (Value.slice a.rs.A a.rs.l.length a.rs.c);((with_reducible refine(lX a.rs.A a.rs.c a.rs.l x.id x.f _ k.rs bZ).mono ?_);rintro R dq⟨rfl,ao⟩;rw[co.out]));refine i.out _ _ ?_;clear i y;try simp only[a_]
     refine h8 (v:=.bool true) rfl rfl rfl rfl rfl gs_ ?_;try simp only[a_]
     refine ij (v:=.bool true) rfl gs_ ?_;exact Mf
    skip;have a8:=O (show nB a.p x=true by rw[be.out];exact Hn X);clear be;have aV:(0<=bx)=False:=p_;have au:(0<=b9)=True:=p_;clear bK aE;refine wp_region_lit ?_;refine la b underlying53 ?_;iterate 2 ((try simp only[a_]);refine ij rfl gs_ ?_)
    try simp only[a_]
    refine nK rfl λy i=>?_;go_simp;(go_at_call 128;((with_reducible refine(pd a x.id _ k bj).mono ?_);rintro R a6⟨rfl,aG⟩;rw[ck.out];replace b:=b.hF aG;replace e:=e.hF aG;replace k:=k.hF aG;replace W:=e.f_ 0;replace af:=e.f_ 1;replace bg:a6.cell? (Z w.heap.size 37)=some (.slice a.rs.A a.rs.l.length a.rs.c):=(b.f_ 37).trans rfl;replace bM:a6.cell? (Z w.heap.size 38)=some (.slice a.ws.A a.ws.l.length a.ws.c):=(b.f_ 38).trans rfl));refine i.out _ _ ?_;clear i y;iterate 2 ((try simp only[a_]);refine ij (v:=.bool false) rfl gs_ ?_)
    iterate 6 ((try simp only[a_]);refine h8 rfl rfl rfl rfl rfl gs_ ?_)
    try simp only[a_]
    refine km rfl rfl rfl rfl rfl λy i=>?_;go_simp;(go_at_call_of 129 (Value.slice a.ws.A a.ws.l.length a.ws.c);((with_reducible refine(lX a.ws.A a.ws.c a.ws.l x.id x.f _ k.ws bH).mono ?_);rintro R aQ⟨rfl,aP⟩;rw[cD.out];replace b:=b.hF aP;replace e:=e.hF aP;replace k:=k.hF aP;replace W:=e.f_ 0;replace af:=e.f_ 1;replace bg:aQ.cell? (Z w.heap.size 37)=some (.slice a.rs.A a.rs.l.length a.rs.c):=(b.f_ 37).trans rfl;replace bM:aQ.cell? (Z w.heap.size 38)=some (.slice a.ws.A a.ws.l.length a.ws.c):=(b.f_ 38).trans rfl));refine i.out _ _ ?_;clear i y;try simp only[a_]
    refine h8 (v:=.bool true) rfl rfl rfl rfl rfl gs_ ?_;try simp only[a_]
    obtain⟨b0,E⟩:=nm_<|Value.bool true;refine ij (v:=b0) rfl (by(subst E;first|(go_simp;done)|(go_simp;with_reducible rfl))) ?_;try simp only[a_]
    refine ij (v:=b0) rfl (by(subst E;first|(go_simp;done)|(go_simp;with_reducible rfl))) ?_;try simp only[a_]
    refine iM (b':=true) rfl rfl rfl (by rw[E];rfl) rfl ?_;try simp only[a_]
    refine iM (b':=true) rfl rfl rfl (by rw[E];rfl) rfl ?_;try simp only[a_]
    refine iM (b':=true) rfl rfl rfl (by rw[E];rfl) rfl ?_;try simp only[a_]
    refine iM (b':=true) rfl rfl rfl (by rw[E];rfl) rfl ?_;try simp only[a_]
    refine iM (b':=true) rfl rfl rfl (by rw[E];rfl) rfl ?_;try simp only[a_]
    refine iM (b':=true) rfl rfl rfl (by rw[E];rfl) rfl ?_;try simp only[a_]
    refine iM (b':=true) rfl rfl rfl (by rw[E];rfl) rfl ?_;try simp only[a_]
    refine iM (b':=true) rfl rfl rfl (by rw[E];rfl) rfl ?_;try simp only[a_]
    refine ij (v:=.bool true) rfl (by(subst E;first|(go_simp;done)|(go_simp;with_reducible rfl))) ?_;try simp only[a_]
    refine wpList_nil ?_;go_wp2;go_meet;exact⟨jk a8.out.symm,aG.trans aP⟩
   skip;have a8:=O (show nB a.p x=true by rw[be.out];exact Hn X);clear be;have aV:(0<=bx)=True:=p_;clear bK;refine wp_region_lit ?_;refine la b underlying53 ?_;iterate 2 ((try simp only[a_]);refine ij rfl gs_ ?_)
   try simp only[a_]
   refine nK rfl λy i=>?_;go_simp;(go_at_call 128;((with_reducible refine(pd a x.id _ k bj).mono ?_);rintro R a6⟨rfl,aG⟩;rw[ck.out];replace b:=b.hF aG;replace e:=e.hF aG;replace k:=k.hF aG;replace W:=e.f_ 0;replace af:=e.f_ 1;replace bg:a6.cell? (Z w.heap.size 37)=some (.slice a.rs.A a.rs.l.length a.rs.c):=(b.f_ 37).trans rfl;replace bM:a6.cell? (Z w.heap.size 38)=some (.slice a.ws.A a.ws.l.length a.ws.c):=(b.f_ 38).trans rfl));refine i.out _ _ ?_;clear i y;try simp only[a_]
   refine ij (v:=.bool true) rfl gs_ ?_;try simp only[a_]
   obtain⟨b0,E⟩:=nm_<|Value.bool true;refine ij (v:=b0) rfl (by(subst E;first|(go_simp;done)|(go_simp;with_reducible rfl))) ?_;try simp only[a_]
   refine iM (b':=true) rfl rfl rfl (by rw[E];rfl) rfl ?_;try simp only[a_]
   refine iM (b':=true) rfl rfl rfl (by rw[E];rfl) rfl ?_;try simp only[a_]
   refine iM (b':=true) rfl rfl rfl (by rw[E];rfl) rfl ?_;try simp only[a_]
   refine iM (b':=true) rfl rfl rfl (by rw[E];rfl) rfl ?_;try simp only[a_]
   refine iM (b':=true) rfl rfl rfl (by rw[E];rfl) rfl ?_;try simp only[a_]
   refine iM (b':=true) rfl rfl rfl (by rw[E];rfl) rfl ?_;try simp only[a_]
   refine iM (b':=true) rfl rfl rfl (by rw[E];rfl) rfl ?_;try simp only[a_]
   refine iM (b':=true) rfl rfl rfl (by rw[E];rfl) rfl ?_;try simp only[a_]
   refine ij (v:=b0) rfl (by(subst E;first|(go_simp;done)|(go_simp;with_reducible rfl))) ?_;try simp only[a_]
   refine ij (v:=b0) rfl (by(subst E;first|(go_simp;done)|(go_simp;with_reducible rfl))) ?_;try simp only[a_]
   refine iM (b':=true) rfl rfl rfl (by rw[E];rfl) rfl ?_;try simp only[a_]
   refine iM (b':=true) rfl rfl rfl (by rw[E];rfl) rfl ?_;try simp only[a_]
   refine iM (b':=true) rfl rfl rfl (by rw[E];rfl) rfl ?_;try simp only[a_]
   refine iM (b':=true) rfl rfl rfl (by rw[E];rfl) rfl ?_;try simp only[a_]
   refine iM (b':=true) rfl rfl rfl (by rw[E];rfl) rfl ?_;try simp only[a_]
   refine iM (b':=true) rfl rfl rfl (by rw[E];rfl) rfl ?_;try simp only[a_]
   refine iM (b':=true) rfl rfl rfl (by rw[E];rfl) rfl ?_;try simp only[a_]
   refine iM (b':=true) rfl rfl rfl (by rw[E];rfl) rfl ?_;try simp only[a_]
   refine ij (v:=.bool true) rfl (by(subst E;first|(go_simp;done)|(go_simp;with_reducible rfl))) ?_;try simp only[a_]
   refine wpList_nil ?_;go_wp2;go_meet;exact⟨jk a8.out.symm,aG⟩
  obtain⟨rfl,E⟩:=hcut;replace b:=b.hF E;replace o:=o.hF E;replace j:=j.hF E;replace r:=r.hF E;replace e:=e.hF E;replace k:=k.hF E;replace Q:=Cs.hF Q E;replace B:=Cs.hF B E;replace u:=u.trans E;clear E W af ay aS;cases cc:nB a.p x with
  |true=>
   have be:=O cc;clear cc;go_wp2;go_roundw;exact⟨s+1,a,X,gn,b,o,j,r,k,(by have q:=Q;rw[bX.out]at q;exact q),B,by rw[aR.out,aj.out];exact yo be.out,z.mono X,u⟩;exact mz
  |false=>
   have be:=O cc;clear cc;have W:=e.f_ 0;have af:=e.f_ 1;have ay:=e.f_ 2;have aS:=e.f_ 3;have v0:=j.f_ 0;have bq:=yI a.ds.l x.id x.f;obtain⟨g,bz⟩:=mn_<|pk a.ds.l x.id x.f;rw[bz]at bq;have a7:=O bz;clear bz;rcases tT g bq.1 with rfl|⟨m,rfl⟩
   .skip;have HM:=O<|z7 (view:=hY l) (l:=rs.l.drop<|s+1) be.out (show pk a.p.ds x.id x.f<0 by show pk a.ds.l x.id x.f<0;rw[a7.out];decide);go_upto_region 18 with(first|(refine la b underlying53 ?_)|(go_at_call 130;((with_reducible refine(mf a x.id x.f k aY).mono ?_);rintro R a6⟨rfl,aG⟩;rw[a7.out];replace b:=b.hF aG;replace e:=e.hF aG;replace j:=j.hF aG;replace W:=e.f_ 0;replace af:=e.f_ 1;replace ay:=e.f_ 2;replace aS:=e.f_ 3;replace v0:=j.f_ 0)));have bg:a6.cell? (Z w.heap.size 37)=some (.slice a.rs.A a.rs.l.length a.rs.c):=(b.f_ 37).trans rfl;go_wp2_with ((go_at_call 98;((with_reducible refine(rX a.rs.A a.rs.c a.rs.l x (k.hF aG).rs bZ).mono ?_);unfold sU;rintro R V⟨av,bN,rfl,cr,em,C⟩;replace b:=b.hF C;have bg:=b.f_ 37;have cV:=b.hG 37)));have H:=aG.trans C;have F:=(G_ [w.heap.size] V).setCell (p:=(Z w.heap.size 37)) (.inl s_)<|.slice av (kc a.rs.l x).length bN;have cR:kV _ ({a with rs:=⟨av,bN,kc a.rs.l x⟩}:Tk):=((λq:kV V a=>(⟨q.gs,cr,q.ws,q.nw,q.nr,q.ds,q.ia,q.zi,em,q.wy,q.tX,q.sQ,q.qf⟩:kV V ({a with rs:=⟨av,bN,kc a.rs.l x⟩}:Tk)))<|k.hF H).iy b oz F;go_roundw;exact⟨s+1,({a with rs:=⟨av,bN,kc a.rs.l x⟩}:Tk),X,gn,b.hW 37 _,(o.hF H).gr F sd_,(j.hF C).gr F sd_,(r.hF H).gr F sd_,cR,(by have q:=Cs.iy (Cs.hF Q H) b I F;rw[bX.out]at q;exact q),Cs.iy (Cs.hF B H) b I F,by rw[aR.out,aj.out];exact HM.out,(za (view:=[]) z<|wS be.out (show pk a.p.ds x.id x.f<0 by show pk a.ds.l x.id x.f<0;rw[a7.out];decide)).mono X,(u.trans H).hJ F s_⟩;exact mz
   have cT:=O (show 0<=pk a.p.ds x.id x.f by show 0<=pk a.ds.l x.id x.f;rw[a7.out];omega);cases bn:jb a.p (hY l) x.id x.f with
   |none=>
    have bY:=O bn;clear bn;have aZ:Hid (record t.p (hY l) f.p=none):=O (by rw[cj.out,aR.out,aj.out,BK be.out cT.out bY.out]);go_upto_region 15 with(first|(refine la b underlying53 ?_)|(go_at_call 130;((with_reducible refine(mf a x.id x.f k aY).mono ?_);rintro R a6⟨rfl,aG⟩;rw[a7.out];replace b:=b.hF aG;replace e:=e.hF aG;replace j:=j.hF aG;replace W:=e.f_ 0;replace af:=e.f_ 1;replace ay:=e.f_ 2;replace aS:=e.f_ 3;replace v0:=j.f_ 0)));go_wp2_with (first|(refine la b underlying53 ?_)|(refine la j underlying35 ?_)|(go_at_call 131;((with_reducible refine(ve a A c l x.id x.f (k.hF aG) (h.hF<|u.trans aG) dk hl bY.out).mono ?_);unfold nC;rintro R V⟨t3,rfl,cQ,bB,C⟩;replace b:=b.hF C))|(refine k6 (t3.g_) b (Tk.one _) ?_;intro bh bT K)|(refine la bT underlying53 ?_)|(refine k6 (t3.g_) (((r.hF aG).hF C).gr K sd_) (Tk.one _) ?_;intro N0 az G));have ar:=(((u.trans aG).trans C).hJ K s_).hJ G p_;exact Mi
   |some P=>
    have bY:=O bn;clear bn;go_upto_region 15 with(first|(refine la b underlying53 ?_)|(go_at_call 130;((with_reducible refine(mf a x.id x.f k aY).mono ?_);rintro R a6⟨rfl,aG⟩;rw[a7.out];replace b:=b.hF aG;replace e:=e.hF aG;replace j:=j.hF aG;replace W:=e.f_ 0;replace af:=e.f_ 1;replace ay:=e.f_ 2;replace aS:=e.f_ 3;replace v0:=j.f_ 0)));go_wp2_with (first|(refine la b underlying53 ?_)|(refine la j underlying35 ?_)|(go_at_call 131;((with_reducible refine(tJ a A c l x.id x.f P (k.hF aG) (h.hF<|u.trans aG) dk hl bY.out).mono ?_);unfold nC;rintro R V⟨t3,rfl,cQ,bB,C⟩;replace b:=b.hF C))|(refine k6 (t3.g_) b (Tk.one _) ?_;intro bh bT K));have H:=aG.trans C;go_roundw;exact⟨s+1,t3,X,gn,bT,(o.hF H).gr K sd_,(j.hF C).gr K sd_,(r.hF H).gr K sd_,cQ.iy b oz K,(by have q:=Cs.iy (Cs.hF Q H) b I K;rw[bX.out]at q;exact q),Cs.iy (Cs.hF B H) b I K,by rw[aR.out,aj.out,z6 be.out cT.out bY.out,bB],by rw[bB];exact(qm z bY.out).mono X,(u.trans H).hJ K s_⟩;exact mz
 have aC:¬(s:Int)<(rs.l.length:Int):=X;have ca:=O (show jB (hY l) S.p rs.l=some a.p by rw[aR.out,Hd X];rfl);clear aR;replace z:=z.mono (show 1001000+2*s<=1003000 by omega);clear ag hk;have aK:a.nw.l.length<=1003000:=by have:=z.nw;rwa [show a.p.nw=hY a.nw.l from rfl,ib]at this
 have bV:f.nw.l.length<=1000:=by have:=hes.nw;rwa [show f.p.nw=hY f.nw.l from rfl,ib]at this
 have b5:f.ia.l.length<=1000:=hes.ia;go_wp2_with fail;clear aC;obtain⟨dr,c8,c3,c6,c7⟩:=info_parts infoOb;have ao:J [] wr wr.drew:=(G_ [] wr).drew;have bE:Sl wr.drew 56 2 a.nw.A a.nw.l.length (jw a.nw.l):=Sl.hF k.nw ao;have hbs:wr.heap.size<=wr.drew.heap.size:=I_ _;refine hS (λw'=>w'.cell? (Z w.heap.size 39)=some (.slice a.nw.A a.nw.l.length a.nw.c)/\w'.cell? (Z (w.heap.size+1+1) 36)=some (.slice f.nw.A f.nw.l.length f.nw.c)) 7 k_ ?_;refine m6 ⟨((b.hF ao).f_ 39).trans rfl,((o.hF ao).f_ 36).trans rfl⟩ λn=>?_;refine iC 0 n ?_;refine iC 3 n ?_;refine iC 1 n ?_;refine iC 4 n ?_;refine h4 2 λy i=>?_;refine qk rfl (.const<|n_) (.tmp 102) 33 rfl (wr.heap.size) 56 dr _ 2 32 underlying33 c8 c3 c6 c7 rfl I I none 0 0 [] rfl (i4 _ _ _ _) a.nw.A a.nw.l.length a.nw.c _ r_ bE (j9 _) X hbs ?_;intro aL aI T ce a2;simp only[U_,G0]at ce;rw[U_];have D:J [] wr T:=a2.gr [] wr (I_ _) ao;clear n;have n:T.cell? (Z w.heap.size 39)=some (.slice a.nw.A a.nw.l.length a.nw.c)/\T.cell? (Z (w.heap.size+1+1) 36)=some (.slice f.nw.A f.nw.l.length f.nw.c):=⟨((b.hF D).f_ 39).trans rfl,((o.hF D).f_ 36).trans rfl⟩;have bO:Sl T 56 2 f.nw.A f.nw.l.length (jw f.nw.l):=(he.hF<|u.trans D).nw;refine hZ i n λn=>?_;clear i y;refine h4 5 λy i=>?_;refine qk rfl (.tmp 103) (.tmp 105) 33 rfl (wr.heap.size) 56 dr _ 2 32 underlying33 c8 c3 c6 c7 rfl I I aL a.nw.l.length aI _ r_ ce f.nw.A f.nw.l.length f.nw.c _ r_ bO (j9 _) X D.size ?_;intro U E L b8 ch;have M:J [] wr L:=ch.gr [] wr (I_ _) D;clear n;have n:L.cell? (Z w.heap.size 39)=some (.slice a.nw.A a.nw.l.length a.nw.c)/\L.cell? (Z (w.heap.size+1+1) 36)=some (.slice f.nw.A f.nw.l.length f.nw.c):=⟨((b.hF M).f_ 39).trans rfl,((o.hF M).f_ 36).trans rfl⟩;have cS:=n.1;have cM:=(b.hF M).hG 39;refine hZ i n λn=>?_;clear i y;refine h4 6 λy i=>?_;go_simp;refine hZ i n λn=>?_;clear i y;refine h4 7 λy i=>?_;go_simp;refine i.out _ _ (λh=>GR h I) ?_;clear i y;try simp only[a_]
 refine hN k_ ?_ _;obtain⟨tn,cy⟩:=nm_<|{a with nw:=⟨U,E,a.nw.l++f.nw.l⟩};have iS:(a.nw.l++f.nw.l).length=a.nw.l.length+f.nw.l.length:=M_;have aW:=b.hF M;have ai:=aW.hW 39<|.slice U (a.nw.l.length+f.nw.l.length) E;have ax:tn.g_=a.g_.setIfInBounds 39 (.slice U (a.nw.l.length+f.nw.l.length) E):=by rw[cy,<-iS];rfl
 rw[<-ax]at ai;have F:=(G_ [w.heap.size] L).setCell (p:=(Z w.heap.size 39)) (.inl s_)<|.slice U (a.nw.l.length+f.nw.l.length) E;have cq:=Sl.iZ b8;rw[<-iS]at cq;replace o:=(o.hF M).gr F sd_;replace j:=(j.hF M).gr F sd_;replace r:=(r.hF M).gr F sd_;replace B:=Cs.iy (Cs.hF B M) aW I F;have b7:kV (L.setCell (Z w.heap.size 39)<|.slice U (a.nw.l.length+f.nw.l.length) E) tn:=by
  have q:=k.hF M;have bj:=he.hF<|u.trans M;have bH:Os L U (a.nw.l++f.nw.l):=by unfold Os;rw[mY];exact cq
  have bZ:kV L tn:=by rw[cy];exact⟨q.gs,q.rs,q.ws,bH,λci hr=>(X_.1 hr).elim (q.nr ci)<|bj.nr ci,q.ds,q.ia,q.zi,q.ll,q.wy,(by show(a.nw.l++f.nw.l).length<=E;rw[iS];exact jq b8),q.sQ,q.qf⟩
  exact bZ.iy aW oz F
 have cC:=O (show tn.p={a.p with nw:=a.p.nw++hY f.nw.l} by rw[cy];show({a.p with nw:=hY (a.nw.l++f.nw.l)}:iP)=_;unfold hY;rw[GN];rfl);have cl:tn.p.sm 1004000:=by
  rw[cC.out];exact⟨H_ z.gs I,H_ z.rs I,H_ z.ws I,(by have:=z.nw;have:=hes.nw;show(a.p.nw++f.p.nw).length<=_;rw[M_];omega),H_ z.ds I,H_ z.ia I⟩
 replace u:=(u.trans M).hJ F s_;obtain⟨b4,bQ⟩:=nm_<|L.setCell (Z w.heap.size 39)<|.slice U (a.nw.l.length+f.nw.l.length) E;rw[<-bQ]at ai b7 o j r B u |-;clear bQ;clear b aW ax F cq D M ce b8 a2 ch n cS cM bE bO hbs ao cy k Q;have b:=ai;clear ai
 have cz:Hid (record t.p (hY l) f.p=(match j6 (hY l) tn.p ws.l with
  |none=>none
  |some bd=>some {bd with ia:=bd.ia++f.ia.l})):=O (by have q:=cj.out;rw[ca.out]at q;rw[cC.out];exact q)
 clear cj ca cC;have cA:b4.cell? (Z (w.heap.size+1+1) 35)=some (.slice ws.A ws.l.length ws.c):=(o.f_ 35).trans rfl;go_wp2;go_loopw [111] (λaA wr=>∃(s:Nat) (t3:Tk),s<=ws.l.length/\aA=Y s/\Bk wr (w.heap.size) 53 t3.g_/\Bk wr (w.heap.size+1+1) 134 ({f with rs:=rs,ws:=ws}:Ef).g_/\Bk wr (w.heap.size+1) 35 #[.slice A l.length c]/\Bk wr (w.heap.size+1+1+1) 53 ks/\kV wr t3/\Cs wr ws.A ws.l/\j6 (hY l) tn.p ws.l=j6 (hY l) t3.p (ws.l.drop s)/\t3.p.sm (1004000+3*s)/\J [] w wr) (λaA _=>ws.l.length-(intOf aA).toNat)
 case atStart=>exact⟨0,tn,R_ _,rfl,b,o,j,r,b7,B,rfl,cl.mono X,u⟩
 clear b o j r b7 B u cA cl z;obtain⟨s,a,hk,rfl,b,o,j,r,k,B,bu,z,u⟩:=hrel;have aR:=O bu;clear bu;by_cases ag:s<ws.l.length
 .have aC:(s:Int)<(ws.l.length:Int):=X;have aY:a.ds.l.length<=1000000000:=H_ z.ds X;have bj:a.nw.l.length<=1000000000:=by have:=z.nw;rw[show a.p.nw=hY a.nw.l from rfl,ib]at this;omega
  have bH:a.ws.l.length<=1000000000:=H_ z.ws X;have bZ:a.rs.l.length<=1000000000:=H_ z.rs X;have dk:a.p.sm 100000000:=z.mono X;obtain⟨bd,off,aU,bt,bA,bW,bL⟩:=Cs.at_ B ag;rw[aU];have bX:=O aU;have aj:=O (show ws.l.drop s=ws.l[s]::ws.l.drop (s+1) from W_ ag);generalize ws.l[s]=x at*;have aG:=(G_ [] wr).alloc<|.cells #[Y x.id,Y x.f,.bool x.v.r,Y x.v.n] 116;have df:w.heap.size+1+1+1<wr.heap.size:=r.lt;have e:=T_ wr 116 #[Y x.id,Y x.f,.bool x.v.r,Y x.v.n];go_upto_region 24 with fail;replace b:=b.hF aG;replace o:=o.hF aG;replace j:=j.hF aG;replace r:=r.hF aG;replace k:=k.hF aG;replace B:=Cs.hF B aG;replace u:=u.trans aG;clear aG bt bA bW bL aU;obtain⟨dy,db⟩:=nm_<|wr.alloc<|.cells #[Y x.id,Y x.f,.bool x.v.r,Y x.v.n] 116;rw[<-db]at b o j r k B e u |-;clear db;generalize wr.heap.size=N at*;have W:=e.f_ 0;have af:=e.f_ 1;have ay:=e.f_ 2;have aS:=e.f_ 3;have v0:=j.f_ 0
  cases bn:jb a.p (hY l) x.id x.f with
  |none=>
   have bY:=O bn;clear bn;have aZ:Hid (record t.p (hY l) f.p=none):=O (by rw[cz.out,aR.out,aj.out,BJ bY.out]);go_wp2_with (first|(refine la b underlying53 ?_)|(refine la j underlying35 ?_)|(go_at_call 131;((with_reducible refine(ve a A c l x.id x.f k (h.hF u) dk hl bY.out).mono ?_);unfold nC;rintro R V⟨t3,rfl,cQ,bB,C⟩;replace b:=b.hF C))|(refine k6 (t3.g_) b (Tk.one _) ?_;intro bh bT K)|(refine la bT underlying53 ?_)|(refine k6 (t3.g_) ((r.hF C).gr K sd_) (Tk.one _) ?_;intro N0 az G));have ar:=((u.trans C).hJ K s_).hJ G p_;exact Mi
  |some P=>
   have bY:=O bn;clear bn;go_upto_region 27 with(first|(refine la b underlying53 ?_)|(refine la j underlying35 ?_)|(go_at_call 131;((with_reducible refine(tJ a A c l x.id x.f P k (h.hF u) dk hl bY.out).mono ?_);unfold nC;rintro R V⟨t3,rfl,cQ,bB,C⟩;replace b:=b.hF C))|(refine k6 (t3.g_) b (Tk.one _) ?_;intro bh bT K));replace o:=(o.hF C).gr K sd_;replace j:=(j.hF C).gr K sd_;replace r:=(r.hF C).gr K sd_;replace e:=(e.hF C).gr K sd_;replace B:=Cs.iy (Cs.hF B C) b I K;replace cQ:=cQ.iy b oz K;replace u:=(u.trans C).hJ K s_;have aw:=O bB;have cJ:t3.p.sm (1004000+3*s+2):=by rw[bB];exact qm z bY.out
   have r2:t3.nw.l.length<=1000000000:=by have:=cJ.nw;rw[show t3.p.nw=hY t3.nw.l from rfl,ib]at this;omega
   have r3:t3.ws.l.length<=1000000000:=H_ cJ.ws X;clear b C K bB W af ay aS;have b:=bT;clear bT;have W:=e.f_ 0;have af:=e.f_ 1;have ay:=e.f_ 2;have aS:=e.f_ 3;go_wp2_with (first|(refine la b underlying53 ?_)|(go_at_call 132;((with_reducible refine(si t3 x cQ r2 r3).mono ?_);unfold uv;rintro R NY⟨t4,rfl,cR,aM,ah⟩;replace b:=b.hF ah))|(refine k6 (t4.g_) b (Tk.one _) ?_;intro T bp D));go_roundw;exact⟨s+1,t4,X,gn,bp,(o.hF ah).gr D sd_,(j.hF ah).gr D sd_,(r.hF ah).gr D sd_,cR.iy b oz D,(by have q:=Cs.iy (Cs.hF B ah) b I D;rw[bX.out]at q;exact q),by rw[aR.out,aj.out,z2 bY.out,aM,aw.out],by rw[aM];exact(rR cJ x).mono X,(u.trans ah).hJ D s_⟩;exact mz
 have aC:¬(s:Int)<(ws.l.length:Int):=X;have cg:=O (show j6 (hY l) tn.p ws.l=some a.p by rw[aR.out,Hd X];rfl);clear aR;replace z:=z.mono (show 1004000+3*s<=1007000 by omega);have dj:a.ia.l.length<=1007000:=z.ia;clear ag hk;go_wp2_with fail;clear aC;obtain⟨dn,cY,cU,cW,cX⟩:=info_parts infoAc;have ao:J [] wr wr.drew:=(G_ [] wr).drew;have bE:Sl wr.drew 162 3 a.ia.A a.ia.l.length ((a.ia.l).flatMap Ac.E):=Sl.hF k.ia ao;have hbs:wr.heap.size<=wr.drew.heap.size:=I_ _;refine hS (λw'=>w'.cell? (Z w.heap.size 41)=some (.slice a.ia.A a.ia.l.length a.ia.c)/\w'.cell? (Z (w.heap.size+1+1) 38)=some (.slice f.ia.A f.ia.l.length f.ia.c)) 7 k_ ?_;refine m6 ⟨((b.hF ao).f_ 41).trans rfl,((o.hF ao).f_ 38).trans rfl⟩ λn=>?_;refine iC 0 n ?_;refine iC 3 n ?_;refine iC 1 n ?_;refine iC 4 n ?_;refine h4 2 λy i=>?_;refine qk rfl (.const<|n_) (.tmp 133) 36 rfl (wr.heap.size) 162 dn _ 3 24 underlying36 cY cU cW cX rfl I I none 0 0 [] rfl (i4 _ _ _ _) a.ia.A a.ia.l.length a.ia.c _ r_ bE (ut) X hbs ?_;intro aL aI T ce a2;simp only[U_,G0]at ce;rw[U_];have D:J [] wr T:=a2.gr [] wr (I_ _) ao;clear n;have n:T.cell? (Z w.heap.size 41)=some (.slice a.ia.A a.ia.l.length a.ia.c)/\T.cell? (Z (w.heap.size+1+1) 38)=some (.slice f.ia.A f.ia.l.length f.ia.c):=⟨((b.hF D).f_ 41).trans rfl,((o.hF D).f_ 38).trans rfl⟩;have bO:Sl T 162 3 f.ia.A f.ia.l.length ((f.ia.l).flatMap Ac.E):=(he.hF<|u.trans D).ia;refine hZ i n λn=>?_;clear i y;refine h4 5 λy i=>?_;refine qk rfl (.tmp 134) (.tmp 136) 36 rfl (wr.heap.size) 162 dn _ 3 24 underlying36 cY cU cW cX rfl I I aL a.ia.l.length aI _ r_ ce f.ia.A f.ia.l.length f.ia.c _ r_ bO (ut) X D.size ?_;intro U E L b8 ch;have M:J [] wr L:=ch.gr [] wr (I_ _) D;clear n;have n:L.cell? (Z w.heap.size 41)=some (.slice a.ia.A a.ia.l.length a.ia.c)/\L.cell? (Z (w.heap.size+1+1) 38)=some (.slice f.ia.A f.ia.l.length f.ia.c):=⟨((b.hF M).f_ 41).trans rfl,((o.hF M).f_ 38).trans rfl⟩;have cS:=n.1;have cM:=(b.hF M).hG 41;refine hZ i n λn=>?_;clear i y;refine h4 6 λy i=>?_;go_simp;refine hZ i n λn=>?_;clear i y;refine h4 7 λy i=>?_;go_simp;refine i.out _ _ (λh=>GR h I) ?_;clear i y;try simp only[a_]
 refine hN k_ ?_ _;obtain⟨tf,cx⟩:=nm_<|{a with ia:=⟨U,E,a.ia.l++f.ia.l⟩};have iS:(a.ia.l++f.ia.l).length=a.ia.l.length+f.ia.l.length:=M_;have aW:=b.hF M;have ai:=aW.hW 41<|.slice U (a.ia.l.length+f.ia.l.length) E;have ax:tf.g_=a.g_.setIfInBounds 41 (.slice U (a.ia.l.length+f.ia.l.length) E):=by rw[cx,<-iS];rfl
 rw[<-ax]at ai;have F:=(G_ [w.heap.size] L).setCell (p:=(Z w.heap.size 41)) (.inl s_)<|.slice U (a.ia.l.length+f.ia.l.length) E;have cq:=Sl.iZ b8;rw[<-iS]at cq;replace o:=(o.hF M).gr F sd_;replace j:=(j.hF M).gr F sd_;replace r:=(r.hF M).gr F sd_;replace B:=Cs.iy (Cs.hF B M) aW I F;have dg:kV (L.setCell (Z w.heap.size 41)<|.slice U (a.ia.l.length+f.ia.l.length) E) tf:=by
  have q:=k.hF M;have bH:As L U (a.ia.l++f.ia.l):=by unfold As;rw[He];exact cq
  have bZ:kV L tf:=by rw[cx];exact⟨q.gs,q.rs,q.ws,q.nw,q.nr,q.ds,bH,q.zi,q.ll,q.wy,q.tX,q.sQ,(by show(a.ia.l++f.ia.l).length<=E;rw[iS];exact jq b8)⟩
  exact bZ.iy aW oz F
 have cn:=O (show record t.p (hY l) f.p=some tf.p by rw[cz.out,cg.out,cx];rfl);replace u:=(u.trans M).hJ F s_;obtain⟨bo,bR⟩:=nm_<|L.setCell (Z w.heap.size 41)<|.slice U (a.ia.l.length+f.ia.l.length) E;rw[<-bR]at ai dg o j r B u |-;clear bR;clear b aW ax F cq D M ce b8 a2 ch n cS cM bE hbs ao cx k cz cg
 go_wp2_with (first|(refine la ai underlying53 ?_)|(refine k6 (tf.g_) r (Tk.one _) ?_;intro N0 az G));have ar:=u.hJ G p_;exact me tf.g_ (.bool true) az underlying53 (by rw[cn.out];exact⟨tf,rfl,ar,λP h=>by injection h with h;subst h;exact⟨dg.iy r oz G,rfl⟩⟩)
def J.jT{a b c:World}(h:J [] a b)(k:J [g] b c)(f:a.heap.size<=g):J [] a c:=h.hJ k (λx e=>.inr<|by rw[J_]at e;rw[e];exact f)
def xD(g:Cl):(j0 rs h g).length=h.length:=by
 unfold j0;split;exact j1 _ _;rfl
def xB(a:QV)(h:QQ):(a.foldl (j0 rs) h).length=h.length:=by
 induction a generalizing h with
 |nil=>rfl
 |cons g a b=>rw[H7,b,xD]
def x1(t:iP)(view:QQ):(iR t view).length<=view.length+t.nw.length:=by
 unfold iR before;rw[od,j1];have:=o7 t.nw<|iL (t.gs.foldl (j0 t.rs) view) t.rs;rw[j1,xB]at this;exact this
def mx(t:Tk):∀a,a<33->t.g_[3+a]?=(iE t.pc t.r)[a]?
 |0,_=>rfl
 |1,_=>rfl
 |2,_=>rfl
 |3,_=>rfl
 |4,_=>rfl
 |5,_=>rfl
 |6,_=>rfl
 |7,_=>rfl
 |8,_=>rfl
 |9,_=>rfl
 |10,_=>rfl
 |11,_=>rfl
 |12,_=>rfl
 |13,_=>rfl
 |14,_=>rfl
 |15,_=>rfl
 |16,_=>rfl
 |17,_=>rfl
 |18,_=>rfl
 |19,_=>rfl
 |20,_=>rfl
 |21,_=>rfl
 |22,_=>rfl
 |23,_=>rfl
 |24,_=>rfl
 |25,_=>rfl
 |26,_=>rfl
 |27,_=>rfl
 |28,_=>rfl
 |29,_=>rfl
 |30,_=>rfl
 |31,_=>rfl
 |32,_=>rfl
 |n+33,h=>GR h X
def Ci(t:Ef):∀a,a<33->t.g_[1+a]?=(iE t.pc t.r)[a]?
 |0,_=>rfl
 |1,_=>rfl
 |2,_=>rfl
 |3,_=>rfl
 |4,_=>rfl
 |5,_=>rfl
 |6,_=>rfl
 |7,_=>rfl
 |8,_=>rfl
 |9,_=>rfl
 |10,_=>rfl
 |11,_=>rfl
 |12,_=>rfl
 |13,_=>rfl
 |14,_=>rfl
 |15,_=>rfl
 |16,_=>rfl
 |17,_=>rfl
 |18,_=>rfl
 |19,_=>rfl
 |20,_=>rfl
 |21,_=>rfl
 |22,_=>rfl
 |23,_=>rfl
 |24,_=>rfl
 |25,_=>rfl
 |26,_=>rfl
 |27,_=>rfl
 |28,_=>rfl
 |29,_=>rfl
 |30,_=>rfl
 |31,_=>rfl
 |32,_=>rfl
 |n+33,h=>GR h X
def uY(t:Tk)(pc:Int)(r:Nat->Vl):vN t.g_ 3 (iE pc r).toList=({t with pc:=pc,r:=r}:Tk).g_:=rfl
def kV.of{t t':Tk}(h:kV w t)(f:t'.gs=t.gs)(i:t'.rs=t.rs)(j:t'.ws=t.ws)(a:t'.nw=t.nw)(e:t'.ds=t.ds)(b:t'.ia=t.ia):kV w t':=
 ⟨by rw[f];exact h.gs,by rw[i];exact h.rs,by rw[j];exact h.ws,by rw[a];exact h.nw,by rw[a];exact h.nr,by rw[e];exact h.ds,by rw[b];exact h.ia,by rw[f];exact h.zi,by rw[i];exact h.ll,by rw[j];exact h.wy,by rw[a];exact h.tX,by rw[e];exact h.sQ,by rw[b];exact h.qf⟩
end
variable{G:Prop}
def JL(h:G:=by
 go_wp2_with (first|(go_at_call 82;have ad:=pn B cb d f.kw (hD.hF aF) hd;rw[bU]at ad;refine ad.mono ?_;rintro e a6⟨rfl,aG⟩;have cG:a6.cell? (Z gx 47)=some (Y<|x.hK+1):=((NZ.hF aG).f_ 47).trans rfl;have U:=(T.hF aG).f_ 0;have af:=(T.hF aG).f_ 1;have ay:=(T.hF aG).f_ 2;have aC:a6.cell? (Z aV 1)=some (Y f.pc):=((b.hF aG).f_ 1).trans rfl)|(go_at_call 83;have ad:=lH A c l hH hC f.pc (N.hF<|aF.trans aG) hn;rw[has]at ad;refine ad.mono ?_;rintro e aQ⟨rfl,aP⟩));go_meet;exact⟨jk a8.out.symm,aG.trans aP⟩):G:=h
def JY(h:G:=by
 go_wp2_with (go_at_call 82;have ad:=pn B cb d f.kw (hD.hF aF) hd;rw[bU]at ad;refine ad.mono ?_;rintro e a6⟨rfl,aG⟩;have cG:a6.cell? (Z gx 47)=some (Y<|x.hK+1):=((NZ.hF aG).f_ 47).trans rfl;have U:=(T.hF aG).f_ 0;have af:=(T.hF aG).f_ 1;have ay:=(T.hF aG).f_ 2;have aC:a6.cell? (Z aV 1)=some (Y f.pc):=((b.hF aG).f_ 1).trans rfl);go_meet;exact⟨jk a8.out.symm,aG⟩):G:=h
def J3(h:G:=by
 have aE:J [] R N0:=b5.jT G h;clear C;refine hZ H ⟨λj _=>by rw[U_];exact(u.hF aE).f_ j,λj hj=>by rw[(a.hF aE).f_];exact mx t j hj,λj _=>by rw[U_];exact(a.hF aE).f_ j,((a.hF aE).f_ 1).trans rfl,((a.hF aE).f_ 39).trans rfl,(s.hF aE).f_ 0⟩ λC=>?_;clear H K;refine hN k_ ?_ _;go_wp2;go_meet;exact⟨_,f,rfl,bz,h,p6 b0 ck G,av,aE⟩):G:=h
def Lc(h:G:=by
 refine⟨?_,?_,?_⟩;intro he;exact GR (he▸h)<|Hx.2<|u.lt;intro he;exact GR (he▸h)<|Hx.2<|a.lt;intro he;exact GR (he▸h)<|Hx.2<|s.lt):G:=h
def M3(h:G:=by
 have h1:=u.lt;have h2:=k.lt;have h3:=i.lt;have ar:=W.lt;have au:=ah.size;omega):G:=h
def rS(A:OA)(c:Nat)(l:QR)(hH hC:Int)(B:OA)(cb:Nat)(d:QS)(t:Tk)(aL:OA)(vc:Nat)(o:QT)(w:World)(N:Is w A l)(hn:l.length<=1000000000)(hD:Ns w 3 B d)(hd:d.length<=1000000000)(ht:kV w t)(hv:mh w aL vc o)(bD:rz l hH hC d=true)(hs:t.h5=0)(am:t.p.sm 500000)(b9:o.length<=99999999)(ca: -1<=t.pc)(br:t.pc<=1000000)(bF:0<=t.run)(bB:t.run<=1099511627776)(cw:0<=t.hK)(b6:t.hK<=1000000):
 Calls prog 39 #[.agg #[.slice A l.length c,Y hH,Y hC],.agg #[.slice B d.length cb],.agg t.g_,.agg #[.slice aL o.length vc]] w (lp (iT l hH hC d t.p<|hY o) 0 w):=by
 obtain⟨g,hE⟩:=mn_<|kR l hH hC t.pc t.r (iR t.p<|hY o)<|(t.run+1)*1048576+t.nw.l.length;have cD:g.sm 100:=hE▸(s7 _ _ _ _ _ _ _).mono I;have bX:=O hE;have bI:Hid (iT l hH hC d t.p (hY o)=if g.h7=4 then nE t.p else
  if g.h7=3 then{t.p with h5:=1,next:=t.p.pc+1} else
  match record t.p (hY o) g with
  |none=>nE t.p
  |some x=>
   if g.h7=2 then{x with pc:=g.pc,r:=g.r,hK:=x.hK+1,h5:=3,hX:=g.hX,v:=g.v}
   else if g.h7=1/\(i7 (λz=>z==g.kw) d=true\/64<=x.hK+1\/jI l hH hC g.pc=true) then{x with pc:=g.pc,r:=g.r,hK:=x.hK+1,h5:=2,next:=g.pc}
   else{x with pc:=g.pc,r:=g.r,hK:=x.hK+1}):=O (by
   have y:t.p.nw.length=t.nw.l.length:=ib _;have n:kR l hH hC t.p.pc t.p.r (iR t.p<|hY o) ((t.p.run+1)*1048576+t.p.nw.length)=g:=by rw[y];exact hE
   unfold iT;rw[n];rfl)
 clear hE;have bJ:o.length+t.nw.l.length<=999999999:=by have:=am.nw;have e:t.p.nw.length=t.nw.l.length:=ib _;omega
 have bK:t.ws.l.length<=1000000000:=H_ am.ws I;have de:t.ds.l.length<=1000000000:=H_ am.ds I;have df:t.gs.l.length<=1000000000:=H_ am.gs I;have al:t.rs.l.length<=1000000000:=H_ am.rs I;have cK:(iR t.p<|hY o).length<=1000000000:=by
  have h1:=x1 t.p<|hY o;have h2:=am.nw;rw[ib]at h1;omega
 have cX:t.nw.l.length<=500000:=by have:=am.nw;have e:t.p.nw.length=t.nw.l.length:=ib _;omega
 obtain⟨u,k,a,s,i,m⟩:=Gh w 26 #[.slice A l.length c,Y hH,Y hC] 32 #[.slice B d.length cb] 53 t.g_ 35 #[.slice aL o.length vc] 53 ks;go_enter func39,ntmps39;go_upto_region 1 with fail;obtain⟨bw,an⟩:=nm_<|((((w.alloc<|.cells #[.slice A l.length c,Y hH,Y hC] 26).alloc<|.cells #[.slice B d.length cb] 32).alloc<|.cells t.g_ 53).alloc<|.cells #[.slice aL o.length vc] 35).alloc<|.cells ks 53;rw[<-an]at u k a s i m |-;clear an;obtain⟨aA,bN⟩:=nm_ w.heap.size;obtain⟨ak,ao⟩:=nm_<|w.heap.size+1;obtain⟨gt,aw⟩:=nm_<|w.heap.size+1+1;obtain⟨bd,aN⟩:=nm_<|w.heap.size+1+1+1;obtain⟨gr,bf⟩:=nm_<|w.heap.size+1+1+1+1;rw[<-bf]at i;rw[<-aN]at s;rw[<-aw]at a;rw[<-ao]at k;rw[<-bN]at u;rw[<-bf,<-aN,<-aw,<-ao,<-bN];have a2:w.heap.size<=gr:=X;have cO:w.heap.size<=gt:=X;have aq:aA≠gt/\ak≠gt/\bd≠gt/\gr≠gt/\aA≠gr/\ak≠gr/\bd≠gr:=X;clear bN ao aw aN bf;have U:=u.f_ 0;have af:=u.f_ 1;have ay:=u.f_ 2;have aR:=k.f_ 0;have cj:bw.cell? (Z gt 42)=some (Y 0):=(a.f_ 42).trans<|GG (λbh=>some<|Value.int .i64 bh) hs
 go_upto_region 5 with(go_at_call 77;have ad:=wA A B c cb l hH hC d (N.hF m) hn (hD.hF m) hd;rw[bD]at ad;refine ad.mono ?_;rintro e w1⟨rfl,hg1⟩;replace cj:w1.cell? (Z gt 42)=some (Y 0):=((a.hF hg1).f_ 42).trans<|GG (λbh=>some<|Value.int .i64 bh) hs);replace u:=u.hF hg1.drew;replace k:=k.hF hg1.drew;replace a:=a.hF hg1.drew;replace s:=s.hF hg1.drew;replace i:=i.hF hg1.drew;replace m:=m.trans hg1.drew;clear hg1 cj U af ay aR;obtain⟨R,b7⟩:=nm_ w1.drew;rw[<-b7]at u k a s i m;go_cut [10] (λp aX=>∃(aV:Nat) (f:Ef),p=q_ aV/\Bk aX aV 134 f.g_/\R.heap.size<=aV/\tk aX f/\f.p=g/\J [] R aX)
 case first=>
  refine hS (λw'=>(∀j,j<3->w'.cell? (Z aA<|0+j)=(#[.slice A l.length c,Y hH,Y hC]:Array Value)[j]?)/\(∀j,j<33->w'.cell? (Z gt<|3+j)=(iE t.pc t.r)[j]?)/\(∀j,j<48->w'.cell? (Z gt<|0+j)=t.g_[j]?)/\w'.cell? (Z gt 1)=some (Y t.run)/\w'.cell? (Z gt 39)=some (.slice t.nw.A t.nw.l.length t.nw.c)/\w'.cell? (Z bd 0)=some (.slice aL o.length vc)) 17 k_ ?_;rw[<-b7];clear b7;refine m6 ⟨λj _=>by rw[U_];exact u.f_ j,λj hj=>by rw[a.f_];exact mx t j hj,λj _=>by rw[U_];exact a.f_ j,(a.f_ 1).trans rfl,(a.f_ 39).trans rfl,s.f_ 0⟩ λC=>?_;refine iC 0 (v:=.agg #[.slice A l.length c,Y hH,Y hC]) C ?_ (hy:=(Or.inl ⟨r_,λw' aZ=>jA 26 rfl aA 0 r_ (λj hj=>aZ.1 j hj) underlying26 rfl k_⟩));refine iC 1 C ?_;refine iC 2 (v:=.agg<|iE t.pc t.r) C ?_ (hy:=(Or.inl ⟨r_,λw' aZ=>jA 49 rfl gt 3 r_ (λj hj=>aZ.2.1 j hj) underlying49 rfl k_⟩));refine iC 3 (v:=.agg t.g_) C ?_ (hy:=(Or.inl ⟨r_,λw' aZ=>jA 53 rfl gt 0 r_ (λj hj=>aZ.2.2.1 j hj) underlying53 rfl k_⟩));refine iC 4 C ?_;refine iC 6 C ?_;refine iC 7 C ?_;refine iC 8 C ?_;refine iC 9 (v:=Y<|(t.run+1)*1048576) C ?_ (hy:=(Or.inl ⟨r_,(by intro w' aZ;go_simp;rw[Ic,Ic];omega)⟩));refine iC 10 C ?_;refine iC 11 C ?_;refine iC 12 C ?_;refine iC 13 (v:=Y<|(t.run+1)*1048576+t.nw.l.length) C ?_ (hy:=(Or.inl ⟨r_,(by intro w' aZ;go_simp;rw[Ic];omega)⟩));refine js 5 15 rfl rfl k_ (λK H=>?_) λK H=>?_
  .go_simp;have S:J [] w R:=m;(go_at_call 79;((with_reducible refine(pH t aL vc o (ht.hF S) (hv.hF S) bJ bK de df al).mono ?_);unfold lO;rintro e E⟨hA,hc,hl,rfl,cF,P,N3⟩));have D:J [] R E:=N3;clear C;refine hZ H ⟨λj _=>by rw[U_];exact(u.hF D).f_ j,λj hj=>by rw[(a.hF D).f_];exact mx t j hj,λj _=>by rw[U_];exact(a.hF D).f_ j,((a.hF D).f_ 1).trans rfl,((a.hF D).f_ 39).trans rfl,(s.hF D).f_ 0⟩ λC=>?_;clear H K;refine js 14 15 rfl rfl k_ (λK H=>?_) (λK H=>?_)
   .go_simp;have V:=cF;have bi:J [] w E:=m.trans D;have bR:=V;(go_at_call 78;have ad:=qq A c l hH hC t.pc ((t.run+1)*1048576+t.nw.l.length) t.r hA hc hl (N.hF bi) hn bR (by rw[<-ib,P];exact cK) X;rw[P]at ad;have L:=ad;rw[bX.out]at L;refine L.mono ?_;unfold xN;rintro e F⟨f,rfl,ag,av,M⟩);have y:J [] R F:=D.trans M;clear C;refine hZ H ⟨λj _=>by rw[U_];exact(u.hF y).f_ j,λj hj=>by rw[(a.hF y).f_];exact mx t j hj,λj _=>by rw[U_];exact(a.hF y).f_ j,((a.hF y).f_ 1).trans rfl,((a.hF y).f_ 39).trans rfl,(s.hF y).f_ 0⟩ λC=>?_;clear H K;refine h4 15 λK H=>?_;go_simp;have n:J [] R (F.alloc<|.cells uy 134):=y.alloc _;have Q:=T_ F 134 uy;have b0:=ag.hF<|(G_ [] F).alloc<|.cells uy 134;have b5:=n;have h:R.heap.size<=F.heap.size:=y.size;clear C;refine hZ H ⟨λj _=>by rw[U_];exact(u.hF n).f_ j,λj hj=>by rw[(a.hF n).f_];exact mx t j hj,λj _=>by rw[U_];exact(a.hF n).f_ j,((a.hF n).f_ 1).trans rfl,((a.hF n).f_ 39).trans rfl,(s.hF n).f_ 0⟩ λC=>?_;clear H K;refine h4 16 λK H=>?_;rw[L_ r_];refine jL 134 _ _ rfl F.heap.size 0 r_ f.g_ r_ 134 _ Q (by show 0+43<=43;decide) k_ (Ef.one _) ?_;intro N0 bz G;rw[q5 _ _ r_]at bz;have cI:F.heap.size≠aA/\F.heap.size≠gt/\F.heap.size≠bd:=Lc;have aE:J [] R N0:=b5.jT G h;clear C;refine hZ H ⟨λj _=>by rw[U_];exact(u.hF aE).f_ j,λj hj=>by rw[(a.hF aE).f_];exact mx t j hj,λj _=>by rw[U_];exact(a.hF aE).f_ j,((a.hF aE).f_ 1).trans rfl,((a.hF aE).f_ 39).trans rfl,(s.hF aE).f_ 0⟩ λC=>?_;clear H K;refine hN k_ ?_ _;go_wp2;go_meet;exact⟨_,f,rfl,bz,h,p6 b0 Q G,av,aE⟩
   go_simp;have n:J [] R (E.alloc<|.cells uy 134):=D.alloc _;have Q:=T_ E 134 uy;have V:=cF.hF<|(G_ [] E).alloc<|.cells uy 134;have h:R.heap.size<=E.heap.size:=D.size;clear C;refine hZ H ⟨λj _=>by rw[U_];exact(u.hF n).f_ j,λj hj=>by rw[(a.hF n).f_];exact mx t j hj,λj _=>by rw[U_];exact(a.hF n).f_ j,((a.hF n).f_ 1).trans rfl,((a.hF n).f_ 39).trans rfl,(s.hF n).f_ 0⟩ λC=>?_;clear H K;refine h4 14 λK H=>?_;go_simp;clear D;have D:=n;have bi:J [] w (E.alloc<|.cells uy 134):=m.trans D;have bR:=V;(go_at_call 78;have ad:=qq A c l hH hC t.pc ((t.run+1)*1048576+t.nw.l.length) t.r hA hc hl (N.hF bi) hn bR (by rw[<-ib,P];exact cK) X;rw[P]at ad;have L:=ad;rw[bX.out]at L;refine L.mono ?_;unfold xN;rintro e F⟨f,rfl,ag,av,M⟩);have y:J [] R F:=D.trans M;clear C;refine hZ H ⟨λj _=>by rw[U_];exact(u.hF y).f_ j,λj hj=>by rw[(a.hF y).f_];exact mx t j hj,λj _=>by rw[U_];exact(a.hF y).f_ j,((a.hF y).f_ 1).trans rfl,((a.hF y).f_ 39).trans rfl,(s.hF y).f_ 0⟩ λC=>?_;clear H K;have ck:=Q.hF M;have b0:=ag;have b5:=y;refine h4 16 λK H=>?_;rw[L_ r_];refine jL 134 _ _ rfl E.heap.size 0 r_ f.g_ r_ 134 _ ck (by show 0+43<=43;decide) k_ (Ef.one _) ?_;intro N0 bz G;rw[q5 _ _ r_]at bz;have cI:E.heap.size≠aA/\E.heap.size≠gt/\E.heap.size≠bd:=Lc;exact J3
  go_simp;have n:J [] R (R.alloc<|.cells uy 134):=(G_ [] R).alloc _;have Q:=T_ R 134 uy;have h:R.heap.size<=R.heap.size:=I_ _;clear C;refine hZ H ⟨λj _=>by rw[U_];exact(u.hF n).f_ j,λj hj=>by rw[(a.hF n).f_];exact mx t j hj,λj _=>by rw[U_];exact(a.hF n).f_ j,((a.hF n).f_ 1).trans rfl,((a.hF n).f_ 39).trans rfl,(s.hF n).f_ 0⟩ λC=>?_;clear H K;refine h4 5 λK H=>?_;go_simp;have S:J [] w (R.alloc<|.cells uy 134):=m.trans n;(go_at_call 79;((with_reducible refine(pH t aL vc o (ht.hF S) (hv.hF S) bJ bK de df al).mono ?_);unfold lO;rintro e E⟨hA,hc,hl,rfl,cF,P,N3⟩));have D:J [] R E:=n.trans N3;clear C;refine hZ H ⟨λj _=>by rw[U_];exact(u.hF D).f_ j,λj hj=>by rw[(a.hF D).f_];exact mx t j hj,λj _=>by rw[U_];exact(a.hF D).f_ j,((a.hF D).f_ 1).trans rfl,((a.hF D).f_ 39).trans rfl,(s.hF D).f_ 0⟩ λC=>?_;clear H K;refine h4 14 λK H=>?_;go_simp;have V:=cF;have bi:J [] w E:=m.trans D;have bR:=V;(go_at_call 78;have ad:=qq A c l hH hC t.pc ((t.run+1)*1048576+t.nw.l.length) t.r hA hc hl (N.hF bi) hn bR (by rw[<-ib,P];exact cK) X;rw[P]at ad;have L:=ad;rw[bX.out]at L;refine L.mono ?_;unfold xN;rintro e F⟨f,rfl,ag,av,M⟩);have y:J [] R F:=D.trans M;clear C;refine hZ H ⟨λj _=>by rw[U_];exact(u.hF y).f_ j,λj hj=>by rw[(a.hF y).f_];exact mx t j hj,λj _=>by rw[U_];exact(a.hF y).f_ j,((a.hF y).f_ 1).trans rfl,((a.hF y).f_ 39).trans rfl,(s.hF y).f_ 0⟩ λC=>?_;clear H K;have ck:=(Q.hF N3).hF M;have b0:=ag;have b5:=y;refine h4 16 λK H=>?_;rw[L_ r_];refine jL 134 _ _ rfl R.heap.size 0 r_ f.g_ r_ 134 _ ck (by show 0+43<=43;decide) k_ (Ef.one _) ?_;intro N0 bz G;rw[q5 _ _ r_]at bz;have cI:R.heap.size≠aA/\R.heap.size≠gt/\R.heap.size≠bd:=Lc;exact J3
 obtain⟨aV,f,rfl,W,h,ag,av,aJ⟩:=hcut;clear b7;have cI:aV≠aA/\aV≠gt/\aV≠bd/\aV≠gr/\aV≠ak:=by
  have h1:=u.lt;have h2:=a.lt;have h3:=s.lt;have ar:=i.lt;have au:=k.lt;omega
 have cZ:w.heap.size<=aV:=H_ m.size h;replace u:=u.hF aJ;replace k:=k.hF aJ;replace a:=a.hF aJ;replace s:=s.hF aJ;replace i:=i.hF aJ;replace m:=m.trans aJ;clear aJ h;by_cases ar:g.h7=4
 .have hk:=ar;have HM:Hid (iT l hH hC d t.p (hY o)=nE t.p):=O (by rw[bI.out,L_ hk]);clear bI;have V:wc.cell? (Z aV 0)=some (Y 4):=(W.f_ 0).trans (GG (λbh=>some<|Value.int .i64 bh)<|by rw[<-hk,<-av];rfl);go_wp2_with (first|(refine la a underlying53 ?_)|(go_at_call 80;((with_reducible refine(un t (ht.hF m) cw X).mono ?_);unfold uv;rintro e D⟨t5,rfl,cp,bg,ah⟩))|(refine k6 (t5.g_) (i.hF ah) (Tk.one _) ?_;intro N0 az G));rw[HM.out];exact me t5.g_ (Y 0) az underlying53 ⟨t5,rfl,cp.iy (i.hF ah) I G,bg,(m.trans ah).hJ G p_⟩
 by_cases h3:g.h7=3
 .have hk:=h3;have HM:Hid (iT l hH hC d t.p (hY o)=({t with h5:=1,next:=t.pc+1}:Tk).p):=O (by rw[bI.out,K_ (by rw[hk];decide),L_ hk];rfl);clear bI;have V:wc.cell? (Z aV 0)=some (Y 3):=(W.f_ 0).trans (GG (λbh=>some<|Value.int .i64 bh)<|by rw[<-hk,<-av];rfl);have z3:wc.cell? (Z gt 3)=some (Y t.pc):=(a.f_ 3).trans rfl;have cj:wc.cell? (Z gt 42)=some (Y t.h5):=(a.f_ 42).trans rfl;have dR:wc.cell? (Z gt 43)=some (Y t.next):=(a.f_ 43).trans rfl;have bM:=a.hG 42;have f43:=a.hG 43;have Q:Bk ((wc.setCell (Z gt 42)<|Y 1).setCell (Z gt 43)<|Y<|t.pc+1) gt 53 ({t with h5:=1,next:=t.pc+1}:Tk).g_:=(a.hW 42<|Y 1).hW 43<|Y<|t.pc+1;have n1:=aq.1;have n2:=aq.2.1;have n3:=aq.2.2.1;have n:=aq.2.2.2.1;have n5:=aq.2.2.2.2.1;have S:=aq.2.2.2.2.2.1;have n7:=aq.2.2.2.2.2.2;have P:=(i.ir (p:=(Z gt 42)) n<|Y 1).ir (p:=(Z gt 43)) n<|Y<|t.pc+1;have M:J [gt] wc ((wc.setCell (Z gt 42)<|Y 1).setCell (Z gt 43)<|Y<|t.pc+1):=((G_ [gt] wc).setCell (p:=(Z gt 42)) (.inl s_)<|Y 1).setCell (p:=(Z gt 43)) (.inl s_)<|Y<|t.pc+1;clear n1 n2 n3 n n5 S n7;go_wp2_with (first|(refine la Q underlying53 ?_)|(refine k6 (({t with h5:=1,next:=t.pc+1}:Tk).g_) P (Tk.one _) ?_;intro N0 az G));have L:=(m.hJ M p_).hJ G p_;rw[HM.out];exact me ({t with h5:=1,next:=t.pc+1}:Tk).g_ (Y 0) az underlying53 ⟨({t with h5:=1,next:=t.pc+1}:Tk),rfl,kV.of (ht.hF L) rfl rfl rfl rfl rfl rfl,rfl,L⟩
 have bA:=ar;have cf:=h3;clear ar h3;have bP:Hid (iT l hH hC d t.p (hY o)=match record t.p (hY o) g with
  |none=>nE t.p
  |some x=>
   if g.h7=2 then{x with pc:=g.pc,r:=g.r,hK:=x.hK+1,h5:=3,hX:=g.hX,v:=g.v}
   else if g.h7=1/\(i7 (λz=>z==g.kw) d=true\/64<=x.hK+1\/jI l hH hC g.pc=true) then{x with pc:=g.pc,r:=g.r,hK:=x.hK+1,h5:=2,next:=g.pc}
   else{x with pc:=g.pc,r:=g.r,hK:=x.hK+1}):=O (by rw[bI.out,K_ bA,K_ cf])
 clear bI;have bZ:(f.h7==4)=false:=by
  have e:f.h7=g.h7:=by rw[<-av];rfl
  rw[e];simpa using bA
 have bH:(f.h7==3)=false:=by
  have e:f.h7=g.h7:=by rw[<-av];rfl
  rw[e];simpa using cf
 have V:wc.cell? (Z aV 0)=some (Y f.h7):=(W.f_ 0).trans rfl;have bC:=yn t aL vc o f;rw[av]at bC;have cH:g.sm 1000:=cD.mono I;have cy:t.p.sm 1000000:=am.mono I;have z0:=s.f_ 0;cases bu:record t.p (hY o) g with
 |none=>
  go_upto_region 12 with(first|(refine la a underlying53 ?_)|(refine la W underlying134 ?_)|(go_at_call 81;((with_reducible refine(bC _ (ht.hF m) (hv.hF m) ag cy cH X).mono ?_);rw[bu];unfold wh;rintro e D⟨x,rfl,ah,bW⟩))|(refine k6 (x.g_) (T_ D 53 ks) (Tk.one _) ?_;intro aB be aD));have HM:Hid (iT l hH hC d t.p (hY o)=nE t.p):=O (by rw[bP.out,bu]);clear bP;have y:J [] wc aB:=(ah.alloc _).hJ aD (by simp;exact ah.size);replace a:=a.hF y;replace i:=i.hF y;replace m:=m.trans y;clear y;go_wp2_with (first|(refine la a underlying53 ?_)|(go_at_call 80;((with_reducible refine(un t (ht.hF m) cw X).mono ?_);unfold uv;rintro e F⟨t5,rfl,cp,bg,E⟩))|(refine k6 (t5.g_) (i.hF E) (Tk.one _) ?_;intro N0 az G));rw[HM.out];exact me t5.g_ (Y 0) az underlying53 ⟨t5,rfl,cp.iy (i.hF E) I G,bg,(m.trans E).hJ G p_⟩
 |some bk=>
  by_cases bq:g.h7=2
  .have hk:=bq;go_upto_region 12 with(first|(refine la a underlying53 ?_)|(refine la W underlying134 ?_)|(go_at_call 81;((with_reducible refine(bC _ (ht.hF m) (hv.hF m) ag cy cH X).mono ?_);rw[bu];unfold wh;rintro e D⟨x,rfl,ah,bW⟩))|(refine k6 (x.g_) (T_ D 53 ks) (Tk.one _) ?_;intro aB be aD));obtain⟨cx,cA⟩:=bW bk rfl;have y:J [] wc aB:=(ah.alloc _).hJ aD (by simp;exact ah.size);have cz:kV aB x:=(cx.hF<|(G_ [] D).alloc<|.cells ks 53).iy (T_ D 53 ks) I aD;have cJ:D.heap.size≠aA/\D.heap.size≠ak/\D.heap.size≠gr/\D.heap.size≠aV:=M3;replace W:=W.hF y;replace i:=i.hF y;replace u:=u.hF y;replace k:=k.hF y;replace m:=m.trans y;have bT:w.heap.size<=D.heap.size:=by have:=a.lt;have:=ah.size;omega
   have b1:0<=x.hK/\x.hK<=1000000:=by
    have h1:=(li bu).hK;rw[<-cA]at h1;have h2:x.hK=t.hK:=h1;omega
   clear y ah aD cx a s z0 V bC bW;generalize D.heap.size=gx at*;obtain⟨m1,m2,m3,n⟩:=cJ;go_upto_region 15 with(first|(refine iH rfl 49 _ rfl aV 1 r_ 134 _ (iE f.pc f.r) W (λj hj=>Ci f j hj) _ underlying49 rfl k_ ?_)|(refine jn rfl 49 _ _ rfl gx 3 r_ (iE f.pc f.r) r_ 53 _ be (by show 3+33<=48;decide) k_ (oo) ?_;intro F S E));rw[uY]at S;have aW:kV F ({x with pc:=f.pc,r:=f.r}:Tk):=kV.of (cz.iy be I E) rfl rfl rfl rfl rfl rfl;have bn:=W.gr E<|zu n.symm;have cq:=i.gr E<|zu m3.symm;have cn:=u.gr E<|zu m1.symm;have co:=k.gr E<|zu m2.symm;have bS:=m.hJ E p_;clear W i u k m E cz be;have cM:F.cell? (Z gx 47)=some (Y x.hK):=(S.f_ 47).trans rfl;have cC:=S.hG 47;have V:F.cell? (Z aV 0)=some (Y f.h7):=(bn.f_ 0).trans rfl;go_upto_region 16 with fail;have NZ:Bk (F.setCell (Z gx 47)<|Y<|x.hK+1) gx 53 ({x with pc:=f.pc,r:=f.r,hK:=x.hK+1}:Tk).g_:=S.hW 47<|Y<|x.hK+1;have Q:J [gx] F (F.setCell (Z gx 47)<|Y<|x.hK+1):=(G_ [gx] F).setCell (p:=(Z gx 47)) (.inl s_)<|Y<|x.hK+1;have P:=aW.iy S I Q;have b:=bn.gr Q<|zu n.symm;have M:=cq.gr Q<|zu m3.symm;have T:=cn.gr Q<|zu m1.symm;have bO:=co.gr Q<|zu m2.symm;have aF:=bS.hJ Q p_;clear S aW bn cq cn co bS Q cM cC V;obtain⟨b4,bQ⟩:=nm_<|F.setCell (Z gx 47)<|Y<|x.hK+1;rw[<-bQ]at NZ P b M T bO aF |-;clear bQ;have V:b4.cell? (Z aV 0)=some (Y f.h7):=(b.f_ 0).trans rfl;have HM:Hid (iT l hH hC d t.p (hY o)=({x with pc:=f.pc,r:=f.r,hK:=x.hK+1,h5:=3,hX:=f.hX,v:=f.v}:Tk).p):=O (by rw[bP.out,bu];simp only;rw[L_ hk,<-cA,<-av];rfl);clear bP
   have bj:(f.h7==2)=true:=by
    have e:f.h7=g.h7:=by rw[<-av];rfl
    rw[e];simpa using hk
   go_upto_region 17 with fail;clear V;refine hS (λw'=>w'.cell? (Z aV 40)=some (.bool f.hX)/\w'.cell? (Z aV 41)=some (.bool f.v.r)/\w'.cell? (Z aV 42)=some (Y f.v.n)) 10 k_ ?_;replace NZ:=NZ.drew;replace P:=P.hF<|(G_ [] b4).drew;replace b:=b.drew;replace M:=M.drew;replace aF:=aF.drew;obtain⟨L,cu⟩:=nm_ b4.drew;rw[<-cu]at NZ P b M aF |-;clear cu T bO
   refine m6 ⟨(b.f_ 40).trans rfl,(b.f_ 41).trans rfl,(b.f_ 42).trans rfl⟩ λC=>?_;refine iC 0 C ?_;refine iC 1 C ?_;refine iC 2 C ?_;refine iC 3 C ?_;refine iC 4 C ?_;have cj:L.cell? (Z gx 42)=some (Y x.h5):=(NZ.f_ 42).trans rfl;have bM:=NZ.hG 42;have z44:L.cell? (Z gx 44)=some (.bool x.hX):=(NZ.f_ 44).trans rfl;have cS:=NZ.hG 44;have cQ:L.cell? (Z gx 45)=some (.bool x.v.r):=(NZ.f_ 45).trans rfl;have z46:L.cell? (Z gx 46)=some (Y x.v.n):=(NZ.f_ 46).trans rfl;have cT:=NZ.hG 45;have cU:=NZ.hG 46;refine h4 5 λK H=>?_;go_simp;clear C;refine hZ H ⟨((b.ir (p:=(Z gx 42)) n.symm<|Y 3).f_ 40).trans rfl,((b.ir (p:=(Z gx 42)) n.symm<|Y 3).f_ 41).trans rfl,((b.ir (p:=(Z gx 42)) n.symm<|Y 3).f_ 42).trans rfl⟩ λC=>?_;clear H K;refine iC 6 C ?_;refine h4 7 λK H=>?_;go_simp;clear C;refine hZ H ⟨(((b.ir (p:=(Z gx 42)) n.symm<|Y 3).ir (p:=(Z gx 44)) n.symm<|.bool f.hX).f_ 40).trans rfl,(((b.ir (p:=(Z gx 42)) n.symm<|Y 3).ir (p:=(Z gx 44)) n.symm<|.bool f.hX).f_ 41).trans rfl,(((b.ir (p:=(Z gx 42)) n.symm<|Y 3).ir (p:=(Z gx 44)) n.symm<|.bool f.hX).f_ 42).trans rfl⟩ λC=>?_;clear H K;refine iC 8 C ?_;refine h4 9 λK H=>?_;go_simp;clear C;refine hZ H ⟨(((((b.ir (p:=(Z gx 42)) n.symm<|Y 3).ir (p:=(Z gx 44)) n.symm<|.bool f.hX).ir (p:=(Z gx 45)) n.symm<|.bool f.v.r).ir (p:=(Z gx 46)) n.symm<|Y f.v.n).f_ 40).trans rfl,(((((b.ir (p:=(Z gx 42)) n.symm<|Y 3).ir (p:=(Z gx 44)) n.symm<|.bool f.hX).ir (p:=(Z gx 45)) n.symm<|.bool f.v.r).ir (p:=(Z gx 46)) n.symm<|Y f.v.n).f_ 41).trans rfl,(((((b.ir (p:=(Z gx 42)) n.symm<|Y 3).ir (p:=(Z gx 44)) n.symm<|.bool f.hX).ir (p:=(Z gx 45)) n.symm<|.bool f.v.r).ir (p:=(Z gx 46)) n.symm<|Y f.v.n).f_ 42).trans rfl⟩ λC=>?_;clear H K;have aU:=NZ.hW 42<|Y 3;have bt:=aU.hW 44<|.bool f.hX;clear cj bM z44 cS;clear cQ z46 cT cU C;refine hN k_ ?_ _;have ax:Bk ((((L.setCell (Z gx 42)<|Y 3).setCell (Z gx 44)<|.bool f.hX).setCell (Z gx 45)<|.bool f.v.r).setCell (Z gx 46)<|Y f.v.n) gx 53 ({x with pc:=f.pc,r:=f.r,hK:=x.hK+1,h5:=3,hX:=f.hX,v:=f.v}:Tk).g_:=(bt.hW 45<|.bool f.v.r).hW 46<|Y f.v.n;have ce:J [gx] L ((((L.setCell (Z gx 42)<|Y 3).setCell (Z gx 44)<|.bool f.hX).setCell (Z gx 45)<|.bool f.v.r).setCell (Z gx 46)<|Y f.v.n):=by
    exact((((G_ [gx] L).setCell (p:=(Z gx 42)) (.inl s_) _).setCell (p:=(Z gx 44)) (.inl s_) _).setCell (p:=(Z gx 45)) (.inl s_) _).setCell (p:=(Z gx 46)) (.inl s_) _
   have ct:kV ((((L.setCell (Z gx 42)<|Y 3).setCell (Z gx 44)<|.bool f.hX).setCell (Z gx 45)<|.bool f.v.r).setCell (Z gx 46)<|Y f.v.n) ({x with pc:=f.pc,r:=f.r,hK:=x.hK+1,h5:=3,hX:=f.hX,v:=f.v}:Tk):=kV.of (P.iy NZ I ce) rfl rfl rfl rfl rfl rfl;have bL:=M.gr ce<|zu m3.symm;have cr:=aF.hJ ce p_;clear bt aU NZ P b M aF ce;obtain⟨cR,cv⟩:=nm_<|(((L.setCell (Z gx 42)<|Y 3).setCell (Z gx 44)<|.bool f.hX).setCell (Z gx 45)<|.bool f.v.r).setCell (Z gx 46)<|Y f.v.n;rw[<-cv]at ax ct bL cr |-;clear cv
   go_wp2_with (first|(refine la ax underlying53 ?_)|(refine k6 (({x with pc:=f.pc,r:=f.r,hK:=x.hK+1,h5:=3,hX:=f.hX,v:=f.v}:Tk).g_) bL (Tk.one _) ?_;intro N0 az G));rw[HM.out];exact me ({x with pc:=f.pc,r:=f.r,hK:=x.hK+1,h5:=3,hX:=f.hX,v:=f.v}:Tk).g_ (Y 0) az underlying53 ⟨({x with pc:=f.pc,r:=f.r,hK:=x.hK+1,h5:=3,hX:=f.hX,v:=f.v}:Tk),rfl,ct.iy bL I G,rfl,cr.hJ G p_⟩
  skip;go_upto_region 12 with(first|(refine la a underlying53 ?_)|(refine la W underlying134 ?_)|(go_at_call 81;((with_reducible refine(bC _ (ht.hF m) (hv.hF m) ag cy cH X).mono ?_);rw[bu];unfold wh;rintro e D⟨x,rfl,ah,bW⟩))|(refine k6 (x.g_) (T_ D 53 ks) (Tk.one _) ?_;intro aB be aD));obtain⟨cx,cA⟩:=bW bk rfl;have y:J [] wc aB:=(ah.alloc _).hJ aD (by simp;exact ah.size);have cz:kV aB x:=(cx.hF<|(G_ [] D).alloc<|.cells ks 53).iy (T_ D 53 ks) I aD;have cJ:D.heap.size≠aA/\D.heap.size≠ak/\D.heap.size≠gr/\D.heap.size≠aV:=M3;replace W:=W.hF y;replace i:=i.hF y;replace u:=u.hF y;replace k:=k.hF y;replace m:=m.trans y;have bT:w.heap.size<=D.heap.size:=by have:=a.lt;have:=ah.size;omega
  have b1:0<=x.hK/\x.hK<=1000000:=by
   have h1:=(li bu).hK;rw[<-cA]at h1;have h2:x.hK=t.hK:=h1;omega
  clear y ah aD cx a s z0 V bC bW;generalize D.heap.size=gx at*;obtain⟨m1,m2,m3,n⟩:=cJ;go_upto_region 15 with(first|(refine iH rfl 49 _ rfl aV 1 r_ 134 _ (iE f.pc f.r) W (λj hj=>Ci f j hj) _ underlying49 rfl k_ ?_)|(refine jn rfl 49 _ _ rfl gx 3 r_ (iE f.pc f.r) r_ 53 _ be (by show 3+33<=48;decide) k_ (oo) ?_;intro F S E));rw[uY]at S;have aW:kV F ({x with pc:=f.pc,r:=f.r}:Tk):=kV.of (cz.iy be I E) rfl rfl rfl rfl rfl rfl;have bn:=W.gr E<|zu n.symm;have cq:=i.gr E<|zu m3.symm;have cn:=u.gr E<|zu m1.symm;have co:=k.gr E<|zu m2.symm;have bS:=m.hJ E p_;clear W i u k m E cz be;have cM:F.cell? (Z gx 47)=some (Y x.hK):=(S.f_ 47).trans rfl;have cC:=S.hG 47;have V:F.cell? (Z aV 0)=some (Y f.h7):=(bn.f_ 0).trans rfl;go_upto_region 16 with fail;have NZ:Bk (F.setCell (Z gx 47)<|Y<|x.hK+1) gx 53 ({x with pc:=f.pc,r:=f.r,hK:=x.hK+1}:Tk).g_:=S.hW 47<|Y<|x.hK+1;have Q:J [gx] F (F.setCell (Z gx 47)<|Y<|x.hK+1):=(G_ [gx] F).setCell (p:=(Z gx 47)) (.inl s_)<|Y<|x.hK+1;have P:=aW.iy S I Q;have b:=bn.gr Q<|zu n.symm;have M:=cq.gr Q<|zu m3.symm;have T:=cn.gr Q<|zu m1.symm;have bO:=co.gr Q<|zu m2.symm;have aF:=bS.hJ Q p_;clear S aW bn cq cn co bS Q cM cC V;obtain⟨b4,bQ⟩:=nm_<|F.setCell (Z gx 47)<|Y<|x.hK+1;rw[<-bQ]at NZ P b M T bO aF |-;clear bQ;have V:b4.cell? (Z aV 0)=some (Y f.h7):=(b.f_ 0).trans rfl;have bp:Hid (iT l hH hC d t.p (hY o)=if f.h7=1/\(i7 (λz=>z==f.kw) d=true\/64<=x.hK+1\/jI l hH hC f.pc=true) then({x with pc:=f.pc,r:=f.r,hK:=x.hK+1,h5:=2,next:=f.pc}:Tk).p else({x with pc:=f.pc,r:=f.r,hK:=x.hK+1}:Tk).p):=O (by rw[bP.out,bu];simp only;rw[K_ bq,<-cA,<-av];rfl);clear bP
  have bj:(f.h7==2)=false:=by
   have e:f.h7=g.h7:=by rw[<-av];rfl
   rw[e];simpa using bq
  go_upto_region 18 with fail;go_cut [81] (λbm aX=>bm=.bool (decide (f.h7=1/\(i7 (λz=>z==f.kw) d=true\/64<=x.hK+1\/jI l hH hC f.pc=true)))/\J [] b4 aX)
  case first=>
   have aR:=bO.f_ 0;have cY:b4.cell? (Z aV 39)=some (Y f.kw):=(b.f_ 39).trans rfl;by_cases bY:f.h7=1
   .have aY:(f.h7==1)=true:=zu bY;cases bU:i7 (λz=>z==f.kw) d with
    |true=>
     have a8:=O (show decide (f.h7=1/\(i7 (λz=>z==f.kw) d=true\/64<=x.hK+1\/jI l hH hC f.pc=true))=true by simp[bY,bU]);exact JY
    |false=>
     by_cases cg:64<=x.hK+1;have a8:=O (show decide (f.h7=1/\(i7 (λz=>z==f.kw) d=true\/64<=x.hK+1\/jI l hH hC f.pc=true))=true by simp[bY,cg]);have d1:((64:Int)<=x.hK+1)=True:=by simp[cg]
     exact JY;have d1:((64:Int)<=x.hK+1)=False:=by simp[cg]
     cases has:jI l hH hC f.pc with
     |true=>
      have a8:=O (show decide (f.h7=1/\(i7 (λz=>z==f.kw) d=true\/64<=x.hK+1\/jI l hH hC f.pc=true))=true by simp[bY,has]);exact JL
     |false=>
      have a8:=O (show decide (f.h7=1/\(i7 (λz=>z==f.kw) d=true\/64<=x.hK+1\/jI l hH hC f.pc=true))=false by simp[bU,cg,has]);exact JL
   have aY:(f.h7==1)=false:=zu bY;have a8:=O (show decide (f.h7=1/\(i7 (λz=>z==f.kw) d=true\/64<=x.hK+1\/jI l hH hC f.pc=true))=false by simp[bY]);go_wp2;go_meet;exact⟨jk a8.out.symm,G_ _ _⟩
  obtain⟨rfl,y⟩:=hcut;replace NZ:=NZ.hF y;replace P:=P.hF y;replace b:=b.hF y;replace M:=M.hF y;replace aF:=aF.trans y;clear y V T bO;by_cases bV:f.h7=1/\(i7 (λz=>z==f.kw) d=true\/64<=x.hK+1\/jI l hH hC f.pc=true)
  .have HM:Hid (iT l hH hC d t.p (hY o)=({x with pc:=f.pc,r:=f.r,hK:=x.hK+1,h5:=2,next:=f.pc}:Tk).p):=O (by rw[bp.out,L_ bV]);have q:decide (f.h7=1/\(i7 (λz=>z==f.kw) d=true\/64<=x.hK+1\/jI l hH hC f.pc=true))=true:=Hn bV;rw[q];clear q bV bp;go_upto_region 19 with fail;refine hS (λw'=>w'.cell? (Z aV 1)=some (Y f.pc)) 7 k_ ?_;replace NZ:=NZ.drew;replace P:=P.hF<|(G_ [] wc).drew;replace b:=b.drew;replace M:=M.drew;replace aF:=aF.drew;obtain⟨L,cu⟩:=nm_ wc.drew;rw[<-cu]at NZ P b M aF |-;clear cu
   refine m6 ((b.f_ 1).trans rfl) λC=>?_;refine iC 0 C ?_;refine iC 1 C ?_;refine iC 2 C ?_;refine iC 3 C ?_;have cj:L.cell? (Z gx 42)=some (Y x.h5):=(NZ.f_ 42).trans rfl;have bM:=NZ.hG 42;have dR:L.cell? (Z gx 43)=some (Y x.next):=(NZ.f_ 43).trans rfl;have f43:=NZ.hG 43;refine h4 4 λK H=>?_;go_simp;clear C;refine hZ H (((b.ir (p:=(Z gx 42)) n.symm<|Y 2).f_ 1).trans rfl) λC=>?_;clear H K;refine iC 5 C ?_;refine h4 6 λK H=>?_;go_simp;clear C;refine hZ H ((((b.ir (p:=(Z gx 42)) n.symm<|Y 2).ir (p:=(Z gx 43)) n.symm<|Y f.pc).f_ 1).trans rfl) λC=>?_;clear H K;have aU:=NZ.hW 42<|Y 2;clear cj bM;clear dR f43 C;refine hN k_ ?_ _;have ax:Bk ((L.setCell (Z gx 42)<|Y 2).setCell (Z gx 43)<|Y f.pc) gx 53 ({x with pc:=f.pc,r:=f.r,hK:=x.hK+1,h5:=2,next:=f.pc}:Tk).g_:=aU.hW 43<|Y f.pc;have ce:J [gx] L ((L.setCell (Z gx 42)<|Y 2).setCell (Z gx 43)<|Y f.pc):=((G_ [gx] L).setCell (p:=(Z gx 42)) (.inl s_) _).setCell (p:=(Z gx 43)) (.inl s_) _;have ct:=kV.of (t':=({x with pc:=f.pc,r:=f.r,hK:=x.hK+1,h5:=2,next:=f.pc}:Tk)) (P.iy NZ I ce) rfl rfl rfl rfl rfl rfl;have bL:=M.gr ce<|zu m3.symm;have cr:=aF.hJ ce p_;clear aU NZ P b M aF ce;obtain⟨cR,cv⟩:=nm_<|(L.setCell (Z gx 42)<|Y 2).setCell (Z gx 43)<|Y f.pc;rw[<-cv]at ax ct bL cr |-;clear cv
   go_wp2_with (first|(refine la ax underlying53 ?_)|(refine k6 (({x with pc:=f.pc,r:=f.r,hK:=x.hK+1,h5:=2,next:=f.pc}:Tk).g_) bL (Tk.one _) ?_;intro N0 az G));rw[HM.out];exact me ({x with pc:=f.pc,r:=f.r,hK:=x.hK+1,h5:=2,next:=f.pc}:Tk).g_ (Y 0) az underlying53 ⟨({x with pc:=f.pc,r:=f.r,hK:=x.hK+1,h5:=2,next:=f.pc}:Tk),rfl,ct.iy bL I G,rfl,cr.hJ G p_⟩
  have HM:Hid (iT l hH hC d t.p (hY o)=({x with pc:=f.pc,r:=f.r,hK:=x.hK+1}:Tk).p):=O (by rw[bp.out,K_ bV]);have q:decide (f.h7=1/\(i7 (λz=>z==f.kw) d=true\/64<=x.hK+1\/jI l hH hC f.pc=true))=false:=H4 bV;rw[q];clear q bV bp;go_wp2_with (first|(refine la NZ underlying53 ?_)|(refine k6 (({x with pc:=f.pc,r:=f.r,hK:=x.hK+1}:Tk).g_) M (Tk.one _) ?_;intro N0 az G));rw[HM.out];exact me ({x with pc:=f.pc,r:=f.r,hK:=x.hK+1}:Tk).g_ (Y 0) az underlying53 ⟨({x with pc:=f.pc,r:=f.r,hK:=x.hK+1}:Tk),rfl,(kV.of (t':=({x with pc:=f.pc,r:=f.r,hK:=x.hK+1}:Tk)) P rfl rfl rfl rfl rfl rfl).iy M I G,rfl,aF.hJ G p_⟩
