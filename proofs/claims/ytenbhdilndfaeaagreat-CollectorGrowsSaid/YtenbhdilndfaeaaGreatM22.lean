import Derived.Test.YtenbhdilndfaeaaGreatM21
set_option maxRecDepth 100000
set_option maxHeartbeats 0
set_option linter.all false
namespace Go.Proofs.YtenbhdilndfaeaaGreat
open Go.RowKit Go.Proofs.Tryz
variable{G:Prop}{P:Program}{w:World}{ops:Array Oper}{o:Oper}{a:Act}{K:Act->World->Prop}{Q:Exit->Act->World->Prop}{l:List In}(x:X1)
theorem Hn(h:G:=by
 refine kS rfl _ _ _ _ rfl _ _ _ r_ r_ r_ bL ?_;have f:Gr [] s aR:=pq aU aF (H_ _);clear C
 refine h5 H (af.hG f).c5 λC=>?_
 clear H K
 refine h4 7 λK H=>?_
 go_simp
 refine h5 H C λC=>?_
 clear H K
 refine h4 10 λK H=>?_
 have bQ:(Instr.lookup 263 (.map (some s.heap.size)) (i_ 18) false).run prog aR=.ok (i_ 2) aR:=dF.lookup (show(Lit.int .i64 18).wf=true by decide);refine nM rfl _ _ _ _ rfl _ _ r_ r_ bQ ?_;clear bQ
 refine h5 H C λC=>?_
 clear H K;have m:=B.hG f;have q:=z.hG f;have o:=af.hG f;clear C i dF bL k g aC aU aF f B af z
 refine h4 11 λK H=>?_
 go_simp
 (go_at_call 118;((with_reducible refine(jQ b _ gx aj 1 2 m bX).mono ?_);unfold mQ;rintro e T⟨O,rfl,av,aQ,Z⟩;have aV:=h_ aQ;clear aQ;rw[ay.out]))
 exact Hv):G:=h
theorem Ho(h:G:=by
 refine kS rfl _ _ _ _ rfl _ _ _ r_ r_ r_ bL ?_;have f:Gr [] s aR:=pq aU aF (H_ _);clear C
 refine h5 H (af.hG f).c5 λC=>?_
 clear H K
 refine h4 7 λK H=>?_
 go_simp
 refine h5 H C λC=>?_
 clear H K
 refine h4 10 λK H=>?_
 have bQ:(Instr.lookup 263 (.map (some s.heap.size)) (i_ 15) false).run prog aR=.ok (i_ 1) aR:=dF.lookup (show(Lit.int .i64 15).wf=true by decide);refine nM rfl _ _ _ _ rfl _ _ r_ r_ bQ ?_;clear bQ
 refine h5 H C λC=>?_
 clear H K;have m:=B.hG f;have q:=z.hG f;have o:=af.hG f;clear C i dF bL k g aC aU aF f B af z
 refine h4 11 λK H=>?_
 go_simp
 (go_at_call 118;((with_reducible refine(jQ b _ gx aj 1 1 m bX).mono ?_);unfold mQ;rintro e T⟨O,rfl,av,aQ,Z⟩;have aV:=h_ aQ;clear aQ;rw[ay.out]))
 exact Hv):G:=h
theorem Hv(h:G:=by
 have aE:=o.xg Z t
 refine h5 H aE.c5 λC=>?_
 clear H K;refine iP 16 C ?_;have bj:T.cell? (c_ gx (40+E*2))=some (.bool (O.e.r E).r):=(av.bk.f_ _).trans (kd O E ha).1;have bn:T.cell? (c_ gx (40+E*2+1))=some (i_ (O.e.r E).n):=(av.bk.f_ _).trans (kd O E ha).2;have br:=av.bk.hH (40+E*2);have bH:=av.bk.hH (40+E*2+1)
 refine h4 17 λK H=>?_
 go_simp
 have aO:Bk ((T.setCell (c_ gx (40+E*2)) (.bool v.r)).setCell (c_ gx (40+E*2+1)) (i_ v.n)) gx 186 (({O with e:={O.e with r:=q2 O.e.r E v}}:X1)).g_:=by rw[<-mm O v E ha];exact(av.bk.hW (40+E*2) (.bool v.r)).hW (40+E*2+1) (i_ v.n)
 have M:Gr [gx] T ((T.setCell (c_ gx (40+E*2)) (.bool v.r)).setCell (c_ gx (40+E*2+1)) (i_ v.n)):=(((F_ [gx] T).setCell (p:=(c_ gx (40+E*2))) (.inl s_) (.bool v.r)).setCell (p:=(c_ gx (40+E*2+1))) (.inl s_) (i_ v.n));refine H.out _ _ (λh=>EK h d_) ?_;clear H K
 try simp only[a_]
 refine hN k_ ?_ _;go_wp2;refine en_ ?_;rw[aZ.out,<-aV.out];exact⟨_,rfl,av.rP M aO rfl rfl rfl rfl rfl rfl rfl,rfl,(q.trans Z).iu M⟩):G:=h
theorem Ia(h:G:=by
 have HM:Hid (P=({aO with hO:=true}:X1).p):=h_ (by rw[aq.out,T_ bw];rfl);clear bw aq;have d:aF.cell? (c_ gx 81)=some (.bool aO.hO):=(m.bk.f_ 81).trans rfl;exact IP):G:=h
theorem IP(h:G:=by
 have ah:=m.bk.hH 81;go_wp2;have bY:=m.set (x':={aO with hO:=true}) 81 (.bool true) rfl rfl rfl rfl rfl rfl rfl rfl;refine rn_ ?_;rw[HM.out];exact⟨_,rfl,bY,rfl,h.iu ((F_ [gx] _).setCell (.inl s_) _)⟩):G:=h
theorem KQ(h:G:=by
 rw[F]at d;clear F;go_wp2;refine en_ ?_;rw[HM.out];exact⟨aj,rfl,B,rfl,z⟩):G:=h
theorem qo{E:Prop}(V:o.guard=none)(t:TypeId)(ho:o.op=.makeMap t none)(h:K (a.put o.dst (.map (some w.heap.size))) (w.alloc (.map #[] 0))):
 if Region.wanted o (yielded ops a.tmps)=true then Oper.wp P o a w K Q else E:=by
 have aM:Region.wanted o (yielded ops a.tmps)=true:=by simp[Region.wanted,V]
 rw[T_ aM];have N:(Instr.makeMap t none).run P w=.ok (.map (some w.heap.size)) (w.alloc (.map #[] 0)):=rfl;unfold Oper.wp execOp;simp only[ho,Option.map_none,Sem.run_bind,Sem.run_pure,Result.andThen_ok,N];exact h
theorem pq{b:Nat}{w':World}(hg:w.grownBy w' (some b)){a:World}(h:Gr [] a w)(hb:a.heap.size<=b):Gr [] a w':=
 h.grown hg (λk hk=>by injection hk with hk;subst hk;exact .inr hb)
theorem rest_15(b w:World)(gx:Nat)(x:X1)(E:Nat)(ak c:Int)(n:Int)(L:kq b w gx x)(ha:E<16)(hs:x.p.e.sm 800000):
 Calls prog 121 #[q_ gx,.agg #[i_ 15,i_ (E:Int),i_ ak,i_ c,i_ n]] w (kP (.tuple #[]) (j2 x.p ⟨15,E,ak,c,n⟩) b gx w):=by
 obtain⟨P,hP⟩:=mn_ (j2 x.p ⟨15,E,ak,c,n⟩);rw[hP];have u:=h_ hP;clear hP;obtain⟨R,a,aK,A,l,N,az,t⟩:=rR L #[i_ 15,i_ (E:Int),i_ ak,i_ c,i_ n]
 go_enter func121,ntmps121
 go_upto_region 1 with fail
 clear aK A;have U:=N.f_ 0;have V:Gr [] R R.drew:=(F_ [] R).drew;refine hQ (λw'=>(w'.cell? (c_ a 0)=some (i_ 15)/\w'.cell? (c_ a 1)=some (i_ (E:Int))/\w'.cell? (c_ a 2)=some (i_ ak)/\w'.cell? (c_ a 3)=some (i_ c)/\w'.cell? (c_ a 4)=some (i_ n))/\w'.cell? (c_ gx (4+E*2))=some (.bool (x.sr E).r)/\w'.cell? (c_ gx (4+E*2+1))=some (i_ (x.sr E).n)) 10 k_ ?_;have C:=And.intro N.drew.c5 (uZ (l.bk.drew) ha);have aS:(0:Int)<=(E:Int):=o_;have aJ:(E:Int)<16:=o_
 iterate 8 refine jW C ?_
 refine h4 8 λK H=>?_
 go_simp;clear C
 refine h5 H (rz N l.bk ha) λC=>?_
 clear H K
 refine h4 9 λK H=>?_
 go_simp;clear C
 refine h5 H (rz N l.bk ha) λC=>?_
 clear H K;refine hN k_ ?_ _;obtain⟨aH,aL,bC,D,W,aM,bB,au,aW⟩:=yH l N az #[.bool (x.sr E).r,i_ (x.sr E).n];rw[bC,D];clear bC D l N az V C;have U:=aM.f_ 0
 go_upto_region 36 with(go_at_call 116;((with_reducible refine(qv b _ gx x W).mono ?_);unfold kP;rintro e ae⟨aj,rfl,B,bJ,S⟩;have ai:=h_ bJ;clear bJ))
 clear U;have af:=aM.xg S t;have z:=au.trans S
 have a8:aj.p.e.sm 800010:=by rw[ai.out];exact(show(iI x.p).e.sm 800010 from hs.mono d_)
 have bX:aj.e.rs.l.length<=1000000:=G_ a8.rs d_;have d:ae.cell? (c_ gx 81)=some (.bool aj.hO):=(B.bk.f_ 81).trans rfl;clear W aM au bB S a8
 cases F:aj.hO with
 |true=>
  have HM:Hid (P=aj.p):=h_ (by rw[<-u.out];show(if(iI x.p).hO=true then iI x.p else kW (hX (iI x.p) 1 1).1 E (hX (iI x.p) 1 1).2)=_;rw[<-ai.out];exact T_ F);exact KQ
 |false=>
  obtain⟨v,hv⟩:=mn_ ((hX aj.p 1 1).2);have ay:=h_ hv;clear hv;have aZ:Hid (P=kW (hX aj.p 1 1).1 E v):=h_ (by rw[<-u.out];show(if(iI x.p).hO=true then iI x.p else kW (hX (iI x.p) 1 1).1 E (hX (iI x.p) 1 1).2)=_;rw[<-ai.out,ay.out];exact Q_ (by show ¬aj.hO=true;rw[F];decide));clear u ai;rw[F]at d;clear F
  go_upto_region 37 with fail
  clear d;refine hQ (λw'=>w'.cell? (c_ a 0)=some (i_ 15)/\w'.cell? (c_ a 1)=some (i_ (E:Int))/\w'.cell? (c_ a 2)=some (i_ ak)/\w'.cell? (c_ a 3)=some (i_ c)/\w'.cell? (c_ a 4)=some (i_ n)) 17 k_ ?_;have j:Gr [] ae ae.drew:=(F_ [] ae).drew;replace B:=B.hG j;replace af:=af.hG j;replace z:=z.hG j;clear j;obtain⟨s,y⟩:=nm_ ae.drew;rw[<-y]at B af z |-;clear y
  refine nt af.c5 λC=>?_
  refine iP 0 C ?_;refine iP 1 C ?_;refine iP 2 C ?_;refine iP 3 C ?_;refine iP 8 C ?_;refine iP 9 C ?_;refine iP 12 C ?_;refine iP 13 C ?_;refine iP 14 C ?_;refine iP 15 C ?_
  refine h4 4 λK H=>?_
  refine qo rfl _ rfl ?_;have g:Im (s.alloc (.map #[] 0)) s.heap.size 0 (λ_=>0):=Im.made s;clear C
  refine h5 H (af.hG ((F_ [] s).alloc _)).c5 λC=>?_
  clear H K;refine ji 5 6 rfl rfl k_ (λK H=>?_) (λK H=>?_)
  ·
   obtain⟨aY,k,i,aC⟩:=g.update d_ (show(Lit.int .i64 15).wf=true by decide) (show(Lit.int .i64 1).wf=true by decide);refine kS rfl _ _ _ _ rfl _ _ _ r_ r_ r_ k ?_;have aF:Gr [] s aY:=pq aC ((F_ [] s).alloc _) (H_ _);clear C
   refine h5 H (af.hG aF).c5 λC=>?_
   clear H K
   refine h4 6 λK H=>?_
   obtain⟨aR,bL,dF,aU⟩:=i.update d_ (show(Lit.int .i64 18).wf=true by decide) (show(Lit.int .i64 2).wf=true by decide);exact Ho
  ·
   obtain⟨aY,k,i,aC⟩:=g.update d_ (show(Lit.int .i64 18).wf=true by decide) (show(Lit.int .i64 2).wf=true by decide);refine kS rfl _ _ _ _ rfl _ _ _ r_ r_ r_ k ?_;have aF:Gr [] s aY:=pq aC ((F_ [] s).alloc _) (H_ _);clear C
   refine h5 H (af.hG aF).c5 λC=>?_
   clear H K
   refine h4 5 λK H=>?_
   obtain⟨aR,bL,dF,aU⟩:=i.update d_ (show(Lit.int .i64 15).wf=true by decide) (show(Lit.int .i64 1).wf=true by decide);exact Ho
theorem rest_18(b w:World)(gx:Nat)(x:X1)(E:Nat)(ak c:Int)(n:Int)(L:kq b w gx x)(ha:E<16)(hs:x.p.e.sm 800000):
 Calls prog 121 #[q_ gx,.agg #[i_ 18,i_ (E:Int),i_ ak,i_ c,i_ n]] w (kP (.tuple #[]) (j2 x.p ⟨18,E,ak,c,n⟩) b gx w):=by
 obtain⟨P,hP⟩:=mn_ (j2 x.p ⟨18,E,ak,c,n⟩);rw[hP];have u:=h_ hP;clear hP;obtain⟨R,a,aK,A,l,N,az,t⟩:=rR L #[i_ 18,i_ (E:Int),i_ ak,i_ c,i_ n]
 go_enter func121,ntmps121
 go_upto_region 1 with fail
 clear aK A;have U:=N.f_ 0;have V:Gr [] R R.drew:=(F_ [] R).drew;refine hQ (λw'=>(w'.cell? (c_ a 0)=some (i_ 18)/\w'.cell? (c_ a 1)=some (i_ (E:Int))/\w'.cell? (c_ a 2)=some (i_ ak)/\w'.cell? (c_ a 3)=some (i_ c)/\w'.cell? (c_ a 4)=some (i_ n))/\w'.cell? (c_ gx (4+E*2))=some (.bool (x.sr E).r)/\w'.cell? (c_ gx (4+E*2+1))=some (i_ (x.sr E).n)) 10 k_ ?_;have C:=And.intro N.drew.c5 (uZ (l.bk.drew) ha);have aS:(0:Int)<=(E:Int):=o_;have aJ:(E:Int)<16:=o_
 iterate 8 refine jW C ?_
 refine h4 8 λK H=>?_
 go_simp;clear C
 refine h5 H (rz N l.bk ha) λC=>?_
 clear H K
 refine h4 9 λK H=>?_
 go_simp;clear C
 refine h5 H (rz N l.bk ha) λC=>?_
 clear H K;refine hN k_ ?_ _;obtain⟨aH,aL,bC,D,W,aM,bB,au,aW⟩:=yH l N az #[.bool (x.sr E).r,i_ (x.sr E).n];rw[bC,D];clear bC D l N az V C;have U:=aM.f_ 0
 go_upto_region 36 with(go_at_call 116;((with_reducible refine(qv b _ gx x W).mono ?_);unfold kP;rintro e ae⟨aj,rfl,B,bJ,S⟩;have ai:=h_ bJ;clear bJ))
 clear U;have af:=aM.xg S t;have z:=au.trans S
 have a8:aj.p.e.sm 800010:=by rw[ai.out];exact(show(iI x.p).e.sm 800010 from hs.mono d_)
 have bX:aj.e.rs.l.length<=1000000:=G_ a8.rs d_;have d:ae.cell? (c_ gx 81)=some (.bool aj.hO):=(B.bk.f_ 81).trans rfl;clear W aM au bB S a8
 cases F:aj.hO with
 |true=>
  have HM:Hid (P=aj.p):=h_ (by rw[<-u.out];show(if(iI x.p).hO=true then iI x.p else kW (hX (iI x.p) 1 2).1 E (hX (iI x.p) 1 2).2)=_;rw[<-ai.out];exact T_ F);exact KQ
 |false=>
  obtain⟨v,hv⟩:=mn_ ((hX aj.p 1 2).2);have ay:=h_ hv;clear hv;have aZ:Hid (P=kW (hX aj.p 1 2).1 E v):=h_ (by rw[<-u.out];show(if(iI x.p).hO=true then iI x.p else kW (hX (iI x.p) 1 2).1 E (hX (iI x.p) 1 2).2)=_;rw[<-ai.out,ay.out];exact Q_ (by show ¬aj.hO=true;rw[F];decide));clear u ai;rw[F]at d;clear F
  go_upto_region 37 with fail
  clear d;refine hQ (λw'=>w'.cell? (c_ a 0)=some (i_ 18)/\w'.cell? (c_ a 1)=some (i_ (E:Int))/\w'.cell? (c_ a 2)=some (i_ ak)/\w'.cell? (c_ a 3)=some (i_ c)/\w'.cell? (c_ a 4)=some (i_ n)) 17 k_ ?_;have j:Gr [] ae ae.drew:=(F_ [] ae).drew;replace B:=B.hG j;replace af:=af.hG j;replace z:=z.hG j;clear j;obtain⟨s,y⟩:=nm_ ae.drew;rw[<-y]at B af z |-;clear y
  refine nt af.c5 λC=>?_
  refine iP 0 C ?_;refine iP 1 C ?_;refine iP 2 C ?_;refine iP 3 C ?_;refine iP 8 C ?_;refine iP 9 C ?_;refine iP 12 C ?_;refine iP 13 C ?_;refine iP 14 C ?_;refine iP 15 C ?_
  refine h4 4 λK H=>?_
  refine qo rfl _ rfl ?_;have g:Im (s.alloc (.map #[] 0)) s.heap.size 0 (λ_=>0):=Im.made s;clear C
  refine h5 H (af.hG ((F_ [] s).alloc _)).c5 λC=>?_
  clear H K;refine ji 5 6 rfl rfl k_ (λK H=>?_) (λK H=>?_)
  ·
   obtain⟨aY,k,i,aC⟩:=g.update d_ (show(Lit.int .i64 15).wf=true by decide) (show(Lit.int .i64 1).wf=true by decide);refine kS rfl _ _ _ _ rfl _ _ _ r_ r_ r_ k ?_;have aF:Gr [] s aY:=pq aC ((F_ [] s).alloc _) (H_ _);clear C
   refine h5 H (af.hG aF).c5 λC=>?_
   clear H K
   refine h4 6 λK H=>?_
   obtain⟨aR,bL,dF,aU⟩:=i.update d_ (show(Lit.int .i64 18).wf=true by decide) (show(Lit.int .i64 2).wf=true by decide);exact Hn
  ·
   obtain⟨aY,k,i,aC⟩:=g.update d_ (show(Lit.int .i64 18).wf=true by decide) (show(Lit.int .i64 2).wf=true by decide);refine kS rfl _ _ _ _ rfl _ _ _ r_ r_ r_ k ?_;have aF:Gr [] s aY:=pq aC ((F_ [] s).alloc _) (H_ _);clear C
   refine h5 H (af.hG aF).c5 λC=>?_
   clear H K
   refine h4 5 λK H=>?_
   obtain⟨aR,bL,dF,aU⟩:=i.update d_ (show(Lit.int .i64 15).wf=true by decide) (show(Lit.int .i64 1).wf=true by decide);exact Hn
def qw(l:List In)(p r:Vl):Bool:=decide (p.r=false∨r.r=true∨i9 l r.n=false)
def xD(a:XP × Int × Int)(v:Vl):XP:=
 if a.1.hO=true then a.1 else
 let p:=hX a.1 a.2.1 0
 if p.2.r=true/\p.2.n=0 then{p.1 with e:={p.1.e with h6:=2,v:=v,pc:=p.1.jY,r:=p.1.sr}} else
 let r:=hX p.1 a.2.1 1
 if qw r.1.js p.2 r.2=true then kL r.1 else
 tD (ib (ib r.1 1 0 p.2) 1 1 v) r.2.n
theorem A_(x:XP)(E:Nat)(ak c n:Int):j2 x ⟨14,E,ak,c,n⟩=xD (hU x) (x.sr E):=by
 have h:j2 x ⟨14,E,ak,c,n⟩=(if(hU x).1.hO=true then(hU x).1 else
  if(hX (hU x).1 (hU x).2.1 0).2.r=true/\(hX (hU x).1 (hU x).2.1 0).2.n=0 then{(hX (hU x).1 (hU x).2.1 0).1 with e:={(hX (hU x).1 (hU x).2.1 0).1.e with h6:=2,v:=x.sr E,pc:=(hX (hU x).1 (hU x).2.1 0).1.jY,r:=(hX (hU x).1 (hU x).2.1 0).1.sr}} else
  if(hX (hU x).1 (hU x).2.1 0).2.r=false∨(hX (hX (hU x).1 (hU x).2.1 0).1 (hU x).2.1 1).2.r=true∨i9 (hX (hX (hU x).1 (hU x).2.1 0).1 (hU x).2.1 1).1.js (hX (hX (hU x).1 (hU x).2.1 0).1 (hU x).2.1 1).2.n=false then kL (hX (hX (hU x).1 (hU x).2.1 0).1 (hU x).2.1 1).1 else
  tD (ib (ib (hX (hX (hU x).1 (hU x).2.1 0).1 (hU x).2.1 1).1 1 0 (hX (hU x).1 (hU x).2.1 0).2) 1 1 (x.sr E)) (hX (hX (hU x).1 (hU x).2.1 0).1 (hU x).2.1 1).2.n):=by
  unfold j2;dsimp only;rw[Q_ d_,Q_ d_,Q_ d_,Q_ d_,T_ rfl]
  rfl
 rw[h];unfold xD qw;simp only[Fr]
def pf(l:List In)(p r:Vl):Nat:=if p.r=false then 2 else if r.r=true then 3 else if i9 l r.n=false then 4 else 5
theorem zY(l:List In)(p r:Vl):pf l p r=2∨pf l p r=3∨pf l p r=4∨pf l p r=5:=by
 unfold pf
 repeat' split
 all_goals simp
theorem retKC_2{p r:Vl}(h:pf l p r=2):p.r=false:=by
 unfold pf at h
 cases hp:p.r with
 |false=>rfl
 |true=>rw[Q_ (by rw[hp];decide)]at h;split at h<;>first|(cases h;done)|(split at h<;>cases h)
theorem retKC_3{p r:Vl}(h:pf l p r=3):p.r=true/\r.r=true:=by
 unfold pf at h
 cases hp:p.r with
 |false=>rw[T_ hp]at h;cases h
 |true=>
  rw[Q_ (by rw[hp];decide)]at h
  cases hr:r.r with
  |true=>exact⟨rfl,rfl⟩
  |false=>rw[Q_ (by rw[hr];decide)]at h;split at h<;>cases h
theorem retKC_45{p r:Vl}{k:Nat}(hk:k=4∨k=5)(h:pf l p r=k):p.r=true/\r.r=false/\i9 l r.n=decide (k=5):=by
 unfold pf at h
 cases hp:p.r with
 |false=>rw[T_ hp]at h;omega
 |true=>
  rw[Q_ (by rw[hp];decide)]at h
  cases hr:r.r with
  |true=>rw[T_ hr]at h;omega
  |false=>
   rw[Q_ (by rw[hr];decide)]at h;refine⟨rfl,rfl,?_⟩
   cases hm:i9 l r.n with
   |false=>rw[T_ hm]at h;subst h;rfl
   |true=>rw[Q_ (by rw[hm];decide)]at h;subst h;rfl
theorem rest_14(b w:World)(gx:Nat)(x:X1)(E:Nat)(ak c:Int)(n:Int)(L:kq b w gx x)(ha:E<16)(hs:x.p.e.sm 800000):
 Calls prog 121 #[q_ gx,.agg #[i_ 14,i_ (E:Int),i_ ak,i_ c,i_ n]] w (kP (.tuple #[]) (j2 x.p ⟨14,E,ak,c,n⟩) b gx w):=by
 obtain⟨P,hP⟩:=mn_ (j2 x.p ⟨14,E,ak,c,n⟩);have u:=h_ ((A_ x.p E ak c n).symm.trans hP);rw[hP];clear hP;obtain⟨R,a,aK,A,l,N,az,t⟩:=rR L #[i_ 14,i_ (E:Int),i_ ak,i_ c,i_ n]
 go_enter func121,ntmps121
 go_upto_region 1 with fail
 clear aK A;have U:=N.f_ 0;have V:Gr [] R R.drew:=(F_ [] R).drew;refine hQ (λw'=>(w'.cell? (c_ a 0)=some (i_ 14)/\w'.cell? (c_ a 1)=some (i_ (E:Int))/\w'.cell? (c_ a 2)=some (i_ ak)/\w'.cell? (c_ a 3)=some (i_ c)/\w'.cell? (c_ a 4)=some (i_ n))/\w'.cell? (c_ gx (4+E*2))=some (.bool (x.sr E).r)/\w'.cell? (c_ gx (4+E*2+1))=some (i_ (x.sr E).n)) 10 k_ ?_;have C:=And.intro N.drew.c5 (uZ (l.bk.drew) ha);have aS:(0:Int)<=(E:Int):=o_;have aJ:(E:Int)<16:=o_
 iterate 8 refine jW C ?_
 refine h4 8 λK H=>?_
 go_simp;clear C
 refine h5 H (rz N l.bk ha) λC=>?_
 clear H K
 refine h4 9 λK H=>?_
 go_simp;clear C
 refine h5 H (rz N l.bk ha) λC=>?_
 clear H K;refine hN k_ ?_ _;obtain⟨aH,aL,bC,D,W,aM,bB,au,aW⟩:=yH l N az #[.bool (x.sr E).r,i_ (x.sr E).n];rw[bC,D];clear bC D l N az V C;have U:=aM.f_ 0
 go_upto_region 23 with(go_at_call 161;((with_reducible refine(mN b _ gx x W (G_ hs.rs d_)).mono ?_);unfold uu;rintro e ae⟨aj,rfl,B,bJ,S⟩;have ai:=h_ bJ;clear bJ))
 have a8:=lS hs;rw[<-ai.out]at a8;obtain⟨f,aR⟩:=mn_ ((hU x.p).2.1);rw[aR];have aC:=h_ aR;clear aR;generalize (hU x.p).2.2=b8 at*;have i:=bB.xg S aW;have z:=au.trans S;have d:ae.cell? (c_ gx 81)=some (.bool aj.hO):=(B.bk.f_ 81).trans rfl;clear W aM au bB S U
 cases F:aj.hO with
 |true=>
  have HM:Hid (P=aj.p):=h_ (by rw[<-u.out];unfold xD;rw[T_ (by rw[<-ai.out];exact F),ai.out]);rw[F]at d;clear F;go_wp2;refine rn_ ?_;rw[HM.out];exact⟨aj,rfl,B,rfl,z⟩
 |false=>
  rw[F]at d;obtain⟨p,hv⟩:=mn_ ((hX aj.p f 0).2);have ay:=h_ hv;clear hv
  have aZ:Hid (P=(if p.r=true/\p.n=0 then{(hX aj.p f 0).1 with e:={(hX aj.p f 0).1.e with h6:=2,v:=x.sr E,pc:=(hX aj.p f 0).1.jY,r:=(hX aj.p f 0).1.sr}} else
   let r:=hX (hX aj.p f 0).1 f 1
   if qw r.1.js p r.2=true then kL r.1 else tD (ib (ib r.1 1 0 p) 1 1 (x.sr E)) r.2.n)):=h_ (by
   rw[<-u.out];unfold xD;rw[Q_ (by rw[<-ai.out];show ¬aj.hO=true;rw[F];decide),aC.out,<-ai.out,<-ay.out]
   rfl)
  clear u ai aC F;have bX:aj.e.rs.l.length<=1000000:=G_ a8.rs d_
  go_upto_region 25 with(go_at_call 118;((with_reducible refine(jQ b _ gx aj f 0 B bX).mono ?_);unfold mQ;rintro e T⟨O,rfl,av,aQ,Z⟩;have aV:=h_ aQ;clear aQ;rw[ay.out]))
  have bp:=kc a8 f 0;rw[<-aV.out]at bp
  have b4:Hid (P=(if p.r=true/\p.n=0 then{O.p with e:={O.p.e with h6:=2,v:=x.sr E,pc:=O.p.jY,r:=O.p.sr}} else
   let r:=hX O.p f 1
   if qw r.1.js p r.2=true then kL r.1 else tD (ib (ib r.1 1 0 p) 1 1 (x.sr E)) r.2.n)):=h_ (by rw[aZ.out,<-aV.out])
  clear aZ ay d;have a7:=av.hG ((F_ [] T).alloc (.cells #[.bool p.r,i_ p.n] 38));have cJ:=P_ T 38 #[.bool p.r,i_ p.n];have aN:=(i.xg Z aW).alloc (.cells #[.bool p.r,i_ p.n] 38);have bi:=(z.trans Z).hG ((F_ [] T).alloc (.cells #[.bool p.r,i_ p.n] 38));have cg:T.heap.size≠gx:=ov av.bk.lt;obtain⟨o,bG⟩:=nm_ (T.alloc (.cells #[.bool p.r,i_ p.n] 38));rw[<-bG]at a7 cJ aN bi |-;clear bG;clear av Z B z i;generalize T.heap.size=bS at*;have U:=cJ.f_ 0;have ad:=cJ.f_ 1
  go_cut [189] (λy aX=>y=.bool (decide (p.r=true/\p.n=0))/\aX=o)
  case first=>
   cases I:p.r with
   |false=>
    rw[I]at U;have a6:=h_ (show decide (p.r=true/\p.n=0)=false by simp[I]);clear I;exact Lw
   |true=>
    rw[I]at U;have a6:=h_ (show decide (p.r=true/\p.n=0)=(p.n==0) by simp[I,Bool.beq_eq_decide_eq]);clear I;exact Lw
  case rest=>
   obtain⟨rfl,d4⟩:=hcut;subst wc
   by_cases aU:p.r=true/\p.n=0
   .have HM:Hid (P={O.p with e:={O.p.e with h6:=2,v:=x.sr E,pc:=O.p.jY,r:=O.p.sr}}):=h_ (by rw[b4.out,T_ aU]);have q:decide (p.r=true/\p.n=0)=true:=E8 aU;rw[q];clear q aU b4;clear U ad cJ
    go_upto_region 26 with fail
    have k:=a7.bk.drew;refine hQ (λw'=>(∀j,j<33->w'.cell? (c_ gx (3+j))=(iJ O.jY O.sr)[j]?)/\w'.cell? (c_ aL 0)=some (.bool (x.sr E).r)/\w'.cell? (c_ aL 1)=some (i_ (x.sr E).n)) 20 k_ ?_
    refine nt ⟨λj hj=>by rw[k.f_];exact mq O j hj,aN.drew.f_ 0,aN.drew.f_ 1⟩ λC=>?_
    (iterate 7 refine jW C ?_)
    refine iP 7 (v:=.agg (iJ O.jY O.sr)) C ?_ (hy:=(Or.inl ⟨r_,λw' bR=>lL 49 _ rfl gx 3 r_ _ (λj hj=>bR.1 j hj) _ underlying49 rfl k_⟩))
    (iterate 3 refine jW C ?_)
    have b6:o.cell? (c_ gx 38)=some (i_ O.e.h6):=(a7.bk.f_ 38).trans rfl;have bT:=a7.bk.hH 38
    refine h4 11 λK H=>?_
    go_simp;have aT:Bk ((o.setCell (c_ gx 38) (i_ 2)).drew) gx 186 ({O with e:={O.e with h6:=2}}:X1).g_:=(a7.bk).hW 38 (i_ 2);have bF:Bk ((o.setCell (c_ gx 38) (i_ 2)).drew) aL 38 #[.bool (x.sr E).r,i_ (x.sr E).n]:=(aN).ih (p:=(c_ gx 38)) aW (i_ 2);have aP:Gr [gx] o ((o.setCell (c_ gx 38) (i_ 2)).drew):=Gr.drew <| ((F_ [gx] o)).setCell (p:=(c_ gx 38)) (.inl s_) (i_ 2);obtain⟨s,bW⟩:=nm_ ((o.setCell (c_ gx 38) (i_ 2)).drew);rw[<-bW]at aT bF aP |-;clear bW C
    refine h5 H ⟨λj hj=>by rw[aT.f_];exact mq ({O with e:={O.e with h6:=2}}:X1) j hj,bF.f_ 0,bF.f_ 1⟩ λC=>?_
    clear H K;clear b6 bT
    (iterate 3 refine jW C ?_)
    have ce:s.cell? (c_ gx 79)=some (.bool O.e.v.r):=(aT.f_ 79).trans rfl;have cf:s.cell? (c_ gx 80)=some (i_ O.e.v.n):=(aT.f_ 80).trans rfl;have b9:=aT.hH 79;have ca:=aT.hH 80
    refine h4 15 λK H=>?_
    go_simp;have bt:Bk ((s.setCell (c_ gx 79) (.bool (x.sr E).r)).setCell (c_ gx 80) (i_ (x.sr E).n)) gx 186 ({O with e:={O.e with h6:=2,v:=x.sr E}}:X1).g_:=((aT).hW 79 (.bool (x.sr E).r)).hW 80 (i_ (x.sr E).n);have bK:Bk ((s.setCell (c_ gx 79) (.bool (x.sr E).r)).setCell (c_ gx 80) (i_ (x.sr E).n)) aL 38 #[.bool (x.sr E).r,i_ (x.sr E).n]:=((bF).ih (p:=(c_ gx 79)) aW (.bool (x.sr E).r)).ih (p:=(c_ gx 80)) aW (i_ (x.sr E).n);have bl:Gr [gx] o ((s.setCell (c_ gx 79) (.bool (x.sr E).r)).setCell (c_ gx 80) (i_ (x.sr E).n)):=((aP).setCell (p:=(c_ gx 79)) (.inl s_) (.bool (x.sr E).r)).setCell (p:=(c_ gx 80)) (.inl s_) (i_ (x.sr E).n);obtain⟨bz,b5⟩:=nm_ ((s.setCell (c_ gx 79) (.bool (x.sr E).r)).setCell (c_ gx 80) (i_ (x.sr E).n));rw[<-b5]at bt bK bl |-;clear b5 C
    refine h5 H ⟨λj hj=>by rw[bt.f_];exact mq ({O with e:={O.e with h6:=2,v:=x.sr E}}:X1) j hj,bK.f_ 0,bK.f_ 1⟩ λC=>?_
    clear H K;clear ce b9 cf ca
    iterate 3 refine jW C ?_
    refine h4 19 λK H=>?_
    rw[T_ r_];refine jF 49 _ _ rfl gx 39 r_ (iJ O.jY O.sr) r_ 186 _ bt (by show 39+33<=82;decide) k_ (nU _ _) ?_;intro X bH G;rw[na]at bH;have bD:=bK.gr G (zu aW);clear C
    refine h5 H ⟨λj hj=>by rw[bH.f_];exact mq ({O with e:={O.e with h6:=2,v:=x.sr E,pc:=O.jY,r:=O.sr}}:X1) j hj,bD.f_ 0,bD.f_ 1⟩ λC=>?_
    clear H K;refine hN k_ ?_ _;go_wp2;refine en_ ?_;rw[HM.out];exact⟨_,rfl,a7.rP (x':=({O with e:={O.e with h6:=2,v:=x.sr E,pc:=O.jY,r:=O.sr}}:X1)) (bl.trans G) bH rfl rfl rfl rfl rfl rfl rfl,rfl,bi.iu (bl.trans G)⟩
   .have q:decide (p.r=true/\p.n=0)=false:=FH aU;rw[q];obtain⟨r,hr⟩:=mn_ ((hX O.p f 1).2);have bg:=h_ hr;clear hr;have bN:Hid (P=if qw (hX O.p f 1).1.js p r=true then kL (hX O.p f 1).1 else tD (ib (ib (hX O.p f 1).1 1 0 p) 1 1 (x.sr E)) r.n):=h_ (by rw[b4.out,Q_ aU,<-bg.out]);clear q b4;have b7:O.e.rs.l.length<=1000000:=G_ bp.rs d_
    go_upto_region 28 with(go_at_call 118;((with_reducible refine(jQ b _ gx O f 1 a7 b7).mono ?_);unfold mQ;rintro e ax⟨aO,rfl,aY,bj,aB⟩;have bO:=h_ bj;clear bj;rw[bg.out]))
    have bE:=kc bp f 1;rw[<-bO.out]at bE;have aq:Hid (P=if qw aO.js.l p r=true then kL aO.p else tD (ib (ib aO.p 1 0 p) 1 1 (x.sr E)) r.n):=h_ (by rw[bN.out,<-bO.out];rfl);clear bN U ad;have m:=aY.hG ((F_ [] ax).alloc (.cells #[.bool r.r,i_ r.n] 38));have ar:=P_ ax 38 #[.bool r.r,i_ r.n];have be:=(aN.xg aB aW).alloc (.cells #[.bool r.r,i_ r.n] 38);have M:=(cJ.xg aB cg).alloc (.cells #[.bool r.r,i_ r.n] 38);have h:=(bi.trans aB).hG ((F_ [] ax).alloc (.cells #[.bool r.r,i_ r.n] 38));have aE:ax.heap.size≠gx:=ov aY.bk.lt;obtain⟨Q,bL⟩:=nm_ (ax.alloc (.cells #[.bool r.r,i_ r.n] 38));rw[<-bL]at m ar be M h |-;clear bL;clear aY aB a7 bi aN cJ;generalize ax.heap.size=gr at*;clear aV bO bg aU
    rcases zY aO.js.l p r with hk|hk|hk|hk
    .have bQ:=h_ hk;clear hk;have I:=retKC_2 bQ.out;refine hQ (λw'=>w'.cell? (c_ bS 0)=some (.bool false)/\w'.cell? (c_ gr 0)=some (.bool r.r)/\w'.cell? (c_ gr 1)=some (i_ r.n)/\w'.cell? (c_ gx 0)=some (.slice aO.js.A aO.js.l.length aO.js.c)/\w'.cell? (c_ gx 1)=some (i_ aO.hI)/\w'.cell? (c_ gx 2)=some (i_ aO.hF)) 17 k_ ?_;have a2:Gr [] Q Q.drew:=(F_ [] Q).drew;obtain⟨aF,J⟩:=nm_ Q.drew;rw[<-J]at a2 |-;clear J
     refine nt ⟨(((M.hG a2)).f_ 0).trans (by rw[I];rfl),(((ar.hG a2)).f_ 0).trans r_,((ar.hG a2)).f_ 1,(((m.hG a2)).bk.f_ 0).trans rfl,(((m.hG a2)).bk.f_ 1).trans rfl,(((m.hG a2)).bk.f_ 2).trans rfl⟩ λC=>?_
     (iterate 4 refine jW C ?_)
     refine iP 4 (v:=undef) C ?_ (hy:=(Or.inr ⟨k_,rfl⟩));refine iP 5 (v:=undef) C ?_ (hy:=(Or.inr ⟨k_,rfl⟩))
     (iterate 2 refine jW C ?_)
     refine iP 8 (v:=undef) C ?_ (hy:=(Or.inr ⟨k_,rfl⟩));refine iP 9 (v:=undef) C ?_ (hy:=(Or.inr ⟨k_,rfl⟩));refine iP 10 (v:=undef) C ?_ (hy:=(Or.inr ⟨k_,rfl⟩));refine iP 11 (v:=undef) C ?_ (hy:=(Or.inr ⟨k_,rfl⟩));refine iP 12 (v:=undef) C ?_ (hy:=(Or.inr ⟨k_,rfl⟩));refine iP 13 (v:=undef) C ?_ (hy:=(Or.inr ⟨k_,rfl⟩));refine iP 14 (v:=undef) C ?_ (hy:=(Or.inr ⟨k_,rfl⟩));refine iP 15 (v:=undef) C ?_ (hy:=(Or.inr ⟨k_,rfl⟩));refine iP 16 C ?_;have g:=a2;refine hN k_ ?_ _;clear C;replace m:=m.hG g;replace ar:=ar.hG g;replace M:=M.hG g;replace be:=be.hG g;replace h:=h.hG g;clear g a2
     have bw:qw aO.js.l p r=true:=by unfold qw;simp[I]
     clear I bQ;exact Ia
    .have bQ:=h_ hk;clear hk;obtain⟨I,cq⟩:=retKC_3 bQ.out;refine hQ (λw'=>w'.cell? (c_ bS 0)=some (.bool true)/\w'.cell? (c_ gr 0)=some (.bool true)/\w'.cell? (c_ gr 1)=some (i_ r.n)/\w'.cell? (c_ gx 0)=some (.slice aO.js.A aO.js.l.length aO.js.c)/\w'.cell? (c_ gx 1)=some (i_ aO.hI)/\w'.cell? (c_ gx 2)=some (i_ aO.hF)) 17 k_ ?_;have a2:Gr [] Q Q.drew:=(F_ [] Q).drew;obtain⟨aF,J⟩:=nm_ Q.drew;rw[<-J]at a2 |-;clear J
     refine nt ⟨(((M.hG a2)).f_ 0).trans (by rw[I];rfl),(((ar.hG a2)).f_ 0).trans (by rw[cq];rfl),((ar.hG a2)).f_ 1,(((m.hG a2)).bk.f_ 0).trans rfl,(((m.hG a2)).bk.f_ 1).trans rfl,(((m.hG a2)).bk.f_ 2).trans rfl⟩ λC=>?_
     (iterate 8 refine jW C ?_)
     refine iP 8 (v:=undef) C ?_ (hy:=(Or.inr ⟨k_,rfl⟩));refine iP 9 (v:=undef) C ?_ (hy:=(Or.inr ⟨k_,rfl⟩));refine iP 10 (v:=undef) C ?_ (hy:=(Or.inr ⟨k_,rfl⟩));refine iP 11 (v:=undef) C ?_ (hy:=(Or.inr ⟨k_,rfl⟩));refine iP 12 (v:=undef) C ?_ (hy:=(Or.inr ⟨k_,rfl⟩));refine iP 13 (v:=undef) C ?_ (hy:=(Or.inr ⟨k_,rfl⟩));refine iP 14 (v:=undef) C ?_ (hy:=(Or.inr ⟨k_,rfl⟩));refine iP 15 (v:=undef) C ?_ (hy:=(Or.inr ⟨k_,rfl⟩));refine iP 16 C ?_;have g:=a2;refine hN k_ ?_ _;clear C;replace m:=m.hG g;replace ar:=ar.hG g;replace M:=M.hG g;replace be:=be.hG g;replace h:=h.hG g;clear g a2
     have bw:qw aO.js.l p r=true:=by unfold qw;simp[cq]
     clear I cq bQ;exact Ia
    .have bQ:=h_ hk;clear hk;obtain⟨I,cq,hm⟩:=retKC_45 (.inl rfl) bQ.out;replace hm:i9 aO.js.l r.n=false:=hm;refine hQ (λw'=>w'.cell? (c_ bS 0)=some (.bool true)/\w'.cell? (c_ gr 0)=some (.bool false)/\w'.cell? (c_ gr 1)=some (i_ r.n)/\w'.cell? (c_ gx 0)=some (.slice aO.js.A aO.js.l.length aO.js.c)/\w'.cell? (c_ gx 1)=some (i_ aO.hI)/\w'.cell? (c_ gx 2)=some (i_ aO.hF)) 17 k_ ?_;have a2:Gr [] Q Q.drew:=(F_ [] Q).drew;obtain⟨aF,J⟩:=nm_ Q.drew;rw[<-J]at a2 |-;clear J
     refine nt ⟨(((M.hG a2)).f_ 0).trans (by rw[I];rfl),(((ar.hG a2)).f_ 0).trans (by rw[cq];rfl),((ar.hG a2)).f_ 1,(((m.hG a2)).bk.f_ 0).trans rfl,(((m.hG a2)).bk.f_ 1).trans rfl,(((m.hG a2)).bk.f_ 2).trans rfl⟩ λC=>?_
     iterate 14 refine jW C ?_
     refine h4 14 λK H=>?_
     go_simp
     (go_at_call 162;have q:=oM aO.js.A aO.js.c aO.js.l aO.hI aO.hF r.n aF (m.hG a2).Dg m.il;rw[hm]at q;refine q.mono ?_;rintro e bq⟨rfl,br⟩)
     have g:=a2.trans br;clear C
     refine h5 H ⟨(((M.hG g)).f_ 0).trans (by rw[I];rfl),(((ar.hG g)).f_ 0).trans (by rw[cq];rfl),((ar.hG g)).f_ 1,(((m.hG g)).bk.f_ 0).trans rfl,(((m.hG g)).bk.f_ 1).trans rfl,(((m.hG g)).bk.f_ 2).trans rfl⟩ λC=>?_
     clear H K
     (iterate 2 refine jW C ?_)
     refine hN k_ ?_ _;clear C;replace m:=m.hG g;replace ar:=ar.hG g;replace M:=M.hG g;replace be:=be.hG g;replace h:=h.hG g;clear g a2
     have bw:qw aO.js.l p r=true:=by unfold qw;simp[hm]
     clear I cq hm bQ;have HM:Hid (P=({aO with hO:=true}:X1).p):=h_ (by rw[aq.out,T_ bw];rfl);clear bw aq;have d:bq.cell? (c_ gx 81)=some (.bool aO.hO):=(m.bk.f_ 81).trans rfl;exact IP
    .have bQ:=h_ hk;clear hk;obtain⟨I,cq,hm⟩:=retKC_45 (.inr rfl) bQ.out;replace hm:i9 aO.js.l r.n=true:=hm;refine hQ (λw'=>w'.cell? (c_ bS 0)=some (.bool true)/\w'.cell? (c_ gr 0)=some (.bool false)/\w'.cell? (c_ gr 1)=some (i_ r.n)/\w'.cell? (c_ gx 0)=some (.slice aO.js.A aO.js.l.length aO.js.c)/\w'.cell? (c_ gx 1)=some (i_ aO.hI)/\w'.cell? (c_ gx 2)=some (i_ aO.hF)) 17 k_ ?_;have a2:Gr [] Q Q.drew:=(F_ [] Q).drew;obtain⟨aF,J⟩:=nm_ Q.drew;rw[<-J]at a2 |-;clear J
     refine nt ⟨(((M.hG a2)).f_ 0).trans (by rw[I];rfl),(((ar.hG a2)).f_ 0).trans (by rw[cq];rfl),((ar.hG a2)).f_ 1,(((m.hG a2)).bk.f_ 0).trans rfl,(((m.hG a2)).bk.f_ 1).trans rfl,(((m.hG a2)).bk.f_ 2).trans rfl⟩ λC=>?_
     iterate 14 refine jW C ?_
     refine h4 14 λK H=>?_
     go_simp
     (go_at_call 162;have q:=oM aO.js.A aO.js.c aO.js.l aO.hI aO.hF r.n aF (m.hG a2).Dg m.il;rw[hm]at q;refine q.mono ?_;rintro e bq⟨rfl,br⟩)
     have g:=a2.trans br;clear C
     refine h5 H ⟨(((M.hG g)).f_ 0).trans (by rw[I];rfl),(((ar.hG g)).f_ 0).trans (by rw[cq];rfl),((ar.hG g)).f_ 1,(((m.hG g)).bk.f_ 0).trans rfl,(((m.hG g)).bk.f_ 1).trans rfl,(((m.hG g)).bk.f_ 2).trans rfl⟩ λC=>?_
     clear H K
     (iterate 2 refine jW C ?_)
     refine hN k_ ?_ _;clear C;replace m:=m.hG g;replace ar:=ar.hG g;replace M:=M.hG g;replace be:=be.hG g;replace h:=h.hG g;clear g a2
     have bw:qw aO.js.l p r=false:=by unfold qw;simp[I,cq,hm]
     clear I cq hm bQ;have HM:Hid (P=tD (ib (ib aO.p 1 0 p) 1 1 (x.sr E)) r.n):=h_ (by rw[aq.out,Q_ (by rw[bw];decide)]);clear bw aq;have d9:aO.e.ws.l.length<=1000000:=G_ bE.ws d_;have U:=M.f_ 0;have ad:=M.f_ 1
     go_upto_region 31 with(go_at_call 163;((with_reducible refine(j3 b _ gx aO 1 0 p m d9).mono ?_);unfold kP;rintro e bq⟨bI,rfl,bu,ao,bA⟩;have bn:=h_ ao;clear ao))
     have bM:=h_ bn.out;clear bn;have am:=bu;have bP:=h.trans bA;have bo:=be.xg bA aW;have ap:=ar.xg bA aE
     have dG:bI.e.ws.l.length<=1000000:=by
      have e:bI.e.ws.l=aO.e.ws.l++[⟨1,0,p⟩]:=ED (λp:XP=>p.e.ws) bM.out;rw[e,J_]
      have:=bE.ws
      have aG:aO.p.e.ws.length=aO.e.ws.l.length:=rfl;simp only[Z_,EY];omega
     clear bu bA U ad;have U:=bo.f_ 0;have ad:=bo.f_ 1
     go_upto_region 32 with(go_at_call 163;((with_reducible refine(j3 b _ gx bI 1 1 (x.sr E) am dG).mono ?_);unfold kP;rintro e X⟨aI,rfl,bu,ao,bA⟩;have bn:=h_ ao;clear ao))
     have Y:=h_ bn.out;clear bn;have ag:=bu;have aD:=bP.trans bA;have aw:=ap.xg bA aE;clear bu bA U ad
     have af:Hid (P=({aI with e:={aI.e with pc:=r.n}}:X1).p):=h_ (by
      rw[HM.out,<-bM.out,<-Y.out]
      rfl)
     have ad:=aw.f_ 1;have bZ:X.cell? (c_ gx 39)=some (i_ aI.e.pc):=(ag.bk.f_ 39).trans rfl;have b0:=ag.bk.hH 39;go_wp2;have bY:=ag.set (x':={aI with e:={aI.e with pc:=r.n}}) 39 (i_ r.n) rfl rfl rfl rfl rfl rfl rfl rfl;refine en_ ?_;rw[af.out];exact⟨_,rfl,bY,rfl,aD.iu ((F_ [gx] _).setCell (.inl s_) _)⟩
theorem yq{E:Prop}(V:o.guard=none)(s x:Operand)(t:TypeId)(ho:o.op=.call {callee:=.builtin .append,args:=#[s,x],argTypes:=#[t,t]})(base:Nat)(e:TypeId)(i:TypeInfo)(z:Value)(size bytes:Nat)(ht:P.underlying t=some (.slice e))(hi:P.info? e=some i)(hz:i.zero=some z)(q:i.size=size)(p:i.bytes=bytes)(C:z.cells.size=size)(aL:0<size)(v:Value)(n:Nat)(xs:List Value)(hs:a.eval s=v)(aF:w.ownsRow base e size v n xs)(d:Addr)(m c:Nat)(news:List Value)(hx:a.eval x=.slice (some d) m c)(hl:news.length=m*size)(f:∀j u,news[j]?=some u->w.cell? (d.add j)=some u)(h1:∀u∈news,u.oneCell'=true)(l:n+m<=maxLen)(y:(n+m)*bytes<=140737488355328)(br:base<=w.heap.size)(h:∀(A':OA) (c':Nat) (w':World),w'.ownsRow base e size (.slice A' (n+m) c') (n+m) (xs++news)->w.grownBy w' v.ownBlock->K (a.put o.dst (.slice A' (n+m) c')) w'):
 if Region.wanted o (yielded ops a.tmps)=true then Oper.wp P o a w K Q else E:=by
 have aM:Region.wanted o (yielded ops a.tmps)=true:=by simp[Region.wanted,V]
 rw[T_ aM];obtain⟨v',w',N,h2,h3,_⟩:=run_append_own (P:=P) w base t o.type e i z size bytes ht hi hz q p C aL v n xs aF d m c news hl f h1 l y br;have hf:∃A' c',v'=.slice A' (n+m) c':=J6;obtain⟨A',c',rfl⟩:=hf;exact Jz
theorem zH(k:Nat)(hk:k<=16):∀j u,(jd ((List.range k).map x.sr))[j]?=some u->x.g_[4+j]?=some u:=by
 intro j u hj
 have ag:j<k*2:=by
  have:=(FX.1 hj).1
  rw[lN,E5,Ge]at this;exact this
 have h2:j=(j / 2)*2+j % 2:=o_
 have hg:(jd ((List.range k).map x.sr))[(j / 2)*2+j % 2]?=(Vl.E (x.sr (j / 2)))[j % 2]?:=by
  unfold jd;rw[jV Vl.E (λ_=>rfl) _ (j / 2) (j % 2) (by rw[E5,Ge];omega) o_,FR,Gb]
 rw[<-h2,hj]at hg;obtain⟨s1,b0⟩:=uA x (j / 2) o_
 rcases Gf j with h|h
 .rw[h]at hg h2;have e:4+j=4+j / 2*2:=o_;rw[e,s1];exact hg.symm
 .rw[h]at hg h2;have e:4+j=4+j / 2*2+1:=o_;rw[e,b0];exact hg.symm
theorem Ae(w:World)(u v z:Vl):(w.alloc (.cells #[.bool u.r,i_ u.n,.bool v.r,i_ v.n,.bool z.r,i_ z.n] 38)).ownsRow w.heap.size 38 2 (.slice (j_ w.heap.size) 3 3) 3 (jd [u,v,z]):=
 ⟨rfl,.inr ⟨w.heap.size,3,_,rfl,H_ _,GQ w _,H_ _,d_,rfl,rfl⟩⟩
theorem rest_13(b w:World)(gx:Nat)(x:X1)(E d m:Nat)(n:Int)(L:kq b w gx x)(hb:d<=16)(hm:m<=1000000)(b6: -1<=x.jY)(bE:x.jY<=1000000)(ha:E<16)(hs:x.p.e.sm 800000):
 Calls prog 121 #[q_ gx,.agg #[i_ 13,i_ (E:Int),i_ (d:Int),i_ ((d:Int)+(m:Int)),i_ n]] w (kP (.tuple #[]) (j2 x.p ⟨13,E,d,((d:Int)+(m:Int)),n⟩) b gx w):=by
 obtain⟨R,a,aK,A,l,N,az,t⟩:=rR L #[i_ 13,i_ (E:Int),i_ (d:Int),i_ ((d:Int)+(m:Int)),i_ n]
 go_enter func121,ntmps121
 go_upto_region 1 with fail
 clear aK A;have U:=N.f_ 0;have V:Gr [] R R.drew:=(F_ [] R).drew;refine hQ (λw'=>(w'.cell? (c_ a 0)=some (i_ 13)/\w'.cell? (c_ a 1)=some (i_ (E:Int))/\w'.cell? (c_ a 2)=some (i_ (d:Int))/\w'.cell? (c_ a 3)=some (i_ ((d:Int)+(m:Int)))/\w'.cell? (c_ a 4)=some (i_ n))/\w'.cell? (c_ gx (4+E*2))=some (.bool (x.sr E).r)/\w'.cell? (c_ gx (4+E*2+1))=some (i_ (x.sr E).n)) 10 k_ ?_;have C:=And.intro N.drew.c5 (uZ (l.bk.drew) ha);have aS:(0:Int)<=(E:Int):=o_;have aJ:(E:Int)<16:=o_
 iterate 8 refine jW C ?_
 refine h4 8 λK H=>?_
 go_simp;clear C
 refine h5 H (rz N l.bk ha) λC=>?_
 clear H K
 refine h4 9 λK H=>?_
 go_simp;clear C
 refine h5 H (rz N l.bk ha) λC=>?_
 clear H K;refine hN k_ ?_ _;obtain⟨aH,aL,bC,D,W,aM,bB,au,aW⟩:=yH l N az #[.bool (x.sr E).r,i_ (x.sr E).n];rw[bC,D];clear bC D l N az V C;have U:=aM.f_ 0
 go_upto_region 16 with(go_at_call 161;((with_reducible refine(mN b _ gx x W (G_ hs.rs d_)).mono ?_);unfold uu;rintro e ae⟨aj,rfl,B,bJ,S⟩;have ai:=h_ bJ;clear bJ))
 clear U;have a8:=lS hs;rw[<-ai.out]at a8;have bM:=tT x.p;rw[<-ai.out]at bM;obtain⟨f,aR⟩:=mn_ ((hU x.p).2.1);rw[aR];have aC:=h_ aR;clear aR;generalize (hU x.p).2.2=b8 at*
 have aZ:Hid ((j2 x.p ⟨13,E,d,((d:Int)+(m:Int)),n⟩)=tD (ib {aj.p with e:={aj.p.e with nw:=[⟨aj.nx,[⟨true,f⟩,⟨false,aj.jY+1⟩,default]++((List.range d).map aj.sr++List.replicate m default)⟩]}} 1 0 ⟨true,aj.nx⟩) n):=h_ (by
  have aJ:(((d:Int)+(m:Int))-(d:Int)).toNat=m:=o_
  show tD (ib {(hU x.p).1 with e:={(hU x.p).1.e with nw:=[⟨(hU x.p).1.nx,[⟨true,(hU x.p).2.1⟩,⟨false,(hU x.p).1.jY+1⟩,default]++((List.range (d:Int).toNat).map (hU x.p).1.sr++List.replicate (((d:Int)+(m:Int))-(d:Int)).toNat default)⟩]}} 1 0 ⟨true,(hU x.p).1.nx⟩) n=_
  rw[aJ,aC.out,<-ai.out]
  rfl)
 clear ai aC;have bt:aj.jY=x.jY:=bM.jY
 have hq0: -1<=aj.jY:=by rw[bt];exact b6
 have hq1:aj.jY<=1000000:=by rw[bt];exact bE
 clear bt bM;have af:=aM.xg S t;have z:=au.trans S;have ar:aj.e.ws.l.length<=1000000:=G_ a8.ws d_;clear W aM bB au S a8;have aN:ae.cell? (c_ gx 3)=some (i_ aj.jY):=(B.bk.f_ 3).trans rfl
 go_upto_region 17 with fail
 clear aN;obtain⟨ap,P,ax,F,ay⟩:=info_parts infoVl;have cG:=Ae ae ⟨true,f⟩ ⟨false,aj.jY+1⟩ default;have Z:Gr [] ae (ae.alloc (.cells #[.bool true,i_ f,.bool false,i_ (aj.jY+1),.bool false,i_ 0] 38)).drew:=((F_ [] ae).alloc _).drew;refine hQ (λw'=>w'.cell? (c_ a 0)=some (i_ 13)/\w'.cell? (c_ a 1)=some (i_ (E:Int))/\w'.cell? (c_ a 2)=some (i_ (d:Int))/\w'.cell? (c_ a 3)=some (i_ ((d:Int)+(m:Int)))/\w'.cell? (c_ a 4)=some (i_ n)) 10 k_ ?_;have c:(ae.alloc (.cells #[.bool true,i_ f,.bool false,i_ (aj.jY+1),.bool false,i_ 0] 38)).drew.ownsRow ae.heap.size 38 2 (.slice (j_ ae.heap.size) 3 3) 3 (jd [⟨true,f⟩,⟨false,aj.jY+1⟩,default]):=iK cG ((F_ [] _).drew);clear cG;obtain⟨bL,ca⟩:=nm_ ((ae.alloc (.cells #[.bool true,i_ f,.bool false,i_ (aj.jY+1),.bool false,i_ 0] 38)).drew);rw[<-ca]at Z c |-;clear ca;have C:bL.cell? (c_ a 0)=some (i_ 13)/\bL.cell? (c_ a 1)=some (i_ (E:Int))/\bL.cell? (c_ a 2)=some (i_ (d:Int))/\bL.cell? (c_ a 3)=some (i_ ((d:Int)+(m:Int)))/\bL.cell? (c_ a 4)=some (i_ n):=(af.hG Z).c5;have aG:(0:Int)<=(d:Int):=o_;have bQ:(d:Int)<=16:=o_
 iterate 8 refine jW C ?_
 refine h4 8 λK H=>?_
 refine yq rfl _ _ _ rfl ae.heap.size 38 ap _ 2 16 underlying54 P ax F ay rfl d_ _ 3 _ r_ c (c_ gx 4) d 16 (jd ((List.range d).map aj.sr)) r_ (by rw[lN,E5,Ge]) (λj u hj=>by rw[pF,(B.hG Z).bk.f_];exact zH aj d o_ j u hj) (np _) (by simp only[maxLen];omega) o_ Z.size ?_;intro aY c5 Y am dC;have ah:Gr [] ae Y:=Z.grown dC (λk hk=>.inr (c.lt k hk).1);clear C
 refine h5 H (af.hG ah).c5 λC=>?_
 clear H K;refine iP 9 C ?_;refine hN k_ ?_ _;clear C c dC Z
 go_upto_region 18 with fail
 refine hQ (λw'=>(w'.cell? (c_ a 0)=some (i_ 13)/\w'.cell? (c_ a 1)=some (i_ (E:Int))/\w'.cell? (c_ a 2)=some (i_ (d:Int))/\w'.cell? (c_ a 3)=some (i_ ((d:Int)+(m:Int)))/\w'.cell? (c_ a 4)=some (i_ n))/\w'.cell? (c_ gx 37)=some (i_ aj.nx)) 17 k_ ?_;replace am:Y.drew.ownsRow ae.heap.size 38 2 (.slice aY (3+d) c5) (3+d) (jd [⟨true,f⟩,⟨false,aj.jY+1⟩,default]++jd ((List.range d).map aj.sr)):=am;replace ah:Gr [] ae Y.drew:=ah.drew;obtain⟨bz,y⟩:=nm_ Y.drew;rw[<-y]at ah am |-;clear y
 refine nt ⟨(af.hG ah).c5,((B.hG ah).bk.f_ 37).trans rfl⟩ λC=>?_
 (iterate 10 refine jW C ?_)
 refine iP 10 (v:=i_ (m:Int)) C ?_ (hy:=(Or.inl ⟨r_,by(intro w' bR;(try dsimp only at bR);(have e:IntKind.i64.wrap ((d:Int)+(m:Int)-(d:Int))=(m:Int):=(by rw[FU];omega);go_simp;try(first|with_reducible rfl|(rw[e]))))⟩))
 refine h4 11 λK H=>?_
 refine yp rfl _ _ _ _ rfl .i64 underlying3 ae.heap.size 38 ap _ 2 16 underlying54 P ax F ay rfl d_ d_ m (uy m) _ (3+d) _ r_ am .i64 r_ (by simp only[maxLen];omega) o_ ah.size ?_;intro aI aF Q cr ad;have aB:Gr [] ae Q:=ah.grown ad (λk hk=>.inr (am.lt k hk).1);clear C ad am ah
 refine h5 H ⟨(af.hG aB).c5,((B.hG aB).bk.f_ 37).trans rfl⟩ λC=>?_
 clear H K;refine iP 12 C ?_
 refine h4 13 λK H=>?_
 go_simp;have bO:Gr [] Q (Q.alloc (.cells #[i_ aj.nx,.slice aI (3+d+m) aF] 56)):=(F_ [] Q).alloc _;have br:Gr [] ae (Q.alloc (.cells #[i_ aj.nx,.slice aI (3+d+m) aF] 56)):=aB.trans bO;have aq:Bk (Q.alloc (.cells #[i_ aj.nx,.slice aI (3+d+m) aF] 56)) Q.heap.size 56 #[i_ aj.nx,.slice aI (3+d+m) aF]:=P_ Q _ _;have cj:=iK cr bO;clear C
 refine h5 H ⟨(af.hG br).c5,((B.hG br).bk.f_ 37).trans rfl⟩ λC=>?_
 clear H K;clear cr aB bO;obtain⟨bl,bU⟩:=nm_ (Q.alloc (.cells #[i_ aj.nx,.slice aI (3+d+m) aF] 56));rw[<-bU]at aq br cj C |-;clear bU;generalize Q.heap.size=i at*;have a7:=B.hG br;have s:=af.hG br;have bi:=z.hG br
 (iterate 3 refine jW C ?_)
 have J:bl.cell? (c_ gx 74)=some (.slice aj.e.nw.A aj.e.nw.l.length aj.e.nw.c):=(a7.bk.f_ 74).trans rfl;have G:=a7.bk.hH 74;have M:=(F_ [gx] bl).setCell (p:=(c_ gx 74)) (.inl s_) (.slice (j_ i) 1 1);have aO:Bk (bl.setCell (c_ gx 74) (.slice (j_ i) 1 1)) gx 186 ({aj with e:={aj.e with nw:=⟨some (c_ i 0),1,[⟨⟨aj.nx,[⟨true,f⟩,⟨false,aj.jY+1⟩,default]++((List.range d).map aj.sr++List.replicate m default)⟩,aI,aF⟩]⟩}}:X1).g_:=a7.bk.hW 74 (.slice (j_ i) 1 1)
 have aE:([⟨true,f⟩,⟨false,aj.jY+1⟩,default]++((List.range d).map aj.sr++List.replicate m default):List Vl).length=3+d+m:=by simp only[J_,Z_,EY,E5,Ge,Fa];omega
 have X:Vs bl aI ([⟨true,f⟩,⟨false,aj.jY+1⟩,default]++((List.range d).map aj.sr++List.replicate m default)):=by
  have q:=Sl.iT cj
  have e:jd ([⟨true,f⟩,⟨false,aj.jY+1⟩,default]++((List.range d).map aj.sr++List.replicate m default))=(jd [⟨true,f⟩,⟨false,aj.jY+1⟩,default]++jd ((List.range d).map aj.sr)++(Builtin.zeroCells #[.bool false,i_ 0] m).toList):=by rw[pU,pU,u4,Fc]
  unfold Vs;rw[e,aE];exact q
 have g:Os bl (j_ i) [⟨⟨aj.nx,[⟨true,f⟩,⟨false,aj.jY+1⟩,default]++((List.range d).map aj.sr++List.replicate m default)⟩,aI,aF⟩]:=by
  have q:=AR (r:=⟨⟨aj.nx,[⟨true,f⟩,⟨false,aj.jY+1⟩,default]++((List.range d).map aj.sr++List.replicate m default)⟩,aI,aF⟩) (by
   show Bk bl i 56 #[i_ aj.nx,.slice aI ([⟨true,f⟩,⟨false,aj.jY+1⟩,default]++((List.range d).map aj.sr++List.replicate m default):List Vl).length aF]
   rw[aE]
   exact aq)
  exact q
 have a2:oa bl [⟨⟨aj.nx,[⟨true,f⟩,⟨false,aj.jY+1⟩,default]++((List.range d).map aj.sr++List.replicate m default)⟩,aI,aF⟩]:=by
  intro r hr
  have:r=⟨⟨aj.nx,[⟨true,f⟩,⟨false,aj.jY+1⟩,default]++((List.range d).map aj.sr++List.replicate m default)⟩,aI,aF⟩:=zu hr
  subst this;exact⟨X,by show([⟨true,f⟩,⟨false,aj.jY+1⟩,default]++((List.range d).map aj.sr++List.replicate m default):List Vl).length<=1000000000;rw[aE];omega⟩
 have ag:=a7.Bc (x':=({aj with e:={aj.e with nw:=⟨some (c_ i 0),1,[⟨⟨aj.nx,[⟨true,f⟩,⟨false,aj.jY+1⟩,default]++((List.range d).map aj.sr++List.replicate m default)⟩,aI,aF⟩]⟩}}:X1)) M aO rfl rfl rfl rfl g a2 a7.ds a7.h7 (H_ 1) a7.rS a7.pE;have aD:=bi.iu M;have o:=s.gr M (zu t)
 refine h4 17 λK H=>?_
 go_simp;refine H.out _ _ (λh=>EK h d_) ?_;clear H K
 try simp only[a_]
 clear C a7 s bi X aq g a2 aO J G M cj br B af z;obtain⟨bP,I⟩:=nm_ ({aj with e:={aj.e with nw:=⟨some (c_ i 0),1,[⟨⟨aj.nx,[⟨true,f⟩,⟨false,aj.jY+1⟩,default]++((List.range d).map aj.sr++List.replicate m default)⟩,aI,aF⟩]⟩}}:X1);rw[<-I]at ag;have HM:Hid ((j2 x.p ⟨13,E,d,((d:Int)+(m:Int)),n⟩)=tD (ib bP.p 1 0 ⟨true,bP.nx⟩) n):=h_ (by rw[aZ.out,I];rfl)
 have ea:bP.e.ws.l.length<=1000000:=by rw[I];exact ar
 clear I aZ aE;obtain⟨bu,bW⟩:=nm_ (bl.setCell (c_ gx 74) (.slice (j_ i) 1 1));rw[<-bW]at ag o aD |-;clear bW;refine hN k_ ?_ _;have aP:bu.cell? (c_ gx 37)=some (i_ bP.nx):=(ag.bk.f_ 37).trans rfl
 go_upto_region 20 with(go_at_call 163;((with_reducible refine(j3 b _ gx bP 1 0 ⟨true,bP.nx⟩ ag ea).mono ?_);unfold kP;rintro e T⟨O,rfl,av,aQ,Z⟩;have aV:=h_ aQ;clear aQ))
 have aw:=aD.trans Z;have ak:=o.xg Z t;have ao:=ak.f_ 4;have bZ:T.cell? (c_ gx 39)=some (i_ O.e.pc):=(av.bk.f_ 39).trans rfl;have b0:=av.bk.hH 39;clear aP;go_wp2;have bY:=av.set (x':={O with e:={O.e with pc:=n}}) 39 (i_ n) rfl rfl rfl rfl rfl rfl rfl rfl;refine en_ ?_;rw[HM.out,<-aV.out];exact⟨_,rfl,bY,rfl,aw.iu ((F_ [gx] _).setCell (.inl s_) _)⟩
end Go.Proofs.YtenbhdilndfaeaaGreat
