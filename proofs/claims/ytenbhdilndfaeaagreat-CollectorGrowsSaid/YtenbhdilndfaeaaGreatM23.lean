import Derived.Test.YtenbhdilndfaeaaGreatM22
set_option maxRecDepth 100000
set_option maxHeartbeats 0
set_option linter.all false
namespace Go.Proofs.YtenbhdilndfaeaaGreat
open Go.RowKit Go.Proofs.Tryz
variable{G:Prop}{c:Cl}{l:List Cl}{g:Nat}{cs:Array Value}{d:Dl}(A:OA)(w:World)(rs:List Cl)(h:List Ob)(t:Tk)(x:X1)
theorem Hu(h:G:=by
 obtain⟨aI,cx⟩:=nm_ bP;rw[<-cx]at ag af;clear cx;obtain⟨X,co⟩:=nm_ Y;exact Hw):G:=h
theorem Hw(h:G:=by
 rw[<-co]at ag D aJ |-;clear co
 cases F:aI.hO with
 |true=>
  have HM:Hid (P=jg):=h_ (by rw[af.out];exact T_ (show aI.p.hO=true from F));have d:X.cell? (c_ gx 81)=some (.bool true):=(ag.bk.f_ 81).trans (ED (λq=>some (Value.bool q)) F);clear F
  go_wp2_with (refine kQ (({Ef.zero with h6:=4}:Ef).g_) D (Ef.one _) ?_;intro bu H au)
  rw[HM.out];exact rr_ ({Ef.zero with h6:=4}:Ef).g_ H underlying134 ⟨_,rfl,sp.nil _ _ rfl rfl rfl rfl rfl,rfl,aJ.hK au p_⟩
 |false=>
  have HM:Hid (P=aI.e.p):=h_ (by rw[af.out];exact Q_ (show ¬aI.p.hO=true by rw[show aI.p.hO=aI.hO from rfl,F];decide));have d:X.cell? (c_ gx 81)=some (.bool false):=(ag.bk.f_ 81).trans (ED (λq=>some (Value.bool q)) F);clear F
  go_wp2_with (first|(refine iB rfl 134 _ rfl gx 38 r_ 186 _ aI.e.g_ ag.bk (λj hj=>zq aI j hj) _ underlying134 rfl k_ ?_)|(refine kQ (aI.e.g_) D (Ef.one _) ?_;intro bu H au))
  rw[HM.out];exact rr_ aI.e.g_ H underlying134 ⟨_,rfl,pw ag.Dm D au,rfl,aJ.hK au p_⟩):G:=h
theorem Iw(h:G:=by
 go_wp2_with (go_at_call 92;have af:=iS A c l hI hF _ (N.hG I) hn;rw[hv]at af;refine af.mono ?_;rintro e w1⟨rfl,hg1⟩;have p0:w1.cell? (c_ bS 0)=some (i_ pc):=((E.hG hg1).f_ 0).trans rfl;have k0:=(o.hG hg1).f_ 0)
 go_meet;exact⟨ja a6.out.symm,hg1⟩):G:=h
theorem Kj(h:G:=by
 try simp only[a_]
 refine wpList_nil ?_;go_wp2;go_meet;exact⟨ja a6.out.symm,(aC.trans aU).trans V⟩):G:=h
theorem Kk(h:G:=by
 exact lT t3.g_ (.bool false) aw underlying53 (by rw[aW.out];exact⟨t3,rfl,g,λP h=>by cases h⟩)):G:=h
theorem Br(b w:World)(gx:Nat)(x:X1)(op:Int)(E:Nat)(ak c:Int)(n:Int)(L:kq b w gx x)(ha:E<16)(ho:op≠5/\op≠6/\op≠7/\op≠13/\op≠14/\op≠15/\op≠17/\op≠18):
 Calls prog 121 #[q_ gx,.agg #[i_ op,i_ (E:Int),i_ ak,i_ c,i_ n]] w (kP (.tuple #[]) (j2 x.p ⟨op,E,ak,c,n⟩) b gx w):=by
 obtain⟨R,a,aK,A,l,N,az,t⟩:=rR L #[i_ op,i_ (E:Int),i_ ak,i_ c,i_ n]
 go_enter func121,ntmps121
 go_upto_region 1 with fail
 clear aK A;have U:=N.f_ 0;have V:Gr [] R R.drew:=(F_ [] R).drew;refine hQ (λw'=>(w'.cell? (c_ a 0)=some (i_ op)/\w'.cell? (c_ a 1)=some (i_ (E:Int))/\w'.cell? (c_ a 2)=some (i_ ak)/\w'.cell? (c_ a 3)=some (i_ c)/\w'.cell? (c_ a 4)=some (i_ n))/\w'.cell? (c_ gx (4+E*2))=some (.bool (x.sr E).r)/\w'.cell? (c_ gx (4+E*2+1))=some (i_ (x.sr E).n)) 10 k_ ?_;have C:=And.intro N.drew.c5 (uZ (l.bk.drew) ha);have aS:(0:Int)<=(E:Int):=o_;have aJ:(E:Int)<16:=o_
 iterate 8 refine jW C ?_
 refine h4 8 λK H=>?_
 go_simp;clear C
 refine h5 H (rz N l.bk ha) λC=>?_
 clear H K
 refine h4 9 λK H=>?_
 go_simp;clear C
 refine h5 H (rz N l.bk ha) λC=>?_
 clear H K;refine hN k_ ?_ _;obtain⟨aH,aL,bC,D,W,aM,bB,au,aW⟩:=yH l N az #[.bool (x.sr E).r,i_ (x.sr E).n];rw[bC,D];clear bC D l N az V C;have d:(op=5)=False:=p_;have c5:(op==5)=false:=p_;have cF:(op=6)=False:=p_;have aF:(op==6)=false:=p_;have cH:(op=7)=False:=p_;have aZ:(op==7)=false:=p_;have i:(op=13)=False:=p_;have Eh:(op==13)=false:=p_;have j:(op=14)=False:=p_;have e:(op==14)=false:=p_;have k:(op=15)=False:=p_;have ea:(op==15)=false:=p_;have m:(op=17)=False:=p_;have f:(op==17)=false:=p_;have o:(op=18)=False:=p_;have h:(op==18)=false:=p_
 have HM:Hid (j2 x.p ⟨op,E,ak,c,n⟩=x.p):=h_ (by
  obtain⟨aq,aU,bG,h13,q,s,g,BL⟩:=ho;unfold j2
  exact(Q_ aq).trans ((Q_ aU).trans ((Q_ bG).trans ((Q_ h13).trans ((Q_ q).trans ((Q_ (by simp only;omega)).trans (Q_ g)))))))
 clear ho;have U:=aM.f_ 0;go_wp2;refine en_ ?_;rw[HM.out];exact⟨x,rfl,W,rfl,au⟩
theorem wW(b w:World)(gx:Nat)(x:X1)(i:In)(L:kq b w gx x)(hs:x.p.e.sm 800000)(ad:0<=i.a)(aT:i.a<16)(hb:i.op=5∨i.op=6->0<=i.b/\i.b<16)(hn:i.op=7->0<=i.n/\i.n<=1000000)
 (hc:i.op=13->0<=i.b/\i.b<=16/\i.b<=i.c/\i.c<=1000000) (b6: -1<=x.jY) (bE:x.jY<=1000000):
 Calls prog 121 #[q_ gx,.agg #[i_ i.op,i_ i.a,i_ i.b,i_ i.c,i_ i.n]] w (kP (.tuple #[]) (j2 x.p i) b gx w):=by
 obtain⟨op,V,ak,c,n⟩:=i;simp only at ad aT hb hn hc |-;obtain⟨E,rfl⟩:∃k:Nat,V=k:=⟨V.toNat,o_⟩;have j:E<16:=o_
 by_cases aq:op=5
 .subst aq;obtain⟨t,aQ⟩:=hb d_;obtain⟨d,rfl⟩:∃k:Nat,ak=k:=⟨ak.toNat,o_⟩;exact rest_5 b w gx x E d c n L j o_ hs
 by_cases aU:op=6
 .subst aU;obtain⟨t,aQ⟩:=hb d_;obtain⟨d,rfl⟩:∃k:Nat,ak=k:=⟨ak.toNat,o_⟩;exact rest_6 b w gx x E d c n L j o_ hs
 by_cases bG:op=7
 .subst bG;obtain⟨hn0,hn1⟩:=hn rfl;exact rest_7 b w gx x E ak c n L j hn0 hn1
 by_cases h13:op=13
 .subst h13;obtain⟨aw,c1,ai,aC⟩:=hc rfl;obtain⟨d,rfl⟩:∃k:Nat,ak=k:=⟨ak.toNat,o_⟩;obtain⟨m,rfl⟩:∃k:Nat,c=(d:Int)+(k:Int):=⟨(c-d).toNat,o_⟩;exact rest_13 b w gx x E d m n L o_ o_ b6 bE j hs
 by_cases q:op=14
 .subst q;exact rest_14 b w gx x E ak c n L j hs
 by_cases s:op=15
 .subst s;exact rest_15 b w gx x E ak c n L j hs
 by_cases g:op=17
 .subst g;exact rest_17 b w gx x E ak c n L j hs
 by_cases BL:op=18
 .subst BL;exact rest_18 b w gx x E ak c n L j hs
 exact Br b w gx x op E ak c n L j ⟨aq,aU,bG,h13,q,s,g,BL⟩
structure Fit(i:In):Prop where
 a0:0<=i.a
 a1:i.a<16
 DY:i.op=3∨i.op=4->0<=i.b/\i.b<16
 c4:i.op=4->0<=i.c/\i.c<16
 hI:i.op=8∨i.op=9∨i.op=10∨i.op=20->0<=i.n/\i.n<=1000000
 Ey:i.op=5∨i.op=6->0<=i.b/\i.b<16
 n7:i.op=7->0<=i.n/\i.n<=1000000
 Eh:i.op=13->0<=i.b/\i.b<=16/\i.b<=i.c/\i.c<=1000000
theorem uF{n:Int}{u:Bool}(h:l8 n u=true):0<=n/\n<16:=by
 unfold l8 at h;simp at h;omega
theorem vO{l:List In}{k:Nat}(h:kU l k=true):Fit (l.getD k default):=by
 unfold kU jS at h;generalize l.getD k default=x at*;obtain⟨op,a,b,c,n⟩:=x;simp only at h;split at h
 .cases h
 rename_i aq;split at h
 .cases h
 rename_i hr;split at h
 .cases h
 rename_i hc;have d:0<=op/\op<=21:=o_;simp only[Gn,ES,Bool.not_eq_true',bne_iff_ne,ne_eq,not_or,not_and,Bool.not_eq_false]at hr;obtain⟨⟨a8,rb⟩,S⟩:=hr;have hA:=uF a8
 have hB:op≠13->op≠10->0<=b/\b<16:=λh1 h2=>uF (rb ⟨h1,h2⟩)
 have D:op≠13->0<=c/\c<16:=λh1=>uF (S h1)
 have h13:op=13->0<=b/\b<=4/\b<=c/\c<=64:=by
  intro ho;subst ho;simp at hc;omega
 have bt:op=7∨op=8∨op=9∨op=10∨op=20->0<=n/\n<=64:=by
  intro ho
  rcases ho with ho|ho|ho|ho|ho
  .subst ho;have e:(i5.getD (7:Int).toNat default).n=4:=rfl;exact LL
  .subst ho;have e:(i5.getD (8:Int).toNat default).n=5:=rfl;exact LL
  .subst ho;have e:(i5.getD (9:Int).toNat default).n=5:=rfl;exact LL
  .subst ho;have e:(i5.getD (10:Int).toNat default).n=5:=rfl;exact LL
  .subst ho;have e:(i5.getD (20:Int).toNat default).n=5:=rfl;exact LL
 refine⟨hA.1,hA.2,λho=>hB (by simp only at ho;omega) (by simp only at ho;omega),λho=>D (by simp only at ho;omega),λho=>?_,λho=>hB (by simp only at ho;omega) (by simp only at ho;omega),λho=>?_,λho=>?_⟩
 .have:=bt (by simp only at ho;omega)
  simp only;omega
 .have:=bt (by simp only at ho;omega)
  simp only;omega
 .have:=h13 ho
  simp only;omega
theorem wpList_build{P:Program}{ops:Array Oper}{rest:List Oper}{o:Oper}{a:Act}{w:World}{Q:Exit->Act->World->Prop}(V:o.guard=none)(t:TypeId)(parts:Array (Nat × Operand))(ho:o.op=.build t parts)
 (vs:Array (Nat × Value)) (hv:parts.map (λp=>(p.1,a.eval p.2))=vs) (v:Value) (N:(Instr.build t vs).run P w=.ok v w)
 (h:wpList P ops Q rest (a.put o.dst v) w):wpList P ops Q (o::rest) a w:=by
 refine it V (v:=v) ?_ h;subst hv;unfold execOp;simp only[ho,Sem.run_bind,Sem.run_pure,Result.andThen_ok];rw[N]
 rfl
def Ef.zero:Ef:=⟨0,0,jq,.nil,.nil,.nil,.nil,.nil,0,false,default⟩
def j8(js:Sv In)(hI hF pc:Int)(r:Nat->Vl)(h:Sv Rw)(nx:Int):X1:=⟨js,hI,hF,pc,r,h,nx,Ef.zero,false⟩
theorem y5(js:Sv In)(hI hF pc:Int)(r:Nat->Vl)(h:Sv Rw)(nx:Int)(w:World):
 (Instr.build 186 #[(0,.agg #[.slice js.A js.l.length js.c,i_ hI,i_ hF]),(1,.agg (iJ pc r)),(2,.agg #[.slice h.A h.l.length h.c]),(3,i_ nx)]).run prog w=.ok (.agg (j8 js hI hF pc r h nx).g_) w:=by kernel_rfl
def wq(P:pX)(w:World)(e:Ending)(w':World):Prop:=∃x:Ef,e=.returned (.agg x.g_)/\sp w' x/\x.p=P/\Gr [] w w'
theorem sp.nil(t:Ef)(h2:t.rs=.nil)(h3:t.ws=.nil)(au:t.nw=.nil)(aq:t.ds=.nil)(aU:t.h7=.nil):sp w t:=by
 obtain⟨a1,G,a3,a4,a5,a,f,b,a9,c,d⟩:=t;simp only at h2 h3 au aq aU;subst h2;subst h3;subst au;subst aq;subst aU;exact⟨Fm _ _ _ _,Fm _ _ _ _,Fm _ _ _ _,λr hr=>by simp[Sv.nil]at hr,Fm _ _ _ _,Fm _ _ _ _,H_ _,H_ _,H_ _,H_ _,H_ _⟩
theorem zq:∀j,j<43->x.g_[38+j]?=x.e.g_[j]?
 |0,_=>rfl
 |1,_=>rfl
 |2,_=>rfl
 |3,_=>rfl
 |4,_=>rfl
 |5,_=>rfl
 |6,_=>rfl
 |7,_=>rfl
 |8,_=>rfl
 |9,_=>rfl
 |10,_=>rfl
 |11,_=>rfl
 |12,_=>rfl
 |13,_=>rfl
 |14,_=>rfl
 |15,_=>rfl
 |16,_=>rfl
 |17,_=>rfl
 |18,_=>rfl
 |19,_=>rfl
 |20,_=>rfl
 |21,_=>rfl
 |22,_=>rfl
 |23,_=>rfl
 |24,_=>rfl
 |25,_=>rfl
 |26,_=>rfl
 |27,_=>rfl
 |28,_=>rfl
 |29,_=>rfl
 |30,_=>rfl
 |31,_=>rfl
 |32,_=>rfl
 |33,_=>rfl
 |34,_=>rfl
 |35,_=>rfl
 |36,_=>rfl
 |37,_=>rfl
 |38,_=>rfl
 |39,_=>rfl
 |40,_=>rfl
 |41,_=>rfl
 |42,_=>rfl
 |n+43,h=>EK h o_
theorem kq.Dm{b w:World}{gx:Nat}{x:X1}(h:kq b w gx x):sp w x.e:=
 ⟨Sl.iT h.rs,Sl.iT h.ws,h.nw,h.nr,h.ds,h.h7,jf h.rs,jf h.ws,h.sY,h.rS,h.pE⟩
theorem pw{w w':World}{x:Ef}(h:sp w x)(hk:Bk w g 134 cs)(hg:Gr [g] w w'):sp w' x:=h.iu hk d_ hg
def oW(l:List In)(hI hF pc:Int):Bool:=decide (ic l hI hF=false∨pc< -1∨(l.length:Int)<=pc)
theorem pM(c:Nat)(l:List In)(hI hF pc nx:Int)(r:Nat->Vl)(hA:OA)(hc:Nat)(hl:List Rw)(w:World)(N:Is w A l)(hn:l.length<=1000000000)(z:mj w hA hc hl)(aP:hl.length<=1000000000)(u1:pc<=9000000000000000000):
 Calls prog 78 #[.agg #[.slice A l.length c,i_ hI,i_ hF],.agg (iJ pc r),.agg #[.slice hA hl.length hc],i_ nx] w (wq (lm l hI hF pc r (hY hl) nx) w):=by
 obtain⟨P,hP⟩:=mn_ (lm l hI hF pc r (hY hl) nx)
 have aR:Hid (P=if ic l hI hF=false∨pc< -1∨(l.length:Int)<=pc then jg else
  if(p2 ({(j8 ⟨A,c,l⟩ hI hF pc r ⟨hA,hc,hl⟩ nx)with e:={(j8 ⟨A,c,l⟩ hI hF pc r ⟨hA,hc,hl⟩ nx).e with pc:=pc+1,r:=r}}:X1).p pc).hO=true then jg else(p2 ({(j8 ⟨A,c,l⟩ hI hF pc r ⟨hA,hc,hl⟩ nx)with e:={(j8 ⟨A,c,l⟩ hI hF pc r ⟨hA,hc,hl⟩ nx).e with pc:=pc+1,r:=r}}:X1).p pc).e):=h_ (by rw[<-hP];rfl)
 rw[hP];clear hP;obtain⟨o,E,-,-,-⟩:=B8 w 26 #[.slice A l.length c,i_ hI,i_ hF] 49 (iJ pc r) 35 #[.slice hA hl.length hc] 134 tG;have aT:Bk ((((w.alloc (.cells #[.slice A l.length c,i_ hI,i_ hF] 26)).alloc (.cells (iJ pc r) 49)).alloc (.cells #[.slice hA hl.length hc] 35)).alloc (.cells tG 134)) (w.heap.size+2) 35 #[.slice hA hl.length hc]:=zu ((P_ ((w.alloc (.cells #[.slice A l.length c,i_ hI,i_ hF] 26)).alloc (.cells (iJ pc r) 49)) 35 #[.slice hA hl.length hc]).alloc (.cells tG 134));have u:Bk ((((w.alloc (.cells #[.slice A l.length c,i_ hI,i_ hF] 26)).alloc (.cells (iJ pc r) 49)).alloc (.cells #[.slice hA hl.length hc] 35)).alloc (.cells tG 134)) (w.heap.size+3) 134 tG:=zu (P_ (((w.alloc (.cells #[.slice A l.length c,i_ hI,i_ hF] 26)).alloc (.cells (iJ pc r) 49)).alloc (.cells #[.slice hA hl.length hc] 35)) 134 tG);obtain⟨-,-,-,-,I⟩:=B8 w 26 #[.slice A l.length c,i_ hI,i_ hF] 49 (iJ pc r) 35 #[.slice hA hl.length hc] 134 tG
 go_enter func78,ntmps78
 go_upto_region 1 with fail
 obtain⟨bp,aK⟩:=nm_ ((((w.alloc (.cells #[.slice A l.length c,i_ hI,i_ hF] 26)).alloc (.cells (iJ pc r) 49)).alloc (.cells #[.slice hA hl.length hc] 35)).alloc (.cells tG 134));rw[<-aK]at o E aT u I |-;clear aK;obtain⟨L,bC⟩:=nm_ w.heap.size;obtain⟨bS,br⟩:=nm_ (w.heap.size+1);obtain⟨be,bD⟩:=nm_ (w.heap.size+2);obtain⟨a2,bA⟩:=nm_ (w.heap.size+3);rw[<-bD]at aT;rw[<-bA]at u;rw[<-br]at E;rw[<-bC]at o;rw[<-bA,<-bD,<-br,<-bC];have cp:w.heap.size<=a2:=o_;have cn:L≠bS/\L≠be/\L≠a2/\bS≠be/\bS≠a2/\be≠a2:=o_;clear bC br bD bA
 go_cut [26] (λy aX=>y=.bool (oW l hI hF pc)/\Gr [] bp aX)
 case first=>
  have U:=o.f_ 0;have ad:=o.f_ 1;have ar:=o.f_ 2
  cases hv:ic l hI hF with
  |false=>
   have a6:=h_ (show oW l hI hF pc=true by unfold oW;simp[hv]);exact Iw
  |true=>
   by_cases h1:pc< -1
   .have a6:=h_ (show oW l hI hF pc=true by unfold oW;simp[h1])
    have q:(pc< -1)=True:=by simp[h1]
    exact Iw
   .have q:(pc< -1)=False:=by simp[h1]
    by_cases h2:(l.length:Int)<=pc
    .have a6:=h_ (show oW l hI hF pc=true by unfold oW;simp[h2])
     have bI:((l.length:Int)<=pc)=True:=by simp[h2]
     exact Iw
    .have a6:=h_ (show oW l hI hF pc=false by unfold oW;simp[hv];omega);have bI:((l.length:Int)<=pc)=False:=p_;exact Iw
 case rest=>
  obtain⟨rfl,aE⟩:=hcut;replace o:=o.hG aE;replace E:=E.hG aE;replace aT:=aT.hG aE;replace u:=u.hG aE;replace I:=I.trans aE;clear aE
  cases bg:oW l hI hF pc with
  |true=>
   have HM:Hid (P=jg):=h_ (by rw[aR.out];unfold oW at bg;exact T_ (GR bg));clear bg aR
   go_wp2_with (refine kQ (({Ef.zero with h6:=4}:Ef).g_) u (Ef.one _) ?_;intro X bH G)
   rw[HM.out];exact rr_ ({Ef.zero with h6:=4}:Ef).g_ bH underlying134 ⟨_,rfl,sp.nil _ _ rfl rfl rfl rfl rfl,rfl,I.hK G p_⟩
  |false=>
   have bw:¬(ic l hI hF=false∨pc< -1∨(l.length:Int)<=pc):=by unfold oW at bg;exact Hb bg
   have ak:Hid (P=if(p2 ({(j8 ⟨A,c,l⟩ hI hF pc r ⟨hA,hc,hl⟩ nx)with e:={(j8 ⟨A,c,l⟩ hI hF pc r ⟨hA,hc,hl⟩ nx).e with pc:=pc+1,r:=r}}:X1).p pc).hO=true then jg else(p2 ({(j8 ⟨A,c,l⟩ hI hF pc r ⟨hA,hc,hl⟩ nx)with e:={(j8 ⟨A,c,l⟩ hI hF pc r ⟨hA,hc,hl⟩ nx).e with pc:=pc+1,r:=r}}:X1).p pc).e):=h_ (by rw[aR.out];exact Q_ bw);clear bg aR
   have Q:ic l hI hF=true:=by cases h:ic l hI hF with|true=>rfl|false=>exact EK (.inl h) bw
   have bV: -1<=pc/\pc<(l.length:Int):=o_
   have aM:∀k,k<l.length->kU l k=true:=by
    intro k hk;have hv:=Q;exact Lg
   have cj:l.length<=2048:=K3;clear bw Q;have U:=o.f_ 0;have ad:=o.f_ 1;have ar:=o.f_ 2;have z0:=aT.f_ 0;have M:wc.heap.size≠a2:=ov u.lt;have cf:wc.heap.size≠bS:=ov E.lt;have az:wc.heap.size≠L:=ov o.lt;have bX:=N.hG I;have bW:=z.hG I
   go_upto_region 4 with(first|(refine kT E underlying49 ?_)|(refine wpList_build rfl _ _ rfl #[(0,.agg #[.slice A l.length c,i_ hI,i_ hF]),(1,.agg (iJ pc r)),(2,.agg #[.slice hA hl.length hc]),(3,i_ nx)] k_ _ (y5 ⟨A,c,l⟩ hI hF pc r ⟨hA,hc,hl⟩ nx _) ?_))
   have bY:w.heap.size<=wc.heap.size:=I.size;have aU:Gr [] wc (wc.alloc (.cells (j8 ⟨A,c,l⟩ hI hF pc r ⟨hA,hc,hl⟩ nx).g_ 186)):=(F_ [] wc).alloc _;have a8:=P_ wc 186 (j8 ⟨A,c,l⟩ hI hF pc r ⟨hA,hc,hl⟩ nx).g_;replace o:=o.hG aU;replace E:=E.hG aU;replace u:=u.hG aU;replace I:=I.trans aU;replace bX:=bX.hG aU;replace bW:=bW.hG aU;obtain⟨b,ce⟩:=nm_ (wc.alloc (.cells (j8 ⟨A,c,l⟩ hI hF pc r ⟨hA,hc,hl⟩ nx).g_ 186));rw[<-ce]at o E u a8 I bX bW |-;clear ce;clear aU aT z0 U ad ar;generalize wc.heap.size=gx at*;have bQ:kq b b gx (j8 ⟨A,c,l⟩ hI hF pc r ⟨hA,hc,hl⟩ nx):=⟨a8,F_ _ _,⟨_,a8⟩,bX,bW,World.ownsRow_nil _ _ _ _,World.ownsRow_nil _ _ _ _,(λg h=>by cases h),Fm _ _ _ _,(λr hr=>by simp[j8,Ef.zero,Sv.nil]at hr),Fm _ _ _ _,Fm _ _ _ _,H_ _,H_ _,H_ _,hn,aP⟩
   go_upto_region 5 with(first|(refine kT E underlying49 ?_)|(refine jc rfl 49 _ _ rfl gx 39 r_ (iJ pc r) r_ 186 _ a8 (by show 39+33<=82;decide) k_ (nU _ _) ?_;intro w2 bz J))
   rw[na]at bz;have W:kq b w2 gx ({(j8 ⟨A,c,l⟩ hI hF pc r ⟨hA,hc,hl⟩ nx)with e:={(j8 ⟨A,c,l⟩ hI hF pc r ⟨hA,hc,hl⟩ nx).e with pc:=pc,r:=r}}:X1):=bQ.rP J bz rfl rfl rfl rfl rfl rfl rfl;have b8:=o.gr J (zu az.symm);have ca:=E.gr J (zu cf.symm);have b9:=u.gr J (zu M.symm);have bZ:w2.cell? (c_ gx 39)=some (i_ pc):=(W.bk.f_ 39).trans rfl;have b0:=W.bk.hH 39;clear bQ a8 bz o E u
   go_upto_region 6 with fail
   have B:kq b (w2.setCell (c_ gx 39) (i_ (pc+1))) gx ({(j8 ⟨A,c,l⟩ hI hF pc r ⟨hA,hc,hl⟩ nx)with e:={(j8 ⟨A,c,l⟩ hI hF pc r ⟨hA,hc,hl⟩ nx).e with pc:=pc+1,r:=r}}:X1):=W.set 39 (i_ (pc+1)) rfl rfl rfl rfl rfl rfl rfl rfl;have b4:=b8.ih (p:=(c_ gx 39)) az.symm (i_ (pc+1));have b5:=ca.ih (p:=(c_ gx 39)) cf.symm (i_ (pc+1));have bG:=b9.ih (p:=(c_ gx 39)) M.symm (i_ (pc+1));clear bZ b0 W b8 ca b9 J;obtain⟨am,bU⟩:=nm_ (w2.setCell (c_ gx 39) (i_ (pc+1)));rw[<-bU]at B b4 b5 bG |-;clear bU;obtain⟨x,hx⟩:=nm_ ({(j8 ⟨A,c,l⟩ hI hF pc r ⟨hA,hc,hl⟩ nx)with e:={(j8 ⟨A,c,l⟩ hI hF pc r ⟨hA,hc,hl⟩ nx).e with pc:=pc+1,r:=r}}:X1);rw[<-hx]at B ak;have bl:=h_ hx
   have R:x.p.e.sm 0:=by rw[hx];exact⟨H_ _,H_ _,H_ _,H_ _,H_ _⟩
   have bt:x.jY=pc:=by rw[hx];rfl
   have cg:x.js=⟨A,c,l⟩:=by rw[hx];rfl
   clear hx;have p0:am.cell? (c_ bS 0)=some (i_ pc):=(b5.f_ 0).trans rfl
   by_cases bN:pc= -1
   ·
    have q:(pc== -1)=true:=by simp[bN]
    have aC:Hid (P=if(iI x.p).hO=true then(if(iI x.p).hO=true then jg else(iI x.p).e) else(if(jm (hX (iI x.p) 1 2).1 (hX (iI x.p) 1 2).2).hO=true then jg else(jm (hX (iI x.p) 1 2).1 (hX (iI x.p) 1 2).2).e)):=h_ (by
     rw[ak.out];unfold p2;rw[T_ bN];dsimp only
     split<;>rfl)
    clear ak
    go_upto_region 8 with(go_at_call 116;((with_reducible refine(qv b _ gx x B).mono ?_);unfold kP;rintro e ae⟨aj,rfl,b7,bJ,S⟩;have ai:=h_ bJ;clear bJ;have d:ae.cell? (c_ gx 81)=some (.bool aj.hO):=(b7.bk.f_ 81).trans rfl))
    have cG:aj.p.e.sm 0:=by rw[ai.out];exact R
    have aH:=bG.xg S M.symm
    cases n:aj.hO with
    |true=>
     have af:Hid (P=if aj.p.hO=true then jg else aj.p.e):=h_ (by rw[aC.out,<-ai.out,T_ (show aj.p.hO=true from n)]);rw[n]at d;clear n aC ai
     go_upto_region 13 with fail
     have ag:=b7;have D:=aH;have aJ:Gr [] w ae:=I.hK ag.gr p_;obtain⟨aI,cx⟩:=nm_ aj;rw[<-cx]at ag af;clear d cx;obtain⟨X,co⟩:=nm_ ae;exact Hw
    |false=>
     obtain⟨v,hv⟩:=mn_ ((hX aj.p 1 2).2);have ay:=h_ hv;clear hv;have C:Hid (P=if(jm (hX aj.p 1 2).1 v).hO=true then jg else(jm (hX aj.p 1 2).1 v).e):=h_ (by rw[aC.out,<-ai.out,Q_ (show ¬aj.p.hO=true by rw[show aj.p.hO=aj.hO from rfl,n];decide),ay.out]);rw[n]at d;clear n aC ai;have bo:(hX aj.p 1 2).1.e.sm 900000:=(kc cG 1 2).mono d_
     go_upto_region 13 with(first|(go_at_call 118;((with_reducible refine(jQ b _ gx aj 1 2 b7 (G_ cG.rs d_)).mono ?_);unfold mQ;rintro e T⟨O,rfl,av,aQ,Z⟩;have aV:=h_ aQ;clear aQ;rw[ay.out]))|(go_at_call 117;((with_reducible refine(o9 b _ gx O v av (by rw[aV.out];exact bo)).mono ?_);unfold kP;rintro e Y⟨bP,rfl,a7,aW,ah⟩;have aq:=h_ aW;clear aW)))
     have af:Hid (P=if bP.p.hO=true then jg else bP.p.e):=h_ (by rw[C.out,aq.out,aV.out]);have ag:=a7;have D:=(aH.xg Z M.symm).xg ah M.symm;have aJ:Gr [] w Y:=I.hK ag.gr p_;clear C aq aV ay d;exact Hu
   .have q:(pc== -1)=false:=by simp[bN]
    obtain⟨k,rfl⟩:∃k:Nat,pc=k:=⟨pc.toNat,o_⟩;have hk:k<l.length:=o_;have b6:=B.Dg;rw[cg]at b6;obtain⟨bB,off,bn,bi,bq,bK,bT,bF⟩:=b6.at_ hk;have bn:A=some (c_ bB off):=bn;have ap:=vO (aM k hk)
    have V:l.getD k default=l[k]:=by simp[List.getD,M_ hk]
    rw[V]at ap
    have ck:p2 x.p (k:Int)=(match jU x.p l[k]with
     |some y=>y
     |none=>match kK x.p l[k]with
      |some y=>y
      |none=>j2 x.p l[k]):=by
     have e:x.p.js.getD (k:Int).toNat default=l[k]:=by
      have aG:x.p.js=l:=ED (λs:Sv In=>s.l) cg;rw[aG,<-V]
      rfl
     unfold p2;rw[Q_ bN,e]
     rfl
    rw[ck]at ak;clear ck V b6 aM;obtain⟨i,hi⟩:=nm_ (l[k]);rw[<-hi]at ap ak bi bq bK bT bF;clear hi
    have k0:am.cell? (c_ L 0)=some (.slice (some (c_ bB off)) l.length c):=by rw[<-bn];exact b4.f_ 0
    go_upto_region 11 with fail
    have f:=P_ am 189 #[i_ i.op,i_ i.a,i_ i.b,i_ i.c,i_ i.n];have av:=B.hG ((F_ [] am).alloc (.cells #[i_ i.op,i_ i.a,i_ i.b,i_ i.c,i_ i.n] 189));have bR:=bG.alloc (.cells #[i_ i.op,i_ i.a,i_ i.b,i_ i.c,i_ i.n] 189);have t:am.heap.size≠gx:=ov B.bk.lt;obtain⟨bL,aZ⟩:=nm_ (am.alloc (.cells #[i_ i.op,i_ i.a,i_ i.b,i_ i.c,i_ i.n] 189));rw[<-aZ]at f av bR |-;clear aZ;generalize am.heap.size=a at*;clear B bG b4 b5 p0 k0 bi bq bK bT bF;have U:=f.f_ 0;have ad:=f.f_ 1;have ar:=f.f_ 2;have aL:=f.f_ 3;have ao:=f.f_ 4
    cases bV:jU x.p i with
    |some y=>
     have aC:Hid (P=if y.hO=true then jg else y.e):=h_ (by rw[ak.out,bV]);clear ak
     go_upto_region 13 with(go_at_call 119;have C:=pl b _ gx x i av (R.mono d_) ap.a0 ap.a1 ap.DY ap.c4;rw[bV]at C;refine C.mono ?_;unfold lu;rintro e Y⟨bP,K,a7,aW,ah⟩;have K:e=.returned (.bool true):=K;subst K;have aq:Hid (bP.p=y):=h_ aW;clear aW C;replace U:=(f.xg ah t).f_ 0;replace ad:=(f.xg ah t).f_ 1;replace ar:=(f.xg ah t).f_ 2;replace aL:=(f.xg ah t).f_ 3;replace ao:=(f.xg ah t).f_ 4)
     have af:Hid (P=if bP.p.hO=true then jg else bP.p.e):=h_ (by rw[aC.out,aq.out]);have ag:=a7;have D:=bR.xg ah M.symm;clear aC aq U ad ar aL ao bV;have aJ:Gr [] w Y:=I.hK ag.gr p_;exact Hu
    |none=>
     cases aw:kK x.p i with
     |some y=>
      have aC:Hid (P=if y.hO=true then jg else y.e):=h_ (by rw[ak.out,bV];simp only[aw]);clear ak
      go_upto_region 13 with(first|(go_at_call 119;have C:=pl b _ gx x i av (R.mono d_) ap.a0 ap.a1 ap.DY ap.c4;rw[bV]at C;refine C.mono ?_;unfold lu;rintro e Y⟨bP,K,a7,aW,ah⟩;have K:e=.returned (.bool false):=K;subst K;have aq:Hid (bP.p=x.p):=h_ aW;clear aW C;replace U:=(f.xg ah t).f_ 0;replace ad:=(f.xg ah t).f_ 1;replace ar:=(f.xg ah t).f_ 2;replace aL:=(f.xg ah t).f_ 3;replace ao:=(f.xg ah t).f_ 4)|(go_at_call 120;have C:=sy b _ gx bP i a7 (by rw[aq.out];exact R.mono d_) ap.a0 ap.a1 ap.hI;rw[aq.out,aw]at C;refine C.mono ?_;unfold lu;rintro e ax⟨aO,aS,aY,bj,aB⟩;have aS:e=.returned (.bool true):=aS;subst aS;have bO:Hid (aO.p=y):=h_ bj;clear bj C;replace U:=((f.xg ah t).xg aB t).f_ 0;replace ad:=((f.xg ah t).xg aB t).f_ 1;replace ar:=((f.xg ah t).xg aB t).f_ 2;replace aL:=((f.xg ah t).xg aB t).f_ 3;replace ao:=((f.xg ah t).xg aB t).f_ 4))
      have af:Hid (P=if aO.p.hO=true then jg else aO.p.e):=h_ (by rw[aC.out,bO.out]);have ag:=aY;have D:=(bR.xg ah M.symm).xg aB M.symm;clear aC aq bO U ad ar aL ao bV aw;have aJ:Gr [] w ax:=I.hK ag.gr p_;obtain⟨aI,cx⟩:=nm_ aO;rw[<-cx]at ag af;clear cx;obtain⟨X,co⟩:=nm_ ax;exact Hw
     |none=>
      have aC:Hid (P=if(j2 x.p i).hO=true then jg else(j2 x.p i).e):=h_ (by rw[ak.out,bV];simp only[aw]);clear ak
      go_upto_region 13 with(first|(go_at_call 119;have C:=pl b _ gx x i av (R.mono d_) ap.a0 ap.a1 ap.DY ap.c4;rw[bV]at C;refine C.mono ?_;unfold lu;rintro e Y⟨bP,K,a7,aW,ah⟩;have K:e=.returned (.bool false):=K;subst K;have aq:Hid (bP.p=x.p):=h_ aW;clear aW C;replace U:=(f.xg ah t).f_ 0;replace ad:=(f.xg ah t).f_ 1;replace ar:=(f.xg ah t).f_ 2;replace aL:=(f.xg ah t).f_ 3;replace ao:=(f.xg ah t).f_ 4)|(go_at_call 120;have C:=sy b _ gx bP i a7 (by rw[aq.out];exact R.mono d_) ap.a0 ap.a1 ap.hI;rw[aq.out,aw]at C;refine C.mono ?_;unfold lu;rintro e ax⟨aO,aS,aY,bj,aB⟩;have aS:e=.returned (.bool false):=aS;subst aS;have bO:Hid (aO.p=x.p):=h_ bj;clear bj C;replace U:=((f.xg ah t).xg aB t).f_ 0;replace ad:=((f.xg ah t).xg aB t).f_ 1;replace ar:=((f.xg ah t).xg aB t).f_ 2;replace aL:=((f.xg ah t).xg aB t).f_ 3;replace ao:=((f.xg ah t).xg aB t).f_ 4)|(go_at_call 121;have C:=wW b _ gx aO i aY (by rw[bO.out];exact R.mono d_) ap.a0 ap.a1 ap.Ey ap.n7 ap.Eh (by show -1<=aO.p.jY;rw[bO.out];show -1<=x.jY;rw[bt];omega) (by show aO.p.jY<=1000000;rw[bO.out];show x.jY<=1000000;rw[bt];omega);refine C.mono ?_;unfold kP;rintro e aD⟨aF,rfl,m,bE,aN⟩;have bM:=h_ bE;clear bE C))
      have af:Hid (P=if aF.p.hO=true then jg else aF.p.e):=h_ (by rw[aC.out,bM.out,bO.out]);have ag:=m;have D:=((bR.xg ah M.symm).xg aB M.symm).xg aN M.symm;clear aC aq bO bM U ad ar aL ao bV aw;have aJ:Gr [] w aD:=I.hK ag.gr p_;obtain⟨aI,cx⟩:=nm_ aF;rw[<-cx]at ag af;clear cx;obtain⟨X,co⟩:=nm_ aD;exact Hw
def uV(o:Option i3)(w:World)(e:Ending)(w':World):Prop:=∃t:Tk,e=.returned (.tuple #[.agg t.g_,.bool o.isSome])/\Gr [] w w'/\∀P,o=some P->lb w' t/\t.p=P
theorem z7{t:i3}{rs ws:List Cl}{l:List Dl}(h:take t d=none):jM t rs ws (d::l)=jM t rs ws l:=by
 rw[jM,h]
theorem yE{t t':i3}{rs ws:List Cl}{l:List Dl}(h:take t d=some t'):jM t rs ws (d::l)=jM t' (jI rs d) (jI ws d) l:=by
 rw[jM,h]
theorem Cs.iu{w w':World}{A:OA}{t:TypeId}(h:Cs w A l)(hk:Bk w g t cs)(ao:116≠t)(hg:Gr [g] w w'):Cs w' A l:=Sl.iu h hk ao hg
def m5(t:i3)(c:Cl):Bool:=decide (0<=jz t.nw c.id∨0<=cat t.ws c.id c.f∨0<=cat t.rs c.id c.f)
theorem w4{view:List Ob}{t:i3}(h:m5 t c=true):j1 view t (c::l)=j1 view t l:=by
 have j:0<=jz t.nw c.id∨0<=cat t.ws c.id c.f∨0<=cat t.rs c.id c.f:=by simpa[m5]using h
 rw[j1,p8,T_ j]
theorem vv{view:List Ob}{t:i3}(h:m5 t c=false)(hd:o2 t.ds c.id c.f<0):p8 view t c=some {t with rs:=kw t.rs c}:=by
 have j:¬(0<=jz t.nw c.id∨0<=cat t.ws c.id c.f∨0<=cat t.rs c.id c.f):=by simpa[m5]using h
 rw[p8,Q_ j,Q_ o_]
theorem yD{view:List Ob}{t:i3}(h:m5 t c=false)(hd:o2 t.ds c.id c.f<0):j1 view t (c::l)=j1 view {t with rs:=kw t.rs c} l:=by
 rw[j1,vv h hd]
theorem vu{view:List Ob}{t:i3}(h:m5 t c=false)(hd:0<=o2 t.ds c.id c.f):p8 view t c=jw t view c.id c.f:=by
 have j:¬(0<=jz t.nw c.id∨0<=cat t.ws c.id c.f∨0<=cat t.rs c.id c.f):=by simpa[m5]using h
 rw[p8,Q_ j,T_ hd]
theorem z6{view:List Ob}{t:i3}(h:m5 t c=false)(hd:0<=o2 t.ds c.id c.f)(hs:jw t view c.id c.f=none):j1 view t (c::l)=none:=by
 rw[j1,vu h hd,hs]
theorem yC{view:List Ob}{t t':i3}(h:m5 t c=false)(hd:0<=o2 t.ds c.id c.f)(hs:jw t view c.id c.f=some t'):j1 view t (c::l)=j1 view t' l:=by
 rw[j1,vu h hd,hs]
theorem z2{view:List Ob}{t:i3}(hs:jw t view c.id c.f=none):km view t (c::l)=none:=by
 rw[km,rQ,hs]
 rfl
theorem yB{view:List Ob}{t t':i3}(hs:jw t view c.id c.f=some t'):km view t (c::l)=km view (jX t' c) l:=by
 rw[km,rQ,hs]
 rfl
theorem Dn:116≠134/\56≠134/\38≠134/\124≠134/\162≠134:=by decide
theorem w3(A:OA)(c:Nat)(l:List Rw)(f:Ef)(w:World)(ht:lb w t)(h:mj w A c l)(he:sp w f)(hs:t.p.sm 1000000)(hes:f.p.sm 1000)(hl:l.length<=100000000):
 Calls prog 81 #[.agg t.g_,.agg #[.slice A l.length c],.agg f.g_] w (uV (record t.p (hY l) f.p) w):=by
 obtain⟨O,z,hE,hR,I⟩:=B8 w 53 t.g_ 35 #[.slice A l.length c] 134 f.g_ 53 lv
 go_enter func81,ntmps81
 go_upto_region 1 with fail
 obtain⟨W,aK⟩:=nm_ ((((w.alloc (.cells t.g_ 53)).alloc (.cells #[.slice A l.length c] 35)).alloc (.cells f.g_ 134)).alloc (.cells lv 53));rw[<-aK]at O z hE hR I |-;clear aK;have aP:W.cell? (c_ (w.heap.size+1+1) 37)=some (.slice f.ds.A f.ds.l.length f.ds.c):=(hE.f_ 37).trans rfl;go_wp2
 go_loopw [20] (λi wr=>∃(k:Nat) (t1:Tk) (rs ws:Sv Cl),k<=f.ds.l.length/\i=i_ k/\Bk wr (w.heap.size) 53 t1.g_/\Bk wr (w.heap.size+1+1) 134 ({f with rs:=rs,ws:=ws}:Ef).g_/\Bk wr (w.heap.size+1) 35 #[.slice A l.length c]/\Bk wr (w.heap.size+1+1+1) 53 lv/\lb wr t1/\Cs wr rs.A rs.l/\Cs wr ws.A ws.l/\rs.ok/\ws.ok/\jM t.p f.rs.l f.ws.l f.ds.l=jM t1.p rs.l ws.l (f.ds.l.drop k)/\t1.p.sm (1000000+k)/\rs.l.length<=1000/\ws.l.length<=1000/\Gr [] w wr) (λi _=>f.ds.l.length-(intOf i).toNat)
 case atStart=>exact⟨0,t,f.rs,f.ws,O_ _,rfl,O,hE,z,hR,ht.hG I,(he.hG I).rs,(he.hG I).ws,he.kZ,he.u_,rfl,hs.mono o_,hes.rs,hes.ws,I⟩
 case round=>
  clear O hE z hR I aP;obtain⟨k,t1,rs,ws,hk,rfl,O,hE,z,hR,ce,ay,j,b5,dt,bj,ap,ct,dh,F⟩:=hrel;have aq:=h_ bj;clear bj;have da:=hes.ds
  by_cases ag:k<f.ds.l.length
  .have aJ:(k:Int)<(f.ds.l.length:Int):=o_;have dz:f.ds.l.length<=1000:=da;have bn:t1.ds.l.length<=1000000000:=G_ ap.ds o_
   have bI:t1.nw.l.length<=1000000000:=by have:=ap.nw;rw[show t1.p.nw=hY t1.nw.l from rfl,h9]at this;omega
   have bN:t1.ws.l.length<=1000000000:=G_ ap.ws o_;have df:t1.rs.l.length<=1000000000:=G_ ap.rs o_;obtain⟨b,off,aT,bi,bq,bK,bT,bF⟩:=((he.hG F).ds).at_ ag;rw[aT];have am:=h_ (show f.ds.l.drop k=f.ds.l[k]::f.ds.l.drop (k+1) from R_ ag);generalize f.ds.l[k]=d at*;have aC:=(F_ [] wr).alloc (.cells #[i_ d.id,i_ d.f,i_ d.op,.bool d.v.r,i_ d.v.n] 124);have db:w.heap.size+1+1+1<wr.heap.size:=hR.lt;have L:=P_ wr 124 #[i_ d.id,i_ d.f,i_ d.op,.bool d.v.r,i_ d.v.n]
   go_upto_region 5 with fail
   replace O:=O.hG aC;replace hE:=hE.hG aC;replace z:=z.hG aC;replace hR:=hR.hG aC;replace ce:=ce.hG aC;replace ay:=Sl.hG ay aC;replace j:=Sl.hG j aC;replace F:=F.trans aC;clear aC bi bq bK bT bF aT;obtain⟨o,bG⟩:=nm_ (wr.alloc (.cells #[i_ d.id,i_ d.f,i_ d.op,.bool d.v.r,i_ d.v.n] 124));rw[<-bG]at O hE z hR L F ce ay j |-;clear bG;generalize wr.heap.size=e at*;have U:=L.f_ 0;have ad:=L.f_ 1;have ar:=L.f_ 2;have aL:=L.f_ 3;have ao:=L.f_ 4
   cases aO:take t1.p d with
   |none=>
    have bB:=h_ aO;clear aO
    go_wp2_with (first|(refine kT O underlying53 ?_)|(go_at_call 126;((with_reducible refine(Bf t1 d _ ce bn bI bN df bB.out).mono ?_);unfold m8;rintro D ae⟨af,rfl,E,aS,S⟩;have bt:=P_ ae 53 lv;have cN:w.heap.size+1+1+1<ae.heap.size:=FB hR.lt S.size;have dr:e<ae.heap.size:=FB L.lt S.size))|(refine kQ (af.g_) bt (Tk.one _) ?_;intro T cM Z))
    have Q:Gr [] o T:=(S.alloc (.cells lv 53)).hK Z (by simp;exact S.size);go_roundw
    case rel=>exact⟨k+1,t1,rs,ws,o_,gn,O.hG Q,hE.hG Q,z.hG Q,hR.hG Q,ce.hG Q,Sl.hG ay Q,Sl.hG j Q,b5,dt,by rw[aq.out,am.out,z7 bB.out],ap.mono o_,ct,dh,F.trans Q⟩
    case measure=>exact mz
   |some P=>
    have bB:=h_ aO;clear aO
    go_upto_region 7 with(first|(refine kT O underlying53 ?_)|(go_at_call 126;((with_reducible refine(zD t1 d P _ ce bn bI bN df bB.out).mono ?_);unfold m8;rintro D ae⟨af,rfl,E,aS,S⟩;have bt:=P_ ae 53 lv;have cN:w.heap.size+1+1+1<ae.heap.size:=FB hR.lt S.size;have dr:e<ae.heap.size:=FB L.lt S.size))|(refine kQ (af.g_) bt (Tk.one _) ?_;intro T cM Z))
    have s:=h_ aS;clear aS;have Q:Gr [] o T:=(S.alloc (.cells lv 53)).hK Z (by simp;exact S.size);have au:Gr [] ae T:=((F_ [] ae).alloc (.cells lv 53)).hK Z s_;replace O:=O.hG Q;replace hE:=hE.hG Q;replace z:=z.hG Q;replace hR:=hR.hG Q;replace L:=L.hG Q;replace E:=E.hG au;replace ay:=ay.hG Q;replace j:=j.hG Q;replace F:=F.trans Q;clear S Z Q au ce bt U ad ar aL ao;generalize ae.heap.size=dy at*
    go_upto_region 8 with(first|(refine kT cM underlying53 ?_)|(refine kQ (af.g_) O (Tk.one _) ?_;intro Y cn ah))
    replace hE:=hE.gr ah sd_;replace z:=z.gr ah sd_;replace hR:=hR.gr ah sd_;replace L:=L.gr ah sd_;replace E:=E.iu O sE ah;replace ay:=Sl.iu ay O d_ ah;replace j:=Sl.iu j O d_ ah;replace F:=F.hK ah s_;replace O:=cn;clear cn ah cM
    have c7:Y.drew.cell? (c_ (w.heap.size+1+1) 34)=some (.slice rs.A rs.l.length rs.c)/\Y.drew.cell? (c_ (w.heap.size+1+1) 35)=some (.slice ws.A ws.l.length ws.c)/\Y.drew.cell? (c_ e 0)=some (i_ d.id)/\Y.drew.cell? (c_ e 1)=some (i_ d.f)/\Y.drew.cell? (c_ e 2)=some (i_ d.op)/\Y.drew.cell? (c_ e 3)=some (.bool d.v.r)/\Y.drew.cell? (c_ e 4)=some (i_ d.v.n):=
     ⟨(hE.drew.f_ 34).trans rfl,(hE.drew.f_ 35).trans rfl,L.drew.f_ 0,L.drew.f_ 1,L.drew.f_ 2,L.drew.f_ 3,L.drew.f_ 4⟩
    have J:=h_ (And.intro hE.drew L.drew);have br:Hid (Cs Y.drew rs.A rs.l/\Cs Y.drew ws.A ws.l):=h_ ⟨Sl.hG ay (F_ [] Y).drew,Sl.hG j (F_ [] Y).drew⟩;refine hQ (λw'=>w'.cell? (c_ (w.heap.size+1+1) 34)=some (.slice rs.A rs.l.length rs.c)/\w'.cell? (c_ (w.heap.size+1+1) 35)=some (.slice ws.A ws.l.length ws.c)/\w'.cell? (c_ e 0)=some (i_ d.id)/\w'.cell? (c_ e 1)=some (i_ d.f)/\w'.cell? (c_ e 2)=some (i_ d.op)/\w'.cell? (c_ e 3)=some (.bool d.v.r)/\w'.cell? (c_ e 4)=some (i_ d.v.n)) 9 k_ ?_;have C:=c7;clear c7;refine iP 0 C ?_;refine iP 2 C ?_;refine iP 4 C ?_;refine iP 6 C ?_;refine iP 1 C ?_;refine iP 5 C ?_
    refine h4 3 λK H=>?_
    go_simp
    (go_at_call 127;((with_reducible refine(rp rs.A rs.c rs.l d _ br.out.1 o_).mono ?_);unfold rX;rintro D ax⟨aI,cF,rfl,dq,cI,aB⟩))
    have bS:=And.intro ((J.out.1.hG aB).f_ 34) ((J.out.1.hG aB).f_ 35);clear C;have C:ax.cell? (c_ (w.heap.size+1+1) 34)=some (.slice rs.A rs.l.length rs.c)/\ax.cell? (c_ (w.heap.size+1+1) 35)=some (.slice ws.A ws.l.length ws.c)/\ax.cell? (c_ e 0)=some (i_ d.id)/\ax.cell? (c_ e 1)=some (i_ d.f)/\ax.cell? (c_ e 2)=some (i_ d.op)/\ax.cell? (c_ e 3)=some (.bool d.v.r)/\ax.cell? (c_ e 4)=some (i_ d.v.n):=⟨((J.out.1.hG aB).f_ 34).trans rfl,((J.out.1.hG aB).f_ 35).trans rfl,(J.out.2.hG aB).f_ 0,(J.out.2.hG aB).f_ 1,(J.out.2.hG aB).f_ 2,(J.out.2.hG aB).f_ 3,(J.out.2.hG aB).f_ 4⟩;clear bS
    refine h5 H C λC=>?_
    clear H K;refine iP 8 C ?_
    refine h4 7 λK H=>?_
    go_simp
    (go_at_call 127;((with_reducible refine(rp ws.A ws.c ws.l d _ (Cs.hG br.out.2 aB) o_).mono ?_);unfold rX;rintro D aD⟨be,cH,rfl,ck,dB,aN⟩))
    clear C;have cA:=aB.trans aN;have C:aD.cell? (c_ (w.heap.size+1+1) 34)=some (.slice rs.A rs.l.length rs.c)/\aD.cell? (c_ (w.heap.size+1+1) 35)=some (.slice ws.A ws.l.length ws.c)/\aD.cell? (c_ e 0)=some (i_ d.id)/\aD.cell? (c_ e 1)=some (i_ d.f)/\aD.cell? (c_ e 2)=some (i_ d.op)/\aD.cell? (c_ e 3)=some (.bool d.v.r)/\aD.cell? (c_ e 4)=some (i_ d.v.n):=⟨((J.out.1.hG cA).f_ 34).trans rfl,((J.out.1.hG cA).f_ 35).trans rfl,(J.out.2.hG cA).f_ 0,(J.out.2.hG cA).f_ 1,(J.out.2.hG cA).f_ 2,(J.out.2.hG cA).f_ 3,(J.out.2.hG cA).f_ 4⟩;have f34:=(J.out.1.hG cA).hH 34;have f35:=(J.out.1.hG cA).hH 35;have dC:=C.1;have z35:=C.2.1
    refine h5 H C λC=>?_
    clear H K
    refine h4 9 λK H=>?_
    go_simp;refine H.out _ _ (λh=>EK h d_) ?_;clear H K
    try simp only[a_]
    refine h4 10 λK H=>?_
    go_simp;refine H.out _ _ (λh=>EK h d_) ?_;clear H K
    try simp only[a_]
    refine h4 11 λK H=>?_
    go_simp;refine H.out _ _ (λh=>EK h d_) ?_;clear H K
    try simp only[a_]
    refine hN k_ ?_ _;go_wp2;go_roundw
    case rel=>
     have M:=((F_ [w.heap.size+1+1] aD).setCell (p:=(c_ (w.heap.size+1+1) 34)) (.inl s_) (.slice aI (jI rs.l d).length cF)).setCell (p:=(c_ (w.heap.size+1+1) 35)) (.inl s_) (.slice be (jI ws.l d).length cH);have cq:=J.out.1.hG cA;have V:Gr [] Y aD:=((F_ [] Y).drew).trans cA;have bA:=(F.trans V).hK M p_;exact⟨k+1,af,⟨aI,cF,jI rs.l d⟩,⟨be,cH,jI ws.l d⟩,o_,gn,(O.hG V).gr M sd_,(cq.hW 34 _).hW 35 _,(z.hG V).gr M sd_,(hR.hG V).gr M sd_,(E.hG V).iu cq Dn M,Sl.iu (Sl.hG dq aN) cq d_ M,Sl.iu ck cq d_ M,cI,dB,by rw[aq.out,am.out,yE bB.out,s.out],by rw[s.out];exact(xI ap bB.out).mono o_,G_ (p4 _ _) ct,G_ (p4 _ _) dh,bA⟩
    case measure=>exact mz
  .have aJ:¬(k:Int)<(f.ds.l.length:Int):=o_;have ca:=h_ (show jM t.p f.rs.l f.ws.l f.ds.l=(t1.p,rs.l,ws.l) by rw[aq.out,E3 o_];rfl);clear aq;replace ap:=ap.mono (show 1000000+k<=1001000 by have:f.ds.l.length<=1000:=da;omega);clear ag hk;have du:wr.cell? (c_ (w.heap.size+1+1) 34)=some (.slice rs.A rs.l.length rs.c):=(hE.f_ 34).trans rfl
   have b9:=h_ (show record t.p (hY l) f.p=(match j1 (hY l) t1.p rs.l with
    |none=>none
    |some a=>match km (hY l) {a with nw:=a.nw++hY f.nw.l} ws.l with
     |none=>none
     |some b=>some {b with h7:=b.h7++f.h7.l}) by
    show(match j1 (hY l) (jM t.p f.rs.l f.ws.l f.ds.l).1 (jM t.p f.rs.l f.ws.l f.ds.l).2.1 with
     |none=>none
     |some a=>match km (hY l) {a with nw:=a.nw++hY f.nw.l} (jM t.p f.rs.l f.ws.l f.ds.l).2.2 with
      |none=>none
      |some b=>some {b with h7:=b.h7++f.h7.l})=_
    rw[ca.out])
   clear ca;go_wp2;clear aJ
   go_loopw [46] (λi wr=>∃(k:Nat) (af:Tk),k<=rs.l.length/\i=i_ k/\Bk wr (w.heap.size) 53 af.g_/\Bk wr (w.heap.size+1+1) 134 ({f with rs:=rs,ws:=ws}:Ef).g_/\Bk wr (w.heap.size+1) 35 #[.slice A l.length c]/\Bk wr (w.heap.size+1+1+1) 53 lv/\lb wr af/\Cs wr rs.A rs.l/\Cs wr ws.A ws.l/\j1 (hY l) t1.p rs.l=j1 (hY l) af.p (rs.l.drop k)/\af.p.sm (1001000+2*k)/\Gr [] w wr) (λi _=>rs.l.length-(intOf i).toNat)
   case atStart=>exact⟨0,t1,O_ _,rfl,O,hE,z,hR,ce,ay,j,rfl,ap.mono o_,F⟩
   case round=>
    clear O hE z hR ce ay j F du ap;obtain⟨k,af,hk,rfl,O,hE,z,hR,E,ay,j,bj,ap,F⟩:=hrel;have aq:=h_ bj;clear bj
    by_cases ag:k<rs.l.length
    .have aJ:(k:Int)<(rs.l.length:Int):=o_;have bn:af.ds.l.length<=1000000000:=G_ ap.ds o_
     have bI:af.nw.l.length<=1000000000:=by have:=ap.nw;rw[show af.p.nw=hY af.nw.l from rfl,h9]at this;omega
     have bN:af.ws.l.length<=1000000000:=G_ ap.ws o_;have df:af.rs.l.length<=1000000000:=G_ ap.rs o_;have dj:af.p.sm 100000000:=ap.mono o_;obtain⟨b,off,aT,bi,bq,bK,bT⟩:=Cs.at_ ay ag;rw[aT];have bP:=h_ aT;have am:=h_ (show rs.l.drop k=rs.l[k]::rs.l.drop (k+1) from R_ ag);generalize rs.l[k]=x at*;have aC:=(F_ [] wr).alloc (.cells #[i_ x.id,i_ x.f,.bool x.v.r,i_ x.v.n] 116);have db:w.heap.size+1+1+1<wr.heap.size:=hR.lt;have L:=P_ wr 116 #[i_ x.id,i_ x.f,.bool x.v.r,i_ x.v.n]
     go_upto_region 13 with fail
     replace O:=O.hG aC;replace hE:=hE.hG aC;replace z:=z.hG aC;replace hR:=hR.hG aC;replace E:=E.hG aC;replace ay:=Cs.hG ay aC;replace j:=Cs.hG j aC;replace F:=F.trans aC;clear aC bi bq bK bT aT;obtain⟨cD,c8⟩:=nm_ (wr.alloc (.cells #[i_ x.id,i_ x.f,.bool x.v.r,i_ x.v.n] 116));rw[<-c8]at O hE z hR E ay j L F |-;clear c8;generalize wr.heap.size=e at*;have U:=L.f_ 0;have ad:=L.f_ 1;have ar:=L.f_ 2;have aL:=L.f_ 3
     go_cut [74] (λy aX=>y=.bool (m5 af.p x)/\Gr [] cD aX)
     case first=>
      clear hE z hR ay j F aq am b9 ap ht he hs hes bP ar aL dj bn;have bw:=(xX (hY af.nw.l) x.id).1;have de:=(rh af.ws.l x.id x.f).1;have bL:=(rh af.rs.l x.id x.f).1;have az:=h_ (show m5 af.p x=decide (0<=jz (hY af.nw.l) x.id∨0<=cat af.ws.l x.id x.f∨0<=cat af.rs.l x.id x.f) from rfl);have aP:cD.cell? (c_ w.heap.size 37)=some (.slice af.rs.A af.rs.l.length af.rs.c):=(O.f_ 37).trans rfl;have bV:cD.cell? (c_ w.heap.size 38)=some (.slice af.ws.A af.ws.l.length af.ws.c):=(O.f_ 38).trans rfl;generalize di:jz (hY af.nw.l) x.id=N at*;generalize cW:cat af.ws.l x.id x.f=b0 at*;generalize dk:cat af.rs.l x.id x.f=xr at*;have cf:=h_ di;have cC:=h_ cW;have cg:=h_ dk;clear di cW dk;clear bw de bL
      by_cases a8:N<0
      .by_cases bo:b0<0
       .by_cases a2:xr<0
        .skip;have a6:=h_ (show m5 af.p x=false by rw[az.out];exact FH o_);clear az;have bD:(0<=N)=False:=p_;have bH:(0<=b0)=False:=p_;have bp:(0<=xr)=False:=p_;clear a8 bo a2;refine wp_region_lit ?_;refine kT O underlying53 ?_
         try simp only[a_]
         refine it rfl gs_ ?_
         try simp only[a_]
         refine it rfl gs_ ?_
         try simp only[a_]
         refine ni rfl (λK H=>?_);go_simp
         (go_at_call 128;((with_reducible refine(oL af x.id _ E bI).mono ?_);rintro D aY⟨rfl,aC⟩;rw[cf.out];replace O:=O.hG aC;replace L:=L.hG aC;replace E:=E.hG aC;replace U:=L.f_ 0;replace ad:=L.f_ 1;replace aP:aY.cell? (c_ w.heap.size 37)=some (.slice af.rs.A af.rs.l.length af.rs.c):=(O.f_ 37).trans rfl;replace bV:aY.cell? (c_ w.heap.size 38)=some (.slice af.ws.A af.ws.l.length af.ws.c):=(O.f_ 38).trans rfl))
         refine H.out _ _ ?_;clear H K
         try simp only[a_]
         refine it (v:=.bool false) rfl gs_ ?_
         try simp only[a_]
         refine it (v:=.bool false) rfl gs_ ?_
         try simp only[a_]
         refine ie rfl rfl rfl rfl rfl gs_ ?_
         try simp only[a_]
         refine ie rfl rfl rfl rfl rfl gs_ ?_
         try simp only[a_]
         refine ie rfl rfl rfl rfl rfl gs_ ?_
         try simp only[a_]
         refine ie rfl rfl rfl rfl rfl gs_ ?_
         try simp only[a_]
         refine ie rfl rfl rfl rfl rfl gs_ ?_
         try simp only[a_]
         refine ie rfl rfl rfl rfl rfl gs_ ?_
         try simp only[a_]
         refine nh rfl rfl rfl rfl rfl (λK H=>?_);go_simp
         (go_at_call_of 129 (Value.slice af.ws.A af.ws.l.length af.ws.c);((with_reducible refine(lJ af.ws.A af.ws.c af.ws.l x.id x.f _ E.ws bN).mono ?_);rintro D aR⟨rfl,aU⟩;rw[cC.out];replace O:=O.hG aU;replace L:=L.hG aU;replace E:=E.hG aU;replace U:=L.f_ 0;replace ad:=L.f_ 1;replace aP:aR.cell? (c_ w.heap.size 37)=some (.slice af.rs.A af.rs.l.length af.rs.c):=(O.f_ 37).trans rfl;replace bV:aR.cell? (c_ w.heap.size 38)=some (.slice af.ws.A af.ws.l.length af.ws.c):=(O.f_ 38).trans rfl))
         refine H.out _ _ ?_;clear H K
         try simp only[a_]
         refine ie (v:=.bool false) rfl rfl rfl rfl rfl gs_ ?_
         try simp only[a_]
         refine it (v:=.bool false) rfl gs_ ?_
         try simp only[a_]
         refine it (v:=.bool false) rfl gs_ ?_
         try simp only[a_]
         refine ie rfl rfl rfl rfl rfl gs_ ?_
         try simp only[a_]
         refine ie rfl rfl rfl rfl rfl gs_ ?_
         try simp only[a_]
         refine ie rfl rfl rfl rfl rfl gs_ ?_
         try simp only[a_]
         refine ie rfl rfl rfl rfl rfl gs_ ?_
         try simp only[a_]
         refine ie rfl rfl rfl rfl rfl gs_ ?_
         try simp only[a_]
         refine ie rfl rfl rfl rfl rfl gs_ ?_
         try simp only[a_]
         refine nh rfl rfl rfl rfl rfl (λK H=>?_);go_simp
         (go_at_call_of 129 (Value.slice af.rs.A af.rs.l.length af.rs.c);((with_reducible refine(lJ af.rs.A af.rs.c af.rs.l x.id x.f _ E.rs df).mono ?_);rintro D dO⟨rfl,V⟩;rw[cg.out]))
         refine H.out _ _ ?_;clear H K
         try simp only[a_]
         refine ie (v:=.bool false) rfl rfl rfl rfl rfl gs_ ?_
         try simp only[a_]
         refine it (v:=.bool false) rfl gs_ ?_;exact Kj
        .skip;have a6:=h_ (show m5 af.p x=true by rw[az.out];exact E8 o_);clear az;have bD:(0<=N)=False:=p_;have bH:(0<=b0)=False:=p_;have bp:(0<=xr)=True:=p_;clear a8 bo a2;refine wp_region_lit ?_;refine kT O underlying53 ?_
         try simp only[a_]
         refine it rfl gs_ ?_
         try simp only[a_]
         refine it rfl gs_ ?_
         try simp only[a_]
         refine ni rfl (λK H=>?_);go_simp
         (go_at_call 128;((with_reducible refine(oL af x.id _ E bI).mono ?_);rintro D aY⟨rfl,aC⟩;rw[cf.out];replace O:=O.hG aC;replace L:=L.hG aC;replace E:=E.hG aC;replace U:=L.f_ 0;replace ad:=L.f_ 1;replace aP:aY.cell? (c_ w.heap.size 37)=some (.slice af.rs.A af.rs.l.length af.rs.c):=(O.f_ 37).trans rfl;replace bV:aY.cell? (c_ w.heap.size 38)=some (.slice af.ws.A af.ws.l.length af.ws.c):=(O.f_ 38).trans rfl))
         refine H.out _ _ ?_;clear H K
         try simp only[a_]
         refine it (v:=.bool false) rfl gs_ ?_
         try simp only[a_]
         refine it (v:=.bool false) rfl gs_ ?_
         try simp only[a_]
         refine ie rfl rfl rfl rfl rfl gs_ ?_
         try simp only[a_]
         refine ie rfl rfl rfl rfl rfl gs_ ?_
         try simp only[a_]
         refine ie rfl rfl rfl rfl rfl gs_ ?_
         try simp only[a_]
         refine ie rfl rfl rfl rfl rfl gs_ ?_
         try simp only[a_]
         refine ie rfl rfl rfl rfl rfl gs_ ?_
         try simp only[a_]
         refine ie rfl rfl rfl rfl rfl gs_ ?_
         try simp only[a_]
         refine nh rfl rfl rfl rfl rfl (λK H=>?_);go_simp
         (go_at_call_of 129 (Value.slice af.ws.A af.ws.l.length af.ws.c);((with_reducible refine(lJ af.ws.A af.ws.c af.ws.l x.id x.f _ E.ws bN).mono ?_);rintro D aR⟨rfl,aU⟩;rw[cC.out];replace O:=O.hG aU;replace L:=L.hG aU;replace E:=E.hG aU;replace U:=L.f_ 0;replace ad:=L.f_ 1;replace aP:aR.cell? (c_ w.heap.size 37)=some (.slice af.rs.A af.rs.l.length af.rs.c):=(O.f_ 37).trans rfl;replace bV:aR.cell? (c_ w.heap.size 38)=some (.slice af.ws.A af.ws.l.length af.ws.c):=(O.f_ 38).trans rfl))
         refine H.out _ _ ?_;clear H K
         try simp only[a_]
         refine ie (v:=.bool false) rfl rfl rfl rfl rfl gs_ ?_
         try simp only[a_]
         refine it (v:=.bool false) rfl gs_ ?_
         try simp only[a_]
         refine it (v:=.bool false) rfl gs_ ?_
         try simp only[a_]
         refine ie rfl rfl rfl rfl rfl gs_ ?_
         try simp only[a_]
         refine ie rfl rfl rfl rfl rfl gs_ ?_
         try simp only[a_]
         refine ie rfl rfl rfl rfl rfl gs_ ?_
         try simp only[a_]
         refine ie rfl rfl rfl rfl rfl gs_ ?_
         try simp only[a_]
         refine ie rfl rfl rfl rfl rfl gs_ ?_
         try simp only[a_]
         refine ie rfl rfl rfl rfl rfl gs_ ?_
         try simp only[a_]
         refine nh rfl rfl rfl rfl rfl (λK H=>?_);go_simp
         (go_at_call_of 129 (Value.slice af.rs.A af.rs.l.length af.rs.c);((with_reducible refine(lJ af.rs.A af.rs.c af.rs.l x.id x.f _ E.rs df).mono ?_);rintro D dO⟨rfl,V⟩;rw[cg.out]))
         refine H.out _ _ ?_;clear H K
         try simp only[a_]
         refine ie (v:=.bool true) rfl rfl rfl rfl rfl gs_ ?_
         try simp only[a_]
         refine it (v:=.bool true) rfl gs_ ?_;exact Kj
       .skip;have a6:=h_ (show m5 af.p x=true by rw[az.out];exact E8 o_);clear az;have bD:(0<=N)=False:=p_;have bH:(0<=b0)=True:=p_;clear a8 bo;refine wp_region_lit ?_;refine kT O underlying53 ?_
        try simp only[a_]
        refine it rfl gs_ ?_
        try simp only[a_]
        refine it rfl gs_ ?_
        try simp only[a_]
        refine ni rfl (λK H=>?_);go_simp
        (go_at_call 128;((with_reducible refine(oL af x.id _ E bI).mono ?_);rintro D aY⟨rfl,aC⟩;rw[cf.out];replace O:=O.hG aC;replace L:=L.hG aC;replace E:=E.hG aC;replace U:=L.f_ 0;replace ad:=L.f_ 1;replace aP:aY.cell? (c_ w.heap.size 37)=some (.slice af.rs.A af.rs.l.length af.rs.c):=(O.f_ 37).trans rfl;replace bV:aY.cell? (c_ w.heap.size 38)=some (.slice af.ws.A af.ws.l.length af.ws.c):=(O.f_ 38).trans rfl))
        refine H.out _ _ ?_;clear H K
        try simp only[a_]
        refine it (v:=.bool false) rfl gs_ ?_
        try simp only[a_]
        refine it (v:=.bool false) rfl gs_ ?_
        try simp only[a_]
        refine ie rfl rfl rfl rfl rfl gs_ ?_
        try simp only[a_]
        refine ie rfl rfl rfl rfl rfl gs_ ?_
        try simp only[a_]
        refine ie rfl rfl rfl rfl rfl gs_ ?_
        try simp only[a_]
        refine ie rfl rfl rfl rfl rfl gs_ ?_
        try simp only[a_]
        refine ie rfl rfl rfl rfl rfl gs_ ?_
        try simp only[a_]
        refine ie rfl rfl rfl rfl rfl gs_ ?_
        try simp only[a_]
        refine nh rfl rfl rfl rfl rfl (λK H=>?_);go_simp
        (go_at_call_of 129 (Value.slice af.ws.A af.ws.l.length af.ws.c);((with_reducible refine(lJ af.ws.A af.ws.c af.ws.l x.id x.f _ E.ws bN).mono ?_);rintro D aR⟨rfl,aU⟩;rw[cC.out];replace O:=O.hG aU;replace L:=L.hG aU;replace E:=E.hG aU;replace U:=L.f_ 0;replace ad:=L.f_ 1;replace aP:aR.cell? (c_ w.heap.size 37)=some (.slice af.rs.A af.rs.l.length af.rs.c):=(O.f_ 37).trans rfl;replace bV:aR.cell? (c_ w.heap.size 38)=some (.slice af.ws.A af.ws.l.length af.ws.c):=(O.f_ 38).trans rfl))
        refine H.out _ _ ?_;clear H K
        try simp only[a_]
        refine ie (v:=.bool true) rfl rfl rfl rfl rfl gs_ ?_
        try simp only[a_]
        obtain⟨bZ,n⟩:=nm_ (Value.bool true);refine it (v:=bZ) rfl (by(subst n;first|(go_simp;done)|(go_simp;with_reducible rfl))) ?_
        try simp only[a_]
        refine it (v:=bZ) rfl (by(subst n;first|(go_simp;done)|(go_simp;with_reducible rfl))) ?_
        try simp only[a_]
        refine iE (b':=true) rfl rfl rfl (by rw[n];rfl) rfl ?_
        try simp only[a_]
        refine iE (b':=true) rfl rfl rfl (by rw[n];rfl) rfl ?_
        try simp only[a_]
        refine iE (b':=true) rfl rfl rfl (by rw[n];rfl) rfl ?_
        try simp only[a_]
        refine iE (b':=true) rfl rfl rfl (by rw[n];rfl) rfl ?_
        try simp only[a_]
        refine iE (b':=true) rfl rfl rfl (by rw[n];rfl) rfl ?_
        try simp only[a_]
        refine iE (b':=true) rfl rfl rfl (by rw[n];rfl) rfl ?_
        try simp only[a_]
        refine iE (b':=true) rfl rfl rfl (by rw[n];rfl) rfl ?_
        try simp only[a_]
        refine iE (b':=true) rfl rfl rfl (by rw[n];rfl) rfl ?_
        try simp only[a_]
        refine it (v:=.bool true) rfl (by(subst n;first|(go_simp;done)|(go_simp;with_reducible rfl))) ?_
        try simp only[a_]
        refine wpList_nil ?_;go_wp2;go_meet;exact⟨ja a6.out.symm,aC.trans aU⟩
      .skip;have a6:=h_ (show m5 af.p x=true by rw[az.out];exact E8 o_);clear az;have bD:(0<=N)=True:=p_;clear a8;refine wp_region_lit ?_;refine kT O underlying53 ?_
       try simp only[a_]
       refine it rfl gs_ ?_
       try simp only[a_]
       refine it rfl gs_ ?_
       try simp only[a_]
       refine ni rfl (λK H=>?_);go_simp
       (go_at_call 128;((with_reducible refine(oL af x.id _ E bI).mono ?_);rintro D aY⟨rfl,aC⟩;rw[cf.out];replace O:=O.hG aC;replace L:=L.hG aC;replace E:=E.hG aC;replace U:=L.f_ 0;replace ad:=L.f_ 1;replace aP:aY.cell? (c_ w.heap.size 37)=some (.slice af.rs.A af.rs.l.length af.rs.c):=(O.f_ 37).trans rfl;replace bV:aY.cell? (c_ w.heap.size 38)=some (.slice af.ws.A af.ws.l.length af.ws.c):=(O.f_ 38).trans rfl))
       refine H.out _ _ ?_;clear H K
       try simp only[a_]
       refine it (v:=.bool true) rfl gs_ ?_
       try simp only[a_]
       obtain⟨bZ,n⟩:=nm_ (Value.bool true);refine it (v:=bZ) rfl (by(subst n;first|(go_simp;done)|(go_simp;with_reducible rfl))) ?_
       try simp only[a_]
       refine iE (b':=true) rfl rfl rfl (by rw[n];rfl) rfl ?_
       try simp only[a_]
       refine iE (b':=true) rfl rfl rfl (by rw[n];rfl) rfl ?_
       try simp only[a_]
       refine iE (b':=true) rfl rfl rfl (by rw[n];rfl) rfl ?_
       try simp only[a_]
       refine iE (b':=true) rfl rfl rfl (by rw[n];rfl) rfl ?_
       try simp only[a_]
       refine iE (b':=true) rfl rfl rfl (by rw[n];rfl) rfl ?_
       try simp only[a_]
       refine iE (b':=true) rfl rfl rfl (by rw[n];rfl) rfl ?_
       try simp only[a_]
       refine iE (b':=true) rfl rfl rfl (by rw[n];rfl) rfl ?_
       try simp only[a_]
       refine iE (b':=true) rfl rfl rfl (by rw[n];rfl) rfl ?_
       try simp only[a_]
       refine it (v:=bZ) rfl (by(subst n;first|(go_simp;done)|(go_simp;with_reducible rfl))) ?_
       try simp only[a_]
       refine it (v:=bZ) rfl (by(subst n;first|(go_simp;done)|(go_simp;with_reducible rfl))) ?_
       try simp only[a_]
       refine iE (b':=true) rfl rfl rfl (by rw[n];rfl) rfl ?_
       try simp only[a_]
       refine iE (b':=true) rfl rfl rfl (by rw[n];rfl) rfl ?_
       try simp only[a_]
       refine iE (b':=true) rfl rfl rfl (by rw[n];rfl) rfl ?_
       try simp only[a_]
       refine iE (b':=true) rfl rfl rfl (by rw[n];rfl) rfl ?_
       try simp only[a_]
       refine iE (b':=true) rfl rfl rfl (by rw[n];rfl) rfl ?_
       try simp only[a_]
       refine iE (b':=true) rfl rfl rfl (by rw[n];rfl) rfl ?_
       try simp only[a_]
       refine iE (b':=true) rfl rfl rfl (by rw[n];rfl) rfl ?_
       try simp only[a_]
       refine iE (b':=true) rfl rfl rfl (by rw[n];rfl) rfl ?_
       try simp only[a_]
       refine it (v:=.bool true) rfl (by(subst n;first|(go_simp;done)|(go_simp;with_reducible rfl))) ?_
       try simp only[a_]
       refine wpList_nil ?_;go_wp2;go_meet;exact⟨ja a6.out.symm,aC⟩
     case rest=>
      obtain⟨rfl,aE⟩:=hcut;replace O:=O.hG aE;replace hE:=hE.hG aE;replace z:=z.hG aE;replace hR:=hR.hG aE;replace L:=L.hG aE;replace E:=E.hG aE;replace ay:=Cs.hG ay aE;replace j:=Cs.hG j aE;replace F:=F.trans aE;clear aE U ad ar aL
      cases u:m5 af.p x with
      |true=>
       have az:=h_ u;clear u;go_wp2;go_roundw
       case rel=>exact⟨k+1,af,o_,gn,O,hE,z,hR,E,(by have q:=ay;rw[bP.out]at q;exact q),j,by rw[aq.out,am.out];exact w4 az.out,ap.mono o_,F⟩
       case measure=>exact mz
      |false=>
       have az:=h_ u;clear u;have U:=L.f_ 0;have ad:=L.f_ 1;have ar:=L.f_ 2;have aL:=L.f_ 3;have v0:=z.f_ 0;have bg:=xo af.ds.l x.id x.f;obtain⟨aj,bM⟩:=mn_ (o2 af.ds.l x.id x.f);rw[bM]at bg;have a7:=h_ bM;clear bM
       rcases sV aj bg.1 with rfl|⟨m,rfl⟩
       .skip;have HM:=h_ (yD (view:=hY l) (l:=rs.l.drop (k+1)) az.out (show o2 af.p.ds x.id x.f<0 by show o2 af.ds.l x.id x.f<0;rw[a7.out];decide))
        go_upto_region 18 with(first|(refine kT O underlying53 ?_)|(go_at_call 130;((with_reducible refine(lU af x.id x.f _ E bn).mono ?_);rintro D aY⟨rfl,aC⟩;rw[a7.out];replace O:=O.hG aC;replace L:=L.hG aC;replace z:=z.hG aC;replace U:=L.f_ 0;replace ad:=L.f_ 1;replace ar:=L.f_ 2;replace aL:=L.f_ 3;replace v0:=z.f_ 0)))
        have aP:aY.cell? (c_ w.heap.size 37)=some (.slice af.rs.A af.rs.l.length af.rs.c):=(O.f_ 37).trans rfl
        go_wp2_with ((go_at_call 98;((with_reducible refine(q5 af.rs.A af.rs.c af.rs.l x _ (E.hG aC).rs df).mono ?_);unfold rX;rintro D ae⟨aG,bQ,rfl,co,eo,S⟩;replace O:=O.hG S;have aP:=O.f_ 37;have cS:=O.hH 37)))
        have Q:=aC.trans S;have M:=(F_ [w.heap.size] ae).setCell (p:=(c_ w.heap.size 37)) (.inl s_) (.slice aG (kw af.rs.l x).length bQ);have cO:lb _ ({af with rs:=⟨aG,bQ,kw af.rs.l x⟩}:Tk):=((λq:lb ae af=>(⟨q.gs,co,q.ws,q.nw,q.nr,q.ds,q.h7,q.x0,eo,q.u_,q.sY,q.rS,q.pE⟩:lb ae ({af with rs:=⟨aG,bQ,kw af.rs.l x⟩}:Tk))) (E.hG Q)).iu O sE M;go_roundw
        case rel=>exact⟨k+1,({af with rs:=⟨aG,bQ,kw af.rs.l x⟩}:Tk),o_,gn,O.hW 37 _,(hE.hG Q).gr M sd_,(z.hG S).gr M sd_,(hR.hG Q).gr M sd_,cO,(by have q:=Cs.iu (Cs.hG ay Q) O d_ M;rw[bP.out]at q;exact q),Cs.iu (Cs.hG j Q) O d_ M,by rw[aq.out,am.out];exact HM.out,(xQ (view:=[]) ap (vv az.out (show o2 af.p.ds x.id x.f<0 by show o2 af.ds.l x.id x.f<0;rw[a7.out];decide))).mono o_,(F.trans Q).hK M s_⟩
        case measure=>exact mz
       .have cR:=h_ (show 0<=o2 af.p.ds x.id x.f by show 0<=o2 af.ds.l x.id x.f;rw[a7.out];omega)
        cases bz:jw af.p (hY l) x.id x.f with
        |none=>
         have bY:=h_ bz;clear bz;have aW:Hid (record t.p (hY l) f.p=none):=h_ (by rw[b9.out,aq.out,am.out,z6 az.out cR.out bY.out])
         go_upto_region 15 with(first|(refine kT O underlying53 ?_)|(go_at_call 130;((with_reducible refine(lU af x.id x.f _ E bn).mono ?_);rintro D aY⟨rfl,aC⟩;rw[a7.out];replace O:=O.hG aC;replace L:=L.hG aC;replace z:=z.hG aC;replace U:=L.f_ 0;replace ad:=L.f_ 1;replace ar:=L.f_ 2;replace aL:=L.f_ 3;replace v0:=z.f_ 0)))
         go_wp2_with (first|(refine kT O underlying53 ?_)|(refine kT z underlying35 ?_)|(go_at_call 131;((with_reducible refine(t_ af A c l x.id x.f _ (E.hG aC) (h.hG (F.trans aC)) dj hl bY.out).mono ?_);unfold m8;rintro D ae⟨t3,rfl,cJ,bJ,S⟩;replace O:=O.hG S))|(refine kQ (t3.g_) O (Tk.one _) ?_;intro T bE Z)|(refine kT bE underlying53 ?_)|(refine kQ (t3.g_) (((hR.hG aC).hG S).gr Z sd_) (Tk.one _) ?_;intro X aw G))
         have g:=(((F.trans aC).trans S).hK Z s_).hK G p_;exact Kk
        |some P=>
         have bY:=h_ bz;clear bz
         go_upto_region 15 with(first|(refine kT O underlying53 ?_)|(go_at_call 130;((with_reducible refine(lU af x.id x.f _ E bn).mono ?_);rintro D aY⟨rfl,aC⟩;rw[a7.out];replace O:=O.hG aC;replace L:=L.hG aC;replace z:=z.hG aC;replace U:=L.f_ 0;replace ad:=L.f_ 1;replace ar:=L.f_ 2;replace aL:=L.f_ 3;replace v0:=z.f_ 0)))
         go_wp2_with (first|(refine kT O underlying53 ?_)|(refine kT z underlying35 ?_)|(go_at_call 131;((with_reducible refine(sM af A c l x.id x.f P _ (E.hG aC) (h.hG (F.trans aC)) dj hl bY.out).mono ?_);unfold m8;rintro D ae⟨t3,rfl,cJ,bJ,S⟩;replace O:=O.hG S))|(refine kQ (t3.g_) O (Tk.one _) ?_;intro T bE Z))
         have Q:=aC.trans S;go_roundw
         case rel=>exact⟨k+1,t3,o_,gn,bE,(hE.hG Q).gr Z sd_,(z.hG S).gr Z sd_,(hR.hG Q).gr Z sd_,cJ.iu O sE Z,(by have q:=Cs.iu (Cs.hG ay Q) O d_ Z;rw[bP.out]at q;exact q),Cs.iu (Cs.hG j Q) O d_ Z,by rw[aq.out,am.out,yC az.out cR.out bY.out,bJ],by rw[bJ];exact(pJ ap bY.out).mono o_,(F.trans Q).hK Z s_⟩
         case measure=>exact mz
    .have aJ:¬(k:Int)<(rs.l.length:Int):=o_;have b4:=h_ (show j1 (hY l) t1.p rs.l=some af.p by rw[aq.out,E3 o_];rfl);clear aq;replace ap:=ap.mono (show 1001000+2*k<=1003000 by omega);clear ag hk
     have bC:af.nw.l.length<=1003000:=by have:=ap.nw;rwa [show af.p.nw=hY af.nw.l from rfl,h9]at this
     have bX:f.nw.l.length<=1000:=by have:=hes.nw;rwa [show f.p.nw=hY f.nw.l from rfl,h9]at this
     have b7:f.h7.l.length<=1000:=hes.h7
     go_wp2_with fail
     clear aJ;obtain⟨dn,c6,cY,cZ,c3⟩:=info_parts infoOb;have V:Gr [] wr wr.drew:=(F_ [] wr).drew;have aV:Sl wr.drew 56 2 af.nw.A af.nw.l.length (jl af.nw.l):=Sl.hG E.nw V;have hbs:wr.heap.size<=wr.drew.heap.size:=H_ _;refine hQ (λw'=>w'.cell? (c_ w.heap.size 39)=some (.slice af.nw.A af.nw.l.length af.nw.c)/\w'.cell? (c_ (w.heap.size+1+1) 36)=some (.slice f.nw.A f.nw.l.length f.nw.c)) 7 k_ ?_
     refine nt ⟨((O.hG V).f_ 39).trans rfl,((hE.hG V).f_ 36).trans rfl⟩ λC=>?_
     refine iP 0 C ?_;refine iP 3 C ?_;refine iP 1 C ?_;refine iP 4 C ?_
     refine h4 2 λK H=>?_
     refine pH rfl (.const (n_)) (.tmp 102) 33 rfl (wr.heap.size) 56 dn _ 2 32 underlying33 c6 cY cZ c3 rfl d_ d_ none 0 0 [] rfl (iV _ _ _ _) af.nw.A af.nw.l.length af.nw.c _ r_ aV (jZ _) o_ hbs ?_;intro aI aF ax cr aM;simp only[U_,EO]at cr;rw[U_];have aB:Gr [] wr ax:=aM.gr [] wr (H_ _) V;clear C;have C:ax.cell? (c_ w.heap.size 39)=some (.slice af.nw.A af.nw.l.length af.nw.c)/\ax.cell? (c_ (w.heap.size+1+1) 36)=some (.slice f.nw.A f.nw.l.length f.nw.c):=⟨((O.hG aB).f_ 39).trans rfl,((hE.hG aB).f_ 36).trans rfl⟩;have bR:Sl ax 56 2 f.nw.A f.nw.l.length (jl f.nw.l):=(he.hG (F.trans aB)).nw
     refine h5 H C λC=>?_
     clear H K
     refine h4 5 λK H=>?_
     refine pH rfl (.tmp 103) (.tmp 105) 33 rfl (wr.heap.size) 56 dn _ 2 32 underlying33 c6 cY cZ c3 rfl d_ d_ aI af.nw.l.length aF _ r_ cr f.nw.A f.nw.l.length f.nw.c _ r_ bR (jZ _) o_ aB.size ?_;intro be aZ aD b6 R;have aN:Gr [] wr aD:=R.gr [] wr (H_ _) aB;clear C;have C:aD.cell? (c_ w.heap.size 39)=some (.slice af.nw.A af.nw.l.length af.nw.c)/\aD.cell? (c_ (w.heap.size+1+1) 36)=some (.slice f.nw.A f.nw.l.length f.nw.c):=⟨((O.hG aN).f_ 39).trans rfl,((hE.hG aN).f_ 36).trans rfl⟩;have cQ:=C.1;have cK:=(O.hG aN).hH 39
     refine h5 H C λC=>?_
     clear H K
     refine h4 6 λK H=>?_
     go_simp
     refine h5 H C λC=>?_
     clear H K
     refine h4 7 λK H=>?_
     go_simp;refine H.out _ _ (λh=>EK h d_) ?_;clear H K
     try simp only[a_]
     refine hN k_ ?_ _;obtain⟨tn,cw⟩:=nm_ ({af with nw:=⟨be,aZ,af.nw.l++f.nw.l⟩});have iM:(af.nw.l++f.nw.l).length=af.nw.l.length+f.nw.l.length:=J_;have aH:=O.hG aN;have ak:=aH.hW 39 (.slice be (af.nw.l.length+f.nw.l.length) aZ)
     have av:tn.g_=af.g_.setIfInBounds 39 (.slice be (af.nw.l.length+f.nw.l.length) aZ):=by rw[cw,<-iM];rfl
     rw[<-av]at ak;have M:=(F_ [w.heap.size] aD).setCell (p:=(c_ w.heap.size 39)) (.inl s_) (.slice be (af.nw.l.length+f.nw.l.length) aZ);have cj:=Sl.iT b6;rw[<-iM]at cj;replace hE:=(hE.hG aN).gr M sd_;replace z:=(z.hG aN).gr M sd_;replace hR:=(hR.hG aN).gr M sd_;replace j:=Cs.iu (Cs.hG j aN) aH d_ M
     have cv:lb (aD.setCell (c_ w.heap.size 39) (.slice be (af.nw.l.length+f.nw.l.length) aZ)) tn:=by
      have q:=E.hG aN;have bI:=he.hG (F.trans aN)
      have bN:Os aD be (af.nw.l++f.nw.l):=by unfold Os;rw[mG];exact cj
      have df:lb aD tn:=by rw[cw];exact⟨q.gs,q.rs,q.ws,bN,λr hr=>(X_.1 hr).elim (q.nr r) (bI.nr r),q.ds,q.h7,q.x0,q.kZ,q.u_,(by show(af.nw.l++f.nw.l).length<=aZ;rw[iM];exact jf b6),q.rS,q.pE⟩
      exact df.iu aH sE M
     have cz:=h_ (show tn.p={af.p with nw:=af.p.nw++hY f.nw.l} by rw[cw];show({af.p with nw:=hY (af.nw.l++f.nw.l)}:i3)=_;unfold hY;rw[EL];rfl)
     have B:tn.p.sm 1004000:=by
      rw[cz.out];exact⟨G_ ap.gs d_,G_ ap.rs d_,G_ ap.ws d_,(by have:=ap.nw;have:=hes.nw;show(af.p.nw++f.p.nw).length<=_;rw[J_];omega),G_ ap.ds d_,G_ ap.h7 d_⟩
     replace F:=(F.trans aN).hK M s_;obtain⟨bl,bU⟩:=nm_ (aD.setCell (c_ w.heap.size 39) (.slice be (af.nw.l.length+f.nw.l.length) aZ));rw[<-bU]at ak cv hE z hR j F |-;clear bU;clear O aH av M cj aB aN cr b6 aM R C cQ cK aV bR hbs V cw E ay;have O:=ak;clear ak
     have cy:Hid (record t.p (hY l) f.p=(match km (hY l) tn.p ws.l with
      |none=>none
      |some b=>some {b with h7:=b.h7++f.h7.l})):=h_ (by have q:=b9.out;rw[b4.out]at q;rw[cz.out];exact q)
     clear b9 b4 cz;have cx:bl.cell? (c_ (w.heap.size+1+1) 35)=some (.slice ws.A ws.l.length ws.c):=(hE.f_ 35).trans rfl;go_wp2
     go_loopw [111] (λi wr=>∃(k:Nat) (t3:Tk),k<=ws.l.length/\i=i_ k/\Bk wr (w.heap.size) 53 t3.g_/\Bk wr (w.heap.size+1+1) 134 ({f with rs:=rs,ws:=ws}:Ef).g_/\Bk wr (w.heap.size+1) 35 #[.slice A l.length c]/\Bk wr (w.heap.size+1+1+1) 53 lv/\lb wr t3/\Cs wr ws.A ws.l/\km (hY l) tn.p ws.l=km (hY l) t3.p (ws.l.drop k)/\t3.p.sm (1004000+3*k)/\Gr [] w wr) (λi _=>ws.l.length-(intOf i).toNat)
     case atStart=>exact⟨0,tn,O_ _,rfl,O,hE,z,hR,cv,j,rfl,B.mono o_,F⟩
     case round=>
      clear O hE z hR cv j F cx B ap;obtain⟨k,af,hk,rfl,O,hE,z,hR,E,j,bj,ap,F⟩:=hrel;have aq:=h_ bj;clear bj
      by_cases ag:k<ws.l.length
      .have aJ:(k:Int)<(ws.l.length:Int):=o_;have bn:af.ds.l.length<=1000000000:=G_ ap.ds o_
       have bI:af.nw.l.length<=1000000000:=by have:=ap.nw;rw[show af.p.nw=hY af.nw.l from rfl,h9]at this;omega
       have bN:af.ws.l.length<=1000000000:=G_ ap.ws o_;have df:af.rs.l.length<=1000000000:=G_ ap.rs o_;have dj:af.p.sm 100000000:=ap.mono o_;obtain⟨b,off,aT,bi,bq,bK,bT⟩:=Cs.at_ j ag;rw[aT];have bP:=h_ aT;have am:=h_ (show ws.l.drop k=ws.l[k]::ws.l.drop (k+1) from R_ ag);generalize ws.l[k]=x at*;have aC:=(F_ [] wr).alloc (.cells #[i_ x.id,i_ x.f,.bool x.v.r,i_ x.v.n] 116);have db:w.heap.size+1+1+1<wr.heap.size:=hR.lt;have L:=P_ wr 116 #[i_ x.id,i_ x.f,.bool x.v.r,i_ x.v.n]
       go_upto_region 24 with fail
       replace O:=O.hG aC;replace hE:=hE.hG aC;replace z:=z.hG aC;replace hR:=hR.hG aC;replace E:=E.hG aC;replace j:=Cs.hG j aC;replace F:=F.trans aC;clear aC bi bq bK bT aT;obtain⟨dx,c9⟩:=nm_ (wr.alloc (.cells #[i_ x.id,i_ x.f,.bool x.v.r,i_ x.v.n] 116));rw[<-c9]at O hE z hR E j L F |-;clear c9;generalize wr.heap.size=e at*;have U:=L.f_ 0;have ad:=L.f_ 1;have ar:=L.f_ 2;have aL:=L.f_ 3;have v0:=z.f_ 0
       cases bz:jw af.p (hY l) x.id x.f with
       |none=>
        have bY:=h_ bz;clear bz;have aW:Hid (record t.p (hY l) f.p=none):=h_ (by rw[cy.out,aq.out,am.out,z2 bY.out])
        go_wp2_with (first|(refine kT O underlying53 ?_)|(refine kT z underlying35 ?_)|(go_at_call 131;((with_reducible refine(t_ af A c l x.id x.f _ E (h.hG F) dj hl bY.out).mono ?_);unfold m8;rintro D ae⟨t3,rfl,cJ,bJ,S⟩;replace O:=O.hG S))|(refine kQ (t3.g_) O (Tk.one _) ?_;intro T bE Z)|(refine kT bE underlying53 ?_)|(refine kQ (t3.g_) ((hR.hG S).gr Z sd_) (Tk.one _) ?_;intro X aw G))
        have g:=((F.trans S).hK Z s_).hK G p_;exact Kk
       |some P=>
        have bY:=h_ bz;clear bz
        go_upto_region 27 with(first|(refine kT O underlying53 ?_)|(refine kT z underlying35 ?_)|(go_at_call 131;((with_reducible refine(sM af A c l x.id x.f P _ E (h.hG F) dj hl bY.out).mono ?_);unfold m8;rintro D ae⟨t3,rfl,cJ,bJ,S⟩;replace O:=O.hG S))|(refine kQ (t3.g_) O (Tk.one _) ?_;intro T bE Z))
        replace hE:=(hE.hG S).gr Z sd_;replace z:=(z.hG S).gr Z sd_;replace hR:=(hR.hG S).gr Z sd_;replace L:=(L.hG S).gr Z sd_;replace j:=Cs.iu (Cs.hG j S) O d_ Z;replace cJ:=cJ.iu O sE Z;replace F:=(F.trans S).hK Z s_;have ai:=h_ bJ
        have cG:t3.p.sm (1004000+3*k+2):=by rw[bJ];exact pJ ap bY.out
        have r2:t3.nw.l.length<=1000000000:=by have:=cG.nw;rw[show t3.p.nw=hY t3.nw.l from rfl,h9]at this;omega
        have r3:t3.ws.l.length<=1000000000:=G_ cG.ws o_;clear O S Z bJ U ad ar aL;have O:=bE;clear bE;have U:=L.f_ 0;have ad:=L.f_ 1;have ar:=L.f_ 2;have aL:=L.f_ 3
        go_wp2_with (first|(refine kT O underlying53 ?_)|(go_at_call 132;((with_reducible refine(rn t3 x _ cJ r2 r3).mono ?_);unfold tC;rintro D Y⟨t4,rfl,cO,aQ,ah⟩;replace O:=O.hG ah))|(refine kQ (t4.g_) O (Tk.one _) ?_;intro ax bO aB))
        go_roundw
        case rel=>exact⟨k+1,t4,o_,gn,bO,(hE.hG ah).gr aB sd_,(z.hG ah).gr aB sd_,(hR.hG ah).gr aB sd_,cO.iu O sE aB,(by have q:=Cs.iu (Cs.hG j ah) O d_ aB;rw[bP.out]at q;exact q),by rw[aq.out,am.out,yB bY.out,aQ,ai.out],by rw[aQ];exact(qZ cG x).mono o_,(F.trans ah).hK aB s_⟩
        case measure=>exact mz
      .have aJ:¬(k:Int)<(ws.l.length:Int):=o_;have b8:=h_ (show km (hY l) tn.p ws.l=some af.p by rw[aq.out,E3 o_];rfl);clear aq;replace ap:=ap.mono (show 1004000+3*k<=1007000 by omega);have dw:af.h7.l.length<=1007000:=ap.h7;clear ag hk
       go_wp2_with fail
       clear aJ;obtain⟨dm,cX,cT,cU,cV⟩:=info_parts infoAc;have V:Gr [] wr wr.drew:=(F_ [] wr).drew;have aV:Sl wr.drew 162 3 af.h7.A af.h7.l.length ((af.h7.l).flatMap Ac.E):=Sl.hG E.h7 V;have hbs:wr.heap.size<=wr.drew.heap.size:=H_ _;refine hQ (λw'=>w'.cell? (c_ w.heap.size 41)=some (.slice af.h7.A af.h7.l.length af.h7.c)/\w'.cell? (c_ (w.heap.size+1+1) 38)=some (.slice f.h7.A f.h7.l.length f.h7.c)) 7 k_ ?_
       refine nt ⟨((O.hG V).f_ 41).trans rfl,((hE.hG V).f_ 38).trans rfl⟩ λC=>?_
       refine iP 0 C ?_;refine iP 3 C ?_;refine iP 1 C ?_;refine iP 4 C ?_
       refine h4 2 λK H=>?_
       refine pH rfl (.const (n_)) (.tmp 133) 36 rfl (wr.heap.size) 162 dm _ 3 24 underlying36 cX cT cU cV rfl d_ d_ none 0 0 [] rfl (iV _ _ _ _) af.h7.A af.h7.l.length af.h7.c _ r_ aV (tz _) o_ hbs ?_;intro aI aF ax cr aM;simp only[U_,EO]at cr;rw[U_];have aB:Gr [] wr ax:=aM.gr [] wr (H_ _) V;clear C;have C:ax.cell? (c_ w.heap.size 41)=some (.slice af.h7.A af.h7.l.length af.h7.c)/\ax.cell? (c_ (w.heap.size+1+1) 38)=some (.slice f.h7.A f.h7.l.length f.h7.c):=⟨((O.hG aB).f_ 41).trans rfl,((hE.hG aB).f_ 38).trans rfl⟩;have bR:Sl ax 162 3 f.h7.A f.h7.l.length ((f.h7.l).flatMap Ac.E):=(he.hG (F.trans aB)).h7
       refine h5 H C λC=>?_
       clear H K
       refine h4 5 λK H=>?_
       refine pH rfl (.tmp 134) (.tmp 136) 36 rfl (wr.heap.size) 162 dm _ 3 24 underlying36 cX cT cU cV rfl d_ d_ aI af.h7.l.length aF _ r_ cr f.h7.A f.h7.l.length f.h7.c _ r_ bR (tz _) o_ aB.size ?_;intro be aZ aD b6 R;have aN:Gr [] wr aD:=R.gr [] wr (H_ _) aB;clear C;have C:aD.cell? (c_ w.heap.size 41)=some (.slice af.h7.A af.h7.l.length af.h7.c)/\aD.cell? (c_ (w.heap.size+1+1) 38)=some (.slice f.h7.A f.h7.l.length f.h7.c):=⟨((O.hG aN).f_ 41).trans rfl,((hE.hG aN).f_ 38).trans rfl⟩;have cQ:=C.1;have cK:=(O.hG aN).hH 41
       refine h5 H C λC=>?_
       clear H K
       refine h4 6 λK H=>?_
       go_simp
       refine h5 H C λC=>?_
       clear H K
       refine h4 7 λK H=>?_
       go_simp;refine H.out _ _ (λh=>EK h d_) ?_;clear H K
       try simp only[a_]
       refine hN k_ ?_ _;obtain⟨tf,cu⟩:=nm_ ({af with h7:=⟨be,aZ,af.h7.l++f.h7.l⟩});have iM:(af.h7.l++f.h7.l).length=af.h7.l.length+f.h7.l.length:=J_;have aH:=O.hG aN;have ak:=aH.hW 41 (.slice be (af.h7.l.length+f.h7.l.length) aZ)
       have av:tf.g_=af.g_.setIfInBounds 41 (.slice be (af.h7.l.length+f.h7.l.length) aZ):=by rw[cu,<-iM];rfl
       rw[<-av]at ak;have M:=(F_ [w.heap.size] aD).setCell (p:=(c_ w.heap.size 41)) (.inl s_) (.slice be (af.h7.l.length+f.h7.l.length) aZ);have cj:=Sl.iT b6;rw[<-iM]at cj;replace hE:=(hE.hG aN).gr M sd_;replace z:=(z.hG aN).gr M sd_;replace hR:=(hR.hG aN).gr M sd_;replace j:=Cs.iu (Cs.hG j aN) aH d_ M
       have dg:lb (aD.setCell (c_ w.heap.size 41) (.slice be (af.h7.l.length+f.h7.l.length) aZ)) tf:=by
        have q:=E.hG aN
        have bN:As aD be (af.h7.l++f.h7.l):=by unfold As;rw[EZ];exact cj
        have df:lb aD tf:=by rw[cu];exact⟨q.gs,q.rs,q.ws,q.nw,q.nr,q.ds,bN,q.x0,q.kZ,q.u_,q.sY,q.rS,(by show(af.h7.l++f.h7.l).length<=aZ;rw[iM];exact jf b6)⟩
        exact df.iu aH sE M
       have cp:=h_ (show record t.p (hY l) f.p=some tf.p by rw[cy.out,b8.out,cu];rfl);replace F:=(F.trans aN).hK M s_;obtain⟨bu,bW⟩:=nm_ (aD.setCell (c_ w.heap.size 41) (.slice be (af.h7.l.length+f.h7.l.length) aZ));rw[<-bW]at ak dg hE z hR j F |-;clear bW;clear O aH av M cj aB aN cr b6 aM R C cQ cK aV hbs V cu E cy b8
       go_wp2_with (first|(refine kT ak underlying53 ?_)|(refine kQ (tf.g_) hR (Tk.one _) ?_;intro X aw G))
       have g:=F.hK G p_;exact lT tf.g_ (.bool true) aw underlying53 (by rw[cp.out];exact⟨tf,rfl,g,λP h=>by injection h with h;subst h;exact⟨dg.iu hR sE G,rfl⟩⟩)
theorem Gr.jL{a b c:World}(h:Gr [] a b)(k:Gr [g] b c)(hg:a.heap.size<=g):Gr [] a c:=h.hK k (λx hx=>.inr (by rw[I_]at hx;rw[hx];exact hg))
theorem wd(g:Cl):(kD rs h g).length=h.length:=by
 unfold kD;split
 .exact jT _ _
 .rfl
theorem wa(gs:List Cl)(h:List Ob):(gs.foldl (kD rs) h).length=h.length:=by
 induction gs generalizing h with
 |nil=>rfl
 |cons g gs Z=>rw[FY,Z,wd]
theorem wG(t:i3)(view:List Ob):(jr t view).length<=view.length+t.nw.length:=by
 unfold jr before;rw[nO,jT]
 have:=oG t.nw (i7 (t.gs.foldl (kD t.rs) view) t.rs)
 rw[jT,wa]at this;exact this
theorem mS:∀j,j<33->t.g_[3+j]?=(iJ t.pc t.r)[j]?
 |0,_=>rfl
 |1,_=>rfl
 |2,_=>rfl
 |3,_=>rfl
 |4,_=>rfl
 |5,_=>rfl
 |6,_=>rfl
 |7,_=>rfl
 |8,_=>rfl
 |9,_=>rfl
 |10,_=>rfl
 |11,_=>rfl
 |12,_=>rfl
 |13,_=>rfl
 |14,_=>rfl
 |15,_=>rfl
 |16,_=>rfl
 |17,_=>rfl
 |18,_=>rfl
 |19,_=>rfl
 |20,_=>rfl
 |21,_=>rfl
 |22,_=>rfl
 |23,_=>rfl
 |24,_=>rfl
 |25,_=>rfl
 |26,_=>rfl
 |27,_=>rfl
 |28,_=>rfl
 |29,_=>rfl
 |30,_=>rfl
 |31,_=>rfl
 |32,_=>rfl
 |n+33,h=>EK h o_
theorem AI(t:Ef):∀j,j<33->t.g_[1+j]?=(iJ t.pc t.r)[j]?
 |0,_=>rfl
 |1,_=>rfl
 |2,_=>rfl
 |3,_=>rfl
 |4,_=>rfl
 |5,_=>rfl
 |6,_=>rfl
 |7,_=>rfl
 |8,_=>rfl
 |9,_=>rfl
 |10,_=>rfl
 |11,_=>rfl
 |12,_=>rfl
 |13,_=>rfl
 |14,_=>rfl
 |15,_=>rfl
 |16,_=>rfl
 |17,_=>rfl
 |18,_=>rfl
 |19,_=>rfl
 |20,_=>rfl
 |21,_=>rfl
 |22,_=>rfl
 |23,_=>rfl
 |24,_=>rfl
 |25,_=>rfl
 |26,_=>rfl
 |27,_=>rfl
 |28,_=>rfl
 |29,_=>rfl
 |30,_=>rfl
 |31,_=>rfl
 |32,_=>rfl
 |n+33,h=>EK h o_
theorem tY(pc:Int)(r:Nat->Vl):uD t.g_ 3 (iJ pc r).toList=({t with pc:=pc,r:=r}:Tk).g_:=rfl
theorem lb.of{w:World}{t t':Tk}(h:lb w t)(h1:t'.gs=t.gs)(h2:t'.rs=t.rs)(h3:t'.ws=t.ws)(au:t'.nw=t.nw)(aq:t'.ds=t.ds)(aU:t'.h7=t.h7):lb w t':=
 ⟨by rw[h1];exact h.gs,by rw[h2];exact h.rs,by rw[h3];exact h.ws,by rw[au];exact h.nw,by rw[au];exact h.nr,by rw[aq];exact h.ds,by rw[aU];exact h.h7,by rw[h1];exact h.x0,by rw[h2];exact h.kZ,by rw[h3];exact h.u_,by rw[au];exact h.sY,by rw[aq];exact h.rS,by rw[aU];exact h.pE⟩
end Go.Proofs.YtenbhdilndfaeaaGreat
