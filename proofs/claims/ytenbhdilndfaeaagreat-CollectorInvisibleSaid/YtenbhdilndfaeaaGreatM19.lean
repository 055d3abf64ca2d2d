import Derived.Test.YtenbhdilndfaeaaGreatM18
set_option maxRecDepth 100000
set_option maxHeartbeats 0
set_option linter.all false
namespace Go.Proofs.YtenbhdilndfaeaaGreat
open Go.RowKit Go.Proofs.Tryz
variable{G:Prop}
def IZ(h:G:=by
 go_wp2_with (first|(go_at_call 82;have R:=o3 B cb d f.kA (hD.hF aD) hd;rw[bK]at R;refine R.mono ?_;rintro e bX⟨rfl,aC⟩;have cJ:bX.cell? (Z gx 47)=some (Y (x.hK+1)):=((bM.hF aC).f_ 47).trans rfl;have MV:=(MS.hF aC).f_ 0;have MU:=(MS.hF aC).f_ 1;have au:=(MS.hF aC).f_ 2;have aN:bX.cell? (Z bt 1)=some (Y f.pc):=((h.hF aC).f_ 1).trans rfl)|(go_at_call 83;have R:=lx A c l hH hC f.pc (N.hF (aD.trans aC)) hn;rw[has]at R;refine R.mono ?_;rintro e aS⟨rfl,aM⟩))
 go_meet;exact⟨jc bi.out.symm,aC.trans aM⟩):G:=h
def Jd(h:G:=by
 go_wp2_with (go_at_call 82;have R:=o3 B cb d f.kA (hD.hF aD) hd;rw[bK]at R;refine R.mono ?_;rintro e bX⟨rfl,aC⟩;have cJ:bX.cell? (Z gx 47)=some (Y (x.hK+1)):=((bM.hF aC).f_ 47).trans rfl;have MV:=(MS.hF aC).f_ 0;have MU:=(MS.hF aC).f_ 1;have au:=(MS.hF aC).f_ 2;have aN:bX.cell? (Z bt 1)=some (Y f.pc):=((h.hF aC).f_ 1).trans rfl)
 go_meet;exact⟨jc bi.out.symm,aC⟩):G:=h
def Jh(h:G:=by
 have aF:I [] am ae:=b8.jM G V;clear C
 refine h4 MY ⟨λj _=>by rw[W_];exact(o.hF aF).f_ j,λj hj=>by rw[(a.hF aF).f_];exact m7 t j hj,λj _=>by rw[W_];exact(a.hF aF).f_ j,((a.hF aF).f_ 1).trans rfl,((a.hF aF).f_ 39).trans rfl,(u.hF aF).f_ 0⟩ λC=>?_
 clear MY K;refine hM k_ ?_ _;go_wp2;go_meet;exact⟨_,f,rfl,b4,V,pF bW cf G,aO,aF⟩):G:=h
def Km(h:G:=by
 refine⟨?_,?_,?_⟩
 .intro he;exact FU (he▸V) (Gy.2 (o.lt))
 .intro he;exact FU (he▸V) (Gy.2 (a.lt))
 .intro he;exact FU (he▸V) (Gy.2 (u.lt))):G:=h
def L4(h:G:=by
 have h1:=o.lt;have h2:=s.lt;have h3:=i.lt;have aw:=Q.lt;have av:=aj.size;omega):G:=h
def un(A:OA)(c:Nat)(l:List In)(hH hC:Int)(B:OA)(cb:Nat)(d:List Int)(t:Tk)(aH:OA)(vc:Nat)(b:List Rw)(w:World)(N:Is w A l)(hn:l.length<=1000000000)(hD:Ns w 3 B d)(hd:d.length<=1000000000)(ht:lh w t)(hv:my w aH vc b)(a2:qT l hH hC d=true)(hs:t.h9=0)(ak:t.p.sm 500000)(cN:b.length<=99999999)(bY: -1<=t.pc)(br:t.pc<=1000000)(bL:0<=t.run)(bO:t.run<=1099511627776)(cj:0<=t.hK)(b0:t.hK<=1000000):
 Calls prog 39 #[.agg #[.slice A l.length c,Y hH,Y hC],.agg #[.slice B d.length cb],.agg t.g_,.agg #[.slice aH b.length vc]] w (ni (jd l hH hC d t.p (hX b)) 0 w):=by
 obtain⟨g,hE⟩:=mn_ (lq l hH hC t.pc t.r (jq t.p (hX b)) ((t.run+1)*1048576+t.nw.l.length));have cA:g.sm 100:=hE▸(su _ _ _ _ _ _ _).mono O;have cr:=U hE
 have bn:Hid (jd l hH hC d t.p (hX b)=if g.h6=4 then np t.p else
  if g.h6=3 then{t.p with h9:=1,next:=t.p.pc+1} else
  match record t.p (hX b) g with
  |none=>np t.p
  |some x=>
   if g.h6=2 then{x with pc:=g.pc,r:=g.r,hK:=x.hK+1,h9:=3,hY:=g.hY,v:=g.v}
   else if g.h6=1/\(i0 (λz=>z==g.kA) d=true∨64<=x.hK+1∨jB l hH hC g.pc=true) then{x with pc:=g.pc,r:=g.r,hK:=x.hK+1,h9:=2,next:=g.pc}
   else{x with pc:=g.pc,r:=g.r,hK:=x.hK+1}):=U (by
   have n:t.p.nw.length=t.nw.l.length:=h7 _
   have y:lq l hH hC t.p.pc t.p.r (jq t.p (hX b)) ((t.p.run+1)*1048576+t.p.nw.length)=g:=by rw[n];exact hE
   unfold jd;rw[y]
   rfl)
 clear hE
 have bD:b.length+t.nw.l.length<=999999999:=by have:=ak.nw;have e:t.p.nw.length=t.nw.l.length:=h7 _;omega
 have bF:t.ws.l.length<=1000000000:=G_ ak.ws O;have c7:t.ds.l.length<=1000000000:=G_ ak.ds O;have da:t.gs.l.length<=1000000000:=G_ ak.gs O;have aK:t.rs.l.length<=1000000000:=G_ ak.rs O
 have cH:(jq t.p (hX b)).length<=1000000000:=by
  have h1:=wV t.p (hX b);have h2:=ak.nw;rw[h7]at h1;omega
 have cX:t.nw.l.length<=500000:=by have:=ak.nw;have e:t.p.nw.length=t.nw.l.length:=h7 _;omega
 obtain⟨o,s,a,u,i,k⟩:=Fl w 26 #[.slice A l.length c,Y hH,Y hC] 32 #[.slice B d.length cb] 53 t.g_ 35 #[.slice aH b.length vc] 53 lA
 go_enter func39,ntmps39
 go_upto_region 1 with fail
 obtain⟨bw,aG⟩:=nm_ (((((w.alloc (.cells #[.slice A l.length c,Y hH,Y hC] 26)).alloc (.cells #[.slice B d.length cb] 32)).alloc (.cells t.g_ 53)).alloc (.cells #[.slice aH b.length vc] 35)).alloc (.cells lA 53));rw[<-aG]at o s a u i k |-;clear aG;obtain⟨bT,a8⟩:=nm_ w.heap.size;obtain⟨aY,al⟩:=nm_ (w.heap.size+1);obtain⟨m,ap⟩:=nm_ (w.heap.size+1+1);obtain⟨aP,an⟩:=nm_ (w.heap.size+1+1+1);obtain⟨gr,aA⟩:=nm_ (w.heap.size+1+1+1+1);rw[<-aA]at i;rw[<-an]at u;rw[<-ap]at a;rw[<-al]at s;rw[<-a8]at o;rw[<-aA,<-an,<-ap,<-al,<-a8];have aU:w.heap.size<=gr:=X;have cM:w.heap.size<=m:=X;have ar:bT≠m/\aY≠m/\aP≠m/\gr≠m/\bT≠gr/\aY≠gr/\aP≠gr:=X;clear a8 al ap an aA;have MV:=o.f_ 0;have MU:=o.f_ 1;have au:=o.f_ 2;have aV:=s.f_ 0;have ct:bw.cell? (Z m 42)=some (Y 0):=(a.f_ 42).trans (Z_ (λbd=>some (Value.int .i64 bd)) hs)
 go_upto_region 5 with(go_at_call 77;have R:=vt A B c cb l hH hC d (N.hF k) hn (hD.hF k) hd;rw[a2]at R;refine R.mono ?_;rintro e w1⟨rfl,hg1⟩;replace ct:w1.cell? (Z m 42)=some (Y 0):=((a.hF hg1).f_ 42).trans (Z_ (λbd=>some (Value.int .i64 bd)) hs))
 replace o:=o.hF hg1.drew;replace s:=s.hF hg1.drew;replace a:=a.hF hg1.drew;replace u:=u.hF hg1.drew;replace i:=i.hF hg1.drew;replace k:=k.trans hg1.drew;clear hg1 ct MV MU au aV;obtain⟨am,b9⟩:=nm_ w1.drew;rw[<-b9]at o s a u i k
 go_cut [10] (λp a7=>∃(bt:Nat) (f:Ef),p=q_ bt/\Bk a7 bt 134 f.g_/\am.heap.size<=bt/\sE a7 f/\f.p=g/\I [] am a7)
 case first=>
  refine hN (λw'=>(∀j,j<3->w'.cell? (Z bT (0+j))=(#[.slice A l.length c,Y hH,Y hC]:Array Value)[j]?)/\(∀j,j<33->w'.cell? (Z m (3+j))=(iM t.pc t.r)[j]?)/\(∀j,j<48->w'.cell? (Z m (0+j))=t.g_[j]?)/\w'.cell? (Z m 1)=some (Y t.run)/\w'.cell? (Z m 39)=some (.slice t.nw.A t.nw.l.length t.nw.c)/\w'.cell? (Z aP 0)=some (.slice aH b.length vc)) 17 k_ ?_;rw[<-b9];clear b9
  refine m5 ⟨λj _=>by rw[W_];exact o.f_ j,λj hj=>by rw[a.f_];exact m7 t j hj,λj _=>by rw[W_];exact a.f_ j,(a.f_ 1).trans rfl,(a.f_ 39).trans rfl,u.f_ 0⟩ λC=>?_
  refine iv 0 (v:=.agg #[.slice A l.length c,Y hH,Y hC]) C ?_ (hy:=(Or.inl ⟨r_,λw' bu=>lS 26 rfl bT 0 r_ (λj hj=>bu.1 j hj) underlying26 rfl k_⟩));refine iv 1 C ?_;refine iv 2 (v:=.agg (iM t.pc t.r)) C ?_ (hy:=(Or.inl ⟨r_,λw' bu=>lS 49 rfl m 3 r_ (λj hj=>bu.2.1 j hj) underlying49 rfl k_⟩));refine iv 3 (v:=.agg t.g_) C ?_ (hy:=(Or.inl ⟨r_,λw' bu=>lS 53 rfl m 0 r_ (λj hj=>bu.2.2.1 j hj) underlying53 rfl k_⟩));refine iv 4 C ?_;refine iv 6 C ?_;refine iv 7 C ?_;refine iv 8 C ?_;refine iv 9 (v:=Y ((t.run+1)*1048576)) C ?_ (hy:=(Or.inl ⟨r_,(by intro w' bu;go_simp;rw[Ha,Ha];omega)⟩));refine iv 10 C ?_;refine iv 11 C ?_;refine iv 12 C ?_;refine iv 13 (v:=Y ((t.run+1)*1048576+t.nw.l.length)) C ?_ (hy:=(Or.inl ⟨r_,(by intro w' bu;go_simp;rw[Ha];omega)⟩));refine ji 5 15 rfl rfl k_ (λK MY=>?_) (λK MY=>?_)
  .go_simp;have T:I [] w am:=k
   (go_at_call 79;((with_reducible refine(pk t aH vc b (ht.hF T) (hv.hF T) bD bF c7 da aK).mono ?_);unfold mt;rintro e E⟨hA,hc,hl,rfl,cC,P,M0⟩))
   have D:I [] am E:=M0;clear C
   refine h4 MY ⟨λj _=>by rw[W_];exact(o.hF D).f_ j,λj hj=>by rw[(a.hF D).f_];exact m7 t j hj,λj _=>by rw[W_];exact(a.hF D).f_ j,((a.hF D).f_ 1).trans rfl,((a.hF D).f_ 39).trans rfl,(u.hF D).f_ 0⟩ λC=>?_
   clear MY K;refine ji 14 15 rfl rfl k_ (λK MY=>?_) (λK MY=>?_)
   .go_simp;have ca:=cC;have W:I [] w E:=k.trans D;have bS:=ca
    (go_at_call 78;have R:=pT A c l hH hC t.pc ((t.run+1)*1048576+t.nw.l.length) t.r hA hc hl (N.hF W) hn bS (by rw[<-h7,P];exact cH) X;rw[P]at R;have L:=R;rw[cr.out]at L;refine L.mono ?_;unfold wH;rintro e F⟨f,rfl,ai,aO,M⟩)
    have y:I [] am F:=D.trans M;clear C
    refine h4 MY ⟨λj _=>by rw[W_];exact(o.hF y).f_ j,λj hj=>by rw[(a.hF y).f_];exact m7 t j hj,λj _=>by rw[W_];exact(a.hF y).f_ j,((a.hF y).f_ 1).trans rfl,((a.hF y).f_ 39).trans rfl,(u.hF y).f_ 0⟩ λC=>?_
    clear MY K
    refine hZ 15 λK MY=>?_
    go_simp;have n:I [] am (F.alloc (.cells tT 134)):=y.alloc _;have S:=P_ F 134 tT;have bW:=ai.hF ((H [] F).alloc (.cells tT 134));have b8:=n;have V:am.heap.size<=F.heap.size:=y.size;clear C
    refine h4 MY ⟨λj _=>by rw[W_];exact(o.hF n).f_ j,λj hj=>by rw[(a.hF n).f_];exact m7 t j hj,λj _=>by rw[W_];exact(a.hF n).f_ j,((a.hF n).f_ 1).trans rfl,((a.hF n).f_ 39).trans rfl,(u.hF n).f_ 0⟩ λC=>?_
    clear MY K
    refine hZ 16 λK MY=>?_
    rw[U_ r_];refine jE 134 _ _ rfl F.heap.size 0 r_ f.g_ r_ 134 _ S (by show 0+43<=43;decide) k_ (Ef.one _) ?_;intro ae b4 G;rw[qB _ _ r_]at b4;have cF:F.heap.size≠bT/\F.heap.size≠m/\F.heap.size≠aP:=Km;have aF:I [] am ae:=b8.jM G V;clear C
    refine h4 MY ⟨λj _=>by rw[W_];exact(o.hF aF).f_ j,λj hj=>by rw[(a.hF aF).f_];exact m7 t j hj,λj _=>by rw[W_];exact(a.hF aF).f_ j,((a.hF aF).f_ 1).trans rfl,((a.hF aF).f_ 39).trans rfl,(u.hF aF).f_ 0⟩ λC=>?_
    clear MY K;refine hM k_ ?_ _;go_wp2;go_meet;exact⟨_,f,rfl,b4,V,pF bW S G,aO,aF⟩
   .go_simp;have n:I [] am (E.alloc (.cells tT 134)):=D.alloc _;have S:=P_ E 134 tT;have ca:=cC.hF ((H [] E).alloc (.cells tT 134));have V:am.heap.size<=E.heap.size:=D.size;clear C
    refine h4 MY ⟨λj _=>by rw[W_];exact(o.hF n).f_ j,λj hj=>by rw[(a.hF n).f_];exact m7 t j hj,λj _=>by rw[W_];exact(a.hF n).f_ j,((a.hF n).f_ 1).trans rfl,((a.hF n).f_ 39).trans rfl,(u.hF n).f_ 0⟩ λC=>?_
    clear MY K
    refine hZ 14 λK MY=>?_
    go_simp;clear D;have D:=n;have W:I [] w (E.alloc (.cells tT 134)):=k.trans D;have bS:=ca
    (go_at_call 78;have R:=pT A c l hH hC t.pc ((t.run+1)*1048576+t.nw.l.length) t.r hA hc hl (N.hF W) hn bS (by rw[<-h7,P];exact cH) X;rw[P]at R;have L:=R;rw[cr.out]at L;refine L.mono ?_;unfold wH;rintro e F⟨f,rfl,ai,aO,M⟩)
    have y:I [] am F:=D.trans M;clear C
    refine h4 MY ⟨λj _=>by rw[W_];exact(o.hF y).f_ j,λj hj=>by rw[(a.hF y).f_];exact m7 t j hj,λj _=>by rw[W_];exact(a.hF y).f_ j,((a.hF y).f_ 1).trans rfl,((a.hF y).f_ 39).trans rfl,(u.hF y).f_ 0⟩ λC=>?_
    clear MY K;have cf:=S.hF M;have bW:=ai;have b8:=y
    refine hZ 16 λK MY=>?_
    rw[U_ r_];refine jE 134 _ _ rfl E.heap.size 0 r_ f.g_ r_ 134 _ cf (by show 0+43<=43;decide) k_ (Ef.one _) ?_;intro ae b4 G;rw[qB _ _ r_]at b4;have cF:E.heap.size≠bT/\E.heap.size≠m/\E.heap.size≠aP:=Km;exact Jh
  .go_simp;have n:I [] am (am.alloc (.cells tT 134)):=(H [] am).alloc _;have S:=P_ am 134 tT;have V:am.heap.size<=am.heap.size:=H_ _;clear C
   refine h4 MY ⟨λj _=>by rw[W_];exact(o.hF n).f_ j,λj hj=>by rw[(a.hF n).f_];exact m7 t j hj,λj _=>by rw[W_];exact(a.hF n).f_ j,((a.hF n).f_ 1).trans rfl,((a.hF n).f_ 39).trans rfl,(u.hF n).f_ 0⟩ λC=>?_
   clear MY K
   refine hZ 5 λK MY=>?_
   go_simp;have T:I [] w (am.alloc (.cells tT 134)):=k.trans n
   (go_at_call 79;((with_reducible refine(pk t aH vc b (ht.hF T) (hv.hF T) bD bF c7 da aK).mono ?_);unfold mt;rintro e E⟨hA,hc,hl,rfl,cC,P,M0⟩))
   have D:I [] am E:=n.trans M0;clear C
   refine h4 MY ⟨λj _=>by rw[W_];exact(o.hF D).f_ j,λj hj=>by rw[(a.hF D).f_];exact m7 t j hj,λj _=>by rw[W_];exact(a.hF D).f_ j,((a.hF D).f_ 1).trans rfl,((a.hF D).f_ 39).trans rfl,(u.hF D).f_ 0⟩ λC=>?_
   clear MY K
   refine hZ 14 λK MY=>?_
   go_simp;have ca:=cC;have W:I [] w E:=k.trans D;have bS:=ca
   (go_at_call 78;have R:=pT A c l hH hC t.pc ((t.run+1)*1048576+t.nw.l.length) t.r hA hc hl (N.hF W) hn bS (by rw[<-h7,P];exact cH) X;rw[P]at R;have L:=R;rw[cr.out]at L;refine L.mono ?_;unfold wH;rintro e F⟨f,rfl,ai,aO,M⟩)
   have y:I [] am F:=D.trans M;clear C
   refine h4 MY ⟨λj _=>by rw[W_];exact(o.hF y).f_ j,λj hj=>by rw[(a.hF y).f_];exact m7 t j hj,λj _=>by rw[W_];exact(a.hF y).f_ j,((a.hF y).f_ 1).trans rfl,((a.hF y).f_ 39).trans rfl,(u.hF y).f_ 0⟩ λC=>?_
   clear MY K;have cf:=(S.hF M0).hF M;have bW:=ai;have b8:=y
   refine hZ 16 λK MY=>?_
   rw[U_ r_];refine jE 134 _ _ rfl am.heap.size 0 r_ f.g_ r_ 134 _ cf (by show 0+43<=43;decide) k_ (Ef.one _) ?_;intro ae b4 G;rw[qB _ _ r_]at b4;have cF:am.heap.size≠bT/\am.heap.size≠m/\am.heap.size≠aP:=Km;exact Jh
 case rest=>
  obtain⟨bt,f,rfl,Q,V,ai,aO,aL⟩:=hcut;clear b9
  have cF:bt≠bT/\bt≠m/\bt≠aP/\bt≠gr/\bt≠aY:=by
   have h1:=o.lt;have h2:=a.lt;have h3:=u.lt;have aw:=i.lt;have av:=s.lt;omega
  have cY:w.heap.size<=bt:=G_ k.size V;replace o:=o.hF aL;replace s:=s.hF aL;replace a:=a.hF aL;replace u:=u.hF aL;replace i:=i.hF aL;replace k:=k.trans aL;clear aL V
  by_cases aw:g.h6=4
  .have hk:=aw;have HM:Hid (jd l hH hC d t.p (hX b)=np t.p):=U (by rw[bn.out,U_ hk]);clear bn;have W:wc.cell? (Z bt 0)=some (Y 4):=(Q.f_ 0).trans (Z_ (λbd=>some (Value.int .i64 bd)) (by rw[<-hk,<-aO];rfl))
   go_wp2_with (first|(refine kV a underlying53 ?_)|(go_at_call 80;((with_reducible refine(tI t (ht.hF k) cj X).mono ?_);unfold tO;rintro e D⟨t5,rfl,bp,aX,aj⟩))|(refine kS (t5.g_) (i.hF aj) (Tk.one _) ?_;intro ae aB G))
   rw[HM.out];exact lO t5.g_ (Y 0) aB underlying53 ⟨t5,rfl,bp.it (i.hF aj) O G,aX,(k.trans aj).hJ G p_⟩
  by_cases h3:g.h6=3
  .have hk:=h3;have HM:Hid (jd l hH hC d t.p (hX b)=({t with h9:=1,next:=t.pc+1}:Tk).p):=U (by rw[bn.out,R_ (by rw[hk];decide),U_ hk];rfl);clear bn;have W:wc.cell? (Z bt 0)=some (Y 3):=(Q.f_ 0).trans (Z_ (λbd=>some (Value.int .i64 bd)) (by rw[<-hk,<-aO];rfl));have z3:wc.cell? (Z m 3)=some (Y t.pc):=(a.f_ 3).trans rfl;have ct:wc.cell? (Z m 42)=some (Y t.h9):=(a.f_ 42).trans rfl;have d8:wc.cell? (Z m 43)=some (Y t.next):=(a.f_ 43).trans rfl;have bI:=a.hG 42;have f43:=a.hG 43;have S:Bk ((wc.setCell (Z m 42) (Y 1)).setCell (Z m 43) (Y (t.pc+1))) m 53 ({t with h9:=1,next:=t.pc+1}:Tk).g_:=(a.hV 42 (Y 1)).hV 43 (Y (t.pc+1));have n1:=ar.1;have n2:=ar.2.1;have n3:=ar.2.2.1;have n:=ar.2.2.2.1;have n5:=ar.2.2.2.2.1;have T:=ar.2.2.2.2.2.1;have n7:=ar.2.2.2.2.2.2;have P:=(i.ih (p:=(Z m 42)) n (Y 1)).ih (p:=(Z m 43)) n (Y (t.pc+1));have M:I [m] wc ((wc.setCell (Z m 42) (Y 1)).setCell (Z m 43) (Y (t.pc+1))):=((H [m] wc).setCell (p:=(Z m 42)) (.inl J) (Y 1)).setCell (p:=(Z m 43)) (.inl J) (Y (t.pc+1));clear n1 n2 n3 n n5 T n7
   go_wp2_with (first|(refine kV S underlying53 ?_)|(refine kS (({t with h9:=1,next:=t.pc+1}:Tk).g_) P (Tk.one _) ?_;intro ae aB G))
   have L:=(k.hJ M p_).hJ G p_;rw[HM.out];exact lO ({t with h9:=1,next:=t.pc+1}:Tk).g_ (Y 0) aB underlying53 ⟨({t with h9:=1,next:=t.pc+1}:Tk),rfl,lh.of (ht.hF L) rfl rfl rfl rfl rfl rfl,rfl,L⟩
  have bP:=aw;have b7:=h3;clear aw h3
  have bJ:Hid (jd l hH hC d t.p (hX b)=match record t.p (hX b) g with
   |none=>np t.p
   |some x=>
    if g.h6=2 then{x with pc:=g.pc,r:=g.r,hK:=x.hK+1,h9:=3,hY:=g.hY,v:=g.v}
    else if g.h6=1/\(i0 (λz=>z==g.kA) d=true∨64<=x.hK+1∨jB l hH hC g.pc=true) then{x with pc:=g.pc,r:=g.r,hK:=x.hK+1,h9:=2,next:=g.pc}
    else{x with pc:=g.pc,r:=g.r,hK:=x.hK+1}):=U (by rw[bn.out,R_ bP,R_ b7])
  clear bn
  have dh:(f.h6==4)=false:=by
   have e:f.h6=g.h6:=by rw[<-aO];rfl
   rw[e]
   simpa using bP
  have bU:(f.h6==3)=false:=by
   have e:f.h6=g.h6:=by rw[<-aO];rfl
   rw[e]
   simpa using b7
  have W:wc.cell? (Z bt 0)=some (Y f.h6):=(Q.f_ 0).trans rfl;have bl:=xl t aH vc b f;rw[aO]at bl;have cD:g.sm 1000:=cA.mono O;have cv:t.p.sm 1000000:=ak.mono O;have z0:=u.f_ 0
  cases aW:record t.p (hX b) g with
  |none=>
   go_upto_region 12 with(first|(refine kV a underlying53 ?_)|(refine kV Q underlying134 ?_)|(go_at_call 81;((with_reducible refine(bl _ (ht.hF k) (hv.hF k) ai cv cD X).mono ?_);rw[aW];unfold vd;rintro e D⟨x,rfl,aj,bR⟩))|(refine kS (x.g_) (P_ D 53 lA) (Tk.one _) ?_;intro ax bf ay))
   have HM:Hid (jd l hH hC d t.p (hX b)=np t.p):=U (by rw[bJ.out,aW]);clear bJ;have y:I [] wc ax:=(aj.alloc _).hJ ay (by simp;exact aj.size);replace a:=a.hF y;replace i:=i.hF y;replace k:=k.trans y;clear y
   go_wp2_with (first|(refine kV a underlying53 ?_)|(go_at_call 80;((with_reducible refine(tI t (ht.hF k) cj X).mono ?_);unfold tO;rintro e F⟨t5,rfl,bp,aX,E⟩))|(refine kS (t5.g_) (i.hF E) (Tk.one _) ?_;intro ae aB G))
   rw[HM.out];exact lO t5.g_ (Y 0) aB underlying53 ⟨t5,rfl,bp.it (i.hF E) O G,aX,(k.trans E).hJ G p_⟩
  |some bh=>
   by_cases bq:g.h6=2
   .have hk:=bq
    go_upto_region 12 with(first|(refine kV a underlying53 ?_)|(refine kV Q underlying134 ?_)|(go_at_call 81;((with_reducible refine(bl _ (ht.hF k) (hv.hF k) ai cv cD X).mono ?_);rw[aW];unfold vd;rintro e D⟨x,rfl,aj,bR⟩))|(refine kS (x.g_) (P_ D 53 lA) (Tk.one _) ?_;intro ax bf ay))
    obtain⟨cw,cy⟩:=bR bh rfl;have y:I [] wc ax:=(aj.alloc _).hJ ay (by simp;exact aj.size);have cx:lh ax x:=(cw.hF ((H [] D).alloc (.cells lA 53))).it (P_ D 53 lA) O ay;have cG:D.heap.size≠bT/\D.heap.size≠aY/\D.heap.size≠gr/\D.heap.size≠bt:=L4;replace Q:=Q.hF y;replace i:=i.hF y;replace o:=o.hF y;replace s:=s.hF y;replace k:=k.trans y
    have bE:w.heap.size<=D.heap.size:=by have:=a.lt;have:=aj.size;omega
    have b1:0<=x.hK/\x.hK<=1000000:=by
     have h1:=(lG aW).hK;rw[<-cy]at h1;have h2:x.hK=t.hK:=h1;omega
    clear y aj ay cw a u z0 W bl bR;generalize D.heap.size=gx at*;obtain⟨m1,m2,m3,n⟩:=cG
    go_upto_region 15 with(first|(refine iD rfl 49 _ rfl bt 1 r_ 134 _ (iM f.pc f.r) Q (λj hj=>By f j hj) _ underlying49 rfl k_ ?_)|(refine je rfl 49 _ _ rfl gx 3 r_ (iM f.pc f.r) r_ 53 _ bf (by show 3+33<=48;decide) k_ (n9) ?_;intro F T E))
    rw[ui]at T;have az:lh F ({x with pc:=f.pc,r:=f.r}:Tk):=lh.of (cx.it bf O E) rfl rfl rfl rfl rfl rfl;have bj:=Q.gr E (zu n.symm);have cn:=i.gr E (zu m3.symm);have cg:=o.gr E (zu m1.symm);have ck:=s.gr E (zu m2.symm);have aR:=k.hJ E p_;clear Q i o s k E cx bf;have cI:F.cell? (Z gx 47)=some (Y x.hK):=(T.f_ 47).trans rfl;have cz:=T.hG 47;have W:F.cell? (Z bt 0)=some (Y f.h6):=(bj.f_ 0).trans rfl
    go_upto_region 16 with fail
    have bM:Bk (F.setCell (Z gx 47) (Y (x.hK+1))) gx 53 ({x with pc:=f.pc,r:=f.r,hK:=x.hK+1}:Tk).g_:=T.hV 47 (Y (x.hK+1));have S:I [gx] F (F.setCell (Z gx 47) (Y (x.hK+1))):=(H [gx] F).setCell (p:=(Z gx 47)) (.inl J) (Y (x.hK+1));have P:=az.it T O S;have h:=bj.gr S (zu n.symm);have M:=cn.gr S (zu m3.symm);have MS:=cg.gr S (zu m1.symm);have bG:=ck.gr S (zu m2.symm);have aD:=aR.hJ S p_;clear T az bj cn cg ck aR S cI cz W;obtain⟨bC,bV⟩:=nm_ (F.setCell (Z gx 47) (Y (x.hK+1)));rw[<-bV]at bM P h M MS bG aD |-;clear bV;have W:bC.cell? (Z bt 0)=some (Y f.h6):=(h.f_ 0).trans rfl;have HM:Hid (jd l hH hC d t.p (hX b)=({x with pc:=f.pc,r:=f.r,hK:=x.hK+1,h9:=3,hY:=f.hY,v:=f.v}:Tk).p):=U (by rw[bJ.out,aW];simp only;rw[U_ hk,<-cy,<-aO];rfl);clear bJ
    have bN:(f.h6==2)=true:=by
     have e:f.h6=g.h6:=by rw[<-aO];rfl
     rw[e]
     simpa using hk
    go_upto_region 17 with fail
    clear W;refine hN (λw'=>w'.cell? (Z bt 40)=some (.bool f.hY)/\w'.cell? (Z bt 41)=some (.bool f.v.r)/\w'.cell? (Z bt 42)=some (Y f.v.n)) 10 k_ ?_;replace bM:=bM.drew;replace P:=P.hF ((H [] bC).drew);replace h:=h.drew;replace M:=M.drew;replace aD:=aD.drew;obtain⟨L,bg⟩:=nm_ bC.drew;rw[<-bg]at bM P h M aD |-;clear bg MS bG
    refine m5 ⟨(h.f_ 40).trans rfl,(h.f_ 41).trans rfl,(h.f_ 42).trans rfl⟩ λC=>?_
    refine iv 0 C ?_;refine iv 1 C ?_;refine iv 2 C ?_;refine iv 3 C ?_;refine iv 4 C ?_;have ct:L.cell? (Z gx 42)=some (Y x.h9):=(bM.f_ 42).trans rfl;have bI:=bM.hG 42;have z44:L.cell? (Z gx 44)=some (.bool x.hY):=(bM.f_ 44).trans rfl;have cQ:=bM.hG 44;have cV:L.cell? (Z gx 45)=some (.bool x.v.r):=(bM.f_ 45).trans rfl;have z46:L.cell? (Z gx 46)=some (Y x.v.n):=(bM.f_ 46).trans rfl;have cR:=bM.hG 45;have cS:=bM.hG 46
    refine hZ 5 λK MY=>?_
    go_simp;clear C
    refine h4 MY ⟨((h.ih (p:=(Z gx 42)) n.symm (Y 3)).f_ 40).trans rfl,((h.ih (p:=(Z gx 42)) n.symm (Y 3)).f_ 41).trans rfl,((h.ih (p:=(Z gx 42)) n.symm (Y 3)).f_ 42).trans rfl⟩ λC=>?_
    clear MY K;refine iv 6 C ?_
    refine hZ 7 λK MY=>?_
    go_simp;clear C
    refine h4 MY ⟨(((h.ih (p:=(Z gx 42)) n.symm (Y 3)).ih (p:=(Z gx 44)) n.symm (.bool f.hY)).f_ 40).trans rfl,(((h.ih (p:=(Z gx 42)) n.symm (Y 3)).ih (p:=(Z gx 44)) n.symm (.bool f.hY)).f_ 41).trans rfl,(((h.ih (p:=(Z gx 42)) n.symm (Y 3)).ih (p:=(Z gx 44)) n.symm (.bool f.hY)).f_ 42).trans rfl⟩ λC=>?_
    clear MY K;refine iv 8 C ?_
    refine hZ 9 λK MY=>?_
    go_simp;clear C
    refine h4 MY ⟨(((((h.ih (p:=(Z gx 42)) n.symm (Y 3)).ih (p:=(Z gx 44)) n.symm (.bool f.hY)).ih (p:=(Z gx 45)) n.symm (.bool f.v.r)).ih (p:=(Z gx 46)) n.symm (Y f.v.n)).f_ 40).trans rfl,(((((h.ih (p:=(Z gx 42)) n.symm (Y 3)).ih (p:=(Z gx 44)) n.symm (.bool f.hY)).ih (p:=(Z gx 45)) n.symm (.bool f.v.r)).ih (p:=(Z gx 46)) n.symm (Y f.v.n)).f_ 41).trans rfl,(((((h.ih (p:=(Z gx 42)) n.symm (Y 3)).ih (p:=(Z gx 44)) n.symm (.bool f.hY)).ih (p:=(Z gx 45)) n.symm (.bool f.v.r)).ih (p:=(Z gx 46)) n.symm (Y f.v.n)).f_ 42).trans rfl⟩ λC=>?_
    clear MY K;have aZ:=bM.hV 42 (Y 3);have bz:=aZ.hV 44 (.bool f.hY);clear ct bI z44 cQ;clear cV z46 cR cS C;refine hM k_ ?_ _;have af:Bk ((((L.setCell (Z gx 42) (Y 3)).setCell (Z gx 44) (.bool f.hY)).setCell (Z gx 45) (.bool f.v.r)).setCell (Z gx 46) (Y f.v.n)) gx 53 ({x with pc:=f.pc,r:=f.r,hK:=x.hK+1,h9:=3,hY:=f.hY,v:=f.v}:Tk).g_:=(bz.hV 45 (.bool f.v.r)).hV 46 (Y f.v.n)
    have cq:I [gx] L ((((L.setCell (Z gx 42) (Y 3)).setCell (Z gx 44) (.bool f.hY)).setCell (Z gx 45) (.bool f.v.r)).setCell (Z gx 46) (Y f.v.n)):=by
     exact((((H [gx] L).setCell (p:=(Z gx 42)) (.inl J) _).setCell (p:=(Z gx 44)) (.inl J) _).setCell (p:=(Z gx 45)) (.inl J) _).setCell (p:=(Z gx 46)) (.inl J) _
    have cp:lh ((((L.setCell (Z gx 42) (Y 3)).setCell (Z gx 44) (.bool f.hY)).setCell (Z gx 45) (.bool f.v.r)).setCell (Z gx 46) (Y f.v.n)) ({x with pc:=f.pc,r:=f.r,hK:=x.hK+1,h9:=3,hY:=f.hY,v:=f.v}:Tk):=lh.of (P.it bM O cq) rfl rfl rfl rfl rfl rfl;have bk:=M.gr cq (zu m3.symm);have co:=aD.hJ cq p_;clear bz aZ bM P h M aD cq;obtain⟨cO,cu⟩:=nm_ ((((L.setCell (Z gx 42) (Y 3)).setCell (Z gx 44) (.bool f.hY)).setCell (Z gx 45) (.bool f.v.r)).setCell (Z gx 46) (Y f.v.n));rw[<-cu]at af cp bk co |-;clear cu
    go_wp2_with (first|(refine kV af underlying53 ?_)|(refine kS (({x with pc:=f.pc,r:=f.r,hK:=x.hK+1,h9:=3,hY:=f.hY,v:=f.v}:Tk).g_) bk (Tk.one _) ?_;intro ae aB G))
    rw[HM.out];exact lO ({x with pc:=f.pc,r:=f.r,hK:=x.hK+1,h9:=3,hY:=f.hY,v:=f.v}:Tk).g_ (Y 0) aB underlying53 ⟨({x with pc:=f.pc,r:=f.r,hK:=x.hK+1,h9:=3,hY:=f.hY,v:=f.v}:Tk),rfl,cp.it bk O G,rfl,co.hJ G p_⟩
   .skip
    go_upto_region 12 with(first|(refine kV a underlying53 ?_)|(refine kV Q underlying134 ?_)|(go_at_call 81;((with_reducible refine(bl _ (ht.hF k) (hv.hF k) ai cv cD X).mono ?_);rw[aW];unfold vd;rintro e D⟨x,rfl,aj,bR⟩))|(refine kS (x.g_) (P_ D 53 lA) (Tk.one _) ?_;intro ax bf ay))
    obtain⟨cw,cy⟩:=bR bh rfl;have y:I [] wc ax:=(aj.alloc _).hJ ay (by simp;exact aj.size);have cx:lh ax x:=(cw.hF ((H [] D).alloc (.cells lA 53))).it (P_ D 53 lA) O ay;have cG:D.heap.size≠bT/\D.heap.size≠aY/\D.heap.size≠gr/\D.heap.size≠bt:=L4;replace Q:=Q.hF y;replace i:=i.hF y;replace o:=o.hF y;replace s:=s.hF y;replace k:=k.trans y
    have bE:w.heap.size<=D.heap.size:=by have:=a.lt;have:=aj.size;omega
    have b1:0<=x.hK/\x.hK<=1000000:=by
     have h1:=(lG aW).hK;rw[<-cy]at h1;have h2:x.hK=t.hK:=h1;omega
    clear y aj ay cw a u z0 W bl bR;generalize D.heap.size=gx at*;obtain⟨m1,m2,m3,n⟩:=cG
    go_upto_region 15 with(first|(refine iD rfl 49 _ rfl bt 1 r_ 134 _ (iM f.pc f.r) Q (λj hj=>By f j hj) _ underlying49 rfl k_ ?_)|(refine je rfl 49 _ _ rfl gx 3 r_ (iM f.pc f.r) r_ 53 _ bf (by show 3+33<=48;decide) k_ (n9) ?_;intro F T E))
    rw[ui]at T;have az:lh F ({x with pc:=f.pc,r:=f.r}:Tk):=lh.of (cx.it bf O E) rfl rfl rfl rfl rfl rfl;have bj:=Q.gr E (zu n.symm);have cn:=i.gr E (zu m3.symm);have cg:=o.gr E (zu m1.symm);have ck:=s.gr E (zu m2.symm);have aR:=k.hJ E p_;clear Q i o s k E cx bf;have cI:F.cell? (Z gx 47)=some (Y x.hK):=(T.f_ 47).trans rfl;have cz:=T.hG 47;have W:F.cell? (Z bt 0)=some (Y f.h6):=(bj.f_ 0).trans rfl
    go_upto_region 16 with fail
    have bM:Bk (F.setCell (Z gx 47) (Y (x.hK+1))) gx 53 ({x with pc:=f.pc,r:=f.r,hK:=x.hK+1}:Tk).g_:=T.hV 47 (Y (x.hK+1));have S:I [gx] F (F.setCell (Z gx 47) (Y (x.hK+1))):=(H [gx] F).setCell (p:=(Z gx 47)) (.inl J) (Y (x.hK+1));have P:=az.it T O S;have h:=bj.gr S (zu n.symm);have M:=cn.gr S (zu m3.symm);have MS:=cg.gr S (zu m1.symm);have bG:=ck.gr S (zu m2.symm);have aD:=aR.hJ S p_;clear T az bj cn cg ck aR S cI cz W;obtain⟨bC,bV⟩:=nm_ (F.setCell (Z gx 47) (Y (x.hK+1)));rw[<-bV]at bM P h M MS bG aD |-;clear bV;have W:bC.cell? (Z bt 0)=some (Y f.h6):=(h.f_ 0).trans rfl;have a6:Hid (jd l hH hC d t.p (hX b)=if f.h6=1/\(i0 (λz=>z==f.kA) d=true∨64<=x.hK+1∨jB l hH hC f.pc=true) then({x with pc:=f.pc,r:=f.r,hK:=x.hK+1,h9:=2,next:=f.pc}:Tk).p else({x with pc:=f.pc,r:=f.r,hK:=x.hK+1}:Tk).p):=U (by rw[bJ.out,aW];simp only;rw[R_ bq,<-cy,<-aO];rfl);clear bJ
    have bN:(f.h6==2)=false:=by
     have e:f.h6=g.h6:=by rw[<-aO];rfl
     rw[e]
     simpa using bq
    go_upto_region 18 with fail
    go_cut [81] (λbm a7=>bm=.bool (decide (f.h6=1/\(i0 (λz=>z==f.kA) d=true∨64<=x.hK+1∨jB l hH hC f.pc=true)))/\I [] bC a7)
    case first=>
     have aV:=bG.f_ 0;have cW:bC.cell? (Z bt 39)=some (Y f.kA):=(h.f_ 39).trans rfl
     by_cases bZ:f.h6=1
     .have bo:(f.h6==1)=true:=zu bZ
      cases bK:i0 (λz=>z==f.kA) d with
      |true=>
       have bi:=U (show decide (f.h6=1/\(i0 (λz=>z==f.kA) d=true∨64<=x.hK+1∨jB l hH hC f.pc=true))=true by simp[bZ,bK]);exact Jd
      |false=>
       by_cases ce:64<=x.hK+1
       .have bi:=U (show decide (f.h6=1/\(i0 (λz=>z==f.kA) d=true∨64<=x.hK+1∨jB l hH hC f.pc=true))=true by simp[bZ,ce])
        have d7:((64:Int)<=x.hK+1)=True:=by simp[ce]
        exact Jd
       .have d7:((64:Int)<=x.hK+1)=False:=by simp[ce]
        cases has:jB l hH hC f.pc with
        |true=>
         have bi:=U (show decide (f.h6=1/\(i0 (λz=>z==f.kA) d=true∨64<=x.hK+1∨jB l hH hC f.pc=true))=true by simp[bZ,has]);exact IZ
        |false=>
         have bi:=U (show decide (f.h6=1/\(i0 (λz=>z==f.kA) d=true∨64<=x.hK+1∨jB l hH hC f.pc=true))=false by simp[bK,ce,has]);exact IZ
     .have bo:(f.h6==1)=false:=zu bZ;have bi:=U (show decide (f.h6=1/\(i0 (λz=>z==f.kA) d=true∨64<=x.hK+1∨jB l hH hC f.pc=true))=false by simp[bZ]);go_wp2;go_meet;exact⟨jc bi.out.symm,H _ _⟩
    case rest=>
     obtain⟨rfl,y⟩:=hcut;replace bM:=bM.hF y;replace P:=P.hF y;replace h:=h.hF y;replace M:=M.hF y;replace aD:=aD.trans y;clear y W MS bG
     by_cases bQ:f.h6=1/\(i0 (λz=>z==f.kA) d=true∨64<=x.hK+1∨jB l hH hC f.pc=true)
     .have HM:Hid (jd l hH hC d t.p (hX b)=({x with pc:=f.pc,r:=f.r,hK:=x.hK+1,h9:=2,next:=f.pc}:Tk).p):=U (by rw[a6.out,U_ bQ]);have q:decide (f.h6=1/\(i0 (λz=>z==f.kA) d=true∨64<=x.hK+1∨jB l hH hC f.pc=true))=true:=Gd bQ;rw[q];clear q bQ a6
      go_upto_region 19 with fail
      refine hN (λw'=>w'.cell? (Z bt 1)=some (Y f.pc)) 7 k_ ?_;replace bM:=bM.drew;replace P:=P.hF ((H [] wc).drew);replace h:=h.drew;replace M:=M.drew;replace aD:=aD.drew;obtain⟨L,bg⟩:=nm_ wc.drew;rw[<-bg]at bM P h M aD |-;clear bg
      refine m5 ((h.f_ 1).trans rfl) λC=>?_
      refine iv 0 C ?_;refine iv 1 C ?_;refine iv 2 C ?_;refine iv 3 C ?_;have ct:L.cell? (Z gx 42)=some (Y x.h9):=(bM.f_ 42).trans rfl;have bI:=bM.hG 42;have d8:L.cell? (Z gx 43)=some (Y x.next):=(bM.f_ 43).trans rfl;have f43:=bM.hG 43
      refine hZ 4 λK MY=>?_
      go_simp;clear C
      refine h4 MY (((h.ih (p:=(Z gx 42)) n.symm (Y 2)).f_ 1).trans rfl) λC=>?_
      clear MY K;refine iv 5 C ?_
      refine hZ 6 λK MY=>?_
      go_simp;clear C
      refine h4 MY ((((h.ih (p:=(Z gx 42)) n.symm (Y 2)).ih (p:=(Z gx 43)) n.symm (Y f.pc)).f_ 1).trans rfl) λC=>?_
      clear MY K;have aZ:=bM.hV 42 (Y 2);clear ct bI;clear d8 f43 C;refine hM k_ ?_ _;have af:Bk ((L.setCell (Z gx 42) (Y 2)).setCell (Z gx 43) (Y f.pc)) gx 53 ({x with pc:=f.pc,r:=f.r,hK:=x.hK+1,h9:=2,next:=f.pc}:Tk).g_:=aZ.hV 43 (Y f.pc);have cq:I [gx] L ((L.setCell (Z gx 42) (Y 2)).setCell (Z gx 43) (Y f.pc)):=((H [gx] L).setCell (p:=(Z gx 42)) (.inl J) _).setCell (p:=(Z gx 43)) (.inl J) _;have cp:=lh.of (t':=({x with pc:=f.pc,r:=f.r,hK:=x.hK+1,h9:=2,next:=f.pc}:Tk)) (P.it bM O cq) rfl rfl rfl rfl rfl rfl;have bk:=M.gr cq (zu m3.symm);have co:=aD.hJ cq p_;clear aZ bM P h M aD cq;obtain⟨cO,cu⟩:=nm_ ((L.setCell (Z gx 42) (Y 2)).setCell (Z gx 43) (Y f.pc));rw[<-cu]at af cp bk co |-;clear cu
      go_wp2_with (first|(refine kV af underlying53 ?_)|(refine kS (({x with pc:=f.pc,r:=f.r,hK:=x.hK+1,h9:=2,next:=f.pc}:Tk).g_) bk (Tk.one _) ?_;intro ae aB G))
      rw[HM.out];exact lO ({x with pc:=f.pc,r:=f.r,hK:=x.hK+1,h9:=2,next:=f.pc}:Tk).g_ (Y 0) aB underlying53 ⟨({x with pc:=f.pc,r:=f.r,hK:=x.hK+1,h9:=2,next:=f.pc}:Tk),rfl,cp.it bk O G,rfl,co.hJ G p_⟩
     .have HM:Hid (jd l hH hC d t.p (hX b)=({x with pc:=f.pc,r:=f.r,hK:=x.hK+1}:Tk).p):=U (by rw[a6.out,R_ bQ]);have q:decide (f.h6=1/\(i0 (λz=>z==f.kA) d=true∨64<=x.hK+1∨jB l hH hC f.pc=true))=false:=GX bQ;rw[q];clear q bQ a6
      go_wp2_with (first|(refine kV bM underlying53 ?_)|(refine kS (({x with pc:=f.pc,r:=f.r,hK:=x.hK+1}:Tk).g_) M (Tk.one _) ?_;intro ae aB G))
      rw[HM.out];exact lO ({x with pc:=f.pc,r:=f.r,hK:=x.hK+1}:Tk).g_ (Y 0) aB underlying53 ⟨({x with pc:=f.pc,r:=f.r,hK:=x.hK+1}:Tk),rfl,(lh.of (t':=({x with pc:=f.pc,r:=f.r,hK:=x.hK+1}:Tk)) P rfl rfl rfl rfl rfl rfl).it M O G,rfl,aD.hJ G p_⟩
