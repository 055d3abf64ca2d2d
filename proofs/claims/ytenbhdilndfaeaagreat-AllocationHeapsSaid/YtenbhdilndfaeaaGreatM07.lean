import Derived.Test.YtenbhdilndfaeaaGreatM05
import Derived.Test.YtenbhdilndfaeaaGreatM06
set_option maxRecDepth 100000
set_option maxHeartbeats 0
set_option linter.all false
namespace Go.Proofs.YtenbhdilndfaeaaGreat
open Go.RowKit Go.Proofs.Tryz
variable{G:Prop}{α:Type}{k:Nat}{ty:TypeId}(A:Option Addr)(c:Nat)(t:Tk)(l:List Fo)(x:Int)(h:List Ob)(w:World)
theorem GY(h:G:=by
 go_wp2_with (at_builtin;refine iD _ rfl (.tmp 26) (.tmp 28) 50 rfl (w.heap.size+1) 116 bz _ 4 32 underlying50 bw br bi bf rfl d_ d_ A' n' c' _ rfl ax _ 1 1 _ rfl X (pq [x]) o_ t ?_;intro ay an w2 aY av;have bo:=av.bk hB d_)
 go_roundw
 case rel=>exact⟨k+1,ay,an,n'+1,by omega,by go_num,rfl,by rw[aB.out];simp[a2.out],by rw[aB.out];simpa[Ej]using aY,bo,F_ t av.size,av.gr [] w o_ bV⟩
 case measure=>simp[intOf];omega):G:=h
theorem Hm(h:G:=by
 go_wp2;have hE:=M.hJ 0 (.slice aJ f.length aK);refine rr_ #[.slice aJ f.length aK] hE underlying35 ⟨aJ,aK,f,rfl,?_,?_,?_⟩
 .exact bT.ig M d_ d_ ((D_ _ _).setCell (.inl s_) _)
 .rw[aE.out,s.out,q.out,aT.out,bQ.out,Fc]
 .exact(B.trans aC).setCell (.inr (by first|(simp;done)|(simp;omega)|omega)) _):G:=h
theorem Iq(h:G:=by
 have hl:x*2+1<(jy t.nw.l).length:=by rw[ni];omega
 have:=m.out _ _ (K_ hl)
 rcases D5 (x*2+1) f.size with h|h
 .exact h
 .exact Ku):G:=h
theorem IR(h:G:=by
 have HA:=h_ (show je l n=0 by unfold je;rw[P_ o_]);exact Ka):G:=h
theorem JY(h:G:=by
 show Sl cQ 56 2 (j_ d) (t.nw.l.set x _).length _
 rw[Eb];exact ao.ig l d_ aM):G:=h
theorem Ka(h:G:=by
 go_enter func94,ntmps94
 go_wp2;go_ret;exact⟨j0 (by rw[HA.out]),J⟩):G:=h
def iN{α:Type}(p:α->Bool)(l:List α):Bool:=l.any p
theorem oO{p:α->Bool}{l:List α}(hk:k<l.length)(hp:p l[k]=true):iN p (l.drop k)=true:=by
 unfold iN;rw[X_ hk];simp only[F1,hp,F7]
theorem oo{p:α->Bool}{l:List α}(hk:k<l.length)(hp:p l[k]=false):iN p (l.drop k)=iN p (l.drop (k+1)):=by
 unfold iN;rw[X_ hk];simp only[F1,hp,FM]
theorem qL{p:α->Bool}{l:List α}(hk:l.length<=k):iN p (l.drop k)=false:=by
 unfold iN;rw[El hk]
 rfl
def Ns(w:World)(ty:TypeId)(A:Option Addr)(l:List Int):Prop:=Sl w ty 1 A l.length (l.map (Value.int .i64))
theorem Ns.g_{w w':World}{A:Option Addr}{l:List Int}(h:Ns w ty A l)(hg:Gr [] w w'):Ns w' ty A l:=Sl.g_ h hg
theorem Ns.at_{w:World}{A:Option Addr}{l:List Int}(h:Ns w ty A l)(hk:k<l.length):∃b off,A=some (c_ b off)/\w.cell? (c_ b (off+k))=some (i_ l[k]):=by
 obtain⟨b,off,u,U,hu,hc⟩:=Sl.at_ h hk
 have e:(l.map (Value.int .i64))[k]?=some (i_ l[k]):=by simp[K_ hk]
 rw[e]at hu;injection hu with hu;subst hu;exact⟨b,off,U,hc⟩
theorem oP(l:List Int)(s:Int)(w:World)(h:Ns w 3 A l)(hn:l.length<=1000000000):
 Calls prog 82 #[.agg #[.slice A l.length c],i_ s] w λe w'=>e=.returned (.bool (iN (λx=>x==s) l))/\Gr [] w w':=by
 have bg:=h_ (show iN (λx=>x==s) l=iN (λx=>x==s) (l.drop 0) from rfl);have hB:=L_ w 32 #[.slice A l.length c];have aU:=hB.f_ 0;generalize hL:l.length=n at*
 go_enter func82,ntmps82
 go_wp2
 go_loopw [10] (λi w'=>∃k:Nat,k<=n/\i=i_ k/\iN (λx=>x==s) l=iN (λx=>x==s) (l.drop k)/\Gr [] w w') (λi _=>n-(intOf i).toNat)
 case atStart=>exact⟨0,N_ _,rfl,bg.out,(D_ _ _).alloc _⟩
 case round=>
  obtain⟨k,hk,rfl,G,F⟩:=hrel;have aR:=h_ G;clear G
  by_cases aj:k<n
  .have aH:k<l.length:=by omega
   obtain⟨b,off,rfl,bj⟩:=(h.g_ F).at_ aH
   by_cases t0:l[k]=s
   .have aT:=h_ (oO (p:=λx=>x==s) aH (by simpa using t0))
    have bM:(l[k]==s)=true:=by simpa using t0
    clear t0;go_wp2;go_ret;exact⟨iq (by rw[aR.out,aT.out]),F⟩
   .have aT:=h_ (oo (p:=λx=>x==s) aH (by simpa using t0))
    have bM:(l[k]==s)=false:=by simpa using t0
    clear t0;go_wp2;go_roundw
    case rel=>exact⟨k+1,by omega,by go_num,by rw[aR.out,aT.out],F⟩
    case measure=>simp[intOf];omega
  .have aT:=h_ (qL (p:=λx=>x==s) (l:=l) (k:=k) o_);go_wp2;go_ret;exact⟨iq (by rw[aR.out,aT.out]),F⟩
def je(l:List Int)(n:Int):Int:=if 0<=n/\n<(l.length:Int) then l.getD n.toNat 0 else 0
theorem wX(l:List Int)(n:Int)(w:World)(h:Ns w 2 A l)(hn:l.length<=1000000000):
 Calls prog 94 #[.agg #[.slice A l.length c],i_ n] w λe w'=>e=.returned (i_ (je l n))/\Gr [] w w':=by
 have hB:=L_ w 29 #[.slice A l.length c];have J:=(D_ [] w).alloc (.cells #[.slice A l.length c] 29);have aU:=hB.f_ 0
 by_cases h0:0<=n
 .by_cases h1:n<(l.length:Int)
  .have hk:n.toNat<l.length:=by omega
   obtain⟨k,cj⟩:∃k:Nat,n=k:=⟨n.toNat,(EX h0).symm⟩;have HA:=h_ (show je l n=l[n.toNat] by unfold je;rw[Q_ ⟨h0,h1⟩];simp[List.getD,K_ hk]);obtain⟨b,off,rfl,bj⟩:=(h.g_ J).at_ hk
   have bq:¬(l.length:Int)<=n:=by omega
   clear cj;exact Ka
  .exact IR
 .exact IR
def k7(l:List Fo)(x:Int):Nat:=lX (λf:Fo=>decide (f.fr<x)) l
def oX(l:List Fo)(x:Int):Bool:=decide (k7 l x<l.length)&&((l.getD (k7 l x) default).fr==x)
theorem Bf{l:List Fo}{x:Int}(hk:k<l.length)(h:k7 l x=k):oX l x=(l[k].fr==x):=by
 unfold oX;rw[h];simp[hk,List.getD]
theorem Be:k7 l x<=l.length:=pi _ _
theorem qK(h:Fs w A l)(hn:l.length<=1000000000):
 Calls prog 99 #[.agg #[.slice A l.length c],i_ x] w λe w'=>e=.returned (.tuple #[i_ (k7 l x),.bool (oX l x)])/\Gr [] w w':=by
 have bg:=h_ (show k7 l x=0+lX (λf:Fo=>decide (f.fr<x)) (l.drop 0) by simp[k7]);have hB:=L_ w 96 #[.slice A l.length c];have aU:=hB.f_ 0
 go_enter func99,ntmps99
 go_wp2
 go_loopw [11] (λi w'=>∃k:Nat,k<=l.length/\i=i_ k/\k7 l x=k+lX (λf:Fo=>decide (f.fr<x)) (l.drop k)/\Bk w' w.heap.size 96 #[.slice A l.length c]/\Gr [] w w') (λi _=>l.length-(intOf i).toNat)
 case atStart=>exact⟨0,N_ _,rfl,bg.out,hB,(D_ _ _).alloc _⟩
 case round=>
  clear hB aU;obtain⟨k,hk,rfl,G,hB,F⟩:=hrel;have aR:=h_ G;clear G
  by_cases aj:k<l.length
  .have aH:=aj
   have aL:(k:Int)<(l.length:Int):=by omega
   obtain⟨b,off,rfl,bj,be,bJ⟩:=(h.g_ F).at_ aH;have L:=L_ wr 168 #[i_ l[k].fr,i_ l[k].dst,i_ l[k].n];have Z:=L.f_ 0
   by_cases t0:l[k].fr<x
   .have aT:=h_ (oh (p:=(λf:Fo=>decide (f.fr<x))) aH (by simpa using t0))
    have bM:¬x<=l[k].fr:=by omega
    clear t0;go_wp2;go_roundw
    case rel=>exact⟨k+1,by omega,by go_num,by rw[aR.out,aT.out];omega,hB.alloc _,F.alloc _⟩
    case measure=>simp[intOf];omega
   .have aT:=h_ (nk (p:=(λf:Fo=>decide (f.fr<x))) aH (by simpa using t0));have ak:=h_ (show k7 l x=k by rw[aR.out,aT.out];omega);have bK:=h_ (Bf aH ak.out)
    have bM:x<=l[k].fr:=by omega
    clear t0
    go_wp2_with fail
    go_quiet (fail)
    go_wp2
    go_ret2
    exact⟨by rw[ak.out,bK.out];rfl,(F.alloc _).drewN _⟩
  .have aT:=h_ (ra (p:=(λf:Fo=>decide (f.fr<x))) (l:=l) (k:=k) o_)
   have aL:¬(k:Int)<(l.length:Int):=by omega
   have ak:=h_ (show k7 l x=l.length by rw[aR.out,aT.out];omega);have bK:=h_ (show oX l x=false by unfold oX;rw[ak.out];simp);have aU:=hB.f_ 0;go_wp2
   go_ret2
   exact⟨by rw[ak.out,bK.out];rfl,F⟩
theorem yp(h:Fs w A l)(hn:l.length<=1000000000):
 Calls prog 101 #[.agg #[.slice A l.length c],i_ x] w λe w'=>e=.returned (.tuple #[i_ (if oX l x=true then(l.getD (k7 l x) default).dst else 0),.bool (oX l x)])/\Gr [] w w':=by
 have hB:=L_ w 96 #[.slice A l.length c];have J:=(D_ [] w).alloc (.cells #[.slice A l.length c] 96);have aU:=hB.f_ 0
 cases hf:oX l x with
 |false=>
  have ak:=h_ hf;clear hf
  go_enter func101,ntmps101
  go_wp2_with (go_at_call 99;((with_reducible refine(qK A c l x _ (h.g_ J) hn).mono ?_);rintro e ai⟨rfl,S⟩;rw[ak.out]))
  go_ret2
  exact⟨rfl,J.trans S⟩
 |true=>
  have aj:=by
   unfold oX at hf;simp at hf;exact hf.1
  have aL:(k7 l x:Int)<(l.length:Int):=by omega
  have ak:=h_ hf;clear hf
  go_enter func101,ntmps101
  go_wp2_with fail
  go_at_call 99
  refine(qK A c l x _ (h.g_ J) hn).mono ?_;rintro e ai⟨rfl,S⟩;rw[ak.out];have bn:=(hB.g_ S).f_ 0;obtain⟨b,off,rfl,bj,be,bJ⟩:=(h.g_ (J.trans S)).at_ aj;go_wp2
  go_ret2
  exact⟨by first|rfl|(rw[HD.out];rfl),J.trans S⟩
def Cn(P:List Ac)(w:World)(e:Ending)(w':World):Prop:=∃(A:Option Addr) (d:Nat),e=.returned (.slice A P.length d)/\As w' A P/\P.length<=d/\Gr [] w w'
theorem vM(l:List Ac)(B:Option Addr)(d:Nat)(m:List Ac)(w:World)(h:As w A l)(Y:As w B m)(hn:l.length<=1000000000)(bq:m.length<=1000000000):
 Calls prog 93 #[.slice A l.length c,.slice B m.length d] w (Cn (l++m) w):=by
 obtain⟨bz,bw,br,bi,bf⟩:=info_parts infoAc;have C:Sl w 162 3 A l.length (l.flatMap Ac.E):=h
 have O:Hid (∀w',Gr [] w w'->Sl w' 162 3 B m.length (m.flatMap Ac.E)):=h_ λw' hg=>Sl.g_ Y hg
 have hbs:w.heap.size<=w.heap.size:=G_ _
 go_enter func93,ntmps93
 go_wp2_with (first
  |(at_builtin;refine iD _ rfl (.const (n_)) (.tmp 5) 36 rfl w.heap.size 162 bz _ 3 24 underlying36 bw br bi bf rfl d_ d_ none 0 0 [] rfl (iJ _ _ _ _) A l.length c _ rfl C (te _) o_ hbs ?_;intro ay an w2 aY av;simp only[U_,Ea]at aY;have ad:=av.gr [] w (G_ _) (D_ [] w);have b:=ad.size;have cj:=O.out w2 ad)
  |(at_builtin;refine iD _ rfl (.tmp 6) (.tmp 7) 36 rfl w.heap.size 162 bz _ 3 24 underlying36 bw br bi bf rfl d_ d_ ay l.length an _ rfl aY B m.length d _ rfl cj (te _) o_ b ?_;intro a8 aN ai bE a;have S:=a.gr [] w (G_ _) ad))
 go_ret;unfold Cn;have hl:(l++m).length=l.length+m.length:=H_;refine⟨a8,aN,pA hl.symm,?_,by rw[hl];exact iQ bE,S⟩;unfold As;rw[hl,Ej];exact Sl.iG bE
def tg(P:jg)(w:World)(e:Ending)(w':World):Prop:=∃t:Tk,e=.returned (.agg t.g8)/\kY w' t/\t.p=P/\Gr [] w w'
theorem Bk.tD{w:World}{p q:Nat}{t:TypeId}{cs:Array Value}(h:Bk w p t cs)(e:p≠q)(i j:Nat)(a b:Value):Bk ((w.setCell (c_ q i) a).setCell (c_ q j) b) p t cs:=(h.h7 (p:=(c_ q i)) e a).h7 (p:=(c_ q j)) e b
theorem Gr.two{M:List Nat}{a w:World}(h:Gr M a w){q:Nat}(aq:q∈M∨a.heap.size<=q)(i j:Nat)(x y:Value):Gr M a ((w.setCell (c_ q i) x).setCell (c_ q j) y):=(h.setCell (p:=(c_ q i)) aq x).setCell (p:=(c_ q j)) aq y
theorem ss:116≠53/\56≠53/\38≠53/\124≠53/\162≠53:=by decide
theorem vY(c:Cl)(w:World)(X:kY w t)(ay:t.nw.l.length<=1000000000)(H:t.ws.l.length<=1000000000)(L:js (hN t.nw.l) c.id<0):
 Calls prog 132 #[.agg t.g8,.agg #[i_ c.id,i_ c.f,.bool c.v.r,i_ c.v.n]] w (tg (ki t.p c) w):=by
 obtain⟨V,D,hR,J⟩:=vQ w 53 t.g8 116 #[i_ c.id,i_ c.f,.bool c.v.r,i_ c.v.n] 53 lp;have aT:=h_ (show ki t.p c={t.p with ws:=kk t.ws.l c} by unfold ki;rw[Q_ (by exact L)];rfl);have M:=h_ (show js (hN t.nw.l) c.id= -1 by have:=m6 (λo:Ob=>o.id==c.id) (hN t.nw.l) 0;unfold js at L |-;omega);clear L;have aU:=D.f_ 0
 go_enter func132,ntmps132
 go_wp2_with (first|(refine kJ C underlying53 ?_)|(refine kJ V underlying53 ?_)|(go_at_call 128;((with_reducible refine(oF t c.id _ (X.g_ J) ay).mono ?_);rintro e T⟨rfl,af⟩;rw[M.out];replace V:=V.g_ af;replace D:=D.g_ af;replace hR:=hR.g_ af;have aI:=D.f_ 0;have c1:=D.f_ 1;have an:=D.f_ 2;have aN:=D.f_ 3;have bW:T.cell? (c_ w.heap.size 38)=some (.slice t.ws.A t.ws.l.length t.ws.c):=(V.f_ 38).trans rfl;have F:=J.trans af))|(go_at_call 98;((with_reducible refine(q7 t.ws.A t.ws.c t.ws.l c _ (X.g_ F).ws H).mono ?_);unfold rP;rintro e ae⟨a6,d,rfl,P,aB,am⟩;have B:=F.trans am;have b:=X.g_ B;have ci:=V.g_ am;have bW:ae.cell? (c_ w.heap.size 38)=some (.slice t.ws.A t.ws.l.length t.ws.c):=(ci.f_ 38).trans rfl;have bE:=ci.hm 38;have C:Bk (ae.setCell (c_ w.heap.size 38) (.slice a6 (kk t.ws.l c).length d)) w.heap.size 53 ({t with ws:=⟨a6,d,kk t.ws.l c⟩}:Tk).g8:=ci.hJ 38 _;have bD:=(hR.g_ am).h7 (p:=(c_ w.heap.size 38)) sd_ (.slice a6 (kk t.ws.l c).length d)))|(refine kG (({t with ws:=⟨a6,d,kk t.ws.l c⟩}:Tk).g8) bD (Tk.one _) ?_;intro aG aQ aO))
 refine rr_ ({t with ws:=⟨a6,d,kk t.ws.l c⟩}:Tk).g8 aQ underlying53 ?_;unfold tg;rw[aT.out];have g:=(D_ [w.heap.size] ae).setCell (p:=(c_ w.heap.size 38)) (.inl s_) (.slice a6 (kk t.ws.l c).length d);have j:=(Sl.ig (Sl.ig P ci d_ g) bD d_ aO:Cs aG a6 (kk t.ws.l c));have a:=(b.ig ci ss g).ig bD ss aO;refine⟨_,rfl,⟨a.gs,a.rs,j,a.nw,a.nr,a.ds,a.hU,a.xq,a.la,aB,a.sO,a.rL,a.px⟩,rfl,?_⟩;exact(B.setCell (.inr s_) _).hx aO p_
theorem vZ(c:Cl)(x:Nat)(w:World)(X:kY w t)(ay:t.nw.l.length<=1000000000)(L:js (hN t.nw.l) c.id=x):
 Calls prog 132 #[.agg t.g8,.agg #[i_ c.id,i_ c.f,.bool c.v.r,i_ c.v.n]] w (tg (ki t.p c) w):=by
 obtain⟨bz,bw,br,bi,bf⟩:=info_parts infoVl;obtain⟨i1,bK,b0,b5,cf⟩:=info_parts infoOb;obtain⟨V,D,hR,J⟩:=vQ w 53 t.g8 116 #[i_ c.id,i_ c.f,.bool c.v.r,i_ c.v.n] 53 lp
 have cz:=by have:=m6 (λo:Ob=>o.id==c.id) (hN t.nw.l) 0;unfold js at L;rw[L]at this;simpa[hN]using this
 have aT:=h_ (show ki t.p c={t.p with nw:=(hN t.nw.l).set x (ve t.nw.l[x].o c.f c.v)} by
  unfold ki;have e:js t.p.nw c.id=(x:Int):=L;rw[P_ o_,e,ED];congr 1;apply FY;intro i
  show((hN t.nw.l).modify x _)[i]?=_
  rw[F9,List.getElem?_set]
  by_cases e:x=i
  .subst e
   have:x<(hN t.nw.l).length:=by rw[hW];exact cz
   simp[this];simp[hN]
  .simp[e])
 have M:=h_ L;clear L;have aD:=X.nr;have s:=J_ cz;have aI:=(aD _ s).2;obtain⟨r,hr⟩:=mn_ (t.nw.l[x]);rw[hr]at aT s aI;have bv:=h_ hr;clear hr;have bI:Sl w 56 2 t.nw.A t.nw.l.length (jy t.nw.l):=X.nw
 have bQ:(x:Int)<(t.nw.l.length:Int):=by omega
 have aU:=D.f_ 0
 go_enter func132,ntmps132
 go_upto_region 8 with(first|(refine kJ V underlying53 ?_)|(go_at_call 128;((with_reducible refine(oF t c.id _ (X.g_ J) ay).mono ?_);rintro e T⟨rfl,af⟩;rw[M.out];replace V:=V.g_ af;replace D:=D.g_ af;replace hR:=hR.g_ af;have bS:T.cell? (c_ w.heap.size 39)=some (.slice t.nw.A t.nw.l.length t.nw.c):=(V.f_ 39).trans rfl;have F:=J.trans af;have aW:=bI.g_ F;have bh:=F.size))|(at_builtin;refine iD _ rfl (.const (n_)) (.tmp 20) 33 rfl w.heap.size 56 i1 _ 2 32 underlying33 bK b0 b5 cf rfl d_ d_ none 0 0 [] rfl (iJ _ _ _ _) t.nw.A t.nw.l.length t.nw.c _ rfl aW (jO _) o_ bh ?_;intro a6 c5 ae aX n;simp only[U_,Ea]at aX;obtain⟨d,f,aB,W,cj,aR⟩:=ky aX o_;subst aB;have B:=n.gr [] w (G_ _) F;replace V:=n.bk V d_;replace D:=n.bk D d_;replace hR:=n.bk hR d_;have ak:=Bk.lF cj V d_;have bn:=V.hm 39;replace bS:ae.cell? (c_ w.heap.size 39)=some (.slice t.nw.A t.nw.l.length t.nw.c):=(V.f_ 39).trans rfl;have be:Sl ae 56 2 (j_ d) t.nw.l.length (t.nw.l.flatMap Rw.E):=Sl.iG aX;have ci:Bk (ae.setCell (c_ w.heap.size 39) (.slice (j_ d) t.nw.l.length c5)) w.heap.size 53 ({t with nw:=⟨some (c_ d 0),c5,t.nw.l⟩}:Tk).g8:=V.hJ 39 _;have bO:=cj.lt;replace cj:=cj.h7 (p:=(c_ w.heap.size 39)) ak (.slice (j_ d) t.nw.l.length c5);have P:=D.h7 (p:=(c_ w.heap.size 39)) sd_ (.slice (j_ d) t.nw.l.length c5);have bD:=hR.h7 (p:=(c_ w.heap.size 39)) sd_ (.slice (j_ d) t.nw.l.length c5);have bq:=Sl.AS wq (be.ig V d_ ((D_ [w.heap.size] ae).setCell (p:=(c_ w.heap.size 39)) (.inl s_) (.slice (j_ d) t.nw.l.length c5))) cz;rw[bv.out]at bq;have bV:(ae.setCell (c_ w.heap.size 39) (.slice (j_ d) t.nw.l.length c5)).cell? (c_ d (x*2))=some (i_ r.o.id):=bq 0 _ rfl;have r1:=bq 1 _ rfl;clear bq;have ad:(ae.setCell (c_ w.heap.size 39) (.slice (j_ d) t.nw.l.length c5)).cell? (c_ w.heap.size 39)=some (.slice (j_ d) t.nw.l.length c5):=(ci.f_ 39).trans rfl;replace B:=B.setCell (p:=(c_ w.heap.size 39)) (.inr s_) (.slice (j_ d) t.nw.l.length c5);have au:Bk ((ae.setCell (c_ w.heap.size 39) (.slice (j_ d) t.nw.l.length c5)).alloc (.cells #[i_ r.o.id,.slice r.A r.o.fs.length r.c] 56)) ae.heap.size 56 #[i_ r.o.id,.slice r.A r.o.fs.length r.c]:=(by simpa[World.setCell]using L_ (ae.setCell (c_ w.heap.size 39) (.slice (j_ d) t.nw.l.length c5)) 56 #[i_ r.o.id,.slice r.A r.o.fs.length r.c]);have bP:=B.alloc (.cells #[i_ r.o.id,.slice r.A r.o.fs.length r.c] 56);have aN:=au.f_ 1;have aJ:=((aD r s).1.g_ bP:Sl _ 38 2 r.A r.o.fs.length (iR r.o.fs));have bj:=bP.size;clear F aW bh af)|(at_builtin;refine iD _ rfl (.const (n_)) (.tmp 29) 54 rfl w.heap.size 38 bz _ 2 16 underlying54 bw br bi bf rfl d_ d_ none 0 0 [] rfl (iJ _ _ _ _) r.A r.o.fs.length r.c _ rfl aJ (l7 _) o_ bj ?_;intro bg bo aG b7 R;simp only[U_,Ea]at b7;have ah:=R.gr [] w (G_ _) bP;have aZ:=R.bk (ci.alloc (.cells #[i_ r.o.id,.slice r.A r.o.fs.length r.c] 56)) d_;have cg:=R.bk (P.alloc (.cells #[i_ r.o.id,.slice r.A r.o.fs.length r.c] 56)) d_;have aQ:=R.bk (bD.alloc (.cells #[i_ r.o.id,.slice r.A r.o.fs.length r.c] 56)) d_;have ap:=R.bk (cj.alloc (.cells #[i_ r.o.id,.slice r.A r.o.fs.length r.c] 56)) d_;have I:=R.bk au d_;have aN:=I.f_ 1;have bA:=I.hm 1;have b9:=hR.lt;have Y:=aZ.h7 (p:=(c_ ae.heap.size 1)) sd_ (.slice bg r.o.fs.length bo);have j:=cg.h7 (p:=(c_ ae.heap.size 1)) sd_ (.slice bg r.o.fs.length bo);have a2:=aQ.h7 (p:=(c_ ae.heap.size 1)) sd_ (.slice bg r.o.fs.length bo);have cO:=ap.h7 (p:=(c_ ae.heap.size 1)) sd_ (.slice bg r.o.fs.length bo);have U:=I.hJ 1 (.slice bg r.o.fs.length bo);have S:=ah.setCell (p:=(c_ ae.heap.size 1)) (.inr (show w.heap.size<=ae.heap.size by omega)) (.slice bg r.o.fs.length bo);have aP:=j.f_ 1;have aL:=j.f_ 2;have bN:=j.f_ 3;have Z:=U.f_ 0;have ai:=U.f_ 1;have H:=(D_ [ae.heap.size] aG).setCell (p:=(c_ ae.heap.size 1)) (.inl s_) (.slice bg r.o.fs.length bo);clear bS bn ci P bD cj au aJ bj bP B bV r1 ad D hR aZ cg aQ ap))
 have ce:=j1 b7 I d_ H;have m:=h_ (show ∀(i:Nat) (u:Value),(jy t.nw.l)[i]?=some u->f[i]?=some u from aR);have G:=iQ aX;clear aR b7 R aX n V ak be ah J H I aD s br bi bf bw bK b0 b5 cf
 go_cut [6,42] (λy z a7=>∃(A d c5:Nat) (f:Array Value) (bg:Option Addr) (bo:Nat),y=q_ A/\z=.bool (decide (0<=c.f/\c.f<(r.o.fs.length:Int)))/\Bk a7 w.heap.size 53 ({t with nw:=⟨some (c_ d 0),c5,t.nw.l⟩}:Tk).g8/\Bk a7 (w.heap.size+1) 116 #[i_ c.id,i_ c.f,.bool c.v.r,i_ c.v.n]/\Bk a7 (w.heap.size+1+1) 53 lp/\Bk a7 d 56 f/\(∀(i:Nat) (u:Value),(jy t.nw.l)[i]?=some u->f[i]?=some u)/\Bk a7 A 56 #[i_ r.o.id,.slice bg r.o.fs.length bo]/\a7.ownsRow w.heap.size 38 2 (.slice bg r.o.fs.length bo) r.o.fs.length (iR r.o.fs)/\w.heap.size+1+1<A/\w.heap.size<=d/\d≠A/\t.nw.l.length<=c5/\Gr [] w a7)
 case first=>
  have co:∀(b:Bool),b=decide (0<=c.f/\c.f<(r.o.fs.length:Int))->Value.bool b=.bool (decide (0<=c.f/\c.f<(r.o.fs.length:Int))):=λb hb=>by rw[hb]
  by_cases O:0<=c.f
  .by_cases C:c.f<(r.o.fs.length:Int)
   .go_wp2;go_meet;exact⟨ae.heap.size,d,c5,f,bg,bo,rfl,co _ (by simp[O,C]),Y,j,a2,cO,m.out,U,ce,b9,W,by omega,G,S⟩
   .have bp:decide (c.f<(r.o.fs.length:Int))=false:=by simpa using C
    go_wp2;go_meet;exact⟨ae.heap.size,d,c5,f,bg,bo,rfl,co _ (by simp[O]),Y,j,a2,cO,m.out,U,ce,b9,W,by omega,G,S⟩
  .have bM:decide (0<=c.f)=false:=by simpa using O
   go_wp2;go_meet;exact⟨ae.heap.size,d,c5,f,bg,bo,rfl,co _ (by simp),Y,j,a2,cO,m.out,U,ce,b9,W,by omega,G,S⟩
 case rest=>
  clear aN bA Y j a2 cO m U ce b9 W G S bO aP aL bN Z ai aU;obtain⟨A,d,c5,f,bg,bo,rfl,rfl,v,Q,az,bE,aV,k,c3,bY,am,bZ,aO,a8⟩:=hcut;have m:=h_ aV;clear aV;have bm:=Bk.lF bE v d_;have bl:=(Bk.lF bE az d_).symm
  by_cases kb:0<=c.f/\c.f<(r.o.fs.length:Int)
  .have an:=Ek kb;rw[an];obtain⟨O,C⟩:=kb;obtain⟨g,bX,aF,bL,ap,aS⟩:=ky c3 o_;subst aF
   have aj:c.f.toNat<r.o.fs.length:=by omega
   have bJ:¬(r.o.fs.length:Int)<=c.f:=by omega
   clear an;have bt:=h_ aS;clear aS;have aE:=Sl.AS (E:=Vl.E) (λ_=>rfl) (Sl.iG c3) aj;have v0:wc.cell? (c_ g (c.f.toNat*2))=some _:=aE 0 _ rfl;have v1:wc.cell? (c_ g (c.f.toNat*2+1))=some _:=aE 1 _ rfl;clear aE;have bG:=ap.hm (c.f.toNat*2);have bH:=ap.hm (c.f.toNat*2+1);have aP:=Q.f_ 1;have aL:=Q.f_ 2;have bN:=Q.f_ 3;have Z:=k.f_ 0;have ai:=k.f_ 1;have bU:=(Bk.lF ap v d_).symm;have bT:=(Bk.lF ap az d_).symm;have bW:=(Bk.lF ap k d_).symm;have bR:=(Bk.lF ap bE d_).symm
   go_upto_region 10 with fail
   have av:=v.tD bU (c.f.toNat*2) (c.f.toNat*2+1) (.bool c.v.r) (i_ c.v.n);have aH:=az.tD bT (c.f.toNat*2) (c.f.toNat*2+1) (.bool c.v.r) (i_ c.v.n);have aq:=k.tD bW (c.f.toNat*2) (c.f.toNat*2+1) (.bool c.v.r) (i_ c.v.n);have cw:=bE.tD bR (c.f.toNat*2) (c.f.toNat*2+1) (.bool c.v.r) (i_ c.v.n);have aK:=qm Vl.E (λ_=>rfl) aj c.v _ _ rfl ap bt.out _ rfl;have aY:=a8.two (.inr bL) (c.f.toNat*2) (c.f.toNat*2+1) (.bool c.v.r) (i_ c.v.n);obtain⟨ag,b4⟩:=nm_ ((wc.setCell (c_ g (c.f.toNat*2)) (.bool c.v.r)).setCell (c_ g (c.f.toNat*2+1)) (i_ c.v.n));rw[<-b4]at av aH aq cw aK aY |-;clear b4 v0 v1 bG bH v az k bE ap c3 Q aP aL bN Z ai;have ad:ag.cell? (c_ w.heap.size 39)=some (.slice (j_ d) t.nw.l.length c5):=(av.f_ 39).trans rfl;have b3:=aq.f_ 0;have b6:=aq.f_ 1;have cJ:x*2+1<f.size:=Iq;have bV:ag.cell? (c_ d (x*2))=some f[x*2]:=(cw.f_ (x*2)).trans (D7 o_);have r1:ag.cell? (c_ d (x*2+1))=some f[x*2+1]:=(cw.f_ (x*2+1)).trans (D7 o_);have bB:=cw.hm (x*2);have bF:=cw.hm (x*2+1);have aw:=av.tD bm.symm (x*2) (x*2+1) (i_ r.o.id) (.slice (j_ g) r.o.fs.length bo);have l:=aH.tD bl (x*2) (x*2+1) (i_ r.o.id) (.slice (j_ g) r.o.fs.length bo);have ao:=qm Rw.E wq cz (⟨⟨r.o.id,(r.o.fs.set c.f.toNat c.v)⟩,(j_ g),bo⟩:Rw) (i_ r.o.id) (.slice (j_ g) r.o.fs.length bo) (by simp[Rw.E]) cw m.out _ rfl;have aC:=aK.ig cw d_ ((D_ [d] _).two (q:=d) (.inl s_) (x*2) (x*2+1) (i_ r.o.id) (.slice (j_ g) r.o.fs.length bo));have bC:=aY.two (.inr am) (x*2) (x*2+1) (i_ r.o.id) (.slice (j_ g) r.o.fs.length bo)
   go_wp2_with (first|(refine kJ aw underlying53 ?_)|(refine kG (({t with nw:=⟨some (c_ d 0),c5,t.nw.l⟩}:Tk).g8) l (Tk.one _) ?_;intro cQ K aM))
   have N:({t with nw:=⟨some (c_ d 0),c5,t.nw.l.set x ⟨⟨r.o.id,(r.o.fs.set c.f.toNat c.v)⟩,(j_ g),bo⟩⟩}:Tk).g8=({t with nw:=⟨some (c_ d 0),c5,t.nw.l⟩}:Tk).g8:=by simp[Tk.g8]
   rw[<-N]at K;refine rr_ ({t with nw:=⟨some (c_ d 0),c5,t.nw.l.set x ⟨⟨r.o.id,(r.o.fs.set c.f.toNat c.v)⟩,(j_ g),bo⟩⟩}:Tk).g8 K underlying53 ?_;unfold tg;rw[aT.out];have ar:=bC.hx aM p_;have a:=X.g_ ar;have ax:=aC.ig l d_ aM;refine⟨({t with nw:=⟨some (c_ d 0),c5,t.nw.l.set x ⟨⟨r.o.id,(r.o.fs.set c.f.toNat c.v)⟩,(j_ g),bo⟩⟩}:Tk),rfl,⟨a.gs,a.rs,a.ws,?_,?_,a.ds,a.hU,a.xq,a.la,a.uQ,?_,a.rL,a.px⟩,?_,ar⟩
   .exact JY
   .exact a.nr.hJ (by have:=ax;unfold Vs;rw[Eb];exact this) (by rw[Eb];exact aI)
   .show(t.nw.l.set x _).length<=c5
    rw[Eb];exact aO
   .show({t.p with nw:=hN (t.nw.l.set x _)}:jg)=_
    rw[uq];unfold ve;rw[Q_ ⟨O,C⟩]
  .have an:=EU kb;rw[an];have Z:=k.f_ 0;have ai:=k.f_ 1;have bu:Vs wc bg r.o.fs:=Sl.iG c3;have ad:wc.cell? (c_ w.heap.size 39)=some (.slice (j_ d) t.nw.l.length c5):=(v.f_ 39).trans rfl;have cJ:x*2+1<f.size:=Iq;have bV:wc.cell? (c_ d (x*2))=some f[x*2]:=(bE.f_ (x*2)).trans (D7 o_);have r1:wc.cell? (c_ d (x*2+1))=some f[x*2+1]:=(bE.f_ (x*2+1)).trans (D7 o_);have bB:=bE.hm (x*2);have bF:=bE.hm (x*2+1);have aw:=v.tD bm.symm (x*2) (x*2+1) (i_ r.o.id) (.slice bg r.o.fs.length bo);have l:=az.tD bl (x*2) (x*2+1) (i_ r.o.id) (.slice bg r.o.fs.length bo);have ao:=qm Rw.E wq cz (⟨⟨r.o.id,r.o.fs⟩,bg,bo⟩:Rw) (i_ r.o.id) (.slice bg r.o.fs.length bo) (by simp[Rw.E]) bE m.out _ rfl;have aC:=bu.ig bE d_ ((D_ [d] _).two (q:=d) (.inl s_) (x*2) (x*2+1) (i_ r.o.id) (.slice bg r.o.fs.length bo));have bC:=a8.two (.inr am) (x*2) (x*2+1) (i_ r.o.id) (.slice bg r.o.fs.length bo)
   go_wp2_with (first|(refine kJ aw underlying53 ?_)|(refine kG (({t with nw:=⟨some (c_ d 0),c5,t.nw.l⟩}:Tk).g8) l (Tk.one _) ?_;intro cQ K aM))
   have N:({t with nw:=⟨some (c_ d 0),c5,t.nw.l.set x ⟨⟨r.o.id,r.o.fs⟩,bg,bo⟩⟩}:Tk).g8=({t with nw:=⟨some (c_ d 0),c5,t.nw.l⟩}:Tk).g8:=by simp[Tk.g8]
   rw[<-N]at K;refine rr_ ({t with nw:=⟨some (c_ d 0),c5,t.nw.l.set x ⟨⟨r.o.id,r.o.fs⟩,bg,bo⟩⟩}:Tk).g8 K underlying53 ?_;unfold tg;rw[aT.out];have ar:=bC.hx aM p_;have a:=X.g_ ar;have ax:=aC.ig l d_ aM;refine⟨({t with nw:=⟨some (c_ d 0),c5,t.nw.l.set x ⟨⟨r.o.id,r.o.fs⟩,bg,bo⟩⟩}:Tk),rfl,⟨a.gs,a.rs,a.ws,?_,?_,a.ds,a.hU,a.xq,a.la,a.uQ,?_,a.rL,a.px⟩,?_,ar⟩
   .exact JY
   .exact a.nr.hJ (by exact ax) (by exact aI)
   .show(t.nw.l.set x _).length<=c5
    rw[Eb];exact aO
   .show({t.p with nw:=hN (t.nw.l.set x _)}:jg)=_
    rw[uq];unfold ve;rw[P_ kb]
theorem rj(c:Cl)(w:World)(X:kY w t)(ay:t.nw.l.length<=1000000000)(H:t.ws.l.length<=1000000000):
 Calls prog 132 #[.agg t.g8,.agg #[i_ c.id,i_ c.f,.bool c.v.r,i_ c.v.n]] w (tg (ki t.p c) w):=by
 by_cases L:js (hN t.nw.l) c.id<0
 .exact vY t c w X ay H L
 .exact vZ t c (js (hN t.nw.l) c.id).toNat w X ay (EX o_).symm
theorem ui(l:List Cl)(d:Dl)(hk:k<l.length)(b:Bool)(hb:(l[k].id !=d.id||l[k].f !=d.f)=b):jv (l.take (k+1)) d=if b=true then jv (l.take k) d++[l[k]] else jv (l.take k) d:=by
 unfold jv;rw[O_ hk,Fx]
 cases b with
 |true=>rw[Q_ rfl];simp[hb]
 |false=>rw[P_ s_];simp[hb]
theorem pT(l:List Cl)(d:Dl):(jv l d).length<=l.length:=Em _ _
theorem rk(l:List Cl)(d:Dl)(w:World)(h:Cs w A l)(hn:l.length<=1000000000):
 Calls prog 127 #[.slice A l.length c,.agg #[i_ d.id,i_ d.f,i_ d.op,.bool d.v.r,i_ d.v.n]] w (rP (jv l d) w):=by
 obtain⟨bz,bw,br,bi,bf⟩:=info_parts infoCl;have hB:=L_ w 124 #[i_ d.id,i_ d.f,i_ d.op,.bool d.v.r,i_ d.v.n];have J:=(D_ [] w).alloc (.cells #[i_ d.id,i_ d.f,i_ d.op,.bool d.v.r,i_ d.v.n] 124);have bl:=h_ (show jv l d=jv (l.take l.length) d by rw[Fc])
 go_enter func127,ntmps127
 go_wp2
 go_loopw [5,10] (λy i wr=>∃(k:Nat) (A':Option Addr) (c' n':Nat),k<=l.length/\i=i_ k/\y=.slice A' n' c'/\n'=(jv (l.take k) d).length/\wr.ownsRow (w.heap.size+1) 116 4 (.slice A' n' c') n' ((jv (l.take k) d).flatMap Cl.E)/\Bk wr w.heap.size 124 #[i_ d.id,i_ d.f,i_ d.op,.bool d.v.r,i_ d.v.n]/\w.heap.size+1<=wr.heap.size/\Gr [] w wr) (λ_ i _=>l.length-(intOf i).toNat)
 case atStart=>exact⟨0,none,0,0,N_ _,rfl,rfl,rfl,iJ _ _ _ _,hB,by simp,J⟩
 case round=>
  clear hB J;obtain⟨k,A',c',n',hk,rfl,rfl,D,ao,hB,hbs,F⟩:=hrel;have a2:=h_ D
  have bq:n'<=1000000000:=by
   have:=pT (l.take k) d
   rw[Ey]at this;omega
  clear D
  by_cases aj:k<l.length
  .have aL:(k:Int)<(l.length:Int):=by omega
   obtain⟨b,off,aX,bj,be,bJ,bU⟩:=(h.g_ F).at_ aj;rw[aX]
   have bG:=λbv hb=>ui l d aj bv hb
   have a:=h_ bG;clear bG;generalize l[k]=x at*;have f:=hB;have L:=L_ wr 116 #[i_ x.id,i_ x.f,.bool x.v.r,i_ x.v.n];replace hB:=hB.alloc (.cells #[i_ x.id,i_ x.f,.bool x.v.r,i_ x.v.n] 116);have Z:=L.f_ 0;have ah:=L.f_ 1;have au:=L.f_ 2;have aQ:=L.f_ 3;have z0:=hB.f_ 0;have aS:=hB.f_ 1;have ax:=iu ao ((((D_ [] wr).alloc (.cells #[i_ x.id,i_ x.f,.bool x.v.r,i_ x.v.n] 116))).alloc (.cells #[i_ x.id,i_ x.f,.bool x.v.r,i_ x.v.n] 116))
   have e:(wr.alloc (.cells #[i_ x.id,i_ x.f,.bool x.v.r,i_ x.v.n] 116)).heap.size=wr.heap.size+1:=by simp
   have X:Sl ((wr.alloc (.cells #[i_ x.id,i_ x.f,.bool x.v.r,i_ x.v.n] 116)).alloc (.cells #[i_ x.id,i_ x.f,.bool x.v.r,i_ x.v.n] 116)) 116 4 (j_ (wr.heap.size+1)) 1 ([x].flatMap Cl.E):=e▸kC (s:=4) (L_ (wr.alloc (.cells #[i_ x.id,i_ x.f,.bool x.v.r,i_ x.v.n] 116)) 116 #[i_ x.id,i_ x.f,.bool x.v.r,i_ x.v.n]) rfl;clear e
   have t:w.heap.size+1<=((wr.alloc (.cells #[i_ x.id,i_ x.f,.bool x.v.r,i_ x.v.n] 116)).alloc (.cells #[i_ x.id,i_ x.f,.bool x.v.r,i_ x.v.n] 116)).heap.size:=by simp;omega
   replace hB:=hB.alloc (.cells #[i_ x.id,i_ x.f,.bool x.v.r,i_ x.v.n] 116);have bV:=(F.alloc (.cells #[i_ x.id,i_ x.f,.bool x.v.r,i_ x.v.n] 116)).alloc (.cells #[i_ x.id,i_ x.f,.bool x.v.r,i_ x.v.n] 116)
   by_cases t0:x.id=d.id
   .have bM:(x.id !=d.id)=false:=by simpa using t0
    by_cases t1:x.f=d.f
    .have bp:(x.f !=d.f)=false:=by simpa using t1
     have aB:=h_ (a.out false (by rw[bM,bp];rfl));clear t0 t1;go_wp2;go_roundw
     case rel=>exact⟨k+1,A',c',n',by omega,by go_num,rfl,by rw[aB.out];simpa using a2.out,by rw[aB.out];exact iu ao ((D_ [] wr).alloc _),f.alloc _,by simp;omega,F.alloc _⟩
     case measure=>simp[intOf];omega
    .have bp:(x.f !=d.f)=true:=by simpa using t1
     have aB:=h_ (a.out true (by rw[bM,bp];rfl));clear t0 t1;exact GY
   .have bM:(x.id !=d.id)=true:=by simpa using t0
    have aB:=h_ (a.out true (by rw[bM];rfl));clear t0;exact GY
  .have aL:¬(k:Int)<(l.length:Int):=by omega
   have bQ:=h_ (show k=l.length by omega);go_wp2;go_ret;unfold rP;rw[bl.out,<-bQ.out,<-a2.out];refine⟨A',c',rfl,?_,iQ ao,F⟩
   have:=Sl.iG ao
   unfold Cs;rw[<-a2.out];exact this
def mV(t:jg):jg:={t with hV:=4,hw:=t.hw+1}
theorem s8(X:kY w t)(h0:0<=t.hw)(h1:t.hw<=1000000000):
 Calls prog 80 #[.agg t.g8] w (tg (mV t.p) w):=by
 obtain⟨V,hR,J⟩:=pG w 53 t.g8 53 lp
 go_enter func80,ntmps80
 go_upto_region 1 with fail
 obtain⟨W,I⟩:=nm_ ((w.alloc (.cells t.g8 53)).alloc (.cells lp 53));rw[<-I]at V hR J |-;clear I;have c:Bk _ w.heap.size 53 ({t with hV:=4,hw:=t.hw+1}:Tk).g8:=(V.hJ 42 (i_ 4)).hJ 47 (i_ (t.hw+1));have b:=(hR.h7 (p:=(c_ w.heap.size 42)) sd_ (i_ 4)).h7 (p:=(c_ w.heap.size 47)) sd_ (i_ (t.hw+1));have d:W.cell? (c_ w.heap.size 42)=some (i_ t.hV):=(V.f_ 42).trans rfl;have e:W.cell? (c_ w.heap.size 47)=some (i_ t.hw):=(V.f_ 47).trans rfl;have bq:=V.hm 42;have cu:=V.hm 47
 go_wp2_with (first|(refine kJ c underlying53 ?_)|(refine kG (({t with hV:=4,hw:=t.hw+1}:Tk).g8) b (Tk.one _) ?_;intro ai cr S))
 refine rr_ ({t with hV:=4,hw:=t.hw+1}:Tk).g8 cr underlying53 ?_;have ar:=((J.setCell (.inr s_) _).setCell (.inr s_) _).hx S s_;have a:=X.g_ ar;exact⟨({t with hV:=4,hw:=t.hw+1}:Tk),rfl,⟨a.gs,a.rs,a.ws,a.nw,a.nr,a.ds,a.hU,a.xq,a.la,a.uQ,a.sO,a.rL,a.px⟩,rfl,ar⟩
theorem A_(o:Ob):(lY h o).length<=h.length+1:=by
 unfold lY;split
 .simp;omega
 .simp;omega
theorem oA(l:List Ob)(h:List Ob):(l.foldl lY h).length<=h.length+l.length:=by
 induction l generalizing h with
 |nil=>simp
 |cons o l ad=>rw[Fl];have:=ad (lY h o);have:=A_ h o;simp;omega
theorem q6(l:List Rw)(h:List Ob)(hk:k<l.length):(hN (l.take (k+1))).foldl lY h=lY ((hN (l.take k)).foldl lY h) l[k].o:=by
 rw[O_ hk];unfold hN;rw[Ed,Fm]
 rfl
theorem vb(l:List Rw)(t:Tk)(w:World)(X:kY w t)(h:l5 w A c l)(hn:l.length+t.nw.l.length<=999999999)(aV:t.ws.l.length<=1000000000)(c7:t.ds.l.length<=1000000000):
 Calls prog 84 #[.agg #[.slice A l.length c],.agg t.g8] w (l0 (mL (hN l) t.p) w):=by
 obtain⟨i1,bK,b0,b5,cf⟩:=info_parts infoOb;obtain⟨z,V,hR,J⟩:=vQ w 35 #[.slice A l.length c] 53 t.g8 35 #[n_];have N:=h.g_ J;have aU:=z.f_ 0;have aT:=h_ (show mL (hN l) t.p=kd (i4 ((hN t.nw.l).foldl lY (hN l)) t.ws.l) t.ds.l from rfl);have E:=h_ (show(hN l).length+t.nw.l.length<=999999999 by rw[hW];exact hn)
 go_enter func84,ntmps84
 go_wp2_with (at_builtin;refine o0 _ rfl (.const (n_)) (.tmp 8) 33 rfl 56 i1 _ 2 32 underlying33 bK b0 b5 cf rfl d_ d_ none 0 [] rfl (EM _ _ _ _) A l.length c _ rfl N.os (jO _) o_ ?_;intro ay an w2 O a8 ad;simp only[U_,Ea]at a8 O;replace z:=z.g_ ad;replace V:=V.g_ ad;replace hR:=hR.g_ ad;replace J:=J.trans ad;replace aU:=z.f_ 0;have bB:=z.hm 0;have aD:l5 w2 ay an l:=⟨a8,N.la.g_ ad,O⟩;have C:=z.hJ 0 (.slice ay l.length an);have cu:=V.h7 (p:=(c_ w.heap.size 0)) sd_ (.slice ay l.length an);have az:=hR.h7 (p:=(c_ w.heap.size 0)) sd_ (.slice ay l.length an);have j:=aD.ig z d_ d_ ((D_ _ _).setCell (p:=(c_ w.heap.size 0)) (.inl s_) (.slice ay l.length an));have g:=J.setCell (p:=(c_ w.heap.size 0)) (.inr s_) (.slice ay l.length an);have bS:(w2.setCell (c_ w.heap.size 0) (.slice ay l.length an)).cell? (c_ (w.heap.size+1) 39)=some (.slice t.nw.A t.nw.l.length t.nw.c):=(cu.f_ 39).trans rfl)
 clear V hR z N J aU bB aD a8 ad;have V:=cu;have hR:=az;have z:=C;have N:=j;have J:=g;clear cu az C j g
 go_loopw [14] (λi wr=>∃(k:Nat) (A':Option Addr) (c':Nat) (rs:List Rw),k<=t.nw.l.length/\i=i_ k/\Bk wr (w.heap.size+1) 53 t.g8/\Bk wr (w.heap.size+1+1) 35 #[n_]/\Bk wr (w.heap.size) 35 #[.slice A' rs.length c']/\l5 wr A' c' rs/\hN rs=(hN (t.nw.l.take k)).foldl lY (hN l)/\Gr [] w wr) (λi _=>t.nw.l.length-(intOf i).toNat)
 case atStart=>exact⟨0,ay,an,l,N_ _,rfl,V,hR,z,N,rfl,J⟩
 case round=>
  clear V hR z N J bS;obtain⟨k,A',c',rs,hk,rfl,V,hR,z,N,bF,F⟩:=hrel;have q:=h_ bF
  have m:rs.length<=999999999:=by
   have h1:=hW rs;have h2:=oA (hN (t.nw.l.take k)) (hN l);rw[bF]at h1;rw[hW (t.nw.l.take k),Ey]at h2;have h3:=E.out;omega
  clear bF
  by_cases aj:k<t.nw.l.length
  .obtain⟨b,off,aX,bj,be⟩:=(X.nw.g_ F).at_ aj;rw[aX];have bG:=h_ (show(hN (t.nw.l.take (k+1))).foldl lY (hN l)=lY (hN rs) t.nw.l[k].o by rw[q.out];exact q6 _ _ aj);have v:=(X.nr.g_ (F.alloc (.cells #[i_ t.nw.l[k].o.id,.slice t.nw.l[k].A t.nw.l[k].o.fs.length t.nw.l[k].c] 56))) t.nw.l[k] (J_ aj);generalize t.nw.l[k]=r at*;have ax:Sl (wr.alloc (.cells #[i_ r.o.id,.slice r.A r.o.fs.length r.c] 56)) 38 2 r.A r.o.fs.length (iR r.o.fs):=v.1
   have aL:(k:Int)<(t.nw.l.length:Int):=by omega
   replace V:=V.alloc (.cells #[i_ r.o.id,.slice r.A r.o.fs.length r.c] 56);replace hR:=hR.alloc (.cells #[i_ r.o.id,.slice r.A r.o.fs.length r.c] 56);replace z:=z.alloc (.cells #[i_ r.o.id,.slice r.A r.o.fs.length r.c] 56);replace N:=N.alloc (.cells #[i_ r.o.id,.slice r.A r.o.fs.length r.c] 56);replace F:=F.alloc (.cells #[i_ r.o.id,.slice r.A r.o.fs.length r.c] 56);have aU:=z.f_ 0;have L:=L_ wr 56 #[i_ r.o.id,.slice r.A r.o.fs.length r.c];have Z:=L.f_ 0;have ah:=L.f_ 1
   go_wp2_with (go_at_call 123;((with_reducible refine(up A' c' rs r.o.id r.A r.c r.o.fs _ N.os N.la N.kX ax v.2 m).mono ?_);rintro e ae⟨a6,c5,a,rfl,G,P,bD,d,am⟩;have s:=h_ d;clear d;replace V:=V.g_ am;replace hR:=hR.g_ am;replace z:=z.g_ am;replace F:=F.trans am;replace aU:=z.f_ 0;have bB:=z.hm 0))
   go_roundw
   case rel=>exact⟨k+1,a6,c5,a,by omega,by go_num,V.h7 sd_ _,hR.h7 sd_ _,z.hJ 0 _,(l5.mk P bD G).ig z d_ d_ ((D_ _ _).setCell (.inl s_) _),by rw[bG.out,s.out],F.setCell (.inr (by first|(simp;done)|(simp;omega)|omega)) _⟩
   case measure=>simp[intOf];omega
  .have bQ:=h_ (show k=t.nw.l.length by omega)
   have aL:¬(k:Int)<(t.nw.l.length:Int):=by omega
   have aU:=z.f_ 0;have bW:wr.cell? (c_ (w.heap.size+1) 38)=some (.slice t.ws.A t.ws.l.length t.ws.c):=(V.f_ 38).trans rfl;have bh:wr.cell? (c_ (w.heap.size+1) 40)=some (.slice t.ds.A t.ds.l.length t.ds.c):=(V.f_ 40).trans rfl;have H:=N.g_ (D_ [] wr).drew;have ap:=F.drew
   have D:rs.length<=1000000000:=by omega
   go_wp2_with fail
   go_region_held3 (λw'=>w'.cell? (c_ w.heap.size 0)=some (.slice A' rs.length c')/\w'.cell? (c_ (w.heap.size+1) 38)=some (.slice t.ws.A t.ws.l.length t.ws.c)/\w'.cell? (c_ (w.heap.size+1) 40)=some (.slice t.ds.A t.ds.l.length t.ds.c)) (first|exact dH|exact dI|exact bg|go_keep)
    (first
      |(go_at_call 125;((with_reducible refine(nG A' c' rs t.ws.A t.ws.c t.ws.l _ H D (X.g_ ap).ws aV).mono ?_);unfold l0;rintro e ae⟨a6,c5,a,rfl,y,d,am⟩;have s:=h_ d;have Q:a.length<=1000000000:=(by have:=hW a;rw[d,jG,hW]at this;omega);clear d;have ci:=V.drew.g_ am;have n:=z.drew.g_ am;have bD:=hR.drew.g_ am;have B:=ap.trans am;have dH:ae.cell? (c_ w.heap.size 0)=some (.slice A' rs.length c')/\ae.cell? (c_ (w.heap.size+1) 38)=some (.slice t.ws.A t.ws.l.length t.ws.c)/\ae.cell? (c_ (w.heap.size+1) 40)=some (.slice t.ds.A t.ds.l.length t.ds.c):=⟨n.f_ 0,(ci.f_ 38).trans rfl,(ci.f_ 40).trans rfl⟩))
      |(go_at_call 124;((with_reducible refine(ru a6 c5 a t.ds.A t.ds.c t.ds.l _ y Q (X.g_ B).ds c7).mono ?_);unfold l0;rintro e aF⟨aJ,aK,f,rfl,bT,de,aC⟩;have aE:=h_ de;clear de;have bE:=ci.g_ aC;have I:=n.g_ aC;have M:=bD.g_ aC;have f6:=M.hm 0;have ck:=M.f_ 0;have dI:aF.cell? (c_ w.heap.size 0)=some (.slice A' rs.length c')/\aF.cell? (c_ (w.heap.size+1) 38)=some (.slice t.ws.A t.ws.l.length t.ws.c)/\aF.cell? (c_ (w.heap.size+1) 40)=some (.slice t.ds.A t.ds.l.length t.ds.c):=⟨I.f_ 0,(bE.f_ 38).trans rfl,(bE.f_ 40).trans rfl⟩;have ao:=I.h7 (p:=(c_ (w.heap.size+1+1) 0)) sd_ (.slice aJ f.length aK);have aZ:=bE.h7 (p:=(c_ (w.heap.size+1+1) 0)) sd_ (.slice aJ f.length aK);have bg:(aF.setCell (c_ (w.heap.size+1+1) 0) (.slice aJ f.length aK)).cell? (c_ w.heap.size 0)=some (.slice A' rs.length c')/\(aF.setCell (c_ (w.heap.size+1+1) 0) (.slice aJ f.length aK)).cell? (c_ (w.heap.size+1) 38)=some (.slice t.ws.A t.ws.l.length t.ws.c)/\(aF.setCell (c_ (w.heap.size+1+1) 0) (.slice aJ f.length aK)).cell? (c_ (w.heap.size+1) 40)=some (.slice t.ds.A t.ds.l.length t.ds.c):=⟨ao.f_ 0,(aZ.f_ 38).trans rfl,(aZ.f_ 40).trans rfl⟩)))
   exact Hm
theorem o2(A:Option Addr)(c:Nat)(l:List Rw)(w:World)(X:kY w t)(h:l5 w A c l)(hn:l.length+t.nw.l.length<=999999999)(aV:t.ws.l.length<=1000000000)(c7:t.ds.l.length<=1000000000)(db:t.gs.l.length<=1000000000)(ar:t.rs.l.length<=1000000000):
 Calls prog 79 #[.agg t.g8,.agg #[.slice A l.length c]] w (l0 (jk t.p (hN l)) w):=by
 obtain⟨i1,bK,b0,b5,cf⟩:=info_parts infoOb;obtain⟨V,aq,hR,J⟩:=vQ w 53 t.g8 35 #[.slice A l.length c] 35 #[n_];have N:=h.g_ J;have aU:=aq.f_ 0
 have hn1:l.length<=1000000000:=by omega
 have aT:=h_ (show jk t.p (hN l)=kd (i4 ((hN t.nw.l).foldl lY (before t.p (hN l))) t.ws.l) t.ds.l from rfl);have E:=h_ (show(before t.p (hN l)).length+t.nw.l.length<=999999999 by rw[mi,hW];exact hn)
 go_enter func79,ntmps79
 go_wp2_with (first|(refine kJ V underlying53 ?_)|(go_at_call 122;((with_reducible refine(oM t A c l _ (X.g_ J) N hn1 db ar).mono ?_);unfold l0;rintro e w1⟨A1,c1,l1,rfl,u,dW,hg1⟩;have x:=h_ dW;have S:=h_ (show l1.length=l.length from(by have:=hW l1;rw[dW,mi,hW]at this;exact this.symm));clear dW;have T:=(hR.g_ hg1).lt;have R:w.heap.size≠w1.heap.size:=o_;have K:w.heap.size+1+1≠w1.heap.size:=o_;replace V:=(V.g_ hg1).alloc (.cells #[.slice A1 l1.length c1] 35);replace hR:=(hR.g_ hg1).alloc (.cells #[.slice A1 l1.length c1] 35);have z:=L_ w1 35 #[.slice A1 l1.length c1];replace u:=u.alloc (.cells #[.slice A1 l1.length c1] 35);replace J:=(J.trans hg1).alloc (.cells #[.slice A1 l1.length c1] 35);have bn:=z.f_ 0))|(at_builtin;refine o0 _ rfl (.const (n_)) (.tmp 12) 33 rfl 56 i1 _ 2 32 underlying33 bK b0 b5 cf rfl d_ d_ none 0 [] rfl (EM _ _ _ _) A1 l1.length c1 _ rfl u.os (jO _) (by have:=S.out;omega) ?_;intro ay an w2 O a8 ad;simp only[U_,Ea]at a8 O;replace z:=z.g_ ad;replace V:=V.g_ ad;replace hR:=hR.g_ ad;replace J:=J.trans ad;replace bn:=z.f_ 0;have bH:=z.hm 0;have aD:l5 w2 ay an l1:=⟨a8,u.la.g_ ad,O⟩;have C:=z.hJ 0 (.slice ay l1.length an);have cu:=V.h7 (p:=(c_ w1.heap.size 0)) R (.slice ay l1.length an);have az:=hR.h7 (p:=(c_ w1.heap.size 0)) K (.slice ay l1.length an);have j:=aD.ig z d_ d_ ((D_ _ _).setCell (p:=(c_ w1.heap.size 0)) (.inl s_) (.slice ay l1.length an));have g:=J.setCell (p:=(c_ w1.heap.size 0)) (.inr (show w.heap.size<=w1.heap.size by omega)) (.slice ay l1.length an);have bS:(w2.setCell (c_ w1.heap.size 0) (.slice ay l1.length an)).cell? (c_ w.heap.size 39)=some (.slice t.nw.A t.nw.l.length t.nw.c):=(cu.f_ 39).trans rfl))
 clear V hR z N J aU bn bH aD a8 ad aq hg1 u;have V:=cu;have hR:=az;have z:=C;have N:=j;have J:=g;clear cu az C j g
 go_loopw [18] (λi wr=>∃(k:Nat) (A':Option Addr) (c':Nat) (rs:List Rw),k<=t.nw.l.length/\i=i_ k/\Bk wr (w.heap.size) 53 t.g8/\Bk wr (w.heap.size+1+1) 35 #[n_]/\Bk wr (w1.heap.size) 35 #[.slice A' rs.length c']/\l5 wr A' c' rs/\hN rs=(hN (t.nw.l.take k)).foldl lY (before t.p (hN l))/\Gr [] w wr) (λi _=>t.nw.l.length-(intOf i).toNat)
 case atStart=>exact⟨0,ay,an,l1,N_ _,rfl,V,hR,z,N,x.out,J⟩
 case round=>
  clear V hR z N J bS;obtain⟨k,A',c',rs,hk,rfl,V,hR,z,N,bF,F⟩:=hrel;have q:=h_ bF
  have m:rs.length<=999999999:=by
   have h1:=hW rs;have h2:=oA (hN (t.nw.l.take k)) (before t.p (hN l));rw[bF]at h1;rw[hW (t.nw.l.take k),Ey]at h2;have h3:=E.out;omega
  clear bF
  by_cases aj:k<t.nw.l.length
  .obtain⟨b,off,aX,bj,be⟩:=(X.nw.g_ F).at_ aj;rw[aX];have bG:=h_ (show(hN (t.nw.l.take (k+1))).foldl lY (before t.p (hN l))=lY (hN rs) t.nw.l[k].o by rw[q.out];exact q6 _ _ aj);have v:=(X.nr.g_ (F.alloc (.cells #[i_ t.nw.l[k].o.id,.slice t.nw.l[k].A t.nw.l[k].o.fs.length t.nw.l[k].c] 56))) t.nw.l[k] (J_ aj);generalize t.nw.l[k]=r at*;have ax:Sl (wr.alloc (.cells #[i_ r.o.id,.slice r.A r.o.fs.length r.c] 56)) 38 2 r.A r.o.fs.length (iR r.o.fs):=v.1
   have aL:(k:Int)<(t.nw.l.length:Int):=by omega
   replace V:=V.alloc (.cells #[i_ r.o.id,.slice r.A r.o.fs.length r.c] 56);replace hR:=hR.alloc (.cells #[i_ r.o.id,.slice r.A r.o.fs.length r.c] 56);replace z:=z.alloc (.cells #[i_ r.o.id,.slice r.A r.o.fs.length r.c] 56);replace N:=N.alloc (.cells #[i_ r.o.id,.slice r.A r.o.fs.length r.c] 56);replace F:=F.alloc (.cells #[i_ r.o.id,.slice r.A r.o.fs.length r.c] 56);have aU:=z.f_ 0;have L:=L_ wr 56 #[i_ r.o.id,.slice r.A r.o.fs.length r.c];have Z:=L.f_ 0;have ah:=L.f_ 1
   go_wp2_with (go_at_call 123;((with_reducible refine(up A' c' rs r.o.id r.A r.c r.o.fs _ N.os N.la N.kX ax v.2 m).mono ?_);rintro e ae⟨a6,c5,a,rfl,G,P,bD,d,am⟩;have s:=h_ d;clear d;replace V:=V.g_ am;replace hR:=hR.g_ am;replace z:=z.g_ am;replace F:=F.trans am;replace aU:=z.f_ 0;have bB:=z.hm 0))
   go_roundw
   case rel=>exact⟨k+1,a6,c5,a,by omega,by go_num,V.h7 R _,hR.h7 K _,z.hJ 0 _,(l5.mk P bD G).ig z d_ d_ ((D_ _ _).setCell (.inl s_) _),by rw[bG.out,s.out],F.setCell (.inr (show w.heap.size<=w1.heap.size by omega)) _⟩
   case measure=>simp[intOf];omega
  .have bQ:=h_ (show k=t.nw.l.length by omega)
   have aL:¬(k:Int)<(t.nw.l.length:Int):=by omega
   have aU:=z.f_ 0;have bW:wr.cell? (c_ w.heap.size 38)=some (.slice t.ws.A t.ws.l.length t.ws.c):=(V.f_ 38).trans rfl;have bh:wr.cell? (c_ w.heap.size 40)=some (.slice t.ds.A t.ds.l.length t.ds.c):=(V.f_ 40).trans rfl;have H:=N.g_ (D_ [] wr).drew;have ap:=F.drew
   have D:rs.length<=1000000000:=by omega
   go_wp2_with fail
   go_region_held3 (λw'=>w'.cell? (c_ w1.heap.size 0)=some (.slice A' rs.length c')/\w'.cell? (c_ w.heap.size 38)=some (.slice t.ws.A t.ws.l.length t.ws.c)/\w'.cell? (c_ w.heap.size 40)=some (.slice t.ds.A t.ds.l.length t.ds.c)) (first|exact dH|exact dI|exact bg|go_keep)
    (first
      |(go_at_call 125;((with_reducible refine(nG A' c' rs t.ws.A t.ws.c t.ws.l _ H D (X.g_ ap).ws aV).mono ?_);unfold l0;rintro e ae⟨a6,c5,a,rfl,y,d,am⟩;have s:=h_ d;have Q:a.length<=1000000000:=(by have:=hW a;rw[d,jG,hW]at this;omega);clear d;have ci:=V.drew.g_ am;have n:=z.drew.g_ am;have bD:=hR.drew.g_ am;have B:=ap.trans am;have dH:ae.cell? (c_ w1.heap.size 0)=some (.slice A' rs.length c')/\ae.cell? (c_ w.heap.size 38)=some (.slice t.ws.A t.ws.l.length t.ws.c)/\ae.cell? (c_ w.heap.size 40)=some (.slice t.ds.A t.ds.l.length t.ds.c):=⟨n.f_ 0,(ci.f_ 38).trans rfl,(ci.f_ 40).trans rfl⟩))
      |(go_at_call 124;((with_reducible refine(ru a6 c5 a t.ds.A t.ds.c t.ds.l _ y Q (X.g_ B).ds c7).mono ?_);unfold l0;rintro e aF⟨aJ,aK,f,rfl,bT,de,aC⟩;have aE:=h_ de;clear de;have bE:=ci.g_ aC;have I:=n.g_ aC;have M:=bD.g_ aC;have f6:=M.hm 0;have ck:=M.f_ 0;have dI:aF.cell? (c_ w1.heap.size 0)=some (.slice A' rs.length c')/\aF.cell? (c_ w.heap.size 38)=some (.slice t.ws.A t.ws.l.length t.ws.c)/\aF.cell? (c_ w.heap.size 40)=some (.slice t.ds.A t.ds.l.length t.ds.c):=⟨I.f_ 0,(bE.f_ 38).trans rfl,(bE.f_ 40).trans rfl⟩;have ao:=I.h7 (p:=(c_ (w.heap.size+1+1) 0)) K.symm (.slice aJ f.length aK);have aZ:=bE.h7 (p:=(c_ (w.heap.size+1+1) 0)) sd_ (.slice aJ f.length aK);have bg:(aF.setCell (c_ (w.heap.size+1+1) 0) (.slice aJ f.length aK)).cell? (c_ w1.heap.size 0)=some (.slice A' rs.length c')/\(aF.setCell (c_ (w.heap.size+1+1) 0) (.slice aJ f.length aK)).cell? (c_ w.heap.size 38)=some (.slice t.ws.A t.ws.l.length t.ws.c)/\(aF.setCell (c_ (w.heap.size+1+1) 0) (.slice aJ f.length aK)).cell? (c_ w.heap.size 40)=some (.slice t.ds.A t.ds.l.length t.ds.c):=⟨ao.f_ 0,(aZ.f_ 38).trans rfl,(aZ.f_ 40).trans rfl⟩)))
   exact Hm
end Go.Proofs.YtenbhdilndfaeaaGreat
