import Derived.Test.YtenbhdilndfaeaaGreatM25
set_option maxRecDepth 100000
set_option maxHeartbeats 0
set_option linter.all false
namespace Go.Proofs.YtenbhdilndfaeaaGreat
open Go.RowKit Go.Proofs.Tryz
variable{G:Prop}(A:OA)(c:Nat)(l:List In)(hI hF:Int)(hA:OA)(hc:Nat)(h:List Ob)(hl:List Rw)(pc:Int)(s:Cm)(t:Tk)
theorem Id(h:G:=by
 clear ag
 go_wp2_with (first|((go_at_call 92;have af:=iS A c l hI hF _ (h.hG I) hn;rw[hv]at af;refine af.mono ?_;rintro e w1⟨rfl,hg1⟩);replace hR:=hR.hG hg1;replace I:=I.trans hg1)|(refine kQ (Cm.zero.g_) hR (Cm.one _) ?_;intro X aw G))
 all_goals exact lT Cm.zero.g_ (i_ 1) aw underlying40 ⟨Cm.zero,rfl,lX.zero _ _ rfl rfl,rfl,I.jL G bg⟩):G:=h
theorem IC(h:G:=by
 clear bR
 go_wp2_with (go_at_call 83;have af:=lr A c l hI hF s.hS _ (h.hG I) hn;rw[m]at af;refine af.mono ?_;rintro e T⟨rfl,Z⟩;have aS:T.cell? (c_ a2 0)=some (i_ f.h6):=((hE.hG Z).f_ 0).trans rfl)
 go_meet;exact⟨ja a6.out.symm,Z⟩):G:=h
theorem I9(h:G:=by
 clear C
 refine h5 H ⟨(z.hG h).f_ 0,(aj.hG h).f_ 1,(D.hG h).f_ 0,(h).f_ kh s_⟩ λC=>?_
 clear H K;refine iP 18 C ?_;refine hN k_ ?_ _;go_wp2;go_meet;exact⟨_,rfl,rfl,h⟩):G:=h
theorem Jb(h:G:=by
 go_wp2_with (refine kQ (Cm.zero.g_) hR (Cm.one _) ?_;intro X aw G)
 all_goals exact lT Cm.zero.g_ (i_ 7) aw underlying40 ⟨Cm.zero,rfl,lX.zero _ _ rfl rfl,rfl,I.jL G bg⟩):G:=h
theorem JR(h:G:=by
 go_roundw
 case rel=>exact⟨k+1,o_,gn,by rw[aI.out,aW.out],g.hG au,z.hG au,O.hG au,F.trans au⟩
 case measure=>exact mz):G:=h
theorem Ks(h:G:=by
 all_goals go_ret
 all_goals rw[HM.out]
 all_goals exact⟨rfl,((F.trans aE).trans S).alloc _⟩):G:=h
theorem KJ(h:G:=by
 by_cases h3:s.hS<0∨(l.length:Int)<=s.hS
 .rw[T_ h3]at h2
  cases h2
 .omega):G:=h
theorem Lm(h:G:=by
 rw[bR]at m4;clear bR;exact Lw):G:=h
section
open Go.RowKit Go.Maps
theorem nA{H:Type}{P:Program}{e:TypeId}(he:P.underlying e=some .bool){v:Value}{z:DataW H × List MemPlace}(h:plainElem P e v=some z):∃x,v=.bool x/\z=(.lit (.bool x),[]):=by
 unfold plainElem at h;rw[he]at h
 cases v<;>simp at h
 exact⟨_,rfl,h.symm⟩
theorem zk(w:World):(zeroValue 4).run prog w=.ok (.bool false) w:=by kernel_rfl
def Bm(w:World)(b n:Nat)(f:Int->Bool):Prop:=
 ∃D:DataW Unit,w.ownsMap prog 2 (plainElem prog 4) b n D/\IsMap D/\∀id:Int,(Lit.int .i64 id).wf=true->D.atKey (.int .i64 id) (.lit (.bool false))=.lit (.bool (f id))
section
variable{w w':World}{b n:Nat}{f:Int->Bool}
theorem Bm.made(w:World):Bm (w.alloc (.map #[] 0)) w.heap.size 0 (λ_=>false):=
 ⟨.map [],World.ownsMap_made w _ _ _,⟨[],rfl⟩,λid _=>rfl⟩
theorem Bm.lt(h:Bm w b n f):b<w.heap.size:=by obtain⟨D,h1,_⟩:=h;exact h1.lt
theorem Bm.iy(h:Bm w b n f)(hb:w'.heap[b]?=w.heap[b]?):Bm w' b n f:=KO
theorem Bm.hG(h:Bm w b n f)(hg:Gr [] w w'):Bm w' b n f:=h.iy (hg.block b h.lt s_)
theorem Bm.congr{g:Int->Bool}(h:Bm w b n f)(hf:∀i,f i=g i):Bm w b n g:=by
 have e:f=g:=funext hf;rw[<-e];exact h
theorem Bm.B3{g:Nat}{t:TypeId}{cs:Array Value}(h:Bm w b n f)(hk:Bk w g t cs):g≠b:=by
 rintro rfl;obtain⟨D,⟨es,i,h1,h2⟩,h3⟩:=h;unfold Bk at hk;rw[hk]at h1
 cases h1
theorem Bm.lookup(h:Bm w b n f){id:Int}(aM:(Lit.int .i64 id).wf=true):(Instr.lookup 105 (.map (some b)) (.int .i64 id) false).run prog w=.ok (.bool (f id)) w:=by
 obtain⟨D,h1,h2,h3⟩:=h;obtain⟨v,ps,N,hv⟩:=h1.lookup (int_keyed underlying2) underlying105 (zk w) (plainElem_bool underlying4 false) (keyOf_int_mk underlying2 aM);obtain⟨x,rfl,hx⟩:=nA underlying4 hv;have au:=ED Prod.fst hx;simp only at au;rw[h3 id aM]at au;have aq:=Lit.bool.inj (DataW.lit.inj au);rw[aq];exact N
theorem Bm.update(h:Bm w b n f)(hn:n<maxLen){id:Int}{v:Bool}(aM:(Lit.int .i64 id).wf=true):
 ∃w',(Instr.mapUpdate 105 (.map (some b)) (.int .i64 id) (.bool v)).run prog w=.ok () w'/\Bm w' b (n+1) (λi=>if i=id then v else f i)/\w.grownBy w' (some b):=by
 obtain⟨D,h1,h2,h3⟩:=h;obtain⟨w',N,au,aq⟩:=h1.update (int_keyed underlying2) underlying105 hn (keyOf_int_mk underlying2 aM) (plainElem_bool underlying4 v);refine⟨w',N,⟨_,au,h2.put _ _,λi hi=>?_⟩,aq⟩
 by_cases he:i=id
 .subst he
  show _=DataW.lit (.bool (if i=i then v else f i))
  rw[T_ rfl];exact atKey_put_same (k:=.int .i64 i) h2 trivial _ _
 .show _=DataW.lit (.bool (if i=id then v else f i))
  exact KG
end
def tS(h:List Ob)(d:Dl):Bool:=match jx h d.id d.f with
 |none=>true
 |some v=>v.r
def tM(h:List Ob)(o:Ob):Bool:=(kn h o.id).isSome
def vM(nw:List Ob)(id:Int):Bool:=iY (λo:Ob=>o.id==id) nw
def zb(h nw:List Ob)(c:Cl):Bool:=(jx h c.id c.f).isNone&& !(vM nw c.id)
def pB(h:List Ob)(t:i3):Int:=
 if t.h8≠2/\t.h8≠3 then 7 else
 if(kM h t.rs).isSome=true then 14 else
 if iY (tS h) t.ds=true then 14 else
 if iY (tM h) t.nw=true then 9 else
 if iY (zb h t.nw) t.ws=true then 9 else 0
theorem yT{nw:List Ob}{k:Nat}(hk:k<nw.length)(i:Int):vM (nw.take (k+1)) i=(if i=nw[k].id then true else vM (nw.take k) i):=by
 unfold vM iY;rw[W_ hk,List.any_append];simp only[GY,List.any_nil,Bool.or_false]
 by_cases h:i=nw[k].id
 .rw[T_ h,h];simp
 .rw[Q_ h]
  have:(nw[k].id==i)=false:=by simpa using λe=>h e.symm
  rw[this,Bool.or_false]
theorem rM(w:World)(hv:mj w hA hc hl)(aP:hl.length<=1000000000)(ht:lb w t)(ap:t.p.sm 500000)(az:∀r∈t.nw.l,mJ r.o.id)(aD:∀c∈t.ws.l,mJ c.id):
 Calls prog 100 #[.agg #[.slice hA hl.length hc],.agg t.g_] w λe w'=>e=.returned (.int .i64 (pB (hY hl) t.p))/\Gr [] w w':=by
 have ay:t.rs.l.length<=1000000000:=G_ ap.rs d_;have br:t.ds.l.length<=1000000000:=G_ ap.ds d_;have bw:t.ws.l.length<=1000000000:=G_ ap.ws d_
 have bt:t.nw.l.length<=1000000:=by have:=ap.nw;have e:t.p.nw.length=t.nw.l.length:=h9 _;omega
 obtain⟨P,hP⟩:=mn_ (pB (hY hl) t.p);rw[hP];have aR:=h_ hP;clear hP;obtain⟨z,O,I⟩:=qh w 35 #[.slice hA hl.length hc] 53 t.g_
 go_enter func100,ntmps100
 go_upto_region 1 with fail
 obtain⟨bp,aK⟩:=nm_ ((w.alloc (.cells #[.slice hA hl.length hc] 35)).alloc (.cells t.g_ 53));rw[<-aK]at z O I |-;clear aK;obtain⟨be,T⟩:=nm_ w.heap.size;obtain⟨gt,C⟩:=nm_ (w.heap.size+1);rw[<-C]at O;rw[<-T]at z;rw[<-C,<-T];clear C T;have cw:bp.cell? (c_ gt 42)=some (.int .i64 t.h8):=(O.f_ 42).trans rfl;have U:=z.f_ 0;have bo:=O.f_ 37
 by_cases bz:t.h8≠2/\t.h8≠3
 .have HM:Hid (P=7):=h_ (by rw[<-aR.out];unfold pB;exact T_ bz);have bI:(t.h8 !=2)=true:=zu bz.1;have bN:(t.h8 !=3)=true:=zu bz.2;clear bz;go_wp2;go_ret;rw[HM.out];exact⟨rfl,I⟩
 have bG:Hid (P=if(kM (hY hl) t.rs.l).isSome=true then 14 else if iY (tS (hY hl)) t.ds.l=true then 14 else if iY (tM (hY hl)) (hY t.nw.l)=true then 9 else if iY (zb (hY hl) (hY t.nw.l)) t.ws.l=true then 9 else 0):=h_ (by rw[<-aR.out];unfold pB;exact Q_ bz);clear aR
 have bg:∀(q:Prop),q->q:=λ_ h=>h
 clear bg
 go_cut [27] (λb aX=>b=.bool false/\aX=bp)
 case first=>
  by_cases h2:t.h8=2
  .have bI:(t.h8 !=2)=false:=by simp[h2]
   clear bz h2;go_wp2;go_meet;exact LN
  .have h3:t.h8=3:=by
    by_cases h3:t.h8=3
    .exact h3
    .exact EK ⟨h2,h3⟩ bz
   have bI:(t.h8 !=2)=true:=zu h2
   have bN:(t.h8 !=3)=false:=by simp[h3]
   clear bz h2 h3;go_wp2;go_meet;exact LN
 case rest=>
 obtain⟨rfl,d4⟩:=hcut;subst wc;clear bz
 have bl:∀j,j<48->bp.cell? (c_ gt (0+j))=t.g_[j]?:=λj _=>by rw[U_];exact O.f_ j
 cases aM:(kM (hY hl) t.rs.l).isSome with
 |true=>
  have W:(kM (hY hl) t.rs.l).isNone=false:=by cases h:kM (hY hl) t.rs.l with|none=>rw[h]at aM;cases aM|some _=>rfl
  have HM:Hid (P=14):=h_ (by rw[bG.out,T_ aM]);clear aM
  go_wp2_with (first|(refine kT O underlying53 ?_)|(go_at_call 150;((with_reducible refine(rE hA hc hl t _ (hv.hG I) aP (ht.hG I) ay).mono ?_);rw[W];rintro e ae⟨a8,rb,aN,aL,rfl,S⟩)))
  all_goals go_ret
  all_goals rw[HM.out]
  all_goals exact⟨rfl,(I.trans S).alloc _⟩
 |false=>
  have W:(kM (hY hl) t.rs.l).isNone=true:=by cases h:kM (hY hl) t.rs.l with|none=>rfl|some _=>rw[h]at aM;cases aM
  have s:Hid (P=if iY (tS (hY hl)) t.ds.l=true then 14 else if iY (tM (hY hl)) (hY t.nw.l)=true then 9 else if iY (zb (hY hl) (hY t.nw.l)) t.ws.l=true then 9 else 0):=h_ (by rw[bG.out,Q_ (by rw[aM];decide)]);clear aM bG
  go_upto_region 6 with(first|(refine kT O underlying53 ?_)|(go_at_call 150;((with_reducible refine(rE hA hc hl t _ (hv.hG I) aP (ht.hG I) ay).mono ?_);rw[W];rintro e ae⟨a8,rb,aN,aL,rfl,S⟩)))
  have aC:Gr [] bp (ae.alloc (.cells #[.int .i64 a8,.int .i64 rb,.bool aN,.int .i64 aL] 116)):=S.alloc _;replace z:=z.hG aC;replace O:=O.hG aC;replace I:=I.trans aC;clear aC S U cw bo bl;obtain⟨R,E⟩:=nm_ (ae.alloc (.cells #[.int .i64 a8,.int .i64 rb,.bool aN,.int .i64 aL] 116));rw[<-E]at z O I |-;clear E;have a2:R.cell? (c_ gt 40)=some (.slice t.ds.A t.ds.l.length t.ds.c):=(O.f_ 40).trans rfl;go_wp2
  go_loopw [39] (λi wr=>∃k:Nat,k<=t.ds.l.length/\i=.int .i64 k/\iY (tS (hY hl)) t.ds.l=iY (tS (hY hl)) (t.ds.l.drop k)/\Bk wr be 35 #[.slice hA hl.length hc]/\Bk wr gt 53 t.g_/\Gr [] w wr) (λi _=>t.ds.l.length-(intOf i).toNat)
  case atStart=>exact⟨0,O_ _,rfl,rfl,z,O,I⟩
  case round=>
   clear z O I a2;obtain⟨k,hk,rfl,G,z,O,F⟩:=hrel;have aI:=h_ G;clear G
   by_cases ag:k<t.ds.l.length
   .have aJ:(k:Int)<(t.ds.l.length:Int):=o_;obtain⟨b,off,aT,bi,bq,bK,bT,bF⟩:=(ht.ds.hG F).at_ ag;rw[aT];have bM:=h_ (oR (p:=tS (hY hl)) ag);have l:=h_ (oy (p:=tS (hY hl)) ag);generalize t.ds.l[k]=x at*;obtain⟨K,H,aS,aU,aO⟩:=x;simp only at bi bq bK bT bF;have aE:Gr [] wr (wr.alloc (.cells #[.int .i64 K,.int .i64 H,.int .i64 aS,.bool aU,.int .i64 aO] 124)):=(F_ [] wr).alloc _;have L:=P_ wr 124 #[.int .i64 K,.int .i64 H,.int .i64 aS,.bool aU,.int .i64 aO];have bD:=L.f_ 0;have bH:=L.f_ 1;have U:=(z.hG aE).f_ 0
    cases y:jx (hY hl) K H with
    |none=>
     have HM:Hid (P=14):=h_ (by rw[s.out,aI.out,bM.out (by unfold tS;simp only[y]),T_ rfl])
     go_wp2_with (go_at_call 148;have af:=pK hA hc hl K H _ (hv.hG (F.trans aE)).os (hv.hG (F.trans aE)).kZ aP y;refine af.mono ?_;rintro e ae⟨rfl,S⟩;have aq:=P_ ae 38 #[.bool false,.int .i64 0];have aw:=aq.f_ 0;have J:=aq.f_ 1;have aQ:=(L.hG (S.alloc (.cells #[.bool false,.int .i64 0] 38))).f_ 0)
     exact Ks
    |some u=>
     cases ax:u.r with
     |true=>
      have HM:Hid (P=14):=h_ (by rw[s.out,aI.out,bM.out (by unfold tS;simp only[y];exact ax),T_ rfl])
      go_wp2_with (go_at_call 148;have af:=oh hA hc hl K H u _ (hv.hG (F.trans aE)).os (hv.hG (F.trans aE)).kZ aP y;refine af.mono ?_;rintro e ae⟨rfl,S⟩;have aq:=P_ ae 38 #[.bool u.r,.int .i64 u.n];have aw:=(aq.f_ 0).trans (ED (λq=>some (Value.bool q)) ax);have J:=aq.f_ 1;have aQ:=(L.hG (S.alloc (.cells #[.bool u.r,.int .i64 u.n] 38))).f_ 0)
      exact Ks
     |false=>
      have aW:=h_ (l.out (by unfold tS;simp only[y];exact ax))
      go_wp2_with (go_at_call 148;have af:=oh hA hc hl K H u _ (hv.hG (F.trans aE)).os (hv.hG (F.trans aE)).kZ aP y;refine af.mono ?_;rintro e ae⟨rfl,S⟩;have aq:=P_ ae 38 #[.bool u.r,.int .i64 u.n];have aw:=(aq.f_ 0).trans (ED (λq=>some (Value.bool q)) ax);have J:=aq.f_ 1;have aQ:=(L.hG (S.alloc (.cells #[.bool u.r,.int .i64 u.n] 38))).f_ 0)
      have au:Gr [] wr (ae.alloc (.cells #[.bool false,.int .i64 u.n] 38)):=(aE.trans S).alloc _;go_roundw
      case rel=>exact⟨k+1,o_,gn,by rw[aI.out,aW.out],z.hG au,O.hG au,F.trans au⟩
      case measure=>exact mz
   .have aJ:¬(k:Int)<(t.ds.l.length:Int):=o_;have ai:Hid (P=if iY (tM (hY hl)) (hY t.nw.l)=true then 9 else if iY (zb (hY hl) (hY t.nw.l)) t.ws.l=true then 9 else 0):=h_ (by rw[s.out,aI.out,qN o_,Q_ d_]);clear s aI ag;have V:wr.cell? (c_ gt 39)=some (.slice t.nw.A t.nw.l.length t.nw.c):=(O.f_ 39).trans rfl;have aG:= @run_makeMap prog;have aF:=Bm.made wr;have a6:w.heap.size<=wr.heap.size:=F.size;have bO:Gr [] wr (wr.alloc (.map #[] 0)):=(F_ [] wr).alloc _;replace z:=z.hG bO;replace O:=O.hG bO;have m:=F.trans bO
    go_upto_region 14 with fail
    clear aJ V aG F bO;obtain⟨aH,ak⟩:=nm_ (wr.alloc (.map #[] 0));rw[<-ak]at z O aF m |-;clear ak;generalize wr.heap.size=d at*;have V:aH.cell? (c_ gt 39)=some (.slice t.nw.A t.nw.l.length t.nw.c):=(O.f_ 39).trans rfl;have B:w.heap.size<=d:=a6;clear a6;go_wp2
    go_loopw [63] (λi wr=>∃k:Nat,k<=t.nw.l.length/\i=.int .i64 k/\iY (tM (hY hl)) (hY t.nw.l)=iY (tM (hY hl)) ((hY t.nw.l).drop k)/\Bm wr d k (vM ((hY t.nw.l).take k))/\Bk wr be 35 #[.slice hA hl.length hc]/\Bk wr gt 53 t.g_/\Gr [] w wr) (λi _=>t.nw.l.length-(intOf i).toNat)
    case atStart=>exact⟨0,O_ _,rfl,rfl,aF.congr (λi=>rfl),z,O,m⟩
    case round=>
     clear z O m V aF;obtain⟨k,hk,rfl,G,g,z,O,F⟩:=hrel;have aI:=h_ G;clear G
     by_cases ag:k<t.nw.l.length
     .have aJ:(k:Int)<(t.nw.l.length:Int):=o_
      have ah:k<(hY t.nw.l).length:=by rw[h9];exact ag
      obtain⟨b,off,aT,bi,bq⟩:=(ht.nw.hG F).at_ ag;rw[aT]
      have Q:(hY t.nw.l)[k]=t.nw.l[k].o:=by simp[hY]
      have bM:=h_ (oR (p:=tM (hY hl)) ah);have l:=h_ (oy (p:=tM (hY hl)) ah);have bB:=h_ (yT ah);rw[Q]at bM l bB;have A:=az t.nw.l[k] (N_ ag);clear Q;generalize t.nw.l[k]=r at*;have aE:Gr [] wr (wr.alloc (.cells #[.int .i64 r.o.id,.slice r.A r.o.fs.length r.c] 56)):=(F_ [] wr).alloc _;have L:=P_ wr 56 #[.int .i64 r.o.id,.slice r.A r.o.fs.length r.c];have bD:=L.f_ 0;have U:=(z.hG aE).f_ 0
      cases y:kn (hY hl) r.o.id with
      |some o=>
       have HM:Hid (P=9):=h_ (by rw[ai.out,aI.out,bM.out (by unfold tM;rw[y];rfl),T_ rfl])
       go_wp2_with (go_at_call 14;have af:=get_some hA hc hl r.o.id o _ (hv.hG (F.trans aE)).os (hv.hG (F.trans aE)).kZ aP y;refine af.mono ?_;rintro e ae⟨aY,c5,rfl,X,S⟩)
       exact Ks
      |none=>
       have aW:=h_ (l.out (by unfold tM;rw[y];rfl))
       go_upto_region 20 with(go_at_call 14;have af:=get_none hA hc hl r.o.id _ (hv.hG (F.trans aE)).os aP y;refine af.mono ?_;rintro e ae⟨rfl,S⟩)
       have au:Gr [] wr (ae.alloc (.cells #[.int .i64 0,n_] 56)):=(aE.trans S).alloc _;have ar:=g.hG au;have D:=z.hG au;have M:=O.hG au;have bR:=F.trans au;have bj:=(L.hG (S.alloc (.cells #[.int .i64 0,n_] 56))).f_ 0;clear bD U;obtain⟨bL,aZ⟩:=nm_ (ae.alloc (.cells #[.int .i64 0,n_] 56));rw[<-aZ]at ar D M bR bj |-;clear aZ;obtain⟨Y,N,bn,bC⟩:=ar.update (show k<maxLen by simp only[maxLen];omega) (v:=true) A;go_wp2;have Z:Gr [d] bL Y:=(F_ [d] bL).grown bC (λq am=>by injection am with am;subst am;exact .inl s_);go_roundw
       case rel=>exact⟨k+1,o_,gn,by rw[aI.out,aW.out],bn.congr (λi=>(bB.out i).symm),D.gr Z (zu (ar.B3 D)),M.gr Z (zu (ar.B3 M)),bR.jL Z B⟩
       case measure=>exact mz
     .have aJ:¬(k:Int)<(t.nw.l.length:Int):=o_;have aV:Hid (P=if iY (zb (hY hl) (hY t.nw.l)) t.ws.l=true then 9 else 0):=h_ (by rw[ai.out,aI.out,qN (by rw[h9];omega),Q_ d_]);have av:Bm wr d k (vM (hY t.nw.l)):=g.congr (λi=>by rw[EI (by rw[h9];omega)]);clear ai aI ag g;have a7:wr.cell? (c_ gt 38)=some (.slice t.ws.A t.ws.l.length t.ws.c):=(O.f_ 38).trans rfl;obtain⟨m0,cH⟩:=nm_ k;rw[<-cH]at av;obtain⟨bu,ad⟩:=nm_ wr;rw[<-ad]at av z O F a7 |-;clear ad;go_wp2;clear aJ hk cH
      go_loopw [82] (λi wr=>∃k:Nat,k<=t.ws.l.length/\i=.int .i64 k/\iY (zb (hY hl) (hY t.nw.l)) t.ws.l=iY (zb (hY hl) (hY t.nw.l)) (t.ws.l.drop k)/\Bm wr d m0 (vM (hY t.nw.l))/\Bk wr be 35 #[.slice hA hl.length hc]/\Bk wr gt 53 t.g_/\Gr [] w wr) (λi _=>t.ws.l.length-(intOf i).toNat)
      case atStart=>exact⟨0,O_ _,rfl,rfl,av,z,O,F⟩
      case round=>
       clear z O F a7 av;obtain⟨k,hk,rfl,G,g,z,O,F⟩:=hrel;have aI:=h_ G;clear G
       by_cases ag:k<t.ws.l.length
       .have aJ:(k:Int)<(t.ws.l.length:Int):=o_;obtain⟨b,off,aT,bi,bq,bK,bT⟩:=(ht.ws.hG F).at_ ag;rw[aT];have bM:=h_ (oR (p:=zb (hY hl) (hY t.nw.l)) ag);have l:=h_ (oy (p:=zb (hY hl) (hY t.nw.l)) ag);have A:=aD t.ws.l[k] (N_ ag);generalize t.ws.l[k]=x at*;obtain⟨aj,aB,xr,a⟩:=x;simp only at bi bq bK bT A;have aE:Gr [] wr (wr.alloc (.cells #[.int .i64 aj,.int .i64 aB,.bool xr,.int .i64 a] 116)):=(F_ [] wr).alloc _;have L:=P_ wr 116 #[.int .i64 aj,.int .i64 aB,.bool xr,.int .i64 a];have bD:=L.f_ 0;have bH:=L.f_ 1;have U:=(z.hG aE).f_ 0
        cases y:jx (hY hl) aj aB with
        |some u=>
         have aW:=h_ (l.out (by unfold zb;simp only[y];rfl))
         go_wp2_with (go_at_call 148;have af:=oh hA hc hl aj aB u _ (hv.hG (F.trans aE)).os (hv.hG (F.trans aE)).kZ aP y;refine af.mono ?_;rintro e ae⟨rfl,S⟩;have aq:=P_ ae 38 #[.bool u.r,.int .i64 u.n];have aw:=aq.f_ 0;have J:=aq.f_ 1;have aQ:=(L.hG (S.alloc (.cells #[.bool u.r,.int .i64 u.n] 38))).f_ 0)
         have au:Gr [] wr (ae.alloc (.cells #[.bool u.r,.int .i64 u.n] 38)):=(aE.trans S).alloc _;exact JR
        |none=>
         cases ao:vM (hY t.nw.l) aj with
         |true=>
          have aW:=h_ (l.out (by unfold zb;simp only[y,ao];rfl))
          go_wp2_with (go_at_call 148;have af:=pK hA hc hl aj aB _ (hv.hG (F.trans aE)).os (hv.hG (F.trans aE)).kZ aP y;refine af.mono ?_;rintro e ae⟨rfl,S⟩;have aq:=P_ ae 38 #[.bool false,.int .i64 0];have aw:=aq.f_ 0;have J:=aq.f_ 1;have aQ:=(L.hG (S.alloc (.cells #[.bool false,.int .i64 0] 38))).f_ 0;have au:Gr [] wr (ae.alloc (.cells #[.bool false,.int .i64 0] 38)):=(aE.trans S).alloc _;have bQ:=(g.hG au).lookup A;rw[ao]at bQ)
          exact JR
         |false=>
          have HM:Hid (P=9):=h_ (by rw[aV.out,aI.out,bM.out (by unfold zb;simp only[y,ao];rfl),T_ rfl])
          go_wp2_with (go_at_call 148;have af:=pK hA hc hl aj aB _ (hv.hG (F.trans aE)).os (hv.hG (F.trans aE)).kZ aP y;refine af.mono ?_;rintro e ae⟨rfl,S⟩;have aq:=P_ ae 38 #[.bool false,.int .i64 0];have aw:=aq.f_ 0;have J:=aq.f_ 1;have aQ:=(L.hG (S.alloc (.cells #[.bool false,.int .i64 0] 38))).f_ 0;have au:Gr [] wr (ae.alloc (.cells #[.bool false,.int .i64 0] 38)):=(aE.trans S).alloc _;have bQ:=(g.hG au).lookup A;rw[ao]at bQ)
          all_goals go_ret
          all_goals rw[HM.out]
          all_goals exact⟨rfl,F.trans au⟩
       .have aJ:¬(k:Int)<(t.ws.l.length:Int):=o_;have HM:Hid (P=0):=h_ (by rw[aV.out,aI.out,qN o_,Q_ d_]);go_wp2;go_ret;rw[HM.out];exact⟨rfl,F⟩
end
def lQ(s:pY)(t:i3):pY:=
 if t.h8=2 then{s with h:=lG s.h t,h7:=s.h7++t.h7,iR:=s.iR+1,hM:=s.hM+t.hM,hS:=t.next}
 else{s with h:=lG s.h t,h7:=s.h7++t.h7,iR:=s.iR+1,hM:=s.hM+t.hM,jH:=true,hZ:=t.hZ,v:=t.v}
def nV(s:pY)(t:i3):Bool:=decide (s.jH=true∨t.hS≠s.hS)
def kI(ok:Bool)(s:pY)(t:i3):pY × Int:=
 if ok=false then(Cm.zero.p,1) else
 if nV s t=true then(Cm.zero.p,7) else
 if pB s.h t≠0 then(Cm.zero.p,pB s.h t) else(lQ s t,0)
theorem uP(w:World)(h:Is w A l)(hn:l.length<=1000000000)(hs:lX w s)(ht:lb w t)(ap:t.p.sm 500000)(a7:s.h.l.length<=99999999)(cZ:s.h7.l.length<=100000000)(az:∀r∈t.nw.l,mJ r.o.id)(aD:∀c∈t.ws.l,mJ c.id)(cy:0<=s.iR)(b1:s.iR<=1000000000)(b2:0<=s.hM)(b3:s.hM<=1000000000000)(dJ:0<=t.hM)(ev:t.hM<=1000000):
 Calls prog 52 #[.agg #[.slice A l.length c,i_ hI,i_ hF],.agg s.g_,.agg t.g_] w (uv (kI (ic l hI hF) s.p t.p).1 (kI (ic l hI hF) s.p t.p).2 w):=by
 have cV:t.nw.l.length<=500000:=by have:=ap.nw;have e:t.p.nw.length=t.nw.l.length:=h9 _;omega
 have W:t.h7.l.length<=1000000000:=G_ ap.h7 d_;have aE:t.h7.l.length<=500000:=ap.h7;obtain⟨E,hE⟩:=mn_ (pB (hY s.h.l) t.p);have j:=h_ hE;clear hE;obtain⟨⟨P,N⟩,cY⟩:∃q,kI (ic l hI hF) s.p t.p=q:=⟨_,rfl⟩;rw[cY];have ag:=h_ cY;clear cY;obtain⟨D,z,O,hR,I⟩:=B8 w 26 #[.slice A l.length c,i_ hI,i_ hF] 40 s.g_ 53 t.g_ 40 #[n_,i_ 0,i_ 0,n_,.bool false,.bool false,.bool false,i_ 0,i_ 0,i_ 0]
 go_enter func52,ntmps52
 go_upto_region 1 with fail
 obtain⟨bp,aK⟩:=nm_ ((((w.alloc (.cells #[.slice A l.length c,i_ hI,i_ hF] 26)).alloc (.cells s.g_ 40)).alloc (.cells t.g_ 53)).alloc (.cells #[n_,i_ 0,i_ 0,n_,.bool false,.bool false,.bool false,i_ 0,i_ 0,i_ 0] 40));rw[<-aK]at D z O hR I |-;clear aK;obtain⟨L,bC⟩:=nm_ w.heap.size;obtain⟨d,bO⟩:=nm_ (w.heap.size+1);obtain⟨gt,av⟩:=nm_ (w.heap.size+1+1);obtain⟨gr,F⟩:=nm_ (w.heap.size+1+1+1);rw[<-F]at hR;rw[<-av]at O;rw[<-bO]at z;rw[<-bC]at D;rw[<-F,<-av,<-bO,<-bC];have bg:w.heap.size<=gr:=o_;have B:w.heap.size<=d:=o_;have ao:gt≠d/\gr≠d:=o_;clear bC bO av F;have U:=D.f_ 0;have ad:=D.f_ 1;have ar:=D.f_ 2
 cases hv:ic l hI hF with
 |false=>
  obtain⟨rfl,rfl⟩:=Prod.mk.inj (ag.out.symm.trans (by unfold kI;rw[hv];first|done|exact T_ rfl));exact Id
 |true=>
 go_upto_region 3 with(go_at_call 92;have af:=iS A c l hI hF _ (h.hG I) hn;rw[hv]at af;refine af.mono ?_;rintro e w1⟨rfl,hg1⟩)
 replace D:=D.hG hg1;replace z:=z.hG hg1;replace O:=O.hG hg1;replace hR:=hR.hG hg1;replace I:=I.trans hg1;clear hg1 U ad ar
 have ak:Hid ((P,N)=if nV s.p t.p=true then(Cm.zero.p,7) else if E≠0 then(Cm.zero.p,E) else(lQ s.p t.p,0)):=h_ (by
  rw[<-ag.out];unfold kI
  rw[hv,Q_ d_,show pB s.p.h t.p=E from j.out])
 go_cut [21] (λb aX=>b=.bool (nV s.p t.p)/\aX=w1)
 case first=>
  have m4:w1.cell? (c_ d 4)=some (.bool s.jH):=(z.f_ 4).trans rfl;have m1:w1.cell? (c_ d 1)=some (i_ s.hS):=(z.f_ 1).trans rfl;have t0:w1.cell? (c_ gt 0)=some (i_ t.hS):=(O.f_ 0).trans rfl
  cases bR:s.jH with
  |true=>
   have a6:=h_ (show nV s.p t.p=true by unfold nV;exact E8 (.inl bR));exact Lm
  |false=>
   have a6:=h_ (show nV s.p t.p=(t.hS !=s.hS) by
    unfold nV
    by_cases h1:t.hS=s.hS
    .have:(t.hS !=s.hS)=false:=by simp[h1]
     rw[this];exact FH (λay=>ay.elim (λh2=>EK h2 (by show ¬s.jH=true;rw[bR];decide)) (λh2=>h2 h1))
    .have:(t.hS !=s.hS)=true:=zu h1
     rw[this]
     exact E8 (.inr h1))
   exact Lm
 case rest=>
 obtain⟨rfl,d4⟩:=hcut;subst wc
 cases hcb:nV s.p t.p with
 |true=>
  obtain⟨rfl,rfl⟩:=Prod.mk.inj (ak.out.trans (T_ hcb));clear hcb ag ak;exact Jb
 |false=>
 have g:Hid ((P,N)=if E≠0 then(Cm.zero.p,E) else(lQ s.p t.p,0)):=h_ (by rw[ak.out,Q_ (by rw[hcb];decide)]);clear hcb ak;have m0:w1.cell? (c_ d 0)=some (.slice s.h.A s.h.l.length s.h.c):=(z.f_ 0).trans rfl
 by_cases a:E=0
 case neg=>
  obtain⟨rfl,aB⟩:=Prod.mk.inj (g.out.trans (T_ a));subst N;have q:(E !=0)=true:=zu a;clear a g ag
  go_wp2_with (first|(refine kT O underlying53 ?_)|(go_at_call 100;have af:=rM s.h.A s.h.c s.h.l t _ (hs.h.hG I) o_ (ht.hG I) ap az aD;rw[j.out]at af;refine af.mono ?_;rintro e w2⟨rfl,J⟩)|(refine kQ (Cm.zero.g_) (hR.hG J) (Cm.one _) ?_;intro X aw G))
  all_goals exact lT Cm.zero.g_ (i_ E) aw underlying40 ⟨Cm.zero,rfl,lX.zero _ _ rfl rfl,rfl,(I.trans J).jL G bg⟩
 case pos=>
 have R:Hid ((P,N)=(lQ s.p t.p,0)):=h_ (by rw[g.out,Q_ (by simp[a])])
 have q:(E !=0)=false:=by simp[a]
 clear a g
 go_upto_region 8 with(first|(refine kT O underlying53 ?_)|(go_at_call 100;have af:=rM s.h.A s.h.c s.h.l t _ (hs.h.hG I) o_ (ht.hG I) ap az aD;rw[j.out]at af;refine af.mono ?_;rintro e w2⟨rfl,J⟩))
 replace D:=D.hG J;replace z:=z.hG J;replace O:=O.hG J;replace hR:=hR.hG J;replace I:=I.trans J;clear J q;replace m0:w2.cell? (c_ d 0)=some (.slice s.h.A s.h.l.length s.h.c):=(z.f_ 0).trans rfl
 go_upto_region 9 with(first|(refine kT O underlying53 ?_)|(go_at_call 84;((with_reducible refine(vC s.h.A s.h.c s.h.l t _ (ht.hG I) (hs.h.hG I) o_ (G_ ap.ws d_) (G_ ap.ds d_)).mono ?_);unfold mf;rintro e ae⟨aG,aC,r3,rfl,m,f,S⟩;have Q:=h_ f;clear f;have m0:ae.cell? (c_ d 0)=some (.slice s.h.A s.h.l.length s.h.c):=((z.hG S).f_ 0).trans rfl;have aW:=(z.hG S).hH 0)))
 have M:Gr [d] ae (ae.setCell (c_ d 0) (.slice aG r3.length aC)):=(F_ [d] ae).setCell (.inl s_) _;have u:=m.iu (z.hG S) d_ d_ M;have y:Bk (ae.setCell (c_ d 0) (.slice aG r3.length aC)) d 40 ({s with h:=⟨aG,aC,r3⟩}:Cm).g_:=(z.hG S).hW 0 (.slice aG r3.length aC);replace O:=(O.hG S).gr M (zu ao.1);replace hR:=(hR.hG S).gr M (zu ao.2);replace I:=(I.trans S).jL M B;clear m0 aW z D S M m;replace z:=y;clear y;obtain⟨am,bU⟩:=nm_ (ae.setCell (c_ d 0) (.slice aG r3.length aC));rw[<-bU]at u z O hR I |-;clear bU;have m3:am.cell? (c_ d 3)=some (.slice s.h7.A s.h7.l.length s.h7.c):=(z.f_ 3).trans rfl;have t41:am.cell? (c_ gt 41)=some (.slice t.h7.A t.h7.l.length t.h7.c):=(O.f_ 41).trans rfl
 go_upto_region 10 with(go_at_call 93;((with_reducible refine(wl s.h7.A s.h7.c s.h7.l t.h7.A t.h7.c t.h7.l _ (hs.h7.hG I) (ht.h7.hG I) o_ W).mono ?_);unfold CY;rintro e T⟨aO,c4,rfl,bJ,bF,Z⟩;have m3:T.cell? (c_ d 3)=some (.slice s.h7.A s.h7.l.length s.h7.c):=((z.hG Z).f_ 3).trans rfl;have bj:=(z.hG Z).hH 3))
 have M:Gr [d] T (T.setCell (c_ d 3) (.slice aO (s.h7.l.length+t.h7.l.length) c4)):=(F_ [d] T).setCell (.inl s_) _;have k:As (T.setCell (c_ d 3) (.slice aO (s.h7.l.length+t.h7.l.length) c4)) aO (s.h7.l++t.h7.l):=Sl.iu bJ (z.hG Z) d_ M;have x:=(u.hG Z).iu (z.hG Z) d_ d_ M
 have y:Bk (T.setCell (c_ d 3) (.slice aO (s.h7.l.length+t.h7.l.length) c4)) d 40 ({s with h:=⟨aG,aC,r3⟩,h7:=⟨aO,c4,s.h7.l++t.h7.l⟩}:Cm).g_:=by
  rw[show({s with h:=⟨aG,aC,r3⟩,h7:=⟨aO,c4,s.h7.l++t.h7.l⟩}:Cm).g_=({s with h:=⟨aG,aC,r3⟩}:Cm).g_.setIfInBounds 3 (.slice aO (s.h7.l.length+t.h7.l.length) c4) from(show({s with h:=⟨aG,aC,r3⟩,h7:=⟨aO,c4,s.h7.l++t.h7.l⟩}:Cm).g_=({s with h:=⟨aG,aC,r3⟩}:Cm).g_.setIfInBounds 3 (.slice aO (s.h7.l++t.h7.l).length c4) from rfl).trans (ED (λn=>({s with h:=⟨aG,aC,r3⟩}:Cm).g_.setIfInBounds 3 (.slice aO n c4)) J_)];exact(z.hG Z).hW 3 (.slice aO (s.h7.l.length+t.h7.l.length) c4)
 replace O:=(O.hG Z).gr M (zu ao.1);replace hR:=(hR.hG Z).gr M (zu ao.2);replace I:=(I.trans Z).jL M B;clear m3 bj z t41 Z M bJ u;replace z:=y;clear y;obtain⟨bL,aZ⟩:=nm_ (T.setCell (c_ d 3) (.slice aO (s.h7.l.length+t.h7.l.length) c4));rw[<-aZ]at k x z O hR I |-;clear aZ;have df:bL.cell? (c_ d 8)=some (i_ s.iR):=(z.f_ 8).trans rfl;have ai:bL.cell? (c_ d 9)=some (i_ s.hM):=(z.f_ 9).trans rfl;have ax:bL.cell? (c_ gt 47)=some (i_ t.hM):=(O.f_ 47).trans rfl;have aq:=z.hH 8;have bH:=z.hH 9
 go_upto_region 12 with fail
 have M:Gr [d] bL ((bL.setCell (c_ d 8) (i_ (s.iR+1))).setCell (c_ d 9) (i_ (s.hM+t.hM))):=((F_ [d] bL).setCell (p:=(c_ d 8)) (.inl s_) _).setCell (p:=(c_ d 9)) (.inl s_) _;have i:lX ((bL.setCell (c_ d 8) (i_ (s.iR+1))).setCell (c_ d 9) (i_ (s.hM+t.hM))) ({s with h:=⟨aG,aC,r3⟩,h7:=⟨aO,c4,s.h7.l++t.h7.l⟩,iR:=s.iR+1,hM:=s.hM+t.hM}:Cm):=⟨x.iu z d_ d_ M,Sl.iu k z d_ M,bF⟩;have y:Bk ((bL.setCell (c_ d 8) (i_ (s.iR+1))).setCell (c_ d 9) (i_ (s.hM+t.hM))) d 40 ({s with h:=⟨aG,aC,r3⟩,h7:=⟨aO,c4,s.h7.l++t.h7.l⟩,iR:=s.iR+1,hM:=s.hM+t.hM}:Cm).g_:=(z.hW 8 (i_ (s.iR+1))).hW 9 (i_ (s.hM+t.hM));replace O:=O.gr M (zu ao.1);replace hR:=hR.gr M (zu ao.2);replace I:=I.jL M B;clear df ai aq bH ax z M k x;replace z:=y;clear y;obtain⟨o,bG⟩:=nm_ ((bL.setCell (c_ d 8) (i_ (s.iR+1))).setCell (c_ d 9) (i_ (s.hM+t.hM)));rw[<-bG]at i z O hR I |-;clear bG;have au:o.cell? (c_ gt 42)=some (i_ t.h8):=(O.f_ 42).trans rfl;obtain⟨rfl,rfl⟩:=Prod.mk.inj R.out;clear R ag
 by_cases bz:t.h8=2
 .have HA:Hid (lQ s.p t.p=({s with h:=⟨aG,aC,r3⟩,h7:=⟨aO,c4,s.h7.l++t.h7.l⟩,iR:=s.iR+1,hM:=s.hM+t.hM,hS:=t.next}:Cm).p):=h_ (by unfold lQ;rw[T_ (show t.p.h8=2 from bz),show lG s.p.h t.p=hY r3 from Q.out.symm];rfl);have q:(t.h8==2)=true:=zu bz;clear bz;have aF:o.cell? (c_ gt 43)=some (i_ t.next):=(O.f_ 43).trans rfl;have m1:o.cell? (c_ d 1)=some (i_ s.hS):=(z.f_ 1).trans rfl;have bP:=z.hH 1;have M:Gr [d] o (o.setCell (c_ d 1) (i_ t.next)):=(F_ [d] o).setCell (.inl s_) _;have y:Bk (o.setCell (c_ d 1) (i_ t.next)) d 40 ({s with h:=⟨aG,aC,r3⟩,h7:=⟨aO,c4,s.h7.l++t.h7.l⟩,iR:=s.iR+1,hM:=s.hM+t.hM,hS:=t.next}:Cm).g_:=z.hW 1 (i_ t.next);have Y:=hR.gr M (zu ao.2)
  go_wp2_with (first|(refine kT y underlying40 ?_)|(refine kQ (({s with h:=⟨aG,aC,r3⟩,h7:=⟨aO,c4,s.h7.l++t.h7.l⟩,iR:=s.iR+1,hM:=s.hM+t.hM,hS:=t.next}:Cm).g_) Y (Cm.one _) ?_;intro X aw G))
  rw[HA.out];exact lT ({s with h:=⟨aG,aC,r3⟩,h7:=⟨aO,c4,s.h7.l++t.h7.l⟩,iR:=s.iR+1,hM:=s.hM+t.hM,hS:=t.next}:Cm).g_ (i_ 0) aw underlying40 ⟨({s with h:=⟨aG,aC,r3⟩,h7:=⟨aO,c4,s.h7.l++t.h7.l⟩,iR:=s.iR+1,hM:=s.hM+t.hM,hS:=t.next}:Cm),rfl,(lX.iu (s:=({s with h:=⟨aG,aC,r3⟩,h7:=⟨aO,c4,s.h7.l++t.h7.l⟩,iR:=s.iR+1,hM:=s.hM+t.hM,hS:=t.next}:Cm)) ⟨(i.h.iu z d_ d_ M),Sl.iu i.h7 z d_ M,i.pE⟩ Y d_ G),rfl,(I.jL M B).jL G bg⟩
 .have HA:Hid (lQ s.p t.p=({s with h:=⟨aG,aC,r3⟩,h7:=⟨aO,c4,s.h7.l++t.h7.l⟩,iR:=s.iR+1,hM:=s.hM+t.hM,jH:=true,hZ:=t.hZ,v:=t.v}:Cm).p):=h_ (by unfold lQ;rw[Q_ (show ¬t.p.h8=2 from bz),show lG s.p.h t.p=hY r3 from Q.out.symm];rfl);have q:(t.h8==2)=false:=zu bz;clear bz
  go_upto_region 14 with fail
  clear au q;refine hQ (λw'=>w'.cell? (c_ gt 44)=some (.bool t.hZ)/\w'.cell? (c_ gt 45)=some (.bool t.v.r)/\w'.cell? (c_ gt 46)=some (i_ t.v.n)) 10 k_ ?_;have V:Gr [] o o.drew:=(F_ [] o).drew;replace i:=i.hG V;replace z:=z.hG V;replace O:=O.hG V;replace hR:=hR.hG V;replace I:=I.trans V;clear V;obtain⟨aR,aj⟩:=nm_ o.drew;rw[<-aj]at i z O hR I |-;clear aj;have C:aR.cell? (c_ gt 44)=some (.bool t.hZ)/\aR.cell? (c_ gt 45)=some (.bool t.v.r)/\aR.cell? (c_ gt 46)=some (i_ t.v.n):=⟨(O.f_ 44).trans rfl,(O.f_ 45).trans rfl,(O.f_ 46).trans rfl⟩;have m4:aR.cell? (c_ d 4)=some (.bool s.jH):=(z.f_ 4).trans rfl;have bi:aR.cell? (c_ d 5)=some (.bool s.hZ):=(z.f_ 5).trans rfl;have ah:aR.cell? (c_ d 6)=some (.bool s.v.r):=(z.f_ 6).trans rfl;have dq:aR.cell? (c_ d 7)=some (i_ s.v.n):=(z.f_ 7).trans rfl;have bn:=z.hH 4;have bw:=z.hH 5;have bB:=z.hH 6;have bD:=z.hH 7
  iterate 5 refine jW C ?_
  refine h4 5 λK H=>?_
  go_simp;clear C
  refine h5 H ⟨((O.ih (p:=(c_ d 4)) ao.1 (.bool true)).f_ 44).trans rfl,((O.ih (p:=(c_ d 4)) ao.1 (.bool true)).f_ 45).trans rfl,((O.ih (p:=(c_ d 4)) ao.1 (.bool true)).f_ 46).trans rfl⟩ λC=>?_
  clear H K;refine iP 6 C ?_
  refine h4 7 λK H=>?_
  go_simp;clear C
  refine h5 H ⟨(((O.ih (p:=(c_ d 4)) ao.1 (.bool true)).ih (p:=(c_ d 5)) ao.1 (.bool t.hZ)).f_ 44).trans rfl,(((O.ih (p:=(c_ d 4)) ao.1 (.bool true)).ih (p:=(c_ d 5)) ao.1 (.bool t.hZ)).f_ 45).trans rfl,(((O.ih (p:=(c_ d 4)) ao.1 (.bool true)).ih (p:=(c_ d 5)) ao.1 (.bool t.hZ)).f_ 46).trans rfl⟩ λC=>?_
  clear H K;refine iP 8 C ?_
  refine h4 9 λK H=>?_
  go_simp;clear C
  refine h5 H ⟨(((((O.ih (p:=(c_ d 4)) ao.1 (.bool true)).ih (p:=(c_ d 5)) ao.1 (.bool t.hZ)).ih (p:=(c_ d 6)) ao.1 (.bool t.v.r)).ih (p:=(c_ d 7)) ao.1 (i_ t.v.n)).f_ 44).trans rfl,(((((O.ih (p:=(c_ d 4)) ao.1 (.bool true)).ih (p:=(c_ d 5)) ao.1 (.bool t.hZ)).ih (p:=(c_ d 6)) ao.1 (.bool t.v.r)).ih (p:=(c_ d 7)) ao.1 (i_ t.v.n)).f_ 45).trans rfl,(((((O.ih (p:=(c_ d 4)) ao.1 (.bool true)).ih (p:=(c_ d 5)) ao.1 (.bool t.hZ)).ih (p:=(c_ d 6)) ao.1 (.bool t.v.r)).ih (p:=(c_ d 7)) ao.1 (i_ t.v.n)).f_ 46).trans rfl⟩ λC=>?_
  clear H K;have M:Gr [d] aR ((((aR.setCell (c_ d 4) (.bool true)).setCell (c_ d 5) (.bool t.hZ)).setCell (c_ d 6) (.bool t.v.r)).setCell (c_ d 7) (i_ t.v.n)):=((((F_ [d] aR).setCell (p:=(c_ d 4)) (.inl s_) _).setCell (p:=(c_ d 5)) (.inl s_) _).setCell (p:=(c_ d 6)) (.inl s_) _).setCell (p:=(c_ d 7)) (.inl s_) _;have y:Bk ((((aR.setCell (c_ d 4) (.bool true)).setCell (c_ d 5) (.bool t.hZ)).setCell (c_ d 6) (.bool t.v.r)).setCell (c_ d 7) (i_ t.v.n)) d 40 ({s with h:=⟨aG,aC,r3⟩,h7:=⟨aO,c4,s.h7.l++t.h7.l⟩,iR:=s.iR+1,hM:=s.hM+t.hM,jH:=true,hZ:=t.hZ,v:=t.v}:Cm).g_:=(((z.hW 4 (.bool true)).hW 5 (.bool t.hZ)).hW 6 (.bool t.v.r)).hW 7 (i_ t.v.n);have Y:=hR.gr M (zu ao.2);clear m4 bi ah dq bn bw bB bD C;refine hN k_ ?_ _
  go_wp2_with (first|(refine kT y underlying40 ?_)|(refine kQ (({s with h:=⟨aG,aC,r3⟩,h7:=⟨aO,c4,s.h7.l++t.h7.l⟩,iR:=s.iR+1,hM:=s.hM+t.hM,jH:=true,hZ:=t.hZ,v:=t.v}:Cm).g_) Y (Cm.one _) ?_;intro X aw G))
  rw[HA.out];exact lT ({s with h:=⟨aG,aC,r3⟩,h7:=⟨aO,c4,s.h7.l++t.h7.l⟩,iR:=s.iR+1,hM:=s.hM+t.hM,jH:=true,hZ:=t.hZ,v:=t.v}:Cm).g_ (i_ 0) aw underlying40 ⟨({s with h:=⟨aG,aC,r3⟩,h7:=⟨aO,c4,s.h7.l++t.h7.l⟩,iR:=s.iR+1,hM:=s.hM+t.hM,jH:=true,hZ:=t.hZ,v:=t.v}:Cm),rfl,(lX.iu (s:=({s with h:=⟨aG,aC,r3⟩,h7:=⟨aO,c4,s.h7.l++t.h7.l⟩,iR:=s.iR+1,hM:=s.hM+t.hM,jH:=true,hZ:=t.hZ,v:=t.v}:Cm)) ⟨(i.h.iu z d_ d_ M),Sl.iu i.h7 z d_ M,i.pE⟩ Y d_ G),rfl,(I.jL M B).jL G bg⟩
def kY(h:List Ob)(e:pX):List Ob:=i7 (e.nw.foldl lp h) e.ws
theorem y_(e:pX):(kY h e).length<=h.length+e.nw.length:=by
 unfold kY;rw[jT];exact oG e.nw h
theorem wi(l:List Rw)(f:Ef)(w:World)(he:sp w f)(h:mj w A c l)(hn:l.length+f.nw.l.length<=999999999)(az:f.ws.l.length<=1000000000):
 Calls prog 96 #[.agg #[.slice A l.length c],.agg f.g_] w (mf (kY (hY l) f.p) w):=by
 obtain⟨i1,bM,ca,ce,cp⟩:=info_parts infoOb;obtain⟨z,hE,hR,I⟩:=wt w 35 #[.slice A l.length c] 134 f.g_ 35 #[n_]
 go_enter func96,ntmps96
 go_upto_region 1 with fail
 obtain⟨bp,aK⟩:=nm_ (((w.alloc (.cells #[.slice A l.length c] 35)).alloc (.cells f.g_ 134)).alloc (.cells #[n_] 35));rw[<-aK]at z hE hR I |-;clear aK;obtain⟨be,T⟩:=nm_ w.heap.size;obtain⟨a2,s⟩:=nm_ (w.heap.size+1);obtain⟨gr,Q⟩:=nm_ (w.heap.size+1+1);rw[<-Q]at hR;rw[<-s]at hE;rw[<-T]at z;rw[<-Q,<-s,<-T];have t:w.heap.size<=be:=o_;have bg:w.heap.size<=gr:=o_;have ao:a2≠be/\gr≠be/\be≠gr/\a2≠gr:=o_;clear T s Q;have aQ:=z.f_ 0;have p:=h.hG I
 go_upto_region 2 with(at_builtin;refine o6 _ rfl (.const (n_)) (.tmp 12) 33 rfl 56 i1 _ 2 32 underlying33 bM ca ce cp rfl d_ d_ none 0 [] rfl (Fm _ _ _ _) A l.length c _ rfl p.os (jZ _) o_ ?_;intro av ai w2 aq bB J;simp only[U_,EO]at bB aq;replace aQ:=(z.hG J).f_ 0;have br:=(z.hG J).hH 0)
 have aM:mj w2 av ai l:=⟨bB,p.kZ.hG J,aq⟩;have M:Gr [be] w2 (w2.setCell (c_ be 0) (.slice av l.length ai)):=(F_ [be] w2).setCell (.inl s_) _;have af:=aM.iu (z.hG J) d_ d_ M;have m:=(z.hG J).hW 0 (.slice av l.length ai);have aH:=(hE.hG J).gr M (zu ao.1);have cz:=(hR.hG J).gr M (zu ao.2.1);have cy:=(I.trans J).jL M t;clear aQ br z hE hR I p aM bB aq M J;obtain⟨am,bU⟩:=nm_ (w2.setCell (c_ be 0) (.slice av l.length ai));rw[<-bU]at af m aH cz cy |-;clear bU;have Z:am.cell? (c_ a2 36)=some (.slice f.nw.A f.nw.l.length f.nw.c):=(aH.f_ 36).trans rfl;go_wp2
 go_loopw [18] (λi wr=>∃(k:Nat) (A':OA) (c':Nat) (rs:List Rw),k<=f.nw.l.length/\i=i_ k/\Bk wr be 35 #[.slice A' rs.length c']/\Bk wr a2 134 f.g_/\Bk wr gr 35 #[n_]/\mj wr A' c' rs/\hY rs=(hY (f.nw.l.take k)).foldl lp (hY l)/\Gr [] w wr) (λi _=>f.nw.l.length-(intOf i).toNat)
 case atStart=>exact⟨0,av,ai,l,O_ _,rfl,m,aH,cz,af,rfl,cy⟩
 case round=>
  clear m aH cz af cy Z;obtain⟨k,A',c',rs,hk,rfl,z,hE,hR,N,bw,F⟩:=hrel;have q:=h_ bw
  have v:rs.length<=999999999:=by
   have h1:=h9 rs;have h2:=oG (hY (f.nw.l.take k)) (hY l);rw[bw]at h1;rw[h9 (f.nw.l.take k),E1,h9]at h2;omega
  clear bw
  by_cases ag:k<f.nw.l.length
  .obtain⟨b,off,aT,bi,bq⟩:=(he.nw.hG F).at_ ag;rw[aT];have bL:=h_ (show(hY (f.nw.l.take (k+1))).foldl lp (hY l)=lp (hY rs) f.nw.l[k].o by rw[q.out];exact q4 _ _ ag);have D:=(he.nr.hG (F.alloc (.cells #[i_ f.nw.l[k].o.id,.slice f.nw.l[k].A f.nw.l[k].o.fs.length f.nw.l[k].c] 56))) f.nw.l[k] (N_ ag);generalize f.nw.l[k]=r at*;have ay:Sl (wr.alloc (.cells #[i_ r.o.id,.slice r.A r.o.fs.length r.c] 56)) 38 2 r.A r.o.fs.length (jd r.o.fs):=D.1;have aJ:(k:Int)<(f.nw.l.length:Int):=o_;have aE:Gr [] wr (wr.alloc (.cells #[i_ r.o.id,.slice r.A r.o.fs.length r.c] 56)):=(F_ [] wr).alloc _;have L:=P_ wr 56 #[i_ r.o.id,.slice r.A r.o.fs.length r.c];have U:=L.f_ 0;have ad:=L.f_ 1;have aQ:=(z.hG aE).f_ 0
   go_wp2_with (go_at_call 123;((with_reducible refine(uH A' c' rs r.o.id r.A r.c r.o.fs _ (N.hG aE).os (N.hG aE).kZ N.lW ay D.2 v).mono ?_);rintro e Y⟨aY,c5,a,rfl,G,P,bI,d,ah⟩;have j:=h_ d;clear d;have n:=(z.hG aE).hG ah;replace aQ:=n.f_ 0;have br:=n.hH 0))
   have M:Gr [be] Y (Y.setCell (c_ be 0) (.slice aY a.length c5)):=(F_ [be] Y).setCell (.inl s_) _;go_roundw
   case rel=>exact⟨k+1,aY,c5,a,o_,gn,n.hW 0 _,((hE.hG aE).hG ah).gr M (zu ao.1),((hR.hG aE).hG ah).gr M (zu ao.2.1),(mj.mk P bI G).iu n d_ d_ M,by rw[bL.out,j.out],((F.trans aE).trans ah).jL M t⟩
   case measure=>exact mz
  .have bQ:=h_ (show k=f.nw.l.length by omega);have aJ:¬(k:Int)<(f.nw.l.length:Int):=o_;have aR:=h_ (show hY rs=f.p.nw.foldl lp (hY l) by rw[q.out,bQ.out,FD];rfl);clear q hk ag;have cx:wr.cell? (c_ a2 35)=some (.slice f.ws.A f.ws.l.length f.ws.c):=(hE.f_ 35).trans rfl;have E:rs.length<=1000000000:=o_;obtain⟨K,C⟩:=nm_ wr;rw[<-C]at z hE hR N F cx |-;clear C;obtain⟨B,V⟩:=nm_ A';obtain⟨aw,bi⟩:=nm_ c';obtain⟨bW,bD⟩:=nm_ rs;rw[<-V,<-bi,<-bD]at N;rw[<-V,<-bi,<-bD]at z;rw[<-bD]at aR E;clear V bi bD v bQ;go_wp2;clear aJ
   go_loopw [29] (λi wr=>∃(k:Nat) (A':OA) (c':Nat) (rs:List Rw),k<=f.ws.l.length/\i=i_ k/\Bk wr be 35 #[.slice A' rs.length c']/\Bk wr a2 134 f.g_/\Bk wr gr 35 #[n_]/\mj wr A' c' rs/\hY rs=i7 (hY bW) (f.ws.l.take k)/\Gr [] w wr) (λi _=>f.ws.l.length-(intOf i).toNat)
   case atStart=>exact⟨0,B,aw,bW,O_ _,rfl,z,hE,hR,N,rfl,F⟩
   case round=>
    clear z hE hR N F cx;obtain⟨k,A',c',rs,hk,rfl,z,hE,hR,N,bw,F⟩:=hrel;have q:=h_ bw;clear bw
    by_cases ag:k<f.ws.l.length
    .obtain⟨b,off,aT,bi,bq,bK,bT⟩:=(he.ws.hG F).at_ ag;rw[aT];have bL:=h_ (show i7 (hY bW) (f.ws.l.take (k+1))=qF (hY rs) f.ws.l[k] by rw[q.out];exact qj _ _ ag)
     have H:rs.length<=1000000000:=by
      have:=h9 rs
      rw[q.out,jT,h9]at this;omega
     have aJ:(k:Int)<(f.ws.l.length:Int):=o_;generalize f.ws.l[k]=x at*;obtain⟨aj,aB,g⟩:=x;simp only at bi bq bK bT;have aE:Gr [] wr (wr.alloc (.cells #[i_ aj,i_ aB,.bool g.r,i_ g.n] 116)):=(F_ [] wr).alloc _;have L:=P_ wr 116 #[i_ aj,i_ aB,.bool g.r,i_ g.n];have U:=L.f_ 0;have ad:=L.f_ 1;have ar:=L.f_ 2;have aL:=L.f_ 3;have aQ:=(z.hG aE).f_ 0
     cases y:jx (hY rs) aj aB with
     |none=>
      have bP:=h_ (show qF (hY rs) ⟨aj,aB,g⟩=hY rs by unfold qF;simp only[y])
      go_wp2_with (go_at_call 149;((with_reducible refine(qk A' c' rs aj aB g _ (N.hG aE).os (N.hG aE).kZ H y).mono ?_);rintro e Y⟨rfl,ah⟩))
      have au:Gr [] wr (Y.alloc (.cells #[n_] 35)):=(aE.trans ah).alloc _;go_roundw
      case rel=>exact⟨k+1,A',c',rs,o_,gn,z.hG au,hE.hG au,hR.hG au,N.hG au,by rw[bL.out,bP.out],F.trans au⟩
      case measure=>exact mz
     |some u=>
      have bP:=h_ (show qF (hY rs) ⟨aj,aB,g⟩=kO (hY rs) aj aB g by unfold qF;simp only[y])
      go_wp2_with (go_at_call 149;((with_reducible refine(ob A' c' rs aj aB g u _ (N.hG aE).os (N.hG aE).kZ H y).mono ?_);rintro e Y⟨aY,c5,a,rfl,G,P,bI,d,ah⟩;have j:=h_ d;clear d;have bt:=P_ Y 35 #[.slice aY a.length c5];have n0:=bt.f_ 0;have aU:=((z.hG aE).hG ah).alloc (.cells #[.slice aY a.length c5] 35);replace aQ:=aU.f_ 0;have br:=aU.hH 0))
      have au:Gr [] wr (Y.alloc (.cells #[.slice aY a.length c5] 35)):=(aE.trans ah).alloc _;have M:Gr [be] (Y.alloc (.cells #[.slice aY a.length c5] 35)) ((Y.alloc (.cells #[.slice aY a.length c5] 35)).setCell (c_ be 0) (.slice aY a.length c5)):=(F_ [be] _).setCell (.inl s_) _;go_roundw
      case rel=>exact⟨k+1,aY,c5,a,o_,gn,aU.hW 0 _,(hE.hG au).gr M (zu ao.1),(hR.hG au).gr M (zu ao.2.1),((mj.mk P bI G).hG ((F_ [] Y).alloc _)).iu aU d_ d_ M,by rw[bL.out,bP.out,j.out],(F.trans au).jL M t⟩
      case measure=>exact mz
    .have bQ:=h_ (show k=f.ws.l.length by omega);have aJ:¬(k:Int)<(f.ws.l.length:Int):=o_;have aQ:=z.f_ 0;have bH:=hR.hH 0;have bj:=hR.f_ 0;go_wp2;have M:Gr [gr] wr (wr.setCell (c_ gr 0) (.slice A' rs.length c')):=(F_ [gr] wr).setCell (.inl s_) _;refine rr_ #[.slice A' rs.length c'] (hR.hW 0 (.slice A' rs.length c')) underlying35 ⟨A',c',rs,rfl,N.iu hR d_ d_ M,?_,F.jL M bg⟩;rw[q.out,bQ.out,FD,aR.out]
     rfl
def mC(c:List In)(h:List Ob)(pc k2:Int):List Ob:=
 qF h ⟨((jx h 1 0).getD default).n,3+(c.getD pc.toNat default).n,⟨false,k2⟩⟩
theorem xw(c:List In)(h:List Ob)(pc k2:Int):(mC c h pc k2).length=h.length:=xV _ _
theorem we(k:Nat)(k2:Int)(w:World)(N:Is w A l)(hn:l.length<=1000000000)(hv:mj w hA hc hl)(aP:hl.length<=1000000000)(hk:k<l.length)(h0:0<=l[k].n)(h1:l[k].n<=1000000):
 Calls prog 95 #[.agg #[.slice A l.length c,i_ hI,i_ hF],.agg #[.slice hA hl.length hc],i_ k,i_ k2] w (mf (mC l (hY hl) k k2) w):=by
 obtain⟨ak,r,rfl,bi,bq,bK,bT,bF⟩:=N.at_ hk
 have B:=h_ (show mC l (hY hl) (k:Int) k2=qF (hY hl) ⟨((jx (hY hl) 1 0).getD default).n,3+l[k].n,⟨false,k2⟩⟩ by
  unfold mC
  have e:l.getD (k:Int).toNat default=l[k]:=by simp[List.getD,M_ hk]
  rw[e])
 obtain⟨n,J⟩:∃n,n=l[k].n:=⟨_,rfl⟩;rw[<-J]at h0 h1 bF B;clear bi bq bK bT J;obtain⟨f,hf⟩:=mn_ ((jx (hY hl) 1 0).getD default);rw[hf]at B;obtain⟨D,z,hR,I⟩:=wt w 26 #[.slice (some (c_ ak r)) l.length c,i_ hI,i_ hF] 35 #[.slice hA hl.length hc] 35 #[n_]
 go_enter func95,ntmps95
 go_upto_region 1 with fail
 obtain⟨bp,aK⟩:=nm_ (((w.alloc (.cells #[.slice (some (c_ ak r)) l.length c,i_ hI,i_ hF] 26)).alloc (.cells #[.slice hA hl.length hc] 35)).alloc (.cells #[n_] 35));rw[<-aK]at D z hR I |-;clear aK;obtain⟨L,S⟩:=nm_ w.heap.size;obtain⟨be,T⟩:=nm_ (w.heap.size+1);obtain⟨gr,Q⟩:=nm_ (w.heap.size+1+1);rw[<-Q]at hR;rw[<-T]at z;rw[<-S]at D;rw[<-Q,<-T,<-S];have bg:w.heap.size<=gr:=o_;clear S T Q;have U:=z.f_ 0
 go_upto_region 2 with(go_at_call 148;((with_reducible refine(ky hA hc hl 1 0 _ (hv.hG I).os (hv.hG I).kZ aP).mono ?_);rw[hf];rintro e w1⟨rfl,hg1⟩))
 have aj:=P_ w1 38 #[.bool f.r,i_ f.n];have aC:Gr [] bp (w1.alloc (.cells #[.bool f.r,i_ f.n] 38)):=hg1.alloc _;replace D:=D.hG aC;replace z:=z.hG aC;replace hR:=hR.hG aC;replace I:=I.trans aC;have kh:=I.f_ bF s_;clear hg1 aC U;obtain⟨R,E⟩:=nm_ (w1.alloc (.cells #[.bool f.r,i_ f.n] 38));rw[<-E]at aj D z hR I kh |-;clear E;generalize w1.heap.size=x at*
 cases y:jx (hY hl) f.n (3+n)with
 |none=>
  have bP:=h_ (show mC l (hY hl) (k:Int) k2=hY hl by rw[B.out];unfold qF;simp only[y])
  go_cut [11,12] (λp b aX=>∃gn:Nat,p=q_ gn/\b=.bool false/\Gr [] R aX)
  case first=>
   refine hQ (λw'=>w'.cell? (c_ be 0)=some (.slice hA hl.length hc)/\w'.cell? (c_ x 1)=some (i_ f.n)/\w'.cell? (c_ L 0)=some (.slice (some (c_ ak r)) l.length c)/\w'.cell? (c_ ak (r+k*5+4))=some (i_ n)) 19 k_ ?_;have o:Gr [] R R.drew:=(F_ [] R).drew;obtain⟨aH,bC⟩:=nm_ R.drew;rw[<-bC]at o |-;clear bC;have C:aH.cell? (c_ be 0)=some (.slice hA hl.length hc)/\aH.cell? (c_ x 1)=some (i_ f.n)/\aH.cell? (c_ L 0)=some (.slice (some (c_ ak r)) l.length c)/\aH.cell? (c_ ak (r+k*5+4))=some (i_ n):=⟨(z.hG o).f_ 0,(aj.hG o).f_ 1,(D.hG o).f_ 0,(o).f_ kh s_⟩;have aS:(0:Int)<=(k:Int):=o_;have aJ:(k:Int)<(l.length:Int):=o_
   (iterate 9 refine jW C ?_)
   refine iP 9 (v:=i_ (3+n)) C ?_ (hy:=(Or.inl ⟨r_,(by intro w' bR;go_simp;try(first|with_reducible rfl|(rw[FU];omega)))⟩))
   (iterate 2 refine jW C ?_)
   refine ji 12 16 rfl rfl k_ (λK H=>?_) (λK H=>?_)
   .go_simp;have i:Gr [] R aH:=o
    (go_at_call 149;((with_reducible refine(qk hA hc hl f.n (3+n) ⟨false,k2⟩ _ (hv.hG (I.trans i)).os (hv.hG (I.trans i)).kZ aP y).mono ?_);rintro e Y⟨rfl,ah⟩))
    have g:Gr [] R Y:=o.trans ah;clear C
    refine h5 H ⟨(z.hG g).f_ 0,(aj.hG g).f_ 1,(D.hG g).f_ 0,(g).f_ kh s_⟩ λC=>?_
    clear H K
    iterate 3 refine jW C ?_
    refine h4 16 λK H=>?_
    go_simp;have m:Gr [] R (Y.alloc (.cells #[n_] 35)):=g.alloc _;have s:=P_ Y 35 #[n_];clear C;have C:(Y.alloc (.cells #[n_] 35)).cell? (c_ be 0)=some (.slice hA hl.length hc)/\(Y.alloc (.cells #[n_] 35)).cell? (c_ x 1)=some (i_ f.n)/\(Y.alloc (.cells #[n_] 35)).cell? (c_ L 0)=some (.slice (some (c_ ak r)) l.length c)/\(Y.alloc (.cells #[n_] 35)).cell? (c_ ak (r+k*5+4))=some (i_ n):=⟨(z.hG m).f_ 0,(aj.hG m).f_ 1,(D.hG m).f_ 0,(m).f_ kh s_⟩;have z0:=s.f_ 0;have eY:=s.hH 0
    refine h5 H C λC=>?_
    clear H K
    refine h4 17 λK H=>?_
    go_simp;have h:Gr [] R (Y.alloc (.cells #[n_] 35)):=g.alloc _;have F:Gr [] Y (Y.alloc (.cells #[n_] 35)):=(F_ [] Y).alloc _;have aI:=P_ Y 35 #[n_];exact I9
   .go_simp;have i:Gr [] R (aH.alloc (.cells #[n_] 35)):=o.alloc _;have s:=P_ aH 35 #[n_];clear C
    refine h5 H ⟨(z.hG i).f_ 0,(aj.hG i).f_ 1,(D.hG i).f_ 0,(i).f_ kh s_⟩ λC=>?_
    clear H K
    refine h4 12 λK H=>?_
    go_simp
    (go_at_call 149;((with_reducible refine(qk hA hc hl f.n (3+n) ⟨false,k2⟩ _ (hv.hG (I.trans i)).os (hv.hG (I.trans i)).kZ aP y).mono ?_);rintro e Y⟨rfl,ah⟩))
    have g:Gr [] R Y:=i.trans ah;clear C
    refine h5 H ⟨(z.hG g).f_ 0,(aj.hG g).f_ 1,(D.hG g).f_ 0,(g).f_ kh s_⟩ λC=>?_
    clear H K
    (iterate 3 refine jW C ?_)
    have t:=s.hG ah;have z0:=t.f_ 0;have eY:=t.hH 0
    refine h4 17 λK H=>?_
    go_simp;have M:Gr [aH.heap.size] Y (Y.setCell (c_ aH.heap.size 0) (n_)):=(F_ [_] _).setCell (.inl s_) _;have h:Gr [] R (Y.setCell (c_ aH.heap.size 0) (n_)):=g.jL M o.size;have aI:=t.hW 0 (n_);exact I9
  case rest=>
   obtain⟨gn,rfl,rfl,aE⟩:=hcut;replace z:=z.hG aE;replace hR:=hR.hG aE;have U:=z.f_ 0;have bH:=hR.hH 0;have bj:=hR.f_ 0;go_wp2;have M:Gr [gr] wc (wc.setCell (c_ gr 0) (.slice hA hl.length hc)):=(F_ [gr] wc).setCell (.inl s_) _;exact rr_ #[.slice hA hl.length hc] (hR.hW 0 (.slice hA hl.length hc)) underlying35 ⟨hA,hc,hl,rfl,(hv.hG (I.trans aE)).iu hR d_ d_ M,bP.out.symm,(I.trans aE).jL M bg⟩
 |some u=>
  have bP:=h_ (show mC l (hY hl) (k:Int) k2=kO (hY hl) f.n (3+n) ⟨false,k2⟩ by rw[B.out];unfold qF;simp only[y])
  go_cut [11,12] (λp b aX=>∃(gn:Nat) (aY:OA) (c5:Nat) (a:List Rw),p=q_ gn/\b=.bool true/\Bk aX gn 35 #[.slice aY a.length c5]/\mj aX aY c5 a/\hY a=kO (hY hl) f.n (3+n) ⟨false,k2⟩/\Gr [] R aX)
  case first=>
   refine hQ (λw'=>w'.cell? (c_ be 0)=some (.slice hA hl.length hc)/\w'.cell? (c_ x 1)=some (i_ f.n)/\w'.cell? (c_ L 0)=some (.slice (some (c_ ak r)) l.length c)/\w'.cell? (c_ ak (r+k*5+4))=some (i_ n)) 19 k_ ?_;have o:Gr [] R R.drew:=(F_ [] R).drew;obtain⟨aH,bC⟩:=nm_ R.drew;rw[<-bC]at o |-;clear bC;have C:aH.cell? (c_ be 0)=some (.slice hA hl.length hc)/\aH.cell? (c_ x 1)=some (i_ f.n)/\aH.cell? (c_ L 0)=some (.slice (some (c_ ak r)) l.length c)/\aH.cell? (c_ ak (r+k*5+4))=some (i_ n):=⟨(z.hG o).f_ 0,(aj.hG o).f_ 1,(D.hG o).f_ 0,(o).f_ kh s_⟩;have aS:(0:Int)<=(k:Int):=o_;have aJ:(k:Int)<(l.length:Int):=o_
   (iterate 9 refine jW C ?_)
   refine iP 9 (v:=i_ (3+n)) C ?_ (hy:=(Or.inl ⟨r_,(by intro w' bR;go_simp;try(first|with_reducible rfl|(rw[FU];omega)))⟩))
   (iterate 2 refine jW C ?_)
   refine ji 12 16 rfl rfl k_ (λK H=>?_) (λK H=>?_)
   .go_simp;have i:Gr [] R aH:=o
    (go_at_call 149;((with_reducible refine(ob hA hc hl f.n (3+n) ⟨false,k2⟩ u _ (hv.hG (I.trans i)).os (hv.hG (I.trans i)).kZ aP y).mono ?_);rintro e Y⟨aY,c5,a,rfl,G,P,bI,d,ah⟩;have j:=h_ d;clear d))
    have g:Gr [] R Y:=o.trans ah;clear C
    refine h5 H ⟨(z.hG g).f_ 0,(aj.hG g).f_ 1,(D.hG g).f_ 0,(g).f_ kh s_⟩ λC=>?_
    clear H K
    iterate 3 refine jW C ?_
    refine h4 16 λK H=>?_
    go_simp;have m:Gr [] R (Y.alloc (.cells #[n_] 35)):=g.alloc _;have s:=P_ Y 35 #[n_];clear C;have C:(Y.alloc (.cells #[n_] 35)).cell? (c_ be 0)=some (.slice hA hl.length hc)/\(Y.alloc (.cells #[n_] 35)).cell? (c_ x 1)=some (i_ f.n)/\(Y.alloc (.cells #[n_] 35)).cell? (c_ L 0)=some (.slice (some (c_ ak r)) l.length c)/\(Y.alloc (.cells #[n_] 35)).cell? (c_ ak (r+k*5+4))=some (i_ n):=⟨(z.hG m).f_ 0,(aj.hG m).f_ 1,(D.hG m).f_ 0,(m).f_ kh s_⟩;have z0:=s.f_ 0;have eY:=s.hH 0
    refine h5 H C λC=>?_
    clear H K
    refine h4 17 λK H=>?_
    go_simp;have h:Gr [] R (Y.alloc (.cells #[.slice aY a.length c5] 35)):=g.alloc _;have F:Gr [] Y (Y.alloc (.cells #[.slice aY a.length c5] 35)):=(F_ [] Y).alloc _;have aI:=P_ Y 35 #[.slice aY a.length c5];clear C
    refine h5 H ⟨(z.hG h).f_ 0,(aj.hG h).f_ 1,(D.hG h).f_ 0,(h).f_ kh s_⟩ λC=>?_
    clear H K;refine iP 18 C ?_;refine hN k_ ?_ _;go_wp2;go_meet;exact⟨_,aY,c5,a,rfl,rfl,aI,(mj.mk P bI G).hG F,j.out,h⟩
   .go_simp;have i:Gr [] R (aH.alloc (.cells #[n_] 35)):=o.alloc _;have s:=P_ aH 35 #[n_];clear C
    refine h5 H ⟨(z.hG i).f_ 0,(aj.hG i).f_ 1,(D.hG i).f_ 0,(i).f_ kh s_⟩ λC=>?_
    clear H K
    refine h4 12 λK H=>?_
    go_simp
    (go_at_call 149;((with_reducible refine(ob hA hc hl f.n (3+n) ⟨false,k2⟩ u _ (hv.hG (I.trans i)).os (hv.hG (I.trans i)).kZ aP y).mono ?_);rintro e Y⟨aY,c5,a,rfl,G,P,bI,d,ah⟩;have j:=h_ d;clear d))
    have g:Gr [] R Y:=i.trans ah;clear C
    refine h5 H ⟨(z.hG g).f_ 0,(aj.hG g).f_ 1,(D.hG g).f_ 0,(g).f_ kh s_⟩ λC=>?_
    clear H K
    (iterate 3 refine jW C ?_)
    have t:=s.hG ah;have z0:=t.f_ 0;have eY:=t.hH 0
    refine h4 17 λK H=>?_
    go_simp;have M:Gr [aH.heap.size] Y (Y.setCell (c_ aH.heap.size 0) (.slice aY a.length c5)):=(F_ [_] _).setCell (.inl s_) _;have h:Gr [] R (Y.setCell (c_ aH.heap.size 0) (.slice aY a.length c5)):=g.jL M o.size;have aI:=t.hW 0 (.slice aY a.length c5);clear C
    refine h5 H ⟨(z.hG h).f_ 0,(aj.hG h).f_ 1,(D.hG h).f_ 0,(h).f_ kh s_⟩ λC=>?_
    clear H K;refine iP 18 C ?_;refine hN k_ ?_ _;go_wp2;go_meet;exact⟨_,aY,c5,a,rfl,rfl,aI,(mj.mk P bI G).iu t d_ d_ M,j.out,h⟩
  case rest=>
   obtain⟨gn,aY,c5,a,rfl,rfl,s,O,d,aE⟩:=hcut;have q:=h_ d;clear d;replace hR:=hR.hG aE;have U:=s.f_ 0;have bH:=hR.hH 0;have bj:=hR.f_ 0;go_wp2;have M:Gr [gr] wc (wc.setCell (c_ gr 0) (.slice aY a.length c5)):=(F_ [gr] wc).setCell (.inl s_) _;exact rr_ #[.slice aY a.length c5] (hR.hW 0 (.slice aY a.length c5)) underlying35 ⟨aY,c5,a,rfl,O.iu hR d_ d_ M,by rw[q.out,bP.out],(I.trans aE).jL M bg⟩
theorem y6(w:World):(Instr.build 49 #[(0,i_ pc)]).run prog w=.ok (.agg (iJ pc jq)) w:=by kernel_rfl
theorem wk(l:List Ac)(w:World)(h:As w A l)(hn:l.length<=1000000000):
 Calls prog 93 #[.slice A l.length c,n_] w λe w'=>∃(A':OA) (d:Nat),e=.returned (.slice A' l.length d)/\w'.ownsRow w.heap.size 162 3 (.slice A' l.length d) l.length (l.flatMap Ac.E)/\Gr [] w w':=by
 obtain⟨bF,bE,bt,a8,bo⟩:=info_parts infoAc;have C:Sl w 162 3 A l.length (l.flatMap Ac.E):=h;have hbs:w.heap.size<=w.heap.size:=H_ _
 go_enter func93,ntmps93
 go_wp2_with (first
  |(at_builtin;refine iL _ rfl (.const (n_)) (.tmp 5) 36 rfl w.heap.size 162 bF _ 3 24 underlying36 bE bt a8 bo rfl d_ d_ none 0 0 [] rfl (iV _ _ _ _) A l.length c _ rfl C (tz _) o_ hbs ?_;intro av ai w2 aq ao;simp only[U_,EO]at aq;have J:=ao.gr [] w (H_ _) (F_ [] w);have a:=J.size;have cv:=Fm w2 162 3 none)
  |(at_builtin;refine iL _ rfl (.tmp 6) (.tmp 7) 36 rfl w.heap.size 162 bF _ 3 24 underlying36 bE bt a8 bo rfl d_ d_ av l.length ai _ rfl aq none 0 0 _ rfl cv (by intro u hu;cases hu) o_ a ?_;intro aG aC ae b5 i;simp only[FV,GE]at b5;have S:=i.gr [] w (H_ _) J))
 go_ret;exact⟨aG,aC,rfl,b5,S⟩
def me(l:List In)(hI hF:Int)(s:pY)(e:pX):Bool:=decide (s.jH=true∨jB l hI hF s.hS=false∨e.h6=4)
def ox(l:List In)(k2:List Int)(s:pY)(e:pX):pY:=
 if e.h6=3 then{s with h:=mC l s.h s.hS (jt k2 s.jp),h7:=s.h7++[⟨true,e.v.n,jt k2 s.jp⟩],hM:=s.hM+1,hS:=s.hS+1,jp:=s.jp+1}
 else if e.h6=2 then{s with h:=kY s.h e,hM:=s.hM+1,jH:=true,hZ:=e.hZ,v:=e.v}
 else{s with h:=kY s.h e,hM:=s.hM+1,hS:=e.pc}
def nJ(l:List In)(hI hF:Int)(k2:List Int)(s:pY):pY × Int:=
 if ic l hI hF=false then(Cm.zero.p,1) else
 if me l hI hF s (lm l hI hF s.hS jq s.h 0)=true then(Cm.zero.p,7) else
 (ox l k2 s (lm l hI hF s.hS jq s.h 0),0)
theorem y8(aA:OA)(ac:Nat)(al:List Int)(s:Cm)(w:World)(h:Is w A l)(hn:l.length<=1000000000)(ha:Ns w 2 aA al)(av:al.length<=1000000000)(hs:lX w s)(a7:s.h.l.length<=99999999)(cZ:s.h7.l.length<=100000000)(cy: -1000000000<=s.hS)(b1:s.hS<=1000000000)(b2:0<=s.hM)(b3:s.hM<=1000000000000)(dJ:0<=s.jp)(ev:s.jp<=1000000000):
 Calls prog 48 #[.agg #[.slice A l.length c,i_ hI,i_ hF],.agg #[.slice aA al.length ac],.agg s.g_] w (uv (nJ l hI hF al s.p).1 (nJ l hI hF al s.p).2 w):=by
 obtain⟨bF,bE,bt,a8,bo⟩:=info_parts infoAc;obtain⟨E,hE⟩:=mn_ (lm l hI hF s.hS jq (hY s.h.l) 0)
 have bJ:E.sm 16:=by rw[<-hE];exact sd _ _ _ _ _ _ _
 have ck:=h_ hE;clear hE;obtain⟨⟨P,N⟩,cY⟩:∃q,nJ l hI hF al s.p=q:=⟨_,rfl⟩;rw[cY];have ag:=h_ cY;clear cY;obtain⟨D,aT,z,hR,I⟩:=B8 w 26 #[.slice A l.length c,i_ hI,i_ hF] 29 #[.slice aA al.length ac] 40 s.g_ 40 #[n_,i_ 0,i_ 0,n_,.bool false,.bool false,.bool false,i_ 0,i_ 0,i_ 0]
 go_enter func48,ntmps48
 go_upto_region 1 with fail
 obtain⟨bp,aK⟩:=nm_ ((((w.alloc (.cells #[.slice A l.length c,i_ hI,i_ hF] 26)).alloc (.cells #[.slice aA al.length ac] 29)).alloc (.cells s.g_ 40)).alloc (.cells #[n_,i_ 0,i_ 0,n_,.bool false,.bool false,.bool false,i_ 0,i_ 0,i_ 0] 40));rw[<-aK]at D aT z hR I |-;clear aK;obtain⟨L,bC⟩:=nm_ w.heap.size;obtain⟨gw,bA⟩:=nm_ (w.heap.size+1);obtain⟨d,bO⟩:=nm_ (w.heap.size+1+1);obtain⟨gr,F⟩:=nm_ (w.heap.size+1+1+1);rw[<-F]at hR;rw[<-bO]at z;rw[<-bA]at aT;rw[<-bC]at D;rw[<-F,<-bO,<-bA,<-bC];have bg:w.heap.size<=gr:=o_;have B:w.heap.size<=d:=o_;have ao:L≠d/\gw≠d/\gr≠d:=o_;clear bC bO bA F;have U:=D.f_ 0;have ad:=D.f_ 1;have ar:=D.f_ 2
 cases hv:ic l hI hF with
 |false=>
  obtain⟨rfl,rfl⟩:=Prod.mk.inj (ag.out.symm.trans (by unfold nJ;exact T_ hv));exact Id
 |true=>
 have ak:Hid ((P,N)=if me l hI hF s.p E=true then(Cm.zero.p,7) else(ox l al s.p E,0)):=h_ (by
  rw[<-ag.out];unfold nJ
  rw[Q_ (by rw[hv];decide),show lm l hI hF s.p.hS jq s.p.h 0=E from ck.out])
 have aM:∀k,k<l.length->kU l k=true:=by
  intro k hk;have aV:=hv;unfold ic nS at aV;simp only[ES]at aV;exact EV.mp aV.1.1.2 k (zu hk)
 clear ag
 go_upto_region 3 with(go_at_call 92;have af:=iS A c l hI hF _ (h.hG I) hn;rw[hv]at af;refine af.mono ?_;rintro e w1⟨rfl,hg1⟩)
 replace D:=D.hG hg1;replace aT:=aT.hG hg1;replace z:=z.hG hg1;replace hR:=hR.hG hg1;replace I:=I.trans hg1;clear hg1 hv;replace U:=D.f_ 0;replace ad:=D.f_ 1;replace ar:=D.f_ 2;have m1:w1.cell? (c_ d 1)=some (i_ s.hS):=(z.f_ 1).trans rfl;have m0:w1.cell? (c_ d 0)=some (.slice s.h.A s.h.l.length s.h.c):=(z.f_ 0).trans rfl
 go_upto_region 4 with(first|(refine wpList_build rfl _ _ rfl #[(0,i_ s.hS)] k_ _ (y6 s.hS _) ?_)|(go_at_call 78;have af:=pM A c l hI hF s.hS 0 jq s.h.A s.h.c s.h.l _ (h.hG I) hn (hs.h.hG I) o_ o_;rw[ck.out]at af;refine af.mono ?_;unfold wq;rintro e w2⟨f,rfl,W,aG,J⟩)|(refine kQ (f.g_) (P_ w2 134 tG) (Ef.one _) ?_;intro ae aH S))
 have O:Gr [] w2 ae:=((F_ [] w2).alloc _).jL S (H_ _);have aC:Gr [] w1 ae:=J.trans O;have bz:sp ae f:=(W.hG ((F_ [] w2).alloc (.cells tG 134))).iu (P_ w2 134 tG) d_ S;have bM:w2.heap.size≠d:=ov ((z.hG J).lt);replace D:=D.hG aC;replace aT:=aT.hG aC;replace z:=z.hG aC;replace hR:=hR.hG aC;replace I:=I.trans aC;clear aC J S O W U ad ar m0 m1;have hE:=aH;have W:=bz;clear aH bz;have j:w2.heap.size≠d:=bM;clear bM;generalize w2.heap.size=a2 at*
 have cz:f.p.sm 16:=by rw[aG];exact bJ
 rw[<-aG]at ak
 have bU:f.nw.l.length<=16:=by have:=cz.nw;have e:f.p.nw.length=f.nw.l.length:=h9 _;omega
 clear bJ ck aG
 try simp only[a_]
 go_cut [34] (λb aX=>b=.bool (me l hI hF s.p f.p)/\Gr [] ae aX)
 case first=>
  have U:=D.f_ 0;have ad:=D.f_ 1;have ar:=D.f_ 2;have m4:ae.cell? (c_ d 4)=some (.bool s.jH):=(z.f_ 4).trans rfl;have m1:ae.cell? (c_ d 1)=some (i_ s.hS):=(z.f_ 1).trans rfl
  cases bR:s.jH with
  |true=>
   have a6:=h_ (show me l hI hF s.p f.p=true by unfold me;exact E8 (.inl bR));rw[bR]at m4;clear bR;go_wp2;go_meet;exact⟨ja a6.out.symm,F_ _ _⟩
  |false=>
   rw[bR]at m4
   cases m:jB l hI hF s.hS with
   |false=>
    have a6:=h_ (show me l hI hF s.p f.p=true by unfold me;exact E8 (.inr (.inl m)));exact IC
   |true=>
    have a6:=h_ (show me l hI hF s.p f.p=(f.h6==4) by
     unfold me
     by_cases h1:f.h6=4
     .have:(f.h6==4)=true:=zu h1
      rw[this];exact E8 (.inr (.inr h1))
     .have:(f.h6==4)=false:=zu h1
      rw[this]
      exact FH (λay=>ay.elim (λh2=>EK h2 (by show ¬s.jH=true;rw[bR];decide)) (λh2=>h2.elim (λh3=>EK (show jB l hI hF s.hS=false from h3) (by rw[m];decide)) (λh3=>h1 h3))))
    exact IC
 case rest=>
 obtain⟨rfl,aE⟩:=hcut;replace D:=D.hG aE;replace aT:=aT.hG aE;replace z:=z.hG aE;replace hR:=hR.hG aE;replace I:=I.trans aE;replace hE:=hE.hG aE;replace W:=W.hG aE;clear aE
 cases hcb:me l hI hF s.p f.p with
 |true=>
  obtain⟨rfl,rfl⟩:=Prod.mk.inj (ak.out.trans (T_ hcb));clear hcb ak;exact Jb
 |false=>
 obtain⟨rfl,rfl⟩:=Prod.mk.inj (ak.out.trans (Q_ (by rw[hcb];decide)))
 have m:jB l hI hF s.hS=true:=by
  unfold me at hcb;have h1:=Hb hcb
  cases h2:jB l hI hF s.hS with
  |true=>rfl
  |false=>exact EK (.inr (.inl h2)) h1
 obtain⟨k,hk⟩:∃k:Nat,s.hS=k:=by
  unfold jB iA at m;simp only[ES]at m;have h2:=m.2;refine⟨s.hS.toNat,?_⟩;exact KJ
 have az:k<l.length:=by
  unfold jB iA at m;simp only[ES]at m;have h2:=m.2;exact KJ
 have V:l.getD k default=l[k]:=by simp[List.getD,M_ az]
 have aq:l[k].op=20:=by
  unfold jB iA at m;simp only[ES]at m;have h2:=m.2;rw[Q_ o_,hk,Fi,V]at h2
  simpa using h2
 have ap:=vO (aM k az);rw[V]at ap;have b9:=(ap.hI (.inr (.inr (.inr aq)))).1;have bV:=(ap.hI (.inr (.inr (.inr aq)))).2;have bQ:=h_ hk;clear hk aq V ap m hcb ak aM;have m3:wc.cell? (c_ d 3)=some (.slice s.h7.A s.h7.l.length s.h7.c):=(z.f_ 3).trans rfl
 go_upto_region 7 with(go_at_call 93;((with_reducible refine(wk s.h7.A s.h7.c s.h7.l _ (hs.h7.hG I) o_).mono ?_);rintro e T⟨aO,c4,rfl,cG,Z⟩;have m3:T.cell? (c_ d 3)=some (.slice s.h7.A s.h7.l.length s.h7.c):=((z.hG Z).f_ 3).trans rfl;have bj:=(z.hG Z).hH 3))
 have M:Gr [d] T (T.setCell (c_ d 3) (.slice aO s.h7.l.length c4)):=(F_ [d] T).setCell (.inl s_) _;have y:Bk (T.setCell (c_ d 3) (.slice aO s.h7.l.length c4)) d 40 ({s with h7:=⟨aO,c4,s.h7.l⟩}:Cm).g_:=(z.hG Z).hW 3 (.slice aO s.h7.l.length c4);have am:=ko (x:=d) cG ((z.hG Z).pN d_) M;replace D:=(D.hG Z).gr M (zu ao.1);replace aT:=(aT.hG Z).gr M (zu ao.2.1);replace hR:=(hR.hG Z).gr M (zu ao.2.2);replace hE:=(hE.hG Z).gr M (zu j);replace W:sp (T.setCell (c_ d 3) (.slice aO s.h7.l.length c4)) f:=(W.hG Z).iu (z.hG Z) d_ M;have br:w.heap.size<=wc.heap.size:=I.size;replace I:=(I.trans Z).jL M B;clear m3 bj z Z M cG;have z:=y;clear y;obtain⟨o,bG⟩:=nm_ (T.setCell (c_ d 3) (.slice aO s.h7.l.length c4));rw[<-bG]at z am D aT hR hE W I |-;clear bG;replace am:=Cz am br;have ai:o.cell? (c_ d 9)=some (i_ s.hM):=(z.f_ 9).trans rfl;have bH:=z.hH 9
 go_upto_region 8 with fail
 have M:Gr [d] o (o.setCell (c_ d 9) (i_ (s.hM+1))):=(F_ [d] o).setCell (.inl s_) _;have y:Bk (o.setCell (c_ d 9) (i_ (s.hM+1))) d 40 ({s with h7:=⟨aO,c4,s.h7.l⟩,hM:=s.hM+1}:Cm).g_:=z.hW 9 (i_ (s.hM+1));replace am:=ko (x:=d) am (z.pN d_) M;replace D:=D.gr M (zu ao.1);replace aT:=aT.gr M (zu ao.2.1);replace hR:=hR.gr M (zu ao.2.2);replace hE:=hE.gr M (zu j);replace W:sp (o.setCell (c_ d 9) (i_ (s.hM+1))) f:=W.iu z d_ M;replace I:=I.jL M B;clear ai bH z M br;have z:=y;clear y;obtain⟨aR,bl⟩:=nm_ (o.setCell (c_ d 9) (i_ (s.hM+1)));rw[<-bl]at z am D aT hR hE W I |-;clear bl;have aS:aR.cell? (c_ a2 0)=some (i_ f.h6):=(hE.f_ 0).trans rfl;have m0:aR.cell? (c_ d 0)=some (.slice s.h.A s.h.l.length s.h.c):=(z.f_ 0).trans rfl
 by_cases b0:f.h6=3
 .have bN:(f.h6==3)=true:=zu b0;have cM:Hid (ox l al s.p f.p={s.p with h:=mC l s.p.h s.hS (jt al s.jp),h7:=s.p.h7++[(⟨true,f.v.n,jt al s.jp⟩:Ac)],hM:=s.hM+1,hS:=s.hS+1,jp:=s.jp+1}):=h_ (by unfold ox;exact T_ b0);clear b0;have w0:=aT.f_ 0;have m2:aR.cell? (c_ d 2)=some (i_ s.jp):=(z.f_ 2).trans rfl
  go_upto_region 10 with(go_at_call 94;((with_reducible refine(xx aA ac al s.jp _ (ha.hG I) av).mono ?_);rintro e ax⟨rfl,aB⟩))
  replace D:=D.hG aB;replace aT:=aT.hG aB;replace z:=z.hG aB;replace hR:=hR.hG aB;replace I:=I.trans aB;replace hE:=hE.hG aB;replace W:=W.hG aB;replace am:=iK am aB;clear aB w0 m2 aS bN m0;have U:=D.f_ 0;have ad:=D.f_ 1;have ar:=D.f_ 2;have m0:ax.cell? (c_ d 0)=some (.slice s.h.A s.h.l.length s.h.c):=(z.f_ 0).trans rfl;have m1:ax.cell? (c_ d 1)=some (i_ (k:Int)):=(z.f_ 1).trans (ED (λn=>some (Value.int .i64 n)) bQ.out)
  go_upto_region 11 with(go_at_call 95;((with_reducible refine(we A c l hI hF s.h.A s.h.c s.h.l k (jt al s.jp) _ (h.hG I) hn (hs.h.hG I) o_ az b9 bV).mono ?_);unfold mf;rintro e aD⟨aI,aF,a,rfl,aU,dk,aN⟩;have aP:=h_ dk;clear dk;have m0:aD.cell? (c_ d 0)=some (.slice s.h.A s.h.l.length s.h.c):=((z.hG aN).f_ 0).trans rfl;have aW:=(z.hG aN).hH 0))
  have M:Gr [d] aD (aD.setCell (c_ d 0) (.slice aI a.length aF)):=(F_ [d] aD).setCell (.inl s_) _;have y:Bk (aD.setCell (c_ d 0) (.slice aI a.length aF)) d 40 ({s with h7:=⟨aO,c4,s.h7.l⟩,hM:=s.hM+1,h:=⟨aI,aF,a⟩}:Cm).g_:=(z.hG aN).hW 0 (.slice aI a.length aF);have aL:=aU.iu (z.hG aN) d_ d_ M;replace am:=ko (x:=d) (iK am aN) ((z.hG aN).pN d_) M;replace hR:=(hR.hG aN).gr M (zu ao.2.2);replace hE:=(hE.hG aN).gr M (zu j);replace I:=(I.trans aN).jL M B;clear m0 aW m1 U ad ar z M D aT W aU aN;have z:=y;clear y;obtain⟨Q,bL⟩:=nm_ (aD.setCell (c_ d 0) (.slice aI a.length aF));rw[<-bL]at aL am z hR hE I |-;clear bL;have m3:Q.cell? (c_ d 3)=some (.slice aO s.h7.l.length c4):=(z.f_ 3).trans rfl;have bS:Q.cell? (c_ a2 42)=some (i_ f.v.n):=(hE.f_ 42).trans rfl;have au:Gr [] Q (Q.alloc (.cells #[.bool true,i_ f.v.n,i_ (jt al s.jp)] 162)):=(F_ [] Q).alloc _;have aQ:Sl (Q.alloc (.cells #[.bool true,i_ f.v.n,i_ (jt al s.jp)] 162)) 162 3 (j_ Q.heap.size) 1 [.bool true,i_ f.v.n,i_ (jt al s.jp)]:=kN (s:=3) (P_ Q 162 #[.bool true,i_ f.v.n,i_ (jt al s.jp)]) rfl;have aY:=iK am au;have t:w.heap.size<=(Q.alloc (.cells #[.bool true,i_ f.v.n,i_ (jt al s.jp)] 162)).heap.size:=(I.trans au).size
  go_upto_region 12 with(at_builtin;refine iL _ rfl (.tmp 60) (.tmp 66) 36 rfl w.heap.size 162 bF _ 3 24 underlying36 bE bt a8 bo rfl d_ d_ aO s.h7.l.length c4 _ rfl aY _ 1 1 _ rfl aQ (by intro u hu;simp at hu;rcases hu with rfl|rfl|rfl<;>rfl) o_ t ?_;intro be aZ bq b6 R;have bT:=R.bk (z.hG au) d_;have m3:bq.cell? (c_ d 3)=some (.slice aO s.h7.l.length c4):=(bT.f_ 3).trans rfl;have bj:=bT.hH 3)
  have M:Gr [d] bq (bq.setCell (c_ d 3) (.slice be (s.h7.l.length+1) aZ)):=(F_ [d] bq).setCell (.inl s_) _
  have y:Bk (bq.setCell (c_ d 3) (.slice be (s.h7.l.length+1) aZ)) d 40 ({s with h7:=⟨be,aZ,s.h7.l++[(⟨true,f.v.n,jt al s.jp⟩:Ac)]⟩,hM:=s.hM+1,h:=⟨aI,aF,a⟩}:Cm).g_:=by
   rw[show({s with h7:=⟨be,aZ,s.h7.l++[(⟨true,f.v.n,jt al s.jp⟩:Ac)]⟩,hM:=s.hM+1,h:=⟨aI,aF,a⟩}:Cm).g_=({s with h7:=⟨aO,c4,s.h7.l⟩,hM:=s.hM+1,h:=⟨aI,aF,a⟩}:Cm).g_.setIfInBounds 3 (.slice be (s.h7.l.length+1) aZ) from(show({s with h7:=⟨be,aZ,s.h7.l++[(⟨true,f.v.n,jt al s.jp⟩:Ac)]⟩,hM:=s.hM+1,h:=⟨aI,aF,a⟩}:Cm).g_=({s with h7:=⟨aO,c4,s.h7.l⟩,hM:=s.hM+1,h:=⟨aI,aF,a⟩}:Cm).g_.setIfInBounds 3 (.slice be (s.h7.l++[(⟨true,f.v.n,jt al s.jp⟩:Ac)]).length aZ) from rfl).trans (ED (λn=>({s with h7:=⟨aO,c4,s.h7.l⟩,hM:=s.hM+1,h:=⟨aI,aF,a⟩}:Cm).g_.setIfInBounds 3 (.slice be n aZ)) (by rw[J_];rfl))];exact bT.hW 3 (.slice be (s.h7.l.length+1) aZ)
  have db:=ko (x:=d) b6 (bT.pN d_) M
  have i:lX (bq.setCell (c_ d 3) (.slice be (s.h7.l.length+1) aZ)) ({s with h7:=⟨be,aZ,s.h7.l++[(⟨true,f.v.n,jt al s.jp⟩:Ac)]⟩,hM:=s.hM+1,h:=⟨aI,aF,a⟩}:Cm):=by
   refine⟨(mj.mk (R.sl (aL.hG au).os d_) (R.Cx d_ (aL.hG au).kZ) aL.lW).iu bT d_ d_ M,?_,?_⟩
   .have q:=Sl.iT db
    show Sl (bq.setCell (c_ d 3) (.slice be (s.h7.l.length+1) aZ)) 162 3 be (s.h7.l++[(⟨true,f.v.n,jt al s.jp⟩:Ac)]).length ((s.h7.l++[(⟨true,f.v.n,jt al s.jp⟩:Ac)]).flatMap Ac.E)
    rw[EZ,Gs,show(s.h7.l++[(⟨true,f.v.n,jt al s.jp⟩:Ac)]).length=s.h7.l.length+1 by rw[J_];rfl];exact q
   .show(s.h7.l++[(⟨true,f.v.n,jt al s.jp⟩:Ac)]).length<=aZ
    rw[J_];exact jf db
  replace hR:=(R.bk (hR.hG au) d_).gr M (zu ao.2.2);replace I:=(R.gr [] w (H_ _) (I.trans au)).jL M B;clear m3 bj bS bT z M hE aL am b6 db R aY aQ au t;have z:=y;clear y;obtain⟨bu,bW⟩:=nm_ (bq.setCell (c_ d 3) (.slice be (s.h7.l.length+1) aZ));rw[<-bW]at i z hR I |-;clear bW;have m1:bu.cell? (c_ d 1)=some (i_ s.hS):=(z.f_ 1).trans rfl;have m2:bu.cell? (c_ d 2)=some (i_ s.jp):=(z.f_ 2).trans rfl;have bP:=z.hH 1;have bX:=z.hH 2;have M:Gr [d] bu ((bu.setCell (c_ d 1) (i_ (s.hS+1))).setCell (c_ d 2) (i_ (s.jp+1))):=((F_ [d] bu).setCell (p:=(c_ d 1)) (.inl s_) _).setCell (p:=(c_ d 2)) (.inl s_) _;have y:Bk ((bu.setCell (c_ d 1) (i_ (s.hS+1))).setCell (c_ d 2) (i_ (s.jp+1))) d 40 ({s with h7:=⟨be,aZ,s.h7.l++[(⟨true,f.v.n,jt al s.jp⟩:Ac)]⟩,hM:=s.hM+1,h:=⟨aI,aF,a⟩,hS:=s.hS+1,jp:=s.jp+1}:Cm).g_:=(z.hW 1 (i_ (s.hS+1))).hW 2 (i_ (s.jp+1));have Y:=hR.gr M (zu ao.2.2);have HA:Hid (ox l al s.p f.p=({s with h7:=⟨be,aZ,s.h7.l++[(⟨true,f.v.n,jt al s.jp⟩:Ac)]⟩,hM:=s.hM+1,h:=⟨aI,aF,a⟩,hS:=s.hS+1,jp:=s.jp+1}:Cm).p):=h_ (by rw[cM.out,bQ.out,show mC l s.p.h (k:Int) (jt al s.jp)=hY a from aP.out.symm,<-bQ.out];rfl)
  go_wp2_with (first|(refine kT y underlying40 ?_)|(refine kQ (({s with h7:=⟨be,aZ,s.h7.l++[(⟨true,f.v.n,jt al s.jp⟩:Ac)]⟩,hM:=s.hM+1,h:=⟨aI,aF,a⟩,hS:=s.hS+1,jp:=s.jp+1}:Cm).g_) Y (Cm.one _) ?_;intro X aw G))
  rw[HA.out];exact lT ({s with h7:=⟨be,aZ,s.h7.l++[(⟨true,f.v.n,jt al s.jp⟩:Ac)]⟩,hM:=s.hM+1,h:=⟨aI,aF,a⟩,hS:=s.hS+1,jp:=s.jp+1}:Cm).g_ (i_ 0) aw underlying40 ⟨({s with h7:=⟨be,aZ,s.h7.l++[(⟨true,f.v.n,jt al s.jp⟩:Ac)]⟩,hM:=s.hM+1,h:=⟨aI,aF,a⟩,hS:=s.hS+1,jp:=s.jp+1}:Cm),rfl,(lX.mk (s:=({s with h7:=⟨be,aZ,s.h7.l++[(⟨true,f.v.n,jt al s.jp⟩:Ac)]⟩,hM:=s.hM+1,h:=⟨aI,aF,a⟩,hS:=s.hS+1,jp:=s.jp+1}:Cm)) (i.h.iu z d_ d_ M) (Sl.iu i.h7 z d_ M) i.pE).iu Y d_ G,rfl,(I.jL M B).jL G bg⟩
 .have bN:(f.h6==3)=false:=zu b0;have cM:Hid (ox l al s.p f.p=if f.h6=2 then{s.p with h:=kY s.p.h f.p,hM:=s.hM+1,jH:=true,hZ:=f.hZ,v:=f.v} else{s.p with h:=kY s.p.h f.p,hM:=s.hM+1,hS:=f.pc}):=h_ (by unfold ox;exact Q_ b0);clear b0;have g:Gr [] aR aR:=F_ _ _
  go_upto_region 16 with(first|(refine kT hE underlying134 ?_)|(go_at_call 96;((with_reducible refine(wi s.h.A s.h.c s.h.l f _ (W.hG g) (hs.h.hG I) o_ (G_ cz.ws d_)).mono ?_);unfold mf;rintro e aD⟨aI,aF,a,rfl,aU,dk,aN⟩;have aP:=h_ dk;clear dk;have m0:aD.cell? (c_ d 0)=some (.slice s.h.A s.h.l.length s.h.c):=((z.hG aN).f_ 0).trans rfl;have aW:=(z.hG aN).hH 0)))
  have M:Gr [d] aD (aD.setCell (c_ d 0) (.slice aI a.length aF)):=(F_ [d] aD).setCell (.inl s_) _;have y:Bk (aD.setCell (c_ d 0) (.slice aI a.length aF)) d 40 ({s with h7:=⟨aO,c4,s.h7.l⟩,hM:=s.hM+1,h:=⟨aI,aF,a⟩}:Cm).g_:=(z.hG aN).hW 0 (.slice aI a.length aF);have i:lX (aD.setCell (c_ d 0) (.slice aI a.length aF)) ({s with h7:=⟨aO,c4,s.h7.l⟩,hM:=s.hM+1,h:=⟨aI,aF,a⟩}:Cm):=⟨aU.iu (z.hG aN) d_ d_ M,Sl.iu (Sl.iT (iK am aN)) (z.hG aN) d_ M,jf am⟩;replace hR:=(hR.hG aN).gr M (zu ao.2.2);replace hE:=(hE.hG aN).gr M (zu j);replace I:=(I.trans aN).jL M B;clear m0 aW z M aS bN D aT am W g aU aN;have z:=y;clear y;obtain⟨Q,bL⟩:=nm_ (aD.setCell (c_ d 0) (.slice aI a.length aF));rw[<-bL]at i z hR hE I |-;clear bL;have aS:Q.cell? (c_ a2 0)=some (i_ f.h6):=(hE.f_ 0).trans rfl
  by_cases aj:f.h6=2
  .have bI:(f.h6==2)=true:=zu aj;have HA:Hid (ox l al s.p f.p=({s with h7:=⟨aO,c4,s.h7.l⟩,hM:=s.hM+1,h:=⟨aI,aF,a⟩,jH:=true,hZ:=f.hZ,v:=f.v}:Cm).p):=h_ (by rw[cM.out,T_ aj,show kY s.p.h f.p=hY a from aP.out.symm];rfl);clear aj cM
   go_upto_region 17 with fail
   clear aS bI;refine hQ (λw'=>w'.cell? (c_ a2 40)=some (.bool f.hZ)/\w'.cell? (c_ a2 41)=some (.bool f.v.r)/\w'.cell? (c_ a2 42)=some (i_ f.v.n)) 10 k_ ?_;have V:Gr [] Q Q.drew:=(F_ [] Q).drew;replace i:=i.hG V;replace z:=z.hG V;replace hR:=hR.hG V;replace hE:=hE.hG V;replace I:=I.trans V;clear V;obtain⟨r,bK⟩:=nm_ Q.drew;rw[<-bK]at i z hR hE I |-;clear bK;have C:r.cell? (c_ a2 40)=some (.bool f.hZ)/\r.cell? (c_ a2 41)=some (.bool f.v.r)/\r.cell? (c_ a2 42)=some (i_ f.v.n):=⟨(hE.f_ 40).trans rfl,(hE.f_ 41).trans rfl,(hE.f_ 42).trans rfl⟩;have m4:r.cell? (c_ d 4)=some (.bool s.jH):=(z.f_ 4).trans rfl;have bi:r.cell? (c_ d 5)=some (.bool s.hZ):=(z.f_ 5).trans rfl;have ah:r.cell? (c_ d 6)=some (.bool s.v.r):=(z.f_ 6).trans rfl;have dq:r.cell? (c_ d 7)=some (i_ s.v.n):=(z.f_ 7).trans rfl;have bn:=z.hH 4;have bw:=z.hH 5;have bB:=z.hH 6;have bD:=z.hH 7
   iterate 5 refine jW C ?_
   refine h4 5 λK H=>?_
   go_simp;clear C
   refine h5 H ⟨((hE.ih (p:=(c_ d 4)) j (.bool true)).f_ 40).trans rfl,((hE.ih (p:=(c_ d 4)) j (.bool true)).f_ 41).trans rfl,((hE.ih (p:=(c_ d 4)) j (.bool true)).f_ 42).trans rfl⟩ λC=>?_
   clear H K;refine iP 6 C ?_
   refine h4 7 λK H=>?_
   go_simp;clear C
   refine h5 H ⟨(((hE.ih (p:=(c_ d 4)) j (.bool true)).ih (p:=(c_ d 5)) j (.bool f.hZ)).f_ 40).trans rfl,(((hE.ih (p:=(c_ d 4)) j (.bool true)).ih (p:=(c_ d 5)) j (.bool f.hZ)).f_ 41).trans rfl,(((hE.ih (p:=(c_ d 4)) j (.bool true)).ih (p:=(c_ d 5)) j (.bool f.hZ)).f_ 42).trans rfl⟩ λC=>?_
   clear H K;refine iP 8 C ?_
   refine h4 9 λK H=>?_
   go_simp;clear C
   refine h5 H ⟨(((((hE.ih (p:=(c_ d 4)) j (.bool true)).ih (p:=(c_ d 5)) j (.bool f.hZ)).ih (p:=(c_ d 6)) j (.bool f.v.r)).ih (p:=(c_ d 7)) j (i_ f.v.n)).f_ 40).trans rfl,(((((hE.ih (p:=(c_ d 4)) j (.bool true)).ih (p:=(c_ d 5)) j (.bool f.hZ)).ih (p:=(c_ d 6)) j (.bool f.v.r)).ih (p:=(c_ d 7)) j (i_ f.v.n)).f_ 41).trans rfl,(((((hE.ih (p:=(c_ d 4)) j (.bool true)).ih (p:=(c_ d 5)) j (.bool f.hZ)).ih (p:=(c_ d 6)) j (.bool f.v.r)).ih (p:=(c_ d 7)) j (i_ f.v.n)).f_ 42).trans rfl⟩ λC=>?_
   clear H K;have M:Gr [d] r ((((r.setCell (c_ d 4) (.bool true)).setCell (c_ d 5) (.bool f.hZ)).setCell (c_ d 6) (.bool f.v.r)).setCell (c_ d 7) (i_ f.v.n)):=((((F_ [d] r).setCell (p:=(c_ d 4)) (.inl s_) _).setCell (p:=(c_ d 5)) (.inl s_) _).setCell (p:=(c_ d 6)) (.inl s_) _).setCell (p:=(c_ d 7)) (.inl s_) _;have y:Bk ((((r.setCell (c_ d 4) (.bool true)).setCell (c_ d 5) (.bool f.hZ)).setCell (c_ d 6) (.bool f.v.r)).setCell (c_ d 7) (i_ f.v.n)) d 40 ({s with h7:=⟨aO,c4,s.h7.l⟩,hM:=s.hM+1,h:=⟨aI,aF,a⟩,jH:=true,hZ:=f.hZ,v:=f.v}:Cm).g_:=(((z.hW 4 (.bool true)).hW 5 (.bool f.hZ)).hW 6 (.bool f.v.r)).hW 7 (i_ f.v.n);have Y:=hR.gr M (zu ao.2.2);clear m4 bi ah dq bn bw bB bD C;refine hN k_ ?_ _
   go_wp2_with (first|(refine kT y underlying40 ?_)|(refine kQ (({s with h7:=⟨aO,c4,s.h7.l⟩,hM:=s.hM+1,h:=⟨aI,aF,a⟩,jH:=true,hZ:=f.hZ,v:=f.v}:Cm).g_) Y (Cm.one _) ?_;intro X aw G))
   rw[HA.out];exact lT ({s with h7:=⟨aO,c4,s.h7.l⟩,hM:=s.hM+1,h:=⟨aI,aF,a⟩,jH:=true,hZ:=f.hZ,v:=f.v}:Cm).g_ (i_ 0) aw underlying40 ⟨({s with h7:=⟨aO,c4,s.h7.l⟩,hM:=s.hM+1,h:=⟨aI,aF,a⟩,jH:=true,hZ:=f.hZ,v:=f.v}:Cm),rfl,(lX.mk (s:=({s with h7:=⟨aO,c4,s.h7.l⟩,hM:=s.hM+1,h:=⟨aI,aF,a⟩,jH:=true,hZ:=f.hZ,v:=f.v}:Cm)) (i.h.iu z d_ d_ M) (Sl.iu i.h7 z d_ M) i.pE).iu Y d_ G,rfl,(I.jL M B).jL G bg⟩
  .have bI:(f.h6==2)=false:=zu aj;have HA:Hid (ox l al s.p f.p=({s with h7:=⟨aO,c4,s.h7.l⟩,hM:=s.hM+1,h:=⟨aI,aF,a⟩,hS:=f.pc}:Cm).p):=h_ (by rw[cM.out,Q_ aj,show kY s.p.h f.p=hY a from aP.out.symm];rfl);clear aj cM;have aJ:Q.cell? (c_ a2 1)=some (i_ f.pc):=(hE.f_ 1).trans rfl;have m1:Q.cell? (c_ d 1)=some (i_ s.hS):=(z.f_ 1).trans rfl;have bP:=z.hH 1;have M:Gr [d] Q (Q.setCell (c_ d 1) (i_ f.pc)):=(F_ [d] Q).setCell (.inl s_) _;have y:Bk (Q.setCell (c_ d 1) (i_ f.pc)) d 40 ({s with h7:=⟨aO,c4,s.h7.l⟩,hM:=s.hM+1,h:=⟨aI,aF,a⟩,hS:=f.pc}:Cm).g_:=z.hW 1 (i_ f.pc);have Y:=hR.gr M (zu ao.2.2)
   go_wp2_with (first|(refine kT y underlying40 ?_)|(refine kQ (({s with h7:=⟨aO,c4,s.h7.l⟩,hM:=s.hM+1,h:=⟨aI,aF,a⟩,hS:=f.pc}:Cm).g_) Y (Cm.one _) ?_;intro X aw G))
   rw[HA.out];exact lT ({s with h7:=⟨aO,c4,s.h7.l⟩,hM:=s.hM+1,h:=⟨aI,aF,a⟩,hS:=f.pc}:Cm).g_ (i_ 0) aw underlying40 ⟨({s with h7:=⟨aO,c4,s.h7.l⟩,hM:=s.hM+1,h:=⟨aI,aF,a⟩,hS:=f.pc}:Cm),rfl,(lX.mk (s:=({s with h7:=⟨aO,c4,s.h7.l⟩,hM:=s.hM+1,h:=⟨aI,aF,a⟩,hS:=f.pc}:Cm)) (i.h.iu z d_ d_ M) (Sl.iu i.h7 z d_ M) i.pE).iu Y d_ G,rfl,(I.jL M B).jL G bg⟩
end Go.Proofs.YtenbhdilndfaeaaGreat
