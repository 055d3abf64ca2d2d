import Derived.Test.YtenbhdilndfaeaaGreatR28
set_option maxRecDepth 100000
set_option maxHeartbeats 0
set_option linter.all false
namespace Go.Proofs.YtenbhdilndfaeaaGreat
open Go.RowKit Go.Proofs.Tryz
variable{G:Prop}(A:OA)(c:Nat)(l:List In)(hq g9:Int)(U:OA)(hc:Nat)(h:List Ob)(hl:List Rw)(pc:Int)(s:Cm)(t:Tk)
def IZ(h:G:=by
 clear ad
 go_wp2_with (first|((go_at_call 92;have ag:=iP A c l hq g9 (h.g_ MR) hn;rw[hv]at ag;refine ag.mono ?_;rintro e w1⟨rfl,hg1⟩);replace hR:=hR.g_ hg1;replace MR:=MR.trans hg1)|(refine kZ (Cm.zero.g8) hR (Cm.one _) ?_;intro ae ax G))
 all_goals exact l5 Cm.zero.g8 (Y 1) ax underlying40 ⟨Cm.zero,rfl,l9.zero _ _ rfl rfl,rfl,MR.jE G bz⟩):G:=h
def Jl(h:G:=by
 clear aS
 go_wp2_with (go_at_call 83;have ag:=lA A c l hq g9 s.hG (h.g_ MR) hn;rw[g]at ag;refine ag.mono ?_;rintro e T⟨rfl,af⟩;have e0:T.cell? (Z a2 0)=some (Y f.hS):=((hE.g_ af).f_ 0).trans rfl)
 go_meet;exact⟨i9 aV.out.symm,af⟩):G:=h
def JS(h:G:=by
 clear C
 refine hX MT ⟨(z.g_ h).f_ 0,(E.g_ h).f_ 1,(D.g_ h).f_ 0,(h).f_ jQ s_⟩ λC=>?_
 clear MT K;refine iH 18 C ?_;refine hC k_ ?_ _;go_wp2;go_meet;exact⟨_,rfl,rfl,h⟩):G:=h
def JU(h:G:=by
 go_wp2_with (refine kZ (Cm.zero.g8) hR (Cm.one _) ?_;intro ae ax G)
 all_goals exact l5 Cm.zero.g8 (Y 7) ax underlying40 ⟨Cm.zero,rfl,l9.zero _ _ rfl rfl,rfl,MR.jE G bz⟩):G:=h
def KJ(h:G:=by
 go_roundw
 case rel=>exact⟨k+1,X,gn,by rw[E.out,aW.out],Q.g_ av,z.g_ av,MP.g_ av,F.trans av⟩
 case measure=>exact mz):G:=h
def Lg(h:G:=by
 all_goals go_ret
 all_goals rw[ap.out]
 all_goals exact⟨rfl,((F.trans aM).trans S).alloc _⟩):G:=h
def LE(h:G:=by
 by_cases h3:s.hG<0∨(l.length:Int)<=s.hG
 .rw[O_ h3]at h2
  cases h2
 .omega):G:=h
def Mk(h:G:=by
 rw[aS]at m4;clear aS;exact Mu):G:=h
section
open Go.RowKit Go.Maps
def qG{d:Type}{P:Program}{e:TypeId}(g:P.underlying e=some .bool){v:Value}{a:DataW d × List MemPlace}(h:plainElem P e v=some a):∃x,v=.bool x/\a=(.lit (.bool x),[]):=by
 unfold plainElem at h;rw[g]at h
 cases v<;>simp at h
 exact⟨_,rfl,h.symm⟩
def Aj(w:World):(zeroValue 4).run prog w=.ok (.bool false) w:=by kernel_rfl
def Bm(w:World)(b n:Nat)(f:Int->Bool):Prop:=
 ∃D:DataW Unit,w.ownsMap prog 2 (plainElem prog 4) b n D/\IsMap D/\∀id:Int,(Lit.int .i64 id).wf=true->D.atKey (.int .i64 id) (.lit (.bool false))=.lit (.bool (f id))
section
variable{w w':World}{b n:Nat}{f:Int->Bool}
def Bm.made(w:World):Bm (w.alloc (.map #[] 0)) w.heap.size 0 (λ_=>false):=
 ⟨.map [],World.ownsMap_made w _ _ _,⟨[],rfl⟩,λid _=>rfl⟩
def Bm.lt(h:Bm w b n f):b<w.heap.size:=by obtain⟨d,a,_⟩:=h;exact a.lt
def Bm.iy(h:Bm w b n f)(hb:w'.heap[b]?=w.heap[b]?):Bm w' b n f:=LH
def Bm.g_(h:Bm w b n f)(a:J [] w w'):Bm w' b n f:=h.iy (a.block b h.lt s_)
def Bm.congr{g:Int->Bool}(h:Bm w b n f)(d:∀i,f i=g i):Bm w b n g:=by
 have a:f=g:=funext d;rw[<-a];exact h
def Bm.Bq{g:Nat}{t:TypeId}{cs:Array Value}(h:Bm w b n f)(d:Bk w g t cs):g≠b:=by
 rintro rfl;obtain⟨e,⟨j,i,a,k⟩,m⟩:=h;unfold Bk at d;rw[d]at a
 cases a
def Bm.lookup(h:Bm w b n f){id:Int}(d:(Lit.int .i64 id).wf=true):(Instr.lookup 105 (.map (some b)) (.int .i64 id) false).run prog w=.ok (.bool (f id)) w:=by
 obtain⟨o,i,p,j⟩:=h;obtain⟨r,q,e,k⟩:=i.lookup (int_keyed underlying2) underlying105 (Aj w) (plainElem_bool underlying4 false) (keyOf_int_mk underlying2 d);obtain⟨u,rfl,m⟩:=qG underlying4 k;have a:=FN Prod.fst m;simp only at a;rw[j id d]at a;have g:=Lit.bool.inj (DataW.lit.inj a);rw[g];exact e
def Bm.update(h:Bm w b n f)(p:n<maxLen){id:Int}{v:Bool}(g:(Lit.int .i64 id).wf=true):
 ∃w',(Instr.mapUpdate 105 (.map (some b)) (.int .i64 id) (.bool v)).run prog w=.ok () w'/\Bm w' b (n+1) (λi=>if i=id then v else f i)/\w.grownBy w' (some b):=by
 obtain⟨q,o,a,h3⟩:=h;obtain⟨w',d,j,m⟩:=o.update (int_keyed underlying2) underlying105 p (keyOf_int_mk underlying2 g) (plainElem_bool underlying4 v);refine⟨w',d,⟨_,j,a.put _ _,λi hi=>?_⟩,m⟩
 by_cases he:i=id
 .subst he
  show _=DataW.lit (.bool (if i=i then v else f i))
  rw[O_ rfl];exact atKey_put_same (k:=.int .i64 i) a trivial _ _
 .show _=DataW.lit (.bool (if i=id then v else f i))
  exact Lz
end
def uz(h:List Ob)(d:Dl):Bool:=match h6 h d.id d.f with
 |none=>true
 |some v=>v.r
def tQ(h:List Ob)(o:Ob):Bool:=(iU h o.id).isSome
def wN(nw:List Ob)(id:Int):Bool:=iS (λo:Ob=>o.id==id) nw
def y5(h nw:List Ob)(c:Cl):Bool:=(h6 h c.id c.f).isNone&& !(wN nw c.id)
def ou(h:List Ob)(t:i6):Int:=
 if t.hT≠2/\t.hT≠3 then 7 else
 if(kK h t.rs).isSome=true then 14 else
 if iS (uz h) t.ds=true then 14 else
 if iS (tQ h) t.nw=true then 9 else
 if iS (y5 h t.nw) t.ws=true then 9 else 0
def zM{nw:List Ob}{k:Nat}(d:k<nw.length)(i:Int):wN (nw.take (k+1)) i=(if i=nw[k].id then true else wN (nw.take k) i):=by
 unfold wN iS;rw[X_ d,List.any_append];simp only[HS,List.any_nil,Bool.or_false]
 by_cases h:i=nw[k].id
 .rw[O_ h,h];simp
 .rw[I_ h]
  have:(nw[k].id==i)=false:=by simpa using λa=>h a.symm
  rw[this,Bool.or_false]
def sB{w:World}(j:mB w U hc hl)(D:hl.length<=1000000000)(Y:ln w t)(ao:t.p.sm 500000)(aX:∀r∈t.nw.l,lk r.o.id)(aL:∀c∈t.ws.l,lk c.id):
 Calls prog 100 #[.agg #[.slice U hl.length hc],.agg t.g8] w λe w'=>e=.returned (.int .i64 (ou (hU hl) t.p))/\J [] w w':=by
 have MM:t.rs.l.length<=1000000000:=G_ ao.rs I;have bD:t.ds.l.length<=1000000000:=G_ ao.ds I;have bF:t.ws.l.length<=1000000000:=G_ ao.ws I
 have bE:t.nw.l.length<=1000000:=by have:=ao.nw;have e:t.p.nw.length=t.nw.l.length:=hZ _;omega
 obtain⟨C,hP⟩:=mn_ (ou (hU hl) t.p);rw[hP];have aQ:=O hP;clear hP;obtain⟨z,MP,B⟩:=qL w 35 #[.slice U hl.length hc] 53 t.g8
 go_enter func100,ntmps100
 go_upto_region 1 with fail
 obtain⟨bj,bh⟩:=nm_ ((w.alloc (.cells #[.slice U hl.length hc] 35)).alloc (.cells t.g8 53));rw[<-bh]at z MP B |-;clear bh;obtain⟨aU,al⟩:=nm_ w.heap.size;obtain⟨gt,an⟩:=nm_ (w.heap.size+1);rw[<-an]at MP;rw[<-al]at z;rw[<-an,<-al];clear an al;have ca:bj.cell? (Z gt 42)=some (.int .i64 t.hT):=(MP.f_ 42).trans rfl;have W:=z.f_ 0;have bC:=MP.f_ 37
 by_cases K:t.hT≠2/\t.hT≠3
 .have ap:Hid (C=7):=O (by rw[<-aQ.out];unfold ou;exact O_ K);have q2:(t.hT !=2)=true:=zu K.1;have q3:(t.hT !=3)=true:=zu K.2;clear K;go_wp2;go_ret;rw[ap.out];exact⟨rfl,B⟩
 have bJ:Hid (C=if(kK (hU hl) t.rs.l).isSome=true then 14 else if iS (uz (hU hl)) t.ds.l=true then 14 else if iS (tQ (hU hl)) (hU t.nw.l)=true then 9 else if iS (y5 (hU hl) (hU t.nw.l)) t.ws.l=true then 9 else 0):=O (by rw[<-aQ.out];unfold ou;exact I_ K);clear aQ
 have bv:∀(q:Prop),q->q:=λ_ h=>h
 clear bv
 go_cut [27] (λb a6=>b=.bool false/\a6=bj)
 case first=>
  by_cases d:t.hT=2
  .have q2:(t.hT !=2)=false:=by simp[d]
   clear K d;go_wp2;go_meet;exact⟨rfl,rfl⟩
  .have g:t.hT=3:=by
    by_cases g:t.hT=3
    .exact g
    .exact U_ ⟨d,g⟩ K
   have q2:(t.hT !=2)=true:=zu d
   have q3:(t.hT !=3)=false:=by simp[g]
   clear K d g;go_wp2;go_meet;exact⟨rfl,rfl⟩
 case rest=>
 obtain⟨rfl,dR⟩:=hcut;subst wc;clear K
 have bA:∀aA,aA<48->bj.cell? (Z gt (0+aA))=t.g8[aA]?:=λaA _=>by rw[W_];exact MP.f_ aA
 cases L:(kK (hU hl) t.rs.l).isSome with
 |true=>
  have aN:(kK (hU hl) t.rs.l).isNone=false:=by cases h:kK (hU hl) t.rs.l with|none=>rw[h]at L;cases L|some _=>rfl
  have ap:Hid (C=14):=O (by rw[bJ.out,O_ L]);clear L
  go_wp2_with (first|(refine k5 MP underlying53 ?_)|(go_at_call 150;((with_reducible refine(su U hc hl t (j.g_ B) D (Y.g_ B) MM).mono ?_);rw[aN];rintro e a⟨aZ,aK,aR,aO,rfl,S⟩)))
  all_goals go_ret
  all_goals rw[ap.out]
  all_goals exact⟨rfl,(B.trans S).alloc _⟩
 |false=>
  have aN:(kK (hU hl) t.rs.l).isNone=true:=by cases h:kK (hU hl) t.rs.l with|none=>rfl|some _=>rw[h]at L;cases L
  have au:Hid (C=if iS (uz (hU hl)) t.ds.l=true then 14 else if iS (tQ (hU hl)) (hU t.nw.l)=true then 9 else if iS (y5 (hU hl) (hU t.nw.l)) t.ws.l=true then 9 else 0):=O (by rw[bJ.out,I_ (by rw[L];decide)]);clear L bJ
  go_upto_region 6 with(first|(refine k5 MP underlying53 ?_)|(go_at_call 150;((with_reducible refine(su U hc hl t (j.g_ B) D (Y.g_ B) MM).mono ?_);rw[aN];rintro e a⟨aZ,aK,aR,aO,rfl,S⟩)))
  have aE:J [] bj (a.alloc (.cells #[.int .i64 aZ,.int .i64 aK,.bool aR,.int .i64 aO] 116)):=S.alloc _;replace z:=z.g_ aE;replace MP:=MP.g_ aE;replace B:=B.trans aE;clear aE S W ca bC bA;obtain⟨bd,bk⟩:=nm_ (a.alloc (.cells #[.int .i64 aZ,.int .i64 aK,.bool aR,.int .i64 aO] 116));rw[<-bk]at z MP B |-;clear bk;have aS:bd.cell? (Z gt 40)=some (.slice t.ds.A t.ds.l.length t.ds.c):=(MP.f_ 40).trans rfl;go_wp2
  go_loopw [39] (λu wr=>∃k:Nat,k<=t.ds.l.length/\u=.int .i64 k/\iS (uz (hU hl)) t.ds.l=iS (uz (hU hl)) (t.ds.l.drop k)/\Bk wr aU 35 #[.slice U hl.length hc]/\Bk wr gt 53 t.g8/\J [] w wr) (λu _=>t.ds.l.length-(intOf u).toNat)
  case atStart=>exact⟨0,P_ _,rfl,rfl,z,MP,B⟩
  case round=>
   clear z MP B aS;obtain⟨k,hk,rfl,G,z,MP,F⟩:=hrel;have E:=O G;clear G
   by_cases y:k<t.ds.l.length
   .have M:(k:Int)<(t.ds.l.length:Int):=X;obtain⟨b,off,aG,bm,bu,bH,bM,aY⟩:=(Y.ds.g_ F).at_ y;rw[aG];have N:=O (pm (p:=uz (hU hl)) y);have s:=O (oO (p:=uz (hU hl)) y);generalize t.ds.l[k]=br at*;obtain⟨R,P,V,bi,aV⟩:=br;simp only at bm bu bH bM aY;have aM:J [] wr (wr.alloc (.cells #[.int .i64 R,.int .i64 P,.int .i64 V,.bool bi,.int .i64 aV] 124)):=(H [] wr).alloc _;have x:=Q_ wr 124 #[.int .i64 R,.int .i64 P,.int .i64 V,.bool bi,.int .i64 aV];have a2:=x.f_ 0;have bp:=x.f_ 1;have W:=(z.g_ aM).f_ 0
    cases g:h6 (hU hl) R P with
    |none=>
     have ap:Hid (C=14):=O (by rw[au.out,E.out,N.out (by unfold uz;simp only[g]),O_ rfl])
     go_wp2_with (go_at_call 148;have m:=qh U hc hl R P (j.g_ (F.trans aM)).os (j.g_ (F.trans aM)).lD D g;refine m.mono ?_;rintro e a⟨rfl,S⟩;have i:=Q_ a 38 #[.bool false,.int .i64 0];have bg:=i.f_ 0;have o1:=i.f_ 1;have aT:=(x.g_ (S.alloc (.cells #[.bool false,.int .i64 0] 38))).f_ 0)
     exact Lg
    |some d=>
     cases T:d.r with
     |true=>
      have ap:Hid (C=14):=O (by rw[au.out,E.out,N.out (by unfold uz;simp only[g];exact T),O_ rfl])
      go_wp2_with (go_at_call 148;have m:=oD U hc hl R P d (j.g_ (F.trans aM)).os (j.g_ (F.trans aM)).lD D g;refine m.mono ?_;rintro e a⟨rfl,S⟩;have i:=Q_ a 38 #[.bool d.r,.int .i64 d.n];have bg:=(i.f_ 0).trans (FN (λq=>some (Value.bool q)) T);have o1:=i.f_ 1;have aT:=(x.g_ (S.alloc (.cells #[.bool d.r,.int .i64 d.n] 38))).f_ 0)
      exact Lg
     |false=>
      have aW:=O (s.out (by unfold uz;simp only[g];exact T))
      go_wp2_with (go_at_call 148;have m:=oD U hc hl R P d (j.g_ (F.trans aM)).os (j.g_ (F.trans aM)).lD D g;refine m.mono ?_;rintro e a⟨rfl,S⟩;have i:=Q_ a 38 #[.bool d.r,.int .i64 d.n];have bg:=(i.f_ 0).trans (FN (λq=>some (Value.bool q)) T);have o1:=i.f_ 1;have aT:=(x.g_ (S.alloc (.cells #[.bool d.r,.int .i64 d.n] 38))).f_ 0)
      have av:J [] wr (a.alloc (.cells #[.bool false,.int .i64 d.n] 38)):=(aM.trans S).alloc _;go_roundw
      case rel=>exact⟨k+1,X,gn,by rw[E.out,aW.out],z.g_ av,MP.g_ av,F.trans av⟩
      case measure=>exact mz
   .have M:¬(k:Int)<(t.ds.l.length:Int):=X;have am:Hid (C=if iS (tQ (hU hl)) (hU t.nw.l)=true then 9 else if iS (y5 (hU hl) (hU t.nw.l)) t.ws.l=true then 9 else 0):=O (by rw[au.out,E.out,rA X,I_ I]);clear au E y;have aq:wr.cell? (Z gt 39)=some (.slice t.nw.A t.nw.l.length t.nw.c):=(MP.f_ 39).trans rfl;have ay:= @run_makeMap prog;have aI:=Bm.made wr;have bl:w.heap.size<=wr.heap.size:=F.size;have bt:J [] wr (wr.alloc (.map #[] 0)):=(H [] wr).alloc _;replace z:=z.g_ bt;replace MP:=MP.g_ bt;have l:=F.trans bt
    go_upto_region 14 with fail
    clear M aq ay F bt;obtain⟨bf,aw⟩:=nm_ (wr.alloc (.map #[] 0));rw[<-aw]at z MP aI l |-;clear aw;generalize wr.heap.size=T at*;have aq:bf.cell? (Z gt 39)=some (.slice t.nw.A t.nw.l.length t.nw.c):=(MP.f_ 39).trans rfl;have bx:w.heap.size<=T:=bl;clear bl;go_wp2
    go_loopw [63] (λu wr=>∃k:Nat,k<=t.nw.l.length/\u=.int .i64 k/\iS (tQ (hU hl)) (hU t.nw.l)=iS (tQ (hU hl)) ((hU t.nw.l).drop k)/\Bm wr T k (wN ((hU t.nw.l).take k))/\Bk wr aU 35 #[.slice U hl.length hc]/\Bk wr gt 53 t.g8/\J [] w wr) (λu _=>t.nw.l.length-(intOf u).toNat)
    case atStart=>exact⟨0,P_ _,rfl,rfl,aI.congr (λu=>rfl),z,MP,l⟩
    case round=>
     clear z MP l aq aI;obtain⟨k,hk,rfl,G,Q,z,MP,F⟩:=hrel;have E:=O G;clear G
     by_cases y:k<t.nw.l.length
     .have M:(k:Int)<(t.nw.l.length:Int):=X
      have ak:k<(hU t.nw.l).length:=by rw[hZ];exact y
      obtain⟨b,off,aG,bm,bu⟩:=(Y.nw.g_ F).at_ y;rw[aG]
      have A:(hU t.nw.l)[k]=t.nw.l[k].o:=by simp[hU]
      have N:=O (pm (p:=tQ (hU hl)) ak);have s:=O (oO (p:=tQ (hU hl)) ak);have bK:=O (zM ak);rw[A]at N s bK;have V:=aX t.nw.l[k] (M_ y);clear A;generalize t.nw.l[k]=r at*;have aM:J [] wr (wr.alloc (.cells #[.int .i64 r.o.id,.slice r.A r.o.fs.length r.c] 56)):=(H [] wr).alloc _;have x:=Q_ wr 56 #[.int .i64 r.o.id,.slice r.A r.o.fs.length r.c];have a2:=x.f_ 0;have W:=(z.g_ aM).f_ 0
      cases g:iU (hU hl) r.o.id with
      |some o=>
       have ap:Hid (C=9):=O (by rw[am.out,E.out,N.out (by unfold tQ;rw[g];rfl),O_ rfl])
       go_wp2_with (go_at_call 14;have m:=get_some U hc hl r.o.id o _ (j.g_ (F.trans aM)).os (j.g_ (F.trans aM)).lD D g;refine m.mono ?_;rintro e a⟨P,c5,rfl,R,S⟩)
       exact Lg
      |none=>
       have aW:=O (s.out (by unfold tQ;rw[g];rfl))
       go_upto_region 20 with(go_at_call 14;have m:=get_none U hc hl r.o.id _ (j.g_ (F.trans aM)).os D g;refine m.mono ?_;rintro e a⟨rfl,S⟩)
       have av:J [] wr (a.alloc (.cells #[.int .i64 0,n_] 56)):=(aM.trans S).alloc _;have P:=Q.g_ av;have R:=z.g_ av;have bG:=MP.g_ av;have bP:=F.trans av;have bw:=(x.g_ (S.alloc (.cells #[.int .i64 0,n_] 56))).f_ 0;clear a2 W;obtain⟨bI,aF⟩:=nm_ (a.alloc (.cells #[.int .i64 0,n_] 56));rw[<-aF]at P R bG bP bw |-;clear aF;obtain⟨ad,MT,bB,bz⟩:=P.update (show k<maxLen by simp only[maxLen];omega) (v:=true) V;go_wp2;have af:J [T] bI ad:=(H [T] bI).grown bz (λq bL=>by injection bL with bL;subst bL;exact .inl s_);go_roundw
       case rel=>exact⟨k+1,X,gn,by rw[E.out,aW.out],bB.congr (λu=>(bK.out u).symm),R.gr af (zu (P.Bq R)),bG.gr af (zu (P.Bq bG)),bP.jE af bx⟩
       case measure=>exact mz
     .have M:¬(k:Int)<(t.nw.l.length:Int):=X;have be:Hid (C=if iS (y5 (hU hl) (hU t.nw.l)) t.ws.l=true then 9 else 0):=O (by rw[am.out,E.out,rA (by rw[hZ];omega),I_ I]);have aD:Bm wr T k (wN (hU t.nw.l)):=Q.congr (λu=>by rw[FK (by rw[hZ];omega)]);clear am E y Q;have bn:wr.cell? (Z gt 38)=some (.slice t.ws.A t.ws.l.length t.ws.c):=(MP.f_ 38).trans rfl;obtain⟨m0,bN⟩:=nm_ k;rw[<-bN]at aD;obtain⟨bo,MS⟩:=nm_ wr;rw[<-MS]at aD z MP F bn |-;clear MS;go_wp2;clear M hk bN
      go_loopw [82] (λu wr=>∃k:Nat,k<=t.ws.l.length/\u=.int .i64 k/\iS (y5 (hU hl) (hU t.nw.l)) t.ws.l=iS (y5 (hU hl) (hU t.nw.l)) (t.ws.l.drop k)/\Bm wr T m0 (wN (hU t.nw.l))/\Bk wr aU 35 #[.slice U hl.length hc]/\Bk wr gt 53 t.g8/\J [] w wr) (λu _=>t.ws.l.length-(intOf u).toNat)
      case atStart=>exact⟨0,P_ _,rfl,rfl,aD,z,MP,F⟩
      case round=>
       clear z MP F bn aD;obtain⟨k,hk,rfl,G,Q,z,MP,F⟩:=hrel;have E:=O G;clear G
       by_cases y:k<t.ws.l.length
       .have M:(k:Int)<(t.ws.l.length:Int):=X;obtain⟨b,off,aG,bm,bu,bH,bM⟩:=(Y.ws.g_ F).at_ y;rw[aG];have N:=O (pm (p:=y5 (hU hl) (hU t.nw.l)) y);have s:=O (oO (p:=y5 (hU hl) (hU t.nw.l)) y);have V:=aL t.ws.l[k] (M_ y);generalize t.ws.l[k]=br at*;obtain⟨P,R,xr,bR⟩:=br;simp only at bm bu bH bM V;have aM:J [] wr (wr.alloc (.cells #[.int .i64 P,.int .i64 R,.bool xr,.int .i64 bR] 116)):=(H [] wr).alloc _;have x:=Q_ wr 116 #[.int .i64 P,.int .i64 R,.bool xr,.int .i64 bR];have a2:=x.f_ 0;have bp:=x.f_ 1;have W:=(z.g_ aM).f_ 0
        cases g:h6 (hU hl) P R with
        |some d=>
         have aW:=O (s.out (by unfold y5;simp only[g];rfl))
         go_wp2_with (go_at_call 148;have m:=oD U hc hl P R d (j.g_ (F.trans aM)).os (j.g_ (F.trans aM)).lD D g;refine m.mono ?_;rintro e a⟨rfl,S⟩;have i:=Q_ a 38 #[.bool d.r,.int .i64 d.n];have bg:=i.f_ 0;have o1:=i.f_ 1;have aT:=(x.g_ (S.alloc (.cells #[.bool d.r,.int .i64 d.n] 38))).f_ 0)
         have av:J [] wr (a.alloc (.cells #[.bool d.r,.int .i64 d.n] 38)):=(aM.trans S).alloc _;exact KJ
        |none=>
         cases aB:wN (hU t.nw.l) P with
         |true=>
          have aW:=O (s.out (by unfold y5;simp only[g,aB];rfl))
          go_wp2_with (go_at_call 148;have m:=qh U hc hl P R (j.g_ (F.trans aM)).os (j.g_ (F.trans aM)).lD D g;refine m.mono ?_;rintro e a⟨rfl,S⟩;have i:=Q_ a 38 #[.bool false,.int .i64 0];have bg:=i.f_ 0;have o1:=i.f_ 1;have aT:=(x.g_ (S.alloc (.cells #[.bool false,.int .i64 0] 38))).f_ 0;have av:J [] wr (a.alloc (.cells #[.bool false,.int .i64 0] 38)):=(aM.trans S).alloc _;have bQ:=(Q.g_ av).lookup V;rw[aB]at bQ)
          exact KJ
         |false=>
          have ap:Hid (C=9):=O (by rw[be.out,E.out,N.out (by unfold y5;simp only[g,aB];rfl),O_ rfl])
          go_wp2_with (go_at_call 148;have m:=qh U hc hl P R (j.g_ (F.trans aM)).os (j.g_ (F.trans aM)).lD D g;refine m.mono ?_;rintro e a⟨rfl,S⟩;have i:=Q_ a 38 #[.bool false,.int .i64 0];have bg:=i.f_ 0;have o1:=i.f_ 1;have aT:=(x.g_ (S.alloc (.cells #[.bool false,.int .i64 0] 38))).f_ 0;have av:J [] wr (a.alloc (.cells #[.bool false,.int .i64 0] 38)):=(aM.trans S).alloc _;have bQ:=(Q.g_ av).lookup V;rw[aB]at bQ)
          all_goals go_ret
          all_goals rw[ap.out]
          all_goals exact⟨rfl,F.trans av⟩
       .have M:¬(k:Int)<(t.ws.l.length:Int):=X;have ap:Hid (C=0):=O (by rw[be.out,E.out,rA X,I_ I]);go_wp2;go_ret;rw[ap.out];exact⟨rfl,F⟩
end
def ko(s:qs)(t:i6):qs:=
 if t.hT=2 then{s with h:=la s.h t,hW:=s.hW++t.hW,iN:=s.iN+1,hw:=s.hw+t.hw,hG:=t.next}
 else{s with h:=la s.h t,hW:=s.hW++t.hW,iN:=s.iN+1,hw:=s.hw+t.hw,jt:=true,hO:=t.hO,v:=t.v}
def nv(s:qs)(t:i6):Bool:=decide (s.jt=true∨t.hG≠s.hG)
def kF(ok:Bool)(s:qs)(t:i6):qs × Int:=
 if ok=false then(Cm.zero.p,1) else
 if nv s t=true then(Cm.zero.p,7) else
 if ou s.h t≠0 then(Cm.zero.p,ou s.h t) else(ko s t,0)
def Cm.size:s.g8.size=10:=rfl
def vC{w:World}(h:Is w A l)(hn:l.length<=1000000000)(hs:l9 w s)(MO:ln w t)(R:t.p.sm 500000)(a8:s.h.l.length<=99999999)(cO:s.hW.l.length<=100000000)(aX:∀r∈t.nw.l,lk r.o.id)(aL:∀c∈t.ws.l,lk c.id)(aR:0<=s.iN)(b1:s.iN<=1000000000)(b2:0<=s.hw)(dB:s.hw<=1000000000000)(dw:0<=t.hw)(eh:t.hw<=1000000):
 Calls prog 52 #[.agg #[.slice A l.length c,Y hq,Y g9],.agg s.g8,.agg t.g8] w (vg (kF (hY l hq g9) s.p t.p).1 (kF (hY l hq g9) s.p t.p).2 w):=by
 have cS:t.nw.l.length<=500000:=by have:=R.nw;have e:t.p.nw.length=t.nw.l.length:=hZ _;omega
 have al:t.hW.l.length<=1000000000:=G_ R.hW I;have ar:t.hW.l.length<=500000:=R.hW;obtain⟨K,hE⟩:=mn_ (ou (hU s.h.l) t.p);have an:=O hE;clear hE;obtain⟨⟨az,aA⟩,cN⟩:∃q,kF (hY l hq g9) s.p t.p=q:=⟨_,rfl⟩;rw[cN];have ad:=O cN;clear cN;obtain⟨D,d,g,hR,MR⟩:=C6 w 26 #[.slice A l.length c,Y hq,Y g9] 40 s.g8 53 t.g8 40 #[n_,Y 0,Y 0,n_,.bool false,.bool false,.bool false,Y 0,Y 0,Y 0]
 go_enter func52,ntmps52
 go_upto_region 1 with fail
 obtain⟨bj,bh⟩:=nm_ ((((w.alloc (.cells #[.slice A l.length c,Y hq,Y g9] 26)).alloc (.cells s.g8 40)).alloc (.cells t.g8 53)).alloc (.cells #[n_,Y 0,Y 0,n_,.bool false,.bool false,.bool false,Y 0,Y 0,Y 0] 40));rw[<-bh]at D d g hR MR |-;clear bh;obtain⟨aC,bD⟩:=nm_ w.heap.size;obtain⟨a,bt⟩:=nm_ (w.heap.size+1);obtain⟨gt,aD⟩:=nm_ (w.heap.size+1+1);obtain⟨gr,aE⟩:=nm_ (w.heap.size+1+1+1);rw[<-aE]at hR;rw[<-aD]at g;rw[<-bt]at d;rw[<-bD]at D;rw[<-aE,<-aD,<-bt,<-bD];have bz:w.heap.size<=gr:=X;have aG:w.heap.size<=a:=X;have j:gt≠a/\gr≠a:=X;clear bD bt aD aE;have MN:=D.f_ 0;have ai:=D.f_ 1;have aB:=D.f_ 2
 cases hv:hY l hq g9 with
 |false=>
  obtain⟨rfl,rfl⟩:=Prod.mk.inj (ad.out.symm.trans (by unfold kF;rw[hv];first|done|exact O_ rfl));exact IZ
 |true=>
 go_upto_region 3 with(go_at_call 92;have ag:=iP A c l hq g9 (h.g_ MR) hn;rw[hv]at ag;refine ag.mono ?_;rintro e w1⟨rfl,hg1⟩)
 replace D:=D.g_ hg1;replace d:=d.g_ hg1;replace g:=g.g_ hg1;replace hR:=hR.g_ hg1;replace MR:=MR.trans hg1;clear hg1 MN ai aB
 have aI:Hid ((az,aA)=if nv s.p t.p=true then(Cm.zero.p,7) else if K≠0 then(Cm.zero.p,K) else(ko s.p t.p,0)):=O (by
  rw[<-ad.out];unfold kF
  rw[hv,I_ I,show ou s.p.h t.p=K from an.out])
 go_cut [21] (λb a6=>b=.bool (nv s.p t.p)/\a6=w1)
 case first=>
  have m4:w1.cell? (Z a 4)=some (.bool s.jt):=(d.f_ 4).trans rfl;have m1:w1.cell? (Z a 1)=some (Y s.hG):=(d.f_ 1).trans rfl;have T:w1.cell? (Z gt 0)=some (Y t.hG):=(g.f_ 0).trans rfl
  cases aS:s.jt with
  |true=>
   have aV:=O (show nv s.p t.p=true by unfold nv;exact FX (.inl aS));exact Mk
  |false=>
   have aV:=O (show nv s.p t.p=(t.hG !=s.hG) by
    unfold nv
    by_cases z:t.hG=s.hG
    .have:(t.hG !=s.hG)=false:=by simp[z]
     rw[this];exact GH (λN=>N.elim (λC=>U_ C (by show ¬s.jt=true;rw[aS];decide)) (λC=>C z))
    .have:(t.hG !=s.hG)=true:=zu z
     rw[this]
     exact FX (.inr z))
   exact Mk
 case rest=>
 obtain⟨rfl,dR⟩:=hcut;subst wc
 cases hcb:nv s.p t.p with
 |true=>
  obtain⟨rfl,rfl⟩:=Prod.mk.inj (aI.out.trans (O_ hcb));clear hcb ad aI;exact JU
 |false=>
 have aH:Hid ((az,aA)=if K≠0 then(Cm.zero.p,K) else(ko s.p t.p,0)):=O (by rw[aI.out,I_ (by rw[hcb];decide)]);clear hcb aI;have m0:w1.cell? (Z a 0)=some (.slice s.h.A s.h.l.length s.h.c):=(d.f_ 0).trans rfl
 by_cases V:K=0
 case neg=>
  obtain⟨rfl,z⟩:=Prod.mk.inj (aH.out.trans (O_ V));subst aA;have q:(K !=0)=true:=zu V;clear V aH ad
  go_wp2_with (first|(refine k5 g underlying53 ?_)|(go_at_call 100;have ag:=sB s.h.A s.h.c s.h.l t (hs.h.g_ MR) X (MO.g_ MR) R aX aL;rw[an.out]at ag;refine ag.mono ?_;rintro e w2⟨rfl,L⟩)|(refine kZ (Cm.zero.g8) (hR.g_ L) (Cm.one _) ?_;intro ae ax G))
  all_goals exact l5 Cm.zero.g8 (Y K) ax underlying40 ⟨Cm.zero,rfl,l9.zero _ _ rfl rfl,rfl,(MR.trans L).jE G bz⟩
 case pos=>
 have aM:Hid ((az,aA)=(ko s.p t.p,0)):=O (by rw[aH.out,I_ (by simp[V])])
 have q:(K !=0)=false:=by simp[V]
 clear V aH
 go_upto_region 8 with(first|(refine k5 g underlying53 ?_)|(go_at_call 100;have ag:=sB s.h.A s.h.c s.h.l t (hs.h.g_ MR) X (MO.g_ MR) R aX aL;rw[an.out]at ag;refine ag.mono ?_;rintro e w2⟨rfl,L⟩))
 replace D:=D.g_ L;replace d:=d.g_ L;replace g:=g.g_ L;replace hR:=hR.g_ L;replace MR:=MR.trans L;clear L q;replace m0:w2.cell? (Z a 0)=some (.slice s.h.A s.h.l.length s.h.c):=(d.f_ 0).trans rfl
 go_upto_region 9 with(first|(refine k5 g underlying53 ?_)|(go_at_call 84;((with_reducible refine(ww s.h.A s.h.c s.h.l t (MO.g_ MR) (hs.h.g_ MR) X (G_ R.ws I) (G_ R.ds I)).mono ?_);unfold mt;rintro e S⟨u,o,k,rfl,ay,aN,P⟩;have f:=O aN;clear aN;have m0:S.cell? (Z a 0)=some (.slice s.h.A s.h.l.length s.h.c):=((d.g_ P).f_ 0).trans rfl;have aT:=(d.g_ P).hm 0)))
 have i:J [a] S (S.setCell (Z a 0) (.slice u k.length o)):=(H [a] S).setCell (.inl s_) _;have aQ:=ay.ir (d.g_ P) I I i;have y:Bk (S.setCell (Z a 0) (.slice u k.length o)) a 40 ({s with h:=⟨u,o,k⟩}:Cm).g8:=(d.g_ P).hN 0 (.slice u k.length o);replace g:=(g.g_ P).gr i (zu j.1);replace hR:=(hR.g_ P).gr i (zu j.2);replace MR:=(MR.trans P).jE i aG;clear m0 aT d D P i ay;replace d:=y;clear y;obtain⟨aK,aJ⟩:=nm_ (S.setCell (Z a 0) (.slice u k.length o));rw[<-aJ]at aQ d g hR MR |-;clear aJ;have m3:aK.cell? (Z a 3)=some (.slice s.hW.A s.hW.l.length s.hW.c):=(d.f_ 3).trans rfl;have t41:aK.cell? (Z gt 41)=some (.slice t.hW.A t.hW.l.length t.hW.c):=(g.f_ 41).trans rfl
 go_upto_region 10 with(go_at_call 93;((with_reducible refine(xb s.hW.A s.hW.c s.hW.l t.hW.A t.hW.c t.hW.l (hs.hW.g_ MR) (MO.hW.g_ MR) X al).mono ?_);unfold DP;rintro e Q⟨m,x,rfl,bM,aY,E⟩;have m3:Q.cell? (Z a 3)=some (.slice s.hW.A s.hW.l.length s.hW.c):=((d.g_ E).f_ 3).trans rfl;have bf:=(d.g_ E).hm 3))
 have i:J [a] Q (Q.setCell (Z a 3) (.slice m (s.hW.l.length+t.hW.l.length) x)):=(H [a] Q).setCell (.inl s_) _;have aU:As (Q.setCell (Z a 3) (.slice m (s.hW.l.length+t.hW.l.length) x)) m (s.hW.l++t.hW.l):=Sl.ir bM (d.g_ E) I i;have aW:=(aQ.g_ E).ir (d.g_ E) I I i
 have y:Bk (Q.setCell (Z a 3) (.slice m (s.hW.l.length+t.hW.l.length) x)) a 40 ({s with h:=⟨u,o,k⟩,hW:=⟨m,x,s.hW.l++t.hW.l⟩}:Cm).g8:=by
  rw[show({s with h:=⟨u,o,k⟩,hW:=⟨m,x,s.hW.l++t.hW.l⟩}:Cm).g8=({s with h:=⟨u,o,k⟩}:Cm).g8.setIfInBounds 3 (.slice m (s.hW.l.length+t.hW.l.length) x) from(show({s with h:=⟨u,o,k⟩,hW:=⟨m,x,s.hW.l++t.hW.l⟩}:Cm).g8=({s with h:=⟨u,o,k⟩}:Cm).g8.setIfInBounds 3 (.slice m (s.hW.l++t.hW.l).length x) from rfl).trans (FN (λn=>({s with h:=⟨u,o,k⟩}:Cm).g8.setIfInBounds 3 (.slice m n x)) K_)];exact(d.g_ E).hN 3 (.slice m (s.hW.l.length+t.hW.l.length) x)
 replace g:=(g.g_ E).gr i (zu j.1);replace hR:=(hR.g_ E).gr i (zu j.2);replace MR:=(MR.trans E).jE i aG;clear m3 bf d t41 E i bM aQ;replace d:=y;clear y;obtain⟨M,aF⟩:=nm_ (Q.setCell (Z a 3) (.slice m (s.hW.l.length+t.hW.l.length) x));rw[<-aF]at aU aW d g hR MR |-;clear aF;have di:M.cell? (Z a 8)=some (Y s.iN):=(d.f_ 8).trans rfl;have am:M.cell? (Z a 9)=some (Y s.hw):=(d.f_ 9).trans rfl;have aj:M.cell? (Z gt 47)=some (Y t.hw):=(g.f_ 47).trans rfl;have aZ:=d.hm 8;have bB:=d.hm 9
 go_upto_region 12 with fail
 have i:J [a] M ((M.setCell (Z a 8) (Y (s.iN+1))).setCell (Z a 9) (Y (s.hw+t.hw))):=((H [a] M).setCell (p:=(Z a 8)) (.inl s_) _).setCell (p:=(Z a 9)) (.inl s_) _;have F:l9 ((M.setCell (Z a 8) (Y (s.iN+1))).setCell (Z a 9) (Y (s.hw+t.hw))) ({s with h:=⟨u,o,k⟩,hW:=⟨m,x,s.hW.l++t.hW.l⟩,iN:=s.iN+1,hw:=s.hw+t.hw}:Cm):=⟨aW.ir d I I i,Sl.ir aU d I i,aY⟩;have y:Bk ((M.setCell (Z a 8) (Y (s.iN+1))).setCell (Z a 9) (Y (s.hw+t.hw))) a 40 ({s with h:=⟨u,o,k⟩,hW:=⟨m,x,s.hW.l++t.hW.l⟩,iN:=s.iN+1,hw:=s.hw+t.hw}:Cm).g8:=(d.hN 8 (Y (s.iN+1))).hN 9 (Y (s.hw+t.hw));replace g:=g.gr i (zu j.1);replace hR:=hR.gr i (zu j.2);replace MR:=MR.jE i aG;clear di am aZ bB aj d i aU aW;replace d:=y;clear y;obtain⟨B,bE⟩:=nm_ ((M.setCell (Z a 8) (Y (s.iN+1))).setCell (Z a 9) (Y (s.hw+t.hw)));rw[<-bE]at F d g hR MR |-;clear bE;have bd:B.cell? (Z gt 42)=some (Y t.hT):=(g.f_ 42).trans rfl;obtain⟨rfl,rfl⟩:=Prod.mk.inj aM.out;clear aM ad
 by_cases bq:t.hT=2
 .have HA:Hid (ko s.p t.p=({s with h:=⟨u,o,k⟩,hW:=⟨m,x,s.hW.l++t.hW.l⟩,iN:=s.iN+1,hw:=s.hw+t.hw,hG:=t.next}:Cm).p):=O (by unfold ko;rw[O_ (show t.p.hT=2 from bq),show la s.p.h t.p=hU k from f.out.symm];rfl);have q:(t.hT==2)=true:=zu bq;clear bq;have z:B.cell? (Z gt 43)=some (Y t.next):=(g.f_ 43).trans rfl;have m1:B.cell? (Z a 1)=some (Y s.hG):=(d.f_ 1).trans rfl;have C:=d.hm 1;have i:J [a] B (B.setCell (Z a 1) (Y t.next)):=(H [a] B).setCell (.inl s_) _;have y:Bk (B.setCell (Z a 1) (Y t.next)) a 40 ({s with h:=⟨u,o,k⟩,hW:=⟨m,x,s.hW.l++t.hW.l⟩,iN:=s.iN+1,hw:=s.hw+t.hw,hG:=t.next}:Cm).g8:=d.hN 1 (Y t.next);have U:=hR.gr i (zu j.2)
  go_wp2_with (first|(refine k5 y underlying40 ?_)|(refine kZ (({s with h:=⟨u,o,k⟩,hW:=⟨m,x,s.hW.l++t.hW.l⟩,iN:=s.iN+1,hw:=s.hw+t.hw,hG:=t.next}:Cm).g8) U (Cm.one _) ?_;intro ae ax G))
  rw[HA.out];exact l5 ({s with h:=⟨u,o,k⟩,hW:=⟨m,x,s.hW.l++t.hW.l⟩,iN:=s.iN+1,hw:=s.hw+t.hw,hG:=t.next}:Cm).g8 (Y 0) ax underlying40 ⟨({s with h:=⟨u,o,k⟩,hW:=⟨m,x,s.hW.l++t.hW.l⟩,iN:=s.iN+1,hw:=s.hw+t.hw,hG:=t.next}:Cm),rfl,(l9.ir (s:=({s with h:=⟨u,o,k⟩,hW:=⟨m,x,s.hW.l++t.hW.l⟩,iN:=s.iN+1,hw:=s.hw+t.hw,hG:=t.next}:Cm)) ⟨(F.h.ir d I I i),Sl.ir F.hW d I i,F.qc⟩ U I G),rfl,(MR.jE i aG).jE G bz⟩
 .have HA:Hid (ko s.p t.p=({s with h:=⟨u,o,k⟩,hW:=⟨m,x,s.hW.l++t.hW.l⟩,iN:=s.iN+1,hw:=s.hw+t.hw,jt:=true,hO:=t.hO,v:=t.v}:Cm).p):=O (by unfold ko;rw[I_ (show ¬t.p.hT=2 from bq),show la s.p.h t.p=hU k from f.out.symm];rfl);have q:(t.hT==2)=false:=zu bq;clear bq
  go_upto_region 14 with fail
  clear bd q;refine hI (λw'=>w'.cell? (Z gt 44)=some (.bool t.hO)/\w'.cell? (Z gt 45)=some (.bool t.v.r)/\w'.cell? (Z gt 46)=some (Y t.v.n)) 10 k_ ?_;have T:J [] B B.drew:=(H [] B).drew;replace F:=F.g_ T;replace d:=d.g_ T;replace g:=g.g_ T;replace hR:=hR.g_ T;replace MR:=MR.trans T;clear T;obtain⟨z,be⟩:=nm_ B.drew;rw[<-be]at F d g hR MR |-;clear be;have C:z.cell? (Z gt 44)=some (.bool t.hO)/\z.cell? (Z gt 45)=some (.bool t.v.r)/\z.cell? (Z gt 46)=some (Y t.v.n):=⟨(g.f_ 44).trans rfl,(g.f_ 45).trans rfl,(g.f_ 46).trans rfl⟩;have m4:z.cell? (Z a 4)=some (.bool s.jt):=(d.f_ 4).trans rfl;have bO:z.cell? (Z a 5)=some (.bool s.hO):=(d.f_ 5).trans rfl;have ak:z.cell? (Z a 6)=some (.bool s.v.r):=(d.f_ 6).trans rfl;have db:z.cell? (Z a 7)=some (Y s.v.n):=(d.f_ 7).trans rfl;have bm:=d.hm 4;have bp:=d.hm 5;have bu:=d.hm 6;have bA:=d.hm 7
  iterate 5 refine jW C ?_
  refine hV 5 λW N=>?_
  go_simp;clear C
  refine hX N ⟨((g.ib (p:=(Z a 4)) j.1 (.bool true)).f_ 44).trans rfl,((g.ib (p:=(Z a 4)) j.1 (.bool true)).f_ 45).trans rfl,((g.ib (p:=(Z a 4)) j.1 (.bool true)).f_ 46).trans rfl⟩ λC=>?_
  clear N W;refine iH 6 C ?_
  refine hV 7 λW N=>?_
  go_simp;clear C
  refine hX N ⟨(((g.ib (p:=(Z a 4)) j.1 (.bool true)).ib (p:=(Z a 5)) j.1 (.bool t.hO)).f_ 44).trans rfl,(((g.ib (p:=(Z a 4)) j.1 (.bool true)).ib (p:=(Z a 5)) j.1 (.bool t.hO)).f_ 45).trans rfl,(((g.ib (p:=(Z a 4)) j.1 (.bool true)).ib (p:=(Z a 5)) j.1 (.bool t.hO)).f_ 46).trans rfl⟩ λC=>?_
  clear N W;refine iH 8 C ?_
  refine hV 9 λW N=>?_
  go_simp;clear C
  refine hX N ⟨(((((g.ib (p:=(Z a 4)) j.1 (.bool true)).ib (p:=(Z a 5)) j.1 (.bool t.hO)).ib (p:=(Z a 6)) j.1 (.bool t.v.r)).ib (p:=(Z a 7)) j.1 (Y t.v.n)).f_ 44).trans rfl,(((((g.ib (p:=(Z a 4)) j.1 (.bool true)).ib (p:=(Z a 5)) j.1 (.bool t.hO)).ib (p:=(Z a 6)) j.1 (.bool t.v.r)).ib (p:=(Z a 7)) j.1 (Y t.v.n)).f_ 45).trans rfl,(((((g.ib (p:=(Z a 4)) j.1 (.bool true)).ib (p:=(Z a 5)) j.1 (.bool t.hO)).ib (p:=(Z a 6)) j.1 (.bool t.v.r)).ib (p:=(Z a 7)) j.1 (Y t.v.n)).f_ 46).trans rfl⟩ λC=>?_
  clear N W;have i:J [a] z ((((z.setCell (Z a 4) (.bool true)).setCell (Z a 5) (.bool t.hO)).setCell (Z a 6) (.bool t.v.r)).setCell (Z a 7) (Y t.v.n)):=((((H [a] z).setCell (p:=(Z a 4)) (.inl s_) _).setCell (p:=(Z a 5)) (.inl s_) _).setCell (p:=(Z a 6)) (.inl s_) _).setCell (p:=(Z a 7)) (.inl s_) _;have y:Bk ((((z.setCell (Z a 4) (.bool true)).setCell (Z a 5) (.bool t.hO)).setCell (Z a 6) (.bool t.v.r)).setCell (Z a 7) (Y t.v.n)) a 40 ({s with h:=⟨u,o,k⟩,hW:=⟨m,x,s.hW.l++t.hW.l⟩,iN:=s.iN+1,hw:=s.hw+t.hw,jt:=true,hO:=t.hO,v:=t.v}:Cm).g8:=(((d.hN 4 (.bool true)).hN 5 (.bool t.hO)).hN 6 (.bool t.v.r)).hN 7 (Y t.v.n);have U:=hR.gr i (zu j.2);clear m4 bO ak db bm bp bu bA C;refine hC k_ ?_ _
  go_wp2_with (first|(refine k5 y underlying40 ?_)|(refine kZ (({s with h:=⟨u,o,k⟩,hW:=⟨m,x,s.hW.l++t.hW.l⟩,iN:=s.iN+1,hw:=s.hw+t.hw,jt:=true,hO:=t.hO,v:=t.v}:Cm).g8) U (Cm.one _) ?_;intro ae ax G))
  rw[HA.out];exact l5 ({s with h:=⟨u,o,k⟩,hW:=⟨m,x,s.hW.l++t.hW.l⟩,iN:=s.iN+1,hw:=s.hw+t.hw,jt:=true,hO:=t.hO,v:=t.v}:Cm).g8 (Y 0) ax underlying40 ⟨({s with h:=⟨u,o,k⟩,hW:=⟨m,x,s.hW.l++t.hW.l⟩,iN:=s.iN+1,hw:=s.hw+t.hw,jt:=true,hO:=t.hO,v:=t.v}:Cm),rfl,(l9.ir (s:=({s with h:=⟨u,o,k⟩,hW:=⟨m,x,s.hW.l++t.hW.l⟩,iN:=s.iN+1,hw:=s.hw+t.hw,jt:=true,hO:=t.hO,v:=t.v}:Cm)) ⟨(F.h.ir d I I i),Sl.ir F.hW d I i,F.qc⟩ U I G),rfl,(MR.jE i aG).jE G bz⟩
def lb(h:List Ob)(e:qr):List Ob:=it (e.nw.foldl jY h) e.ws
def z_(e:qr):(lb h e).length<=h.length+e.nw.length:=by
 unfold lb;rw[jN];exact oZ e.nw h
def w8(l:List Rw)(f:Ef){w:World}(he:td w f)(h:mB w A c l)(hn:l.length+f.nw.l.length<=999999999)(aX:f.ws.l.length<=1000000000):
 Calls prog 96 #[.agg #[.slice A l.length c],.agg f.g8] w (mt (lb (hU l) f.p) w):=by
 obtain⟨i1,bJ,bY,bZ,ca⟩:=info_parts infoOb;obtain⟨e,v,r,MR⟩:=xj w 35 #[.slice A l.length c] 134 f.g8 35 #[n_]
 go_enter func96,ntmps96
 go_upto_region 1 with fail
 obtain⟨bj,bh⟩:=nm_ (((w.alloc (.cells #[.slice A l.length c] 35)).alloc (.cells f.g8 134)).alloc (.cells #[n_] 35));rw[<-bh]at e v r MR |-;clear bh;obtain⟨m,ae⟩:=nm_ w.heap.size;obtain⟨R,s⟩:=nm_ (w.heap.size+1);obtain⟨gr,af⟩:=nm_ (w.heap.size+1+1);rw[<-af]at r;rw[<-s]at v;rw[<-ae]at e;rw[<-af,<-s,<-ae];have t:w.heap.size<=m:=X;have bz:w.heap.size<=gr:=X;have S:R≠m/\gr≠m/\m≠gr/\R≠gr:=X;clear ae s af;have N:=e.f_ 0;have ag:=h.g_ MR
 go_upto_region 2 with(at_builtin;refine pA _ rfl (.const (n_)) (.tmp 12) 33 rfl 56 i1 _ 2 32 underlying33 bJ bY bZ ca rfl I I none 0 [] rfl (Gz _ _ _ _) A l.length c _ rfl ag.os (j7 _) X ?_;intro W am w2 ap bR D;simp only[W_,FU]at bR ap;replace N:=(e.g_ D).f_ 0;have f0:=(e.g_ D).hm 0)
 have aR:mB w2 W am l:=⟨bR,ag.lD.g_ D,ap⟩;have i:J [m] w2 (w2.setCell (Z m 0) (.slice W l.length am)):=(H [m] w2).setCell (.inl s_) _;have ah:=aR.ir (e.g_ D) I I i;have ay:=(e.g_ D).hN 0 (.slice W l.length am);have ar:=(v.g_ D).gr i (zu S.1);have cj:=(r.g_ D).gr i (zu S.2.1);have dC:=(MR.trans D).jE i t;clear N f0 e v r MR ag aR bR ap i D;obtain⟨aK,aJ⟩:=nm_ (w2.setCell (Z m 0) (.slice W l.length am));rw[<-aJ]at ah ay ar cj dC |-;clear aJ;have al:aK.cell? (Z R 36)=some (.slice f.nw.A f.nw.l.length f.nw.c):=(ar.f_ 36).trans rfl;go_wp2
 go_loopw [18] (λQ wr=>∃(a:Nat) (j:OA) (p:Nat) (d:List Rw),a<=f.nw.l.length/\Q=Y a/\Bk wr m 35 #[.slice j d.length p]/\Bk wr R 134 f.g8/\Bk wr gr 35 #[n_]/\mB wr j p d/\hU d=(hU (f.nw.l.take a)).foldl jY (hU l)/\J [] w wr) (λQ _=>f.nw.l.length-(intOf Q).toNat)
 case atStart=>exact⟨0,W,am,l,P_ _,rfl,ay,ar,cj,ah,rfl,dC⟩
 case round=>
  clear ay ar cj ah dC al;obtain⟨a,j,p,d,hk,rfl,e,v,r,u,T,x⟩:=hrel;have q:=O T
  have n:d.length<=999999999:=by
   have h1:=hZ d;have h2:=oZ (hU (f.nw.l.take a)) (hU l);rw[T]at h1;rw[hZ (f.nw.l.take a),Gd,hZ]at h2;omega
  clear T
  by_cases P:a<f.nw.l.length
  .obtain⟨b,off,aG,V,bu⟩:=(he.nw.g_ x).at_ P;rw[aG];have bK:=O (show(hU (f.nw.l.take (a+1))).foldl jY (hU l)=jY (hU d) f.nw.l[a].o by rw[q.out];exact rQ P);have K:=(he.nr.g_ (x.alloc (.cells #[Y f.nw.l[a].o.id,.slice f.nw.l[a].A f.nw.l[a].o.fs.length f.nw.l[a].c] 56))) f.nw.l[a] (M_ P);generalize f.nw.l[a]=g at*;have L:Sl (wr.alloc (.cells #[Y g.o.id,.slice g.A g.o.fs.length g.c] 56)) 38 2 g.A g.o.fs.length (jd g.o.fs):=K.1;have aP:(a:Int)<(f.nw.l.length:Int):=X;have k:J [] wr (wr.alloc (.cells #[Y g.o.id,.slice g.A g.o.fs.length g.c] 56)):=(H [] wr).alloc _;have M:=Q_ wr 56 #[Y g.o.id,.slice g.A g.o.fs.length g.c];have MN:=M.f_ 0;have ai:=M.f_ 1;have N:=(e.g_ k).f_ 0
   go_wp2_with (go_at_call 123;((with_reducible refine(vt j p d g.o.id g.A g.c g.o.fs (u.g_ k).os (u.g_ k).lD u.lO L K.2 n).mono ?_);rintro an y⟨B,C,z,rfl,ao,aq,aL,aw,E⟩;have aA:=O aw;clear aw;have F:=(e.g_ k).g_ E;replace N:=F.f_ 0;have f0:=F.hm 0))
   have i:J [m] y (y.setCell (Z m 0) (.slice B z.length C)):=(H [m] y).setCell (.inl s_) _;go_roundw
   case rel=>exact⟨a+1,B,C,z,X,gn,F.hN 0 _,((v.g_ k).g_ E).gr i (zu S.1),((r.g_ k).g_ E).gr i (zu S.2.1),(mB.mk aq aL ao).ir F I I i,by rw[bK.out,aA.out],((x.trans k).trans E).jE i t⟩
   case measure=>exact mz
  .have bI:=O (show a=f.nw.l.length by omega);have aP:¬(a:Int)<(f.nw.l.length:Int):=X;have aQ:=O (show hU d=f.p.nw.foldl jY (hU l) by rw[q.out,bI.out,G9];rfl);clear q hk P;have ct:wr.cell? (Z R 35)=some (.slice f.ws.A f.ws.l.length f.ws.c):=(v.f_ 35).trans rfl;have MT:d.length<=1000000000:=X;obtain⟨aC,aE⟩:=nm_ wr;rw[<-aE]at e v r u x ct |-;clear aE;obtain⟨aF,aH⟩:=nm_ j;obtain⟨ax,V⟩:=nm_ p;obtain⟨r0,bp⟩:=nm_ d;rw[<-aH,<-V,<-bp]at u;rw[<-aH,<-V,<-bp]at e;rw[<-bp]at aQ MT;clear aH V bp n bI;go_wp2;clear aP
   go_loopw [29] (λQ wr=>∃(a:Nat) (j:OA) (p:Nat) (d:List Rw),a<=f.ws.l.length/\Q=Y a/\Bk wr m 35 #[.slice j d.length p]/\Bk wr R 134 f.g8/\Bk wr gr 35 #[n_]/\mB wr j p d/\hU d=it (hU r0) (f.ws.l.take a)/\J [] w wr) (λQ _=>f.ws.l.length-(intOf Q).toNat)
   case atStart=>exact⟨0,aF,ax,r0,P_ _,rfl,e,v,r,u,rfl,x⟩
   case round=>
    clear e v r u x ct;obtain⟨a,j,p,d,hk,rfl,e,v,r,u,T,x⟩:=hrel;have q:=O T;clear T
    by_cases P:a<f.ws.l.length
    .obtain⟨b,off,aG,V,bu,bH,bM⟩:=(he.ws.g_ x).at_ P;rw[aG];have bK:=O (show it (hU r0) (f.ws.l.take (a+1))=pr (hU d) f.ws.l[a] by rw[q.out];exact qO P)
     have G:d.length<=1000000000:=by
      have:=hZ d
      rw[q.out,jN,hZ]at this;omega
     have aP:(a:Int)<(f.ws.l.length:Int):=X;generalize f.ws.l[a]=aI at*;obtain⟨L,K,g⟩:=aI;simp only at V bu bH bM;have k:J [] wr (wr.alloc (.cells #[Y L,Y K,.bool g.r,Y g.n] 116)):=(H [] wr).alloc _;have M:=Q_ wr 116 #[Y L,Y K,.bool g.r,Y g.n];have MN:=M.f_ 0;have ai:=M.f_ 1;have aB:=M.f_ 2;have aS:=M.f_ 3;have N:=(e.g_ k).f_ 0
     cases aN:h6 (hU d) L K with
     |none=>
      have bl:=O (show pr (hU d) ⟨L,K,g⟩=hU d by unfold pr;simp only[aN])
      go_wp2_with (go_at_call 149;((with_reducible refine(qP j p d L K g (u.g_ k).os (u.g_ k).lD G aN).mono ?_);rintro an y⟨rfl,E⟩))
      have F:J [] wr (y.alloc (.cells #[n_] 35)):=(k.trans E).alloc _;go_roundw
      case rel=>exact⟨a+1,j,p,d,X,gn,e.g_ F,v.g_ F,r.g_ F,u.g_ F,by rw[bK.out,bl.out],x.trans F⟩
      case measure=>exact mz
     |some aO=>
      have bl:=O (show pr (hU d) ⟨L,K,g⟩=kL (hU d) L K g by unfold pr;simp only[aN])
      go_wp2_with (go_at_call 149;((with_reducible refine(ox j p d L K g aO (u.g_ k).os (u.g_ k).lD G aN).mono ?_);rintro an y⟨B,C,z,rfl,ao,aq,aL,aw,E⟩;have aA:=O aw;clear aw;have bv:=Q_ y 35 #[.slice B z.length C];have n0:=bv.f_ 0;have aV:=((e.g_ k).g_ E).alloc (.cells #[.slice B z.length C] 35);replace N:=aV.f_ 0;have f0:=aV.hm 0))
      have F:J [] wr (y.alloc (.cells #[.slice B z.length C] 35)):=(k.trans E).alloc _;have i:J [m] (y.alloc (.cells #[.slice B z.length C] 35)) ((y.alloc (.cells #[.slice B z.length C] 35)).setCell (Z m 0) (.slice B z.length C)):=(H [m] _).setCell (.inl s_) _;go_roundw
      case rel=>exact⟨a+1,B,C,z,X,gn,aV.hN 0 _,(v.g_ F).gr i (zu S.1),(r.g_ F).gr i (zu S.2.1),((mB.mk aq aL ao).g_ ((H [] y).alloc _)).ir aV I I i,by rw[bK.out,bl.out,aA.out],(x.trans F).jE i t⟩
      case measure=>exact mz
    .have bI:=O (show a=f.ws.l.length by omega);have aP:¬(a:Int)<(f.ws.l.length:Int):=X;have N:=e.f_ 0;have F:=r.hm 0;have g:=r.f_ 0;go_wp2;have i:J [gr] wr (wr.setCell (Z gr 0) (.slice j d.length p)):=(H [gr] wr).setCell (.inl s_) _;refine rr_ #[.slice j d.length p] (r.hN 0 (.slice j d.length p)) underlying35 ⟨j,p,d,rfl,u.ir r I I i,?_,x.jE i bz⟩;rw[q.out,bI.out,G9,aQ.out]
     rfl
def lZ(c:List In)(h:List Ob)(pc kH:Int):List Ob:=
 pr h ⟨((h6 h 1 0).getD default).n,3+(c.getD pc.toNat default).n,⟨false,kH⟩⟩
def yk(c:List In)(h:List Ob)(pc a:Int):(lZ c h pc a).length=h.length:=yI _ _
def w7(k:Nat)(y:Int){w:World}(ae:Is w A l)(hn:l.length<=1000000000)(B:mB w U hc hl)(ax:hl.length<=1000000000)(hk:k<l.length)(h0:0<=l[k].n)(h1:l[k].n<=1000000):
 Calls prog 95 #[.agg #[.slice A l.length c,Y hq,Y g9],.agg #[.slice U hl.length hc],Y k,Y y] w (mt (lZ l (hU hl) k y) w):=by
 obtain⟨u,x,rfl,bm,bu,bH,bM,aY⟩:=ae.at_ hk
 have MS:=O (show lZ l (hU hl) (k:Int) y=pr (hU hl) ⟨((h6 (hU hl) 1 0).getD default).n,3+l[k].n,⟨false,y⟩⟩ by
  unfold lZ
  have T:l.getD (k:Int).toNat default=l[k]:=by simp[List.getD,L_ hk]
  rw[T])
 obtain⟨n,af⟩:∃n,n=l[k].n:=⟨_,rfl⟩;rw[<-af]at h0 h1 aY MS;clear bm bu bH bM af;obtain⟨f,hf⟩:=mn_ ((h6 (hU hl) 1 0).getD default);rw[hf]at MS;obtain⟨D,z,r,m⟩:=xj w 26 #[.slice (some (Z u x)) l.length c,Y hq,Y g9] 35 #[.slice U hl.length hc] 35 #[n_]
 go_enter func95,ntmps95
 go_upto_region 1 with fail
 obtain⟨bj,bh⟩:=nm_ (((w.alloc (.cells #[.slice (some (Z u x)) l.length c,Y hq,Y g9] 26)).alloc (.cells #[.slice U hl.length hc] 35)).alloc (.cells #[n_] 35));rw[<-bh]at D z r m |-;clear bh;obtain⟨R,G⟩:=nm_ w.heap.size;obtain⟨S,ag⟩:=nm_ (w.heap.size+1);obtain⟨Q,ah⟩:=nm_ (w.heap.size+1+1);rw[<-ah]at r;rw[<-ag]at z;rw[<-G]at D;rw[<-ah,<-ag,<-G];have bz:w.heap.size<=Q:=X;clear G ag ah;have MN:=z.f_ 0
 go_upto_region 2 with(go_at_call 148;((with_reducible refine(kA U hc hl 1 0 _ (B.g_ m).os (B.g_ m).lD ax).mono ?_);rw[hf];rintro T w1⟨rfl,hg1⟩))
 have E:=Q_ w1 38 #[.bool f.r,Y f.n];have aE:J [] bj (w1.alloc (.cells #[.bool f.r,Y f.n] 38)):=hg1.alloc _;replace D:=D.g_ aE;replace z:=z.g_ aE;replace r:=r.g_ aE;replace m:=m.trans aE;have jQ:=m.f_ aY s_;clear hg1 aE MN;obtain⟨e,ai⟩:=nm_ (w1.alloc (.cells #[.bool f.r,Y f.n] 38));rw[<-ai]at E D z r m jQ |-;clear ai;generalize w1.heap.size=V at*
 cases W:h6 (hU hl) f.n (3+n)with
 |none=>
  have bl:=O (show lZ l (hU hl) (k:Int) y=hU hl by rw[MS.out];unfold pr;simp only[W])
  go_cut [11,12] (λaj b a6=>∃gn:Nat,aj=q_ gn/\b=.bool false/\J [] e a6)
  case first=>
   refine hI (λw'=>w'.cell? (Z S 0)=some (.slice U hl.length hc)/\w'.cell? (Z V 1)=some (Y f.n)/\w'.cell? (Z R 0)=some (.slice (some (Z u x)) l.length c)/\w'.cell? (Z u (x+k*5+4))=some (Y n)) 19 k_ ?_;have j:J [] e e.drew:=(H [] e).drew;obtain⟨g,bD⟩:=nm_ e.drew;rw[<-bD]at j |-;clear bD;have C:g.cell? (Z S 0)=some (.slice U hl.length hc)/\g.cell? (Z V 1)=some (Y f.n)/\g.cell? (Z R 0)=some (.slice (some (Z u x)) l.length c)/\g.cell? (Z u (x+k*5+4))=some (Y n):=⟨(z.g_ j).f_ 0,(E.g_ j).f_ 1,(D.g_ j).f_ 0,(j).f_ jQ s_⟩;have e0:(0:Int)<=(k:Int):=X;have aC:(k:Int)<(l.length:Int):=X
   (iterate 9 refine jW C ?_)
   refine iH 9 (v:=Y (3+n)) C ?_ (hy:=(Or.inl ⟨r_,(by intro w' bq;go_simp;try(first|with_reducible rfl|(rw[GX];omega)))⟩))
   (iterate 2 refine jW C ?_)
   refine jh 12 16 rfl rfl k_ (λK MT=>?_) (λK MT=>?_)
   .go_simp;have i:J [] e g:=j
    (go_at_call 149;((with_reducible refine(qP U hc hl f.n (3+n) ⟨false,y⟩ (B.g_ (m.trans i)).os (B.g_ (m.trans i)).lD ax W).mono ?_);rintro T a⟨rfl,L⟩))
    have d:J [] e a:=j.trans L;clear C
    refine hX MT ⟨(z.g_ d).f_ 0,(E.g_ d).f_ 1,(D.g_ d).f_ 0,(d).f_ jQ s_⟩ λC=>?_
    clear MT K
    iterate 3 refine jW C ?_
    refine hV 16 λK MT=>?_
    go_simp;have M:J [] e (a.alloc (.cells #[n_] 35)):=d.alloc _;have s:=Q_ a 35 #[n_];clear C;have C:(a.alloc (.cells #[n_] 35)).cell? (Z S 0)=some (.slice U hl.length hc)/\(a.alloc (.cells #[n_] 35)).cell? (Z V 1)=some (Y f.n)/\(a.alloc (.cells #[n_] 35)).cell? (Z R 0)=some (.slice (some (Z u x)) l.length c)/\(a.alloc (.cells #[n_] 35)).cell? (Z u (x+k*5+4))=some (Y n):=⟨(z.g_ M).f_ 0,(E.g_ M).f_ 1,(D.g_ M).f_ 0,(M).f_ jQ s_⟩;have z0:=s.f_ 0;have eN:=s.hm 0
    refine hX MT C λC=>?_
    clear MT K
    refine hV 17 λK MT=>?_
    go_simp;have h:J [] e (a.alloc (.cells #[n_] 35)):=d.alloc _;have MP:J [] a (a.alloc (.cells #[n_] 35)):=(H [] a).alloc _;have aw:=Q_ a 35 #[n_];exact JS
   .go_simp;have i:J [] e (g.alloc (.cells #[n_] 35)):=j.alloc _;have s:=Q_ g 35 #[n_];clear C
    refine hX MT ⟨(z.g_ i).f_ 0,(E.g_ i).f_ 1,(D.g_ i).f_ 0,(i).f_ jQ s_⟩ λC=>?_
    clear MT K
    refine hV 12 λK MT=>?_
    go_simp
    (go_at_call 149;((with_reducible refine(qP U hc hl f.n (3+n) ⟨false,y⟩ (B.g_ (m.trans i)).os (B.g_ (m.trans i)).lD ax W).mono ?_);rintro T a⟨rfl,L⟩))
    have d:J [] e a:=i.trans L;clear C
    refine hX MT ⟨(z.g_ d).f_ 0,(E.g_ d).f_ 1,(D.g_ d).f_ 0,(d).f_ jQ s_⟩ λC=>?_
    clear MT K
    (iterate 3 refine jW C ?_)
    have t:=s.g_ L;have z0:=t.f_ 0;have eN:=t.hm 0
    refine hV 17 λK MT=>?_
    go_simp;have F:J [g.heap.size] a (a.setCell (Z g.heap.size 0) (n_)):=(H [_] _).setCell (.inl s_) _;have h:J [] e (a.setCell (Z g.heap.size 0) (n_)):=d.jE F j.size;have aw:=t.hN 0 (n_);exact JS
  case rest=>
   obtain⟨gn,rfl,rfl,P⟩:=hcut;replace z:=z.g_ P;replace r:=r.g_ P;have MN:=z.f_ 0;have f1:=r.hm 0;have bi:=r.f_ 0;go_wp2;have F:J [Q] wc (wc.setCell (Z Q 0) (.slice U hl.length hc)):=(H [Q] wc).setCell (.inl s_) _;exact rr_ #[.slice U hl.length hc] (r.hN 0 (.slice U hl.length hc)) underlying35 ⟨U,hc,hl,rfl,(B.g_ (m.trans P)).ir r I I F,bl.out.symm,(m.trans P).jE F bz⟩
 |some al=>
  have bl:=O (show lZ l (hU hl) (k:Int) y=kL (hU hl) f.n (3+n) ⟨false,y⟩ by rw[MS.out];unfold pr;simp only[W])
  go_cut [11,12] (λaj b a6=>∃(gn:Nat) (p:OA) (q:Nat) (o:List Rw),aj=q_ gn/\b=.bool true/\Bk a6 gn 35 #[.slice p o.length q]/\mB a6 p q o/\hU o=kL (hU hl) f.n (3+n) ⟨false,y⟩/\J [] e a6)
  case first=>
   refine hI (λw'=>w'.cell? (Z S 0)=some (.slice U hl.length hc)/\w'.cell? (Z V 1)=some (Y f.n)/\w'.cell? (Z R 0)=some (.slice (some (Z u x)) l.length c)/\w'.cell? (Z u (x+k*5+4))=some (Y n)) 19 k_ ?_;have j:J [] e e.drew:=(H [] e).drew;obtain⟨g,bD⟩:=nm_ e.drew;rw[<-bD]at j |-;clear bD;have C:g.cell? (Z S 0)=some (.slice U hl.length hc)/\g.cell? (Z V 1)=some (Y f.n)/\g.cell? (Z R 0)=some (.slice (some (Z u x)) l.length c)/\g.cell? (Z u (x+k*5+4))=some (Y n):=⟨(z.g_ j).f_ 0,(E.g_ j).f_ 1,(D.g_ j).f_ 0,(j).f_ jQ s_⟩;have e0:(0:Int)<=(k:Int):=X;have aC:(k:Int)<(l.length:Int):=X
   (iterate 9 refine jW C ?_)
   refine iH 9 (v:=Y (3+n)) C ?_ (hy:=(Or.inl ⟨r_,(by intro w' bq;go_simp;try(first|with_reducible rfl|(rw[GX];omega)))⟩))
   (iterate 2 refine jW C ?_)
   refine jh 12 16 rfl rfl k_ (λK MT=>?_) (λK MT=>?_)
   .go_simp;have i:J [] e g:=j
    (go_at_call 149;((with_reducible refine(ox U hc hl f.n (3+n) ⟨false,y⟩ al (B.g_ (m.trans i)).os (B.g_ (m.trans i)).lD ax W).mono ?_);rintro T a⟨p,q,o,rfl,ao,am,aL,N,L⟩;have an:=O N;clear N))
    have d:J [] e a:=j.trans L;clear C
    refine hX MT ⟨(z.g_ d).f_ 0,(E.g_ d).f_ 1,(D.g_ d).f_ 0,(d).f_ jQ s_⟩ λC=>?_
    clear MT K
    iterate 3 refine jW C ?_
    refine hV 16 λK MT=>?_
    go_simp;have M:J [] e (a.alloc (.cells #[n_] 35)):=d.alloc _;have s:=Q_ a 35 #[n_];clear C;have C:(a.alloc (.cells #[n_] 35)).cell? (Z S 0)=some (.slice U hl.length hc)/\(a.alloc (.cells #[n_] 35)).cell? (Z V 1)=some (Y f.n)/\(a.alloc (.cells #[n_] 35)).cell? (Z R 0)=some (.slice (some (Z u x)) l.length c)/\(a.alloc (.cells #[n_] 35)).cell? (Z u (x+k*5+4))=some (Y n):=⟨(z.g_ M).f_ 0,(E.g_ M).f_ 1,(D.g_ M).f_ 0,(M).f_ jQ s_⟩;have z0:=s.f_ 0;have eN:=s.hm 0
    refine hX MT C λC=>?_
    clear MT K
    refine hV 17 λK MT=>?_
    go_simp;have h:J [] e (a.alloc (.cells #[.slice p o.length q] 35)):=d.alloc _;have MP:J [] a (a.alloc (.cells #[.slice p o.length q] 35)):=(H [] a).alloc _;have aw:=Q_ a 35 #[.slice p o.length q];clear C
    refine hX MT ⟨(z.g_ h).f_ 0,(E.g_ h).f_ 1,(D.g_ h).f_ 0,(h).f_ jQ s_⟩ λC=>?_
    clear MT K;refine iH 18 C ?_;refine hC k_ ?_ _;go_wp2;go_meet;exact⟨_,p,q,o,rfl,rfl,aw,(mB.mk am aL ao).g_ MP,an.out,h⟩
   .go_simp;have i:J [] e (g.alloc (.cells #[n_] 35)):=j.alloc _;have s:=Q_ g 35 #[n_];clear C
    refine hX MT ⟨(z.g_ i).f_ 0,(E.g_ i).f_ 1,(D.g_ i).f_ 0,(i).f_ jQ s_⟩ λC=>?_
    clear MT K
    refine hV 12 λK MT=>?_
    go_simp
    (go_at_call 149;((with_reducible refine(ox U hc hl f.n (3+n) ⟨false,y⟩ al (B.g_ (m.trans i)).os (B.g_ (m.trans i)).lD ax W).mono ?_);rintro T a⟨p,q,o,rfl,ao,am,aL,N,L⟩;have an:=O N;clear N))
    have d:J [] e a:=i.trans L;clear C
    refine hX MT ⟨(z.g_ d).f_ 0,(E.g_ d).f_ 1,(D.g_ d).f_ 0,(d).f_ jQ s_⟩ λC=>?_
    clear MT K
    (iterate 3 refine jW C ?_)
    have t:=s.g_ L;have z0:=t.f_ 0;have eN:=t.hm 0
    refine hV 17 λK MT=>?_
    go_simp;have F:J [g.heap.size] a (a.setCell (Z g.heap.size 0) (.slice p o.length q)):=(H [_] _).setCell (.inl s_) _;have h:J [] e (a.setCell (Z g.heap.size 0) (.slice p o.length q)):=d.jE F j.size;have aw:=t.hN 0 (.slice p o.length q);clear C
    refine hX MT ⟨(z.g_ h).f_ 0,(E.g_ h).f_ 1,(D.g_ h).f_ 0,(h).f_ jQ s_⟩ λC=>?_
    clear MT K;refine iH 18 C ?_;refine hC k_ ?_ _;go_wp2;go_meet;exact⟨_,p,q,o,rfl,rfl,aw,(mB.mk am aL ao).ir t I I F,an.out,h⟩
  case rest=>
   obtain⟨gn,p,q,o,rfl,rfl,s,ap,N,P⟩:=hcut;have aq:=O N;clear N;replace r:=r.g_ P;have MN:=s.f_ 0;have f1:=r.hm 0;have bi:=r.f_ 0;go_wp2;have F:J [Q] wc (wc.setCell (Z Q 0) (.slice p o.length q)):=(H [Q] wc).setCell (.inl s_) _;exact rr_ #[.slice p o.length q] (r.hN 0 (.slice p o.length q)) underlying35 ⟨p,q,o,rfl,ap.ir r I I F,by rw[aq.out,bl.out],(m.trans P).jE F bz⟩
def z1{w:World}:(Instr.build 49 #[(0,Y pc)]).run prog w=.ok (.agg (iE pc i5)) w:=by kernel_rfl
def xa(l:List Ac){w:World}(h:As w A l)(F:l.length<=1000000000):
 Calls prog 93 #[.slice A l.length c,n_] w λe w'=>∃(A':OA) (d:Nat),e=.returned (.slice A' l.length d)/\w'.ownsRow w.heap.size 162 3 (.slice A' l.length d) l.length (l.flatMap Ac.E)/\J [] w w':=by
 obtain⟨j,m,o,i,k⟩:=info_parts infoAc;have q:Sl w 162 3 A l.length (l.flatMap Ac.E):=h;have C:w.heap.size<=w.heap.size:=H_ _
 go_enter func93,ntmps93
 go_wp2_with (first
  |(at_builtin;refine iJ _ rfl (.const (n_)) (.tmp 5) 36 rfl w.heap.size 162 j _ 3 24 underlying36 m o i k rfl I I none 0 0 [] rfl (iY _ _ _ _) A l.length c _ rfl q (uh) X C ?_;intro v y D g u;simp only[W_,FU]at g;have a:=u.gr [] w (H_ _) (H [] w);have b:=a.size;have B:=Gz D 162 3 none)
  |(at_builtin;refine iJ _ rfl (.tmp 6) (.tmp 7) 36 rfl w.heap.size 162 j _ 3 24 underlying36 m o i k rfl I I v l.length y _ rfl g none 0 0 _ rfl B (by intro K D;cases D) X b ?_;intro z x E p u;simp only[G0,List.append_nil]at p;have r:=u.gr [] w (H_ _) a))
 go_ret;exact⟨z,x,rfl,p,r⟩
def l0(l:List In)(hq g9:Int)(s:qs)(e:qr):Bool:=decide (s.jt=true∨jm l hq g9 s.hG=false∨e.hS=4)
def lB(l:List In)(kH:List Int)(s:qs)(e:qr):qs:=
 if e.hS=3 then{s with h:=lZ l s.h s.hG (jq kH s.jp),hW:=s.hW++[⟨true,e.v.n,jq kH s.jp⟩],hw:=s.hw+1,hG:=s.hG+1,jp:=s.jp+1}
 else if e.hS=2 then{s with h:=lb s.h e,hw:=s.hw+1,jt:=true,hO:=e.hO,v:=e.v}
 else{s with h:=lb s.h e,hw:=s.hw+1,hG:=e.pc}
def ng(l:List In)(hq g9:Int)(kH:List Int)(s:qs):qs × Int:=
 if hY l hq g9=false then(Cm.zero.p,1) else
 if l0 l hq g9 s (j8 l hq g9 s.hG i5 s.h 0)=true then(Cm.zero.p,7) else
 (lB l kH s (j8 l hq g9 s.hG i5 s.h 0),0)
def z7(aA:OA)(ac:Nat)(al:List Int)(s:Cm){w:World}(h:Is w A l)(hn:l.length<=1000000000)(ha:Ns w 2 aA al)(aD:al.length<=1000000000)(hs:l9 w s)(a8:s.h.l.length<=99999999)(cO:s.hW.l.length<=100000000)(aR: -1000000000<=s.hG)(b1:s.hG<=1000000000)(b2:0<=s.hw)(dB:s.hw<=1000000000000)(dw:0<=s.jp)(eh:s.jp<=1000000000):
 Calls prog 48 #[.agg #[.slice A l.length c,Y hq,Y g9],.agg #[.slice aA al.length ac],.agg s.g8] w (vg (ng l hq g9 al s.p).1 (ng l hq g9 al s.p).2 w):=by
 obtain⟨bC,bv,bw,aZ,bg⟩:=info_parts infoAc;obtain⟨an,hE⟩:=mn_ (j8 l hq g9 s.hG i5 (hU s.h.l) 0)
 have aX:an.sm 16:=by rw[<-hE];exact sZ _ _ _ _ _ _ _
 have bW:=O hE;clear hE;obtain⟨⟨bd,bk⟩,cN⟩:∃q,ng l hq g9 al s.p=q:=⟨_,rfl⟩;rw[cN];have ad:=O cN;clear cN;obtain⟨o,F,d,hR,MR⟩:=C6 w 26 #[.slice A l.length c,Y hq,Y g9] 29 #[.slice aA al.length ac] 40 s.g8 40 #[n_,Y 0,Y 0,n_,.bool false,.bool false,.bool false,Y 0,Y 0,Y 0]
 go_enter func48,ntmps48
 go_upto_region 1 with fail
 obtain⟨bj,bh⟩:=nm_ ((((w.alloc (.cells #[.slice A l.length c,Y hq,Y g9] 26)).alloc (.cells #[.slice aA al.length ac] 29)).alloc (.cells s.g8 40)).alloc (.cells #[n_,Y 0,Y 0,n_,.bool false,.bool false,.bool false,Y 0,Y 0,Y 0] 40));rw[<-bh]at o F d hR MR |-;clear bh;obtain⟨br,bD⟩:=nm_ w.heap.size;obtain⟨gw,bo⟩:=nm_ (w.heap.size+1);obtain⟨a,bt⟩:=nm_ (w.heap.size+1+1);obtain⟨gr,bx⟩:=nm_ (w.heap.size+1+1+1);rw[<-bx]at hR;rw[<-bt]at d;rw[<-bo]at F;rw[<-bD]at o;rw[<-bx,<-bt,<-bo,<-bD];have bz:w.heap.size<=gr:=X;have bP:w.heap.size<=a:=X;have Q:br≠a/\gw≠a/\gr≠a:=X;clear bD bt bo bx;have MN:=o.f_ 0;have ai:=o.f_ 1;have aB:=o.f_ 2
 cases hv:hY l hq g9 with
 |false=>
  obtain⟨rfl,rfl⟩:=Prod.mk.inj (ad.out.symm.trans (by unfold ng;exact O_ hv));exact IZ
 |true=>
 have aI:Hid ((bd,bk)=if l0 l hq g9 s.p an=true then(Cm.zero.p,7) else(lB l al s.p an,0)):=O (by
  rw[<-ad.out];unfold ng
  rw[I_ (by rw[hv];decide),show j8 l hq g9 s.p.hG i5 s.p.h 0=an from bW.out])
 have aG:∀N,N<l.length->kD l N=true:=by
  intro N hk;have bn:=hv;unfold hY og at bn;simp only[FP]at bn;exact FZ.mp bn.1.1.2 N (zu hk)
 clear ad
 go_upto_region 3 with(go_at_call 92;have ag:=iP A c l hq g9 (h.g_ MR) hn;rw[hv]at ag;refine ag.mono ?_;rintro e w1⟨rfl,hg1⟩)
 replace o:=o.g_ hg1;replace F:=F.g_ hg1;replace d:=d.g_ hg1;replace hR:=hR.g_ hg1;replace MR:=MR.trans hg1;clear hg1 hv;replace MN:=o.f_ 0;replace ai:=o.f_ 1;replace aB:=o.f_ 2;have m1:w1.cell? (Z a 1)=some (Y s.hG):=(d.f_ 1).trans rfl;have m0:w1.cell? (Z a 0)=some (.slice s.h.A s.h.l.length s.h.c):=(d.f_ 0).trans rfl
 go_upto_region 4 with(first|(refine wpList_build rfl rfl #[(0,Y s.hG)] k_ (z1 s.hG) ?_)|(go_at_call 78;have ag:=qj A c l hq g9 s.hG 0 i5 s.h.A s.h.c s.h.l (h.g_ MR) hn (hs.h.g_ MR) X X;rw[bW.out]at ag;refine ag.mono ?_;unfold xf;rintro e w2⟨f,rfl,K,aj,MS⟩)|(refine kZ (f.g8) (Q_ w2 134 un) (Ef.one _) ?_;intro ah ar bR))
 have MP:J [] w2 ah:=((H [] w2).alloc _).jE bR (H_ _);have aE:J [] w1 ah:=MS.trans MP;have ao:td ah f:=(K.g_ ((H [] w2).alloc (.cells un 134))).ir (Q_ w2 134 un) I bR;have bq:w2.heap.size≠a:=ov ((d.g_ MS).lt);replace o:=o.g_ aE;replace F:=F.g_ aE;replace d:=d.g_ aE;replace hR:=hR.g_ aE;replace MR:=MR.trans aE;clear aE MS bR MP K MN ai aB m0 m1;have hE:=ar;have K:=ao;clear ar ao;have y:w2.heap.size≠a:=bq;clear bq;generalize w2.heap.size=a2 at*
 have cv:f.p.sm 16:=by rw[aj];exact aX
 rw[<-aj]at aI
 have bK:f.nw.l.length<=16:=by have:=cv.nw;have e:f.p.nw.length=f.nw.l.length:=hZ _;omega
 clear aX bW aj
 try simp only[a_]
 go_cut [34] (λb a6=>b=.bool (l0 l hq g9 s.p f.p)/\J [] ah a6)
 case first=>
  have MN:=o.f_ 0;have ai:=o.f_ 1;have aB:=o.f_ 2;have m4:ah.cell? (Z a 4)=some (.bool s.jt):=(d.f_ 4).trans rfl;have m1:ah.cell? (Z a 1)=some (Y s.hG):=(d.f_ 1).trans rfl
  cases aS:s.jt with
  |true=>
   have aV:=O (show l0 l hq g9 s.p f.p=true by unfold l0;exact FX (.inl aS));rw[aS]at m4;clear aS;go_wp2;go_meet;exact⟨i9 aV.out.symm,H _ _⟩
  |false=>
   rw[aS]at m4
   cases g:jm l hq g9 s.hG with
   |false=>
    have aV:=O (show l0 l hq g9 s.p f.p=true by unfold l0;exact FX (.inr (.inl g)));exact Jl
   |true=>
    have aV:=O (show l0 l hq g9 s.p f.p=(f.hS==4) by
     unfold l0
     by_cases h1:f.hS=4
     .have:(f.hS==4)=true:=zu h1
      rw[this];exact FX (.inr (.inr h1))
     .have:(f.hS==4)=false:=zu h1
      rw[this]
      exact GH (λC=>C.elim (λh2=>U_ h2 (by show ¬s.jt=true;rw[aS];decide)) (λh2=>h2.elim (λh3=>U_ (show jm l hq g9 s.hG=false from h3) (by rw[g];decide)) (λh3=>h1 h3))))
    exact Jl
 case rest=>
 obtain⟨rfl,V⟩:=hcut;replace o:=o.g_ V;replace F:=F.g_ V;replace d:=d.g_ V;replace hR:=hR.g_ V;replace MR:=MR.trans V;replace hE:=hE.g_ V;replace K:=K.g_ V;clear V
 cases hcb:l0 l hq g9 s.p f.p with
 |true=>
  obtain⟨rfl,rfl⟩:=Prod.mk.inj (aI.out.trans (O_ hcb));clear hcb aI;exact JU
 |false=>
 obtain⟨rfl,rfl⟩:=Prod.mk.inj (aI.out.trans (I_ (by rw[hcb];decide)))
 have g:jm l hq g9 s.hG=true:=by
  unfold l0 at hcb;have h1:=H6 hcb
  cases h2:jm l hq g9 s.hG with
  |true=>rfl
  |false=>exact U_ (.inr (.inl h2)) h1
 obtain⟨N,hk⟩:∃N:Nat,s.hG=N:=by
  unfold jm h5 at g;simp only[FP]at g;have h2:=g.2;refine⟨s.hG.toNat,?_⟩;exact LE
 have aF:N<l.length:=by
  unfold jm h5 at g;simp only[FP]at g;have h2:=g.2;exact LE
 have R:l.getD N default=l[N]:=by simp[List.getD,L_ aF]
 have bS:l[N].op=20:=by
  unfold jm h5 at g;simp only[FP]at g;have h2:=g.2;rw[I_ X,hk,F0,R]at h2
  simpa using h2
 have MO:=wP (aG N aF);rw[R]at MO;have b3:=(MO.hq (.inr (.inr (.inr bS)))).1;have bN:=(MO.hq (.inr (.inr (.inr bS)))).2;have bI:=O hk;clear hk bS R MO g hcb aI aG;have m3:wc.cell? (Z a 3)=some (.slice s.hW.A s.hW.l.length s.hW.c):=(d.f_ 3).trans rfl
 go_upto_region 7 with(go_at_call 93;((with_reducible refine(xa s.hW.A s.hW.c s.hW.l (hs.hW.g_ MR) X).mono ?_);rintro e T⟨r,u,rfl,cy,af⟩;have m3:T.cell? (Z a 3)=some (.slice s.hW.A s.hW.l.length s.hW.c):=((d.g_ af).f_ 3).trans rfl;have bf:=(d.g_ af).hm 3))
 have i:J [a] T (T.setCell (Z a 3) (.slice r s.hW.l.length u)):=(H [a] T).setCell (.inl s_) _;have E:Bk (T.setCell (Z a 3) (.slice r s.hW.l.length u)) a 40 ({s with hW:=⟨r,u,s.hW.l⟩}:Cm).g8:=(d.g_ af).hN 3 (.slice r s.hW.l.length u);have L:=kR (x:=a) cy ((d.g_ af).ql I) i;replace o:=(o.g_ af).gr i (zu Q.1);replace F:=(F.g_ af).gr i (zu Q.2.1);replace hR:=(hR.g_ af).gr i (zu Q.2.2);replace hE:=(hE.g_ af).gr i (zu y);replace K:td (T.setCell (Z a 3) (.slice r s.hW.l.length u)) f:=(K.g_ af).ir (d.g_ af) I i;have aL:w.heap.size<=wc.heap.size:=MR.size;replace MR:=(MR.trans af).jE i bP;clear m3 bf d af i cy;have d:=E;clear E;obtain⟨a7,bE⟩:=nm_ (T.setCell (Z a 3) (.slice r s.hW.l.length u));rw[<-bE]at d L o F hR hE K MR |-;clear bE;replace L:=Du L aL;have am:a7.cell? (Z a 9)=some (Y s.hw):=(d.f_ 9).trans rfl;have bB:=d.hm 9
 go_upto_region 8 with fail
 have i:J [a] a7 (a7.setCell (Z a 9) (Y (s.hw+1))):=(H [a] a7).setCell (.inl s_) _;have E:Bk (a7.setCell (Z a 9) (Y (s.hw+1))) a 40 ({s with hW:=⟨r,u,s.hW.l⟩,hw:=s.hw+1}:Cm).g8:=d.hN 9 (Y (s.hw+1));replace L:=kR (x:=a) L (d.ql I) i;replace o:=o.gr i (zu Q.1);replace F:=F.gr i (zu Q.2.1);replace hR:=hR.gr i (zu Q.2.2);replace hE:=hE.gr i (zu y);replace K:td (a7.setCell (Z a 9) (Y (s.hw+1))) f:=K.ir d I i;replace MR:=MR.jE i bP;clear am bB d i aL;have d:=E;clear E;obtain⟨MM,bi⟩:=nm_ (a7.setCell (Z a 9) (Y (s.hw+1)));rw[<-bi]at d L o F hR hE K MR |-;clear bi;have e0:MM.cell? (Z a2 0)=some (Y f.hS):=(hE.f_ 0).trans rfl;have m0:MM.cell? (Z a 0)=some (.slice s.h.A s.h.l.length s.h.c):=(d.f_ 0).trans rfl
 by_cases bV:f.hS=3
 .have q3:(f.hS==3)=true:=zu bV;have cz:Hid (lB l al s.p f.p={s.p with h:=lZ l s.p.h s.hG (jq al s.jp),hW:=s.p.hW++[(⟨true,f.v.n,jq al s.jp⟩:Ac)],hw:=s.hw+1,hG:=s.hG+1,jp:=s.jp+1}):=O (by unfold lB;exact O_ bV);clear bV;have w0:=F.f_ 0;have m2:MM.cell? (Z a 2)=some (Y s.jp):=(d.f_ 2).trans rfl
  go_upto_region 10 with(go_at_call 94;((with_reducible refine(yl aA ac al s.jp (ha.g_ MR) aD).mono ?_);rintro e ay⟨rfl,S⟩))
  replace o:=o.g_ S;replace F:=F.g_ S;replace d:=d.g_ S;replace hR:=hR.g_ S;replace MR:=MR.trans S;replace hE:=hE.g_ S;replace K:=K.g_ S;replace L:=iF L S;clear S w0 m2 e0 q3 m0;have MN:=o.f_ 0;have ai:=o.f_ 1;have aB:=o.f_ 2;have m0:ay.cell? (Z a 0)=some (.slice s.h.A s.h.l.length s.h.c):=(d.f_ 0).trans rfl;have m1:ay.cell? (Z a 1)=some (Y (N:Int)):=(d.f_ 1).trans (FN (λn=>some (Value.int .i64 n)) bI.out)
  go_upto_region 11 with(go_at_call 95;((with_reducible refine(w7 A c l hq g9 s.h.A s.h.c s.h.l N (jq al s.jp) (h.g_ MR) hn (hs.h.g_ MR) X aF b3 bN).mono ?_);unfold mt;rintro e P⟨m,k,j,rfl,bT,dj,B⟩;have aW:=O dj;clear dj;have m0:P.cell? (Z a 0)=some (.slice s.h.A s.h.l.length s.h.c):=((d.g_ B).f_ 0).trans rfl;have aT:=(d.g_ B).hm 0))
  have i:J [a] P (P.setCell (Z a 0) (.slice m j.length k)):=(H [a] P).setCell (.inl s_) _;have E:Bk (P.setCell (Z a 0) (.slice m j.length k)) a 40 ({s with hW:=⟨r,u,s.hW.l⟩,hw:=s.hw+1,h:=⟨m,k,j⟩}:Cm).g8:=(d.g_ B).hN 0 (.slice m j.length k);have aw:=bT.ir (d.g_ B) I I i;replace L:=kR (x:=a) (iF L B) ((d.g_ B).ql I) i;replace hR:=(hR.g_ B).gr i (zu Q.2.2);replace hE:=(hE.g_ B).gr i (zu y);replace MR:=(MR.trans B).jE i bP;clear m0 aT m1 MN ai aB d i o F K bT B;have d:=E;clear E;obtain⟨z,bQ⟩:=nm_ (P.setCell (Z a 0) (.slice m j.length k));rw[<-bQ]at aw L d hR hE MR |-;clear bQ;have m3:z.cell? (Z a 3)=some (.slice r s.hW.l.length u):=(d.f_ 3).trans rfl;have bJ:z.cell? (Z a2 42)=some (Y f.v.n):=(hE.f_ 42).trans rfl;have W:J [] z (z.alloc (.cells #[.bool true,Y f.v.n,Y (jq al s.jp)] 162)):=(H [] z).alloc _;have ap:Sl (z.alloc (.cells #[.bool true,Y f.v.n,Y (jq al s.jp)] 162)) 162 3 (j_ z.heap.size) 1 [.bool true,Y f.v.n,Y (jq al s.jp)]:=kV (s:=3) (Q_ z 162 #[.bool true,Y f.v.n,Y (jq al s.jp)]) rfl;have aQ:=iF L W;have t:w.heap.size<=(z.alloc (.cells #[.bool true,Y f.v.n,Y (jq al s.jp)] 162)).heap.size:=(MR.trans W).size
  go_upto_region 12 with(at_builtin;refine iJ _ rfl (.tmp 60) (.tmp 66) 36 rfl w.heap.size 162 bC _ 3 24 underlying36 bv bw aZ bg rfl I I r s.hW.l.length u _ rfl aQ _ 1 1 _ rfl ap (by intro bU hu;simp at hu;rcases hu with rfl|rfl|rfl<;>rfl) X t ?_;intro C D bH bX bY;have b0:=bY.bk (d.g_ W) I;have m3:bH.cell? (Z a 3)=some (.slice r s.hW.l.length u):=(b0.f_ 3).trans rfl;have bf:=b0.hm 3)
  have i:J [a] bH (bH.setCell (Z a 3) (.slice C (s.hW.l.length+1) D)):=(H [a] bH).setCell (.inl s_) _
  have E:Bk (bH.setCell (Z a 3) (.slice C (s.hW.l.length+1) D)) a 40 ({s with hW:=⟨C,D,s.hW.l++[(⟨true,f.v.n,jq al s.jp⟩:Ac)]⟩,hw:=s.hw+1,h:=⟨m,k,j⟩}:Cm).g8:=by
   rw[show({s with hW:=⟨C,D,s.hW.l++[(⟨true,f.v.n,jq al s.jp⟩:Ac)]⟩,hw:=s.hw+1,h:=⟨m,k,j⟩}:Cm).g8=({s with hW:=⟨r,u,s.hW.l⟩,hw:=s.hw+1,h:=⟨m,k,j⟩}:Cm).g8.setIfInBounds 3 (.slice C (s.hW.l.length+1) D) from(show({s with hW:=⟨C,D,s.hW.l++[(⟨true,f.v.n,jq al s.jp⟩:Ac)]⟩,hw:=s.hw+1,h:=⟨m,k,j⟩}:Cm).g8=({s with hW:=⟨r,u,s.hW.l⟩,hw:=s.hw+1,h:=⟨m,k,j⟩}:Cm).g8.setIfInBounds 3 (.slice C (s.hW.l++[(⟨true,f.v.n,jq al s.jp⟩:Ac)]).length D) from rfl).trans (FN (λn=>({s with hW:=⟨r,u,s.hW.l⟩,hw:=s.hw+1,h:=⟨m,k,j⟩}:Cm).g8.setIfInBounds 3 (.slice C n D)) (by rw[K_];rfl))];exact b0.hN 3 (.slice C (s.hW.l.length+1) D)
  have cX:=kR (x:=a) bX (b0.ql I) i
  have M:l9 (bH.setCell (Z a 3) (.slice C (s.hW.l.length+1) D)) ({s with hW:=⟨C,D,s.hW.l++[(⟨true,f.v.n,jq al s.jp⟩:Ac)]⟩,hw:=s.hw+1,h:=⟨m,k,j⟩}:Cm):=by
   refine⟨(mB.mk (bY.sl (aw.g_ W).os I) (bY.Dr I (aw.g_ W).lD) aw.lO).ir b0 I I i,?_,?_⟩
   .have q:=Sl.iQ cX
    show Sl (bH.setCell (Z a 3) (.slice C (s.hW.l.length+1) D)) 162 3 C (s.hW.l++[(⟨true,f.v.n,jq al s.jp⟩:Ac)]).length ((s.hW.l++[(⟨true,f.v.n,jq al s.jp⟩:Ac)]).flatMap Ac.E)
    rw[F2,Hz,show(s.hW.l++[(⟨true,f.v.n,jq al s.jp⟩:Ac)]).length=s.hW.l.length+1 by rw[K_];rfl];exact q
   .show(s.hW.l++[(⟨true,f.v.n,jq al s.jp⟩:Ac)]).length<=D
    rw[K_];exact jk cX
  replace hR:=(bY.bk (hR.g_ W) I).gr i (zu Q.2.2);replace MR:=(bY.gr [] w (H_ _) (MR.trans W)).jE i bP;clear m3 bf bJ b0 d i hE aw L bX cX bY aQ ap W t;have d:=E;clear E;obtain⟨bF,bL⟩:=nm_ (bH.setCell (Z a 3) (.slice C (s.hW.l.length+1) D));rw[<-bL]at M d hR MR |-;clear bL;have m1:bF.cell? (Z a 1)=some (Y s.hG):=(d.f_ 1).trans rfl;have m2:bF.cell? (Z a 2)=some (Y s.jp):=(d.f_ 2).trans rfl;have bG:=d.hm 1;have bM:=d.hm 2;have i:J [a] bF ((bF.setCell (Z a 1) (Y (s.hG+1))).setCell (Z a 2) (Y (s.jp+1))):=((H [a] bF).setCell (p:=(Z a 1)) (.inl s_) _).setCell (p:=(Z a 2)) (.inl s_) _;have E:Bk ((bF.setCell (Z a 1) (Y (s.hG+1))).setCell (Z a 2) (Y (s.jp+1))) a 40 ({s with hW:=⟨C,D,s.hW.l++[(⟨true,f.v.n,jq al s.jp⟩:Ac)]⟩,hw:=s.hw+1,h:=⟨m,k,j⟩,hG:=s.hG+1,jp:=s.jp+1}:Cm).g8:=(d.hN 1 (Y (s.hG+1))).hN 2 (Y (s.jp+1));have U:=hR.gr i (zu Q.2.2);have HA:Hid (lB l al s.p f.p=({s with hW:=⟨C,D,s.hW.l++[(⟨true,f.v.n,jq al s.jp⟩:Ac)]⟩,hw:=s.hw+1,h:=⟨m,k,j⟩,hG:=s.hG+1,jp:=s.jp+1}:Cm).p):=O (by rw[cz.out,bI.out,show lZ l s.p.h (N:Int) (jq al s.jp)=hU j from aW.out.symm,<-bI.out];rfl)
  go_wp2_with (first|(refine k5 E underlying40 ?_)|(refine kZ (({s with hW:=⟨C,D,s.hW.l++[(⟨true,f.v.n,jq al s.jp⟩:Ac)]⟩,hw:=s.hw+1,h:=⟨m,k,j⟩,hG:=s.hG+1,jp:=s.jp+1}:Cm).g8) U (Cm.one _) ?_;intro ae ax G))
  rw[HA.out];exact l5 ({s with hW:=⟨C,D,s.hW.l++[(⟨true,f.v.n,jq al s.jp⟩:Ac)]⟩,hw:=s.hw+1,h:=⟨m,k,j⟩,hG:=s.hG+1,jp:=s.jp+1}:Cm).g8 (Y 0) ax underlying40 ⟨({s with hW:=⟨C,D,s.hW.l++[(⟨true,f.v.n,jq al s.jp⟩:Ac)]⟩,hw:=s.hw+1,h:=⟨m,k,j⟩,hG:=s.hG+1,jp:=s.jp+1}:Cm),rfl,(l9.mk (s:=({s with hW:=⟨C,D,s.hW.l++[(⟨true,f.v.n,jq al s.jp⟩:Ac)]⟩,hw:=s.hw+1,h:=⟨m,k,j⟩,hG:=s.hG+1,jp:=s.jp+1}:Cm)) (M.h.ir d I I i) (Sl.ir M.hW d I i) M.qc).ir U I G,rfl,(MR.jE i bP).jE G bz⟩
 .have q3:(f.hS==3)=false:=zu bV;have cz:Hid (lB l al s.p f.p=if f.hS=2 then{s.p with h:=lb s.p.h f.p,hw:=s.hw+1,jt:=true,hO:=f.hO,v:=f.v} else{s.p with h:=lb s.p.h f.p,hw:=s.hw+1,hG:=f.pc}):=O (by unfold lB;exact I_ bV);clear bV;have bZ:J [] MM MM:=H _ _
  go_upto_region 16 with(first|(refine k5 hE underlying134 ?_)|(go_at_call 96;((with_reducible refine(w8 s.h.A s.h.c s.h.l f (K.g_ bZ) (hs.h.g_ MR) X (G_ cv.ws I)).mono ?_);unfold mt;rintro e P⟨m,k,j,rfl,bT,dj,B⟩;have aW:=O dj;clear dj;have m0:P.cell? (Z a 0)=some (.slice s.h.A s.h.l.length s.h.c):=((d.g_ B).f_ 0).trans rfl;have aT:=(d.g_ B).hm 0)))
  have i:J [a] P (P.setCell (Z a 0) (.slice m j.length k)):=(H [a] P).setCell (.inl s_) _;have E:Bk (P.setCell (Z a 0) (.slice m j.length k)) a 40 ({s with hW:=⟨r,u,s.hW.l⟩,hw:=s.hw+1,h:=⟨m,k,j⟩}:Cm).g8:=(d.g_ B).hN 0 (.slice m j.length k);have M:l9 (P.setCell (Z a 0) (.slice m j.length k)) ({s with hW:=⟨r,u,s.hW.l⟩,hw:=s.hw+1,h:=⟨m,k,j⟩}:Cm):=⟨bT.ir (d.g_ B) I I i,Sl.ir (Sl.iQ (iF L B)) (d.g_ B) I i,jk L⟩;replace hR:=(hR.g_ B).gr i (zu Q.2.2);replace hE:=(hE.g_ B).gr i (zu y);replace MR:=(MR.trans B).jE i bP;clear m0 aT d i e0 q3 o F L K bZ bT B;have d:=E;clear E;obtain⟨z,bQ⟩:=nm_ (P.setCell (Z a 0) (.slice m j.length k));rw[<-bQ]at M d hR hE MR |-;clear bQ;have e0:z.cell? (Z a2 0)=some (Y f.hS):=(hE.f_ 0).trans rfl
  by_cases W:f.hS=2
  .have q2:(f.hS==2)=true:=zu W;have HA:Hid (lB l al s.p f.p=({s with hW:=⟨r,u,s.hW.l⟩,hw:=s.hw+1,h:=⟨m,k,j⟩,jt:=true,hO:=f.hO,v:=f.v}:Cm).p):=O (by rw[cz.out,O_ W,show lb s.p.h f.p=hU j from aW.out.symm];rfl);clear W cz
   go_upto_region 17 with fail
   clear e0 q2;refine hI (λw'=>w'.cell? (Z a2 40)=some (.bool f.hO)/\w'.cell? (Z a2 41)=some (.bool f.v.r)/\w'.cell? (Z a2 42)=some (Y f.v.n)) 10 k_ ?_;have R:J [] z z.drew:=(H [] z).drew;replace M:=M.g_ R;replace d:=d.g_ R;replace hR:=hR.g_ R;replace hE:=hE.g_ R;replace MR:=MR.trans R;clear R;obtain⟨C,aY⟩:=nm_ z.drew;rw[<-aY]at M d hR hE MR |-;clear aY;have D:C.cell? (Z a2 40)=some (.bool f.hO)/\C.cell? (Z a2 41)=some (.bool f.v.r)/\C.cell? (Z a2 42)=some (Y f.v.n):=⟨(hE.f_ 40).trans rfl,(hE.f_ 41).trans rfl,(hE.f_ 42).trans rfl⟩;have m4:C.cell? (Z a 4)=some (.bool s.jt):=(d.f_ 4).trans rfl;have bO:C.cell? (Z a 5)=some (.bool s.hO):=(d.f_ 5).trans rfl;have ak:C.cell? (Z a 6)=some (.bool s.v.r):=(d.f_ 6).trans rfl;have db:C.cell? (Z a 7)=some (Y s.v.n):=(d.f_ 7).trans rfl;have bm:=d.hm 4;have bp:=d.hm 5;have bu:=d.hm 6;have bA:=d.hm 7
   iterate 5 refine jW D ?_
   refine hV 5 λca S=>?_
   go_simp;clear D
   refine hX S ⟨((hE.ib (p:=(Z a 4)) y (.bool true)).f_ 40).trans rfl,((hE.ib (p:=(Z a 4)) y (.bool true)).f_ 41).trans rfl,((hE.ib (p:=(Z a 4)) y (.bool true)).f_ 42).trans rfl⟩ λD=>?_
   clear S ca;refine iH 6 D ?_
   refine hV 7 λca S=>?_
   go_simp;clear D
   refine hX S ⟨(((hE.ib (p:=(Z a 4)) y (.bool true)).ib (p:=(Z a 5)) y (.bool f.hO)).f_ 40).trans rfl,(((hE.ib (p:=(Z a 4)) y (.bool true)).ib (p:=(Z a 5)) y (.bool f.hO)).f_ 41).trans rfl,(((hE.ib (p:=(Z a 4)) y (.bool true)).ib (p:=(Z a 5)) y (.bool f.hO)).f_ 42).trans rfl⟩ λD=>?_
   clear S ca;refine iH 8 D ?_
   refine hV 9 λca S=>?_
   go_simp;clear D
   refine hX S ⟨(((((hE.ib (p:=(Z a 4)) y (.bool true)).ib (p:=(Z a 5)) y (.bool f.hO)).ib (p:=(Z a 6)) y (.bool f.v.r)).ib (p:=(Z a 7)) y (Y f.v.n)).f_ 40).trans rfl,(((((hE.ib (p:=(Z a 4)) y (.bool true)).ib (p:=(Z a 5)) y (.bool f.hO)).ib (p:=(Z a 6)) y (.bool f.v.r)).ib (p:=(Z a 7)) y (Y f.v.n)).f_ 41).trans rfl,(((((hE.ib (p:=(Z a 4)) y (.bool true)).ib (p:=(Z a 5)) y (.bool f.hO)).ib (p:=(Z a 6)) y (.bool f.v.r)).ib (p:=(Z a 7)) y (Y f.v.n)).f_ 42).trans rfl⟩ λD=>?_
   clear S ca;have i:J [a] C ((((C.setCell (Z a 4) (.bool true)).setCell (Z a 5) (.bool f.hO)).setCell (Z a 6) (.bool f.v.r)).setCell (Z a 7) (Y f.v.n)):=((((H [a] C).setCell (p:=(Z a 4)) (.inl s_) _).setCell (p:=(Z a 5)) (.inl s_) _).setCell (p:=(Z a 6)) (.inl s_) _).setCell (p:=(Z a 7)) (.inl s_) _;have E:Bk ((((C.setCell (Z a 4) (.bool true)).setCell (Z a 5) (.bool f.hO)).setCell (Z a 6) (.bool f.v.r)).setCell (Z a 7) (Y f.v.n)) a 40 ({s with hW:=⟨r,u,s.hW.l⟩,hw:=s.hw+1,h:=⟨m,k,j⟩,jt:=true,hO:=f.hO,v:=f.v}:Cm).g8:=(((d.hN 4 (.bool true)).hN 5 (.bool f.hO)).hN 6 (.bool f.v.r)).hN 7 (Y f.v.n);have U:=hR.gr i (zu Q.2.2);clear m4 bO ak db bm bp bu bA D;refine hC k_ ?_ _
   go_wp2_with (first|(refine k5 E underlying40 ?_)|(refine kZ (({s with hW:=⟨r,u,s.hW.l⟩,hw:=s.hw+1,h:=⟨m,k,j⟩,jt:=true,hO:=f.hO,v:=f.v}:Cm).g8) U (Cm.one _) ?_;intro ae ax G))
   rw[HA.out];exact l5 ({s with hW:=⟨r,u,s.hW.l⟩,hw:=s.hw+1,h:=⟨m,k,j⟩,jt:=true,hO:=f.hO,v:=f.v}:Cm).g8 (Y 0) ax underlying40 ⟨({s with hW:=⟨r,u,s.hW.l⟩,hw:=s.hw+1,h:=⟨m,k,j⟩,jt:=true,hO:=f.hO,v:=f.v}:Cm),rfl,(l9.mk (s:=({s with hW:=⟨r,u,s.hW.l⟩,hw:=s.hw+1,h:=⟨m,k,j⟩,jt:=true,hO:=f.hO,v:=f.v}:Cm)) (M.h.ir d I I i) (Sl.ir M.hW d I i) M.qc).ir U I G,rfl,(MR.jE i bP).jE G bz⟩
  .have q2:(f.hS==2)=false:=zu W;have HA:Hid (lB l al s.p f.p=({s with hW:=⟨r,u,s.hW.l⟩,hw:=s.hw+1,h:=⟨m,k,j⟩,hG:=f.pc}:Cm).p):=O (by rw[cz.out,I_ W,show lb s.p.h f.p=hU j from aW.out.symm];rfl);clear W cz;have C:z.cell? (Z a2 1)=some (Y f.pc):=(hE.f_ 1).trans rfl;have m1:z.cell? (Z a 1)=some (Y s.hG):=(d.f_ 1).trans rfl;have bG:=d.hm 1;have i:J [a] z (z.setCell (Z a 1) (Y f.pc)):=(H [a] z).setCell (.inl s_) _;have E:Bk (z.setCell (Z a 1) (Y f.pc)) a 40 ({s with hW:=⟨r,u,s.hW.l⟩,hw:=s.hw+1,h:=⟨m,k,j⟩,hG:=f.pc}:Cm).g8:=d.hN 1 (Y f.pc);have U:=hR.gr i (zu Q.2.2)
   go_wp2_with (first|(refine k5 E underlying40 ?_)|(refine kZ (({s with hW:=⟨r,u,s.hW.l⟩,hw:=s.hw+1,h:=⟨m,k,j⟩,hG:=f.pc}:Cm).g8) U (Cm.one _) ?_;intro ae ax G))
   rw[HA.out];exact l5 ({s with hW:=⟨r,u,s.hW.l⟩,hw:=s.hw+1,h:=⟨m,k,j⟩,hG:=f.pc}:Cm).g8 (Y 0) ax underlying40 ⟨({s with hW:=⟨r,u,s.hW.l⟩,hw:=s.hw+1,h:=⟨m,k,j⟩,hG:=f.pc}:Cm),rfl,(l9.mk (s:=({s with hW:=⟨r,u,s.hW.l⟩,hw:=s.hw+1,h:=⟨m,k,j⟩,hG:=f.pc}:Cm)) (M.h.ir d I I i) (Sl.ir M.hW d I i) M.qc).ir U I G,rfl,(MR.jE i bP).jE G bz⟩
