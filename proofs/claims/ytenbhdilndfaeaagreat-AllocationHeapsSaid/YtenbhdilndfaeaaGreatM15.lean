import Derived.Test.YtenbhdilndfaeaaGreatM14
set_option maxRecDepth 100000
set_option maxHeartbeats 0
set_option linter.all false
namespace Go.Proofs.YtenbhdilndfaeaaGreat
open Go.RowKit Go.Proofs.Tryz
variable{G:Prop}{M:List Nat}{tr:TypeId}{V:List ByteArray}{i k:Nat}
theorem Gj(h:G:=by
 obtain⟨t,K,S,V,aq,dS⟩:∃(t:ST) (K:Nat),Bk ae R7 229 t.g8/\jx (jp (R0+1)) ae t/\SG hI (4-p) K t/\(K:Int)+2*l<=2+2*left:=by
  refine⟨(ST.mk 5 n iU 0 0 (j_ x) 2 [jj 0,jj r] A c ts none 0 []),1+N,(by have:=a2.out;subst this;exact bn),jx.node _ _ _ _ _ _ _ _ (sy (jj 0) (jj r) aZ) (G_ _) (λy off h=>by injection h with h;injection h with h;omega) ?_ (ao.le o_) (lm.nil _ _ _ _),?_,by push_cast;omega⟩
  .intro u hu
   rcases M_.1 hu with rfl|hu
   .exact kc.leaf _ _ _ _ _ _
   .rcases M_.1 hu with rfl|hu
    .exact kc.leaf _ _ _ _ _ _
    .cases hu
  .have hD:4-p=(4-(p+1))+1:=by omega
   rw[hD];refine SG.loop (t:=(ST.mk 5 n iU 0 0 (j_ x) 2 [jj 0,jj r] A c ts none 0 [])) (.zh _ aW.out) rfl ?_ ao.sg;intro u hu
   rcases M_.1 hu with rfl|hu
   .exact .num _ _ o_ o_
   .rcases M_.1 hu with rfl|hu
    .exact .num _ _ o_ o_
    .cases hu
 clear bn ao aZ;exact Gw):G:=h
theorem KA(h:G:=by
 go_upto_region 3 with fail
 clear ah;obtain⟨W,aM⟩:=nm_ w1;rw[<-aM]at hd Y hR J |-;clear aM;have aD:Ex B g m R0 229 #[q_ g,i_ left,i_ loops,i_ fn] S_ W W:=⟨hd,Y,hR,D_ [g] W⟩;refine iF (Ex B g m R0 229 #[q_ g,i_ left,i_ loops,i_ fn] S_ W) (λ_ ag=>∃t,Bk ag R0 229 t.g8/\jx (jp (R0+1)) ag t/\SG hI 1 1 t/\iE ag B g/\Gr [g,R0] W ag) (Gr [g,R0]) [SU.val _ (q_ m),SU.stmt aN (1) (1),SU.any _] (SU.any _) [[],[0],[1]] true [(some 26,0),(some 27,1),(none,2)] k_ k_ (λ_ _ _ _ _ h=>h) k_ rfl rfl k_ aD ⟨?_,?_,?_,trivial⟩ ?_
 .exact I4
 .exact KJ
 .exact KI
 intro vs bq C;simp only[b_];obtain⟨t,az,V,aq,aR,G⟩:=C;go_wp2;exact rr_ t.g8 az underlying229 ⟨t,1,left,rfl,V.le o_,lJ.mono aq o_,hl0,Ev _,by omega,Y.gr G p_,aR,(J.hx G p_).mono s_⟩):G:=h
theorem Gw(h:G:=by
 obtain⟨aF,cq⟩:=nm_ ae;rw[<-cq]at S V aB bo bD ak |-;clear cq;have au:=bo.f_ 2;have aX:=bo.hm 2;have cV:IntKind.i64.wrap (loops+1-1)=loops+1-1:=Eg _ o_
 go_upto_region 18 with fail
 clear au aX cV;have bi:Gr [m] aF (aF.setCell (c_ m 2) (i_ loops)):=(D_ [m] aF).setCell (.inl s_) _;replace bo:Bk (aF.setCell (c_ m 2) (i_ loops)) m 222 #[q_ g,i_ l,i_ loops,i_ fn]:=bo.hJ 2 _;replace aB:=aB.h7 bi p_;replace bD:=bD.gr bi p_;replace S:=S.gr bi p_;replace V:=V.h7 bi p_;replace ak:Gr [g,m] w (aF.setCell (c_ m 2) (i_ loops)):=ak.trans (bi.mono s_);clear bi;obtain⟨aG,ct⟩:=nm_ (aF.setCell (c_ m 2) (i_ loops));rw[<-ct]at S V aB bo bD ak |-;clear ct
 go_wp2_with (first|(refine kJ S underlying229 ?_)|(refine kG (t.g8) bD (ST.one _) ?_;intro ag az G))
 exact rr_ t.g8 az underlying229 ⟨t,K,l,rfl,(V.h7 G s_).le o_,aq,ck,dU,dS,bo.gr G p_,aB.h7 G p_,ak.hx G p_⟩):G:=h
theorem GD(h:G:=by
 intro vs Q C O K H;obtain⟨o,ar,⟨Ac,cc,tc,bH,lc,ec,bB,cW,cY,dy,cM⟩, -⟩:=O;replace o:_=_:=o;replace ar:_=_:=ar
 try simp only[b_,o,ar,ec]at H |-
 obtain⟨cQ,ej,ev,cu⟩:=cM;go_simp
 go_at_call 139
 refine(bg (P+1) 1 cQ loops _ (by have:=aT.out;omega) o_ o_ C.d cu hBm o_ o_ hq0 (by push_cast;omega)).mono ?_;rintro e w1⟨A,c,ts,N,l,rfl,_,ca,ck,dU,br,co,bt,aO⟩;exact H.out _ _ (C.kF aO bt ⟨l,ck,Ev _,co⟩ o_ eN aj) ⟨aO.mono s_,λhi⟨q,aq,cl,cF⟩=>⟨l,ck,by have:=r7 cF cu;omega,co⟩⟩ ⟨Ac,cc,tc,bH,A,c,ts,N,l,ec,(bB.ir aO p_),rfl,ca.le C.r.lt,ck,by omega,by omega,⟨l,ck,Ev _,co⟩⟩):G:=h
theorem GI(h:G:=by
 intro vs Q C O K H;obtain⟨o,ar, -⟩:=O;replace o:_=_:=o;replace ar:_=_:=ar
 try simp only[b_,o,ar]at H |-
 obtain⟨cQ,ej,ev,cu⟩:=C.lf;go_simp
 go_at_call 139
 refine(bg (P+1) 2 cQ loops _ (by have:=aT.out;omega) o_ o_ C.d cu hBm o_ o_ hq0 (by push_cast;omega)).mono ?_;rintro e w1⟨A,c,ts,N,l,rfl,_,ca,ck,dU,br,co,bt,aO⟩;exact H.out _ _ (C.kF aO bt ⟨l,ck,Ev _,co⟩ o_ eN aj) ⟨aO.mono s_,λhi⟨q,aq,cl,cF⟩=>⟨l,ck,by have:=r7 cF cu;omega,co⟩⟩ ⟨A,c,ts,N,l,rfl,ca.le C.r.lt,ck,by omega,by omega,⟨l,ck,Ev _,co⟩⟩):G:=h
theorem Hc(h:G:=by
 intro vs Q C O K H;obtain⟨⟨ta,er,bj,o,ap,E,d5,d6,d7,dD⟩, -⟩:=O
 try simp only[b_,o]at H |-
 refine iL k_ ?_;refine h4 229 _ _ rfl R0 r_ ta.g8 r_ 229 _ C.r rfl k_ (ST.one _) ?_;intro ag az G;obtain⟨cQ,cO,c6,dt⟩:=dD;exact H.out undef _ (λ_=>⟨ta,er,cQ,az,ap.h7 G s_,E,cO,by omega,by omega,dt.gr G p_,C.d.h7 G p_,(C.g.mono s_).trans (G.mono s_)⟩)):G:=h
theorem KI(h:G:=by
 refine jf [(some 27,1)] ?_;exact Hs):G:=h
theorem KJ(h:G:=by
 refine hH [(some 26,0)] ?_;intro vs Q C O K H;obtain⟨o, -⟩:=O;replace o:_=_:=o
 try simp only[b_,o]at H |-
 go_simp
 go_at_call 207
 refine(pU B g m left loops fn _ C.d C.m hBm).mono ?_;exact I0):G:=h
theorem Hy(h:G:=by
 intro f vs Q hf C O K H;obtain⟨o, -⟩:=O;replace o:_=_:=o
 try simp only[b_,o]at H |-
 go_simp
 go_at_call 145
 refine(j2 _ _).mono ?_;rintro e w1⟨rfl,hg1⟩;exact H.out _ _ (C.g_ hg1) (hg1.mono s_) ⟨jl n,rfl,kc.leaf _ _ _ _ _ _,.var _ _ aW.out⟩):G:=h
theorem HF(h:G:=by
 intro vs Q C O K H;obtain⟨⟨aJ,o,cD,bp⟩, -⟩:=O
 try simp only[b_,o]at H |-
 go_simp
 go_at_call 144
 refine(jY aJ _).mono ?_;rintro e w1⟨rfl,hg1⟩;exact H.out _ _ (C.g_ hg1) (hg1.mono s_) ⟨aJ,by omega,by omega,rfl⟩):G:=h
theorem HW(h:G:=by
 intro f vs Q hf C O K H;obtain⟨o, -⟩:=O;replace o:_=_:=o
 try simp only[b_,o]at H |-
 obtain⟨cU,a,bC,zs,fm,cH⟩:=id C;have Z:=a.f_ 0;have z:=zs.f_ 6;exact Kn):G:=h
theorem HY(h:G:=by
 intro vs Q C O K H;obtain⟨o, -⟩:=O;replace o:_=_:=o
 try simp only[b_,o]at H |-
 obtain⟨cU,a,bC,zs,d8,cH⟩:=id C;have Z:=a.f_ 0;have aE:=zs.f_ 5;exact Kn):G:=h
theorem H6(h:G:=by
 intro vs Q C O K H;obtain⟨o, -⟩:=O;replace o:_=_:=o
 try simp only[b_,o]at H |-
 have bN:IntKind.i64.wrap (P+1)=P+1:=Eg _ o_;exact Kh):G:=h
theorem H8(h:G:=by
 intro vs bq C;simp only[b_];obtain⟨t,N,l,az,V,aq,cX,dw,cG,cu,aR,G⟩:=C;go_wp2;exact rr_ t.g8 az underlying229 ⟨t,N,l,rfl,V.le o_,aq,cX,dw,cG,cu,aR,(J.mono s_).hx G p_⟩):G:=h
theorem IH(h:G:=by
 intro vs Q C O K H;obtain⟨o, -⟩:=O;replace o:_=_:=o
 try simp only[b_,o]at H |-
 exact Kh):G:=h
theorem IK(h:G:=by
 intro f vs Q hf C O K H;exact Jc):G:=h
theorem K7(h:G:=by
 refine hH [] ?_;intro vs Q C O K H;clear O
 try simp only[b_]at H |-
 exact Kh):G:=h
theorem Kh(h:G:=by
 go_simp;exact H.out _ _ C (GL.jQ (D_ [] _)) rfl):G:=h
theorem Bj:∀k,k<3->∃s,s∈hI/\(#[.string {data:=#[105]},.string {data:=#[106]},.string {data:=#[107]}]:Array Value)[k]?=some (.string s)
 |0,_=>⟨ou,by simp[hI],rfl⟩
 |1,_=>⟨wB,by simp[hI],rfl⟩
 |2,_=>⟨wA,by simp[hI],rfl⟩
def Lf(g m:Nat)(loops fn hi:Int)(w:World):Prop:=∃l,0<=l/\l<=hi/\Bk w m 222 #[q_ g,i_ l,i_ loops,i_ fn]
theorem Lf.gr{g m:Nat}{loops fn hi:Int}{w w':World}(h:Lf g m loops fn hi w)(hg:Gr M w w')(Y:m∉M):Lf g m loops fn hi w':=by
 obtain⟨l,h0,h1,h2⟩:=h;exact⟨l,h0,h1,h2.gr hg Y⟩
theorem Lf.le{g m:Nat}{loops fn a b:Int}{w:World}(h:Lf g m loops fn a w)(hab:a<=b):Lf g m loops fn b w:=by
 obtain⟨l,h0,h1,h2⟩:=h;exact⟨l,h0,by omega,h2⟩
def GL(M:List Nat)(g m:Nat)(loops fn:Int)(a b:World):Prop:=Gr M a b/\∀hi,Lf g m loops fn hi a->Lf g m loops fn hi b
theorem GL.of{g m:Nat}{loops fn:Int}{a b:World}(h:Gr [g] a b)(z:g∈M)(U:m≠g):GL M g m loops fn a b:=⟨h.mono (by intro x I;have:x=g:=(by simpa using I);subst this;exact z),λ_ hL=>hL.gr h (by simpa using U)⟩
theorem GL.jQ{g m:Nat}{loops fn:Int}{a b:World}(h:Gr [] a b):GL M g m loops fn a b:=⟨h.mono s_,λ_ hL=>hL.gr h s_⟩
structure Es(B g m R:Nat)(tr:TypeId)(left loops fn:Int)(zc:Array Value)(W w:World):Prop where
 d:iE w B g
 lf:Lf g m loops fn left w
 r:Bk w R tr zc
 g:Gr [g,m] W w
theorem Es.step{B g m R:Nat}{left loops fn:Int}{zc:Array Value}{W w w':World}(h:Es B g m R tr left loops fn zc W w)(hg:Gr [g] w w')(hd:iE w' B g)(h1:m≠g)(h2:R≠g):Es B g m R tr left loops fn zc W w':=
 ⟨hd,h.lf.gr hg (by simpa using h1),h.r.gr hg (by simpa using h2),h.g.trans (hg.mono s_)⟩
theorem Es.g_{B g m R:Nat}{left loops fn:Int}{zc:Array Value}{W w w':World}(h:Es B g m R tr left loops fn zc W w)(hg:Gr [] w w'):Es B g m R tr left loops fn zc W w':=
 ⟨h.d.g_ hg,h.lf.gr hg s_,h.r.g_ hg,h.g.trans (hg.mono s_)⟩
theorem Es.kF{B g m R:Nat}{left l loops fn:Int}{zc:Array Value}{W w w':World}(h:Es B g m R tr left loops fn zc W w)(hg:Gr [g,m] w w')(hd:iE w' B g)(hL:Lf g m loops fn l w')(hl:l<=left)(h1:R≠m)(h2:R≠g):Es B g m R tr left loops fn zc W w':=
 ⟨hd,hL.le hl,h.r.gr hg (by simp;exact⟨h2,h1⟩),h.g.trans hg⟩
def SU.l1{M:List Nat}{lo:Nat}(z:∀y∈M,y<lo)(D g m:Nat)(left loops fn:Int):SU (λ_=>GL M g m loops fn):=
 SU.of (λv w=>∃(A:Option Addr) (c:Nat) (ts:List ST) (N:Nat) (l:Int),v=.slice A ts.length c/\lm hI lo D N w A c ts/\0<=l/\l<=left/\(N:Int)+2*l<=2*left/\Lf g m loops fn l w)
  (λ_ _ _ hg⟨A,c,ts,N,l,h1,h2,h3,aw,ax,aY⟩=>⟨A,c,ts,N,l,h1,h2.ir hg.1 z,h3,aw,ax,hg.2 _ aY⟩)
def SU.l2{M:List Nat}{lo:Nat}(z:∀y∈M,y<lo)(i D g m:Nat)(left loops fn:Int):SU (λ_=>GL M g m loops fn):=
 ⟨λvs v w=>∃(A1:Option Addr) (c1:Nat) (a:List ST) (e:Nat) (A:Option Addr) (c:Nat) (ts:List ST) (N:Nat) (l:Int),vs i=.slice A1 a.length c1/\lm hI lo D e w A1 c1 a/\v=.slice A ts.length c/\lm hI lo D N w A c ts/\0<=l/\l<=left/\(e:Int)+N+2*l<=2*left/\Lf g m loops fn l w,
   [],λ_ _ _ _ _ _ hg⟨A1,c1,a,e,A,c,ts,N,l,h1,h2,h3,aw,ax,aY,bA,aU⟩=>⟨A1,c1,a,e,A,c,ts,N,l,h1,h2.ir hg.1 z,h3,aw.ir hg.1 z,ax,aY,bA,hg.2 _ aU⟩,
   [i],λ_ _ _ _ hv⟨A1,c1,a,e,A,c,ts,N,l,h1,h2⟩=>⟨A1,c1,a,e,A,c,ts,N,l,(hv i s_).symm.trans h1,h2⟩⟩
theorem lm.sl{base D N c:Nat}{w:World}{A:Option Addr}{ts:List ST}(h:lm V base D N w A c ts):Sl w 229 8 A ts.length (ts.flatMap ST.E):=Sl.iG h.own
theorem lm.from{base D N c:Nat}{w:World}{A:Option Addr}{ts:List ST}(h:lm V base D N w A c ts):∀u∈ts,jx (jp base) w u:=λu hu=>(h.jd u hu).imp λ_ I=>I.1
theorem jx.node{lo D e a:Nat}{w:World}(k:Int)(x f:ByteArray)(n o:Int)(AE:Option Addr)(cE:Nat)(es:List ET){A1 ay:Option Addr}{c1 an:Nat}{t1 ak:List ST}(he:Sl w 226 5 AE es.length (es.flatMap ET.E))(hce:es.length<=cE)(hbe:∀y off,AE=some (c_ y off)->lo<=y)(hes:∀u∈es,kc (jp lo) w u)(h1:lm V lo D e w A1 c1 t1)(h2:lm V lo D a w ay an ak):jx (jp lo) w (ST.mk k x f n o AE cE es A1 c1 t1 ay an ak):=
 .mk _ he hce (λy off h _=>hbe y off h) hes h1.sl (iQ h1.own) (λy off h _=>sK h1.own h) h1.from h2.sl (iQ h2.own) (λy off h _=>sK h2.own h) h2.from
theorem r7{w:World}{g m:Nat}{a b q q' f n:Int}(h:Bk w m 222 #[q_ g,i_ a,i_ q,i_ f])(k:Bk w m 222 #[q_ g,i_ b,i_ q',i_ n]):a=b:=by
 have h1:w.heap[m]?=_:=h;have h2:w.heap[m]?=_:=k;rw[h1]at h2;simp at h2;exact h2.1
structure BJ(B g m R R7 x:Nat)(mc zc sc xc:Array Value)(W w:World):Prop where
 d:iE w B g
 m:Bk w m 222 mc
 r:Bk w R 229 zc
 s:Bk w R7 229 sc
 x:Bk w x 226 xc
 g:Gr [g] W w
theorem BJ.step{B g m R R7 x:Nat}{mc zc sc xc:Array Value}{W w w':World}(h:BJ B g m R R7 x mc zc sc xc W w)(hg:Gr [g] w w')(hd:iE w' B g)(h1:m≠g)(h2:R≠g)(h3:R7≠g)(aw:x≠g):BJ B g m R R7 x mc zc sc xc W w':=
 ⟨hd,h.m.gr hg (by simpa using h1),h.r.gr hg (by simpa using h2),h.s.gr hg (by simpa using h3),h.x.gr hg (by simpa using aw),h.g.trans hg⟩
theorem BJ.g_{B g m R R7 x:Nat}{mc zc sc xc:Array Value}{W w w':World}(h:BJ B g m R R7 x mc zc sc xc W w)(hg:Gr [] w w'):BJ B g m R R7 x mc zc sc xc W w':=
 ⟨h.d.g_ hg,h.m.g_ hg,h.r.g_ hg,h.s.g_ hg,h.x.g_ hg,h.g.trans (hg.mono s_)⟩
def G2(k:Nat)(M d:List Nat)(i:Nat)(a b:World):Prop:=Gr (if i=k then d else M) a b
theorem G2.gr{d:List Nat}{a b:World}(h:G2 k M d i a b)(z:∀y∈M,y∈d):Gr d a b:=by
 unfold G2 at h;split at h
 .exact h
 .exact h.mono z
theorem G2.ne{d:List Nat}{a b:World}(h:G2 k M d i a b)(hi:i≠k):Gr M a b:=by
 unfold G2 at h;rw[P_ hi]at h;exact h
structure Ws(B g q R R7 base D N:Nat)(A:Option Addr)(c:Nat)(ts:List ST)(mc zc sc:Array Value)(W:World)(b:Bool)(w:World):Prop where
 d:iE w B g
 m:Bk w q 222 mc
 r:Bk w R 229 zc
 s:Bk w R7 229 sc
 lf:b=false->lm hI base D N w A c ts
 g:Gr (g::ot (Value.slice A ts.length c).ownBlock) W w
 h1:q<base
 h2:R<base
 h3:R7<base
section
variable{B g m R R7 base D N:Nat}{A:Option Addr}{c:Nat}{ts:List ST}{mc zc sc:Array Value}{W w w':World}{b:Bool}
theorem Ws.hz(h:Ws B g m R R7 base D N A c ts mc zc sc W b w):W.heap.size<=w.heap.size:=h.g.size
theorem Ws.step(h:Ws B g m R R7 base D N A c ts mc zc sc W b w)(hg:Gr [g] w w')(hd:iE w' B g)(h1:m≠g)(h2:R≠g)(h3:R7≠g)(aw:g<base):Ws B g m R R7 base D N A c ts mc zc sc W b w':=
 ⟨hd,h.m.gr hg (by simpa using h1),h.r.gr hg (by simpa using h2),h.s.gr hg (by simpa using h3),λhb=>(h.lf hb).ir hg (by simpa using aw),h.g.trans (hg.mono s_),h.h1,h.h2,h.h3⟩
theorem Ws.g_(h:Ws B g m R R7 base D N A c ts mc zc sc W b w)(hg:Gr [] w w'):Ws B g m R R7 base D N A c ts mc zc sc W b w':=
 ⟨h.d.g_ hg,h.m.g_ hg,h.r.g_ hg,h.s.g_ hg,λhb=>(h.lf hb).ir hg s_,h.g.trans (hg.mono s_),h.h1,h.h2,h.h3⟩
theorem Ws.app(h:Ws B g m R R7 base D N A c ts mc zc sc W b w)(hg:Gr (ot (Value.slice A ts.length c).ownBlock) w w')(ho:∀y∈ot (Value.slice A ts.length c).ownBlock,base<=y)(hB:B<=base):Ws B g m R R7 base D N A c ts mc zc sc W true w':=
 ⟨h.d.h7 hg (λx I=>F_ hB (ho x I)),h.m.gr hg (λY=>by have:=ho _ Y;have:=h.h1;omega),h.r.gr hg (λY=>by have:=ho _ Y;have:=h.h2;omega),h.s.gr hg (λY=>by have:=ho _ Y;have:=h.h3;omega),(λhb=>by cases hb),h.g.trans (hg.mono (by intro y hy;simp[hy])),h.h1,h.h2,h.h3⟩
end
theorem yj(l:Int)(h:0<=l):0<=l.tmod 3/\l.tmod 3<3/\0<=l % 3/\l % 3<3:=⟨Int.tmod_nonneg _ h,Int.tmod_lt_of_pos _ o_,by omega,by omega⟩
theorem uk(p:Nat)(hp:p<3)(B g m:Nat)(fn:Int)(bg:Dh (p+1) B g m fn):Dy p B g m fn:=by
 obtain⟨i1,bK,b0,b5,cf⟩:=info_parts infoSt;intro P left loops w hP hd Y hBm hl0 hl1 hq0 hq1;have aT:=h_ hP
 have d2:0<=P:=by omega
 have cy:P<=2:=by omega
 clear hP;have a8:=hd.vl;have cv:=Y.lt
 go_enter func176,ntmps176
 go_upto_region 1 with fail
 have aV:Gr [] w (w.alloc (.cells S_ 229)):=(D_ [] w).alloc _;replace hd:=hd.g_ aV;replace Y:=Y.g_ aV;have hR:=L_ w 229 S_;have J:Gr [g] w (w.alloc (.cells S_ 229)):=(D_ [g] w).alloc _;clear aV;obtain⟨bm,b3⟩:=nm_ (w.alloc (.cells S_ 229));rw[<-b3]at hd Y hR J |-;clear b3;obtain⟨R0,cn⟩:=nm_ w.heap.size;rw[<-cn]at hR |-
 have di:w.heap.size<=R0:=by omega
 have cI:g<R0:=by omega
 have j:B<=R0:=by omega
 have cR:m<R0:=by have:=cv;omega
 clear cn
 have aN:∀y∈[g,R0],y<R0+1:=by simp;omega
 have U:m≠g:=by omega
 have aj:R0≠g:=by omega
 have eN:R0≠m:=by omega
 have Z:=Y.f_ 0
 go_upto_region 2 with(go_at_call 19;refine(h8 B g 10 _ hd o_ o_).mono ?_;rintro e w1⟨k,rfl,b8,bW,bt,aO⟩)
 clear Z;replace Y:=Y.gr aO p_;replace hR:=hR.gr aO p_;replace J:=J.trans aO;replace hd:=bt;clear aO
 have bO:¬(3<=P):=by omega
 have ah:=Y.f_ 1
 by_cases dF:left<2
 .exact KA
 by_cases dN:k<5
 .exact KA
 have au:=Y.f_ 2
 go_upto_region 4 with fail
 clear ah au;obtain⟨W,aM⟩:=nm_ w1;rw[<-aM]at hd Y hR J |-;clear aM;have aD:Ex B g m R0 229 #[q_ g,i_ left,i_ loops,i_ fn] S_ W W:=⟨hd,Y,hR,D_ [g] W⟩;refine iF (Ex B g m R0 229 #[q_ g,i_ left,i_ loops,i_ fn] S_ W) (λ_ _=>True) (Gr [g,R0]) [SU.yC aN 9 #[.string {data:=#[105]},.string {data:=#[106]},.string {data:=#[107]}] 3,SU.val _ (q_ m),SU.val _ (q_ m),SU.val _ (.pointer (some (c_ m 2))),SU.val _ (i_ loops),SU.num _ 0 3,SU.elem aN 9 #[.string {data:=#[105]},.string {data:=#[106]},.string {data:=#[107]}] 3,SU.pure _ (λv=>∃s,s∈hI/\v=.string s),SU.pure _ (λv=>∃s,s∈hI/\v=.string s)] (SU.any _) [[],[],[1],[2],[3],[4],[0,5],[6],[7]] false [(some 28,0),(some 29,1),(some 30,2),(some 31,3),(some 32,4),(some 33,5),(some 34,6),(some 35,7),(some 6,8)] k_ k_ (λ_ _ _ _ _ h=>h) k_ rfl rfl k_ aD ⟨?_,?_,?_,?_,?_,?_,?_,?_,?_,trivial⟩ ?_
 .exact Ih
 .exact I4
 .exact KZ
 .exact K1
 .exact KM
 .refine hH [(some 32,4)] ?_;intro vs Q C O K H;obtain⟨o, -⟩:=O;replace o:_=_:=o
  try simp only[b_,o]at H |-
  go_simp;have aK:=yj loops hq0;refine H.out _ _ C (D_ _ _) ⟨_,rfl,?_,?_⟩<;>omega
 .exact KL
 .refine hH [(some 34,6)] ?_;intro vs Q C O K H;obtain⟨⟨a7,E,o,bp,bj,bf⟩, -⟩:=O
  try simp only[b_,o]at H |-
  obtain⟨s,hs,bI⟩:=Bj E o_;exact JW
 .refine hH [(some 35,7)] ?_;exact II
 rintro vs bq⟨C,O⟩;obtain⟨⟨aU,e0,F,aS⟩,aP,aL,bN,bY,⟨eg,a6,cA,da⟩,⟨bl,dI,dn,d0,cr,dT⟩,⟨cg,dg,dQ⟩,⟨df,c3,dR⟩, -⟩:=O;replace aP:vs 1=q_ m:=aP;replace aL:vs 2=q_ m:=aL;replace bN:vs 3=.pointer (some (c_ m 2)):=bN;replace bY:vs 4=i_ loops:=bY;simp only[b_,e0,aP,aL,bN,bY,a6,dn,dQ,dR];clear e0 aP aL bN bY a6 dn dQ dR;obtain⟨n,bZ,cp⟩:∃v,v∈hI/\v=df:=⟨df,c3,rfl⟩;rw[<-cp];have aW:=h_ bZ;clear cp bZ;clear hd Y hR;obtain⟨hd,Y,hR,G⟩:=C;replace J:=J.trans G;clear G;obtain⟨w1,de⟩:=nm_ bq;rw[<-de]at hd Y hR J |-;clear de
 rcases(by omega:(k=5)∨(k=6)∨(k=7∨k=8∨k=9))with b8|bW|cj
 .subst b8
  go_upto_region 7 with fail
  obtain⟨W,aM⟩:=nm_ w1;rw[<-aM]at hd Y hR J |-;clear aM;have eL:=aN;clear aN
  have aN:∀y∈[g,m,R0],y<R0+1:=by simp;omega
  have aD:Es B g m R0 229 left loops fn S_ W W:=⟨hd,⟨left,hl0,Ev _,Y⟩,hR,D_ [g,m] W⟩;refine iF (Es B g m R0 229 left loops fn S_ W) (λ_ ag=>∃(t:ST) (N:Nat) (l:Int),Bk ag R0 229 t.g8/\jx (jp (R0+1)) ag t/\SG hI (4-p) N t/\0<=l/\l<=left/\(N:Int)+2*l<=2+2*left/\Bk ag m 222 #[q_ g,i_ l,i_ loops,i_ fn]/\iE ag B g/\Gr [g,m,R0] W ag) (GL [g,m,R0] g m loops fn) [SU.val _ (q_ m),(SU.tree aN (2)).less (λ_ _ h=>h.1),(SU.trees aN 2 1).less (λ_ _ h=>h.1),SU.val _ (q_ m),SU.val _ (i_ P),SU.val _ (i_ (P+1)),SU.l1 aN (4-(p+1)) g m left loops fn,SU.val _ (q_ m),SU.val _ (i_ P),SU.val _ (i_ (P+1)),SU.l2 aN 6 (4-(p+1)) g m left loops fn,SU.of (λv w=>∃(t:ST) (N:Nat) (l:Int),v=.agg t.g8/\jx (jp (R0+1)) w t/\SG hI (4-p) N t/\0<=l/\l<=left/\(N:Int)+2*l<=2+2*left/\Lf g m loops fn l w) (λ_ _ _ hg⟨t,N,l,h1,h2,h3,aw,ax,aY,bA⟩=>⟨t,N,l,h1,h2.h7 hg.1 (λx I=>EH.2 (aN x I)),h3,aw,ax,aY,hg.2 _ bA⟩),SU.any _] (SU.any _) [[],[0],[1],[],[],[4],[3,5],[],[],[8],[7,9,6],[2,6,10],[11]] true [(some 39,0),(some 40,1),(some 41,2),(some 42,3),(some 43,4),(some 44,5),(some 45,6),(some 46,7),(some 47,8),(some 48,9),(some 49,10),(some 50,11),(none,12)] k_ k_ (λ_ _ _ _ _ h=>h) k_ rfl rfl k_ aD ⟨?_,?_,?_,?_,?_,?_,?_,?_,?_,?_,?_,?_,?_,trivial⟩ ?_
  .exact K7
  .refine hH [(some 39,0)] ?_;intro vs Q C O K H;obtain⟨o, -⟩:=O;replace o:_=_:=o
   try simp only[b_,o]at H |-
   obtain⟨cQ,ej,ev,cu⟩:=C.lf;go_simp
   go_at_call 140
   refine(kq B g m cQ loops fn 2 o_ _ rfl _ C.d cu hBm).mono ?_;rintro e w1⟨t,rfl,V,aq,bh,hg1⟩;exact H.out _ _ (C.step hg1 bh U aj) (GL.of hg1 s_ U) ⟨t,rfl,V.le C.r.lt,aq⟩
  .refine hH [(some 40,1)] ?_;intro vs Q C O K H;obtain⟨⟨ta,o,ap,E⟩, -⟩:=O
   try simp only[b_,o]at H |-
   obtain⟨ad,bz,bG,bL,bT,bU,bV⟩:=ta;simp only[ET.h9]at H |-;go_simp;refine H.out _ _ (C.g_ ((D_ [] _).alloc _)) (GL.jQ ((D_ [] _).alloc _)) ⟨_,[ET.mk ad bz bG bL bT bU bV],rfl,rfl,C.r.lt,nf (ET.mk ad bz bG bL bT bU bV) (L_ _ _ _),?_⟩;exact Jl
  .exact K7
  .exact K7
  .refine hH [(some 43,4)] ?_;exact H6
  .refine hH [(some 42,3),(some 44,5)] ?_;exact GI
  .exact K7
  .exact K7
  .refine hH [(some 47,8)] ?_;exact H6
  .refine hH [(some 46,7),(some 48,9),(some 45,6)] ?_;exact GD
  .refine hH [(some 41,2),(some 45,6),(some 49,10)] ?_;intro vs Q C O K H;obtain⟨⟨a7,ta,o,cC,bj,bf,cT⟩, -,⟨dh,dk,dE,dV,Ac,cc,tc,bH,lc,dX,dH,ec,bB,cW,cY,dy,cM⟩, -⟩:=O
   try simp only[b_,o,dX,ec]at H |-
   go_simp;refine H.out _ _ C (GL.jQ (D_ [] _)) ⟨(ST.mk 4 iU iU 0 0 (j_ a7) 1 ta dh dk dE Ac cc tc),1+dV+bH,lc,?_,?_,?_,cW,cY,by push_cast;omega,cM⟩
   .show Value.agg _=Value.agg (ST.mk 4 iU iU 0 0 (j_ a7) 1 ta dh dk dE Ac cc tc).g8
    simp only[ST.h9,cC]
    rfl
   .exact jx.node _ _ _ _ _ _ _ _ (by rw[cC];exact bf) (by rw[cC];exact G_ _) (λy off h=>by injection h with h;injection h with h;omega) (λu hu=>(cT u hu).1) dH bB
   .have hD:4-p=(4-(p+1))+1:=by omega
    rw[hD];exact SG.node (t:=(ST.mk 4 iU iU 0 0 (j_ a7) 1 ta dh dk dE Ac cc tc)) (by show mE _ 4 iU iU 0 0 ta.length true true;rw[cC];exact .Cv) (λu hu=>(cT u hu).2) dH.sg bB.sg
  .refine jf [(some 50,11)] ?_;exact Hc
  exact H8
 .subst bW
  go_upto_region 9 with fail
  obtain⟨W,aM⟩:=nm_ w1;rw[<-aM]at hd Y hR J |-;clear aM;have eL:=aN;clear aN
  have aN:∀y∈[g,m,R0],y<R0+1:=by simp;omega
  have aD:Es B g m R0 229 left loops fn S_ W W.drew:=⟨hd.g_ (D_ [] W).drew,⟨left,hl0,Ev _,Y.g_ (D_ [] W).drew⟩,hR.g_ (D_ [] W).drew,(D_ [g,m] W).drew⟩;refine j8 (Es B g m R0 229 left loops fn S_ W) (λ_ ag=>∃(t:ST) (N:Nat) (l:Int),Bk ag R0 229 t.g8/\jx (jp (R0+1)) ag t/\SG hI (4-p) N t/\0<=l/\l<=left/\(N:Int)+2*l<=2+2*left/\Bk ag m 222 #[q_ g,i_ l,i_ loops,i_ fn]/\iE ag B g/\Gr [g,m,R0] W ag) (GL [g,m,R0] g m loops fn) [(SU.yC aN 9 lO 5).less (λ_ _ h=>h.1),SU.val _ (q_ m),SU.val _ (q_ m),SU.val _ (q_ m),SU.val _ (q_ g),SU.num _ 0 3,(SU.elem aN 9 lO 5).less (λ_ _ h=>h.1),SU.pure _ (λv=>∃s,s∈hI/\v=.string s),SU.val _ (q_ m),SU.val _ (i_ P),SU.val _ (i_ (P+1)),SU.l1 aN (4-(p+1)) g m left loops fn,SU.val _ (q_ m),SU.val _ (i_ P),SU.val _ (i_ (P+1)),SU.l2 aN 11 (4-(p+1)) g m left loops fn,SU.of (λv w=>∃(t:ST) (N:Nat) (l:Int),v=.agg t.g8/\jx (jp (R0+1)) w t/\SG hI (4-p) N t/\0<=l/\l<=left/\(N:Int)+2*l<=2+2*left/\Lf g m loops fn l w) (λ_ _ _ hg⟨t,N,l,h1,h2,h3,aw,ax,aY,bA⟩=>⟨t,N,l,h1,h2.h7 hg.1 (λx I=>EH.2 (aN x I)),h3,aw,ax,aY,hg.2 _ bA⟩),SU.any _] (SU.any _) [[],[],[1],[2],[3],[4],[0,5],[6],[],[],[9],[8,10],[],[],[13],[12,14,11],[7,11,15],[16]] true [(some 53,0),(some 54,1),(some 55,2),(some 56,3),(some 57,4),(some 58,5),(some 59,6),(some 60,7),(some 61,8),(some 62,9),(some 63,10),(some 64,11),(some 65,12),(some 66,13),(some 67,14),(some 68,15),(some 69,16),(none,17)] k_ k_ k_ (λ_ _ _ _ _ h=>h) k_ rfl rfl k_ aD ⟨?_,?_,?_,?_,?_,?_,?_,?_,?_,?_,?_,?_,?_,?_,?_,?_,?_,?_,trivial⟩ ?_
  .refine hH [] ?_;intro vs Q C O K H;clear O
   try simp only[b_]at H |-
   go_simp
   go_at_call 177
   refine(lC _).mono ?_;rintro e w1⟨rfl,rfl⟩;exact H.out _ _ (C.g_ ((D_ [] _).alloc _)) (GL.jQ ((D_ [] _).alloc _)) ⟨_,rfl,C.r.lt,L_ _ _ _⟩
  .exact K7
  .refine hH [(some 54,1)] ?_;exact IH
  .refine hH [(some 55,2)] ?_;exact IH
  .refine hH [(some 56,3)] ?_;intro vs Q C O K H;obtain⟨o, -⟩:=O;replace o:_=_:=o
   try simp only[b_,o]at H |-
   obtain⟨cU,⟨fm,eh,ei,a⟩,bC,cH⟩:=id C;have Z:=a.f_ 0;have ah:=a.f_ 1;have au:=a.f_ 2;have aQ:=a.f_ 3;exact Kh
  .refine hH [(some 57,4)] ?_;intro vs Q C O K H;obtain⟨o, -⟩:=O;replace o:_=_:=o
   try simp only[b_,o]at H |-
   go_simp
   go_at_call 19
   refine(h8 B g _ _ C.d o_ o_).mono ?_;rintro e w1⟨r,rfl,h0,h1,bh,hg1⟩;exact H.out _ _ (C.step hg1 bh U aj) (GL.of hg1 s_ U) ⟨r,rfl,h0,h1⟩
  .refine hH [(some 53,0),(some 58,5)] ?_;intro vs Q C O K H;obtain⟨⟨a7,o,bj,bf⟩,⟨af,ar,c9,cS⟩, -⟩:=O
   try simp only[b_,o,ar]at H |-
   obtain⟨k,rfl⟩:∃k:Nat,af=k:=⟨af.toNat,by omega⟩
   have du:(k:Int)<5:=by omega
   go_simp;exact H.out _ _ C (GL.jQ (D_ [] _)) ⟨a7,k,rfl,by omega,bj,bf⟩
  .refine hH [(some 59,6)] ?_;intro vs Q C O K H;obtain⟨⟨a7,E,o,bp,bj,bf⟩, -⟩:=O
   try simp only[b_,o]at H |-
   obtain⟨s,hs,bI⟩:=Ah E o_;have ah:=(bf.f_ E).trans bI;go_simp;exact H.out _ _ C (GL.jQ (D_ [] _)) ⟨s,hs,rfl⟩
  .exact K7
  .exact K7
  .refine hH [(some 62,9)] ?_;exact H6
  .refine hH [(some 61,8),(some 63,10)] ?_;exact GI
  .exact K7
  .exact K7
  .refine hH [(some 66,13)] ?_;exact H6
  .refine hH [(some 65,12),(some 67,14),(some 64,11)] ?_;exact GD
  .refine hH [(some 60,7),(some 64,11),(some 68,15)] ?_;intro vs Q C O K H;obtain⟨⟨bw,bS,o⟩, -,⟨dj,dq,dG,dW,Ac,cc,tc,bH,lc,dY,dJ,ec,bB,cW,cY,dy,cM⟩, -⟩:=O
   try simp only[b_,o,dY,ec]at H |-
   go_simp;refine H.out _ _ C (GL.jQ (D_ [] _)) ⟨(ST.mk 9 bw iU 0 0 none 0 [] dj dq dG Ac cc tc),1+dW+bH,lc,?_,?_,?_,cW,cY,by push_cast;omega,cM⟩
   .show Value.agg _=Value.agg (ST.mk 9 bw iU 0 0 none 0 [] dj dq dG Ac cc tc).g8
    simp only[ST.h9]
    rfl
   .exact jx.node _ _ _ _ _ _ _ _ (EM _ _ _ _) (G_ _) (λ_ _ h=>by cases h) (λu hu=>by cases hu) dJ bB
   .have hD:4-p=(4-(p+1))+1:=by omega
    rw[hD];exact SG.node (t:=(ST.mk 9 bw iU 0 0 none 0 [] dj dq dG Ac cc tc)) (.AI _ bS) (λu hu=>by cases hu) dJ.sg bB.sg
  .refine jf [(some 69,16)] ?_;exact Hc
  exact H8
 .have d9:(k==5)=false:=by simp;omega
  have ea:(k==6)=false:=by simp;omega
  have dZ:IntKind.i64.wrap (loops+1)=loops+1:=Eg _ o_;have au:=Y.f_ 2;have aX:=Y.hm 2
  go_upto_region 11 with fail
  clear au aX dZ;have M:Gr [m] w1 (w1.setCell (c_ m 2) (i_ (loops+1))):=(D_ [m] w1).setCell (.inl s_) _;replace Y:Bk (w1.setCell (c_ m 2) (i_ (loops+1))) m 222 #[q_ g,i_ left,i_ (loops+1),i_ fn]:=Y.hJ 2 _;replace hd:=hd.h7 M p_;replace hR:=hR.gr M p_;have bP:Gr [g,m] w (w1.setCell (c_ m 2) (i_ (loops+1))):=(J.mono s_).trans (M.mono s_);clear J M;obtain⟨W,aM⟩:=nm_ (w1.setCell (c_ m 2) (i_ (loops+1)));rw[<-aM]at hd Y hR bP |-;clear aM;have aD:Ex B g m R0 229 #[q_ g,i_ left,i_ (loops+1),i_ fn] S_ W W.drew:=⟨hd.g_ (D_ [] W).drew,Y.g_ (D_ [] W).drew,hR.g_ (D_ [] W).drew,(D_ [g] W).drew⟩;refine j8 (Ex B g m R0 229 #[q_ g,i_ left,i_ (loops+1),i_ fn] S_ W) (λvs ag=>∃(R7 x:Nat) (r:Int),vs 10=q_ R7/\0<=r/\r<=9/\R0+1<=R7/\R0+1<=x/\x≠R7/\Bk ag R7 229 #[i_ 5,.string n,.string iU,i_ 0,i_ 0,.slice (j_ x) 2 2,n_,n_]/\Bk ag x 226 #[i_ 1,i_ 0,.string iU,i_ 0,n_,i_ 1,i_ r,.string iU,i_ 0,n_]/\iE ag B g/\Bk ag m 222 #[q_ g,i_ left,i_ (loops+1),i_ fn]/\Bk ag R0 229 S_/\Gr [g,R7] W ag) (Gr [g,R0]) [SU.val _ (.string n),SU.pure _ (λv=>v=.agg #[i_ 1,i_ 0,.string iU,i_ 0,n_]),SU.val _ (q_ m),SU.val _ (q_ m),SU.val _ (q_ m),SU.val _ (q_ g),SU.num _ 0 5,SU.pure _ (λv=>∃r:Int,0<=r/\r<=9/\v=.agg #[i_ 1,i_ r,.string iU,i_ 0,n_]),SU.of (λv w=>∃(x:Nat) (r:Int),0<=r/\r<=9/\v=.slice (j_ x) 2 2/\R0+1<=x/\Bk w x 226 #[i_ 1,i_ 0,.string iU,i_ 0,n_,i_ 1,i_ r,.string iU,i_ 0,n_]) (λ_ _ _ hg⟨x,r,h0,h1,h2,h3,aw⟩=>⟨x,r,h0,h1,h2,h3,aw.gr hg (λY=>by have:=aN x Y;omega)⟩),SU.of (λv w=>∃(x:Nat) (r:Int),0<=r/\r<=9/\v=.agg #[i_ 5,.string n,.string iU,i_ 0,i_ 0,.slice (j_ x) 2 2,n_,n_]/\R0+1<=x/\Bk w x 226 #[i_ 1,i_ 0,.string iU,i_ 0,n_,i_ 1,i_ r,.string iU,i_ 0,n_]) (λ_ _ _ hg⟨x,r,h0,h1,h2,h3,aw⟩=>⟨x,r,h0,h1,h2,h3,aw.gr hg (λY=>by have:=aN x Y;omega)⟩),SU.of (λv w=>∃R7,v=q_ R7/\R0+1<=R7/\Bk w R7 229 #[i_ 0,.string iU,.string iU,i_ 0,i_ 0,n_,n_,n_]) (λ_ _ _ hg⟨x,h2,h3,aw⟩=>⟨x,h2,h3,aw.gr hg (λY=>by have:=aN x Y;omega)⟩),SU.any _] (SU.any _) [[],[],[],[2],[3],[4],[5],[6],[1,7],[0,8],[],[10,9]] true [(some 77,0),(some 78,1),(some 79,2),(some 80,3),(some 81,4),(some 82,5),(some 83,6),(some 84,7),(some 85,8),(some 86,9),(some 7,10),(none,11)] k_ k_ k_ (λ_ _ _ _ _ h=>h) k_ rfl rfl k_ aD ⟨?_,?_,?_,?_,?_,?_,?_,?_,?_,?_,?_,?_,trivial⟩ ?_
  .exact I4
  .refine hH [] ?_;intro vs Q C O K H;clear O
   try simp only[b_]at H |-
   go_simp
   go_at_call 144
   refine(jY 0 _).mono ?_;exact Kb
  .exact I4
  .refine hH [(some 79,2)] ?_;exact IP
  .refine hH [(some 80,3)] ?_;exact IP
  .refine hH [(some 81,4)] ?_;exact HM
  .refine hH [(some 82,5)] ?_;exact Hz
  .refine hH [(some 83,6)] ?_;exact HF
  .refine hH [(some 78,1),(some 84,7)] ?_;intro vs Q C O K H;obtain⟨o,⟨af,c9,cS,ar⟩, -⟩:=O;replace o:_=_:=o
   try simp only[b_,o,ar]at H |-
   go_simp;exact H.out _ _ (C.g_ ((D_ [] _).alloc _)) ((D_ _ _).alloc _) ⟨_,af,c9,cS,rfl,C.r.lt,L_ _ _ _⟩
  .refine hH [(some 77,0),(some 85,8)] ?_;intro vs Q C O K H;obtain⟨o,⟨aI,af,c9,cS,ar,cw,bv⟩, -⟩:=O;replace o:_=_:=o
   try simp only[b_,o,ar]at H |-
   go_simp;exact H.out _ _ C (D_ _ _) ⟨aI,af,c9,cS,rfl,cw,bv⟩
  .exact Ih
  .refine jf [(some 7,10),(some 86,9)] ?_;intro vs Q C O K H;obtain⟨⟨a7,o,bj,bf⟩,⟨aI,af,c9,cS,ar,cw,bv⟩, -⟩:=O
   try simp only[b_,o,ar]at H |-
   refine iL k_ ?_;refine h4 229 _ _ rfl a7 r_ #[i_ 5,.string n,.string iU,i_ 0,i_ 0,.slice (j_ aI) 2 2,n_,n_] r_ 229 _ bf rfl k_ (by simp[Value.oneCell']) ?_;intro ag az G;have av:aI≠a7:=Bk.lF bv bf d_;have dx:=C.g.size;exact H.out undef _ (λ_=>⟨a7,aI,af,o,c9,cS,bj,cw,av,az,bv.gr G (by simpa using av),C.d.h7 G p_,C.m.gr G p_,C.r.gr G p_,(C.g.mono s_).trans (G.mono s_)⟩)
  intro vs bq C;simp only[b_];clear hd Y hR aD;obtain⟨R7,x,r,e10,bu,dO,bA,bX,db,be,L,hd,Y,hR,G⟩:=C;rw[e10];clear e10;have dM:=di;replace bP:=bP.hx G p_;clear G
  by_cases b4:0<P
  focus
   go_upto_region 13 with fail
   have eL:=aN;clear aN
   have aN:∀y∈[g,x],y<x+1:=by simp;omega
   obtain⟨W,aM⟩:=nm_ bq;rw[<-aM]at hd Y hR be L bP |-;clear aM;have aD:BJ B g m R0 R7 x #[q_ g,i_ left,i_ (loops+1),i_ fn] S_ #[i_ 5,.string n,.string iU,i_ 0,i_ 0,.slice (j_ x) 2 2,n_,n_] #[i_ 1,i_ 0,.string iU,i_ 0,n_,i_ 1,i_ r,.string iU,i_ 0,n_] W W.drew:=⟨hd.g_ (D_ [] W).drew,Y.g_ (D_ [] W).drew,hR.g_ (D_ [] W).drew,be.g_ (D_ [] W).drew,L.g_ (D_ [] W).drew,(D_ [g] W).drew⟩
   have aH:x≠g:=by omega
   have dr:R7≠g:=by omega
   refine j8 (BJ B g m R0 R7 x #[q_ g,i_ left,i_ (loops+1),i_ fn] S_ #[i_ 5,.string n,.string iU,i_ 0,i_ 0,.slice (j_ x) 2 2,n_,n_] #[i_ 1,i_ 0,.string iU,i_ 0,n_,i_ 1,i_ r,.string iU,i_ 0,n_] W) (λ_ ag=>∃r:Int,0<=r/\r<=9/\Bk ag x 226 #[i_ 1,i_ 0,.string iU,i_ 0,n_,i_ 1,i_ r,.string iU,i_ 0,n_]/\Bk ag R7 229 #[i_ 5,.string n,.string iU,i_ 0,i_ 0,.slice (j_ x) 2 2,n_,n_]/\iE ag B g/\Bk ag m 222 #[q_ g,i_ left,i_ (loops+1),i_ fn]/\Bk ag R0 229 S_/\Gr [g,x] W ag) (Gr [g,x]) [SU.val _ (.pointer (some (c_ R7 5))),SU.val _ (.slice (j_ x) 2 2),SU.val _ (q_ m),SU.val _ (q_ m),SU.val _ (q_ m),SU.val _ (q_ g),SU.num _ 0 3,SU.pure _ (λv=>∃r:Int,0<=r/\r<=9/\v=.agg #[i_ 1,i_ r,.string iU,i_ 0,n_]),SU.val _ (.pointer (some (c_ x 5))),SU.any _] (SU.any _) [[],[0],[],[2],[3],[4],[5],[6],[1],[8,7]] true [(some 89,0),(some 90,1),(some 91,2),(some 92,3),(some 93,4),(some 94,5),(some 95,6),(some 96,7),(some 97,8),(none,9)] k_ k_ k_ (λ_ _ _ _ _ h=>h) k_ rfl rfl k_ aD ⟨?_,?_,?_,?_,?_,?_,?_,?_,?_,?_,trivial⟩ ?_
   .exact I4
   .refine hH [(some 89,0)] ?_;exact HY
   .exact I4
   .refine hH [(some 91,2)] ?_;exact IP
   .refine hH [(some 92,3)] ?_;exact IP
   .refine hH [(some 93,4)] ?_;exact HY
   .refine hH [(some 94,5)] ?_;intro vs Q C O K H;obtain⟨o, -⟩:=O;replace o:_=_:=o
    try simp only[b_,o]at H |-
    go_simp
    go_at_call 19
    refine(h8 B g _ _ C.d o_ o_).mono ?_;rintro e w1⟨r,rfl,h0,h1,bh,hg1⟩;exact H.out _ _ (C.step hg1 bh U aj dr aH) (hg1.mono s_) ⟨r,rfl,h0,h1⟩
   .refine hH [(some 95,6)] ?_;exact HF
   .refine hH [(some 90,1)] ?_;exact IP
   .refine jf [(some 97,8),(some 96,7)] ?_;intro vs Q C O K H;obtain⟨o,⟨af,c9,cS,ar⟩, -⟩:=O;replace o:_=_:=o
    try simp only[b_,o,ar]at H |-
    refine iL k_ ?_;refine jq 226 _ _ rfl x 5 r_ #[i_ 1,i_ af,.string iU,i_ 0,n_] r_ 226 _ C.x s_ k_ (by simp[Value.oneCell']) ?_;intro ag az G;exact H.out undef _ (λ_=>⟨af,c9,cS,az,C.s.gr G (by simpa using db.symm),C.d.h7 G p_,C.m.gr G p_,C.r.gr G p_,(C.g.mono s_).trans (G.mono s_)⟩)
   intro vs bq C;simp only[b_];clear hd Y hR be L aD bu dO;obtain⟨r,bu,dO,L,be,hd,Y,hR,G⟩:=C;replace bP:=bP.hx G p_;clear G
  all_goals
   obtain⟨ai,ci⟩:=nm_ bq;rw[<-ci]at hd Y hR be L bP |-;clear ci;have bN:IntKind.i64.wrap (P+1)=P+1:=Eg _ o_
   go_upto_region 15 with(go_at_call 139;refine(bg (P+1) 3 left (loops+1) _ (by have:=aT.out;omega) o_ o_ hd Y hBm o_ o_ o_ (by push_cast;omega)).mono ?_;rintro e T⟨A,c,ts,N,l,rfl,c8,ca,ck,dU,br,co,bt,aO⟩;obtain⟨n0,hn0⟩:=nm_ ts.length;rw[<-hn0];have a2:=h_ hn0;rw[<-hn0]at c8;clear hn0;have d1:=(be.gr aO p_).f_ 6;have dK:=(be.gr aO p_).hm 6)
   clear d1 dK bN;have cK:R7<ai.heap.size/\x<ai.heap.size/\R0<ai.heap.size:=⟨be.lt,L.lt,hR.lt⟩;have am:Gr [R7] T (T.setCell (c_ R7 6) (.slice A n0 c)):=(D_ [R7] T).setCell (.inl s_) _;have bn:Bk (T.setCell (c_ R7 6) (.slice A n0 c)) R7 229 #[i_ 5,.string n,.string iU,i_ 0,i_ 0,.slice (j_ x) 2 2,.slice A n0 c,n_]:=(be.gr aO p_).hJ 6 _;have ao:=ca.ir am p_;have aZ:=(L.gr aO p_).gr am (by simpa using db);have aB:=bt.h7 am p_;have bo:=co.gr am p_;have bD:=(hR.gr aO p_).gr am p_;have ak:Gr [g,m] w (T.setCell (c_ R7 6) (.slice A n0 c)):=(bP.trans aO).hx am p_;have dL:ai.heap.size<=(T.setCell (c_ R7 6) (.slice A n0 c)).heap.size:=F_ aO.size am.size;clear be L hd Y hR bP ca bt co aO am;obtain⟨ae,b9⟩:=nm_ (T.setCell (c_ R7 6) (.slice A n0 c));rw[<-b9]at bn ao aZ aB bo bD ak dL |-;clear b9;have bQ:ai.heap.size<=ae.heap.size:=dL
   by_cases c7:k=9
   .have d3:(k==9)=true:=by simp[c7]
    have Z:=bo.f_ 0
    go_wp2_with fail
    go_at_call 19
    refine(h8 B g 2 _ aB o_ o_).mono ?_;rintro e aF⟨q,rfl,eb,ed,bM,aC⟩;clear Z aB;have aB:=bM;replace bo:=bo.gr aC p_;replace bD:=bD.gr aC p_;replace bn:=bn.gr aC p_;replace aZ:=aZ.gr aC p_;replace ao:=ao.ir aC p_;replace ak:=ak.trans (aC.mono s_);replace bQ:=F_ bQ aC.size;clear aC bM;obtain⟨ae,b9⟩:=nm_ aF;rw[<-b9]at aB bo bD bn aZ ao ak bQ |-;clear b9
    by_cases cl:q=0
    .subst cl
     go_upto_region 16 with fail
     have av:=a2.out;subst av;obtain⟨W,aM⟩:=nm_ ae;rw[<-aM]at aB bo bD bn ao ak bQ |-;clear aM
     have cJ:∀y∈[g],y∈(g::ot (Value.slice A ts.length c).ownBlock):=by simp
     have ey:∀y∈ot (Value.slice A ts.length c).ownBlock,ai.heap.size<=y:=λy hy=>(kj ao.own (jw.1 hy)).1
     have eP:∀y,(Value.slice A ts.length c).ownBlock=some y->y<W.heap.size:=λy hy=>(kj ao.own hy).2
     have d4:ai.heap.size<=W.heap.size:=bQ;have eL:=aN;clear aN;have aN:∀y∈(g::ot (Value.slice A ts.length c).ownBlock),y<W.heap.size:=J7
     have dr:R7≠g:=by omega
     have hbg:g<ai.heap.size:=by omega
     have aD:Ws B g m R0 R7 ai.heap.size (4-(p+1)) N A c ts #[q_ g,i_ l,i_ (loops+1),i_ fn] S_ #[i_ 5,.string n,.string iU,i_ 0,i_ 0,.slice (j_ x) 2 2,.slice A ts.length c,n_] W false W.drew:=⟨aB.g_ (D_ [] W).drew,bo.g_ (D_ [] W).drew,bD.g_ (D_ [] W).drew,bn.g_ (D_ [] W).drew,λ_=>ao.ir (D_ [] W).drew s_,(D_ (g::ot (Value.slice A ts.length c).ownBlock) W).drew,by omega,by omega,by omega⟩;refine nT (λf=>Ws B g m R0 R7 ai.heap.size (4-(p+1)) N A c ts #[q_ g,i_ l,i_ (loops+1),i_ fn] S_ #[i_ 5,.string n,.string iU,i_ 0,i_ 0,.slice (j_ x) 2 2,.slice A ts.length c,n_] W (f 19)) (λ_ ag=>∃(t:ST) (K:Nat),Bk ag R7 229 t.g8/\jx (jp (R7+1)) ag t/\SG hI (4-p) K t/\(K:Int)<=N+2/\iE ag B g/\Bk ag m 222 #[q_ g,i_ l,i_ (loops+1),i_ fn]/\Bk ag R0 229 S_/\Gr (R7::(g::ot (Value.slice A ts.length c).ownBlock)) W ag) (G2 19 [g] (g::ot (Value.slice A ts.length c).ownBlock)) [SU.l4 _ (.string n),(SU.tree aN (0)).uI (λ_ _ _ h=>h.gr cJ),SU.l4 _ (q_ m),SU.l4 _ (q_ m),SU.l4 _ (q_ m),SU.l4 _ (q_ g),(SU.num _ 0 4).uI (λ_ _ _ h=>h.gr cJ),(SU.tree aN (0)).uI (λ_ _ _ h=>h.gr cJ),(SU.tree aN (0+1)).uI (λ_ _ _ h=>h.gr cJ),(SU.trees aN 2 1).uI (λ_ _ _ h=>h.gr cJ),SU.l4 _ (.pointer (some (c_ R7 6))),SU.l4 _ (.slice A ts.length c),SU.l4 _ (.string n),SU.l4 _ (.string n),(SU.tree aN (0)).uI (λ_ _ _ h=>h.gr cJ),(SU.tree aN (0)).uI (λ_ _ _ h=>h.gr cJ),(SU.tree aN (0+1)).uI (λ_ _ _ h=>h.gr cJ),(SU.stmt aN (1) (1)).uI (λ_ _ _ h=>h.gr cJ),(SU.of (λv w=>∃(x:Nat) (t:ST),v=.slice (j_ x) 1 1/\W.heap.size<=x/\Bk w x 229 t.g8/\jx (jp W.heap.size) w t/\SG hI 1 1 t) (λ_ _ _ hg⟨x,t,h1,h2,h3,aw,ax⟩=>⟨x,t,h1,h2,h3.gr hg (λY=>by have:=aN x Y;omega),aw.h7 hg (λy hy=>EH.2 (aN y hy)),ax⟩)).uI (λ_ _ _ h=>h.gr cJ),SU.yI [19] (λv w=>∃(ay:Option Addr) (an:Nat) (us:List ST) (K:Nat),v=.slice ay us.length an/\lm hI ai.heap.size (4-(p+1)) K w ay an us/\K<=N+1) (λi hi v w w' hg⟨ay,an,us,K,h1,h2,h3⟩=>⟨ay,an,us,K,h1,h2.ir (hg.ne (by simpa using hi)) p_,h3⟩),SU.yI [19] (λv w=>∃(t:ST) (K:Nat),v=.agg t.g8/\jx (jp (R7+1)) w t/\SG hI (4-p) K t/\(K:Int)<=N+2) (λi hi v w w' hg⟨t,K,h1,h2,h3,aw⟩=>⟨t,K,h1,h2.h7 (hg.ne (by simpa using hi)) p_,h3,aw⟩),SU.anyI _] (SU.anyI _) [[],[0],[],[2],[3],[4],[5],[6],[1,7],[8],[],[10],[],[],[13],[],[14,15],[12,16],[17],[11,18],[9,19],[20]] true [(some 113,0),(some 114,1),(some 115,2),(some 116,3),(some 117,4),(some 118,5),(some 119,6),(some 120,7),(some 121,8),(some 122,9),(some 123,10),(some 124,11),(some 125,12),(some 126,13),(some 127,14),(some 128,15),(some 129,16),(some 130,17),(some 131,18),(some 132,19),(some 133,20),(none,21)] k_ k_ k_ (λ_ _ _ _ _ h=>h) k_ rfl rfl k_ aD ⟨?_,?_,?_,?_,?_,?_,?_,?_,?_,?_,?_,?_,?_,?_,?_,?_,?_,?_,?_,?_,?_,?_,trivial⟩ ?_
     .exact I1
     .refine i3 [(some 113,0)] ?_;exact Hy
     .exact I1
     .refine i3 [(some 115,2)] ?_;exact IK
     .refine i3 [(some 116,3)] ?_;exact IK
     .refine i3 [(some 117,4)] ?_;exact HW
     .refine i3 [(some 118,5)] ?_;intro f vs Q hf C O K H;obtain⟨o, -⟩:=O;replace o:_=_:=o
      try simp only[b_,o]at H |-
      go_simp
      go_at_call 19
      refine(h8 B g _ _ C.d o_ o_).mono ?_;rintro e w1⟨r,rfl,h0,h1,bh,hg1⟩;exact H.out _ _ (C.step hg1 bh U aj dr hbg) hg1 ⟨r,rfl,h0,h1⟩
     .refine i3 [(some 119,6)] ?_;intro f vs Q hf C O K H;exact HI
     .refine i3 [(some 114,1),(some 120,7)] ?_;intro f vs Q hf C O K H;exact Ho
     .refine i3 [(some 121,8)] ?_;exact G3
     .exact I1
     .refine i3 [(some 123,10)] ?_;exact HW
     .exact I1
     .exact I1
     .refine i3 [(some 126,13)] ?_;exact Hy
     .refine i3 [] ?_;intro f vs Q hf C O K H;exact HT
     .refine i3 [(some 127,14),(some 128,15)] ?_;intro f vs Q hf C O K H;obtain⟨⟨ta,o,ap,E⟩,⟨tb,ar,X,d⟩, -⟩:=O
      try simp only[b_,o,ar]at H |-
      go_simp
      go_at_call 143
      refine(ol W.heap.size 1 ta tb _ C.hz ap X).mono ?_;rintro e w1⟨A,rfl,V,hg1⟩;exact H.out _ _ (C.g_ hg1) (hg1.mono s_) ⟨pK 1 A ta tb,rfl,V,.bin 0 _ _ _ _ o_ o_ (E.mono o_) (d.mono o_)⟩
     .refine i3 [(some 125,12),(some 129,16)] ?_;intro f vs Q hf C O K H;obtain⟨o,⟨tb,ar,X,d⟩, -⟩:=O;replace o:_=_:=o
      try simp only[b_,o,ar]at H |-
      go_simp
      go_at_call 142
      refine(kw W.heap.size _ _ _ C.hz X).mono ?_;rintro e w1⟨A,rfl,V,hg1⟩;exact H.out _ _ (C.g_ hg1) (hg1.mono s_) ⟨iS _ A _,rfl,V,SG.leaf (.uE _ aW.out) rfl rfl (by intro u hu;rcases M_.1 hu with rfl|hu;exact d.mono o_;cases hu)⟩
     .refine i3 [(some 130,17)] ?_;exact Hg
     .refine i3 [(some 124,11),(some 131,18)] ?_;intro f vs Q hf C O K H;obtain⟨o,⟨aI,tb,ar,cw,bv,X,d⟩, -⟩:=O;replace o:_=_:=o
      try simp only[b_,o,ar]at H |-
      have ca:=C.lf hf;have e7:=C.hz;refine iL k_ ?_;refine oy _ _ _ rfl ai.heap.size 229 i1 _ 8 128 underlying211 bK b0 b5 cf rfl d_ d_ A ts.length c (ts.flatMap ST.E) r_ ca.own _ 1 1 ([tb].flatMap ST.E) r_ (qZ tb bv) (kM _) o_ o_ ?_;intro ay an bJ ce bE bF;have cZ:=ca.add (us:=[tb]) ce bE bF (λu hu=>by have:u=tb:=(by simpa using hu);subst this;exact X.imp (λy hy=>⟨by have:W.heap.size<=y:=hy;omega,λhe=>by have h1:=eP y he;have:W.heap.size<=y:=hy;omega⟩)) (d.mono o_);exact H.out (.slice ay (ts.length+1) an) _ (C.app (Gr.iM bE) ey o_) ((Gr.iM bE).mono (by intro y hy;simp[hy])) ⟨ay,an,ts++[tb],N+1,by simp,by simpa using cZ,G_ _⟩
     .refine i3 [(some 122,9),(some 132,19)] ?_;intro f vs Q hf C O K H;obtain⟨⟨a7,ta,o,cC,bj,bf,cT⟩,⟨dm,cb,tb,eI,ar,dP,nb⟩, -⟩:=O
      try simp only[b_,o,ar]at H |-
      go_simp;refine H.out _ _ C (D_ _ _) ⟨(ST.mk 6 iU iU 0 0 (j_ a7) 1 ta dm cb tb none 0 []),1+eI,?_,?_,?_,by push_cast;omega⟩
      .show Value.agg _=Value.agg (ST.mk 6 iU iU 0 0 (j_ a7) 1 ta dm cb tb none 0 []).g8
       simp only[ST.h9,cC]
       rfl
      .have gd:=d4;exact jx.node _ _ _ _ _ _ _ _ (by rw[cC];exact bf) (by rw[cC];exact G_ _) (λy off h=>by injection h with h;injection h with h;omega) (λu hu=>(cT u hu).1.le o_) (dP.le o_) (lm.nil _ _ _ _)
      .have hD:4-p=(4-(p+1))+1:=by omega
       rw[hD];exact SG.loop (t:=(ST.mk 6 iU iU 0 0 (j_ a7) 1 ta dm cb tb none 0 [])) (by show mE _ 6 iU iU 0 0 ta.length true false;rw[cC];exact .C8) rfl (λu hu=>(cT u hu).2) dP.sg
     .refine u3 [(some 133,20)] ?_;intro f vs Q hf C O K H;obtain⟨⟨ta,er,o,ap,E,bp⟩, -⟩:=O
      try simp only[b_,o]at H |-
      refine iL k_ ?_;refine h4 229 _ _ rfl R7 r_ ta.g8 r_ 229 _ C.s rfl k_ (ST.one _) ?_;intro ag az G;exact H.out undef _ (λ_=>⟨ta,er,az,ap.h7 G s_,E,bp,C.d.h7 G p_,C.m.gr G p_,C.r.gr G p_,(C.g.mono (by intro y hy;simp[hy])).trans (G.mono s_)⟩)
     intro f vs bq hf C;simp only[b_];clear aB bo bD bn ao aD;obtain⟨t,K,S,V,aq,cN,aB,bo,bD,G⟩:=C
     have dS:(K:Int)+2*l<=2+2*left:=by omega
     replace V:=V.le (show R0+1<=R7+1 by omega)
     replace ak:=ak.hx G (by
      intro y hy
      rcases M_.1 hy with rfl|hy
      .right;omega
      .rcases M_.1 hy with rfl|hy
       .left;simp
       .right
        have:=ey y hy
        omega)
     clear G;obtain⟨ae,b9⟩:=nm_ bq;rw[<-b9]at S V aB bo bD ak |-;clear b9;exact Gw
    .have ef:(q==0)=false:=by simp[cl]
     exact Gj
   .have d3:(k==9)=false:=by simp[c7]
    exact Gj
theorem stmt_3(B g m:Nat)(fn:Int):Dy 3 B g m fn:=by
 intro P left loops w hP hd Y hBm hl0 hl1 hq0 hq1
 have d2:3<=P:=by omega
 clear hP;obtain⟨p,hp⟩:=nm_ 3;rw[<-hp];have aS:=hp;clear hp;have a8:=hd.vl;have cv:=Y.lt
 go_enter func176,ntmps176
 go_upto_region 1 with fail
 have aV:Gr [] w (w.alloc (.cells S_ 229)):=(D_ [] w).alloc _;replace hd:=hd.g_ aV;replace Y:=Y.g_ aV;have hR:=L_ w 229 S_;have J:Gr [g] w (w.alloc (.cells S_ 229)):=(D_ [g] w).alloc _;clear aV;obtain⟨bm,b3⟩:=nm_ (w.alloc (.cells S_ 229));rw[<-b3]at hd Y hR J |-;clear b3;obtain⟨R0,cn⟩:=nm_ w.heap.size;rw[<-cn]at hR |-
 have di:w.heap.size<=R0:=by omega
 have cI:g<R0:=by omega
 have j:B<=R0:=by omega
 have cR:m<R0:=by have:=cv;omega
 clear cn
 have aN:∀y∈[g,R0],y<R0+1:=by simp;omega
 have U:m≠g:=by omega
 have aj:R0≠g:=by omega
 have Z:=Y.f_ 0;have bf:=h_ aS;clear aS
 go_upto_region 2 with(go_at_call 19;refine(h8 B g 10 _ hd o_ o_).mono ?_;rintro e w1⟨k,rfl,b8,bW,bt,aO⟩)
 clear Z;replace Y:=Y.gr aO p_;replace hR:=hR.gr aO p_;replace J:=J.trans aO;replace hd:=bt;clear aO
 go_upto_region 3 with fail
 obtain⟨W,aM⟩:=nm_ w1;rw[<-aM]at hd Y hR J |-;clear aM;have aD:Ex B g m R0 229 #[q_ g,i_ left,i_ loops,i_ fn] S_ W W:=⟨hd,Y,hR,D_ [g] W⟩;refine iF (Ex B g m R0 229 #[q_ g,i_ left,i_ loops,i_ fn] S_ W) (λ_ ag=>∃t,Bk ag R0 229 t.g8/\jx (jp (R0+1)) ag t/\SG hI 1 1 t/\iE ag B g/\Gr [g,R0] W ag) (Gr [g,R0]) [SU.val _ (q_ m),SU.stmt aN (1) (1),SU.any _] (SU.any _) [[],[0],[1]] true [(some 26,0),(some 27,1),(none,2)] k_ k_ (λ_ _ _ _ _ h=>h) k_ rfl rfl k_ aD ⟨?_,?_,?_,trivial⟩ ?_
 .exact I4
 .exact KJ
 .exact KI
 intro vs bq C;simp only[b_];obtain⟨t,az,V,aq,aR,G⟩:=C;go_wp2;exact rr_ t.g8 az underlying229 ⟨t,1,left,rfl,V.le o_,lJ.mono aq (by have:=bf.out;omega),hl0,Ev _,by omega,Y.gr G p_,aR,(J.hx G p_).mono s_⟩
theorem sU(B g m:Nat)(fn:Int):Dh 0 B g m fn/\Dh 1 B g m fn:=by
 have cx:=stmt_3 B g m fn;have dk:=r6 3 o_ B g m fn cx;have b6:=uk 2 o_ B g m fn dk;have l2:=r6 2 o_ B g m fn b6;have s1:=uk 1 o_ B g m fn l2;have l1:=r6 1 o_ B g m fn s1;have s0:=uk 0 o_ B g m fn l1;exact⟨r6 0 o_ B g m fn s0,l1⟩
theorem sJ{w:World}{g base:Nat}{t:TypeId}{cs:Array Value}{n s:Nat}(h:Bk w g t cs)(hs:cs.size=n*s)(hb:base<=g)(hn:n<=maxLen):w.ownsRow base t s (.slice (j_ g) n n) n cs.toList:=
 ⟨by simpa using hs,.inr ⟨g,n,cs,rfl,hb,h,G_ _,hn,hs,by rw[W_ p_]⟩⟩
theorem sw(l:List ByteArray):∀u∈l.map Value.string,u.oneCell'=true:=by
 intro u hu;obtain⟨s,_,rfl⟩:=D2.1 hu
 rfl
theorem BN(k:Nat)(hk:k<8):∃s,s∈hI/\hI[k]?=some s/\hI.take (k+1)=hI.take k++[s]:=by
 match k,hk with
 |0,_=>exact⟨vh,by simp[hI],rfl,rfl⟩
 |1,_=>exact⟨ur,by simp[hI],rfl,rfl⟩
 |2,_=>exact⟨uJ,by simp[hI],rfl,rfl⟩
 |3,_=>exact⟨oW,by simp[hI],rfl,rfl⟩
 |4,_=>exact⟨mH,by simp[hI],rfl,rfl⟩
 |5,_=>exact⟨ou,by simp[hI],rfl,rfl⟩
 |6,_=>exact⟨wB,by simp[hI],rfl,rfl⟩
 |7,_=>exact⟨wA,by simp[hI],rfl,rfl⟩
def C5(aS D N:Nat)(ls:List ST)(w:World)(e:Ending)(w':World):Prop:=
 ∃(A:Option Addr) (c:Nat) (Z:List ST),e=.returned (.slice A (Z++ls).length c)/\lm hI aS (D+1) (8+N) w' A c (Z++ls)/\Z.map ST.name=hI/\(∀s∈Z,s.hT=1)/\Gr [] w w'/\w.heap.size<=w'.heap.size/\(∀x,(Value.slice A (Z++ls).length c).ownBlock=some x->w.heap.size<=x)
theorem t7(aS D N:Nat)(A:Option Addr)(n c:Nat)(ls:List ST)(d1:Option Addr)(cm:Nat)(em:TypeId)(w:World)(hn:ls.length=n)(hl:Sl w 229 8 A n (ls.flatMap ST.E))(aG:n<=1000)(v:∀u∈ls,jx (jp aS) w u)(bS:lJ hI (D+1) N ls)(B:aS<=w.heap.size)
 (Y:Sl w em 1 d1 3 ([ou,wB,wA].map Value.string)):
 Calls prog 141 #[.slice A n c,.slice d1 3 cm] w (C5 aS D N ls w):=by
 obtain⟨i1,bK,b0,b5,cf⟩:=info_parts infoSt;obtain⟨i2,aM,bX,cg,cp⟩:=info_parts infoStr;obtain⟨i,a⟩:=nm_ (C5 aS D N ls w);rw[<-a];have aD:=h_ a;have a2:=h_ hn;clear a hn;obtain⟨bm,b3⟩:=nm_ w.heap.size
 have au:bm<=w.heap.size:=by omega
 have bC:w.heap.size<=bm:=by omega
 have cw:aS<=bm:=by omega
 clear b3
 go_enter func141,ntmps141
 go_wp2_with (first|(go_at_call 177;refine(lC _).mono ?_;rintro e w1⟨rfl,rfl⟩)|(at_builtin;refine jU rfl _ _ _ rfl bm 9 i2 _ 1 16 underlying207 aM bX cg cp rfl d_ d_ (j_ w.heap.size) 5 5 _ rfl (sJ (n:=5) (s:=1) (L_ w 9 lO) rfl au d_) d1 3 cm _ rfl (Y.alloc _) (sw _) o_ p_ ?_;intro bW cA w2 ce aW dN))
 have bP:=((D_ [] w).alloc _).hx (Gr.iM aW) (λx I=>by have:=jw.1 I;simp[Value.ownBlock]at this;right;omega);have aq:Sl w2 9 1 bW 8 (hI.map Value.string):=Sl.iG ce;clear ce aW dN
 go_loopw [5,12] (λG ar w'=>∃(k:Nat) (f:Option Addr) (g:Nat) (Z:List ST),k<=8/\ar=i_ k/\Z.length=k/\G=.slice f Z.length g/\lm hI bm (D+1) k w' f g Z/\Z.map ST.name=hI.take k/\(∀s∈Z,s.hT=1)/\Gr [] w w'/\Sl w' 9 1 bW 8 (hI.map Value.string)/\w2.heap.size<=w'.heap.size) (λ_ ar _=>8-(intOf ar).toNat)
 case atStart=>exact⟨0,none,0,[],by omega,rfl,rfl,rfl,lm.nil _ _ _ _,rfl,(by intro s hs;cases hs),bP,aq,G_ _⟩
 case round=>
  obtain⟨k,f,g,Z,hk,rfl,aH,rfl,hL,dV,E,d,h,aI⟩:=hrel;have bQ:=h_ aH;have eU:=h_ dV;have ao:=hL.own;rw[aH]at ao |-;clear aH dV aq bP
  by_cases aj:k<8
  .obtain⟨s,hs,l,bN⟩:=BN k aj;have bL:=h_ bN;obtain⟨b,off,m,j⟩:=h.f_ o_;subst m;have ah:=j k (.string s) (by rw[Eq,l];rfl);clear bN l j
   go_wp2_with (first|(go_at_call 144;refine(jY 0 _).mono ?_;rintro e ai⟨rfl,S⟩)|(go_at_call 142;refine(kw ai.heap.size s (jj 0) ai (G_ _) (kc.leaf _ _ _ _ _ _)).mono ?_;rintro e T⟨As,rfl,V,af⟩;have C:=iu (iu (iu ao S) af) ((D_ [] T).alloc (.cells (iS s As (jj 0)).g8 229));have hbs:bm<=(T.alloc (.cells (iS s As (jj 0)).g8 229)).heap.size:=(by have:=S.size;have:=af.size;have:=d.size;simp;omega);simp only[iS,ST.h9])|(at_builtin;refine jU rfl _ _ _ rfl bm 229 i1 _ 8 128 underlying211 bK b0 b5 cf rfl d_ d_ f k g (Z.flatMap ST.E) rfl C _ 1 1 ([iS s As (jj 0)].flatMap ST.E) rfl (qZ (iS s As (jj 0)) (L_ T 229 _)) (kM _) o_ hbs ?_;intro a6 c5 ae aX bE bF))
   go_roundw
   case rel=>
    have aK:=bQ.out;subst aK;have e1:lm hI bm (D+1) Z.length (T.alloc (.cells (iS s As (jj 0)).g8 229)) f g Z:=((hL.ir S s_).ir af s_).ir ((D_ [] T).alloc _) s_
    have M:jx (yf bm (Value.slice f Z.length g).ownBlock) (T.alloc (.cells (iS s As (jj 0)).g8 229)) (iS s As (jj 0)):=by
     have h3:=S.size;have aw:=d.size;refine(V.imp λx I=>⟨?_,λhe=>?_⟩).g_ ((D_ [] T).alloc _)
     .have:ai.heap.size<=x:=I
      omega
     .have h1:=(kj ao he).2
      have:ai.heap.size<=x:=I
      omega
    have p:lJ hI (D+1) 1 [iS s As (jj 0)]:=SG.leaf (.uE _ hs) rfl rfl (by intro u hu;rcases M_.1 hu with rfl|hu;exact .num _ _ o_ o_;cases hu);have cZ:=e1.add (us:=[iS s As (jj 0)]) aX bE bF (λu hu=>by have:u=iS s As (jj 0):=(by simpa using hu);subst this;exact M) p;have am:=Gr.iM bE;have ak:=(((d.trans S).trans af).alloc _).hx am (λx I=>by have:=(kj ao (jw.1 I)).1;right;omega);refine⟨Z.length+1,a6,c5,Z++[iS s As (jj 0)],by omega,by go_num,by simp,by simp,by simpa using cZ,by rw[Ed,eU.out,bL.out];rfl,?_,ak,?_,?_⟩
    .intro u hu
     rcases T_.1 hu with hu|hu
     .exact E u hu
     .have:u=iS s As (jj 0):=(by simpa using hu)
      subst this
      rfl
    .exact(App.iM C bE).sl (((h.g_ S).g_ af).alloc _) d_
    .have:=S.size
     have:=af.size
     have:=am.size
     simp at this;omega
   case measure=>simp[intOf];omega
  .have ei:k=8:=by omega
   subst ei
   go_wp2_with (at_builtin;refine jU rfl _ _ _ rfl bm 229 i1 _ 8 128 underlying211 bK b0 b5 cf rfl d_ d_ f 8 g (Z.flatMap ST.E) rfl ao A n c (ls.flatMap ST.E) rfl (hl.g_ d) (kM _) o_ (by have:=d.size;omega) ?_;intro a6 c5 ae aX bE bF)
   have aK:=bQ.out;have F:=a2.out;subst F;rw[aD.out];have am:=Gr.iM bE
   have pl:∀x∈ot (Value.slice f Z.length g).ownBlock,bm<=x:=λx I=>(kj hL.own (jw.1 I)).1
   have o:∀x∈ot (Value.slice f 8 g).ownBlock,bm<=x:=by rw[<-aK];exact pl
   have cZ:=(hL.le cw).add (K:=N) (us:=ls) (c':=c5) (A':=a6) (by rw[aK];exact od aX cw) (by rw[aK];exact bE) (by rw[aK];exact bF) (λu hu=>((v u hu).lt.imp (λx I=>⟨I.1,λhe=>by have:=pl x (jw.2 he);have:=I.2;omega⟩)).g_ d) bS;refine⟨a6,c5,Z,by rw[H_,aK];rfl,?_,by rw[eU.out];rfl,E,d.hx am (λx I=>by have:=o x I;right;omega),?_,?_⟩
   .simpa[aK]using cZ
   .exact F_ d.size am.size
   .intro x I;rw[H_,aK]at I
    have:=kj aX I
    omega
end Go.Proofs.YtenbhdilndfaeaaGreat
