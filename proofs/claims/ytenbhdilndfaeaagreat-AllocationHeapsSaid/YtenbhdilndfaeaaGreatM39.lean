import Derived.Test.YtenbhdilndfaeaaGreatM38
import Derived.ChangeSame
import Derived.Deep.Fields
import Derived.Deep.Slices
set_option maxRecDepth 100000
set_option maxHeartbeats 0
set_option linter.all false
namespace Go.Proofs.YtenbhdilndfaeaaGreat
open Go.RowKit Go.Proofs.Tryz
variable{A:Option Addr}{l:List Rw}{fuel:Nat}{v:Value}
structure uH(w:World)(A:Option Addr)(l:List Rw):Prop where
 os:∃e0,qT e0 w A l
 vs:∃E:Rw->TypeId,∀r∈l,tF (E r) w r.A r.o.fs
 wf:∀r∈l,j9 r.o.id/\∀v∈r.o.fs,j9 v.n
theorem uH.g_{w w':World}(h:uH w A l)(hg:Gr [] w w'):uH w' A l:=by
 obtain⟨⟨e,h1⟩,⟨E,h2⟩,h3⟩:=h;exact⟨⟨e,h1.g_ hg⟩,⟨E,λr hr=>(h2 r hr).g_ hg⟩,h3⟩
theorem x2(fs:List Vl):(mx fs).length<=fs.length:=by unfold mx;rw[Et];exact Em _ _
theorem tT:∀(h:List Ob),(∀o∈h,o.fs.length<=12)->(iP h).length<=h.length*12
 |[],_=>N_ _
 |o::h,hb=>by
  have h1:=tT h λx I=>hb x (Eo _ I)
  have h2:=x2 o.fs;have h3:=hb o E0;unfold iP at h1 |-;rw[Ez,H_,D3];omega
theorem uH.mem{w:World}(h:uH w A l)(hl:l.length<=12)(hf:∀r∈l,r.o.fs.length<=12):mX w A l:=by
 obtain⟨h1,⟨E,h2⟩,h3⟩:=h
 have hb:∀o∈hN l,o.fs.length<=12:=λo ho=>by obtain⟨r,hr,rfl⟩:=D2.1 ho;exact hf r hr
 refine⟨h1,⟨E,λr hr=>⟨h2 r hr,by have:=hf r hr;omega⟩⟩,by omega,vS.of_le ?_,λx I=>?_⟩
 .have:=tT (hN l) hb
  rw[H_];unfold nu;rw[Et,hW];rw[hW]at this;omega
 .rcases T_.1 I with I|I
  .obtain⟨o,ho,I⟩:=E2.1 I;obtain⟨r,hr,rfl⟩:=D2.1 ho;obtain⟨v,hv,rfl⟩:=D2.1 I;exact(h3 r hr).2 v (EO.1 hv).1
  .obtain⟨o,ho,rfl⟩:=D2.1 I;obtain⟨r,hr,rfl⟩:=D2.1 ho;exact(h3 r hr).1
theorem n9(A B:Option Addr)(c d:Nat)(l:List Int)(w:World)(h:Ls w A l)(hk:Ls w B l)(hl:l.length<=1000000000):
 Calls prog 21 #[.slice A l.length c,.slice B l.length d] w λe w'=>e=.returned (.bool true)/\Gr [] w w':=
 (wo A B c d l l w h hk hl hl).mono λe w' h=>⟨by rw[h.1,Ek rfl],h.2⟩
theorem tZ(bz:∀(B g:Nat) (w:World),iE w B g->B<=w.heap.size->Calls prog 11 #[q_ g] w (Ao B g w))(a0:Option Addr)(u y:Nat)(z0:List Int)(a6:TypeId)(U:Option Addr)(hc:Nat)(l:List Rw)(RA:Option Addr)(z:Nat)(rs:List Int)(tb:TypeId)(w:World)(hs:Sl w a6 1 a0 u (z0.map (.int .u8)))(hz:∀j,0<=z0.getD j 0/\z0.getD j 0<256)(Z:u<=y)(hl0:u<=9223372036854775807)(ag:uH w U l)(ax:Ns w tb RA rs):
 Calls prog 5 #[.slice a0 u y,.agg #[.slice U l.length hc],.slice RA rs.length z] w λe w'=>e=.returned (.bool true)/\Gr [] w w':=by
 refine hX λQ aD=>?_
 obtain⟨W,g,aZ,hg,J,hB⟩:=box1 w 35 #[.slice U l.length hc];have aS:=hB.f_ 0
 go_enter func5,ntmps5
 go_upto_region 3 with(go_at_call 10;refine(wn _).mono ?_;rintro e w1⟨rfl,hg1⟩)
 have ay:=J.trans hg1;replace aS:=(hB.g_ hg1).f_ 0
 by_cases bm:12<l.length
 .have bi:((12:Int)<(l.length:Int))=True:=by simp;omega
  go_wp2
  all_goals
   rw[aD.out];exact⟨rfl,ay⟩
 have bi:((12:Int)<(l.length:Int))=False:=by simp;omega
 by_cases aU:8<rs.length
 .have cF:((8:Int)<(rs.length:Int))=True:=by simp;omega
  go_wp2
  all_goals
   rw[aD.out];exact⟨rfl,ay⟩
 have cF:((8:Int)<(rs.length:Int))=False:=by simp;omega
 go_wp2_with fail
 go_loopw [28] (λar wr=>∃i:Nat,i<=l.length/\ar=i_ i/\Hid (∀r∈l.take i,r.o.fs.length<=12)/\Gr [] w1 wr) (λar _=>l.length-(pk ar).toNat)
 case atStart=>exact⟨0,N_ _,by go_num,h_ s_,D_ _ _⟩
 case round=>
  obtain⟨i,hi,rfl,ak,F⟩:=hrel;have bq:=ay.trans F
  by_cases aj:i<l.length
  .obtain⟨e0,av⟩:=ag.os;obtain⟨b,off,P,bj,be⟩:=(av.g_ bq).at_ aj;have bG:=h_ (O_ aj);clear av;subst P;generalize l[i]=r at*;obtain⟨hq0,hq1⟩:=(L_ wr 56 #[i_ r.o.id,.slice r.A r.o.fs.length r.c]).iB
   by_cases hf:12<r.o.fs.length
   .go_wp2;rw[aD.out];exact⟨rfl,bq.alloc _⟩
   .have aq:=h_ (show ∀x∈l.take (i+1),x.o.fs.length<=12 from λx I=>by
     rw[bG.out,T_]at I
     rcases I with I|I
     .exact ak.out x I
     .rw[R_.1 I]
      omega)
    go_wp2;go_roundw
    case rel=>exact⟨i+1,by omega,by go_num,aq,F.alloc _⟩
    case measure=>simp[pk];omega
  .have hfs:=ak.out;rw[W_ o_]at hfs;have O:=h_ (ag.mem o_ hfs);obtain⟨w2,D⟩:=nm_ wr;rw[<-D]at bq |-
   have bo:Bk w2 g 35 #[.slice U l.length hc]:=by rw[D];exact hB.g_ (hg1.trans F)
   have bw:=bo.lt;clear D F hfs ak aS bi cF J ay hg1 hB;have aw:=h_ (show ∀w',Gr [] w w'->Ns w' tb RA rs from λw' h=>Sl.g_ ax h);clear ax ag
   go_upto_region 13 with(first
    |(go_at_call 12;refine(vj a0 u y z0 _ a6 (Sl.g_ hs bq) hz Z hl0).mono ?_;rintro e ai⟨d,rfl,ao,hd,S⟩)
    |(go_at_call 11;refine(bz ai.heap.size d ai hd (G_ _)).mono ?_;unfold Ao;rintro e T⟨m,rfl,R,bL,ce,af⟩)
    |(refine kG (m.g8) (L_ T 43 DH) (Md.one _) ?_;intro ae bO am))
   have ca:Gr [] T ae:=((D_ [] T).alloc _).hx am s_;have M:w.heap.size<=d:=F_ bq.size ao;have eR:Gr [] w T:=(bq.trans S).hx af (by simpa using M);have cR:Gr [] w2 ae:=(S.hx af (by simpa using ao)).trans ca;replace bo:=bo.g_ cR;have b9:Gr [] w ae:=eR.trans ca;replace R:=R.g_ ca;have aB:=ce.g_ ca;have au:=h_ (mG.CJ bL)
   have ap:g≠d:=by have h1:=bw;omega
   have bQ:ai.heap.size<=ae.heap.size:=F_ af.size ca.size;clear hd S ce af am bL cR ca eR hs hi aj;obtain⟨gx,aM⟩:=nm_ T.heap.size;rw[<-aM]at bO |-;clear aM
   have t:gx≠d:=by intro e;subst e;obtain⟨dc,bt⟩:=aB.bk;exact D6 rfl (bO.lF bt d_)
   go_upto_region 14 with(first
    |(go_at_call 19;refine(h8 _ d 6 _ aB d_ d_).mono ?_;rintro e aF⟨r1,rfl,_,_,bM,aC⟩)
    |(go_at_call 19;refine(h8 _ d 6 _ bM d_ d_).mono ?_;rintro e aG⟨r2,rfl,_,_,cD,aO⟩))
   have L:Gr [d] ae aG:=aC.trans aO;obtain⟨dc,bt⟩:=aB.bk;have a2:=R.ig bt d_ (.inl d_) L;have cn:=bO.gr L (by simpa using t);have an:=bo.gr L (by simpa using ap);have ct:=b9.hx L (by simpa using M);have bh:=F_ bQ L.size;have bH:Gr [] aG (aG.alloc (.cells #[i_ 0,i_ r1,i_ r2] 2)):=(D_ [] aG).alloc _;have q:Ns (aG.alloc (.cells #[i_ 0,i_ r1,i_ r2] 2)) 2 (j_ aG.heap.size) [0,r1,r2]:=i5 (n:=3) (s:=1) (L_ aG 2 #[i_ 0,i_ r1,i_ r2]) rfl;obtain⟨bJ,cI⟩:=nm_ ((aG.alloc (.cells #[i_ 0,i_ r1,i_ r2] 2)).drew)
   replace bH:Gr [] aG bJ:=by rw[cI];exact bH.drew
   replace q:Ns bJ 2 (j_ aG.heap.size) [0,r1,r2]:=by rw[cI];exact q
   have a7:=a2.g_ bH;have f:=cn.g_ bH;have bv:=an.g_ bH;have bg:=ct.trans bH;have X:=cD.g_ bH;have eo:=F_ bh bH.size;clear L bt R a2 bO cn bo an b9 ct bQ bh bH aB bM cD aC aO ap t;refine hC (λw'=>w'.cell? (c_ gx 5)=some (.slice m.s.h.A m.s.h.l.length m.s.h.c)/\w'.cell? (c_ g 0)=some (.slice U l.length hc)) 9 k_ ?_;rw[<-cI];clear cI;obtain⟨V,aX⟩:=nm_ aG.heap.size;rw[<-aX]at q |-;clear aX
   refine nc ⟨(f.f_ 5).trans rfl,bv.f_ 0⟩ λC=>?_
   refine ih 0 C ?_;refine ih 1 C ?_;refine ih 2 C ?_;refine ih 3 C ?_;refine ih 4 C ?_;refine ih 8 C ?_
   refine hQ 5 λK H=>?_
   go_simp
   go_at_call 20
   refine(zV _ d bJ X eo).mono ?_;rintro e az⟨a8,aN,dk,rfl,_,N,bf,aY,aJ,aV,_⟩;obtain⟨dc,bt⟩:=X.bk;have ad:=a7.ig bt d_ (.inl d_) aV;have aP:Ns az 2 (j_ V) [0,r1,r2]:=Sl.ig q bt d_ aV;have c9:=bg.hx aV (by simpa using M);have bY:mX az m.s.h.A m.s.h.l:=⟨⟨_,ad.s.h.os.e⟩,⟨_,ad.s.h.la.e⟩,au.out⟩;have cl:mX az U l:=O.out.g_ c9;have db:mX az a8 dk:=⟨⟨_,N.e⟩,⟨_,bf.e⟩,mG.B2 aY⟩
   have aQ:az.cell? (c_ gx 5)=some (.slice m.s.h.A m.s.h.l.length m.s.h.c)/\az.cell? (c_ g 0)=some (.slice U l.length hc):=
    ⟨((f.gr aV (by simpa using f.lF bt d_)).f_ 5).trans rfl,(bv.gr aV (by simpa using bv.lF bt d_)).f_ 0⟩
   clear C
   refine hS H aQ λC=>?_
   clear H K aQ a7 ad f bv bg X eo bt q N bf aY aJ aV au M
   refine hQ 6 λK H=>?_
   go_simp;obtain⟨bR,gb,dG,o,p,qS⟩:=box1 az 35 #[.slice m.s.h.A m.s.h.l.length m.s.h.c,.slice U l.length hc,.slice a8 dk.length aN];have bn:bR.cell? (c_ gx 5)=some (.slice m.s.h.A m.s.h.l.length m.s.h.c)/\bR.cell? (c_ g 0)=some (.slice U l.length hc):=⟨p.f_ C.1 s_,p.f_ C.2 s_⟩;clear C;rw[dG,o]
   refine hS H bn λC=>?_
   clear H K bn dG o;refine ih 7 C ?_;refine hA k_ ?_ _;have v:=h_ (show ∀w',Gr [] bR w'->Ns w' tb RA rs from λw' h=>aw.out w' ((c9.trans p).trans h));have ah:=h_ (show ∀w',Gr [] bR w'->Ns w' 2 (j_ V) [0,r1,r2] from λw' h=>Sl.g_ aP (p.trans h))
   have bG:=h_ (show ∀k:Nat,k<3->∃(A:Option Addr) (l:List Rw) (c:Nat),bR.cell? (c_ gb (0+k))=some (.slice A l.length c)/\mX bR A l from λk hk=>by
    match k,hk with
    |0,_=>exact⟨_,_,_,qS.f_ 0,bY.g_ p⟩
    |1,_=>exact⟨_,_,_,qS.f_ 1,cl.g_ p⟩
    |2,_=>exact⟨_,_,_,qS.f_ 2,db.g_ p⟩)
   have bA:=c9.trans p;clear C aw aP bY cl db qS p c9 O
   go_wp2_with fail
   go_loopw [54] (λar wr=>∃i:Nat,i<=3/\ar=i_ i/\Gr [] bR wr) (λar _=>3-(pk ar).toNat)
   case atStart=>exact⟨0,by omega,by go_num,D_ _ _⟩
   case round=>
    obtain⟨i,hi,rfl,a⟩:=hrel
    by_cases aj:i<3
    .obtain⟨A,l,c,aT,Y⟩:=bG.out i aj;have aI:=a.f_ aT s_
     replace aI:wr.cell? (c_ gb i)=some (.slice A l.length c):=by simpa using aI
     have O:=Y.g_ a;have HG:=h_ Y.good;have aR:=L_ wr 35 #[.slice A l.length c];have aE:Gr [] wr (wr.alloc (.cells #[.slice A l.length c] 35)):=(D_ [] wr).alloc _;clear aT Y
     go_upto_region 17 with fail
     refine hC (λw'=>w'.cell? (c_ wr.heap.size 0)=some (.slice A l.length c)) 42 k_ ?_;obtain⟨bl,aK⟩:=nm_ ((wr.alloc (.cells #[.slice A l.length c] 35)).drew)
     have G:Gr [] wr bl:=by rw[aK];exact aE.drew
     have cZ:Bk bl wr.heap.size 35 #[.slice A l.length c]:=by rw[aK];exact aR.drew
     rw[<-aK];replace a:=a.trans G;replace O:=O.g_ G;clear aK aE aR G aI
     refine nc (cZ.f_ 0) λC=>?_
     clear cZ;generalize wr.heap.size=aW at*
     refine ih 0 C ?_;refine ih 2 C ?_
     refine hQ 1 λK H=>?_
     go_simp
     go_at_call 22
     refine(O.CE _).mono ?_;unfold jF;rintro e w1⟨A1,c1,rfl,h1,_,hg⟩;replace a:=a.trans hg;replace O:=O.g_ hg
     refine hS H (hg.f_ C s_) λC=>?_
     clear H K hg
     refine hQ 3 λK H=>?_
     go_simp
     go_at_call 23
     refine(O.CD _).mono ?_;unfold jF;rintro e ai⟨a8,aN,rfl,h3,_,hg⟩;replace a:=a.trans hg;replace O:=O.g_ hg;replace h1:=Sl.g_ h1 hg
     refine hS H (hg.f_ C s_) λC=>?_
     clear H K hg
     refine hQ 4 λK H=>?_
     go_simp
     go_at_call 21
     refine(n9 _ _ _ _ _ _ h1 h3 (by have:=(HG.out.lens rs).1;omega)).mono ?_;rintro e T⟨rfl,hg⟩;replace a:=a.trans hg;replace O:=O.g_ hg
     refine hS H (hg.f_ C s_) λC=>?_
     clear H K hg h1 h3
     refine ih 5 C ?_;refine ih 6 C ?_;refine ih 7 C ?_;refine ih 9 C ?_
     refine hQ 8 λK H=>?_
     go_simp
     go_at_call 15
     refine(O.CU _).mono ?_;unfold jF;rintro e bJ⟨bW,cA,rfl,aU,_,hg⟩;replace a:=a.trans hg;replace O:=O.g_ hg
     refine hS H (hg.f_ C s_) λC=>?_
     clear H K hg
     refine hQ 10 λK H=>?_
     go_simp
     go_at_call 24
     refine(O.CT _).mono ?_;unfold jF;rintro e az⟨cV,bp,rfl,h10,_,hg⟩;replace a:=a.trans hg;replace O:=O.g_ hg;replace aU:=Sl.g_ aU hg
     refine hS H (hg.f_ C s_) λC=>?_
     clear H K hg
     refine hQ 11 λK H=>?_
     go_simp
     go_at_call 21
     refine(n9 _ _ _ _ _ _ aU h10 (by have:=(HG.out.lens rs).2.1;omega)).mono ?_;rintro e cQ⟨rfl,hg⟩;replace a:=a.trans hg;replace O:=O.g_ hg
     refine hS H (hg.f_ C s_) λC=>?_
     clear H K hg aU h10
     refine ih 12 C ?_;refine ih 13 C ?_;refine ih 14 C ?_;refine ih 15 C ?_;refine ih 17 C ?_
     refine hQ 16 λK H=>?_
     go_simp
     go_at_call 17
     refine(O.Cy _).mono ?_;unfold jF;rintro e bS⟨bB,br,rfl,xp,_,hg⟩;replace a:=a.trans hg;replace O:=O.g_ hg
     refine hS H (hg.f_ C s_) λC=>?_
     clear H K hg
     refine hQ 18 λK H=>?_
     go_simp
     go_at_call 25
     refine(O.Cx _).mono ?_;unfold jF;rintro e bT⟨bC,bu,rfl,yL,_,hg⟩;replace a:=a.trans hg;replace O:=O.g_ hg;replace xp:=Sl.g_ xp hg
     refine hS H (hg.f_ C s_) λC=>?_
     clear H K hg
     refine hQ 19 λK H=>?_
     go_simp
     go_at_call 21
     refine(n9 _ _ _ _ _ _ xp yL (by have:=(HG.out.lens rs).2.2.1;omega)).mono ?_;rintro e bU⟨rfl,hg⟩;replace a:=a.trans hg;replace O:=O.g_ hg
     refine hS H (hg.f_ C s_) λC=>?_
     clear H K hg xp yL
     refine ih 20 C ?_;refine ih 21 C ?_;refine ih 22 C ?_;refine ih 23 C ?_;refine ih 24 C ?_;refine ih 26 C ?_;refine ih 27 C ?_
     refine hQ 25 λK H=>?_
     go_simp
     go_at_call 16
     refine(O.zP _ _ (v.out _ a) o_).mono ?_;unfold jF;rintro e dB⟨bD,bK,rfl,cu,_,hg⟩;replace a:=a.trans hg;replace O:=O.g_ hg
     refine hS H (hg.f_ C s_) λC=>?_
     clear H K hg
     refine hQ 28 λK H=>?_
     go_simp
     go_at_call 26
     refine(O.zO _ _ (v.out _ a) o_).mono ?_;unfold jF;rintro e bV⟨bE,bN,rfl,aH,_,hg⟩;replace a:=a.trans hg;replace O:=O.g_ hg;replace cu:=Sl.g_ cu hg
     refine hS H (hg.f_ C s_) λC=>?_
     clear H K hg
     refine hQ 29 λK H=>?_
     go_simp
     go_at_call 21
     refine(n9 _ _ _ _ _ _ cu aH (by have:=(HG.out.lens rs).2.2.2;omega)).mono ?_;rintro e bX⟨rfl,hg⟩;replace a:=a.trans hg;replace O:=O.g_ hg
     refine hS H (hg.f_ C s_) λC=>?_
     clear H K hg cu aH
     refine ih 30 C ?_;refine ih 31 C ?_;refine ih 32 C ?_;refine ih 33 C ?_;refine ih 34 C ?_;refine ih 36 C ?_;refine ih 37 C ?_
     refine hQ 35 λK H=>?_
     go_simp
     go_at_call 16
     refine(O.zP (rs:=[0,r1,r2]) _ _ (ah.out _ a) (Fy rfl)).mono ?_;unfold jF;rintro e bZ⟨bF,bP,rfl,E,_,hg⟩;replace a:=a.trans hg;replace O:=O.g_ hg
     refine hS H (hg.f_ C s_) λC=>?_
     clear H K hg
     refine hQ 38 λK H=>?_
     go_simp
     go_at_call 26
     refine(O.zO (rs:=[0,r1,r2]) _ _ (ah.out _ a) (Fy rfl)).mono ?_;unfold jF;rintro e b0⟨bI,b8,rfl,aL,_,hg⟩;replace a:=a.trans hg;replace O:=O.g_ hg;replace E:=Sl.g_ E hg
     refine hS H (hg.f_ C s_) λC=>?_
     clear H K hg
     refine hQ 39 λK H=>?_
     go_simp
     go_at_call 21
     refine(n9 _ _ _ _ _ _ E aL (by have:=(HG.out.lens [0,r1,r2]).2.2.2;omega)).mono ?_;rintro e b3⟨rfl,hg⟩;replace a:=a.trans hg;replace O:=O.g_ hg
     refine hS H (hg.f_ C s_) λC=>?_
     clear H K hg E aL
     refine ih 40 C ?_;refine ih 41 C ?_
     refine hA k_ ?_ _;clear C;go_wp2;go_roundw
     case rel=>exact⟨i+1,by omega,by go_num,a⟩
     case measure=>simp[pk];omega
    .go_wp2;rw[aD.out];exact⟨rfl,bA.trans a⟩
section
open Go.RowKit Go.ChangeShapes Go.WideShapes
section
variable{H:Type}{enc:TypeId × Value->H}{w:World}{base:Nat}{spare:Nat->Bool}{held:Bool}
theorem kI:prog.cellsOf 2=1:=by kernel_rfl
theorem kV:prog.cellsOf 54=1:=by kernel_rfl
theorem Az{x:DataW H × List MemPlace}(h:DataW.trod enc prog w base spare held fuel 54 [v]=some x):
 ∃(A:Option Addr) (c:Nat) (fs:List Vl) (e:TypeId),v=.slice A fs.length c/\tF e w A fs/\∀u∈fs,j9 u.n:=by
 rcases Go.Deep.open_slice_pairs underlying54 underlying38 k_ rfl rfl k_ k_ h with⟨d,_⟩|⟨a,len,kX,l,n,m,p,k,t,y,z,d,_,Z,aH,o,_,I⟩
 .obtain rfl:v=n_:=by simpa using d
  exact⟨none,0,[],0,rfl,EM _ _ _ _,by intro v hv;simp at hv⟩
 .obtain rfl:v=.slice (some a) len kX:=by simpa using d
  have s:len<=l:=by rw[o];split<;>omega
  have g:∀i,∃v:Vl,i<l->m i=.bool v.r/\p i=i_ v.n/\j9 v.n:=by
   intro i
   by_cases hi:i<l
   .obtain⟨_,_,a6,bQ⟩:=I i hi;obtain⟨b,hb,_⟩:=DataW.trod_bool underlying4 a6;obtain⟨n',D,_,aK⟩:=DataW.trod_int underlying2 bQ;exact⟨⟨b,n'⟩,λ_=>⟨by simpa using hb,by simpa using D,aK⟩⟩
   .exact⟨default,λh=>D6 h hi⟩
  obtain⟨f,bh⟩:=Classical.axiomOfChoice g
  obtain⟨q,hs⟩:=sz Vl.E 2 o_ (λ_=>rfl) (w:=w) (x:=a) (len:=len) (f:=f) (λi hi j u hu=>by
   obtain⟨bX,cg,_,_⟩:=I i o_;obtain⟨h0,h1,_⟩:=bh i o_
   match j,hu with
   |0,hu=>have:u=.bool (f i).r:=by simpa[Vl.E]using hu.symm
          subst this;exact h0▸bX
   |1,hu=>have:u=i_ (f i).n:=by simpa[Vl.E]using hu.symm
          subst this;exact h1▸cg
   |(j+2),hu=>simp[Vl.E]at hu)
  refine⟨some a,kX,(List.range len).map f,q,by simp,by unfold tF iR;simpa using hs,?_⟩;intro v hv;obtain⟨i,hi,rfl⟩:=D2.1 hv;exact(bh i (by have:=Ep.1 hi;omega)).2.2
theorem A0{cs:List Value}{x:DataW H × List MemPlace}(hl:cs.length=2)(h:DataW.trod enc prog w base spare held fuel 56 cs=some x):
 ∃r:Rw,cs=r.E/\j9 r.o.id/\(∃e,tF e w r.A r.o.fs)/\∀u∈r.o.fs,j9 u.n:=by
 obtain⟨ys,n,_,_,_,s,hf⟩:=DataW.trod_struct underlying56 h
 match cs,hl with
 |[aI,c1],_=>
  have aP:=hf 0 _ rfl;have av:=hf 1 _ rfl
  match ys,s with
  |[Z,ah],_=>
   have a:DataW.trod enc prog w base spare held n 2 [aI]=some Z:=by simpa[kI,kV]using aP
   have b:DataW.trod enc prog w base spare held n 54 [c1]=some ah:=by simpa[kI,kV]using av
   obtain⟨bz,h0,_,w0⟩:=DataW.trod_int underlying2 a;obtain⟨A,c,fs,e,h1,hv,aK⟩:=Az b;refine⟨⟨⟨bz,fs⟩,A,c⟩,?_,w0,⟨e,hv⟩,aK⟩;simp only[List.cons.injEq,and_true]at h0;rw[h0,h1]
   rfl
theorem zH{x:DataW H × List MemPlace}(h:DataW.trod enc prog w base spare held fuel 33 [v]=some x):
 ∃(A:Option Addr) (c:Nat) (l:List Rw),v=.slice A l.length c/\uH w A l:=by
 rcases Go.Deep.open_slice underlying33 h with⟨d,_⟩|⟨a,len,kX,m,n,D,p,d,_,Z,aH,o,_,hi⟩
 .obtain rfl:v=n_:=by simpa using d
  exact⟨none,0,[],rfl,⟨0,EM _ _ _ _⟩,⟨λ_=>0,λr hr=>by cases hr⟩,λr hr=>by cases hr⟩
 .obtain rfl:v=.slice (some a) len kX:=by simpa using d
  have s:len<=m:=by rw[o];split<;>omega
  have hce:prog.cellsOf 56=2:=by kernel_rfl
  have g:∀i,∃r:Rw,i<len->(∀j u,r.E[j]?=some u->w.cell? (a.add (i*2+j))=some u)/\j9 r.o.id/\(∃e,tF e w r.A r.o.fs)/\∀u∈r.o.fs,j9 u.n:=by
   intro i
   by_cases bm:i<len
   .obtain⟨y,hc,k⟩:=hi i o_;rw[hce]at hc;obtain⟨_,hcl,B⟩:=World.cells?_some hc;obtain⟨r,hr,w1⟩:=A0 hcl k;refine⟨r,λ_=>⟨λj u hu=>?_,w1⟩⟩
    have hj:j<2:=by
     rcases D5 j 2 with h|h
     .exact h
     .rw[Eh (by show 2<=j;exact h)]at hu
      cases hu
    have:=B j hj
    rw[hr,hu,Al]at this;exact this
   .exact⟨⟨⟨0,[]⟩,none,0⟩,λh=>D6 h bm⟩
  obtain⟨f,hf⟩:=Classical.axiomOfChoice g;obtain⟨q,hs⟩:=sz Rw.E 2 o_ (λ_=>rfl) (w:=w) (x:=a) (len:=len) (f:=f) (λi hi=>(hf i hi).1)
  have F:∀r∈(List.range len).map f,j9 r.o.id/\(∃e,tF e w r.A r.o.fs)/\∀u∈r.o.fs,j9 u.n:=λr hr=>by
   obtain⟨i,hi,rfl⟩:=D2.1 hr;exact(hf i (Ep.1 hi)).2
  have hE:∀r:Rw,∃e:TypeId,r∈(List.range len).map f->tF e w r.A r.o.fs:=λr=>by
   by_cases hr:r∈(List.range len).map f
   .obtain⟨e,he⟩:=(F r hr).2.1;exact⟨e,λ_=>he⟩
   .exact⟨0,λh=>D6 h hr⟩
  obtain⟨E,b⟩:=Classical.axiomOfChoice hE;exact⟨some a,kX,(List.range len).map f,by simp,⟨q,by unfold qT;rw[Et,Fk];exact hs⟩,⟨E,λr hr=>b r hr⟩,λr hr=>⟨(F r hr).1,(F r hr).2.2⟩⟩
theorem yn{r:Reach}{aS:Nat}{d:DataW H}{p:List MemPlace}(hv:Value.okWide prog w r aS 35 v)(h:DataW.Trod enc prog w base spare held 35 v d p):
 ∃(A:Option Addr) (c:Nat) (l:List Rw),v=.agg #[.slice A l.length c]/\uH w A l:=by
 obtain⟨cs,rfl,au⟩:=okWide_struct underlying35 hv
 have D:prog.cellsOf 35=1:=by kernel_rfl
 have hz:cs.size=1:=au.trans D
 obtain⟨aI,rfl⟩:∃aI,cs=#[aI]:=by
  obtain⟨l⟩:=cs
  match l,hz with
  |[aI],_=>exact⟨aI,rfl⟩
 obtain⟨fuel,hf⟩:=h;obtain⟨ys,n,_,_,_,s,hg⟩:=DataW.trod_struct underlying35 hf
 match ys,s with
 |[Z],_=>
  have aP:=hg 0 _ rfl
  have b:prog.cellsOf 33=1:=by kernel_rfl
  have a:DataW.trod enc prog w base spare held n 33 [aI]=some Z:=by simpa[b,Value.cells]using aP
  obtain⟨A,c,l,rfl,hl⟩:=zH a;exact⟨A,c,l,rfl,hl⟩
end
end
end Go.Proofs.YtenbhdilndfaeaaGreat
