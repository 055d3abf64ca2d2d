import Derived.Test.YtenbhdilndfaeaaGreatR32
import Derived.Test.YtenbhdilndfaeaaGreatR37
set_option maxRecDepth 100000
set_option maxHeartbeats 0
set_option linter.all false
namespace Go.Proofs.YtenbhdilndfaeaaGreat
open Go.RowKit Go.Proofs.Tryz
variable{h:List Ob}
def pT(h:List Ob):Nat:=(h.filter λo=>!k7 o.id).length
def yE{run:Int}(c:CI run h)(s:nU h)(i:1∈hQ h)(j:2∈hQ h):pT h=2:=by
 have e:pT h=((hQ h).filter λa=>!k7 a).length:=by unfold pT hQ;rw[List.filter_map,F6];rfl
 have f:Asc ((hQ h).filter λa=>!k7 a) (λa=>a=1∨a=2):=by
  refine⟨s.filter _,λa=>?_⟩;rw[F5];constructor
  .rintro⟨d,b⟩
   have b:k7 a=false:=by simpa using b
   unfold k7 at b;have b:=H6 b
   rcases c.old a d with k|k|⟨r,q,n,o,p,l,m⟩<;>omega
  .rintro(rfl|rfl)
   .exact⟨i,rfl⟩
   .exact⟨j,rfl⟩
 have g:Asc [1,2] (λa:Int=>a=1∨a=2):=⟨by simp,λa=>by simp⟩;rw[e,f.eq g]
 rfl
def x3(h:List Ob):ms h []=[]:=by
 unfold ms;rw[List.filter_eq_nil_iff];intro b _ a;unfold p4 at a;simp at a
def zI{run:Int}(c:CI run h)(s:nU h)(j:1∈hQ h)(k:2∈hQ h):h.length<=(ms h (oC (km h))).length+2:=by
 have f:=yE c s j k
 have p:((hQ h).filter k7).length<=(ms h (oC (km h))).length:=by
  refine pU _ (s.nodup.filter _) λm i=>?_
  obtain⟨d,e⟩:=F5.1 i;unfold ms;rw[F5];refine⟨((w9 h).mem m).2 (.inr d),?_⟩;unfold p4;rw[e,Bool.true_and];refine FX (((lu _).mem _).2 ?_);obtain⟨a,g,rfl⟩:=Z_.1 d;unfold km;exact Z_.2 ⟨a,F5.2 ⟨g,e⟩,rfl⟩
 have o:((hQ h).filter k7).length=(h.filter λa=>k7 a.id).length:=by unfold hQ;rw[List.filter_map,F6];rfl
 have l:∀b:List Ob,b.length=(b.filter λa=>k7 a.id).length+(b.filter λa=>!k7 a.id).length:=by
  intro b
  induction b with
  |nil=>rfl
  |cons a b n=>
   simp only[List.filter_cons,FJ]
   cases k7 a.id<;>simp<;>omega
 have:=l h
 unfold pT at f;omega
def Bj{i:Nat}(a:i<h.length):pT (h.take (i+1))=pT (h.take i)+(if k7 h[i].id=true then 0 else 1):=by
 unfold pT;rw[X_ a,HM,K_];congr 1;rw[List.filter_cons]
 cases k7 h[i].id<;>rfl
def yo.runs{a:Md}(h:yo a):(∀r∈oC (km (hU a.s.h.l)),0<=r/\r<a.run)/\pT (hU a.s.h.l)=2/\a.s.h.l.length<=(ms (hU a.s.h.l) (oC (km (hU a.s.h.l)))).length+2:=by
 obtain⟨t,run,q,e,p⟩:=h.cm;have i:=(ky h.val).2.1;have d:=e.ci h.val i;have m:=e.cq h.val i;have g:=e.EP;have o:a.s.p.h=hU a.s.h.l:=rfl;rw[o]at d g;have k:1∈hQ (hU a.s.h.l):=m.o1;have l:2∈hQ (hU a.s.h.l):=m.o2
 have s:run<=a.run:=by
  rcases p with⟨_,_,b⟩|⟨_,b,_⟩
  .omega
  .omega
 refine⟨λr c=>?_,yE d.2 g k l,?_⟩
 .have c:=((lu _).mem r).1 c;unfold km at c;obtain⟨j,f,rfl⟩:=Z_.1 c;obtain⟨f,n⟩:=F5.1 f;have b:=(d.2.old j.id (Z_.2 ⟨j,f,rfl⟩)).run n;omega
 .have b:=zI d.2 g k l;rw[hZ]at b;exact b
def wd(aN:∀(B g:Nat) (w:World),iL w B g->B<=w.heap.size->Calls prog 11 #[q_ g] w (BW B g w))(a0:Option Addr)(a f:Nat)(z0:List Int)(a7:TypeId)(w:World)(hs:Sl w a7 1 a0 a (z0.map (.int .u8)))(hz:∀m,0<=z0.getD m 0/\z0.getD m 0<256)(cC:a<=f)(hl0:a<=9223372036854775807):
 Calls prog 4 #[.slice a0 a f] w λe w'=>e=.returned (.bool true)/\J [] w w':=by
 refine ig λal aI=>?_
 go_enter func4,ntmps4
 go_upto_region 3 with(go_at_call 10;refine(xL _).mono ?_;rintro e w1⟨rfl,W⟩)
 go_upto_region 4 with(first
  |(go_at_call 12;refine(wD a0 a f z0 a7 (Sl.g_ hs W) hz cC hl0).mono ?_;rintro e ah⟨an,rfl,aA,hd,aS⟩)
  |(go_at_call 11;refine(aN ah.heap.size an ah hd (H_ _)).mono ?_;unfold BW;rintro e u⟨k,rfl,n,U,cr,af⟩)
  |(refine kZ (k.g8) (Q_ u 43 Fd) (Md.one _) ?_;intro r bU ak))
 have b7:J [] u r:=((H [] u).alloc _).hA ak s_;have av:w.heap.size<=an:=G_ W.size aA;have eK:J [] w u:=(W.trans aS).hA af (by simpa using av);have MR:=eK.trans b7;replace n:=n.g_ b7;obtain⟨hR,MO,ao⟩:=U.runs;have aT:xi r k.s.h.A k.s.h.l:=⟨⟨_,n.s.h.os.e⟩,⟨_,n.s.h.lD.e⟩,oR.C1 U⟩;have ar:=n.s.h.os;have Q:=O (oR.C1 U);have P:r.cell? (Z u.heap.size 5)=some (.slice k.s.h.A k.s.h.l.length k.s.h.c):=(bU.f_ 5).trans rfl;have R:r.cell? (Z u.heap.size 16)=some (Y k.run):=(bU.f_ 16).trans rfl;have G:=O (λ(w':World)(d:J [] r w')=>aT.g_ d);have aU:=O (λ(w':World)(d:J [] r w')=>Sl.g_ ar d);have aV:=O (x3 (hU k.s.h.l));have t:=O hR;have aF:=O MO;have A:=O ao;have z:=O (lu (km (hU k.s.h.l)));have aQ:k.s.h.l.length<=50000000:=Q.out.len;have cJ:=((Q.out.lens []).2.2.1:(oC (km (hU k.s.h.l))).length<=50000000);have ca:=((Q.out.lens (oC (km (hU k.s.h.l)))).2.2.2:(ms (hU k.s.h.l) (oC (km (hU k.s.h.l)))).length<=50000000);have S:=O (λ(w':World)(d:J [] r w')=>(G.out w' d).DZ k.s.h.c)
 have C:=O (λi(p:i∈k.s.h.l)=>(show i.o.id<=9223372036854775807∧(k7 i.o.id=true->uv i.o.id∈oC (km (hU k.s.h.l))) from
  ⟨sT (Q.out.D9 i p),λq=>((lu _).mem _).2 (by unfold km;exact Z_.2 ⟨i.o,F5.2 ⟨Z_.2 ⟨i,p,rfl⟩,q⟩,rfl⟩)⟩))
 clear n U aT ar bU cr af ak hd aS aA hs hz cC hl0 eK b7 av hR MO ao;generalize k.s.h.A=aX at *;generalize k.s.h.c=V at *;generalize k.s.h.l=j at *;generalize k.run=run at *;generalize u.heap.size=gx at *;clear W;have ai:=O (λ(w':World)(d:J [] r w')=>G.out w' d);obtain⟨l,aZ⟩:=nm_ (oC (km (hU j)));rw[<-aZ]at t A z cJ ca S C;have aJ:=O aZ;clear aZ;obtain⟨bd,aq⟩:=nm_ r;rw[<-aq]at G aU S ai MR P R |-;clear aq
 go_upto_region 5 with(go_at_call 17;refine(S.out bd (H _ _)).mono ?_;unfold om;rintro e F⟨du,xc,rfl,T,dC,y⟩)
 have P:=y.f_ P s_;have R:=y.f_ R s_
 have D:=O (λ(w':World)(d:J [] F w')=>(show Calls prog 16 #[.agg #[.slice aX j.length V],n_] w' (om [] w') from by
  have q:=(G.out w' (y.trans d)).Bw V 0 (rs:=[]) (B:=none) (tb:=2) (Gz _ _ _ _) (by simp);rw[aV.out]at q
  exact q))
 have K:=O (λ(w':World)(d:J [] F w')=>(G.out w' (y.trans d)).Bw V xc (rs:=l) (B:=du) (tb:=2) (Sl.g_ T d) (by omega))
 have L:=O (λ(w':World)(d:J [] F w')(be:Int)(hn:be∈l)=>(show Calls prog 18 #[.slice du l.length xc,Y be] w' (λe w''=>e=.returned (.bool true)/\w'=w'') from by
  have q:=zN du xc l be w' (tb:=2) (Sl.g_ T d) (by omega);rw[FX hn]at q
  exact q))
 have s:=O (λ(w':World)(d:J [] F w')=>aU.out w' (y.trans d));have cW:=MR.trans y;clear G aU S ai Q MR aJ y
 go_wp2_with fail
 go_loopw [24] (λv wr=>∃b:Nat,b<=l.length/\v=Y b/\F=wr) (λv _=>l.length-(intOf v).toNat)
 case atStart=>exact⟨0,P_ _,by go_num,rfl⟩
 case round=>
  obtain⟨b,hi,rfl,rfl⟩:=hrel
  by_cases x:b<l.length
  .have p:=t.out l[b] (M_ x)
   have c:=λ(bf:Nat)(hk:bf<l.length)=>T.at_ hk
   obtain⟨bg,off,N,aO⟩:=c b x
   have aL:b<50000000:=by omega
   by_cases h0:0<b
   .obtain⟨m,rfl⟩:∃m,b=m+1:=⟨b-1,by omega⟩;obtain⟨b2,am,E,dL⟩:=c m (by omega);have cD:l[m]<l[m+1]:=List.pairwise_iff_getElem.1 z.out.lt m (m+1) (by omega) x (by omega);rw[N]at E;injection E with E;injection E with M X;subst M;subst X;subst N;generalize l[m+1]=i at *;generalize l[m]=bh at *
    have bG:(i<0)=False:=by simp;omega
    have q1:(run<=i)=False:=by simp;omega
    have q2:(i<=bh)=False:=by simp;omega
    have q3:((0:Int)<((m+1:Nat):Int))=True:=by simp
    clear D K L s C A t z c;go_wp2;go_roundw
    case rel=>exact⟨m+2,by omega,by go_num,by first|rfl|trivial⟩
    case measure=>simp[intOf];omega
   .subst N;generalize l[b]=i at *
    have bG:(i<0)=False:=by simp;omega
    have q1:(run<=i)=False:=by simp;omega
    have q3:((0:Int)<(b:Int))=False:=by simp;omega
    clear D K L s C A t z c;go_wp2;go_roundw
    case rel=>exact⟨b+1,by omega,by go_num,by first|rfl|trivial⟩
    case measure=>simp[intOf];omega
  .clear dC;have s:=O (s.out)
   go_wp2_with fail
   go_loopw [7,56] (λov v wr=>∃b:Nat,b<=j.length/\v=Y b/\ov=Y (pT ((hU j).take b))/\J [] F wr) (λ_ v _=>j.length-(intOf v).toNat)
   case atStart=>exact⟨0,P_ _,by go_num,rfl,H _ _⟩
   case round=>
    obtain⟨b,hi,rfl,rfl,E⟩:=hrel
    by_cases x:b<j.length
    .obtain⟨bg,off,N,bm,bu⟩:=Os.at_ (s.out wr E) x;have n:=C.out j[b] (M_ x)
     have MP:pT ((hU j).take (b+1))=pT ((hU j).take b)+(if k7 j[b].o.id=true then 0 else 1):=by
      have aM:b<(hU j).length:=by rw[hZ];exact x
      rw[Bj aM];simp[hU]
     have hb:pT ((hU j).take b)<=b:=by
      have h1:=F7 (λo:Ob=>!k7 o.id) ((hU j).take b);rw[Gd]at h1;unfold pT;omega
     have M:=O MP;clear MP;generalize j[b]=i at *;subst N;generalize pT ((hU j).take b)=ax at *;have X:=n.1;obtain⟨hq0,hq1⟩:=(Q_ wr 56 #[Y i.o.id,.slice i.A i.o.fs.length i.c]).iM;have aE:=E.alloc (.cells #[Y i.o.id,.slice i.A i.o.fs.length i.c] 56)
     cases p:k7 i.o.id with
     |true=>
      have c:=λae=>oA i.o.id ae X
      have q:decide (1048576<=i.o.id)=true:=p;simp only[q]at c;have aY:=O c;have ap:=O (n.2 p);have a6:=O (show pT ((hU j).take (b+1))=ax by rw[M.out,p,O_ rfl,G0]);clear c q p n X C A t z D K s M
      go_wp2_with (first
       |(go_at_call 13;refine(aY.out _).mono ?_;rintro e aH⟨rfl,rfl⟩)
       |(go_at_call 18;refine(L.out _ aE _ ap.out).mono ?_;rintro e bH⟨rfl,rfl⟩))
      go_roundw
      case rel=>exact⟨b+1,by omega,by go_num,by rw[a6.out],aE⟩
      case measure=>simp[intOf];omega
     |false=>
      have c:=λae=>oA i.o.id ae X
      have q:decide (1048576<=i.o.id)=false:=p;simp only[q]at c;have aY:=O c;have a6:=O (show pT ((hU j).take (b+1))=ax+1 by rw[M.out,p,I_ I]);clear c q p n X C A t z D K s M L
      go_wp2_with (go_at_call 13;refine(aY.out _).mono ?_;rintro e aH⟨rfl,rfl⟩)
      go_roundw
      case rel=>exact⟨b+1,by omega,by go_num,by rw[a6.out];go_num,aE⟩
      case measure=>simp[intOf];omega
    .have MN:pT ((hU j).take b)=2:=by rw[FK (by rw[hZ];omega)];exact aF.out
     rw[MN];have aB:=E.f_ P s_;have cT:=O (λ(w':World)(d:J [] wr w')=>D.out w' (E.trans d));have aD:=O (λ(w':World)(d:J [] wr w')=>K.out w' (E.trans d));have bQ:=A.out;generalize ms (hU j) l=ls at *;clear D K L C t z s A
     have aP:((b:Int)<(j.length:Int))=False:=by simp;omega
     have aR:IntKind.i64.wrap ((j.length:Int)-2)=(j.length:Int)-2:=F1 _ (by omega)
     go_upto_region 21 with fail
     refine hI (λw'=>w'.cell? (Z gx 5)=some (.slice aX j.length V)) 27 k_ ?_;obtain⟨bo,MS⟩:=nm_ (wr.drew)
     have h:J [] wr bo:=by rw[MS];exact(H [] wr).drew
     rw[<-MS];clear MS
     refine nZ (h.f_ aB s_) λc=>?_
     clear aB P R T;refine iH 0 c ?_;refine iH 1 c ?_;refine iH 2 c ?_;refine iH 3 c ?_;refine iH 4 c ?_;refine iH 5 c ?_
     refine hV 6 λX M=>?_
     rw[O_ k_];go_simp
     go_at_call 16
     refine(cT.out _ h).mono ?_;unfold om;rintro e au⟨cR,cI,rfl, -, -,d⟩
     refine hX M (d.f_ c s_) λc=>?_
     clear M X;replace h:=h.trans d;clear d;refine iH 7 c ?_;refine iH 8 c ?_;refine iH 9 c ?_;refine iH 10 c ?_;refine iH 11 c ?_;refine iH 12 c ?_;refine iH 13 c ?_;refine iH 14 c ?_;refine iH 17 c ?_;refine iH 18 c ?_;refine iH 19 c ?_;refine iH 20 c ?_;refine iH 21 c ?_;refine iH 22 c ?_;refine iH 23 c ?_
     refine hV 15 λX M=>?_
     rw[O_ k_];go_simp
     go_at_call 16
     refine(aD.out _ h).mono ?_;unfold om;rintro e au⟨cS,aK,rfl, -, -,d⟩
     refine hX M (d.f_ c s_) λc=>?_
     clear M X;replace h:=h.trans d;clear d
     have bt:((j.length:Int)-2<=(ls.length:Int))=True:=by simp;omega
     refine iH 16 c ?_;refine iH 24 c ?_;refine iH 25 c ?_;refine iH 26 c ?_;refine hC k_ ?_ _;go_wp2;rw[aI.out];exact⟨rfl,cW.trans (E.trans h)⟩
