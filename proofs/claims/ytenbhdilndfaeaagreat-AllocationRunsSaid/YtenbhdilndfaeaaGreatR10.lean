import Derived.Test.YtenbhdilndfaeaaGreatR02
import Derived.Test.YtenbhdilndfaeaaGreatR08
import Derived.Test.YtenbhdilndfaeaaGreatR09
set_option maxRecDepth 100000
set_option maxHeartbeats 0
set_option linter.all false
namespace Go.Proofs.YtenbhdilndfaeaaGreat
open Go.RowKit Go.Proofs.Tryz
variable{G:Prop}{g k:Nat}{cur:Array Value}{R:Ending->World->Prop}(A:OA)(c:Nat)(t:Tk)(d:Dl)(w:World)
def IA(h:G:=by
 clear hp o;exact IC):G:=h
def IB(h:G:=by
 clear hp;exact IC):G:=h
def IC(h:G:=by
 refine jI (W:=ah) (H _ _) k_ k_ ?_
 repeat(first|((with_reducible refine lp (MP.gw) underlying53 (by with_unfolding_all rfl) aB (by with_unfolding_all rfl) (by with_unfolding_all rfl) ?_);simp only[Gy,GJ,GU])|go_big_quiet_step (((first|(go_at_call 128;exact Calls.gq (G.out _))|(go_at_call_of 129 (Value.slice t.ws.A t.ws.l.length t.ws.c);exact Calls.gq (bl.out _))|(go_at_call_of 129 (Value.slice t.rs.A t.rs.l.length t.rs.c);exact Calls.gq (D.out _))))))
 exact K0):G:=h
def Lv(h:G:=by
 have V:=MR.hA aN p_;exact l5 t.g8 (.bool false) m underlying53 ⟨t,rfl,MO.g_ V,rfl,V⟩):G:=h
def ns(P:i6)(b:Bool)(w:World)(e:Ending)(w':World):Prop:=∃t:Tk,e=.returned (.tuple #[.agg t.g8,.bool b])/\ln w' t/\t.p=P/\J [] w w'
def yc(l:List Dl)(id f:Int): -1<=pu l id f/\pu l id f<l.length:=by
 have:=nA (λc:Dl=>c.id==id&&c.f==f) l 0
 unfold pu;exact ML
def yJ(l:List Ob)(id:Int): -1<=jn l id/\jn l id<l.length:=by
 have:=nA (λa:Ob=>a.id==id) l 0
 unfold jn;exact ML
def CO{W:World}{p:Addr}{v:Value}(h:W.cell? p=some v):∀y:GW W,y.1.cell? p=some v:=λy=>y.2.f_ h s_
def tK(x:Int)(h: -1<=x):x= -1∨∃n:Nat,x=n:=by
 by_cases a:x= -1
 .exact .inl a
 .exact .inr ⟨x.toNat,X⟩
def oX(t:i6)(d:Dl):Bool:=(take t d).isNone
def Sl.D1{w:World}{j:TypeId}{l:List Dl}(a:Bk w g j cur)(h:∀(i:Nat) (u:Value),(l.flatMap Dl.E)[i]?=some u->cur[i]?=some u)(e:k<l.length):
 w.cell? (Z g (k*5+3))=some (.bool l[k].v.r)/\w.cell? (Z g (k*5+4))=some (Y l[k].v.n):=by
 have g:=λf b=>jg Dl.E 5 (λ_=>rfl) l k f e b
 exact⟨(a.f_ _).trans (h (k*5+3) _ (g 3 X)),(a.f_ _).trans (h (k*5+4) _ (g 4 X))⟩
def AJ{m:Type}(E:m->List Value)(j:∀a,(E a).length=5){w:World}{e:TypeId}{l:List m}(n:k<l.length)(r:m){x y:Value}(C:E r=(E l[k]).take 3++[x,y])(v:Bk w g e cur)(h:∀(i:Nat) (u:Value),(l.flatMap E)[i]?=some u->cur[i]?=some u):
 Sl ((w.setCell (Z g (k*5+3)) x).setCell (Z g (k*5+4)) y) e 5 (j_ g) l.length ((l.set k r).flatMap E):=by
 have p:=(v.hN (k*5+3) x).hN (k*5+4) y;have iG:=kk E 5 j l
 have D:k*5+4<cur.size:=by
  have B:k*5+4<(l.flatMap E).length:=X
  have:=h _ _ (L_ B)
  rcases FO (k*5+4) cur.size with h|h
  .exact h
  .exact MI
 refine⟨by rw[kk E 5 j];simp,λ_=>⟨g,0,_,_,rfl,p,λf u b=>?_⟩⟩;rw[W_];refine q5 E 5 j X l k n r cur h (λf u b=>?_) (λi F=>?_) f u b
 .have s:((E l[k]).take 3).length=3:=by rw[Gd,j];rfl
  rw[C]at b
  by_cases z:f<3
  .rw[Hc X,Gv,O_ z]at b;rw[J_,I_ X,J_,I_ X];exact h _ _ (by rw[jg E 5 j l k f n X];exact b)
  .rw[GN X,s]at b
   have o:f=3∨f=4:=by
    rcases FO (f-3) 2 with h|h
    .omega
    .rw[F8 (zu h)]at b
     cases b
   rcases o with rfl|rfl
   .simp at b;subst b;rw[J_,I_ X,J_,O_ rfl,O_ X]
   .simp at b;subst b;rw[J_,O_ rfl,O_ p_]
 .rw[J_,I_ X,J_,I_ X]
def i9{a b:Bool}(h:a=b):Value.bool a=Value.bool b:=by rw[h]
def uL(MO:ln w t)(aF:t.ds.l.length<=1000000000)(bf:t.nw.l.length<=1000000000)(ap:t.ws.l.length<=1000000000)(E:t.rs.l.length<=1000000000)(B:R=ns t.p false w/\take t.p d=none∨∃P,R=ns P true w/\take t.p d=some P):
 Calls prog 126 #[.agg t.g8,.agg #[Y d.id,Y d.f,Y d.op,.bool d.v.r,Y d.v.n]] w R:=by
 obtain⟨MP,b,h,MR⟩:=xj w 53 t.g8 124 #[Y d.id,Y d.f,Y d.op,.bool d.v.r,Y d.v.n] 53 lK
 go_enter func126,ntmps126
 go_upto_region 1 with fail
 obtain⟨W,aI⟩:=nm_ (((w.alloc (.cells t.g8 53)).alloc (.cells #[Y d.id,Y d.f,Y d.op,.bool d.v.r,Y d.v.n] 124)).alloc (.cells lK 53));rw[<-aI]at MP b h MR |-;clear aI;have a2:=b.f_ 0;have bp:=b.f_ 1;have bT:=b.f_ 2;have bQ:=b.f_ 3;have bt:=b.f_ 4
 go_upto_region 2 with(first|(refine k5 MP underlying53 ?_)|(go_at_call 130;((with_reducible refine(l6 t d.id d.f (MO.g_ MR) aF).mono ?_);rintro x ah⟨rfl,al⟩;replace MP:=MP.g_ al;replace b:=b.g_ al;replace h:=h.g_ al;replace MR:=MR.trans al)))
 clear a2 bp bT bQ bt al;have ae:=O (show pu t.ds.l d.id d.f=pu t.p.ds d.id d.f from rfl);have bi:=yc t.ds.l d.id d.f;generalize bV:pu t.ds.l d.id d.f=g at*;have be:=O bV;clear bV;have bU:=O B;clear B
 go_cut [58] (λa L=>a=.bool (oX t.p d)/\J [] ah L)
 case first=>
  have u:∀a:GW ah,a.1.cell? (Z w.heap.size 2)=some (.bool t.h8):=λa=>(MP.Ae 2 a).trans rfl
  have ck:∀a:GW ah,a.1.cell? (Z w.heap.size 37)=some (.slice t.rs.A t.rs.l.length t.rs.c):=λa=>(MP.Ae 37 a).trans rfl
  have cn:∀a:GW ah,a.1.cell? (Z w.heap.size 38)=some (.slice t.ws.A t.ws.l.length t.ws.c):=λa=>(MP.Ae 38 a).trans rfl
  have K:∀a:GW ah,a.1.cell? (Z w.heap.size 40)=some (.slice t.ds.A t.ds.l.length t.ds.c):=λa=>(MP.Ae 40 a).trans rfl
  have e0:=b.Ae 0;have aC:=b.Ae 1;have aw:=b.Ae 2;have aB:(prog.info? 53).map (·.size)=some t.g8.size:=k_
  have G:Hid (∀a:GW ah,Calls prog 128 #[.agg t.g8,Y d.id] a.1 (λx i=>x=.returned (Y (jn (hU t.nw.l) d.id))/\J [] a.1 i)):=O λa=>o7 t d.id a.1 (MO.g_ (MR.trans a.2)) bf
  have bl:Hid (∀a:GW ah,Calls prog 129 #[.slice t.ws.A t.ws.l.length t.ws.c,Y d.id,Y d.f] a.1 (λx i=>x=.returned (Y (cat t.ws.l d.id d.f))/\J [] a.1 i)):=O λa=>lT t.ws.A t.ws.c t.ws.l d.id d.f a.1 (MO.g_ (MR.trans a.2)).ws ap
  have D:Hid (∀a:GW ah,Calls prog 129 #[.slice t.rs.A t.rs.l.length t.rs.c,Y d.id,Y d.f] a.1 (λx i=>x=.returned (Y (cat t.rs.l d.id d.f))/\J [] a.1 i)):=O λa=>lT t.rs.A t.rs.c t.rs.l d.id d.f a.1 (MO.g_ (MR.trans a.2)).rs E
  have N:=(yJ (hU t.nw.l) d.id).1;have dQ:=(rZ t.ws.l d.id d.f).1;have T:=(rZ t.rs.l d.id d.f).1;have Q:=O (show take t.p d=take t.p d from rfl)
  have e:Hid (take t.p d=if t.h8=true∨0<=jn (hU t.nw.l) d.id∨0<=cat t.ws.l d.id d.f∨0<=cat t.rs.l d.id d.f then none
   else if g<0 then some {t.p with ds:=t.ds.l.take (rX t.ds.l d.id d.f)++([d]++t.ds.l.drop (rX t.ds.l d.id d.f))}
   else if(t.ds.l.getD g.toNat default).op≠d.op then none
   else some {t.p with ds:=t.ds.l.modify g.toNat (λM=>{M with v:=(iz d.op M.v d.v).1})}):=O (by rw[<-be.out];rfl)
  have cf:g<0∨∃(k:Nat) (hk:k<t.ds.l.length),g=k/\∃U off,t.ds.A=some (Z U off)/\ah.cell? (Z U (off+k*5+2))=some (Y t.ds.l[k].op):=by
   by_cases an:g<0
   .exact .inl an
   .have hk:g.toNat<t.ds.l.length:=X;obtain⟨U,off,j,_,_,r,_⟩:=(MO.g_ MR).ds.at_ hk;exact .inr ⟨g.toNat,hk,(GF X).symm,U,off,j,r⟩
  generalize jn (hU t.nw.l) d.id=y at*;generalize cat t.ws.l d.id d.f=C at*;generalize cat t.rs.l d.id d.f=xr at*;generalize t.g8=cs at*;have S:=O bi;clear Q bi ae
  cases hp:t.h8 with
  |true=>
   have aV:=O (show oX t.p d=true by unfold oX;rw[e.out,O_ (.inl hp)];rfl);rw[hp]at u;exact IB
  |false=>
   rw[hp]at u
   rcases tK y N with rfl|⟨no,rfl⟩
   .rcases tK C dQ with rfl|⟨nw,rfl⟩
    .rcases tK xr T with rfl|⟨nr,rfl⟩
     .rcases cf with z|⟨k,hk,rfl,U,off,j,r⟩
      .obtain rfl:g= -1:=by have:=S.out;omega
       have aV:=O (show oX t.p d=false by unfold oX;rw[e.out,I_ (by rw[hp];simp),O_ X];rfl);clear hp z;exact IC
      .have bh:(k:Int)<(t.ds.l.length:Int):=X;rw[j]at K;have h3:=CO r
       by_cases o:t.ds.l[k].op=d.op
       .have aV:=O (show oX t.p d=false by unfold oX;rw[e.out,I_ (by rw[hp];simp),I_ X,I_ (by simp[List.getD,L_ hk,o])];rfl);have q:(t.ds.l[k].op !=d.op)=false:=zu o;exact IA
       .have aV:=O (show oX t.p d=true by unfold oX;rw[e.out,I_ (by rw[hp];simp),I_ X,O_ (by simp[List.getD,L_ hk,o])];rfl);have q:(t.ds.l[k].op !=d.op)=true:=zu o;exact IA
     .have aV:=O (show oX t.p d=true by unfold oX;rw[e.out,O_ (.inr (.inr (.inr X)))];rfl);exact IB
    .have aV:=O (show oX t.p d=true by unfold oX;rw[e.out,O_ (.inr (.inr (.inl X)))];rfl);exact IB
   .have aV:=O (show oX t.p d=true by unfold oX;rw[e.out,O_ (.inr (.inl X))];rfl);exact IB
 case rest=>
  obtain⟨rfl,F⟩:=hcut;replace MP:=MP.g_ F;replace b:=b.g_ F;replace h:=h.g_ F;replace MR:=MR.trans F
  rcases bU.out with⟨rfl,B⟩|⟨P,rfl,z⟩
  .rw[show oX t.p d=true by unfold oX;rw[B];rfl];clear B bU ae be bi F
   go_wp2_with (first|(refine k5 MP underlying53 ?_)|(refine kZ (t.g8) h (Tk.one _) ?_;intro aH m aN))
   exact Lv
  .rw[show oX t.p d=false by unfold oX;rw[z];rfl]
   have N:(g<0/\P={t.p with ds:=t.ds.l.take (rX t.ds.l d.id d.f)++([d]++t.ds.l.drop (rX t.ds.l d.id d.f))})∨(0<=g/\P={t.p with ds:=t.ds.l.modify g.toNat (λM=>{M with v:=(iz d.op M.v d.v).1})}):=by
    unfold take at z;have x:pu t.p.ds d.id d.f=g:=be.out;rw[x]at z;split at z
    .cases z
    .split at z
     .exact .inl ⟨by assumption,by injection z with an;exact an.symm⟩
     .split at z
      .cases z
      .exact .inr ⟨X,by injection z with an;exact an.symm⟩
   clear z bU ae;have cu:=MO.g_ MR;have bE:Sl wc 124 5 t.ds.A t.ds.l.length (t.ds.l.flatMap Dl.E):=cu.ds;have b7:w.heap.size+1+1+1<=wc.heap.size:=h.lt;obtain⟨bC,bv,bw,aZ,bg⟩:=info_parts infoDl;have bq:wc.cell? (Z w.heap.size 40)=some (.slice t.ds.A t.ds.l.length t.ds.c):=(MP.f_ 40).trans rfl
   rcases N with⟨bL,N⟩|⟨aA,N⟩
   .have aQ:=O N
    obtain rfl:g= -1:=by omega
    have bR:=O (show rX t.ds.l d.id d.f=0+mr (oh d.id d.f) (t.ds.l.drop 0) by simp[rX]);have bJ:=O (show ∀k,k=rX t.ds.l d.id d.f->(t.ds.l.take k++([d]++t.ds.l.drop k)).length=k+(1+(t.ds.l.length-k)) from λk hk=>by have:=pY (oh d.id d.f) t.ds.l;unfold rX at hk;simp;omega);clear N bL F be
    go_upto_block 0 with(at_builtin;refine iJ _ rfl (.const (n_)) (.tmp 61) 51 rfl (w.heap.size+1+1+1) 124 bC _ 5 40 underlying51 bv bw aZ bg rfl I I none 0 0 [] rfl (iY _ _ _ _) t.ds.A t.ds.l.length t.ds.c _ rfl bE (t8 _) X b7 ?_;intro aP r S K y;simp only[W_,FU]at K;replace MR:=y.gr [] w X MR;replace MP:=y.bk MP I;replace b:=y.ue b X;replace h:=y.bk h I)
    have ax:Ds S aP t.ds.l:=Sl.iQ K;have bZ:=jk K;clear K y bq bE
    go_cut [8] (λa L=>∃k:Nat,a=Y k/\k<=t.ds.l.length/\k=rX t.ds.l d.id d.f/\J [] S L)
    case first=>
     go_wp2_with fail
     go_loopw [8] (λa Q=>∃k:Nat,a=Y k/\k<=t.ds.l.length/\rX t.ds.l d.id d.f=k+mr (oh d.id d.f) (t.ds.l.drop k)/\J [] S Q) (λa _=>t.ds.l.length-(intOf a).toNat)
     case atStart=>exact⟨0,rfl,P_ _,bR.out,H _ _⟩
     case round=>
      obtain⟨k,rfl,hk,u,F⟩:=hrel;have MT:=O u;clear u;have j:=b.g_ F;have a2:=j.f_ 0;have bp:=j.f_ 1;clear j
      by_cases i:k<t.ds.l.length
      .have aw:(k:Int)<(t.ds.l.length:Int):=X;obtain⟨U,off,cZ,MN,ai,ca,ce,cr⟩:=(ax.g_ F).at_ i;subst cZ
       by_cases t0:t.ds.l[k].id<d.id
       .have aq:=O (oJ (p:=(oh d.id d.f)) i (by simp[oh,t0]));have bG:decide (t.ds.l[k].id<d.id)=true:=zu t0;exact Kf
       .have bG:decide (t.ds.l[k].id<d.id)=false:=zu t0
        by_cases t1:t.ds.l[k].id=d.id
        .have q1:(t.ds.l[k].id==d.id)=true:=zu t1
         by_cases ag:t.ds.l[k].f<d.f
         .have aq:=O (oJ (p:=(oh d.id d.f)) i (by simp[oh,t1,ag]));have q2:decide (t.ds.l[k].f<d.f)=true:=zu ag;exact J4
         .have aq:=O (nL (p:=(oh d.id d.f)) i (by simp[oh,t1,ag]));have q2:decide (t.ds.l[k].f<d.f)=false:=zu ag;exact KI
        .have aq:=O (nL (p:=(oh d.id d.f)) i (by simp[oh,t0,t1]));have q1:(t.ds.l[k].id==d.id)=false:=zu t1;exact KM
      .have aq:=O (rU (p:=(oh d.id d.f)) (l:=t.ds.l) (k:=k) X);have aw:¬(k:Int)<(t.ds.l.length:Int):=X;exact K1
    case rest=>
     obtain⟨k,rfl,hk,av,F⟩:=hcut;have aT:=O av;clear av;replace MP:=(MP.g_ F).drew;replace b:=b.g_ F;replace h:=(h.g_ F).drew;have z0:=b.f_ 0;have aR:=b.f_ 1;have aU:=b.f_ 2;have z3:=b.f_ 3;have z4:=b.f_ 4;replace b:=b.drew;have e0:(0:Int)<=(k:Int):=X;have aC:(k:Int)<=(t.ds.l.length:Int):=X;have aw:(k:Int)<=(r:Int):=X;have aS:=ax.g_ F;have aL:=(Sl.yw qK aS hk).g_ ((H [] wc).alloc (.cells #[Y d.id,Y d.f,Y d.op,.bool d.v.r,Y d.v.n] 124)).drew;have aG:=(Sl.yM qK aS hk r bZ).g_ ((H [] wc).alloc (.cells #[Y d.id,Y d.f,Y d.op,.bool d.v.r,Y d.v.n] 124)).drew;have aW:=O (show ∀bd∈(#[Y d.id,Y d.f,Y d.op,.bool d.v.r,Y d.v.n]:Array Value).toList++(t.ds.l.drop k).flatMap Dl.E,bd.oneCell'=true from λbd hu=>t8 (d::t.ds.l.drop k) bd hu);have bA:=kV (s:=5) (Q_ wc.drew 124 #[Y d.id,Y d.f,Y d.op,.bool d.v.r,Y d.v.n]) rfl;have b3:=MR.trans F;clear ax F aS MR
     go_wp2_with fail
     go_region_held3 (λQ=>Q.cell? (Z (w.heap.size+1) 0)=some (Y d.id)/\Q.cell? (Z (w.heap.size+1) 1)=some (Y d.f)/\Q.cell? (Z (w.heap.size+1) 2)=some (Y d.op)/\Q.cell? (Z (w.heap.size+1) 3)=some (.bool d.v.r)/\Q.cell? (Z (w.heap.size+1) 4)=some (Y d.v.n)) (first|exact du|exact dE|exact bn|go_keep)
      (first
        |(refine mG _ r_ (.tmp 126) (.tmp 129) 51 r_ 124 bC _ 5 40 underlying51 bv bw aZ bg rfl I I _ 1 _ r_ bA _ (t.ds.l.length-k) _ _ r_ aG (t8 _) X ?_;intro a7 c5 T ao bu C;have b0:=(b.alloc (.cells #[Y d.id,Y d.f,Y d.op,.bool d.v.r,Y d.v.n] 124)).g_ C;have du:T.cell? (Z (w.heap.size+1) 0)=some (Y d.id)/\T.cell? (Z (w.heap.size+1) 1)=some (Y d.f)/\T.cell? (Z (w.heap.size+1) 2)=some (Y d.op)/\T.cell? (Z (w.heap.size+1) 3)=some (.bool d.v.r)/\T.cell? (Z (w.heap.size+1) 4)=some (Y d.v.n):=b0.c5)
        |(refine mG _ r_ (.tmp 124) (.tmp 130) 51 r_ 124 bC _ 5 40 underlying51 bv bw aZ bg rfl I I _ k _ r_ (aL.g_ C) _ (1+(t.ds.l.length-k)) _ _ r_ bu aW.out X ?_;intro j i u bF bY az;have bk:=b0.g_ az;have dE:u.cell? (Z (w.heap.size+1) 0)=some (Y d.id)/\u.cell? (Z (w.heap.size+1) 1)=some (Y d.f)/\u.cell? (Z (w.heap.size+1) 2)=some (Y d.op)/\u.cell? (Z (w.heap.size+1) 3)=some (.bool d.v.r)/\u.cell? (Z (w.heap.size+1) 4)=some (Y d.v.n):=bk.c5;have aO:=bk.ib (p:=(Z w.heap.size 40)) sd_ (.slice j (k+(1+(t.ds.l.length-k))) i);have bn:(u.setCell (Z w.heap.size 40) (.slice j (k+(1+(t.ds.l.length-k))) i)).cell? (Z (w.heap.size+1) 0)=some (Y d.id)/\(u.setCell (Z w.heap.size 40) (.slice j (k+(1+(t.ds.l.length-k))) i)).cell? (Z (w.heap.size+1) 1)=some (Y d.f)/\(u.setCell (Z w.heap.size 40) (.slice j (k+(1+(t.ds.l.length-k))) i)).cell? (Z (w.heap.size+1) 2)=some (Y d.op)/\(u.setCell (Z w.heap.size 40) (.slice j (k+(1+(t.ds.l.length-k))) i)).cell? (Z (w.heap.size+1) 3)=some (.bool d.v.r)/\(u.setCell (Z w.heap.size 40) (.slice j (k+(1+(t.ds.l.length-k))) i)).cell? (Z (w.heap.size+1) 4)=some (Y d.v.n):=aO.c5;have bz:=((MP.alloc (.cells #[Y d.id,Y d.f,Y d.op,.bool d.v.r,Y d.v.n] 124)).g_ C).g_ az;have br:=((h.alloc (.cells #[Y d.id,Y d.f,Y d.op,.bool d.v.r,Y d.v.n] 124)).g_ C).g_ az;have bq:u.cell? (Z w.heap.size 40)=some (.slice t.ds.A t.ds.l.length t.ds.c):=(bz.f_ 40).trans rfl;have f40:=bz.hm 40;have a8:=bz.hN 40 (.slice j (k+(1+(t.ds.l.length-k))) i);have m:=br.ib (p:=(Z w.heap.size 40)) sd_ (.slice j (k+(1+(t.ds.l.length-k))) i);have iG:=bJ.out k aT.out;have bx:({t with ds:=⟨j,i,t.ds.l.take k++([d]++t.ds.l.drop k)⟩}:Tk).g8=t.g8.setIfInBounds 40 (.slice j (k+(1+(t.ds.l.length-k))) i):=(by rw[<-iG];rfl);have bm:=O bx;clear bx iG;rw[<-bm.out]at a8))
     go_wp2_with (first|(refine k5 a8 underlying53 ?_)|(refine kZ (({t with ds:=⟨j,i,t.ds.l.take k++([d]++t.ds.l.drop k)⟩}:Tk).g8) m (Tk.one _) ?_;intro bH ar aY))
     all_goals
      refine l5 ({t with ds:=⟨j,i,t.ds.l.take k++([d]++t.ds.l.drop k)⟩}:Tk).g8 (.bool true) ar underlying53 ?_;unfold ns;rw[aQ.out,<-aT.out];have iG:=bJ.out k aT.out;have V:=(((((b3.alloc _).drew).trans C).trans az).setCell (p:=(Z w.heap.size 40)) (.inr s_) (.slice j (k+(1+(t.ds.l.length-k))) i)).hA aY p_;have e:=MO.g_ V;have bW:=(bY.ir bz I ((H [w.heap.size] u).setCell (p:=(Z w.heap.size 40)) (.inl s_) (.slice j (k+(1+(t.ds.l.length-k))) i))).ir m I aY;refine⟨({t with ds:=⟨j,i,t.ds.l.take k++([d]++t.ds.l.drop k)⟩}:Tk),rfl,⟨e.gs,e.rs,e.ws,e.nw,e.nr,?_,e.hW,e.yK,e.lD,e.vU,e.tN,?_,e.qc⟩,rfl,V⟩
      .show Sl bH 124 5 j (t.ds.l.take k++([d]++t.ds.l.drop k)).length _
       rw[iG,F2,F2,Hz];exact bW
      .show(t.ds.l.take k++([d]++t.ds.l.drop k)).length<=i
       rw[iG];exact bF
   .obtain⟨k,rfl⟩:∃k:Nat,g=k:=⟨g.toNat,(GF aA).symm⟩;have hk:k<t.ds.l.length:=X;have aQ:=O N;clear N aA F be
    go_upto_region 6 with(at_builtin;refine iJ _ rfl (.const (n_)) (.tmp 61) 51 rfl (w.heap.size+1+1+1) 124 bC _ 5 40 underlying51 bv bw aZ bg rfl I I none 0 0 [] rfl (iY _ _ _ _) t.ds.A t.ds.l.length t.ds.c _ rfl bE (t8 _) X b7 ?_;intro aP r S K y;simp only[W_,FU]at K;replace MR:=y.gr [] w X MR;replace MP:=y.bk MP I;replace b:=y.ue b X;replace h:=y.bk h I)
    obtain⟨i,cp,bM,ct,cX,b6⟩:=kS K X;subst bM;have hv:=Sl.Cj qK (Sl.iQ K) hk;have v3:S.cell? (Z i (k*5+3))=some _:=hv 3 _ rfl;have v4:S.cell? (Z i (k*5+4))=some _:=hv 4 _ rfl;have bZ:=jk K;have MM:=O b6
    have bS:=O (show t.ds.l.modify k (λM=>{M with v:=(iz d.op M.v d.v).1})=t.ds.l.set k {t.ds.l[k]with v:=(iz d.op t.ds.l[k].v d.v).1} by
     apply HP;intro cb;rw[H3,HB]
     by_cases x:k=cb
     .subst x;simp[hk]
     .simp[x])
    have cj:=(Bk.me cX MP I).symm;have cg:=(Bk.me cX h I).symm;clear hv b6 K y bq bE;obtain⟨j,bI⟩:=mn_ (t.ds.l[k]);rw[bI]at v3 v4 bS;have b8:=O bI;clear bI;obtain⟨u,hr⟩:=mn_ (iz d.op j.v d.v);rw[hr]at bS;have D:=O hr;clear hr;have aU:=b.f_ 2;have z3:=b.f_ 3;have z4:=b.f_ 4;have bB:=MP.drew;have bj:=h.drew;have b5:=cX.drew;have aX:=MR.drew
    go_cut [] (λL=>Bk L w.heap.size 53 t.g8/\Bk L (w.heap.size+1+1) 53 lK/\Sl L 124 5 (j_ i) t.ds.l.length ((t.ds.l.set k {j with v:=u.1}).flatMap Dl.E)/\J [] w L)
    case first=>
     go_region_with ((go_at_call 164;((with_reducible refine(mR d.op j.v d.v).mono ?_);rintro x T⟨he,C⟩;unfold qN at he;subst he;rw[D.out];have Q:=b5.g_ C;have MS:=Sl.D1 Q MM.out hk;have v5:=MS.1;have cv:=MS.2;clear MS;have f5:=Q.hm (k*5+3);have f6:=Q.hm (k*5+4))))
     all_goals
      go_wp2;go_meet;exact⟨(bB.g_ C).uy cj _ _ _ _,(bj.g_ C).uy cg _ _ _ _,AJ Dl.E qK hk {j with v:=u.1} (by rw[b8.out];rfl) Q MM.out,(aX.trans C).two (.inr X) _ _ _ _⟩
    case rest=>
     clear MP h b cX bB bj b5 aX aU z3 z4 MR;obtain⟨MP,h,cc,MR⟩:=hcut;have bq:wc.cell? (Z w.heap.size 40)=some (.slice t.ds.A t.ds.l.length t.ds.c):=(MP.f_ 40).trans rfl;have f40:=MP.hm 40;have co:Bk (wc.setCell (Z w.heap.size 40) (.slice (j_ i) t.ds.l.length r)) w.heap.size 53 ({t with ds:=⟨some (Z i 0),r,t.ds.l⟩}:Tk).g8:=MP.hN 40 _;have Q:=h.ib (p:=(Z w.heap.size 40)) sd_ (.slice (j_ i) t.ds.l.length r)
     go_wp2_with (first|(refine k5 co underlying53 ?_)|(refine kZ (({t with ds:=⟨some (Z i 0),r,t.ds.l⟩}:Tk).g8) Q (Tk.one _) ?_;intro aH m aN))
     have bx:({t with ds:=⟨some (Z i 0),r,t.ds.l.set k {j with v:=u.1}⟩}:Tk).g8=({t with ds:=⟨some (Z i 0),r,t.ds.l⟩}:Tk).g8:=by simp[Tk.g8]
     rw[<-bx]at m;refine l5 ({t with ds:=⟨some (Z i 0),r,t.ds.l.set k {j with v:=u.1}⟩}:Tk).g8 (.bool true) m underlying53 ?_;unfold ns;rw[aQ.out];have bO:=MR.setCell (p:=(Z w.heap.size 40)) (.inr s_) (.slice (j_ i) t.ds.l.length r);have V:=bO.hA aN p_;have e:=MO.g_ V;have bW:=(cc.ir MP I ((H [w.heap.size] wc).setCell (p:=(Z w.heap.size 40)) (.inl s_) (.slice (j_ i) t.ds.l.length r))).ir Q I aN;refine⟨({t with ds:=⟨some (Z i 0),r,t.ds.l.set k {j with v:=u.1}⟩}:Tk),rfl,⟨e.gs,e.rs,e.ws,e.nw,e.nr,?_,e.hW,e.yK,e.lD,e.vU,e.tN,?_,e.qc⟩,?_,V⟩
     .show Sl aH 124 5 (j_ i) (t.ds.l.set k _).length _
      rw[FV];exact bW
     .show(t.ds.l.set k _).length<=r
      rw[FV];exact bZ
     .rw[F0,bS.out]
      rfl
def Ca{w:World}(a:ln w t)(b:t.ds.l.length<=1000000000)(f:t.nw.l.length<=1000000000)(e:t.ws.l.length<=1000000000)(E:t.rs.l.length<=1000000000)(h:take t.p d=none):
 Calls prog 126 #[.agg t.g8,.agg #[Y d.id,Y d.f,Y d.op,.bool d.v.r,Y d.v.n]] w (ns t.p false w):=uL t d w a b f e E (.inl ⟨rfl,h⟩)
def AA(P:i6){w:World}(a:ln w t)(b:t.ds.l.length<=1000000000)(f:t.nw.l.length<=1000000000)(e:t.ws.l.length<=1000000000)(E:t.rs.l.length<=1000000000)(h:take t.p d=some P):
 Calls prog 126 #[.agg t.g8,.agg #[Y d.id,Y d.f,Y d.op,.bool d.v.r,Y d.v.n]] w (ns P true w):=uL t d w a b f e E (.inr ⟨P,rfl,h⟩)
def sj(A:OA)(c:Nat)(l:List Rw)(id f:Int)(w:World)(MO:ln w t)(h:mB w A c l)(hs:t.p.sm 100000000)(hl:l.length<=100000000)(B:R=ns t.p false w/\jO t.p (hU l) id f=none∨∃P,R=ns P true w/\jO t.p (hU l) id f=some P):
 Calls prog 131 #[.agg t.g8,.agg #[.slice A l.length c],Y id,Y f] w R:=by
 have aE:t.gs.l.length<=1000000000:=G_ hs.gs I;have W:t.rs.l.length<=1000000000:=G_ hs.rs I;have ap:t.ws.l.length<=1000000000:=G_ hs.ws I;have aF:t.ds.l.length<=1000000000:=G_ hs.ds I
 have bf:t.nw.l.length<=100000000:=by have:=hs.nw;rwa [show t.p.nw=hU t.nw.l from rfl,hZ]at this
 have hn1:l.length<=1000000000:=X;have bi:=yc t.ds.l id f;obtain⟨g,bV⟩:=mn_ (pu t.ds.l id f);rw[bV]at bi
 have bX:jO t.p (hU l) id f=if g<0 then some t.p else match h6 (before t.p (hU l)) id f with
  |none=>none
  |some S=>if S.r=true then none else some (iO {t.p with rs:=ka t.rs.l ⟨id,f,S⟩,ds:=t.ds.l.eraseIdx g.toNat} ⟨id,f,(h6 (iu t.p (hU l)) id f).getD default⟩):=by rw[<-bV];rfl
 rw[bX]at B;have be:=O bV;clear bV bX;obtain⟨a,e,b,MR⟩:=xj w 53 t.g8 35 #[.slice A l.length c] 53 lK
 go_enter func131,ntmps131
 go_upto_region 1 with fail
 obtain⟨al,aI⟩:=nm_ (((w.alloc (.cells t.g8 53)).alloc (.cells #[.slice A l.length c] 35)).alloc (.cells lK 53));rw[<-aI]at a e b MR |-;clear aI;have v:=e.f_ 0
 rcases tK g bi.1 with rfl|⟨k,rfl⟩
 .rw[O_ X]at B
  rcases B with⟨rfl,B⟩|⟨P,rfl,y⟩
  .cases B
  .injection y with y;subst y
   go_wp2_with (first|(refine k5 a underlying53 ?_)|(go_at_call 130;((with_reducible refine(l6 t id f (MO.g_ MR) aF).mono ?_);rintro s ah⟨rfl,j⟩;rw[be.out];replace a:=a.g_ j;replace e:=e.g_ j;replace b:=b.g_ j;replace MR:=MR.trans j;replace v:=e.f_ 0))|(refine kZ (t.g8) b (Tk.one _) ?_;intro aH m aN))
   have V:=MR.hA aN p_;exact l5 t.g8 (.bool true) m underlying53 ⟨t,rfl,MO.g_ V,rfl,V⟩
 .rw[I_ X,F0]at B;have hk:k<t.ds.l.length:=X
  cases T:h6 (before t.p (hU l)) id f with
  |none=>
   rw[T]at B;simp only at B;have an:=O T;clear T
   rcases B with⟨rfl,B⟩|⟨P,rfl,y⟩
   .clear B
    go_wp2_with (first|(refine k5 a underlying53 ?_)|(go_at_call 130;((with_reducible refine(l6 t id f (MO.g_ MR) aF).mono ?_);rintro s ah⟨rfl,j⟩;rw[be.out];replace a:=a.g_ j;replace e:=e.g_ j;replace b:=b.g_ j;replace MR:=MR.trans j;replace v:=e.f_ 0))|(go_at_call 122;((with_reducible refine(pk t A c l (MO.g_ MR) (h.g_ MR) hn1 aE W).mono ?_);unfold mt;rintro s aA⟨aP,c4,C,rfl,D,d,o⟩;have bd:=O d;have U:=O (show C.length=l.length from(by have:=hZ C;rw[d,mQ,hZ]at this;exact this.symm));clear d;replace a:=a.g_ o;replace e:=e.g_ o;replace b:=b.g_ o;replace MR:=MR.trans o;replace v:=e.f_ 0))|(go_at_call 148;((with_reducible refine(kA aP c4 C id f _ D.os D.lD (ov U.out)).mono ?_);rintro s M⟨rfl,r⟩;rw[bd.out,an.out];simp only[HE,HK];replace a:=(a.g_ r).alloc (.cells (V_ (default:Vl)) 38);replace e:=(e.g_ r).alloc (.cells (V_ (default:Vl)) 38);replace b:=(b.g_ r).alloc (.cells (V_ (default:Vl)) 38);replace MR:=(MR.trans r).alloc (.cells (V_ (default:Vl)) 38);have n:=Q_ M 38 (V_ (default:Vl));have L:=n.f_ 0;have N:=n.f_ 1;replace v:=e.f_ 0))|(refine kZ (t.g8) b (Tk.one _) ?_;intro aH m aN))
    exact Lv
   .cases y
  |some S=>
   rw[T]at B;simp only at B;have an:=O T;clear T
   cases K:S.r with
   |true=>
    rw[O_ K]at B
    rcases B with⟨rfl,B⟩|⟨P,rfl,y⟩
    .clear B;have u:=O K;obtain⟨br,i⟩:=S;simp only at K;subst K;clear u
     go_wp2_with (first|(refine k5 a underlying53 ?_)|(go_at_call 130;((with_reducible refine(l6 t id f (MO.g_ MR) aF).mono ?_);rintro s ah⟨rfl,j⟩;rw[be.out];replace a:=a.g_ j;replace e:=e.g_ j;replace b:=b.g_ j;replace MR:=MR.trans j;replace v:=e.f_ 0))|(go_at_call 122;((with_reducible refine(pk t A c l (MO.g_ MR) (h.g_ MR) hn1 aE W).mono ?_);unfold mt;rintro s aA⟨aP,c4,C,rfl,D,d,o⟩;have bd:=O d;have U:=O (show C.length=l.length from(by have:=hZ C;rw[d,mQ,hZ]at this;exact this.symm));clear d;replace a:=a.g_ o;replace e:=e.g_ o;replace b:=b.g_ o;replace MR:=MR.trans o;replace v:=e.f_ 0))|(go_at_call 148;((with_reducible refine(kA aP c4 C id f _ D.os D.lD (ov U.out)).mono ?_);rintro s M⟨rfl,r⟩;rw[bd.out,an.out];simp only[GE,Hl];replace a:=(a.g_ r).alloc (.cells #[.bool true,Y i] 38);replace e:=(e.g_ r).alloc (.cells #[.bool true,Y i] 38);replace b:=(b.g_ r).alloc (.cells #[.bool true,Y i] 38);replace MR:=(MR.trans r).alloc (.cells #[.bool true,Y i] 38);have n:=Q_ M 38 #[.bool true,Y i];have L:=n.f_ 0;have N:=n.f_ 1;replace v:=e.f_ 0))|(refine kZ (t.g8) b (Tk.one _) ?_;intro aH m aN))
     exact Lv
    .cases y
   |false=>
    rw[I_ (by rw[K];simp)]at B
    rcases B with⟨rfl,B⟩|⟨P,rfl,y⟩
    .cases B
    .injection y with y;have aQ:=O y.symm;clear y;obtain⟨br,i⟩:=S;simp only at K;subst K
     go_upto_region 7 with(first|(refine k5 a underlying53 ?_)|(go_at_call 130;((with_reducible refine(l6 t id f (MO.g_ MR) aF).mono ?_);rintro s ah⟨rfl,j⟩;rw[be.out];replace a:=a.g_ j;replace e:=e.g_ j;replace b:=b.g_ j;replace MR:=MR.trans j;replace v:=e.f_ 0))|(go_at_call 122;((with_reducible refine(pk t A c l (MO.g_ MR) (h.g_ MR) hn1 aE W).mono ?_);unfold mt;rintro s aA⟨aP,c4,C,rfl,D,d,o⟩;have bd:=O d;have U:=O (show C.length=l.length from(by have:=hZ C;rw[d,mQ,hZ]at this;exact this.symm));clear d;replace a:=a.g_ o;replace e:=e.g_ o;replace b:=b.g_ o;replace MR:=MR.trans o;replace v:=e.f_ 0))|(go_at_call 148;((with_reducible refine(kA aP c4 C id f _ D.os D.lD (ov U.out)).mono ?_);rintro s M⟨rfl,r⟩;rw[bd.out,an.out];simp only[GE,Hl];replace a:=(a.g_ r).alloc (.cells #[.bool false,Y i] 38);replace e:=(e.g_ r).alloc (.cells #[.bool false,Y i] 38);replace b:=(b.g_ r).alloc (.cells #[.bool false,Y i] 38);replace MR:=(MR.trans r).alloc (.cells #[.bool false,Y i] 38);have n:=Q_ M 38 #[.bool false,Y i];have L:=n.f_ 0;have N:=n.f_ 1;replace v:=e.f_ 0)))
     obtain⟨bk,bQ⟩:=nm_ (M.alloc (.cells #[.bool false,Y i] 38));rw[<-bQ]at a e b n MR v L N |-;clear bQ;clear D j o r an
     have cA:(iu t.p (hU l)).length<=1000000000:=by
      have h1:=oZ (hU t.nw.l) (before t.p (hU l));have s:iu t.p (hU l)=kg (it ((hU t.nw.l).foldl jY (before t.p (hU l))) t.ws.l) t.ds.l:=rfl;rw[s,n9,jN];rw[mQ,hZ,hZ]at h1;omega
     obtain⟨F,hu⟩:=mn_ ((h6 (iu t.p (hU l)) id f).getD default);have bX:=O hu;have ca:=n.lt;have a2:=Bk.me n a I;have aW:=Bk.me n b I;generalize M.heap.size=gb at*;clear hu
     go_upto_region 8 with(first|(refine k5 a underlying53 ?_)|(go_at_call 79;((with_reducible refine(pD t A c l (MO.g_ MR) (h.g_ MR) X ap aF aE W).mono ?_);unfold mt;rintro s bH⟨bN,cx,ao,rfl,ax,dP,aY⟩;have aK:=O dP;have dX:ao.length<=1000000000:=(by have:=hZ ao;rw[dP]at this;omega);clear dP;replace a:=a.g_ aY;replace b:=b.g_ aY;replace n:=n.g_ aY;replace MR:=MR.trans aY))|(go_at_call 148;((with_reducible refine(kA bN cx ao id f _ ax.os ax.lD dX).mono ?_);rintro s ae⟨rfl,G⟩;rw[aK.out,bX.out];replace a:=(a.g_ G).alloc (.cells (V_ F) 38);replace b:=(b.g_ G).alloc (.cells (V_ F) 38);replace n:=(n.g_ G).alloc (.cells (V_ F) 38);replace MR:=(MR.trans G).alloc (.cells (V_ F) 38);have z:=Q_ ae 38 (V_ F);replace L:=n.f_ 0;replace N:=n.f_ 1)))
     obtain⟨bn,bJ⟩:=nm_ (ae.alloc (.cells (V_ F) 38));rw[<-bJ]at a b n MR L N z |-;clear bJ;have aJ:=Bk.me z a I;have bh:=Bk.me z b I;generalize ae.heap.size=aO at*;clear ax aY G;have bl:bn.cell? (Z w.heap.size 37)=some (.slice t.rs.A t.rs.l.length t.rs.c):=(a.f_ 37).trans rfl
     go_upto_region 9 with(go_at_call 98;((with_reducible refine(rR t.rs.A t.rs.c t.rs.l ⟨id,f,⟨false,i⟩⟩ (MO.g_ MR).rs W).mono ?_);unfold sO;rintro s cQ⟨u,x,rfl,MM,aD,cM⟩;replace a:=a.g_ cM;replace bl:cQ.cell? (Z w.heap.size 37)=some (.slice t.rs.A t.rs.l.length t.rs.c):=(a.f_ 37).trans rfl;have cN:=a.hm 37;have co:Bk (cQ.setCell (Z w.heap.size 37) (.slice u (ka t.rs.l ⟨id,f,⟨false,i⟩⟩).length x)) w.heap.size 53 ({t with rs:=⟨u,x,ka t.rs.l ⟨id,f,⟨false,i⟩⟩⟩}:Tk).g8:=a.hN 37 _;replace b:=(b.g_ cM).ib (p:=(Z w.heap.size 37)) sd_ (.slice u (ka t.rs.l ⟨id,f,⟨false,i⟩⟩).length x);replace z:=(z.g_ cM).ib (p:=(Z w.heap.size 37)) aJ (.slice u (ka t.rs.l ⟨id,f,⟨false,i⟩⟩).length x);replace MM:Cs (cQ.setCell (Z w.heap.size 37) (.slice u (ka t.rs.l ⟨id,f,⟨false,i⟩⟩).length x)) u (ka t.rs.l ⟨id,f,⟨false,i⟩⟩):=Sl.ir MM a I ((H [w.heap.size] cQ).setCell (p:=(Z w.heap.size 37)) (.inl s_) _);replace MR:=(MR.trans cM).setCell (p:=(Z w.heap.size 37)) (.inr s_) (.slice u (ka t.rs.l ⟨id,f,⟨false,i⟩⟩).length x)))
     obtain⟨bF,bL⟩:=nm_ (cQ.setCell (Z w.heap.size 37) (.slice u (ka t.rs.l ⟨id,f,⟨false,i⟩⟩).length x));rw[<-bL]at co b z MM MR |-;clear bL;clear a n L N bl cN cM v e a2 aW;have a:=co;clear co;have aS:bF.cell? (Z w.heap.size 40)=some (.slice t.ds.A t.ds.l.length t.ds.c):=(a.f_ 40).trans rfl;have f40:=a.hm 40;have e0:(0:Int)<=(k:Int):=X;have aC:(k:Int)<=(t.ds.l.length:Int):=X;have bI:=MO.sJ;unfold Sv.ok at bI;have aw:(k:Int)<=(t.ds.c:Int):=X;have bE:(0:Int)<=(k:Int)+1:=X;have bu:(k:Int)+1<=(t.ds.l.length:Int):=X;have a7:(k:Int)+1<=(t.ds.c:Int):=X;obtain⟨bC,bv,bw,aZ,bg⟩:=info_parts infoDl;have cW:=(MO.g_ MR.drew).ds;have aL:=Sl.yw qK cW (show k<=t.ds.l.length by omega);have aG:=Sl.yM qK cW (show k+1<=t.ds.l.length by omega) t.ds.c bI;have bB:=a.drew;have bj:=b.drew;have aB:=z.drew;have ay:=Sl.drew MM;have aX:=MR.drew;have dh:IntKind.i64.wrap ((k:Int)+1)=(k:Int)+1:=F1 _ X;have dK:((k:Int)+1).toNat=k+1:=X;have bm:=O (show t.ds.l.take k++t.ds.l.drop (k+1)=t.ds.l.eraseIdx k from(List.eraseIdx_eq_take_drop_succ ..).symm)
     go_cut [] (λQ=>∃(bo:OA) (MT:Nat),Bk Q w.heap.size 53 ({t with rs:=⟨u,x,ka t.rs.l ⟨id,f,⟨false,i⟩⟩⟩,ds:=⟨bo,MT,t.ds.l.eraseIdx k⟩}:Tk).g8/\Bk Q (w.heap.size+1+1) 53 lK/\Bk Q aO 38 (V_ F)/\Cs Q u (ka t.rs.l ⟨id,f,⟨false,i⟩⟩)/\Ds Q bo (t.ds.l.eraseIdx k)/\(t.ds.l.eraseIdx k).length<=MT/\J [] w Q)
     case first=>
      go_region_law (refine mG _ r_ (.tmp 59) (.tmp 64) 51 r_ 124 bC _ 5 40 underlying51 bv bw aZ bg rfl I I _ k _ r_ aL _ (t.ds.l.length-(k+1)) _ _ r_ aG (t8 _) X ?_;intro bp q c7 aV aR E;have aj:=bB.g_ E;have z41:c7.cell? (Z w.heap.size 40)=some (.slice t.ds.A t.ds.l.length t.ds.c):=((aj.f_ 40).trans rfl);have a8:=aj.hm 40)
      all_goals
       go_wp2
       all_goals
        go_meet
        have au:(t.ds.l.eraseIdx k).length=k+(t.ds.l.length-(k+1)):=by rw[<-bm.out];simp;omega
        have bq:({t with rs:=⟨u,x,ka t.rs.l ⟨id,f,⟨false,i⟩⟩⟩,ds:=⟨bp,q,t.ds.l.eraseIdx k⟩}:Tk).g8=({t with rs:=⟨u,x,ka t.rs.l ⟨id,f,⟨false,i⟩⟩⟩}:Tk).g8.setIfInBounds 40 (.slice bp (k+(t.ds.l.length-(k+1))) q):=by rw[<-au];rfl
        have az:=aj.hN 40 (.slice bp (k+(t.ds.l.length-(k+1))) q);rw[<-bq]at az;have bt:=(H [w.heap.size] c7).setCell (p:=(Z w.heap.size 40)) (.inl s_) (.slice bp (k+(t.ds.l.length-(k+1))) q);have aq:=aR.ir aj I bt;rw[<-F2,bm.out,<-au]at aq;refine⟨bp,q,az,(bj.g_ E).ib (p:=(Z w.heap.size 40)) sd_ _,(aB.g_ E).ib (p:=(Z w.heap.size 40)) aJ _,Sl.ir (Sl.g_ ay E) aj I bt,?_,by rw[au];exact aV,(aX.trans E).setCell (.inr s_) _⟩;rw[au]at aq;unfold Ds;rw[au];exact aq
     case rest=>
      clear a b z MM bB bj aB ay aX aS f40 aL aG cW bm e0 aC aw bE bu a7 dh dK MR;obtain⟨bo,MT,a,b,z,bx,hD,aU,MR⟩:=hcut;have L:=z.f_ 0;have N:=z.f_ 1;have E:=MO.g_ MR;have ar:ln wc ({t with rs:=⟨u,x,ka t.rs.l ⟨id,f,⟨false,i⟩⟩⟩,ds:=⟨bo,MT,t.ds.l.eraseIdx k⟩}:Tk):=⟨E.gs,bx,E.ws,E.nw,E.nr,hD,E.hW,E.yK,aD,E.vU,E.tN,aU,E.qc⟩
      go_wp2_with (first|(refine k5 a underlying53 ?_)|(go_at_call 132;((with_reducible refine(sa ({t with rs:=⟨u,x,ka t.rs.l ⟨id,f,⟨false,i⟩⟩⟩,ds:=⟨bo,MT,t.ds.l.eraseIdx k⟩}:Tk) ⟨id,f,F⟩ ar (by show t.nw.l.length<=1000000000;omega) ap).mono ?_);unfold ui;rintro s fS⟨t3,rfl,cu,bA,cr⟩;have am:=O bA;clear bA;replace b:=b.g_ cr))|(refine kZ (t3.g8) b (Tk.one _) ?_;intro aH m aN))
      have V:=(MR.trans cr).hA aN p_;refine l5 t3.g8 (.bool true) m underlying53 ⟨t3,rfl,cu.ir b tx aN,?_,V⟩;rw[am.out,aQ.out,bX.out]
      rfl
def uP(A:OA)(c:Nat)(l:List Rw)(id f:Int){w:World}(a:ln w t)(h:mB w A c l)(e:t.p.sm 100000000)(b:l.length<=100000000)(B:jO t.p (hU l) id f=none):
 Calls prog 131 #[.agg t.g8,.agg #[.slice A l.length c],Y id,Y f] w (ns t.p false w):=sj t A c l id f w a h e b (.inl ⟨rfl,B⟩)
def tF(A:OA)(c:Nat)(l:List Rw)(id f:Int)(P:i6){w:World}(a:ln w t)(h:mB w A c l)(e:t.p.sm 100000000)(b:l.length<=100000000)(hy:jO t.p (hU l) id f=some P):
 Calls prog 131 #[.agg t.g8,.agg #[.slice A l.length c],Y id,Y f] w (ns P true w):=sj t A c l id f w a h e b (.inr ⟨P,rfl,hy⟩)
def infoInt:(prog.info? 3).map (λi=>(i.zero,i.size,i.bytes))=some (some (Y 0),1,8):=by kernel_rfl
def Bk.Bp{w:World}{t e:TypeId}{cs:Array Value}(h:Bk w g t cs)(au:e≠t):∀c fz,w.heap[g]?≠some (.cells c e fz):=Kt
def kM(l:List In)(hq g9:Int):List Int:=if hY l hq g9=true then(List.range (g9.toNat+1)).map Int.ofNat else[]
def DO(P:List Int)(w:World)(e:Ending)(w':World):Prop:=∃(A:OA) (d:Nat),e=.returned (.agg #[.slice A P.length d])/\Ns w' 3 A P/\P.length<=d/\J [] w w'
def Bt(l:List In):0<=jA l/\jA l<=l.length:=by
 unfold jA
 have:=F7 (λa:In=>a.op==21) l
 omega
def ky{l:List In}{hq g9:Int}(h:hY l hq g9=true):1<=l.length/\l.length<=2048/\0<=hq/\hq<=64/\0<=g9/\g9<=2048:=by
 have a:=Bt l;unfold hY at h;simp only[FP,Gx,beq_iff_eq]at h;obtain⟨⟨⟨⟨⟨⟨⟨⟨f,i⟩,j⟩,e⟩,_⟩,_⟩,_⟩,_⟩,b⟩:=h;omega
def zS(l:List In)(hq g9:Int)(w:World)(h:Is w A l)(P:l.length<=1000000000):
 Calls prog 90 #[.agg #[.slice A l.length c,Y hq,Y g9]] w (DO (kM l hq g9) w):=by
 obtain⟨bC,bv,bw,V,bg⟩:=info_parts infoInt;obtain⟨a,e,b,i⟩:=xj w 26 #[.slice A l.length c,Y hq,Y g9] 32 #[n_] 32 #[n_]
 cases y:hY l hq g9 with
 |false=>
  have D:=O (show kM l hq g9=[] by unfold kM;rw[y];simp)
  go_enter func90,ntmps90
  go_upto_region 2 with fail
  obtain⟨M,r⟩:=nm_ (((w.alloc (.cells #[.slice A l.length c,Y hq,Y g9] 26)).alloc (.cells #[n_] 32)).alloc (.cells #[n_] 32));rw[<-r]at a e b i |-;clear r;have L:=a.f_ 0;have E:=a.f_ 1;have u:=a.f_ 2
  go_wp2_with (go_at_call 92;have v:=iP A c l hq g9 (h.g_ i) P;rw[y]at v;refine v.mono ?_;rintro ae W⟨rfl,j⟩;replace e:=e.g_ j;replace b:=b.g_ j;replace i:=i.trans j;have C:=b.f_ 0;have bi:=e.f_ 0;have f1:=e.hm 0)
  refine rr_ #[n_] (e.hN 0 (n_)) underlying32 ?_;unfold DO;rw[D.out];exact⟨none,0,rfl,Gz _ _ _ _,H_ _,i.setCell (.inr s_) _⟩
 |true=>
  obtain⟨b1,b2,dB,dw,eh,dT⟩:=ky y;obtain⟨f,rfl⟩:∃f:Nat,g9=f:=⟨g9.toNat,X⟩;have D:=O (show kM l hq f=(List.range (f+1)).map Int.ofNat by unfold kM;rw[y];simp)
  go_enter func90,ntmps90
  go_upto_region 2 with fail
  obtain⟨M,r⟩:=nm_ (((w.alloc (.cells #[.slice A l.length c,Y hq,Y (f:Int)] 26)).alloc (.cells #[n_] 32)).alloc (.cells #[n_] 32));rw[<-r]at a e b i |-;clear r;have L:=a.f_ 0;have E:=a.f_ 1;have u:=a.f_ 2;have B:w.heap.size+1+1+1<=M.heap.size:=ov b.lt
  go_wp2_with (go_at_call 92;have v:=iP A c l hq f (h.g_ i) P;rw[y]at v;refine v.mono ?_;rintro ae W⟨rfl,j⟩;replace a:=a.g_ j;replace e:=e.g_ j;replace b:=b.g_ j;replace i:=i.trans j;replace L:=a.f_ 0;replace E:=a.f_ 1;replace u:=a.f_ 2;have C:=b.f_ 0)
  replace B:=G_ B j.size;clear L E u C j B
  go_loopw [4] (λK wr=>∃(k:Nat) (m:OA) (n:Nat),k<=f+1/\K=Y k/\wr.ownsRow (w.heap.size+1+1+1) 3 1 (.slice m k n) k ((List.range k).map λaf:Nat=>Value.int .i64 af)/\Bk wr w.heap.size 26 #[.slice A l.length c,Y hq,Y (f:Int)]/\Bk wr (w.heap.size+1) 32 #[n_]/\Bk wr (w.heap.size+1+1) 32 #[.slice m k n]/\J [] w wr) (λK _=>f+1-(intOf K).toNat)
  case atStart=>exact⟨0,none,0,P_ _,rfl,iY _ _ _ _,a,e,b,i⟩
  case round=>
   clear a e b i;obtain⟨k,m,n,hk,rfl,F,a,e,b,o⟩:=hrel;have B:w.heap.size+1+1+1<=wr.heap.size:=ov b.lt
   by_cases aj:k<f+1
   .have S:(k:Int)<=(f:Int):=X;have T:=iF F ((H [] wr).alloc (.cells #[Y (k:Int)] 3));have ap:Sl (wr.alloc (.cells #[Y (k:Int)] 3)) 3 1 (j_ wr.heap.size) 1 [Y (k:Int)]:=kV (s:=1) (Q_ wr 3 #[Y (k:Int)]) rfl;have t:w.heap.size+1+1+1<=(wr.alloc (.cells #[Y (k:Int)] 3)).heap.size:=p_;have u:=a.f_ 2;have ai:=b.f_ 0;replace a:=a.alloc (.cells #[Y (k:Int)] 3);replace e:=e.alloc (.cells #[Y (k:Int)] 3);replace b:=b.alloc (.cells #[Y (k:Int)] 3);replace o:=o.alloc (.cells #[Y (k:Int)] 3)
    go_wp2_with (at_builtin;refine iJ _ rfl (.tmp 14) (.tmp 16) 30 rfl (w.heap.size+1+1+1) 3 bC _ 1 8 underlying30 bv bw V bg rfl I I m k n _ rfl T _ 1 1 _ rfl ap (by intro ah N;simp at N;subst N;rfl) X t ?_;intro Q am w2 U z;replace a:=z.bk a I;replace e:=z.bk e I;replace b:=z.bk b I;replace o:=z.gr [] w X o;have bW:=b.hm 0;have aB:=b.f_ 0)
    go_roundw
    case rel=>exact⟨k+1,Q,am,X,gn,(by simpa[List.range_succ]using kR (x:=w.heap.size+1+1) U (b.Bp I) ((H _ _).setCell (.inl s_) _)),a.ib (p:=(Z (w.heap.size+1+1) 0)) sd_ _,e.ib (p:=(Z (w.heap.size+1+1) 0)) sd_ _,b.hN 0 _,o.setCell (.inr p_) _⟩
    case measure=>exact mz
   .have S:¬(k:Int)<=(f:Int):=X;have z:=O (show k=f+1 by omega);have u:=a.f_ 2;have C:=b.f_ 0;have f1:=e.hm 0;have bi:=e.f_ 0;go_wp2;refine rr_ #[.slice m k n] (e.hN 0 (.slice m k n)) underlying32 ?_;unfold DO;rw[D.out];have Q:=o.setCell (p:=(Z (w.heap.size+1) 0)) (.inr s_) (.slice m k n);have N:=Sl.iQ (kR (x:=w.heap.size+1) F (e.Bp I) ((H [w.heap.size+1] wr).setCell (p:=(Z (w.heap.size+1) 0)) (.inl s_) (.slice m k n)));refine⟨m,n,by rw[z.out];simp,?_,by have:=jk F;have:=z.out;simp;omega,Q⟩;unfold Ns;rw[z.out]at N |-
    simpa[List.map_map,Function.comp_def]using N
def np(P:i6)(n:Int)(w:World)(e:Ending)(w':World):Prop:=∃t:Tk,e=.returned (.tuple #[.agg t.g8,Y n])/\ln w' t/\t.p=P/\J [] w w'
def mY(hG run:Int)(h8:Bool):Tk:={Tk.zero with hG:=hG,run:=run,h8:=h8,pc:=hG}
def rS(hG run:Int)(h8:Bool):Tk:={Tk.zero with hG:=hG,run:=run,h8:=h8,pc:=hG,hT:=1,next:=hG+1}
def vF(l:List In)(hq g9 hG run:Int)(h8:Bool)(w:World)(h:Is w A l)(p:l.length<=1000000000)(x: -1000000000<=hG)(z:hG<=1000000000)(C:0<=run)(y:run<=1099511627776)(q:hY l hq g9=false):
 Calls prog 49 #[.agg #[.slice A l.length c,Y hq,Y g9],Y hG,Y run,.bool h8,n_] w (np Tk.zero.p 1 w):=by
 obtain⟨b,e,a⟩:=qL w 26 #[.slice A l.length c,Y hq,Y g9] 53 lK
 go_enter func49,ntmps49
 go_upto_region 1 with fail
 obtain⟨r,i⟩:=nm_ ((w.alloc (.cells #[.slice A l.length c,Y hq,Y g9] 26)).alloc (.cells lK 53));rw[<-i]at b e a |-;clear i;have E:=b.f_ 0;have s:=b.f_ 1;have u:=b.f_ 2
 go_wp2_with (first|(go_at_call 92;have j:=iP A c l hq g9 (h.g_ a) p;rw[q]at j;refine j.mono ?_;rintro D v⟨rfl,f⟩;replace e:=e.g_ f;replace a:=a.trans f;clear f)|(refine kZ (Tk.zero.g8) e (Tk.one _) ?_;intro B o n))
 have m:=a.hA n s_;exact l5 Tk.zero.g8 (Y 1) o underlying53 ⟨Tk.zero,rfl,ln.nil _ _ rfl rfl rfl rfl rfl rfl,rfl,m⟩
def vE(l:List In)(hq g9 hG run:Int)(h8:Bool)(w:World)(h:Is w A l)(m:l.length<=1000000000)(u: -1000000000<=hG)(v:hG<=1000000000)(F:0<=run)(D:run<=1099511627776)(z:hY l hq g9=true)(y:kN l hG=false):
 Calls prog 49 #[.agg #[.slice A l.length c,Y hq,Y g9],Y hG,Y run,.bool h8,n_] w (np Tk.zero.p 2 w):=by
 obtain⟨a,f,b⟩:=qL w 26 #[.slice A l.length c,Y hq,Y g9] 53 lK
 go_enter func49,ntmps49
 go_upto_region 1 with fail
 obtain⟨C,j⟩:=nm_ ((w.alloc (.cells #[.slice A l.length c,Y hq,Y g9] 26)).alloc (.cells lK 53));rw[<-j]at a f b |-;clear j;have B:=a.f_ 0;have o:=a.f_ 1;have p:=a.f_ 2
 go_wp2_with (first|(go_at_call 92;have i:=iP A c l hq g9 (h.g_ b) m;rw[z]at i;refine i.mono ?_;rintro x r⟨rfl,e⟩;replace a:=a.g_ e;replace f:=f.g_ e;replace b:=b.trans e;replace B:=a.f_ 0;replace o:=a.f_ 1;replace p:=a.f_ 2;clear e)|(go_at_call 97;have i:=l7 A c l hq g9 hG (h.g_ b) m u v;rw[y]at i;refine i.mono ?_;rintro x r⟨rfl,e⟩;replace f:=f.g_ e;replace b:=b.trans e;clear e)|(refine kZ (Tk.zero.g8) f (Tk.one _) ?_;intro E s q))
 have n:=b.hA q s_;exact l5 Tk.zero.g8 (Y 2) s underlying53 ⟨Tk.zero,rfl,ln.nil _ _ rfl rfl rfl rfl rfl rfl,rfl,n⟩
def yj(l:List In)(hq g9 hG run:Int)(h8:Bool)(w:World)(h:Is w A l)(s:l.length<=1000000000)(E: -1000000000<=hG)(F:hG<=1000000000)(P:0<=run)(N:run<=1099511627776)(J:hY l hq g9=true)(I:kN l hG=true)(H:jm l hq g9 hG=false):
 Calls prog 49 #[.agg #[.slice A l.length c,Y hq,Y g9],Y hG,Y run,.bool h8,n_] w (np (mY hG run h8).p 0 w):=by
 obtain⟨a,f,b⟩:=qL w 26 #[.slice A l.length c,Y hq,Y g9] 53 lK
 go_enter func49,ntmps49
 go_upto_region 1 with fail
 obtain⟨L,v⟩:=nm_ ((w.alloc (.cells #[.slice A l.length c,Y hq,Y g9] 26)).alloc (.cells lK 53));rw[<-v]at a f b |-;clear v;have r:=a.f_ 0;have n:=a.f_ 1;have o:=a.f_ 2;have Q:(run<0)=False:=p_;have M:((1099511627776:Int)<run)=False:=p_
 go_upto_region 5 with(first|(go_at_call 92;have i:=iP A c l hq g9 (h.g_ b) s;rw[J]at i;refine i.mono ?_;rintro x j⟨rfl,e⟩;replace a:=a.g_ e;replace f:=f.g_ e;replace b:=b.trans e;replace r:=a.f_ 0;replace n:=a.f_ 1;replace o:=a.f_ 2;clear e)|(go_at_call 97;have i:=l7 A c l hq g9 hG (h.g_ b) s E F;rw[I]at i;refine i.mono ?_;rintro x j⟨rfl,e⟩;replace a:=a.g_ e;replace f:=f.g_ e;replace b:=b.trans e;replace r:=a.f_ 0;replace n:=a.f_ 1;replace o:=a.f_ 2;clear e))
 have S:=f.lt;have m:=Q_ j 53 lK;replace a:=a.alloc (.cells lK 53);replace f:=f.alloc (.cells lK 53);replace b:=b.alloc (.cells lK 53);have K:w.heap.size<=j.heap.size:=X
 go_upto_region 6 with(refine kZ ((mY hG run h8).g8) m (Tk.one _) ?_;intro D u q)
 replace a:=a.gr q sd_;replace f:=f.gr q sd_;replace b:=b.hA q p_;have m:=u;clear u q r n o;generalize j.heap.size=gn at*;have r:=a.f_ 0;have n:=a.f_ 1;have o:=a.f_ 2;go_wp2
 go_loopw [40] (λy wr=>y=Y 0/\wr=D) (λy _=>0)
 case atStart=>exact⟨rfl,rfl⟩
 case round=>
  obtain⟨rfl,rfl⟩:=hrel
  go_wp2_with (first|(go_at_call 83;have i:=lA A c l hq g9 hG (h.g_ b) s;rw[H]at i;refine i.mono ?_;rintro x j⟨rfl,e⟩;replace f:=f.g_ e;replace m:=m.g_ e;replace b:=b.trans e;clear e)|(refine k5 m underlying53 ?_)|(refine kZ ((mY hG run h8).g8) f (Tk.one _) ?_;intro O C B))
  have z:=b.hA B s_;exact l5 (mY hG run h8).g8 (Y 0) C underlying53 ⟨(mY hG run h8),rfl,ln.nil _ _ rfl rfl rfl rfl rfl rfl,rfl,z⟩
def w3(l:List In)(hq g9 hG run:Int)(h8:Bool)(w:World)(h:Is w A l)(s:l.length<=1000000000)(E: -1000000000<=hG)(F:hG<=1000000000)(T:0<=run)(P:run<=1099511627776)(K:hY l hq g9=true)(J:kN l hG=true)(I:jm l hq g9 hG=true):
 Calls prog 49 #[.agg #[.slice A l.length c,Y hq,Y g9],Y hG,Y run,.bool h8,n_] w (np (rS hG run h8).p 0 w):=by
 obtain⟨a,e,b⟩:=qL w 26 #[.slice A l.length c,Y hq,Y g9] 53 lK
 go_enter func49,ntmps49
 go_upto_region 1 with fail
 obtain⟨M,v⟩:=nm_ ((w.alloc (.cells #[.slice A l.length c,Y hq,Y g9] 26)).alloc (.cells lK 53));rw[<-v]at a e b |-;clear v;have r:=a.f_ 0;have n:=a.f_ 1;have o:=a.f_ 2;have U:(run<0)=False:=p_;have N:((1099511627776:Int)<run)=False:=p_
 go_upto_region 5 with(first|(go_at_call 92;have j:=iP A c l hq g9 (h.g_ b) s;rw[K]at j;refine j.mono ?_;rintro x m⟨rfl,f⟩;replace a:=a.g_ f;replace e:=e.g_ f;replace b:=b.trans f;replace r:=a.f_ 0;replace n:=a.f_ 1;replace o:=a.f_ 2;clear f)|(go_at_call 97;have j:=l7 A c l hq g9 hG (h.g_ b) s E F;rw[J]at j;refine j.mono ?_;rintro x m⟨rfl,f⟩;replace a:=a.g_ f;replace e:=e.g_ f;replace b:=b.trans f;replace r:=a.f_ 0;replace n:=a.f_ 1;replace o:=a.f_ 2;clear f))
 have V:=e.lt;have i:=Q_ m 53 lK;replace a:=a.alloc (.cells lK 53);replace e:=e.alloc (.cells lK 53);replace b:=b.alloc (.cells lK 53);have L:w.heap.size<=m.heap.size:=X
 go_upto_region 6 with(refine kZ ((mY hG run h8).g8) i (Tk.one _) ?_;intro D u q)
 replace a:=a.gr q sd_;replace e:=e.gr q sd_;replace b:=b.hA q p_;have i:=u;clear u q r n o;generalize m.heap.size=gn at*;have r:=a.f_ 0;have n:=a.f_ 1;have o:=a.f_ 2;go_wp2
 go_loopw [40] (λy wr=>y=Y 0/\wr=D) (λy _=>0)
 case atStart=>exact⟨rfl,rfl⟩
 case round=>
  obtain⟨rfl,rfl⟩:=hrel
  go_upto_region 12 with(go_at_call 83;have j:=lA A c l hq g9 hG (h.g_ b) s;rw[I]at j;refine j.mono ?_;rintro x m⟨rfl,f⟩;replace e:=e.g_ f;replace i:=i.g_ f;replace b:=b.trans f;clear f)
  have S:=i.hm 42;have W:=i.hm 43;have H:Bk _ gn 53 (rS hG run h8).g8:=(i.hN 42 (Y 1)).hN 43 (Y (hG+1));replace e:=(e.ib (p:=(Z gn 42)) sd_ (Y 1)).ib (p:=(Z gn 43)) sd_ (Y (hG+1));replace b:=(b.setCell (p:=(Z gn 42)) (.inr p_) (Y 1)).setCell (p:=(Z gn 43)) (.inr p_) (Y (hG+1));have d:m.cell? (Z gn 42)=some (Y 0):=(i.f_ 42).trans rfl;have O:m.cell? (Z gn 43)=some (Y 0):=(i.f_ 43).trans rfl
  go_wp2_with (first|(refine k5 H underlying53 ?_)|(refine kZ ((rS hG run h8).g8) e (Tk.one _) ?_;intro Q C B))
  have z:=b.hA B s_;exact l5 (rS hG run h8).g8 (Y 0) C underlying53 ⟨(rS hG run h8),rfl,ln.nil _ _ rfl rfl rfl rfl rfl rfl,rfl,z⟩
def jf(l:List In)(hq g9 hG run:Int)(h8:Bool):i6 × Int:=
 if hY l hq g9=false then(Tk.zero.p,1) else if kN l hG=false then(Tk.zero.p,2) else
 if jm l hq g9 hG=true then((rS hG run h8).p,0) else((mY hG run h8).p,0)
def ol(l:List In)(hq g9 hG run:Int)(h8:Bool)(w:World)(h:Is w A l)(i:l.length<=1000000000)(a: -1000000000<=hG)(e:hG<=1000000000)(f:0<=run)(b:run<=1099511627776):
 Calls prog 49 #[.agg #[.slice A l.length c,Y hq,Y g9],Y hG,Y run,.bool h8,n_] w (np (jf l hq g9 hG run h8).1 (jf l hq g9 hG run h8).2 w):=by
 unfold jf
 cases j:hY l hq g9 with
 |false=>exact vF A c l hq g9 hG run h8 w h i a e f b j
 |true=>
  cases m:kN l hG with
  |false=>exact vE A c l hq g9 hG run h8 w h i a e f b j m
  |true=>
   cases n:jm l hq g9 hG with
   |false=>exact yj A c l hq g9 hG run h8 w h i a e f b j m n
   |true=>exact w3 A c l hq g9 hG run h8 w h i a e f b j m n
