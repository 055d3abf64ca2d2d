import Derived.Test.YtenbhdilndfaeaaGreatM02
import Derived.Test.YtenbhdilndfaeaaGreatM10
import Derived.Test.YtenbhdilndfaeaaGreatM11
set_option maxRecDepth 100000
set_option maxHeartbeats 0
set_option linter.all false
namespace Go.Proofs.YtenbhdilndfaeaaGreat
open Go.RowKit Go.Proofs.Tryz
variable{G:Prop}{g k:Nat}{cur:Array Value}{R:Ending->World->Prop}(A:OA)(c:Nat)(t:Tk)(d:Dl)(w:World)
def IT(h:G:=by
 clear hp ak;exact IW):G:=h
def IV(h:G:=by
 clear hp;exact IW):G:=h
def IW(h:G:=by
 refine jP (W:=ag) (H _ _) k_ k_ ?_
 repeat(first|((with_reducible refine li (MX.gw) underlying53 (by with_unfolding_all rfl) aP (by with_unfolding_all rfl) (by with_unfolding_all rfl) ?_);simp only[GF,GQ,G0])|go_big_quiet_step (((first|(go_at_call 128;exact Calls.gq (D.out _))|(go_at_call_of 129 (Value.slice t.ws.A t.ws.l.length t.ws.c);exact Calls.gq (bU.out _))|(go_at_call_of 129 (Value.slice t.rs.A t.rs.l.length t.rs.c);exact Calls.gq (aU.out _))))))
 exact Lh):G:=h
def LJ(h:G:=by
 have Q:=MZ.hJ aQ p_;exact lO t.g_ (.bool false) m underlying53 ⟨t,rfl,ht.hF Q,rfl,Q⟩):G:=h
def nj(P:i3)(b:Bool)(w:World)(e:Ending)(w':World):Prop:=∃t:Tk,e=.returned (.tuple #[.agg t.g_,.bool b])/\lh w' t/\t.p=P/\I [] w w'
def xJ(l:List Dl)(id f:Int): -1<=pe l id f/\pe l id f<l.length:=by
 have:=mH (λc:Dl=>c.id==id&&c.f==f) l 0
 unfold pe;exact MR
def yg(l:List Ob)(id:Int): -1<=jr l id/\jr l id<l.length:=by
 have:=mH (λa:Ob=>a.id==id) l 0
 unfold jr;exact MR
def CU{W:World}{p:Addr}{v:Value}(h:W.cell? p=some v):∀y:GW W,y.1.cell? p=some v:=λy=>y.2.f_ h J
def s9(x:Int)(h: -1<=x):x= -1∨∃n:Nat,x=n:=by
 by_cases a:x= -1
 .exact .inl a
 .exact .inr ⟨x.toNat,X⟩
def oP(t:i3)(d:Dl):Bool:=(take t d).isNone
def Sl.D6{w:World}{j:TypeId}{l:List Dl}(a:Bk w g j cur)(h:∀(i:Nat) (u:Value),(l.flatMap Dl.E)[i]?=some u->cur[i]?=some u)(e:k<l.length):
 w.cell? (Z g (k*5+3))=some (.bool l[k].v.r)/\w.cell? (Z g (k*5+4))=some (Y l[k].v.n):=by
 have g:=λf b=>jh Dl.E 5 (λ_=>rfl) l k f e b
 exact⟨(a.f_ _).trans (h (k*5+3) _ (g 3 X)),(a.f_ _).trans (h (k*5+4) _ (g 4 X))⟩
def Ao{j:Type}(E:j->List Value)(f:∀n,(E n).length=5){w:World}{e:TypeId}{l:List j}(m:k<l.length)(r:j){x y:Value}(C:E r=(E l[k]).take 3++[x,y])(v:Bk w g e cur)(h:∀(i:Nat) (u:Value),(l.flatMap E)[i]?=some u->cur[i]?=some u):
 Sl ((w.setCell (Z g (k*5+3)) x).setCell (Z g (k*5+4)) y) e 5 (j_ g) l.length ((l.set k r).flatMap E):=by
 have p:=(v.hV (k*5+3) x).hV (k*5+4) y;have iN:=ko E 5 f l
 have D:k*5+4<cur.size:=by
  have B:k*5+4<(l.flatMap E).length:=X
  have:=h _ _ (K_ B)
  rcases FW (k*5+4) cur.size with h|h
  .exact h
  .exact MM
 refine⟨by rw[ko E 5 f];simp,λ_=>⟨g,0,_,_,rfl,p,λb u a=>?_⟩⟩;rw[W_];refine qF E 5 f X l k m r cur h (λb u a=>?_) (λi F=>?_) b u a
 .have s:((E l[k]).take 3).length=3:=by rw[Gj,f];rfl
  rw[C]at a
  by_cases z:b<3
  .rw[GH X,Gv,U_ z]at a;rw[L_,R_ X,L_,R_ X];exact h _ _ (by rw[jh E 5 f l k b m X];exact a)
  .rw[GT X,s]at a
   have o:b=3∨b=4:=by
    rcases FW (b-3) 2 with h|h
    .omega
    .rw[F2 (zu h)]at a
     cases a
   rcases o with rfl|rfl
   .simp at a;subst a;rw[L_,R_ X,L_,U_ rfl,U_ X]
   .simp at a;subst a;rw[L_,U_ rfl,U_ p_]
 .rw[L_,R_ X,L_,R_ X]
def jc{a b:Bool}(h:a=b):Value.bool a=Value.bool b:=by rw[h]
def uj(ht:lh w t)(aD:t.ds.l.length<=1000000000)(al:t.nw.l.length<=1000000000)(ap:t.ws.l.length<=1000000000)(au:t.rs.l.length<=1000000000)(n:R=nj t.p false w/\take t.p d=none∨∃P,R=nj P true w/\take t.p d=some P):
 Calls prog 126 #[.agg t.g_,.agg #[Y d.id,Y d.f,Y d.op,.bool d.v.r,Y d.v.n]] w R:=by
 obtain⟨MX,b,h,MZ⟩:=wI w 53 t.g_ 124 #[Y d.id,Y d.f,Y d.op,.bool d.v.r,Y d.v.n] 53 lA
 go_enter func126,ntmps126
 go_upto_region 1 with fail
 obtain⟨W,aG⟩:=nm_ (((w.alloc (.cells t.g_ 53)).alloc (.cells #[Y d.id,Y d.f,Y d.op,.bool d.v.r,Y d.v.n] 124)).alloc (.cells lA 53));rw[<-aG]at MX b h MZ |-;clear aG;have aI:=b.f_ 0;have bL:=b.f_ 1;have bt:=b.f_ 2;have bM:=b.f_ 3;have bz:=b.f_ 4
 go_upto_region 2 with(first|(refine kV MX underlying53 ?_)|(go_at_call 130;((with_reducible refine(l0 t d.id d.f (ht.hF MZ) aD).mono ?_);rintro x ag⟨rfl,an⟩;replace MX:=MX.hF an;replace b:=b.hF an;replace h:=h.hF an;replace MZ:=MZ.trans an)))
 clear aI bL bt bM bz an;have aw:=U (show pe t.ds.l d.id d.f=pe t.p.ds d.id d.f from rfl);have aC:=xJ t.ds.l d.id d.f;generalize aY:pe t.ds.l d.id d.f=g at*;have av:=U aY;clear aY;have b4:=U n;clear n
 go_cut [58] (λa E=>a=.bool (oP t.p d)/\I [] ag E)
 case first=>
  have u:∀a:GW ag,a.1.cell? (Z w.heap.size 2)=some (.bool t.ik):=λa=>(MX.zQ 2 a).trans rfl
  have ct:∀a:GW ag,a.1.cell? (Z w.heap.size 37)=some (.slice t.rs.A t.rs.l.length t.rs.c):=λa=>(MX.zQ 37 a).trans rfl
  have cu:∀a:GW ag,a.1.cell? (Z w.heap.size 38)=some (.slice t.ws.A t.ws.l.length t.ws.c):=λa=>(MX.zQ 38 a).trans rfl
  have cj:∀a:GW ag,a.1.cell? (Z w.heap.size 40)=some (.slice t.ds.A t.ds.l.length t.ds.c):=λa=>(MX.zQ 40 a).trans rfl
  have aT:=b.zQ 0;have aN:=b.zQ 1;have aK:=b.zQ 2;have aP:(prog.info? 53).map (·.size)=some t.g_.size:=k_
  have D:Hid (∀a:GW ag,Calls prog 128 #[.agg t.g_,Y d.id] a.1 (λx i=>x=.returned (Y (jr (hX t.nw.l) d.id))/\I [] a.1 i)):=U λa=>oV t d.id a.1 (ht.hF (MZ.trans a.2)) al
  have bU:Hid (∀a:GW ag,Calls prog 129 #[.slice t.ws.A t.ws.l.length t.ws.c,Y d.id,Y d.f] a.1 (λx i=>x=.returned (Y (cat t.ws.l d.id d.f))/\I [] a.1 i)):=U λa=>lQ t.ws.A t.ws.c t.ws.l d.id d.f a.1 (ht.hF (MZ.trans a.2)).ws ap
  have aU:Hid (∀a:GW ag,Calls prog 129 #[.slice t.rs.A t.rs.l.length t.rs.c,Y d.id,Y d.f] a.1 (λx i=>x=.returned (Y (cat t.rs.l d.id d.f))/\I [] a.1 i)):=U λa=>lQ t.rs.A t.rs.c t.rs.l d.id d.f a.1 (ht.hF (MZ.trans a.2)).rs au
  have M:=(yg (hX t.nw.l) d.id).1;have df:=(ry t.ws.l d.id d.f).1;have S:=(ry t.rs.l d.id d.f).1;have T:=U (show take t.p d=take t.p d from rfl)
  have e:Hid (take t.p d=if t.ik=true∨0<=jr (hX t.nw.l) d.id∨0<=cat t.ws.l d.id d.f∨0<=cat t.rs.l d.id d.f then none
   else if g<0 then some {t.p with ds:=t.ds.l.take (rq t.ds.l d.id d.f)++([d]++t.ds.l.drop (rq t.ds.l d.id d.f))}
   else if(t.ds.l.getD g.toNat default).op≠d.op then none
   else some {t.p with ds:=t.ds.l.modify g.toNat (λK=>{K with v:=(iK d.op K.v d.v).1})}):=U (by rw[<-av.out];rfl)
  have cp:g<0∨∃(k:Nat) (hk:k<t.ds.l.length),g=k/\∃V off,t.ds.A=some (Z V off)/\ag.cell? (Z V (off+k*5+2))=some (Y t.ds.l[k].op):=by
   by_cases aA:g<0
   .exact .inl aA
   .have hk:g.toNat<t.ds.l.length:=X;obtain⟨V,off,r,_,_,j,_⟩:=(ht.hF MZ).ds.at_ hk;exact .inr ⟨g.toNat,hk,(GM X).symm,V,off,r,j⟩
  generalize jr (hX t.nw.l) d.id=B at*;generalize cat t.ws.l d.id d.f=C at*;generalize cat t.rs.l d.id d.f=xr at*;generalize t.g_=cs at*;have N:=U aC;clear T aC aw
  cases hp:t.ik with
  |true=>
   have bi:=U (show oP t.p d=true by unfold oP;rw[e.out,U_ (.inl hp)];rfl);rw[hp]at u;exact IV
  |false=>
   rw[hp]at u
   rcases s9 B M with rfl|⟨no,rfl⟩
   .rcases s9 C df with rfl|⟨nw,rfl⟩
    .rcases s9 xr S with rfl|⟨nr,rfl⟩
     .rcases cp with y|⟨k,hk,rfl,V,off,r,j⟩
      .obtain rfl:g= -1:=by have:=N.out;omega
       have bi:=U (show oP t.p d=false by unfold oP;rw[e.out,R_ (by rw[hp];simp),U_ X];rfl);clear hp y;exact IW
      .have bd:(k:Int)<(t.ds.l.length:Int):=X;rw[r]at cj;have h3:=CU j
       by_cases ak:t.ds.l[k].op=d.op
       .have bi:=U (show oP t.p d=false by unfold oP;rw[e.out,R_ (by rw[hp];simp),R_ X,R_ (by simp[List.getD,K_ hk,ak])];rfl);have q:(t.ds.l[k].op !=d.op)=false:=zu ak;exact IT
       .have bi:=U (show oP t.p d=true by unfold oP;rw[e.out,R_ (by rw[hp];simp),R_ X,U_ (by simp[List.getD,K_ hk,ak])];rfl);have q:(t.ds.l[k].op !=d.op)=true:=zu ak;exact IT
     .have bi:=U (show oP t.p d=true by unfold oP;rw[e.out,U_ (.inr (.inr (.inr X)))];rfl);exact IV
    .have bi:=U (show oP t.p d=true by unfold oP;rw[e.out,U_ (.inr (.inr (.inl X)))];rfl);exact IV
   .have bi:=U (show oP t.p d=true by unfold oP;rw[e.out,U_ (.inr (.inl X))];rfl);exact IV
 case rest=>
  obtain⟨rfl,F⟩:=hcut;replace MX:=MX.hF F;replace b:=b.hF F;replace h:=h.hF F;replace MZ:=MZ.trans F
  rcases b4.out with⟨rfl,n⟩|⟨P,rfl,y⟩
  .rw[show oP t.p d=true by unfold oP;rw[n];rfl];clear n b4 aw av aC F
   go_wp2_with (first|(refine kV MX underlying53 ?_)|(refine kS (t.g_) h (Tk.one _) ?_;intro aJ m aQ))
   exact LJ
  .rw[show oP t.p d=false by unfold oP;rw[y];rfl]
   have M:(g<0/\P={t.p with ds:=t.ds.l.take (rq t.ds.l d.id d.f)++([d]++t.ds.l.drop (rq t.ds.l d.id d.f))})∨(0<=g/\P={t.p with ds:=t.ds.l.modify g.toNat (λK=>{K with v:=(iK d.op K.v d.v).1})}):=by
    unfold take at y;have x:pe t.p.ds d.id d.f=g:=av.out;rw[x]at y;split at y
    .cases y
    .split at y
     .exact .inl ⟨by assumption,by injection y with aA;exact aA.symm⟩
     .split at y
      .cases y
      .exact .inr ⟨X,by injection y with aA;exact aA.symm⟩
   clear y b4 aw;have cJ:=ht.hF MZ;have bW:Sl wc 124 5 t.ds.A t.ds.l.length (t.ds.l.flatMap Dl.E):=cJ.ds;have cf:w.heap.size+1+1+1<=wc.heap.size:=h.lt;obtain⟨bJ,bG,bA,a6,be⟩:=info_parts infoDl;have bE:wc.cell? (Z w.heap.size 40)=some (.slice t.ds.A t.ds.l.length t.ds.c):=(MX.f_ 40).trans rfl
   rcases M with⟨bQ,M⟩|⟨MS,M⟩
   .have aS:=U M
    obtain rfl:g= -1:=by omega
    have bf:=U (show rq t.ds.l d.id d.f=0+mm (n8 d.id d.f) (t.ds.l.drop 0) by simp[rq]);have bV:=U (show ∀k,k=rq t.ds.l d.id d.f->(t.ds.l.take k++([d]++t.ds.l.drop k)).length=k+(1+(t.ds.l.length-k)) from λk hk=>by have:=pB (n8 d.id d.f) t.ds.l;unfold rq at hk;simp;omega);clear M bQ F av
    go_upto_block 0 with(at_builtin;refine iJ _ rfl (.const (n_)) (.tmp 61) 51 rfl (w.heap.size+1+1+1) 124 bJ _ 5 40 underlying51 bG bA a6 be rfl O O none 0 0 [] rfl (iT _ _ _ _) t.ds.A t.ds.l.length t.ds.c _ rfl bW (tB _) X cf ?_;intro aM r T C c;simp only[W_,FY]at C;replace MZ:=c.gr [] w X MZ;replace MX:=c.bk MX O;replace b:=c.tK b X;replace h:=c.bk h O)
    have ao:Ds T aM t.ds.l:=Sl.iR C;have b6:=iY C;clear C c bE bW
    go_cut [8] (λa E=>∃k:Nat,a=Y k/\k<=t.ds.l.length/\k=rq t.ds.l d.id d.f/\I [] T E)
    case first=>
     go_wp2_with fail
     go_loopw [8] (λa N=>∃k:Nat,a=Y k/\k<=t.ds.l.length/\rq t.ds.l d.id d.f=k+mm (n8 d.id d.f) (t.ds.l.drop k)/\I [] T N) (λa _=>t.ds.l.length-(intOf a).toNat)
     case atStart=>exact⟨0,rfl,N_ _,bf.out,H _ _⟩
     case round=>
      obtain⟨k,rfl,hk,u,F⟩:=hrel;have z:=U u;clear u;have j:=b.hF F;have aI:=j.f_ 0;have bL:=j.f_ 1;clear j
      by_cases i:k<t.ds.l.length
      .have aK:(k:Int)<(t.ds.l.length:Int):=X;obtain⟨V,off,cn,aW,bp,ck,co,cw⟩:=(ao.hF F).at_ i;subst cn
       by_cases t0:t.ds.l[k].id<d.id
       .have bu:=U (oB (p:=(n8 d.id d.f)) i (by simp[n8,t0]));have bq:decide (t.ds.l[k].id<d.id)=true:=zu t0;exact Ky
       .have bq:decide (t.ds.l[k].id<d.id)=false:=zu t0
        by_cases t1:t.ds.l[k].id=d.id
        .have bo:(t.ds.l[k].id==d.id)=true:=zu t1
         by_cases ah:t.ds.l[k].f<d.f
         .have bu:=U (oB (p:=(n8 d.id d.f)) i (by simp[n8,t1,ah]));have bN:decide (t.ds.l[k].f<d.f)=true:=zu ah;exact Ko
         .have bu:=U (nL (p:=(n8 d.id d.f)) i (by simp[n8,t1,ah]));have bN:decide (t.ds.l[k].f<d.f)=false:=zu ah;exact KX
        .have bu:=U (nL (p:=(n8 d.id d.f)) i (by simp[n8,t0,t1]));have bo:(t.ds.l[k].id==d.id)=false:=zu t1;exact KZ
      .have bu:=U (rl (p:=(n8 d.id d.f)) (l:=t.ds.l) (k:=k) X);have aK:¬(k:Int)<(t.ds.l.length:Int):=X;exact Lg
    case rest=>
     obtain⟨k,rfl,hk,aV,F⟩:=hcut;have br:=U aV;clear aV;replace MX:=(MX.hF F).drew;replace b:=b.hF F;replace h:=(h.hF F).drew;have z0:=b.f_ 0;have aR:=b.f_ 1;have aZ:=b.f_ 2;have z3:=b.f_ 3;have z4:=b.f_ 4;replace b:=b.drew;have aT:(0:Int)<=(k:Int):=X;have aN:(k:Int)<=(t.ds.l.length:Int):=X;have aK:(k:Int)<=(r:Int):=X;have aO:=ao.hF F;have bj:=(Sl.x1 pH aO hk).hF ((H [] wc).alloc (.cells #[Y d.id,Y d.f,Y d.op,.bool d.v.r,Y d.v.n] 124)).drew;have a2:=(Sl.yn pH aO hk r b6).hF ((H [] wc).alloc (.cells #[Y d.id,Y d.f,Y d.op,.bool d.v.r,Y d.v.n] 124)).drew;have aF:=U (show ∀bh∈(#[Y d.id,Y d.f,Y d.op,.bool d.v.r,Y d.v.n]:Array Value).toList++(t.ds.l.drop k).flatMap Dl.E,bh.oneCell'=true from λbh hu=>tB (d::t.ds.l.drop k) bh hu);have bI:=kP (s:=5) (P_ wc.drew 124 #[Y d.id,Y d.f,Y d.op,.bool d.v.r,Y d.v.n]) rfl;have b9:=MZ.trans F;clear ao F aO MZ
     go_wp2_with fail
     go_region_held3 (λN=>N.cell? (Z (w.heap.size+1) 0)=some (Y d.id)/\N.cell? (Z (w.heap.size+1) 1)=some (Y d.f)/\N.cell? (Z (w.heap.size+1) 2)=some (Y d.op)/\N.cell? (Z (w.heap.size+1) 3)=some (.bool d.v.r)/\N.cell? (Z (w.heap.size+1) 4)=some (Y d.v.n)) (first|exact dP|exact dQ|exact aX|go_keep)
      (first
        |(refine mC _ r_ (.tmp 126) (.tmp 129) 51 r_ 124 bJ _ 5 40 underlying51 bG bA a6 be rfl O O _ 1 _ r_ bI _ (t.ds.l.length-k) _ _ r_ a2 (tB _) X ?_;intro a8 c5 S G bH B;have b8:=(b.alloc (.cells #[Y d.id,Y d.f,Y d.op,.bool d.v.r,Y d.v.n] 124)).hF B;have dP:S.cell? (Z (w.heap.size+1) 0)=some (Y d.id)/\S.cell? (Z (w.heap.size+1) 1)=some (Y d.f)/\S.cell? (Z (w.heap.size+1) 2)=some (Y d.op)/\S.cell? (Z (w.heap.size+1) 3)=some (.bool d.v.r)/\S.cell? (Z (w.heap.size+1) 4)=some (Y d.v.n):=b8.c5)
        |(refine mC _ r_ (.tmp 124) (.tmp 130) 51 r_ 124 bJ _ 5 40 underlying51 bG bA a6 be rfl O O _ k _ r_ (bj.hF B) _ (1+(t.ds.l.length-k)) _ _ r_ bH aF.out X ?_;intro j i u bO bY ay;have MV:=b8.hF ay;have dQ:u.cell? (Z (w.heap.size+1) 0)=some (Y d.id)/\u.cell? (Z (w.heap.size+1) 1)=some (Y d.f)/\u.cell? (Z (w.heap.size+1) 2)=some (Y d.op)/\u.cell? (Z (w.heap.size+1) 3)=some (.bool d.v.r)/\u.cell? (Z (w.heap.size+1) 4)=some (Y d.v.n):=MV.c5;have bg:=MV.ih (p:=(Z w.heap.size 40)) sd_ (.slice j (k+(1+(t.ds.l.length-k))) i);have aX:(u.setCell (Z w.heap.size 40) (.slice j (k+(1+(t.ds.l.length-k))) i)).cell? (Z (w.heap.size+1) 0)=some (Y d.id)/\(u.setCell (Z w.heap.size 40) (.slice j (k+(1+(t.ds.l.length-k))) i)).cell? (Z (w.heap.size+1) 1)=some (Y d.f)/\(u.setCell (Z w.heap.size 40) (.slice j (k+(1+(t.ds.l.length-k))) i)).cell? (Z (w.heap.size+1) 2)=some (Y d.op)/\(u.setCell (Z w.heap.size 40) (.slice j (k+(1+(t.ds.l.length-k))) i)).cell? (Z (w.heap.size+1) 3)=some (.bool d.v.r)/\(u.setCell (Z w.heap.size 40) (.slice j (k+(1+(t.ds.l.length-k))) i)).cell? (Z (w.heap.size+1) 4)=some (Y d.v.n):=bg.c5;have bw:=((MX.alloc (.cells #[Y d.id,Y d.f,Y d.op,.bool d.v.r,Y d.v.n] 124)).hF B).hF ay;have bk:=((h.alloc (.cells #[Y d.id,Y d.f,Y d.op,.bool d.v.r,Y d.v.n] 124)).hF B).hF ay;have bE:u.cell? (Z w.heap.size 40)=some (.slice t.ds.A t.ds.l.length t.ds.c):=(bw.f_ 40).trans rfl;have f40:=bw.hG 40;have az:=bw.hV 40 (.slice j (k+(1+(t.ds.l.length-k))) i);have m:=bk.ih (p:=(Z w.heap.size 40)) sd_ (.slice j (k+(1+(t.ds.l.length-k))) i);have iN:=bV.out k br.out;have bm:({t with ds:=⟨j,i,t.ds.l.take k++([d]++t.ds.l.drop k)⟩}:Tk).g_=t.g_.setIfInBounds 40 (.slice j (k+(1+(t.ds.l.length-k))) i):=(by rw[<-iN];rfl);have bF:=U bm;clear bm iN;rw[<-bF.out]at az))
     go_wp2_with (first|(refine kV az underlying53 ?_)|(refine kS (({t with ds:=⟨j,i,t.ds.l.take k++([d]++t.ds.l.drop k)⟩}:Tk).g_) m (Tk.one _) ?_;intro bP aq bB))
     all_goals
      refine lO ({t with ds:=⟨j,i,t.ds.l.take k++([d]++t.ds.l.drop k)⟩}:Tk).g_ (.bool true) aq underlying53 ?_;unfold nj;rw[aS.out,<-br.out];have iN:=bV.out k br.out;have Q:=(((((b9.alloc _).drew).trans B).trans ay).setCell (p:=(Z w.heap.size 40)) (.inr J) (.slice j (k+(1+(t.ds.l.length-k))) i)).hJ bB p_;have e:=ht.hF Q;have bT:=(bY.it bw O ((H [w.heap.size] u).setCell (p:=(Z w.heap.size 40)) (.inl J) (.slice j (k+(1+(t.ds.l.length-k))) i))).it m O bB;refine⟨({t with ds:=⟨j,i,t.ds.l.take k++([d]++t.ds.l.drop k)⟩}:Tk),rfl,⟨e.gs,e.rs,e.ws,e.nw,e.nr,?_,e.h8,e.yi,e.k5,e.vp,e.td,?_,e.pN⟩,rfl,Q⟩
      .show Sl bP 124 5 j (t.ds.l.take k++([d]++t.ds.l.drop k)).length _
       rw[iN,F8,F8,HJ];exact bT
      .show(t.ds.l.take k++([d]++t.ds.l.drop k)).length<=i
       rw[iN];exact bO
   .obtain⟨k,rfl⟩:∃k:Nat,g=k:=⟨g.toNat,(GM MS).symm⟩;have hk:k<t.ds.l.length:=X;have aS:=U M;clear M MS F av
    go_upto_region 6 with(at_builtin;refine iJ _ rfl (.const (n_)) (.tmp 61) 51 rfl (w.heap.size+1+1+1) 124 bJ _ 5 40 underlying51 bG bA a6 be rfl O O none 0 0 [] rfl (iT _ _ _ _) t.ds.A t.ds.l.length t.ds.c _ rfl bW (tB _) X cf ?_;intro aM r T C c;simp only[W_,FY]at C;replace MZ:=c.gr [] w X MZ;replace MX:=c.bk MX O;replace b:=c.tK b X;replace h:=c.bk h O)
    obtain⟨i,cv,bC,cx,c9,ce⟩:=kE C X;subst bC;have hv:=Sl.Ck pH (Sl.iR C) hk;have v3:T.cell? (Z i (k*5+3))=some _:=hv 3 _ rfl;have v4:T.cell? (Z i (k*5+4))=some _:=hv 4 _ rfl;have b6:=iY C;have MY:=U ce
    have b0:=U (show t.ds.l.modify k (λK=>{K with v:=(iK d.op K.v d.v).1})=t.ds.l.set k {t.ds.l[k]with v:=(iK d.op t.ds.l[k].v d.v).1} by
     apply HK;intro bv;rw[Ig,H1]
     by_cases x:k=bv
     .subst x;simp[hk]
     .simp[x])
    have cr:=(Bk.l8 c9 MX O).symm;have cq:=(Bk.l8 c9 h O).symm;clear hv ce C c bE bW;obtain⟨j,bK⟩:=mn_ (t.ds.l[k]);rw[bK]at v3 v4 b0;have cg:=U bK;clear bK;obtain⟨u,hr⟩:=mn_ (iK d.op j.v d.v);rw[hr]at b0;have aU:=U hr;clear hr;have aZ:=b.f_ 2;have z3:=b.f_ 3;have z4:=b.f_ 4;have bS:=MX.drew;have aB:=h.drew;have ca:=c9.drew;have bR:=MZ.drew
    go_cut [] (λE=>Bk E w.heap.size 53 t.g_/\Bk E (w.heap.size+1+1) 53 lA/\Sl E 124 5 (j_ i) t.ds.l.length ((t.ds.l.set k {j with v:=u.1}).flatMap Dl.E)/\I [] w E)
    case first=>
     go_region_with ((go_at_call 164;((with_reducible refine(mL d.op j.v d.v).mono ?_);rintro x S⟨he,B⟩;unfold qt at he;subst he;rw[aU.out];have N:=ca.hF B;have M0:=Sl.D6 N MY.out hk;have v5:=M0.1;have cz:=M0.2;clear M0;have f5:=N.hG (k*5+3);have dV:=N.hG (k*5+4))))
     all_goals
      go_wp2;go_meet;exact⟨(bS.hF B).ua cr _ _ _ _,(aB.hF B).ua cq _ _ _ _,Ao Dl.E pH hk {j with v:=u.1} (by rw[cg.out];rfl) N MY.out,(bR.trans B).two (.inr X) _ _ _ _⟩
    case rest=>
     clear MX h b c9 bS aB ca bR aZ z3 z4 MZ;obtain⟨MX,h,bx,MZ⟩:=hcut;have bE:wc.cell? (Z w.heap.size 40)=some (.slice t.ds.A t.ds.l.length t.ds.c):=(MX.f_ 40).trans rfl;have f40:=MX.hG 40;have cy:Bk (wc.setCell (Z w.heap.size 40) (.slice (j_ i) t.ds.l.length r)) w.heap.size 53 ({t with ds:=⟨some (Z i 0),r,t.ds.l⟩}:Tk).g_:=MX.hV 40 _;have N:=h.ih (p:=(Z w.heap.size 40)) sd_ (.slice (j_ i) t.ds.l.length r)
     go_wp2_with (first|(refine kV cy underlying53 ?_)|(refine kS (({t with ds:=⟨some (Z i 0),r,t.ds.l⟩}:Tk).g_) N (Tk.one _) ?_;intro aJ m aQ))
     have bm:({t with ds:=⟨some (Z i 0),r,t.ds.l.set k {j with v:=u.1}⟩}:Tk).g_=({t with ds:=⟨some (Z i 0),r,t.ds.l⟩}:Tk).g_:=by simp[Tk.g_]
     rw[<-bm]at m;refine lO ({t with ds:=⟨some (Z i 0),r,t.ds.l.set k {j with v:=u.1}⟩}:Tk).g_ (.bool true) m underlying53 ?_;unfold nj;rw[aS.out];have cb:=MZ.setCell (p:=(Z w.heap.size 40)) (.inr J) (.slice (j_ i) t.ds.l.length r);have Q:=cb.hJ aQ p_;have e:=ht.hF Q;have bT:=(bx.it MX O ((H [w.heap.size] wc).setCell (p:=(Z w.heap.size 40)) (.inl J) (.slice (j_ i) t.ds.l.length r))).it N O aQ;refine⟨({t with ds:=⟨some (Z i 0),r,t.ds.l.set k {j with v:=u.1}⟩}:Tk),rfl,⟨e.gs,e.rs,e.ws,e.nw,e.nr,?_,e.h8,e.yi,e.k5,e.vp,e.td,?_,e.pN⟩,?_,Q⟩
     .show Sl aJ 124 5 (j_ i) (t.ds.l.set k _).length _
      rw[F1];exact bT
     .show(t.ds.l.set k _).length<=r
      rw[F1];exact b6
     .rw[Gs,b0.out]
      rfl
def B_{w:World}(i:lh w t)(b:t.ds.l.length<=1000000000)(a:t.nw.l.length<=1000000000)(e:t.ws.l.length<=1000000000)(f:t.rs.l.length<=1000000000)(h:take t.p d=none):
 Calls prog 126 #[.agg t.g_,.agg #[Y d.id,Y d.f,Y d.op,.bool d.v.r,Y d.v.n]] w (nj t.p false w):=uj t d w i b a e f (.inl ⟨rfl,h⟩)
def Ai(P:i3){w:World}(i:lh w t)(b:t.ds.l.length<=1000000000)(a:t.nw.l.length<=1000000000)(e:t.ws.l.length<=1000000000)(f:t.rs.l.length<=1000000000)(h:take t.p d=some P):
 Calls prog 126 #[.agg t.g_,.agg #[Y d.id,Y d.f,Y d.op,.bool d.v.r,Y d.v.n]] w (nj P true w):=uj t d w i b a e f (.inr ⟨P,rfl,h⟩)
def rJ(A:OA)(c:Nat)(l:List Rw)(id f:Int)(w:World)(ht:lh w t)(h:my w A c l)(hs:t.p.sm 100000000)(hl:l.length<=100000000)(n:R=nj t.p false w/\jw t.p (hX l) id f=none∨∃P,R=nj P true w/\jw t.p (hX l) id f=some P):
 Calls prog 131 #[.agg t.g_,.agg #[.slice A l.length c],Y id,Y f] w R:=by
 have bX:t.gs.l.length<=1000000000:=G_ hs.gs O;have au:t.rs.l.length<=1000000000:=G_ hs.rs O;have ap:t.ws.l.length<=1000000000:=G_ hs.ws O;have aD:t.ds.l.length<=1000000000:=G_ hs.ds O
 have al:t.nw.l.length<=100000000:=by have:=hs.nw;rwa [show t.p.nw=hX t.nw.l from rfl,h7]at this
 have hn1:l.length<=1000000000:=X;have aC:=xJ t.ds.l id f;obtain⟨g,aY⟩:=mn_ (pe t.ds.l id f);rw[aY]at aC
 have bg:jw t.p (hX l) id f=if g<0 then some t.p else match jy (before t.p (hX l)) id f with
  |none=>none
  |some T=>if T.r=true then none else some (j1 {t.p with rs:=kz t.rs.l ⟨id,f,T⟩,ds:=t.ds.l.eraseIdx g.toNat} ⟨id,f,(jy (jq t.p (hX l)) id f).getD default⟩):=by rw[<-aY];rfl
 rw[bg]at n;have av:=U aY;clear aY bg;obtain⟨a,e,b,MZ⟩:=wI w 53 t.g_ 35 #[.slice A l.length c] 53 lA
 go_enter func131,ntmps131
 go_upto_region 1 with fail
 obtain⟨an,aG⟩:=nm_ (((w.alloc (.cells t.g_ 53)).alloc (.cells #[.slice A l.length c] 35)).alloc (.cells lA 53));rw[<-aG]at a e b MZ |-;clear aG;have y:=e.f_ 0
 rcases s9 g aC.1 with rfl|⟨k,rfl⟩
 .rw[U_ X]at n
  rcases n with⟨rfl,n⟩|⟨P,rfl,x⟩
  .cases n
  .injection x with x;subst x
   go_wp2_with (first|(refine kV a underlying53 ?_)|(go_at_call 130;((with_reducible refine(l0 t id f (ht.hF MZ) aD).mono ?_);rintro u ag⟨rfl,j⟩;rw[av.out];replace a:=a.hF j;replace e:=e.hF j;replace b:=b.hF j;replace MZ:=MZ.trans j;replace y:=e.f_ 0))|(refine kS (t.g_) b (Tk.one _) ?_;intro aJ m aQ))
   have Q:=MZ.hJ aQ p_;exact lO t.g_ (.bool true) m underlying53 ⟨t,rfl,ht.hF Q,rfl,Q⟩
 .rw[R_ X,Gs]at n;have hk:k<t.ds.l.length:=X
  cases V:jy (before t.p (hX l)) id f with
  |none=>
   rw[V]at n;simp only at n;have aA:=U V;clear V
   rcases n with⟨rfl,n⟩|⟨P,rfl,x⟩
   .clear n
    go_wp2_with (first|(refine kV a underlying53 ?_)|(go_at_call 130;((with_reducible refine(l0 t id f (ht.hF MZ) aD).mono ?_);rintro u ag⟨rfl,j⟩;rw[av.out];replace a:=a.hF j;replace e:=e.hF j;replace b:=b.hF j;replace MZ:=MZ.trans j;replace y:=e.f_ 0))|(go_at_call 122;((with_reducible refine(o1 t A c l (ht.hF MZ) (h.hF MZ) hn1 bX au).mono ?_);unfold mt;rintro u ad⟨aM,c4,C,rfl,D,d,r⟩;have bd:=U d;have W:=U (show C.length=l.length from(by have:=h7 C;rw[d,mJ,h7]at this;exact this.symm));clear d;replace a:=a.hF r;replace e:=e.hF r;replace b:=b.hF r;replace MZ:=MZ.trans r;replace y:=e.f_ 0))|(go_at_call 148;((with_reducible refine(kB aM c4 C id f _ D.os D.k5 (ov W.out)).mono ?_);rintro u L⟨rfl,s⟩;rw[bd.out,aA.out];simp only[HN,HV];replace a:=(a.hF s).alloc (.cells (V_ (default:Vl)) 38);replace e:=(e.hF s).alloc (.cells (V_ (default:Vl)) 38);replace b:=(b.hF s).alloc (.cells (V_ (default:Vl)) 38);replace MZ:=(MZ.trans s).alloc (.cells (V_ (default:Vl)) 38);have o:=P_ L 38 (V_ (default:Vl));have N:=o.f_ 0;have M:=o.f_ 1;replace y:=e.f_ 0))|(refine kS (t.g_) b (Tk.one _) ?_;intro aJ m aQ))
    exact LJ
   .cases x
  |some T=>
   rw[V]at n;simp only at n;have aA:=U V;clear V
   cases K:T.r with
   |true=>
    rw[U_ K]at n
    rcases n with⟨rfl,n⟩|⟨P,rfl,x⟩
    .clear n;have q:=U K;obtain⟨bf,i⟩:=T;simp only at K;subst K;clear q
     go_wp2_with (first|(refine kV a underlying53 ?_)|(go_at_call 130;((with_reducible refine(l0 t id f (ht.hF MZ) aD).mono ?_);rintro u ag⟨rfl,j⟩;rw[av.out];replace a:=a.hF j;replace e:=e.hF j;replace b:=b.hF j;replace MZ:=MZ.trans j;replace y:=e.f_ 0))|(go_at_call 122;((with_reducible refine(o1 t A c l (ht.hF MZ) (h.hF MZ) hn1 bX au).mono ?_);unfold mt;rintro u ad⟨aM,c4,C,rfl,D,d,r⟩;have bd:=U d;have W:=U (show C.length=l.length from(by have:=h7 C;rw[d,mJ,h7]at this;exact this.symm));clear d;replace a:=a.hF r;replace e:=e.hF r;replace b:=b.hF r;replace MZ:=MZ.trans r;replace y:=e.f_ 0))|(go_at_call 148;((with_reducible refine(kB aM c4 C id f _ D.os D.k5 (ov W.out)).mono ?_);rintro u L⟨rfl,s⟩;rw[bd.out,aA.out];simp only[GI,Hs];replace a:=(a.hF s).alloc (.cells #[.bool true,Y i] 38);replace e:=(e.hF s).alloc (.cells #[.bool true,Y i] 38);replace b:=(b.hF s).alloc (.cells #[.bool true,Y i] 38);replace MZ:=(MZ.trans s).alloc (.cells #[.bool true,Y i] 38);have o:=P_ L 38 #[.bool true,Y i];have N:=o.f_ 0;have M:=o.f_ 1;replace y:=e.f_ 0))|(refine kS (t.g_) b (Tk.one _) ?_;intro aJ m aQ))
     exact LJ
    .cases x
   |false=>
    rw[R_ (by rw[K];simp)]at n
    rcases n with⟨rfl,n⟩|⟨P,rfl,x⟩
    .cases n
    .injection x with x;have aS:=U x.symm;clear x;obtain⟨bf,i⟩:=T;simp only at K;subst K
     go_upto_region 7 with(first|(refine kV a underlying53 ?_)|(go_at_call 130;((with_reducible refine(l0 t id f (ht.hF MZ) aD).mono ?_);rintro u ag⟨rfl,j⟩;rw[av.out];replace a:=a.hF j;replace e:=e.hF j;replace b:=b.hF j;replace MZ:=MZ.trans j;replace y:=e.f_ 0))|(go_at_call 122;((with_reducible refine(o1 t A c l (ht.hF MZ) (h.hF MZ) hn1 bX au).mono ?_);unfold mt;rintro u ad⟨aM,c4,C,rfl,D,d,r⟩;have bd:=U d;have W:=U (show C.length=l.length from(by have:=h7 C;rw[d,mJ,h7]at this;exact this.symm));clear d;replace a:=a.hF r;replace e:=e.hF r;replace b:=b.hF r;replace MZ:=MZ.trans r;replace y:=e.f_ 0))|(go_at_call 148;((with_reducible refine(kB aM c4 C id f _ D.os D.k5 (ov W.out)).mono ?_);rintro u L⟨rfl,s⟩;rw[bd.out,aA.out];simp only[GI,Hs];replace a:=(a.hF s).alloc (.cells #[.bool false,Y i] 38);replace e:=(e.hF s).alloc (.cells #[.bool false,Y i] 38);replace b:=(b.hF s).alloc (.cells #[.bool false,Y i] 38);replace MZ:=(MZ.trans s).alloc (.cells #[.bool false,Y i] 38);have o:=P_ L 38 #[.bool false,Y i];have N:=o.f_ 0;have M:=o.f_ 1;replace y:=e.f_ 0)))
     obtain⟨af,bI⟩:=nm_ (L.alloc (.cells #[.bool false,Y i] 38));rw[<-bI]at a e b o MZ y N M |-;clear bI;clear D j r s aA
     have cN:(jq t.p (hX l)).length<=1000000000:=by
      have h1:=oQ (hX t.nw.l) (before t.p (hX l));have u:jq t.p (hX l)=kj (ja ((hX t.nw.l).foldl lv (before t.p (hX l))) t.ws.l) t.ds.l:=rfl;rw[u,nX,jW];rw[mJ,h7,h7]at h1;omega
     obtain⟨F,hu⟩:=mn_ ((jy (jq t.p (hX l)) id f).getD default);have bg:=U hu;have cZ:=o.lt;have bi:=Bk.l8 o a O;have a8:=Bk.l8 o b O;generalize L.heap.size=gb at*;clear hu
     go_upto_region 8 with(first|(refine kV a underlying53 ?_)|(go_at_call 79;((with_reducible refine(pk t A c l (ht.hF MZ) (h.hF MZ) X ap aD bX au).mono ?_);unfold mt;rintro u bP⟨bZ,cg,ah,rfl,ax,dW,bB⟩;have aL:=U dW;have ed:ah.length<=1000000000:=(by have:=h7 ah;rw[dW]at this;omega);clear dW;replace a:=a.hF bB;replace b:=b.hF bB;replace o:=o.hF bB;replace MZ:=MZ.trans bB))|(go_at_call 148;((with_reducible refine(kB bZ cg ah id f _ ax.os ax.k5 ed).mono ?_);rintro u ae⟨rfl,G⟩;rw[aL.out,bg.out];replace a:=(a.hF G).alloc (.cells (V_ F) 38);replace b:=(b.hF G).alloc (.cells (V_ F) 38);replace o:=(o.hF G).alloc (.cells (V_ F) 38);replace MZ:=(MZ.trans G).alloc (.cells (V_ F) 38);have B:=P_ ae 38 (V_ F);replace N:=o.f_ 0;replace M:=o.f_ 1)))
     obtain⟨bC,bV⟩:=nm_ (ae.alloc (.cells (V_ F) 38));rw[<-bV]at a b o MZ N M B |-;clear bV;have aI:=Bk.l8 B a O;have bn:=Bk.l8 B b O;generalize ae.heap.size=aU at*;clear ax bB G;have bq:bC.cell? (Z w.heap.size 37)=some (.slice t.rs.A t.rs.l.length t.rs.c):=(a.f_ 37).trans rfl
     go_upto_region 9 with(go_at_call 98;((with_reducible refine(ri t.rs.A t.rs.c t.rs.l ⟨id,f,⟨false,i⟩⟩ (ht.hF MZ).rs au).mono ?_);unfold se;rintro u c3⟨v,z,rfl,bh,aH,aP⟩;replace a:=a.hF aP;replace bq:c3.cell? (Z w.heap.size 37)=some (.slice t.rs.A t.rs.l.length t.rs.c):=(a.f_ 37).trans rfl;have cU:=a.hG 37;have cy:Bk (c3.setCell (Z w.heap.size 37) (.slice v (kz t.rs.l ⟨id,f,⟨false,i⟩⟩).length z)) w.heap.size 53 ({t with rs:=⟨v,z,kz t.rs.l ⟨id,f,⟨false,i⟩⟩⟩}:Tk).g_:=a.hV 37 _;replace b:=(b.hF aP).ih (p:=(Z w.heap.size 37)) sd_ (.slice v (kz t.rs.l ⟨id,f,⟨false,i⟩⟩).length z);replace B:=(B.hF aP).ih (p:=(Z w.heap.size 37)) aI (.slice v (kz t.rs.l ⟨id,f,⟨false,i⟩⟩).length z);replace bh:Cs (c3.setCell (Z w.heap.size 37) (.slice v (kz t.rs.l ⟨id,f,⟨false,i⟩⟩).length z)) v (kz t.rs.l ⟨id,f,⟨false,i⟩⟩):=Sl.it bh a O ((H [w.heap.size] c3).setCell (p:=(Z w.heap.size 37)) (.inl J) _);replace MZ:=(MZ.trans aP).setCell (p:=(Z w.heap.size 37)) (.inr J) (.slice v (kz t.rs.l ⟨id,f,⟨false,i⟩⟩).length z)))
     obtain⟨bH,b4⟩:=nm_ (c3.setCell (Z w.heap.size 37) (.slice v (kz t.rs.l ⟨id,f,⟨false,i⟩⟩).length z));rw[<-b4]at cy b B bh MZ |-;clear b4;clear a o N M bq cU aP y e bi a8;have a:=cy;clear cy;have aR:bH.cell? (Z w.heap.size 40)=some (.slice t.ds.A t.ds.l.length t.ds.c):=(a.f_ 40).trans rfl;have f40:=a.hG 40;have aT:(0:Int)<=(k:Int):=X;have aN:(k:Int)<=(t.ds.l.length:Int):=X;have bK:=ht.r8;unfold Sv.ok at bK;have aK:(k:Int)<=(t.ds.c:Int):=X;have bQ:(0:Int)<=(k:Int)+1:=X;have b8:(k:Int)+1<=(t.ds.l.length:Int):=X;have bW:(k:Int)+1<=(t.ds.c:Int):=X;obtain⟨bJ,bG,bA,a6,be⟩:=info_parts infoDl;have c8:=(ht.hF MZ.drew).ds;have bj:=Sl.x1 pH c8 (show k<=t.ds.l.length by omega);have a2:=Sl.yn pH c8 (show k+1<=t.ds.l.length by omega) t.ds.c bK;have bS:=a.drew;have aB:=b.drew;have aF:=B.drew;have ay:=Sl.drew bh;have bR:=MZ.drew;have dC:IntKind.i64.wrap ((k:Int)+1)=(k:Int)+1:=F5 _ X;have dZ:((k:Int)+1).toNat=k+1:=X;have aq:=U (show t.ds.l.take k++t.ds.l.drop (k+1)=t.ds.l.eraseIdx k from(List.eraseIdx_eq_take_drop_succ ..).symm)
     go_cut [] (λS=>∃(bk:OA) (MY:Nat),Bk S w.heap.size 53 ({t with rs:=⟨v,z,kz t.rs.l ⟨id,f,⟨false,i⟩⟩⟩,ds:=⟨bk,MY,t.ds.l.eraseIdx k⟩}:Tk).g_/\Bk S (w.heap.size+1+1) 53 lA/\Bk S aU 38 (V_ F)/\Cs S v (kz t.rs.l ⟨id,f,⟨false,i⟩⟩)/\Ds S bk (t.ds.l.eraseIdx k)/\(t.ds.l.eraseIdx k).length<=MY/\I [] w S)
     case first=>
      go_region_law (refine mC _ r_ (.tmp 59) (.tmp 64) 51 r_ 124 bJ _ 5 40 underlying51 bG bA a6 be rfl O O _ k _ r_ bj _ (t.ds.l.length-(k+1)) _ _ r_ a2 (tB _) X ?_;intro E bm cQ aZ aW am;have ak:=bS.hF am;have z41:cQ.cell? (Z w.heap.size 40)=some (.slice t.ds.A t.ds.l.length t.ds.c):=((ak.f_ 40).trans rfl);have bl:=ak.hG 40)
      all_goals
       go_wp2
       all_goals
        go_meet
        have ar:(t.ds.l.eraseIdx k).length=k+(t.ds.l.length-(k+1)):=by rw[<-aq.out];simp;omega
        have bo:({t with rs:=⟨v,z,kz t.rs.l ⟨id,f,⟨false,i⟩⟩⟩,ds:=⟨E,bm,t.ds.l.eraseIdx k⟩}:Tk).g_=({t with rs:=⟨v,z,kz t.rs.l ⟨id,f,⟨false,i⟩⟩⟩}:Tk).g_.setIfInBounds 40 (.slice E (k+(t.ds.l.length-(k+1))) bm):=by rw[<-ar];rfl
        have az:=ak.hV 40 (.slice E (k+(t.ds.l.length-(k+1))) bm);rw[<-bo]at az;have bp:=(H [w.heap.size] cQ).setCell (p:=(Z w.heap.size 40)) (.inl J) (.slice E (k+(t.ds.l.length-(k+1))) bm);have aw:=aW.it ak O bp;rw[<-F8,aq.out,<-ar]at aw;refine⟨E,bm,az,(aB.hF am).ih (p:=(Z w.heap.size 40)) sd_ _,(aF.hF am).ih (p:=(Z w.heap.size 40)) aI _,Sl.it (Sl.hF ay am) ak O bp,?_,by rw[ar];exact aZ,(bR.trans am).setCell (.inr J) _⟩;rw[ar]at aw;unfold Ds;rw[ar];exact aw
     case rest=>
      clear a b B bh bS aB aF ay bR aR f40 bj a2 c8 aq aT aN aK bQ b8 bW dC dZ MZ;obtain⟨bk,MY,a,b,B,br,hD,aX,MZ⟩:=hcut;have N:=B.f_ 0;have M:=B.f_ 1;have E:=ht.hF MZ;have bt:lh wc ({t with rs:=⟨v,z,kz t.rs.l ⟨id,f,⟨false,i⟩⟩⟩,ds:=⟨bk,MY,t.ds.l.eraseIdx k⟩}:Tk):=⟨E.gs,br,E.ws,E.nw,E.nr,hD,E.h8,E.yi,aH,E.vp,E.td,aX,E.pN⟩
      go_wp2_with (first|(refine kV a underlying53 ?_)|(go_at_call 132;((with_reducible refine(rD ({t with rs:=⟨v,z,kz t.rs.l ⟨id,f,⟨false,i⟩⟩⟩,ds:=⟨bk,MY,t.ds.l.eraseIdx k⟩}:Tk) ⟨id,f,F⟩ bt (by show t.nw.l.length<=1000000000;omega) ap).mono ?_);unfold tO;rintro u fX⟨t3,rfl,cJ,bO,aO⟩;have ai:=U bO;clear bO;replace b:=b.hF aO))|(refine kS (t3.g_) b (Tk.one _) ?_;intro aJ m aQ))
      have Q:=(MZ.trans aO).hJ aQ p_;refine lO t3.g_ (.bool true) m underlying53 ⟨t3,rfl,cJ.it b sS aQ,?_,Q⟩;rw[ai.out,aS.out,bg.out]
      rfl
def uo(A:OA)(c:Nat)(l:List Rw)(id f:Int){w:World}(e:lh w t)(h:my w A c l)(b:t.p.sm 100000000)(a:l.length<=100000000)(n:jw t.p (hX l) id f=none):
 Calls prog 131 #[.agg t.g_,.agg #[.slice A l.length c],Y id,Y f] w (nj t.p false w):=rJ t A c l id f w e h b a (.inl ⟨rfl,n⟩)
def sY(A:OA)(c:Nat)(l:List Rw)(id f:Int)(P:i3){w:World}(e:lh w t)(h:my w A c l)(b:t.p.sm 100000000)(a:l.length<=100000000)(hy:jw t.p (hX l) id f=some P):
 Calls prog 131 #[.agg t.g_,.agg #[.slice A l.length c],Y id,Y f] w (nj P true w):=rJ t A c l id f w e h b a (.inr ⟨P,rfl,hy⟩)
def infoInt:(prog.info? 3).map (λi=>(i.zero,i.size,i.bytes))=some (some (Y 0),1,8):=by kernel_rfl
def Bk.A4{w:World}{t e:TypeId}{cs:Array Value}(h:Bk w g t cs)(ar:e≠t):∀c fz,w.heap[g]?≠some (.cells c e fz):=KH
def kI(l:List In)(hH hC:Int):List Int:=if ic l hH hC=true then(List.range (hC.toNat+1)).map Int.ofNat else[]
def DU(P:List Int)(w:World)(e:Ending)(w':World):Prop:=∃(A:OA) (d:Nat),e=.returned (.agg #[.slice A P.length d])/\Ns w' 3 A P/\P.length<=d/\I [] w w'
def A6(l:List In):0<=jF l/\jF l<=l.length:=by
 unfold jF
 have:=Gx (λa:In=>a.op==21) l
 omega
def ks{l:List In}{hH hC:Int}(h:ic l hH hC=true):1<=l.length/\l.length<=2048/\0<=hH/\hH<=64/\0<=hC/\hC<=2048:=by
 have j:=A6 l;unfold ic at h;simp only[F0,GE,beq_iff_eq]at h;obtain⟨⟨⟨⟨⟨⟨⟨⟨e,f⟩,i⟩,b⟩,_⟩,_⟩,_⟩,_⟩,a⟩:=h;omega
def zw(l:List In)(hH hC:Int)(w:World)(h:Is w A l)(N:l.length<=1000000000):
 Calls prog 90 #[.agg #[.slice A l.length c,Y hH,Y hC]] w (DU (kI l hH hC) w):=by
 obtain⟨bJ,bG,bA,S,be⟩:=info_parts infoInt;obtain⟨a,e,b,i⟩:=wI w 26 #[.slice A l.length c,Y hH,Y hC] 32 #[n_] 32 #[n_]
 cases v:ic l hH hC with
 |false=>
  have E:=U (show kI l hH hC=[] by unfold kI;rw[v];simp)
  go_enter func90,ntmps90
  go_upto_region 2 with fail
  obtain⟨L,r⟩:=nm_ (((w.alloc (.cells #[.slice A l.length c,Y hH,Y hC] 26)).alloc (.cells #[n_] 32)).alloc (.cells #[n_] 32));rw[<-r]at a e b i |-;clear r;have K:=a.f_ 0;have C:=a.f_ 1;have u:=a.f_ 2
  go_wp2_with (go_at_call 92;have R:=iU A c l hH hC (h.hF i) N;rw[v]at R;refine R.mono ?_;rintro ad P⟨rfl,j⟩;replace e:=e.hF j;replace b:=b.hF j;replace i:=i.trans j;have B:=b.f_ 0;have bq:=e.f_ 0;have bM:=e.hG 0)
  refine rr_ #[n_] (e.hV 0 (n_)) underlying32 ?_;unfold DU;rw[E.out];exact⟨none,0,rfl,Gw _ _ _ _,H_ _,i.setCell (.inr J) _⟩
 |true=>
  obtain⟨b1,b2,b3,dH,ez,dW⟩:=ks v;obtain⟨f,rfl⟩:∃f:Nat,hC=f:=⟨hC.toNat,X⟩;have E:=U (show kI l hH f=(List.range (f+1)).map Int.ofNat by unfold kI;rw[v];simp)
  go_enter func90,ntmps90
  go_upto_region 2 with fail
  obtain⟨L,r⟩:=nm_ (((w.alloc (.cells #[.slice A l.length c,Y hH,Y (f:Int)] 26)).alloc (.cells #[n_] 32)).alloc (.cells #[n_] 32));rw[<-r]at a e b i |-;clear r;have K:=a.f_ 0;have C:=a.f_ 1;have u:=a.f_ 2;have y:w.heap.size+1+1+1<=L.heap.size:=ov b.lt
  go_wp2_with (go_at_call 92;have R:=iU A c l hH f (h.hF i) N;rw[v]at R;refine R.mono ?_;rintro ad P⟨rfl,j⟩;replace a:=a.hF j;replace e:=e.hF j;replace b:=b.hF j;replace i:=i.trans j;replace K:=a.f_ 0;replace C:=a.f_ 1;replace u:=a.f_ 2;have B:=b.f_ 0)
  replace y:=G_ y j.size;clear K C u B j y
  go_loopw [4] (λF wr=>∃(k:Nat) (m:OA) (n:Nat),k<=f+1/\F=Y k/\wr.ownsRow (w.heap.size+1+1+1) 3 1 (.slice m k n) k ((List.range k).map λae:Nat=>Value.int .i64 ae)/\Bk wr w.heap.size 26 #[.slice A l.length c,Y hH,Y (f:Int)]/\Bk wr (w.heap.size+1) 32 #[n_]/\Bk wr (w.heap.size+1+1) 32 #[.slice m k n]/\I [] w wr) (λF _=>f+1-(intOf F).toNat)
  case atStart=>exact⟨0,none,0,N_ _,rfl,iT _ _ _ _,a,e,b,i⟩
  case round=>
   clear a e b i;obtain⟨k,m,n,hk,rfl,D,a,e,b,o⟩:=hrel;have y:w.heap.size+1+1+1<=wr.heap.size:=ov b.lt
   by_cases af:k<f+1
   .have aw:(k:Int)<=(f:Int):=X;have Q:=iy D ((H [] wr).alloc (.cells #[Y (k:Int)] 3));have V:Sl (wr.alloc (.cells #[Y (k:Int)] 3)) 3 1 (j_ wr.heap.size) 1 [Y (k:Int)]:=kP (s:=1) (P_ wr 3 #[Y (k:Int)]) rfl;have t:w.heap.size+1+1+1<=(wr.alloc (.cells #[Y (k:Int)] 3)).heap.size:=p_;have u:=a.f_ 2;have MU:=b.f_ 0;replace a:=a.alloc (.cells #[Y (k:Int)] 3);replace e:=e.alloc (.cells #[Y (k:Int)] 3);replace b:=b.alloc (.cells #[Y (k:Int)] 3);replace o:=o.alloc (.cells #[Y (k:Int)] 3)
    go_wp2_with (at_builtin;refine iJ _ rfl (.tmp 14) (.tmp 16) 30 rfl (w.heap.size+1+1+1) 3 bJ _ 1 8 underlying30 bG bA S be rfl O O m k n _ rfl Q _ 1 1 _ rfl V (by intro ag M;simp at M;subst M;rfl) X t ?_;intro W T w2 av z;replace a:=z.bk a O;replace e:=z.bk e O;replace b:=z.bk b O;replace o:=z.gr [] w X o;have ce:=b.hG 0;have au:=b.f_ 0)
    go_roundw
    case rel=>exact⟨k+1,W,T,X,gn,(by simpa[List.range_succ]using ku (x:=w.heap.size+1+1) av (b.A4 O) ((H _ _).setCell (.inl J) _)),a.ih (p:=(Z (w.heap.size+1+1) 0)) sd_ _,e.ih (p:=(Z (w.heap.size+1+1) 0)) sd_ _,b.hV 0 _,o.setCell (.inr p_) _⟩
    case measure=>exact mz
   .have aw:¬(k:Int)<=(f:Int):=X;have z:=U (show k=f+1 by omega);have u:=a.f_ 2;have B:=b.f_ 0;have bM:=e.hG 0;have bq:=e.f_ 0;go_wp2;refine rr_ #[.slice m k n] (e.hV 0 (.slice m k n)) underlying32 ?_;unfold DU;rw[E.out];have Q:=o.setCell (p:=(Z (w.heap.size+1) 0)) (.inr J) (.slice m k n);have M:=Sl.iR (ku (x:=w.heap.size+1) D (e.A4 O) ((H [w.heap.size+1] wr).setCell (p:=(Z (w.heap.size+1) 0)) (.inl J) (.slice m k n)));refine⟨m,n,by rw[z.out];simp,?_,by have:=iY D;have:=z.out;simp;omega,Q⟩;unfold Ns;rw[z.out]at M |-
    simpa[List.map_map,Function.comp_def]using M
def ni(P:i3)(n:Int)(w:World)(e:Ending)(w':World):Prop:=∃t:Tk,e=.returned (.tuple #[.agg t.g_,Y n])/\lh w' t/\t.p=P/\I [] w w'
def tg(hQ run:Int)(ik:Bool):Tk:={Tk.zero with hQ:=hQ,run:=run,ik:=ik,pc:=hQ}
def rj(hQ run:Int)(ik:Bool):Tk:={Tk.zero with hQ:=hQ,run:=run,ik:=ik,pc:=hQ,h9:=1,next:=hQ+1}
def u_(l:List In)(hH hC hQ run:Int)(ik:Bool)(w:World)(h:Is w A l)(o:l.length<=1000000000)(z: -1000000000<=hQ)(B:hQ<=1000000000)(v:0<=run)(x:run<=1099511627776)(p:ic l hH hC=false):
 Calls prog 49 #[.agg #[.slice A l.length c,Y hH,Y hC],Y hQ,Y run,.bool ik,n_] w (ni Tk.zero.p 1 w):=by
 obtain⟨b,e,a⟩:=pZ w 26 #[.slice A l.length c,Y hH,Y hC] 53 lA
 go_enter func49,ntmps49
 go_upto_region 1 with fail
 obtain⟨r,i⟩:=nm_ ((w.alloc (.cells #[.slice A l.length c,Y hH,Y hC] 26)).alloc (.cells lA 53));rw[<-i]at b e a |-;clear i;have D:=b.f_ 0;have s:=b.f_ 1;have u:=b.f_ 2
 go_wp2_with (first|(go_at_call 92;have R:=iU A c l hH hC (h.hF a) o;rw[p]at R;refine R.mono ?_;rintro C q⟨rfl,f⟩;replace e:=e.hF f;replace a:=a.trans f;clear f)|(refine kS (Tk.zero.g_) e (Tk.one _) ?_;intro y m n))
 have j:=a.hJ n J;exact lO Tk.zero.g_ (Y 1) m underlying53 ⟨Tk.zero,rfl,lh.nil _ _ rfl rfl rfl rfl rfl rfl,rfl,j⟩
def u9(l:List In)(hH hC hQ run:Int)(ik:Bool)(w:World)(h:Is w A l)(j:l.length<=1000000000)(s: -1000000000<=hQ)(u:hQ<=1000000000)(C:0<=run)(D:run<=1099511627776)(y:ic l hH hC=true)(x:mX l hQ=false):
 Calls prog 49 #[.agg #[.slice A l.length c,Y hH,Y hC],Y hQ,Y run,.bool ik,n_] w (ni Tk.zero.p 2 w):=by
 obtain⟨a,f,b⟩:=pZ w 26 #[.slice A l.length c,Y hH,Y hC] 53 lA
 go_enter func49,ntmps49
 go_upto_region 1 with fail
 obtain⟨B,i⟩:=nm_ ((w.alloc (.cells #[.slice A l.length c,Y hH,Y hC] 26)).alloc (.cells lA 53));rw[<-i]at a f b |-;clear i;have z:=a.f_ 0;have o:=a.f_ 1;have p:=a.f_ 2
 go_wp2_with (first|(go_at_call 92;have R:=iU A c l hH hC (h.hF b) j;rw[y]at R;refine R.mono ?_;rintro v m⟨rfl,e⟩;replace a:=a.hF e;replace f:=f.hF e;replace b:=b.trans e;replace z:=a.f_ 0;replace o:=a.f_ 1;replace p:=a.f_ 2;clear e)|(go_at_call 97;have R:=l4 A c l hH hC hQ (h.hF b) j s u;rw[x]at R;refine R.mono ?_;rintro v m⟨rfl,e⟩;replace f:=f.hF e;replace b:=b.trans e;clear e)|(refine kS (Tk.zero.g_) f (Tk.one _) ?_;intro E q r))
 have n:=b.hJ r J;exact lO Tk.zero.g_ (Y 2) q underlying53 ⟨Tk.zero,rfl,lh.nil _ _ rfl rfl rfl rfl rfl rfl,rfl,n⟩
def xO(l:List In)(hH hC hQ run:Int)(ik:Bool)(w:World)(h:Is w A l)(r:l.length<=1000000000)(D: -1000000000<=hQ)(E:hQ<=1000000000)(O:0<=run)(P:run<=1099511627776)(I:ic l hH hC=true)(H:mX l hQ=true)(F:jB l hH hC hQ=false):
 Calls prog 49 #[.agg #[.slice A l.length c,Y hH,Y hC],Y hQ,Y run,.bool ik,n_] w (ni (tg hQ run ik).p 0 w):=by
 obtain⟨a,f,b⟩:=pZ w 26 #[.slice A l.length c,Y hH,Y hC] 53 lA
 go_enter func49,ntmps49
 go_upto_region 1 with fail
 obtain⟨L,u⟩:=nm_ ((w.alloc (.cells #[.slice A l.length c,Y hH,Y hC] 26)).alloc (.cells lA 53));rw[<-u]at a f b |-;clear u;have q:=a.f_ 0;have m:=a.f_ 1;have n:=a.f_ 2;have N:(run<0)=False:=p_;have M:((1099511627776:Int)<run)=False:=p_
 go_upto_region 5 with(first|(go_at_call 92;have R:=iU A c l hH hC (h.hF b) r;rw[I]at R;refine R.mono ?_;rintro v i⟨rfl,e⟩;replace a:=a.hF e;replace f:=f.hF e;replace b:=b.trans e;replace q:=a.f_ 0;replace m:=a.f_ 1;replace n:=a.f_ 2;clear e)|(go_at_call 97;have R:=l4 A c l hH hC hQ (h.hF b) r D E;rw[H]at R;refine R.mono ?_;rintro v i⟨rfl,e⟩;replace a:=a.hF e;replace f:=f.hF e;replace b:=b.trans e;replace q:=a.f_ 0;replace m:=a.f_ 1;replace n:=a.f_ 2;clear e))
 have S:=f.lt;have j:=P_ i 53 lA;replace a:=a.alloc (.cells lA 53);replace f:=f.alloc (.cells lA 53);replace b:=b.alloc (.cells lA 53);have K:w.heap.size<=i.heap.size:=X
 go_upto_region 6 with(refine kS ((tg hQ run ik).g_) j (Tk.one _) ?_;intro B s o)
 replace a:=a.gr o sd_;replace f:=f.gr o sd_;replace b:=b.hJ o p_;have j:=s;clear s o q m n;generalize i.heap.size=gn at*;have q:=a.f_ 0;have m:=a.f_ 1;have n:=a.f_ 2;go_wp2
 go_loopw [40] (λx wr=>x=Y 0/\wr=B) (λx _=>0)
 case atStart=>exact⟨rfl,rfl⟩
 case round=>
  obtain⟨rfl,rfl⟩:=hrel
  go_wp2_with (first|(go_at_call 83;have R:=lx A c l hH hC hQ (h.hF b) r;rw[F]at R;refine R.mono ?_;rintro v i⟨rfl,e⟩;replace f:=f.hF e;replace j:=j.hF e;replace b:=b.trans e;clear e)|(refine kV j underlying53 ?_)|(refine kS ((tg hQ run ik).g_) f (Tk.one _) ?_;intro Q z C))
  have y:=b.hJ C J;exact lO (tg hQ run ik).g_ (Y 0) z underlying53 ⟨(tg hQ run ik),rfl,lh.nil _ _ rfl rfl rfl rfl rfl rfl,rfl,y⟩
def wv(l:List In)(hH hC hQ run:Int)(ik:Bool)(w:World)(h:Is w A l)(r:l.length<=1000000000)(D: -1000000000<=hQ)(E:hQ<=1000000000)(S:0<=run)(T:run<=1099511627776)(K:ic l hH hC=true)(I:mX l hQ=true)(H:jB l hH hC hQ=true):
 Calls prog 49 #[.agg #[.slice A l.length c,Y hH,Y hC],Y hQ,Y run,.bool ik,n_] w (ni (rj hQ run ik).p 0 w):=by
 obtain⟨a,e,b⟩:=pZ w 26 #[.slice A l.length c,Y hH,Y hC] 53 lA
 go_enter func49,ntmps49
 go_upto_region 1 with fail
 obtain⟨M,u⟩:=nm_ ((w.alloc (.cells #[.slice A l.length c,Y hH,Y hC] 26)).alloc (.cells lA 53));rw[<-u]at a e b |-;clear u;have q:=a.f_ 0;have m:=a.f_ 1;have n:=a.f_ 2;have P:(run<0)=False:=p_;have N:((1099511627776:Int)<run)=False:=p_
 go_upto_region 5 with(first|(go_at_call 92;have R:=iU A c l hH hC (h.hF b) r;rw[K]at R;refine R.mono ?_;rintro v j⟨rfl,f⟩;replace a:=a.hF f;replace e:=e.hF f;replace b:=b.trans f;replace q:=a.f_ 0;replace m:=a.f_ 1;replace n:=a.f_ 2;clear f)|(go_at_call 97;have R:=l4 A c l hH hC hQ (h.hF b) r D E;rw[I]at R;refine R.mono ?_;rintro v j⟨rfl,f⟩;replace a:=a.hF f;replace e:=e.hF f;replace b:=b.trans f;replace q:=a.f_ 0;replace m:=a.f_ 1;replace n:=a.f_ 2;clear f))
 have V:=e.lt;have i:=P_ j 53 lA;replace a:=a.alloc (.cells lA 53);replace e:=e.alloc (.cells lA 53);replace b:=b.alloc (.cells lA 53);have L:w.heap.size<=j.heap.size:=X
 go_upto_region 6 with(refine kS ((tg hQ run ik).g_) i (Tk.one _) ?_;intro B s o)
 replace a:=a.gr o sd_;replace e:=e.gr o sd_;replace b:=b.hJ o p_;have i:=s;clear s o q m n;generalize j.heap.size=gn at*;have q:=a.f_ 0;have m:=a.f_ 1;have n:=a.f_ 2;go_wp2
 go_loopw [40] (λx wr=>x=Y 0/\wr=B) (λx _=>0)
 case atStart=>exact⟨rfl,rfl⟩
 case round=>
  obtain⟨rfl,rfl⟩:=hrel
  go_upto_region 12 with(go_at_call 83;have R:=lx A c l hH hC hQ (h.hF b) r;rw[H]at R;refine R.mono ?_;rintro v j⟨rfl,f⟩;replace e:=e.hF f;replace i:=i.hF f;replace b:=b.trans f;clear f)
  have Q:=i.hG 42;have W:=i.hG 43;have F:Bk _ gn 53 (rj hQ run ik).g_:=(i.hV 42 (Y 1)).hV 43 (Y (hQ+1));replace e:=(e.ih (p:=(Z gn 42)) sd_ (Y 1)).ih (p:=(Z gn 43)) sd_ (Y (hQ+1));replace b:=(b.setCell (p:=(Z gn 42)) (.inr p_) (Y 1)).setCell (p:=(Z gn 43)) (.inr p_) (Y (hQ+1));have d:j.cell? (Z gn 42)=some (Y 0):=(i.f_ 42).trans rfl;have O:j.cell? (Z gn 43)=some (Y 0):=(i.f_ 43).trans rfl
  go_wp2_with (first|(refine kV F underlying53 ?_)|(refine kS ((rj hQ run ik).g_) e (Tk.one _) ?_;intro U z C))
  have y:=b.hJ C J;exact lO (rj hQ run ik).g_ (Y 0) z underlying53 ⟨(rj hQ run ik),rfl,lh.nil _ _ rfl rfl rfl rfl rfl rfl,rfl,y⟩
def jn(l:List In)(hH hC hQ run:Int)(ik:Bool):i3 × Int:=
 if ic l hH hC=false then(Tk.zero.p,1) else if mX l hQ=false then(Tk.zero.p,2) else
 if jB l hH hC hQ=true then((rj hQ run ik).p,0) else((tg hQ run ik).p,0)
def ob(l:List In)(hH hC hQ run:Int)(ik:Bool)(w:World)(h:Is w A l)(i:l.length<=1000000000)(e: -1000000000<=hQ)(f:hQ<=1000000000)(a:0<=run)(b:run<=1099511627776):
 Calls prog 49 #[.agg #[.slice A l.length c,Y hH,Y hC],Y hQ,Y run,.bool ik,n_] w (ni (jn l hH hC hQ run ik).1 (jn l hH hC hQ run ik).2 w):=by
 unfold jn
 cases j:ic l hH hC with
 |false=>exact u_ A c l hH hC hQ run ik w h i e f a b j
 |true=>
  cases m:mX l hQ with
  |false=>exact u9 A c l hH hC hQ run ik w h i e f a b j m
  |true=>
   cases n:jB l hH hC hQ with
   |false=>exact xO A c l hH hC hQ run ik w h i e f a b j m n
   |true=>exact wv A c l hH hC hQ run ik w h i e f a b j m n
