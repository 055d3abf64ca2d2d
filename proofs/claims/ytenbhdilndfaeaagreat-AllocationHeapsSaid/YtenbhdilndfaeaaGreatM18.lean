import Derived.Test.YtenbhdilndfaeaaGreatM02
import Derived.Test.YtenbhdilndfaeaaGreatM08
set_option maxRecDepth 100000
set_option maxHeartbeats 0
set_option linter.all false
namespace Go.Proofs.YtenbhdilndfaeaaGreat
open Go.RowKit Go.Proofs.Tryz
variable{G:Prop}{g k:Nat}{cur:Array Value}{R:Ending->World->Prop}(A:Option Addr)(t:Tk)(c:Nat)(d:Dl)(w:World)
theorem GF(h:G:=by
 clear hp o;exact GH):G:=h
theorem GG(h:G:=by
 clear hp;exact GH):G:=h
theorem GH(h:G:=by
 refine jB (W:=ai) (D_ _ _) k_ k_ ?_
 repeat(first|((with_reducible refine kZ (V.gw) underlying53 (by with_unfolding_all rfl) au (by with_unfolding_all rfl) (by with_unfolding_all rfl) ?_);simp only[EQ,EZ,E6])|go_big_quiet_step (((first|(go_at_call 128;exact Calls.gq (z.out _))|(go_at_call_of 129 (Value.slice t.ws.A t.ws.l.length t.ws.c);exact Calls.gq (bl.out _))|(go_at_call_of 129 (Value.slice t.rs.A t.rs.l.length t.rs.c);exact Calls.gq (D.out _))))))
 exact I8):G:=h
theorem Jy(h:G:=by
 have ar:=J.hx aO p_;exact lA t.g8 (.bool false) aQ underlying53 ⟨t,rfl,X.g_ ar,rfl,ar⟩):G:=h
def mS(P:jg)(b:Bool)(w:World)(e:Ending)(w':World):Prop:=∃t:Tk,e=.returned (.tuple #[.agg t.g8,.bool b])/\kY w' t/\t.p=P/\Gr [] w w'
theorem wO(l:List Dl)(id f:Int): -1<=oT l id f/\oT l id f<l.length:=by
 have:=m6 (λc:Dl=>c.id==id&&c.f==f) l 0
 unfold oT
 simpa using this
theorem xo(l:List Ob)(id:Int): -1<=js l id/\js l id<l.length:=by
 have:=m6 (λo:Ob=>o.id==id) l 0
 unfold js
 simpa using this
theorem Bh{W:World}{p:Addr}{v:Value}(h:W.cell? p=some v):∀y:GW W,y.1.cell? p=some v:=λy=>y.2.f_ h s_
theorem sM(x:Int)(h: -1<=x):x= -1∨∃n:Nat,x=n:=by
 by_cases h0:x= -1
 .exact .inl h0
 .exact .inr ⟨x.toNat,by omega⟩
def oz(t:jg)(d:Dl):Bool:=(take t d).isNone
theorem Sl.CC{w:World}{ty:TypeId}{l:List Dl}(H:Bk w g ty cur)(h:∀(i:Nat) (u:Value),(l.flatMap Dl.E)[i]?=some u->cur[i]?=some u)(hk:k<l.length):
 w.cell? (c_ g (k*5+3))=some (.bool l[k].v.r)/\w.cell? (c_ g (k*5+4))=some (i_ l[k].v.n):=by
 have g:=λj hj=>iW Dl.E 5 (λ_=>rfl) l k j hk hj
 exact⟨(H.f_ _).trans (h (k*5+3) _ (g 3 o_)),(H.f_ _).trans (h (k*5+4) _ (g 4 o_))⟩
theorem za{α:Type}(E:α->List Value)(hE:∀a,(E a).length=5){w:World}{e:TypeId}{l:List α}(hk:k<l.length)(r:α)(x y:Value)(hr:E r=(E l[k]).take 3++[x,y])(hb:Bk w g e cur)(h:∀(i:Nat) (u:Value),(l.flatMap E)[i]?=some u->cur[i]?=some u):
 Sl ((w.setCell (c_ g (k*5+3)) x).setCell (c_ g (k*5+4)) y) e 5 (j_ g) l.length ((l.set k r).flatMap E):=by
 have bB:=(hb.hJ (k*5+3) x).hJ (k*5+4) y;have iv:=j3 E 5 hE l
 have d:k*5+4<cur.size:=by
  have hl:k*5+4<(l.flatMap E).length:=by omega
  have:=h _ _ (K_ hl)
  rcases D5 (k*5+4) cur.size with h|h
  .exact h
  .exact Ku
 refine⟨by rw[j3 E 5 hE];simp,λ_=>⟨g,0,_,_,rfl,bB,λj u hu=>?_⟩⟩;rw[U_];refine qq E 5 hE o_ l k hk r cur _ h (λj u hu=>?_) (λi hi=>?_) j u hu
 .have h3:((E l[k]).take 3).length=3:=by rw[Ey,hE];rfl
  rw[hr]at hu
  by_cases hj:j<3
  .rw[Fi o_,EL,Q_ hj]at hu;rw[I_,P_ o_,I_,P_ o_];exact h _ _ (by rw[iW E 5 hE l k j hk o_];exact hu)
  .rw[E3 o_,h3]at hu
   have b:j=3∨j=4:=by
    rcases D5 (j-3) 2 with h|h
    .omega
    .rw[Eh (by simpa using h)]at hu
     cases hu
   rcases b with rfl|rfl
   .simp at hu;subst hu;rw[I_,P_ o_,I_,Q_ rfl,Q_ o_]
   .simp at hu;subst hu;rw[I_,Q_ rfl,Q_ p_]
 .rw[I_,P_ o_,I_,P_ o_]
theorem iY{a b:Bool}(h:a=b):Value.bool a=Value.bool b:=by rw[h]
theorem tM(X:kY w t)(Y:t.ds.l.length<=1000000000)(ay:t.nw.l.length<=1000000000)(H:t.ws.l.length<=1000000000)(aI:t.rs.l.length<=1000000000)(n:R=mS t.p false w/\take t.p d=none∨∃P,R=mS P true w/\take t.p d=some P):
 Calls prog 126 #[.agg t.g8,.agg #[i_ d.id,i_ d.f,i_ d.op,.bool d.v.r,i_ d.v.n]] w R:=by
 obtain⟨V,hD,hR,J⟩:=vQ w 53 t.g8 124 #[i_ d.id,i_ d.f,i_ d.op,.bool d.v.r,i_ d.v.n] 53 lp
 go_enter func126,ntmps126
 go_upto_region 1 with fail
 obtain⟨W,I⟩:=nm_ (((w.alloc (.cells t.g8 53)).alloc (.cells #[i_ d.id,i_ d.f,i_ d.op,.bool d.v.r,i_ d.v.n] 124)).alloc (.cells lp 53));rw[<-I]at V hD hR J |-;clear I;have B:=hD.f_ 0;have aB:=hD.f_ 1;have bm:=hD.f_ 2;have bB:=hD.f_ 3;have bn:=hD.f_ 4
 go_upto_region 2 with(first|(refine kJ V underlying53 ?_)|(go_at_call 130;((with_reducible refine(lL t d.id d.f _ (X.g_ J) Y).mono ?_);rintro e ai⟨rfl,S⟩;replace V:=V.g_ S;replace hD:=hD.g_ S;replace hR:=hR.g_ S;replace J:=J.trans S)))
 clear B aB bm bB bn S;have ag:=h_ (show oT t.ds.l d.id d.f=oT t.p.ds d.id d.f from rfl);have ax:=wO t.ds.l d.id d.f;generalize bG:oT t.ds.l d.id d.f=g at*;have aD:=h_ bG;clear bG;have bT:=h_ n;clear n
 go_cut [58] (λy a7=>y=.bool (oz t.p d)/\Gr [] ai a7)
 case first=>
  have an:∀y:GW ai,y.1.cell? (c_ w.heap.size 2)=some (.bool t.ia):=λy=>(V.yM 2 y).trans rfl
  have cl:∀y:GW ai,y.1.cell? (c_ w.heap.size 37)=some (.slice t.rs.A t.rs.l.length t.rs.c):=λy=>(V.yM 37 y).trans rfl
  have b8:∀y:GW ai,y.1.cell? (c_ w.heap.size 38)=some (.slice t.ws.A t.ws.l.length t.ws.c):=λy=>(V.yM 38 y).trans rfl
  have ca:∀y:GW ai,y.1.cell? (c_ w.heap.size 40)=some (.slice t.ds.A t.ds.l.length t.ds.c):=λy=>(V.yM 40 y).trans rfl
  have e0:=hD.yM 0;have aP:=hD.yM 1;have aL:=hD.yM 2
  have au:(prog.info? 53).map (·.size)=some t.g8.size:=by kernel_rfl
  have z:Hid (∀y:GW ai,Calls prog 128 #[.agg t.g8,i_ d.id] y.1 (λe w''=>e=.returned (i_ (js (hN t.nw.l) d.id))/\Gr [] y.1 w'')):=h_ λy=>oF t d.id y.1 (X.g_ (J.trans y.2)) ay
  have bl:Hid (∀y:GW ai,Calls prog 129 #[.slice t.ws.A t.ws.l.length t.ws.c,i_ d.id,i_ d.f] y.1 (λe w''=>e=.returned (i_ (cat t.ws.l d.id d.f))/\Gr [] y.1 w'')):=h_ λy=>ly t.ws.A t.ws.c t.ws.l d.id d.f y.1 (X.g_ (J.trans y.2)).ws H
  have D:Hid (∀y:GW ai,Calls prog 129 #[.slice t.rs.A t.rs.l.length t.rs.c,i_ d.id,i_ d.f] y.1 (λe w''=>e=.returned (i_ (cat t.rs.l d.id d.f))/\Gr [] y.1 w'')):=h_ λy=>ly t.rs.A t.rs.c t.rs.l d.id d.f y.1 (X.g_ (J.trans y.2)).rs aI
  have bF:=(xo (hN t.nw.l) d.id).1;have dY:=(rf t.ws.l d.id d.f).1;have bD:=(rf t.rs.l d.id d.f).1;have bL:=h_ (show take t.p d=take t.p d from rfl)
  have av:Hid (take t.p d=if t.ia=true∨0<=js (hN t.nw.l) d.id∨0<=cat t.ws.l d.id d.f∨0<=cat t.rs.l d.id d.f then none
   else if g<0 then some {t.p with ds:=t.ds.l.take (rc t.ds.l d.id d.f)++([d]++t.ds.l.drop (rc t.ds.l d.id d.f))}
   else if(t.ds.l.getD g.toNat default).op≠d.op then none
   else some {t.p with ds:=t.ds.l.modify g.toNat (λx=>{x with v:=(iy d.op x.v d.v).1})}):=h_ (by rw[<-aD.out];rfl)
  have cg:g<0∨∃(k:Nat) (hk:k<t.ds.l.length),g=k/\∃b off,t.ds.A=some (c_ b off)/\ai.cell? (c_ b (off+k*5+2))=some (i_ t.ds.l[k].op):=by
   by_cases h:g<0
   .exact .inl h
   .have hk:g.toNat<t.ds.l.length:=by omega
    obtain⟨b,off,U,_,_,h2,_⟩:=(X.g_ J).ds.at_ hk;exact .inr ⟨g.toNat,hk,(EX o_).symm,b,off,U,h2⟩
  generalize js (hN t.nw.l) d.id=ad at*;generalize cat t.ws.l d.id d.f=b4 at*;generalize cat t.rs.l d.id d.f=xr at*;generalize t.g8=cs at*;have bR:=h_ ax;clear bL ax ag
  cases hp:t.ia with
  |true=>
   have aY:=h_ (show oz t.p d=true by unfold oz;rw[av.out,Q_ (.inl hp)];rfl);rw[hp]at an;exact GG
  |false=>
   rw[hp]at an
   rcases sM ad bF with rfl|⟨no,rfl⟩
   .rcases sM b4 dY with rfl|⟨nw,rfl⟩
    .rcases sM xr bD with rfl|⟨nr,rfl⟩
     .rcases cg with aE|⟨k,hk,rfl,b,off,U,h2⟩
      .obtain rfl:g= -1:=by have:=bR.out;omega
       have aY:=h_ (show oz t.p d=false by unfold oz;rw[av.out,P_ (by rw[hp];simp),Q_ o_];rfl);clear hp aE;exact GH
      .have bj:(k:Int)<(t.ds.l.length:Int):=by omega
       rw[U]at ca;have h3:=Bh h2
       by_cases o:t.ds.l[k].op=d.op
       .have aY:=h_ (show oz t.p d=false by unfold oz;rw[av.out,P_ (by rw[hp];simp),P_ o_,P_ (by simp[List.getD,K_ hk,o])];rfl)
        have q:(t.ds.l[k].op !=d.op)=false:=by simpa using o
        exact GF
       .have aY:=h_ (show oz t.p d=true by unfold oz;rw[av.out,P_ (by rw[hp];simp),P_ o_,Q_ (by simp[List.getD,K_ hk,o])];rfl)
        have q:(t.ds.l[k].op !=d.op)=true:=by simpa using o
        exact GF
     .have aY:=h_ (show oz t.p d=true by unfold oz;rw[av.out,Q_ (.inr (.inr (.inr o_)))];rfl);exact GG
    .have aY:=h_ (show oz t.p d=true by unfold oz;rw[av.out,Q_ (.inr (.inr (.inl o_)))];rfl);exact GG
   .have aY:=h_ (show oz t.p d=true by unfold oz;rw[av.out,Q_ (.inr (.inl o_))];rfl);exact GG
 case rest=>
  obtain⟨rfl,F⟩:=hcut;replace V:=V.g_ F;replace hD:=hD.g_ F;replace hR:=hR.g_ F;replace J:=J.trans F
  rcases bT.out with⟨rfl,n⟩|⟨P,rfl,j⟩
  .rw[show oz t.p d=true by unfold oz;rw[n];rfl];clear n bT ag aD ax F
   go_wp2_with (first|(refine kJ V underlying53 ?_)|(refine kG (t.g8) hR (Tk.one _) ?_;intro aG aQ aO))
   exact Jy
  .rw[show oz t.p d=false by unfold oz;rw[j];rfl]
   have hP:(g<0/\P={t.p with ds:=t.ds.l.take (rc t.ds.l d.id d.f)++([d]++t.ds.l.drop (rc t.ds.l d.id d.f))})∨(0<=g/\P={t.p with ds:=t.ds.l.modify g.toNat (λx=>{x with v:=(iy d.op x.v d.v).1})}):=by
    unfold take at j;have e:oT t.p.ds d.id d.f=g:=aD.out;rw[e]at j;split at j
    .cases j
    .split at j
     .exact .inl ⟨by assumption,by injection j with h;exact h.symm⟩
     .split at j
      .cases j
      .exact .inr ⟨by omega,by injection j with h;exact h.symm⟩
   clear j bT ag;have cC:=X.g_ J;have bN:Sl wc 124 5 t.ds.A t.ds.l.length (t.ds.l.flatMap Dl.E):=cC.ds;have b6:w.heap.size+1+1+1<=wc.heap.size:=hR.lt;obtain⟨bz,bw,br,bi,bf⟩:=info_parts infoDl;have bh:wc.cell? (c_ w.heap.size 40)=some (.slice t.ds.A t.ds.l.length t.ds.c):=(V.f_ 40).trans rfl
   rcases hP with⟨bH,hP⟩|⟨L,hP⟩
   .have aT:=h_ hP
    obtain rfl:g= -1:=by omega
    have bQ:=h_ (show rc t.ds.l d.id d.f=0+lX (nO d.id d.f) (t.ds.l.drop 0) by simp[rc]);have bK:=h_ (show ∀k,k=rc t.ds.l d.id d.f->(t.ds.l.take k++([d]++t.ds.l.drop k)).length=k+(1+(t.ds.l.length-k)) from λk hk=>by have:=pi (nO d.id d.f) t.ds.l;unfold rc at hk;simp;omega);clear hP bH F aD
    go_upto_block 0 with(at_builtin;refine iD _ rfl (.const (n_)) (.tmp 61) 51 rfl (w.heap.size+1+1+1) 124 bz _ 5 40 underlying51 bw br bi bf rfl d_ d_ none 0 0 [] rfl (iJ _ _ _ _) t.ds.A t.ds.l.length t.ds.c _ rfl bN (s2 _) o_ b6 ?_;intro aR c4 T cv Q;simp only[U_,Ea]at cv;replace J:=Q.gr [] w o_ J;replace V:=Q.bk V d_;replace hD:=Q.s9 hD o_;replace hR:=Q.bk hR d_)
    have aq:Ds T aR t.ds.l:=Sl.iG cv;have bW:=iQ cv;clear cv Q bh bN
    go_cut [8] (λy a7=>∃k:Nat,y=i_ k/\k<=t.ds.l.length/\k=rc t.ds.l d.id d.f/\Gr [] T a7)
    case first=>
     go_wp2_with fail
     go_loopw [8] (λy w'=>∃k:Nat,y=i_ k/\k<=t.ds.l.length/\rc t.ds.l d.id d.f=k+lX (nO d.id d.f) (t.ds.l.drop k)/\Gr [] T w') (λy _=>t.ds.l.length-(intOf y).toNat)
     case atStart=>exact⟨0,rfl,N_ _,bQ.out,D_ _ _⟩
     case round=>
      obtain⟨k,rfl,hk,cO,F⟩:=hrel;have O:=h_ cO;clear cO;have bV:=hD.g_ F;have B:=bV.f_ 0;have aB:=bV.f_ 1;clear bV
      by_cases aj:k<t.ds.l.length
      .have aL:(k:Int)<(t.ds.l.length:Int):=by omega
       obtain⟨b,off,b9,Z,ah,ce,cf,co⟩:=(aq.g_ F).at_ aj;subst b9
       by_cases t0:t.ds.l[k].id<d.id
       .have ap:=h_ (oh (p:=(nO d.id d.f)) aj (by simp[nO,t0]))
        have bM:decide (t.ds.l[k].id<d.id)=true:=by simpa using t0
        exact Ic
       .have bM:decide (t.ds.l[k].id<d.id)=false:=by simpa using t0
        by_cases t1:t.ds.l[k].id=d.id
        .have bp:(t.ds.l[k].id==d.id)=true:=by simpa using t1
         by_cases ak:t.ds.l[k].f<d.f
         .have ap:=h_ (oh (p:=(nO d.id d.f)) aj (by simp[nO,t1,ak]))
          have bI:decide (t.ds.l[k].f<d.f)=true:=by simpa using ak
          exact H3
         .have ap:=h_ (nk (p:=(nO d.id d.f)) aj (by simp[nO,t1,ak]))
          have bI:decide (t.ds.l[k].f<d.f)=false:=by simpa using ak
          exact IU
        .have ap:=h_ (nk (p:=(nO d.id d.f)) aj (by simp[nO,t0,t1]))
         have bp:(t.ds.l[k].id==d.id)=false:=by simpa using t1
         exact IX
      .have ap:=h_ (ra (p:=(nO d.id d.f)) (l:=t.ds.l) (k:=k) o_)
       have aL:¬(k:Int)<(t.ds.l.length:Int):=by omega
       exact Jd
    case rest=>
     obtain⟨k,rfl,hk,aw,F⟩:=hcut;have aU:=h_ aw;clear aw;replace V:=(V.g_ F).drew;replace hD:=hD.g_ F;replace hR:=(hR.g_ F).drew;have z0:=hD.f_ 0;have aS:=hD.f_ 1;have aX:=hD.f_ 2;have z3:=hD.f_ 3;have z4:=hD.f_ 4;replace hD:=hD.drew
     have e0:(0:Int)<=(k:Int):=by omega
     have aP:(k:Int)<=(t.ds.l.length:Int):=by omega
     have aL:(k:Int)<=(c4:Int):=by omega
     have aM:=aq.g_ F;have aN:=(Sl.w9 p8 aM hk).g_ ((D_ [] wc).alloc (.cells #[i_ d.id,i_ d.f,i_ d.op,.bool d.v.r,i_ d.v.n] 124)).drew;have ao:=(Sl.xu p8 aM hk c4 bW).g_ ((D_ [] wc).alloc (.cells #[i_ d.id,i_ d.f,i_ d.op,.bool d.v.r,i_ d.v.n] 124)).drew;have be:=h_ (show ∀u∈(#[i_ d.id,i_ d.f,i_ d.op,.bool d.v.r,i_ d.v.n]:Array Value).toList++(t.ds.l.drop k).flatMap Dl.E,u.oneCell'=true from λu hu=>s2 (d::t.ds.l.drop k) u hu);have bv:=kC (s:=5) (L_ wc.drew 124 #[i_ d.id,i_ d.f,i_ d.op,.bool d.v.r,i_ d.v.n]) rfl;have bX:=J.trans F;clear aq F aM J
     go_wp2_with fail
     go_region_held3 (λw'=>w'.cell? (c_ (w.heap.size+1) 0)=some (i_ d.id)/\w'.cell? (c_ (w.heap.size+1) 1)=some (i_ d.f)/\w'.cell? (c_ (w.heap.size+1) 2)=some (i_ d.op)/\w'.cell? (c_ (w.heap.size+1) 3)=some (.bool d.v.r)/\w'.cell? (c_ (w.heap.size+1) 4)=some (i_ d.v.n)) (first|exact dH|exact dI|exact bg|go_keep)
      (first
        |(refine l8 _ r_ (.tmp 126) (.tmp 129) 51 r_ 124 bz _ 5 40 underlying51 bw br bi bf rfl d_ d_ _ 1 _ r_ bv _ (t.ds.l.length-k) _ _ r_ ao (s2 _) o_ ?_;intro a6 c5 ae G bu am;have b0:=(hD.alloc (.cells #[i_ d.id,i_ d.f,i_ d.op,.bool d.v.r,i_ d.v.n] 124)).g_ am;have dH:ae.cell? (c_ (w.heap.size+1) 0)=some (i_ d.id)/\ae.cell? (c_ (w.heap.size+1) 1)=some (i_ d.f)/\ae.cell? (c_ (w.heap.size+1) 2)=some (i_ d.op)/\ae.cell? (c_ (w.heap.size+1) 3)=some (.bool d.v.r)/\ae.cell? (c_ (w.heap.size+1) 4)=some (i_ d.v.n):=b0.c5)
        |(refine l8 _ r_ (.tmp 124) (.tmp 130) 51 r_ 124 bz _ 5 40 underlying51 bw br bi bf rfl d_ d_ _ k _ r_ (aN.g_ am) _ (1+(t.ds.l.length-k)) _ _ r_ bu be.out o_ ?_;intro aJ aK aF bC bZ aC;have K:=b0.g_ aC;have dI:aF.cell? (c_ (w.heap.size+1) 0)=some (i_ d.id)/\aF.cell? (c_ (w.heap.size+1) 1)=some (i_ d.f)/\aF.cell? (c_ (w.heap.size+1) 2)=some (i_ d.op)/\aF.cell? (c_ (w.heap.size+1) 3)=some (.bool d.v.r)/\aF.cell? (c_ (w.heap.size+1) 4)=some (i_ d.v.n):=K.c5;have aV:=K.h7 (p:=(c_ w.heap.size 40)) sd_ (.slice aJ (k+(1+(t.ds.l.length-k))) aK);have bg:(aF.setCell (c_ w.heap.size 40) (.slice aJ (k+(1+(t.ds.l.length-k))) aK)).cell? (c_ (w.heap.size+1) 0)=some (i_ d.id)/\(aF.setCell (c_ w.heap.size 40) (.slice aJ (k+(1+(t.ds.l.length-k))) aK)).cell? (c_ (w.heap.size+1) 1)=some (i_ d.f)/\(aF.setCell (c_ w.heap.size 40) (.slice aJ (k+(1+(t.ds.l.length-k))) aK)).cell? (c_ (w.heap.size+1) 2)=some (i_ d.op)/\(aF.setCell (c_ w.heap.size 40) (.slice aJ (k+(1+(t.ds.l.length-k))) aK)).cell? (c_ (w.heap.size+1) 3)=some (.bool d.v.r)/\(aF.setCell (c_ w.heap.size 40) (.slice aJ (k+(1+(t.ds.l.length-k))) aK)).cell? (c_ (w.heap.size+1) 4)=some (i_ d.v.n):=aV.c5;have bE:=((V.alloc (.cells #[i_ d.id,i_ d.f,i_ d.op,.bool d.v.r,i_ d.v.n] 124)).g_ am).g_ aC;have M:=((hR.alloc (.cells #[i_ d.id,i_ d.f,i_ d.op,.bool d.v.r,i_ d.v.n] 124)).g_ am).g_ aC;have bh:aF.cell? (c_ w.heap.size 40)=some (.slice t.ds.A t.ds.l.length t.ds.c):=(bE.f_ 40).trans rfl;have f40:=bE.hm 40;have aZ:=bE.hJ 40 (.slice aJ (k+(1+(t.ds.l.length-k))) aK);have aQ:=M.h7 (p:=(c_ w.heap.size 40)) sd_ (.slice aJ (k+(1+(t.ds.l.length-k))) aK);have iv:=bK.out k aU.out;have N:({t with ds:=⟨aJ,aK,t.ds.l.take k++([d]++t.ds.l.drop k)⟩}:Tk).g8=t.g8.setIfInBounds 40 (.slice aJ (k+(1+(t.ds.l.length-k))) aK):=(by rw[<-iv];rfl);have a8:=h_ N;clear N iv;rw[<-a8.out]at aZ))
     go_wp2_with (first|(refine kJ aZ underlying53 ?_)|(refine kG (({t with ds:=⟨aJ,aK,t.ds.l.take k++([d]++t.ds.l.drop k)⟩}:Tk).g8) aQ (Tk.one _) ?_;intro bJ a2 aW))
     all_goals
      refine lA ({t with ds:=⟨aJ,aK,t.ds.l.take k++([d]++t.ds.l.drop k)⟩}:Tk).g8 (.bool true) a2 underlying53 ?_;unfold mS;rw[aT.out,<-aU.out];have iv:=bK.out k aU.out;have ar:=(((((bX.alloc _).drew).trans am).trans aC).setCell (p:=(c_ w.heap.size 40)) (.inr s_) (.slice aJ (k+(1+(t.ds.l.length-k))) aK)).hx aW p_;have a:=X.g_ ar;have bY:=(bZ.ig bE d_ ((D_ [w.heap.size] aF).setCell (p:=(c_ w.heap.size 40)) (.inl s_) (.slice aJ (k+(1+(t.ds.l.length-k))) aK))).ig aQ d_ aW;refine⟨({t with ds:=⟨aJ,aK,t.ds.l.take k++([d]++t.ds.l.drop k)⟩}:Tk),rfl,⟨a.gs,a.rs,a.ws,a.nw,a.nr,?_,a.hU,a.xq,a.la,a.uQ,a.sO,?_,a.px⟩,rfl,ar⟩
      .show Sl bJ 124 5 aJ (t.ds.l.take k++([d]++t.ds.l.drop k)).length _
       rw[iv,Ej,Ej,FO];exact bY
      .show(t.ds.l.take k++([d]++t.ds.l.drop k)).length<=aK
       rw[iv];exact bC
   .obtain⟨k,rfl⟩:∃k:Nat,g=k:=⟨g.toNat,(EX L).symm⟩
    have hk:k<t.ds.l.length:=by omega
    have aT:=h_ hP;clear hP L F aD
    go_upto_region 6 with(at_builtin;refine iD _ rfl (.const (n_)) (.tmp 61) 51 rfl (w.heap.size+1+1+1) 124 bz _ 5 40 underlying51 bw br bi bf rfl d_ d_ none 0 0 [] rfl (iJ _ _ _ _) t.ds.A t.ds.l.length t.ds.c _ rfl bN (s2 _) o_ b6 ?_;intro aR c4 T cv Q;simp only[U_,Ea]at cv;replace J:=Q.gr [] w o_ J;replace V:=Q.bk V d_;replace hD:=Q.s9 hD o_;replace hR:=Q.bk hR d_)
    obtain⟨E,cn,bO,cp,cZ,b5⟩:=ky cv o_;subst bO;have hv:=Sl.AS p8 (Sl.iG cv) hk;have v3:T.cell? (c_ E (k*5+3))=some _:=hv 3 _ rfl;have v4:T.cell? (c_ E (k*5+4))=some _:=hv 4 _ rfl;have bW:=iQ cv;have m:=h_ b5
    have bS:=h_ (show t.ds.l.modify k (λx=>{x with v:=(iy d.op x.v d.v).1})=t.ds.l.set k {t.ds.l[k]with v:=(iy d.op t.ds.l[k].v d.v).1} by
     apply FY;intro i;rw[F9,List.getElem?_set]
     by_cases e:k=i
     .subst e;simp[hk]
     .simp[e])
    have ck:=(Bk.lF cZ V d_).symm;have ci:=(Bk.lF cZ hR d_).symm;clear hv b5 cv Q bh bN;obtain⟨aH,bt⟩:=mn_ (t.ds.l[k]);rw[bt]at v3 v4 bS;have b7:=h_ bt;clear bt;obtain⟨r,hr⟩:=mn_ (iy d.op aH.v d.v);rw[hr]at bS;have D:=h_ hr;clear hr;have aX:=hD.f_ 2;have z3:=hD.f_ 3;have z4:=hD.f_ 4;have bA:=V.drew;have bU:=hR.drew;have b3:=cZ.drew;have bo:=J.drew
    go_cut [] (λa7=>Bk a7 w.heap.size 53 t.g8/\Bk a7 (w.heap.size+1+1) 53 lp/\Sl a7 124 5 (j_ E) t.ds.l.length ((t.ds.l.set k {aH with v:=r.1}).flatMap Dl.E)/\Gr [] w a7)
    case first=>
     go_region_with ((go_at_call 164;((with_reducible refine(mm d.op aH.v d.v _).mono ?_);rintro e ae⟨he,am⟩;unfold qa at he;subst he;rw[D.out];have cj:=b3.g_ am;have bq:=Sl.CC cj m.out hk;have v5:=bq.1;have cq:=bq.2;clear bq;have f5:=cj.hm (k*5+3);have f6:=cj.hm (k*5+4))))
     all_goals
      go_wp2;go_meet;exact⟨(bA.g_ am).tD ck _ _ _ _,(bU.g_ am).tD ci _ _ _ _,za Dl.E p8 hk {aH with v:=r.1} _ _ (by rw[b7.out];rfl) cj m.out,(bo.trans am).two (.inr o_) _ _ _ _⟩
    case rest=>
     clear V hR hD cZ bA bU b3 bo aX z3 z4 J;obtain⟨V,hR,C,J⟩:=hcut;have bh:wc.cell? (c_ w.heap.size 40)=some (.slice t.ds.A t.ds.l.length t.ds.c):=(V.f_ 40).trans rfl;have f40:=V.hm 40;have cu:Bk (wc.setCell (c_ w.heap.size 40) (.slice (j_ E) t.ds.l.length c4)) w.heap.size 53 ({t with ds:=⟨some (c_ E 0),c4,t.ds.l⟩}:Tk).g8:=V.hJ 40 _;have az:=hR.h7 (p:=(c_ w.heap.size 40)) sd_ (.slice (j_ E) t.ds.l.length c4)
     go_wp2_with (first|(refine kJ cu underlying53 ?_)|(refine kG (({t with ds:=⟨some (c_ E 0),c4,t.ds.l⟩}:Tk).g8) az (Tk.one _) ?_;intro aG aQ aO))
     have N:({t with ds:=⟨some (c_ E 0),c4,t.ds.l.set k {aH with v:=r.1}⟩}:Tk).g8=({t with ds:=⟨some (c_ E 0),c4,t.ds.l⟩}:Tk).g8:=by simp[Tk.g8]
     rw[<-N]at aQ;refine lA ({t with ds:=⟨some (c_ E 0),c4,t.ds.l.set k {aH with v:=r.1}⟩}:Tk).g8 (.bool true) aQ underlying53 ?_;unfold mS;rw[aT.out];have bP:=J.setCell (p:=(c_ w.heap.size 40)) (.inr s_) (.slice (j_ E) t.ds.l.length c4);have ar:=bP.hx aO p_;have a:=X.g_ ar;have bY:=(C.ig V d_ ((D_ [w.heap.size] wc).setCell (p:=(c_ w.heap.size 40)) (.inl s_) (.slice (j_ E) t.ds.l.length c4))).ig az d_ aO;refine⟨({t with ds:=⟨some (c_ E 0),c4,t.ds.l.set k {aH with v:=r.1}⟩}:Tk),rfl,⟨a.gs,a.rs,a.ws,a.nw,a.nr,?_,a.hU,a.xq,a.la,a.uQ,a.sO,?_,a.px⟩,?_,ar⟩
     .show Sl aG 124 5 (j_ E) (t.ds.l.set k _).length _
      rw[Eb];exact bY
     .show(t.ds.l.set k _).length<=c4
      rw[Eb];exact bW
     .rw[ED,bS.out]
      rfl
theorem AG(X:kY w t)(Y:t.ds.l.length<=1000000000)(ay:t.nw.l.length<=1000000000)(H:t.ws.l.length<=1000000000)(aI:t.rs.l.length<=1000000000)(h:take t.p d=none):
 Calls prog 126 #[.agg t.g8,.agg #[i_ d.id,i_ d.f,i_ d.op,.bool d.v.r,i_ d.v.n]] w (mS t.p false w):=tM t d w X Y ay H aI (.inl ⟨rfl,h⟩)
theorem y5(P:jg)(w:World)(X:kY w t)(Y:t.ds.l.length<=1000000000)(ay:t.nw.l.length<=1000000000)(H:t.ws.l.length<=1000000000)(aI:t.rs.l.length<=1000000000)(h:take t.p d=some P):
 Calls prog 126 #[.agg t.g8,.agg #[i_ d.id,i_ d.f,i_ d.op,.bool d.v.r,i_ d.v.n]] w (mS P true w):=tM t d w X Y ay H aI (.inr ⟨P,rfl,h⟩)
theorem rr(A:Option Addr)(c:Nat)(l:List Rw)(id f:Int)(w:World)(X:kY w t)(h:l5 w A c l)(hs:t.p.sm 100000000)(hl:l.length<=100000000)(n:R=mS t.p false w/\jV t.p (hN l) id f=none∨∃P,R=mS P true w/\jV t.p (hN l) id f=some P):
 Calls prog 131 #[.agg t.g8,.agg #[.slice A l.length c],i_ id,i_ f] w R:=by
 have bS:t.gs.l.length<=1000000000:=F_ hs.gs d_;have aI:t.rs.l.length<=1000000000:=F_ hs.rs d_;have H:t.ws.l.length<=1000000000:=F_ hs.ws d_;have Y:t.ds.l.length<=1000000000:=F_ hs.ds d_
 have ay:t.nw.l.length<=100000000:=by have:=hs.nw;rwa [show t.p.nw=hN t.nw.l from rfl,hW]at this
 have hn1:l.length<=1000000000:=by omega
 have ax:=wO t.ds.l id f;obtain⟨g,bG⟩:=mn_ (oT t.ds.l id f);rw[bG]at ax
 have bZ:jV t.p (hN l) id f=if g<0 then some t.p else match ji (before t.p (hN l)) id f with
  |none=>none
  |some b=>if b.r=true then none else some (ki {t.p with rs:=kk t.rs.l ⟨id,f,b⟩,ds:=t.ds.l.eraseIdx g.toNat} ⟨id,f,(ji (jk t.p (hN l)) id f).getD default⟩):=by rw[<-bG];rfl
 rw[bZ]at n;have aD:=h_ bG;clear bG bZ;obtain⟨V,z,hR,J⟩:=vQ w 53 t.g8 35 #[.slice A l.length c] 53 lp
 go_enter func131,ntmps131
 go_upto_region 1 with fail
 obtain⟨W,I⟩:=nm_ (((w.alloc (.cells t.g8 53)).alloc (.cells #[.slice A l.length c] 35)).alloc (.cells lp 53));rw[<-I]at V z hR J |-;clear I;have aU:=z.f_ 0
 rcases sM g ax.1 with rfl|⟨k,rfl⟩
 .rw[Q_ o_]at n
  rcases n with⟨rfl,n⟩|⟨P,rfl,j⟩
  .cases n
  .injection j with j;subst j
   go_wp2_with (first|(refine kJ V underlying53 ?_)|(go_at_call 130;((with_reducible refine(lL t id f _ (X.g_ J) Y).mono ?_);rintro e ai⟨rfl,S⟩;rw[aD.out];replace V:=V.g_ S;replace z:=z.g_ S;replace hR:=hR.g_ S;replace J:=J.trans S;replace aU:=z.f_ 0))|(refine kG (t.g8) hR (Tk.one _) ?_;intro aG aQ aO))
   have ar:=J.hx aO p_;exact lA t.g8 (.bool true) aQ underlying53 ⟨t,rfl,X.g_ ar,rfl,ar⟩
 .rw[P_ o_,ED]at n
  have hk:k<t.ds.l.length:=by omega
  cases y:ji (before t.p (hN l)) id f with
  |none=>
   rw[y]at n;simp only at n;have r:=h_ y;clear y
   rcases n with⟨rfl,n⟩|⟨P,rfl,j⟩
   .clear n
    go_wp2_with (first|(refine kJ V underlying53 ?_)|(go_at_call 130;((with_reducible refine(lL t id f _ (X.g_ J) Y).mono ?_);rintro e ai⟨rfl,S⟩;rw[aD.out];replace V:=V.g_ S;replace z:=z.g_ S;replace hR:=hR.g_ S;replace J:=J.trans S;replace aU:=z.f_ 0))|(go_at_call 122;((with_reducible refine(oM t A c l _ (X.g_ J) (h.g_ J) hn1 bS aI).mono ?_);unfold l0;rintro e T⟨aR,c4,s,rfl,aw,o,af⟩;have B:=h_ o;have K:=h_ (show s.length=l.length from(by have:=hW s;rw[o,mi,hW]at this;exact this.symm));clear o;replace V:=V.g_ af;replace z:=z.g_ af;replace hR:=hR.g_ af;replace J:=J.trans af;replace aU:=z.f_ 0))|(go_at_call 148;((with_reducible refine(km aR c4 s id f _ aw.os aw.la (by have:=K.out;omega)).mono ?_);rintro e ae⟨rfl,am⟩;rw[B.out,r.out];simp only[FQ,FV];replace V:=(V.g_ am).alloc (.cells (V_ (default:Vl)) 38);replace z:=(z.g_ am).alloc (.cells (V_ (default:Vl)) 38);replace hR:=(hR.g_ am).alloc (.cells (V_ (default:Vl)) 38);replace J:=(J.trans am).alloc (.cells (V_ (default:Vl)) 38);have aq:=L_ ae 38 (V_ (default:Vl));have Z:=aq.f_ 0;have ah:=aq.f_ 1;replace aU:=z.f_ 0))|(refine kG (t.g8) hR (Tk.one _) ?_;intro aG aQ aO))
    exact Jy
   .cases j
  |some b=>
   rw[y]at n;simp only at n;have r:=h_ y;clear y
   cases d:b.r with
   |true=>
    rw[Q_ d]at n
    rcases n with⟨rfl,n⟩|⟨P,rfl,j⟩
    .clear n;have q:=h_ d;obtain⟨au,a⟩:=b;simp only at d;subst d;clear q
     go_wp2_with (first|(refine kJ V underlying53 ?_)|(go_at_call 130;((with_reducible refine(lL t id f _ (X.g_ J) Y).mono ?_);rintro e ai⟨rfl,S⟩;rw[aD.out];replace V:=V.g_ S;replace z:=z.g_ S;replace hR:=hR.g_ S;replace J:=J.trans S;replace aU:=z.f_ 0))|(go_at_call 122;((with_reducible refine(oM t A c l _ (X.g_ J) (h.g_ J) hn1 bS aI).mono ?_);unfold l0;rintro e T⟨aR,c4,s,rfl,aw,o,af⟩;have B:=h_ o;have K:=h_ (show s.length=l.length from(by have:=hW s;rw[o,mi,hW]at this;exact this.symm));clear o;replace V:=V.g_ af;replace z:=z.g_ af;replace hR:=hR.g_ af;replace J:=J.trans af;replace aU:=z.f_ 0))|(go_at_call 148;((with_reducible refine(km aR c4 s id f _ aw.os aw.la (by have:=K.out;omega)).mono ?_);rintro e ae⟨rfl,am⟩;rw[B.out,r.out];simp only[EW,Fw];replace V:=(V.g_ am).alloc (.cells #[.bool true,i_ a] 38);replace z:=(z.g_ am).alloc (.cells #[.bool true,i_ a] 38);replace hR:=(hR.g_ am).alloc (.cells #[.bool true,i_ a] 38);replace J:=(J.trans am).alloc (.cells #[.bool true,i_ a] 38);have aq:=L_ ae 38 #[.bool true,i_ a];have Z:=aq.f_ 0;have ah:=aq.f_ 1;replace aU:=z.f_ 0))|(refine kG (t.g8) hR (Tk.one _) ?_;intro aG aQ aO))
     exact Jy
    .cases j
   |false=>
    rw[P_ (by rw[d];simp)]at n
    rcases n with⟨rfl,n⟩|⟨P,rfl,j⟩
    .cases n
    .injection j with j;have aT:=h_ j.symm;clear j;obtain⟨au,a⟩:=b;simp only at d;subst d
     go_upto_region 7 with(first|(refine kJ V underlying53 ?_)|(go_at_call 130;((with_reducible refine(lL t id f _ (X.g_ J) Y).mono ?_);rintro e ai⟨rfl,S⟩;rw[aD.out];replace V:=V.g_ S;replace z:=z.g_ S;replace hR:=hR.g_ S;replace J:=J.trans S;replace aU:=z.f_ 0))|(go_at_call 122;((with_reducible refine(oM t A c l _ (X.g_ J) (h.g_ J) hn1 bS aI).mono ?_);unfold l0;rintro e T⟨aR,c4,s,rfl,aw,o,af⟩;have B:=h_ o;have K:=h_ (show s.length=l.length from(by have:=hW s;rw[o,mi,hW]at this;exact this.symm));clear o;replace V:=V.g_ af;replace z:=z.g_ af;replace hR:=hR.g_ af;replace J:=J.trans af;replace aU:=z.f_ 0))|(go_at_call 148;((with_reducible refine(km aR c4 s id f _ aw.os aw.la (by have:=K.out;omega)).mono ?_);rintro e ae⟨rfl,am⟩;rw[B.out,r.out];simp only[EW,Fw];replace V:=(V.g_ am).alloc (.cells #[.bool false,i_ a] 38);replace z:=(z.g_ am).alloc (.cells #[.bool false,i_ a] 38);replace hR:=(hR.g_ am).alloc (.cells #[.bool false,i_ a] 38);replace J:=(J.trans am).alloc (.cells #[.bool false,i_ a] 38);have aq:=L_ ae 38 #[.bool false,i_ a];have Z:=aq.f_ 0;have ah:=aq.f_ 1;replace aU:=z.f_ 0)))
     obtain⟨Q,bH⟩:=nm_ (ae.alloc (.cells #[.bool false,i_ a] 38));rw[<-bH]at V z hR aq J aU Z ah |-;clear bH;clear aw S af am r
     have cg:(jk t.p (hN l)).length<=1000000000:=by
      have h1:=oA (hN t.nw.l) (before t.p (hN l));have e:jk t.p (hN l)=kd (i4 ((hN t.nw.l).foldl lY (before t.p (hN l))) t.ws.l) t.ds.l:=rfl;rw[e,nK,jG];rw[mi,hW,hW]at h1;omega
     obtain⟨u,hu⟩:=mn_ ((ji (jk t.p (hN l)) id f).getD default);have bZ:=h_ hu;have cU:=aq.lt;have be:=Bk.lF aq V d_;have a8:=Bk.lF aq hR d_;generalize ae.heap.size=gb at*;clear hu
     go_upto_region 8 with(first|(refine kJ V underlying53 ?_)|(go_at_call 79;((with_reducible refine(o2 t A c l _ (X.g_ J) (h.g_ J) o_ H Y bS aI).mono ?_);unfold l0;rintro e bJ⟨bW,cA,ak,rfl,ap,dN,aW⟩;have aK:=h_ dN;have d5:ak.length<=1000000000:=(by have:=hW ak;rw[dN]at this;omega);clear dN;replace V:=V.g_ aW;replace hR:=hR.g_ aW;replace aq:=aq.g_ aW;replace J:=J.trans aW))|(go_at_call 148;((with_reducible refine(km bW cA ak id f _ ap.os ap.la d5).mono ?_);rintro e ag⟨rfl,G⟩;rw[aK.out,bZ.out];replace V:=(V.g_ G).alloc (.cells (V_ u) 38);replace hR:=(hR.g_ G).alloc (.cells (V_ u) 38);replace aq:=(aq.g_ G).alloc (.cells (V_ u) 38);replace J:=(J.trans G).alloc (.cells (V_ u) 38);have O:=L_ ag 38 (V_ u);replace Z:=aq.f_ 0;replace ah:=aq.f_ 1)))
     obtain⟨bR,bT⟩:=nm_ (ag.alloc (.cells (V_ u) 38));rw[<-bT]at V hR aq J Z ah O |-;clear bT;have aH:=Bk.lF O V d_;have bh:=Bk.lF O hR d_;generalize ag.heap.size=aS at*;clear ap aW G;have aE:bR.cell? (c_ w.heap.size 37)=some (.slice t.rs.A t.rs.l.length t.rs.c):=(V.f_ 37).trans rfl
     go_upto_region 9 with(go_at_call 98;((with_reducible refine(q7 t.rs.A t.rs.c t.rs.l ⟨id,f,⟨false,a⟩⟩ _ (X.g_ J).rs aI).mono ?_);unfold rP;rintro e az⟨cV,i,rfl,U,aJ,aV⟩;replace V:=V.g_ aV;replace aE:az.cell? (c_ w.heap.size 37)=some (.slice t.rs.A t.rs.l.length t.rs.c):=(V.f_ 37).trans rfl;have cK:=V.hm 37;have cu:Bk (az.setCell (c_ w.heap.size 37) (.slice cV (kk t.rs.l ⟨id,f,⟨false,a⟩⟩).length i)) w.heap.size 53 ({t with rs:=⟨cV,i,kk t.rs.l ⟨id,f,⟨false,a⟩⟩⟩}:Tk).g8:=V.hJ 37 _;replace hR:=(hR.g_ aV).h7 (p:=(c_ w.heap.size 37)) sd_ (.slice cV (kk t.rs.l ⟨id,f,⟨false,a⟩⟩).length i);replace O:=(O.g_ aV).h7 (p:=(c_ w.heap.size 37)) aH (.slice cV (kk t.rs.l ⟨id,f,⟨false,a⟩⟩).length i);replace U:Cs (az.setCell (c_ w.heap.size 37) (.slice cV (kk t.rs.l ⟨id,f,⟨false,a⟩⟩).length i)) cV (kk t.rs.l ⟨id,f,⟨false,a⟩⟩):=Sl.ig U V d_ ((D_ [w.heap.size] az).setCell (p:=(c_ w.heap.size 37)) (.inl s_) _);replace J:=(J.trans aV).setCell (p:=(c_ w.heap.size 37)) (.inr s_) (.slice cV (kk t.rs.l ⟨id,f,⟨false,a⟩⟩).length i)))
     obtain⟨bl,bV⟩:=nm_ (az.setCell (c_ w.heap.size 37) (.slice cV (kk t.rs.l ⟨id,f,⟨false,a⟩⟩).length i));rw[<-bV]at cu hR O U J |-;clear bV;clear V aq Z ah aE cK aV aU z be a8;have V:=cu;clear cu;have aZ:bl.cell? (c_ w.heap.size 40)=some (.slice t.ds.A t.ds.l.length t.ds.c):=(V.f_ 40).trans rfl;have f40:=V.hm 40
     have e0:(0:Int)<=(k:Int):=by omega
     have aP:(k:Int)<=(t.ds.l.length:Int):=by omega
     have bt:=X.rL;unfold Sv.ok at bt
     have aL:(k:Int)<=(t.ds.c:Int):=by omega
     have bN:(0:Int)<=(k:Int)+1:=by omega
     have bY:(k:Int)+1<=(t.ds.l.length:Int):=by omega
     have a6:(k:Int)+1<=(t.ds.c:Int):=by omega
     obtain⟨bz,bw,br,bi,bf⟩:=info_parts infoDl;have c9:=(X.g_ J.drew).ds;have aN:=Sl.w9 p8 c9 (show k<=t.ds.l.length by omega);have ao:=Sl.xu p8 c9 (show k+1<=t.ds.l.length by omega) t.ds.c bt;have bA:=V.drew;have bU:=hR.drew;have aF:=O.drew;have aB:=Sl.drew U;have bo:=J.drew;have dn:IntKind.i64.wrap ((k:Int)+1)=(k:Int)+1:=Eg _ o_
     have dQ:((k:Int)+1).toNat=k+1:=by omega
     have m:=h_ (show t.ds.l.take k++t.ds.l.drop (k+1)=t.ds.l.eraseIdx k from(List.eraseIdx_eq_take_drop_succ ..).symm)
     go_cut [] (λa7=>∃(F:Option Addr) (L:Nat),Bk a7 w.heap.size 53 ({t with rs:=⟨cV,i,kk t.rs.l ⟨id,f,⟨false,a⟩⟩⟩,ds:=⟨F,L,t.ds.l.eraseIdx k⟩}:Tk).g8/\Bk a7 (w.heap.size+1+1) 53 lp/\Bk a7 aS 38 (V_ u)/\Cs a7 cV (kk t.rs.l ⟨id,f,⟨false,a⟩⟩)/\Ds a7 F (t.ds.l.eraseIdx k)/\(t.ds.l.eraseIdx k).length<=L/\Gr [] w a7)
     case first=>
      go_region_law (refine l8 _ r_ (.tmp 59) (.tmp 64) 51 r_ 124 bz _ 5 40 underlying51 bw br bi bf rfl d_ d_ _ k _ r_ aN _ (t.ds.l.length-(k+1)) _ _ r_ ao (s2 _) o_ ?_;intro C v cQ a2 aX aM;have ad:=bA.g_ aM;have z41:cQ.cell? (c_ w.heap.size 40)=some (.slice t.ds.A t.ds.l.length t.ds.c):=((ad.f_ 40).trans rfl);have bg:=ad.hm 40)
      all_goals
       go_wp2
       all_goals
        go_meet
        have av:(t.ds.l.eraseIdx k).length=k+(t.ds.l.length-(k+1)):=by rw[<-m.out];simp;omega
        have N:({t with rs:=⟨cV,i,kk t.rs.l ⟨id,f,⟨false,a⟩⟩⟩,ds:=⟨C,v,t.ds.l.eraseIdx k⟩}:Tk).g8=({t with rs:=⟨cV,i,kk t.rs.l ⟨id,f,⟨false,a⟩⟩⟩}:Tk).g8.setIfInBounds 40 (.slice C (k+(t.ds.l.length-(k+1))) v):=by rw[<-av];rfl
        have aC:=ad.hJ 40 (.slice C (k+(t.ds.l.length-(k+1))) v);rw[<-N]at aC;have M:=(D_ [w.heap.size] cQ).setCell (p:=(c_ w.heap.size 40)) (.inl s_) (.slice C (k+(t.ds.l.length-(k+1))) v);have aj:=aX.ig ad d_ M;rw[<-Ej,m.out,<-av]at aj;refine⟨C,v,aC,(bU.g_ aM).h7 (p:=(c_ w.heap.size 40)) sd_ _,(aF.g_ aM).h7 (p:=(c_ w.heap.size 40)) aH _,Sl.ig (Sl.g_ aB aM) ad d_ M,?_,by rw[av];exact a2,(bo.trans aM).setCell (.inr s_) _⟩;rw[av]at aj;unfold Ds;rw[av];exact aj
     case rest=>
      clear V hR O U bA bU aF aB bo aZ f40 aN ao c9 m e0 aP aL bN bY a6 dn dQ J;obtain⟨F,L,V,hR,O,D,hD,aY,J⟩:=hcut;have Z:=O.f_ 0;have ah:=O.f_ 1;have x:=X.g_ J;have E:kY wc ({t with rs:=⟨cV,i,kk t.rs.l ⟨id,f,⟨false,a⟩⟩⟩,ds:=⟨F,L,t.ds.l.eraseIdx k⟩}:Tk):=⟨x.gs,D,x.ws,x.nw,x.nr,hD,x.hU,x.xq,aJ,x.uQ,x.sO,aY,x.px⟩
      go_wp2_with (first|(refine kJ V underlying53 ?_)|(go_at_call 132;((with_reducible refine(rj ({t with rs:=⟨cV,i,kk t.rs.l ⟨id,f,⟨false,a⟩⟩⟩,ds:=⟨F,L,t.ds.l.eraseIdx k⟩}:Tk) ⟨id,f,u⟩ _ E (by show t.nw.l.length<=1000000000;omega) H).mono ?_);unfold tg;rintro e fR⟨t3,rfl,cC,bO,cx⟩;have an:=h_ bO;clear bO;replace hR:=hR.g_ cx))|(refine kG (t3.g8) hR (Tk.one _) ?_;intro aG aQ aO))
      have ar:=(J.trans cx).hx aO p_;refine lA t3.g8 (.bool true) aQ underlying53 ⟨t3,rfl,cC.ig hR ss aO,?_,ar⟩;rw[an.out,aT.out,bZ.out]
      rfl
theorem tR(A:Option Addr)(c:Nat)(l:List Rw)(id f:Int)(w:World)(X:kY w t)(h:l5 w A c l)(hs:t.p.sm 100000000)(hl:l.length<=100000000)(n:jV t.p (hN l) id f=none):
 Calls prog 131 #[.agg t.g8,.agg #[.slice A l.length c],i_ id,i_ f] w (mS t.p false w):=rr t A c l id f w X h hs hl (.inl ⟨rfl,n⟩)
theorem sB(A:Option Addr)(c:Nat)(l:List Rw)(id f:Int)(P:jg)(w:World)(X:kY w t)(h:l5 w A c l)(hs:t.p.sm 100000000)(hl:l.length<=100000000)(hy:jV t.p (hN l) id f=some P):
 Calls prog 131 #[.agg t.g8,.agg #[.slice A l.length c],i_ id,i_ f] w (mS P true w):=rr t A c l id f w X h hs hl (.inr ⟨P,rfl,hy⟩)
theorem infoInt:(prog.info? 3).map (λi=>(i.zero,i.size,i.bytes))=some (some (i_ 0),1,8):=by kernel_rfl
theorem Bk.zI{w:World}{t e:TypeId}{cs:Array Value}(h:Bk w g t cs)(av:e≠t):∀y fz,w.heap[g]?≠some (.cells y e fz):=ID
def ku(l:List In)(hq g9:Int):List Int:=if hZ l hq g9=true then(List.range (g9.toNat+1)).map Int.ofNat else[]
def Ck(P:List Int)(w:World)(e:Ending)(w':World):Prop:=∃(A:Option Addr) (d:Nat),e=.returned (.agg #[.slice A P.length d])/\Ns w' 3 A P/\P.length<=d/\Gr [] w w'
theorem zL(l:List In):0<=jr l/\jr l<=l.length:=by
 unfold jr
 have:=Em (λi:In=>i.op==21) l
 omega
theorem kO{l:List In}{hq g9:Int}(h:hZ l hq g9=true):1<=l.length/\l.length<=2048/\0<=hq/\hq<=64/\0<=g9/\g9<=2048:=by
 have Y:=zL l;unfold hZ at h;simp only[Ec,EP,beq_iff_eq]at h;obtain⟨⟨⟨⟨⟨⟨⟨⟨h1,h2⟩,h3⟩,aw⟩,_⟩,_⟩,_⟩,_⟩,aJ⟩:=h;omega
theorem yw(l:List In)(hq g9:Int)(w:World)(h:Is w A l)(hn:l.length<=1000000000):
 Calls prog 90 #[.agg #[.slice A l.length c,i_ hq,i_ g9]] w (Ck (ku l hq g9) w):=by
 obtain⟨bz,bw,br,bi,bf⟩:=info_parts infoInt;obtain⟨D,hR,hD,J⟩:=vQ w 26 #[.slice A l.length c,i_ hq,i_ g9] 32 #[n_] 32 #[n_]
 cases hv:hZ l hq g9 with
 |false=>
  have aq:=h_ (show ku l hq g9=[] by unfold ku;rw[hv];simp)
  go_enter func90,ntmps90
  go_upto_region 2 with fail
  obtain⟨W,I⟩:=nm_ (((w.alloc (.cells #[.slice A l.length c,i_ hq,i_ g9] 26)).alloc (.cells #[n_] 32)).alloc (.cells #[n_] 32));rw[<-I]at D hR hD J |-;clear I;have z0:=D.f_ 0;have aS:=D.f_ 1;have aX:=D.f_ 2
  go_wp2_with (go_at_call 92;have ak:=iI A c l hq g9 _ (h.g_ J) hn;rw[hv]at ak;refine ak.mono ?_;rintro e ae⟨rfl,hg⟩;replace hR:=hR.g_ hg;replace hD:=hD.g_ hg;replace J:=J.trans hg;have Z:=hD.f_ 0;have bn:=hR.f_ 0;have bH:=hR.hm 0)
  refine rr_ #[n_] (hR.hJ 0 (n_)) underlying32 ?_;unfold Ck;rw[aq.out];exact⟨none,0,rfl,EM _ _ _ _,G_ _,J.setCell (.inr s_) _⟩
 |true=>
  obtain⟨b1,b2,dE,dx,et,dT⟩:=kO hv;obtain⟨n,rfl⟩:∃n:Nat,g9=n:=⟨g9.toNat,by omega⟩;have aq:=h_ (show ku l hq n=(List.range (n+1)).map Int.ofNat by unfold ku;rw[hv];simp)
  go_enter func90,ntmps90
  go_upto_region 2 with fail
  obtain⟨W,I⟩:=nm_ (((w.alloc (.cells #[.slice A l.length c,i_ hq,i_ (n:Int)] 26)).alloc (.cells #[n_] 32)).alloc (.cells #[n_] 32));rw[<-I]at D hR hD J |-;clear I;have z0:=D.f_ 0;have aS:=D.f_ 1;have aX:=D.f_ 2
  have a:w.heap.size+1+1+1<=W.heap.size:=by have:=hD.lt;omega
  go_wp2_with (go_at_call 92;have ak:=iI A c l hq n _ (h.g_ J) hn;rw[hv]at ak;refine ak.mono ?_;rintro e ae⟨rfl,hg⟩;replace D:=D.g_ hg;replace hR:=hR.g_ hg;replace hD:=hD.g_ hg;replace J:=J.trans hg;replace z0:=D.f_ 0;replace aS:=D.f_ 1;replace aX:=D.f_ 2;have Z:=hD.f_ 0)
  replace a:=F_ a hg.size;clear z0 aS aX Z hg a
  go_loopw [4] (λi wr=>∃(k:Nat) (A':Option Addr) (c':Nat),k<=n+1/\i=i_ k/\wr.ownsRow (w.heap.size+1+1+1) 3 1 (.slice A' k c') k ((List.range k).map λj:Nat=>Value.int .i64 j)/\Bk wr w.heap.size 26 #[.slice A l.length c,i_ hq,i_ (n:Int)]/\Bk wr (w.heap.size+1) 32 #[n_]/\Bk wr (w.heap.size+1+1) 32 #[.slice A' k c']/\Gr [] w wr) (λi _=>n+1-(intOf i).toNat)
  case atStart=>exact⟨0,none,0,N_ _,rfl,iJ _ _ _ _,D,hR,hD,J⟩
  case round=>
   clear D hR hD J;obtain⟨k,A',c',hk,rfl,ao,D,hR,hD,F⟩:=hrel
   have a:w.heap.size+1+1+1<=wr.heap.size:=by have:=hD.lt;omega
   by_cases aj:k<n+1
   .have aL:(k:Int)<=(n:Int):=by omega
    have ax:=iu ao ((D_ [] wr).alloc (.cells #[i_ (k:Int)] 3));have X:Sl (wr.alloc (.cells #[i_ (k:Int)] 3)) 3 1 (j_ wr.heap.size) 1 [i_ (k:Int)]:=kC (s:=1) (L_ wr 3 #[i_ (k:Int)]) rfl
    have t:w.heap.size+1+1+1<=(wr.alloc (.cells #[i_ (k:Int)] 3)).heap.size:=by simp;omega
    have aX:=D.f_ 2;have ah:=hD.f_ 0;replace D:=D.alloc (.cells #[i_ (k:Int)] 3);replace hR:=hR.alloc (.cells #[i_ (k:Int)] 3);replace hD:=hD.alloc (.cells #[i_ (k:Int)] 3);replace F:=F.alloc (.cells #[i_ (k:Int)] 3)
    go_wp2_with (at_builtin;refine iD _ rfl (.tmp 14) (.tmp 16) 30 rfl (w.heap.size+1+1+1) 3 bz _ 1 8 underlying30 bw br bi bf rfl d_ d_ A' k c' _ rfl ax _ 1 1 _ rfl X (by intro u hu;simp at hu;subst hu;rfl) o_ t ?_;intro ay an w2 aY av;replace D:=av.bk D d_;replace hR:=av.bk hR d_;replace hD:=av.bk hD d_;replace F:=av.gr [] w o_ F;have bZ:=hD.hm 0;have au:=hD.f_ 0)
    go_roundw
    case rel=>exact⟨k+1,ay,an,by omega,by go_num,(by simpa[List.range_succ]using kx (x:=w.heap.size+1+1) aY (hD.zI d_) ((D_ _ _).setCell (.inl s_) _)),D.h7 (p:=(c_ (w.heap.size+1+1) 0)) sd_ _,hR.h7 (p:=(c_ (w.heap.size+1+1) 0)) sd_ _,hD.hJ 0 _,F.setCell (.inr p_) _⟩
    case measure=>simp[intOf];omega
   .have aL:¬(k:Int)<=(n:Int):=by omega
    have bQ:=h_ (show k=n+1 by omega);have aX:=D.f_ 2;have Z:=hD.f_ 0;have bH:=hR.hm 0;have bn:=hR.f_ 0;go_wp2;refine rr_ #[.slice A' k c'] (hR.hJ 0 (.slice A' k c')) underlying32 ?_;unfold Ck;rw[aq.out];have M:=F.setCell (p:=(c_ (w.heap.size+1) 0)) (.inr s_) (.slice A' k c');have cN:=Sl.iG (kx (x:=w.heap.size+1) ao (hR.zI d_) ((D_ [w.heap.size+1] wr).setCell (p:=(c_ (w.heap.size+1) 0)) (.inl s_) (.slice A' k c')));refine⟨A',c',by rw[bQ.out];simp,?_,by have:=iQ ao;have:=bQ.out;simp;omega,M⟩;unfold Ns;rw[bQ.out]at cN |-
    simpa[List.map_map,Function.comp_def]using cN
def mR(P:jg)(n:Int)(w:World)(e:Ending)(w':World):Prop:=∃t:Tk,e=.returned (.tuple #[.agg t.g8,i_ n])/\kY w' t/\t.p=P/\Gr [] w w'
def sQ(hG run:Int)(ia:Bool):Tk:={Tk.zero with hG:=hG,run:=run,ia:=ia,pc:=hG}
def q8(hG run:Int)(ia:Bool):Tk:={Tk.zero with hG:=hG,run:=run,ia:=ia,pc:=hG,hV:=1,next:=hG+1}
theorem uC(l:List In)(hq g9 hG run:Int)(ia:Bool)(w:World)(h:Is w A l)(hn:l.length<=1000000000)(b4: -1000000000<=hG)(bo:hG<=1000000000)(bu:0<=run)(bD:run<=1099511627776)(hv:hZ l hq g9=false):
 Calls prog 49 #[.agg #[.slice A l.length c,i_ hq,i_ g9],i_ hG,i_ run,.bool ia,n_] w (mR Tk.zero.p 1 w):=by
 obtain⟨D,hR,J⟩:=pG w 26 #[.slice A l.length c,i_ hq,i_ g9] 53 lp
 go_enter func49,ntmps49
 go_upto_region 1 with fail
 obtain⟨W,I⟩:=nm_ ((w.alloc (.cells #[.slice A l.length c,i_ hq,i_ g9] 26)).alloc (.cells lp 53));rw[<-I]at D hR J |-;clear I;have z0:=D.f_ 0;have aS:=D.f_ 1;have aX:=D.f_ 2
 go_wp2_with (first|(go_at_call 92;have ak:=iI A c l hq g9 _ (h.g_ J) hn;rw[hv]at ak;refine ak.mono ?_;rintro e ae⟨rfl,hg⟩;replace hR:=hR.g_ hg;replace J:=J.trans hg;clear hg)|(refine kG (Tk.zero.g8) hR (Tk.one _) ?_;intro bJ a2 aW))
 have ar:=J.hx aW s_;exact lA Tk.zero.g8 (i_ 1) a2 underlying53 ⟨Tk.zero,rfl,kY.nil _ _ rfl rfl rfl rfl rfl rfl,rfl,ar⟩
theorem uB(l:List In)(hq g9 hG run:Int)(ia:Bool)(w:World)(h:Is w A l)(hn:l.length<=1000000000)(b4: -1000000000<=hG)(bo:hG<=1000000000)(bu:0<=run)(bD:run<=1099511627776)(hv:hZ l hq g9=true)(hb:mC l hG=false):
 Calls prog 49 #[.agg #[.slice A l.length c,i_ hq,i_ g9],i_ hG,i_ run,.bool ia,n_] w (mR Tk.zero.p 2 w):=by
 obtain⟨D,hR,J⟩:=pG w 26 #[.slice A l.length c,i_ hq,i_ g9] 53 lp
 go_enter func49,ntmps49
 go_upto_region 1 with fail
 obtain⟨W,I⟩:=nm_ ((w.alloc (.cells #[.slice A l.length c,i_ hq,i_ g9] 26)).alloc (.cells lp 53));rw[<-I]at D hR J |-;clear I;have z0:=D.f_ 0;have aS:=D.f_ 1;have aX:=D.f_ 2
 go_wp2_with (first|(go_at_call 92;have ak:=iI A c l hq g9 _ (h.g_ J) hn;rw[hv]at ak;refine ak.mono ?_;rintro e ae⟨rfl,hg⟩;replace D:=D.g_ hg;replace hR:=hR.g_ hg;replace J:=J.trans hg;replace z0:=D.f_ 0;replace aS:=D.f_ 1;replace aX:=D.f_ 2;clear hg)|(go_at_call 97;have ak:=lM A c l hq g9 hG _ (h.g_ J) hn b4 bo;rw[hb]at ak;refine ak.mono ?_;rintro e ae⟨rfl,hg⟩;replace hR:=hR.g_ hg;replace J:=J.trans hg;clear hg)|(refine kG (Tk.zero.g8) hR (Tk.one _) ?_;intro bJ a2 aW))
 have ar:=J.hx aW s_;exact lA Tk.zero.g8 (i_ 2) a2 underlying53 ⟨Tk.zero,rfl,kY.nil _ _ rfl rfl rfl rfl rfl rfl,rfl,ar⟩
theorem wU(l:List In)(hq g9 hG run:Int)(ia:Bool)(w:World)(h:Is w A l)(hn:l.length<=1000000000)(b4: -1000000000<=hG)(bo:hG<=1000000000)(bu:0<=run)(bD:run<=1099511627776)(hv:hZ l hq g9=true)(hb:mC l hG=true)(ha:jm l hq g9 hG=false):
 Calls prog 49 #[.agg #[.slice A l.length c,i_ hq,i_ g9],i_ hG,i_ run,.bool ia,n_] w (mR (sQ hG run ia).p 0 w):=by
 obtain⟨D,hR,J⟩:=pG w 26 #[.slice A l.length c,i_ hq,i_ g9] 53 lp
 go_enter func49,ntmps49
 go_upto_region 1 with fail
 obtain⟨W,I⟩:=nm_ ((w.alloc (.cells #[.slice A l.length c,i_ hq,i_ g9] 26)).alloc (.cells lp 53));rw[<-I]at D hR J |-;clear I;have z0:=D.f_ 0;have aS:=D.f_ 1;have aX:=D.f_ 2
 have aP:(run<0)=False:=by simp;omega
 have av:((1099511627776:Int)<run)=False:=by simp;omega
 go_upto_region 5 with(first|(go_at_call 92;have ak:=iI A c l hq g9 _ (h.g_ J) hn;rw[hv]at ak;refine ak.mono ?_;rintro e ae⟨rfl,hg⟩;replace D:=D.g_ hg;replace hR:=hR.g_ hg;replace J:=J.trans hg;replace z0:=D.f_ 0;replace aS:=D.f_ 1;replace aX:=D.f_ 2;clear hg)|(go_at_call 97;have ak:=lM A c l hq g9 hG _ (h.g_ J) hn b4 bo;rw[hb]at ak;refine ak.mono ?_;rintro e ae⟨rfl,hg⟩;replace D:=D.g_ hg;replace hR:=hR.g_ hg;replace J:=J.trans hg;replace z0:=D.f_ 0;replace aS:=D.f_ 1;replace aX:=D.f_ 2;clear hg))
 have cA:=hR.lt;have br:=L_ ae 53 lp;replace D:=D.alloc (.cells lp 53);replace hR:=hR.alloc (.cells lp 53);replace J:=J.alloc (.cells lp 53)
 have M:w.heap.size<=ae.heap.size:=by omega
 go_upto_region 6 with(refine kG ((sQ hG run ia).g8) br (Tk.one _) ?_;intro aF a aC)
 replace D:=D.gr aC sd_;replace hR:=hR.gr aC sd_;replace J:=J.hx aC p_;have br:=a;clear a aC z0 aS aX;generalize ae.heap.size=o at*;have z0:=D.f_ 0;have aS:=D.f_ 1;have aX:=D.f_ 2;go_wp2
 go_loopw [40] (λi wr=>i=i_ 0/\wr=aF) (λi _=>0)
 case atStart=>exact⟨rfl,rfl⟩
 case round=>
  obtain⟨rfl,rfl⟩:=hrel
  go_wp2_with (first|(go_at_call 83;have ak:=k8 A c l hq g9 hG _ (h.g_ J) hn;rw[ha]at ak;refine ak.mono ?_;rintro e ae⟨rfl,hg⟩;replace hR:=hR.g_ hg;replace br:=br.g_ hg;replace J:=J.trans hg;clear hg)|(refine kJ br underlying53 ?_)|(refine kG ((sQ hG run ia).g8) hR (Tk.one _) ?_;intro bJ a2 aW))
  have ar:=J.hx aW s_;exact lA (sQ hG run ia).g8 (i_ 0) a2 underlying53 ⟨(sQ hG run ia),rfl,kY.nil _ _ rfl rfl rfl rfl rfl rfl,rfl,ar⟩
theorem vE(l:List In)(hq g9 hG run:Int)(ia:Bool)(w:World)(h:Is w A l)(hn:l.length<=1000000000)(b4: -1000000000<=hG)(bo:hG<=1000000000)(bu:0<=run)(bD:run<=1099511627776)(hv:hZ l hq g9=true)(hb:mC l hG=true)(ha:jm l hq g9 hG=true):
 Calls prog 49 #[.agg #[.slice A l.length c,i_ hq,i_ g9],i_ hG,i_ run,.bool ia,n_] w (mR (q8 hG run ia).p 0 w):=by
 obtain⟨D,hR,J⟩:=pG w 26 #[.slice A l.length c,i_ hq,i_ g9] 53 lp
 go_enter func49,ntmps49
 go_upto_region 1 with fail
 obtain⟨W,I⟩:=nm_ ((w.alloc (.cells #[.slice A l.length c,i_ hq,i_ g9] 26)).alloc (.cells lp 53));rw[<-I]at D hR J |-;clear I;have z0:=D.f_ 0;have aS:=D.f_ 1;have aX:=D.f_ 2
 have aP:(run<0)=False:=by simp;omega
 have av:((1099511627776:Int)<run)=False:=by simp;omega
 go_upto_region 5 with(first|(go_at_call 92;have ak:=iI A c l hq g9 _ (h.g_ J) hn;rw[hv]at ak;refine ak.mono ?_;rintro e ae⟨rfl,hg⟩;replace D:=D.g_ hg;replace hR:=hR.g_ hg;replace J:=J.trans hg;replace z0:=D.f_ 0;replace aS:=D.f_ 1;replace aX:=D.f_ 2;clear hg)|(go_at_call 97;have ak:=lM A c l hq g9 hG _ (h.g_ J) hn b4 bo;rw[hb]at ak;refine ak.mono ?_;rintro e ae⟨rfl,hg⟩;replace D:=D.g_ hg;replace hR:=hR.g_ hg;replace J:=J.trans hg;replace z0:=D.f_ 0;replace aS:=D.f_ 1;replace aX:=D.f_ 2;clear hg))
 have cA:=hR.lt;have br:=L_ ae 53 lp;replace D:=D.alloc (.cells lp 53);replace hR:=hR.alloc (.cells lp 53);replace J:=J.alloc (.cells lp 53)
 have M:w.heap.size<=ae.heap.size:=by omega
 go_upto_region 6 with(refine kG ((sQ hG run ia).g8) br (Tk.one _) ?_;intro aF a aC)
 replace D:=D.gr aC sd_;replace hR:=hR.gr aC sd_;replace J:=J.hx aC p_;have br:=a;clear a aC z0 aS aX;generalize ae.heap.size=o at*;have z0:=D.f_ 0;have aS:=D.f_ 1;have aX:=D.f_ 2;go_wp2
 go_loopw [40] (λi wr=>i=i_ 0/\wr=aF) (λi _=>0)
 case atStart=>exact⟨rfl,rfl⟩
 case round=>
  obtain⟨rfl,rfl⟩:=hrel
  go_upto_region 12 with(go_at_call 83;have ak:=k8 A c l hq g9 hG _ (h.g_ J) hn;rw[ha]at ak;refine ak.mono ?_;rintro e ae⟨rfl,hg⟩;replace hR:=hR.g_ hg;replace br:=br.g_ hg;replace J:=J.trans hg;clear hg)
  have bq:=br.hm 42;have cx:=br.hm 43;have f:Bk _ o 53 (q8 hG run ia).g8:=(br.hJ 42 (i_ 1)).hJ 43 (i_ (hG+1));replace hR:=(hR.h7 (p:=(c_ o 42)) sd_ (i_ 1)).h7 (p:=(c_ o 43)) sd_ (i_ (hG+1));replace J:=(J.setCell (p:=(c_ o 42)) (.inr p_) (i_ 1)).setCell (p:=(c_ o 43)) (.inr p_) (i_ (hG+1));have d:ae.cell? (c_ o 42)=some (i_ 0):=(br.f_ 42).trans rfl;have b:ae.cell? (c_ o 43)=some (i_ 0):=(br.f_ 43).trans rfl
  go_wp2_with (first|(refine kJ f underlying53 ?_)|(refine kG ((q8 hG run ia).g8) hR (Tk.one _) ?_;intro bJ a2 aW))
  have ar:=J.hx aW s_;exact lA (q8 hG run ia).g8 (i_ 0) a2 underlying53 ⟨(q8 hG run ia),rfl,kY.nil _ _ rfl rfl rfl rfl rfl rfl,rfl,ar⟩
def jJ(l:List In)(hq g9 hG run:Int)(ia:Bool):jg × Int:=
 if hZ l hq g9=false then(Tk.zero.p,1) else if mC l hG=false then(Tk.zero.p,2) else
 if jm l hq g9 hG=true then((q8 hG run ia).p,0) else((sQ hG run ia).p,0)
theorem nR(l:List In)(hq g9 hG run:Int)(ia:Bool)(w:World)(h:Is w A l)(hn:l.length<=1000000000)(b4: -1000000000<=hG)(bo:hG<=1000000000)(bu:0<=run)(bD:run<=1099511627776):
 Calls prog 49 #[.agg #[.slice A l.length c,i_ hq,i_ g9],i_ hG,i_ run,.bool ia,n_] w (mR (jJ l hq g9 hG run ia).1 (jJ l hq g9 hG run ia).2 w):=by
 unfold jJ
 cases hv:hZ l hq g9 with
 |false=>exact uC A c l hq g9 hG run ia w h hn b4 bo bu bD hv
 |true=>
  cases hb:mC l hG with
  |false=>exact uB A c l hq g9 hG run ia w h hn b4 bo bu bD hv hb
  |true=>
   cases ha:jm l hq g9 hG with
   |false=>exact wU A c l hq g9 hG run ia w h hn b4 bo bu bD hv hb ha
   |true=>exact vE A c l hq g9 hG run ia w h hn b4 bo bu bD hv hb ha
end Go.Proofs.YtenbhdilndfaeaaGreat
