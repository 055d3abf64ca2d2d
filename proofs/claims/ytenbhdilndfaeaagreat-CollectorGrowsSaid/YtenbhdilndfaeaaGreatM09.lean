import Derived.Test.YtenbhdilndfaeaaGreatM02
import Derived.Test.YtenbhdilndfaeaaGreatM05
import Derived.Test.YtenbhdilndfaeaaGreatM08
set_option maxRecDepth 100000
set_option maxHeartbeats 0
set_option linter.all false
namespace Go.Proofs.YtenbhdilndfaeaaGreat
open Go.RowKit Go.Proofs.Tryz
variable{G:Prop}{g k:Nat}{cur:Array Value}{R:Ending->World->Prop}(A:OA)(t:Tk)(c:Nat)(d:Dl)(w:World)
theorem HL(h:G:=by
 clear hp aq;exact HO):G:=h
theorem HN(h:G:=by
 clear hp;exact HO):G:=h
theorem HO(h:G:=by
 refine jO (W:=ae) (F_ _ _) k_ k_ ?_
 repeat(first|((with_reducible refine ld (O.gw) underlying53 (by with_unfolding_all rfl) aL (by with_unfolding_all rfl) (by with_unfolding_all rfl) ?_);simp only[Ft,FC,FI])|go_big_quiet_step (((first|(go_at_call 128;exact Calls.gq (D.out _))|(go_at_call_of 129 (Value.slice t.ws.A t.ws.l.length t.ws.c);exact Calls.gq (bP.out _))|(go_at_call_of 129 (Value.slice t.rs.A t.rs.l.length t.rs.c);exact Calls.gq (bg.out _))))))
 exact Kc):G:=h
theorem KA(h:G:=by
 have g:=I.hK aN p_;exact lT t.g_ (.bool false) ar underlying53 ⟨t,rfl,ht.hG g,rfl,g⟩):G:=h
def m8(P:i3)(b:Bool)(w:World)(e:Ending)(w':World):Prop:=∃t:Tk,e=.returned (.tuple #[.agg t.g_,.bool b])/\lb w' t/\t.p=P/\Gr [] w w'
theorem xo(l:List Dl)(id f:Int): -1<=o2 l id f/\o2 l id f<l.length:=by
 have:=nf (λc:Dl=>c.id==id&&c.f==f) l 0
 unfold o2;exact LO
theorem xX(l:List Ob)(id:Int): -1<=jz l id/\jz l id<l.length:=by
 have:=nf (λo:Ob=>o.id==id) l 0
 unfold jz;exact LO
theorem BT{W:World}{p:Addr}{v:Value}(h:W.cell? p=some v):∀y:GW W,y.1.cell? p=some v:=λy=>y.2.f_ h s_
theorem sV(x:Int)(h: -1<=x):x= -1∨∃n:Nat,x=n:=by
 by_cases h0:x= -1
 .exact .inl h0
 .exact .inr ⟨x.toNat,o_⟩
def oF(t:i3)(d:Dl):Bool:=(take t d).isNone
theorem Sl.C_{w:World}{ty:TypeId}{l:List Dl}(H:Bk w g ty cur)(h:∀(i:Nat) (u:Value),(l.flatMap Dl.E)[i]?=some u->cur[i]?=some u)(hk:k<l.length):
 w.cell? (c_ g (k*5+3))=some (.bool l[k].v.r)/\w.cell? (c_ g (k*5+4))=some (i_ l[k].v.n):=by
 have g:=λj hj=>jh Dl.E 5 (λ_=>rfl) l k j hk hj
 exact⟨(H.f_ _).trans (h (k*5+3) _ (g 3 o_)),(H.f_ _).trans (h (k*5+4) _ (g 4 o_))⟩
theorem zJ{α:Type}(E:α->List Value)(hE:∀a,(E a).length=5){w:World}{e:TypeId}{l:List α}(hk:k<l.length)(r:α)(x y:Value)(hr:E r=(E l[k]).take 3++[x,y])(hb:Bk w g e cur)(h:∀(i:Nat) (u:Value),(l.flatMap E)[i]?=some u->cur[i]?=some u):
 Sl ((w.setCell (c_ g (k*5+3)) x).setCell (c_ g (k*5+4)) y) e 5 (j_ g) l.length ((l.set k r).flatMap E):=by
 have bU:=(hb.hW (k*5+3) x).hW (k*5+4) y;have iM:=kj E 5 hE l
 have az:k*5+4<cur.size:=by
  have hl:k*5+4<(l.flatMap E).length:=o_
  have:=h _ _ (M_ hl)
  rcases EJ (k*5+4) cur.size with h|h
  .exact h
  .exact LK
 refine⟨by rw[kj E 5 hE];simp,λ_=>⟨g,0,_,_,rfl,bU,λj u hu=>?_⟩⟩;rw[U_];refine qu E 5 hE o_ l k hk r cur _ h (λj u hu=>?_) (λi hi=>?_) j u hu
 .have h3:((E l[k]).take 3).length=3:=by rw[E1,hE];rfl
  rw[hr]at hu
  by_cases hj:j<3
  .rw[Fv o_,Fk,T_ hj]at hu;rw[K_,Q_ o_,K_,Q_ o_];exact h _ _ (by rw[jh E 5 hE l k j hk o_];exact hu)
  .rw[FE o_,h3]at hu
   have b:j=3∨j=4:=by
    rcases EJ (j-3) 2 with h|h
    .omega
    .rw[EW (zu h)]at hu
     cases hu
   rcases b with rfl|rfl
   .simp at hu;subst hu;rw[K_,Q_ o_,K_,T_ rfl,T_ o_]
   .simp at hu;subst hu;rw[K_,T_ rfl,T_ p_]
 .rw[K_,Q_ o_,K_,Q_ o_]
theorem ja{a b:Bool}(h:a=b):Value.bool a=Value.bool b:=by rw[h]
theorem tZ(ht:lb w t)(am:t.ds.l.length<=1000000000)(B:t.nw.l.length<=1000000000)(ak:t.ws.l.length<=1000000000)(V:t.rs.l.length<=1000000000)(m:R=m8 t.p false w/\take t.p d=none∨∃P,R=m8 P true w/\take t.p d=some P):
 Calls prog 126 #[.agg t.g_,.agg #[i_ d.id,i_ d.f,i_ d.op,.bool d.v.r,i_ d.v.n]] w R:=by
 obtain⟨O,hD,hR,I⟩:=wt w 53 t.g_ 124 #[i_ d.id,i_ d.f,i_ d.op,.bool d.v.r,i_ d.v.n] 53 lv
 go_enter func126,ntmps126
 go_upto_region 1 with fail
 obtain⟨W,aK⟩:=nm_ (((w.alloc (.cells t.g_ 53)).alloc (.cells #[i_ d.id,i_ d.f,i_ d.op,.bool d.v.r,i_ d.v.n] 124)).alloc (.cells lv 53));rw[<-aK]at O hD hR I |-;clear aK;have bD:=hD.f_ 0;have bH:=hD.f_ 1;have bp:=hD.f_ 2;have bQ:=hD.f_ 3;have bC:=hD.f_ 4
 go_upto_region 2 with(first|(refine kT O underlying53 ?_)|(go_at_call 130;((with_reducible refine(lU t d.id d.f _ (ht.hG I) am).mono ?_);rintro e ae⟨rfl,S⟩;replace O:=O.hG S;replace hD:=hD.hG S;replace hR:=hR.hG S;replace I:=I.trans S)))
 clear bD bH bp bQ bC S;have au:=h_ (show o2 t.ds.l d.id d.f=o2 t.p.ds d.id d.f from rfl);have ay:=xo t.ds.l d.id d.f;generalize bM:o2 t.ds.l d.id d.f=aj at*;have a7:=h_ bM;clear bM;have b5:=h_ m;clear m
 go_cut [58] (λy aX=>y=.bool (oF t.p d)/\Gr [] ae aX)
 case first=>
  have ai:∀y:GW ae,y.1.cell? (c_ w.heap.size 2)=some (.bool t.ik):=λy=>(O.zg 2 y).trans rfl
  have cr:∀y:GW ae,y.1.cell? (c_ w.heap.size 37)=some (.slice t.rs.A t.rs.l.length t.rs.c):=λy=>(O.zg 37 y).trans rfl
  have ct:∀y:GW ae,y.1.cell? (c_ w.heap.size 38)=some (.slice t.ws.A t.ws.l.length t.ws.c):=λy=>(O.zg 38 y).trans rfl
  have cj:∀y:GW ae,y.1.cell? (c_ w.heap.size 40)=some (.slice t.ds.A t.ds.l.length t.ds.c):=λy=>(O.zg 40 y).trans rfl
  have aS:=hD.zg 0;have aJ:=hD.zg 1;have aG:=hD.zg 2;have aL:(prog.info? 53).map (·.size)=some t.g_.size:=k_
  have D:Hid (∀y:GW ae,Calls prog 128 #[.agg t.g_,i_ d.id] y.1 (λe w''=>e=.returned (i_ (jz (hY t.nw.l) d.id))/\Gr [] y.1 w'')):=h_ λy=>oL t d.id y.1 (ht.hG (I.trans y.2)) B
  have bP:Hid (∀y:GW ae,Calls prog 129 #[.slice t.ws.A t.ws.l.length t.ws.c,i_ d.id,i_ d.f] y.1 (λe w''=>e=.returned (i_ (cat t.ws.l d.id d.f))/\Gr [] y.1 w'')):=h_ λy=>lJ t.ws.A t.ws.c t.ws.l d.id d.f y.1 (ht.hG (I.trans y.2)).ws ak
  have bg:Hid (∀y:GW ae,Calls prog 129 #[.slice t.rs.A t.rs.l.length t.rs.c,i_ d.id,i_ d.f] y.1 (λe w''=>e=.returned (i_ (cat t.rs.l d.id d.f))/\Gr [] y.1 w'')):=h_ λy=>lJ t.rs.A t.rs.c t.rs.l d.id d.f y.1 (ht.hG (I.trans y.2)).rs V
  have bw:=(xX (hY t.nw.l) d.id).1;have de:=(rh t.ws.l d.id d.f).1;have bL:=(rh t.rs.l d.id d.f).1;have bB:=h_ (show take t.p d=take t.p d from rfl)
  have z:Hid (take t.p d=if t.ik=true∨0<=jz (hY t.nw.l) d.id∨0<=cat t.ws.l d.id d.f∨0<=cat t.rs.l d.id d.f then none
   else if aj<0 then some {t.p with ds:=t.ds.l.take (ra t.ds.l d.id d.f)++([d]++t.ds.l.drop (ra t.ds.l d.id d.f))}
   else if(t.ds.l.getD aj.toNat default).op≠d.op then none
   else some {t.p with ds:=t.ds.l.modify aj.toNat (λx=>{x with v:=(iF d.op x.v d.v).1})}):=h_ (by rw[<-a7.out];rfl)
  have co:aj<0∨∃(k:Nat) (hk:k<t.ds.l.length),aj=k/\∃b off,t.ds.A=some (c_ b off)/\ae.cell? (c_ b (off+k*5+2))=some (i_ t.ds.l[k].op):=by
   by_cases h:aj<0
   .exact .inl h
   .have hk:aj.toNat<t.ds.l.length:=o_;obtain⟨b,off,hA,_,_,h2,_⟩:=(ht.hG I).ds.at_ hk;exact .inr ⟨aj.toNat,hk,(Fz o_).symm,b,off,hA,h2⟩
  generalize jz (hY t.nw.l) d.id=N at*;generalize cat t.ws.l d.id d.f=b0 at*;generalize cat t.rs.l d.id d.f=xr at*;generalize t.g_=cs at*;have bZ:=h_ ay;clear bB ay au
  cases hp:t.ik with
  |true=>
   have a6:=h_ (show oF t.p d=true by unfold oF;rw[z.out,T_ (.inl hp)];rfl);rw[hp]at ai;exact HN
  |false=>
   rw[hp]at ai
   rcases sV N bw with rfl|⟨no,rfl⟩
   .rcases sV b0 de with rfl|⟨nw,rfl⟩
    .rcases sV xr bL with rfl|⟨nr,rfl⟩
     .rcases co with aZ|⟨k,hk,rfl,b,off,hA,h2⟩
      .obtain rfl:aj= -1:=by have:=bZ.out;omega
       have a6:=h_ (show oF t.p d=false by unfold oF;rw[z.out,Q_ (by rw[hp];simp),T_ o_];rfl);clear hp aZ;exact HO
      .have be:(k:Int)<(t.ds.l.length:Int):=o_;rw[hA]at cj;have h3:=BT h2
       by_cases aq:t.ds.l[k].op=d.op
       .have a6:=h_ (show oF t.p d=false by unfold oF;rw[z.out,Q_ (by rw[hp];simp),Q_ o_,Q_ (by simp[List.getD,M_ hk,aq])];rfl);have q:(t.ds.l[k].op !=d.op)=false:=zu aq;exact HL
       .have a6:=h_ (show oF t.p d=true by unfold oF;rw[z.out,Q_ (by rw[hp];simp),Q_ o_,T_ (by simp[List.getD,M_ hk,aq])];rfl);have q:(t.ds.l[k].op !=d.op)=true:=zu aq;exact HL
     .have a6:=h_ (show oF t.p d=true by unfold oF;rw[z.out,T_ (.inr (.inr (.inr o_)))];rfl);exact HN
    .have a6:=h_ (show oF t.p d=true by unfold oF;rw[z.out,T_ (.inr (.inr (.inl o_)))];rfl);exact HN
   .have a6:=h_ (show oF t.p d=true by unfold oF;rw[z.out,T_ (.inr (.inl o_))];rfl);exact HN
 case rest=>
  obtain⟨rfl,F⟩:=hcut;replace O:=O.hG F;replace hD:=hD.hG F;replace hR:=hR.hG F;replace I:=I.trans F
  rcases b5.out with⟨rfl,m⟩|⟨P,rfl,n⟩
  .rw[show oF t.p d=true by unfold oF;rw[m];rfl];clear m b5 au a7 ay F
   go_wp2_with (first|(refine kT O underlying53 ?_)|(refine kQ (t.g_) hR (Tk.one _) ?_;intro aD ar aN))
   exact KA
  .rw[show oF t.p d=false by unfold oF;rw[n];rfl]
   have hP:(aj<0/\P={t.p with ds:=t.ds.l.take (ra t.ds.l d.id d.f)++([d]++t.ds.l.drop (ra t.ds.l d.id d.f))})∨(0<=aj/\P={t.p with ds:=t.ds.l.modify aj.toNat (λx=>{x with v:=(iF d.op x.v d.v).1})}):=by
    unfold take at n;have e:o2 t.p.ds d.id d.f=aj:=a7.out;rw[e]at n;split at n
    .cases n
    .split at n
     .exact .inl ⟨by assumption,by injection n with h;exact h.symm⟩
     .split at n
      .cases n
      .exact .inr ⟨o_,by injection n with h;exact h.symm⟩
   clear n b5 au;have cJ:=ht.hG I;have bX:Sl wc 124 5 t.ds.A t.ds.l.length (t.ds.l.flatMap Dl.E):=cJ.ds;have ce:w.heap.size+1+1+1<=wc.heap.size:=hR.lt;obtain⟨bF,bE,bt,a8,bo⟩:=info_parts infoDl;have bl:wc.cell? (c_ w.heap.size 40)=some (.slice t.ds.A t.ds.l.length t.ds.c):=(O.f_ 40).trans rfl
   rcases hP with⟨bW,hP⟩|⟨L,hP⟩
   .have aR:=h_ hP
    obtain rfl:aj= -1:=by omega
    have bY:=h_ (show ra t.ds.l d.id d.f=0+l_ (nT d.id d.f) (t.ds.l.drop 0) by simp[ra]);have bA:=h_ (show ∀k,k=ra t.ds.l d.id d.f->(t.ds.l.take k++([d]++t.ds.l.drop k)).length=k+(1+(t.ds.l.length-k)) from λk hk=>by have:=po (nT d.id d.f) t.ds.l;unfold ra at hk;simp;omega);clear hP bW F a7
    go_upto_block 0 with(at_builtin;refine iL _ rfl (.const (n_)) (.tmp 61) 51 rfl (w.heap.size+1+1+1) 124 bF _ 5 40 underlying51 bE bt a8 bo rfl d_ d_ none 0 0 [] rfl (iV _ _ _ _) t.ds.A t.ds.l.length t.ds.c _ rfl bX (tj _) o_ ce ?_;intro aO c4 T cG c;simp only[U_,EO]at cG;replace I:=c.gr [] w o_ I;replace O:=c.bk O d_;replace hD:=c.tv hD o_;replace hR:=c.bk hR d_)
    have aw:Ds T aO t.ds.l:=Sl.iT cG;have b7:=jf cG;clear cG c bl bX
    go_cut [8] (λy aX=>∃k:Nat,y=i_ k/\k<=t.ds.l.length/\k=ra t.ds.l d.id d.f/\Gr [] T aX)
    case first=>
     go_wp2_with fail
     go_loopw [8] (λy w'=>∃k:Nat,y=i_ k/\k<=t.ds.l.length/\ra t.ds.l d.id d.f=k+l_ (nT d.id d.f) (t.ds.l.drop k)/\Gr [] T w') (λy _=>t.ds.l.length-(intOf y).toNat)
     case atStart=>exact⟨0,rfl,O_ _,bY.out,F_ _ _⟩
     case round=>
      obtain⟨k,rfl,hk,cQ,F⟩:=hrel;have H:=h_ cQ;clear cQ;have b6:=hD.hG F;have bD:=b6.f_ 0;have bH:=b6.f_ 1;clear b6
      by_cases ag:k<t.ds.l.length
      .have aG:(k:Int)<(t.ds.l.length:Int):=o_;obtain⟨b,off,cU,ad,aT,ck,cn,cv⟩:=(aw.hG F).at_ ag;subst cU
       by_cases t0:t.ds.l[k].id<d.id
       .have bG:=h_ (oo (p:=(nT d.id d.f)) ag (by simp[nT,t0]));have bj:decide (t.ds.l[k].id<d.id)=true:=zu t0;exact Jt
       .have bj:decide (t.ds.l[k].id<d.id)=false:=zu t0
        by_cases t1:t.ds.l[k].id=d.id
        .have bn:(t.ds.l[k].id==d.id)=true:=zu t1
         by_cases af:t.ds.l[k].f<d.f
         .have bG:=h_ (oo (p:=(nT d.id d.f)) ag (by simp[nT,t1,af]));have bI:decide (t.ds.l[k].f<d.f)=true:=zu af;exact Jk
         .have bG:=h_ (nC (p:=(nT d.id d.f)) ag (by simp[nT,t1,af]));have bI:decide (t.ds.l[k].f<d.f)=false:=zu af;exact JS
        .have bG:=h_ (nC (p:=(nT d.id d.f)) ag (by simp[nT,t0,t1]));have bn:(t.ds.l[k].id==d.id)=false:=zu t1;exact JV
      .have bG:=h_ (q8 (p:=(nT d.id d.f)) (l:=t.ds.l) (k:=k) o_);have aG:¬(k:Int)<(t.ds.l.length:Int):=o_;exact Ka
    case rest=>
     obtain⟨k,rfl,hk,aE,F⟩:=hcut;have aP:=h_ aE;clear aE;replace O:=(O.hG F).drew;replace hD:=hD.hG F;replace hR:=(hR.hG F).drew;have z0:=hD.f_ 0;have aM:=hD.f_ 1;have aV:=hD.f_ 2;have z3:=hD.f_ 3;have z4:=hD.f_ 4;replace hD:=hD.drew;have aS:(0:Int)<=(k:Int):=o_;have aJ:(k:Int)<=(t.ds.l.length:Int):=o_;have aG:(k:Int)<=(c4:Int):=o_;have aC:=aw.hG F;have aW:=(Sl.vh py aC hk).hG ((F_ [] wc).alloc (.cells #[i_ d.id,i_ d.f,i_ d.op,.bool d.v.r,i_ d.v.n] 124)).drew;have aU:=(Sl.x3 py aC hk c4 b7).hG ((F_ [] wc).alloc (.cells #[i_ d.id,i_ d.f,i_ d.op,.bool d.v.r,i_ d.v.n] 124)).drew;have Z:=h_ (show ∀u∈(#[i_ d.id,i_ d.f,i_ d.op,.bool d.v.r,i_ d.v.n]:Array Value).toList++(t.ds.l.drop k).flatMap Dl.E,u.oneCell'=true from λu hu=>tj (d::t.ds.l.drop k) u hu);have bT:=kN (s:=5) (P_ wc.drew 124 #[i_ d.id,i_ d.f,i_ d.op,.bool d.v.r,i_ d.v.n]) rfl;have b8:=I.trans F;clear aw F aC I
     go_wp2_with fail
     go_region_held3 (λw'=>w'.cell? (c_ (w.heap.size+1) 0)=some (i_ d.id)/\w'.cell? (c_ (w.heap.size+1) 1)=some (i_ d.f)/\w'.cell? (c_ (w.heap.size+1) 2)=some (i_ d.op)/\w'.cell? (c_ (w.heap.size+1) 3)=some (.bool d.v.r)/\w'.cell? (c_ (w.heap.size+1) 4)=some (i_ d.v.n)) (first|exact dL|exact dM|exact E|go_keep)
      (first
        |(refine mr _ r_ (.tmp 126) (.tmp 129) 51 r_ 124 bF _ 5 40 underlying51 bE bt a8 bo rfl d_ d_ _ 1 _ r_ bT _ (t.ds.l.length-k) _ _ r_ aU (tj _) o_ ?_;intro aY c5 Y G bN ah;have b9:=(hD.alloc (.cells #[i_ d.id,i_ d.f,i_ d.op,.bool d.v.r,i_ d.v.n] 124)).hG ah;have dL:Y.cell? (c_ (w.heap.size+1) 0)=some (i_ d.id)/\Y.cell? (c_ (w.heap.size+1) 1)=some (i_ d.f)/\Y.cell? (c_ (w.heap.size+1) 2)=some (i_ d.op)/\Y.cell? (c_ (w.heap.size+1) 3)=some (.bool d.v.r)/\Y.cell? (c_ (w.heap.size+1) 4)=some (i_ d.v.n):=b9.c5)
        |(refine mr _ r_ (.tmp 124) (.tmp 130) 51 r_ 124 bF _ 5 40 underlying51 bE bt a8 bo rfl d_ d_ _ k _ r_ (aW.hG ah) _ (1+(t.ds.l.length-k)) _ _ r_ bN Z.out o_ ?_;intro aI aF ax bU bS aB;have U:=b9.hG aB;have dM:ax.cell? (c_ (w.heap.size+1) 0)=some (i_ d.id)/\ax.cell? (c_ (w.heap.size+1) 1)=some (i_ d.f)/\ax.cell? (c_ (w.heap.size+1) 2)=some (i_ d.op)/\ax.cell? (c_ (w.heap.size+1) 3)=some (.bool d.v.r)/\ax.cell? (c_ (w.heap.size+1) 4)=some (i_ d.v.n):=U.c5;have az:=U.ih (p:=(c_ w.heap.size 40)) sd_ (.slice aI (k+(1+(t.ds.l.length-k))) aF);have E:(ax.setCell (c_ w.heap.size 40) (.slice aI (k+(1+(t.ds.l.length-k))) aF)).cell? (c_ (w.heap.size+1) 0)=some (i_ d.id)/\(ax.setCell (c_ w.heap.size 40) (.slice aI (k+(1+(t.ds.l.length-k))) aF)).cell? (c_ (w.heap.size+1) 1)=some (i_ d.f)/\(ax.setCell (c_ w.heap.size 40) (.slice aI (k+(1+(t.ds.l.length-k))) aF)).cell? (c_ (w.heap.size+1) 2)=some (i_ d.op)/\(ax.setCell (c_ w.heap.size 40) (.slice aI (k+(1+(t.ds.l.length-k))) aF)).cell? (c_ (w.heap.size+1) 3)=some (.bool d.v.r)/\(ax.setCell (c_ w.heap.size 40) (.slice aI (k+(1+(t.ds.l.length-k))) aF)).cell? (c_ (w.heap.size+1) 4)=some (i_ d.v.n):=az.c5;have bO:=((O.alloc (.cells #[i_ d.id,i_ d.f,i_ d.op,.bool d.v.r,i_ d.v.n] 124)).hG ah).hG aB;have X:=((hR.alloc (.cells #[i_ d.id,i_ d.f,i_ d.op,.bool d.v.r,i_ d.v.n] 124)).hG ah).hG aB;have bl:ax.cell? (c_ w.heap.size 40)=some (.slice t.ds.A t.ds.l.length t.ds.c):=(bO.f_ 40).trans rfl;have f40:=bO.hH 40;have aH:=bO.hW 40 (.slice aI (k+(1+(t.ds.l.length-k))) aF);have ar:=X.ih (p:=(c_ w.heap.size 40)) sd_ (.slice aI (k+(1+(t.ds.l.length-k))) aF);have iM:=bA.out k aP.out;have av:({t with ds:=⟨aI,aF,t.ds.l.take k++([d]++t.ds.l.drop k)⟩}:Tk).g_=t.g_.setIfInBounds 40 (.slice aI (k+(1+(t.ds.l.length-k))) aF):=(by rw[<-iM];rfl);have bi:=h_ av;clear av iM;rw[<-bi.out]at aH))
     go_wp2_with (first|(refine kT aH underlying53 ?_)|(refine kQ (({t with ds:=⟨aI,aF,t.ds.l.take k++([d]++t.ds.l.drop k)⟩}:Tk).g_) ar (Tk.one _) ?_;intro bq ap br))
     all_goals
      refine lT ({t with ds:=⟨aI,aF,t.ds.l.take k++([d]++t.ds.l.drop k)⟩}:Tk).g_ (.bool true) ap underlying53 ?_;unfold m8;rw[aR.out,<-aP.out];have iM:=bA.out k aP.out;have g:=(((((b8.alloc _).drew).trans ah).trans aB).setCell (p:=(c_ w.heap.size 40)) (.inr s_) (.slice aI (k+(1+(t.ds.l.length-k))) aF)).hK br p_;have j:=ht.hG g;have bR:=(bS.iu bO d_ ((F_ [w.heap.size] ax).setCell (p:=(c_ w.heap.size 40)) (.inl s_) (.slice aI (k+(1+(t.ds.l.length-k))) aF))).iu ar d_ br;refine⟨({t with ds:=⟨aI,aF,t.ds.l.take k++([d]++t.ds.l.drop k)⟩}:Tk),rfl,⟨j.gs,j.rs,j.ws,j.nw,j.nr,?_,j.h7,j.x0,j.kZ,j.u_,j.sY,?_,j.pE⟩,rfl,g⟩
      .show Sl bq 124 5 aI (t.ds.l.take k++([d]++t.ds.l.drop k)).length _
       rw[iM,EZ,EZ,Gs];exact bR
      .show(t.ds.l.take k++([d]++t.ds.l.drop k)).length<=aF
       rw[iM];exact bU
   .obtain⟨k,rfl⟩:∃k:Nat,aj=k:=⟨aj.toNat,(Fz L).symm⟩;have hk:k<t.ds.l.length:=o_;have aR:=h_ hP;clear hP L F a7
    go_upto_region 6 with(at_builtin;refine iL _ rfl (.const (n_)) (.tmp 61) 51 rfl (w.heap.size+1+1+1) 124 bF _ 5 40 underlying51 bE bt a8 bo rfl d_ d_ none 0 0 [] rfl (iV _ _ _ _) t.ds.A t.ds.l.length t.ds.c _ rfl bX (tj _) o_ ce ?_;intro aO c4 T cG c;simp only[U_,EO]at cG;replace I:=c.gr [] w o_ I;replace O:=c.bk O d_;replace hD:=c.tv hD o_;replace hR:=c.bk hR d_)
    obtain⟨o,cu,bJ,cw,c9,ca⟩:=kA cG o_;subst bJ;have hv:=Sl.Bq py (Sl.iT cG) hk;have v3:T.cell? (c_ o (k*5+3))=some _:=hv 3 _ rfl;have v4:T.cell? (c_ o (k*5+4))=some _:=hv 4 _ rfl;have b7:=jf cG;have Q:=h_ ca
    have b4:=h_ (show t.ds.l.modify k (λx=>{x with v:=(iF d.op x.v d.v).1})=t.ds.l.set k {t.ds.l[k]with v:=(iF d.op t.ds.l[k].v d.v).1} by
     apply Gv;intro i;rw[G9,GT]
     by_cases e:k=i
     .subst e;simp[hk]
     .simp[e])
    have cq:=(Bk.lZ c9 O d_).symm;have cp:=(Bk.lZ c9 hR d_).symm;clear hv ca cG c bl bX;obtain⟨ao,bK⟩:=mn_ (t.ds.l[k]);rw[bK]at v3 v4 b4;have cg:=h_ bK;clear bK;obtain⟨r,hr⟩:=mn_ (iF d.op ao.v d.v);rw[hr]at b4;have bg:=h_ hr;clear hr;have aV:=hD.f_ 2;have z3:=hD.f_ 3;have z4:=hD.f_ 4;have bV:=O.drew;have K:=hR.drew;have aQ:=c9.drew;have bz:=I.drew
    go_cut [] (λaX=>Bk aX w.heap.size 53 t.g_/\Bk aX (w.heap.size+1+1) 53 lv/\Sl aX 124 5 (j_ o) t.ds.l.length ((t.ds.l.set k {ao with v:=r.1}).flatMap Dl.E)/\Gr [] w aX)
    case first=>
     go_region_with ((go_at_call 164;((with_reducible refine(mD d.op ao.v d.v _).mono ?_);rintro e Y⟨he,ah⟩;unfold qi at he;subst he;rw[bg.out];have cf:=aQ.hG ah;have bu:=Sl.C_ cf Q.out hk;have v5:=bu.1;have cx:=bu.2;clear bu;have f5:=cf.hH (k*5+3);have dS:=cf.hH (k*5+4))))
     all_goals
      go_wp2;go_meet;exact⟨(bV.hG ah).tR cq _ _ _ _,(K.hG ah).tR cp _ _ _ _,zJ Dl.E py hk {ao with v:=r.1} _ _ (by rw[cg.out];rfl) cf Q.out,(bz.trans ah).two (.inr o_) _ _ _ _⟩
    case rest=>
     clear O hR hD c9 bV K aQ bz aV z3 z4 I;obtain⟨O,hR,C,I⟩:=hcut;have bl:wc.cell? (c_ w.heap.size 40)=some (.slice t.ds.A t.ds.l.length t.ds.c):=(O.f_ 40).trans rfl;have f40:=O.hH 40;have cy:Bk (wc.setCell (c_ w.heap.size 40) (.slice (j_ o) t.ds.l.length c4)) w.heap.size 53 ({t with ds:=⟨some (c_ o 0),c4,t.ds.l⟩}:Tk).g_:=O.hW 40 _;have a2:=hR.ih (p:=(c_ w.heap.size 40)) sd_ (.slice (j_ o) t.ds.l.length c4)
     go_wp2_with (first|(refine kT cy underlying53 ?_)|(refine kQ (({t with ds:=⟨some (c_ o 0),c4,t.ds.l⟩}:Tk).g_) a2 (Tk.one _) ?_;intro aD ar aN))
     have av:({t with ds:=⟨some (c_ o 0),c4,t.ds.l.set k {ao with v:=r.1}⟩}:Tk).g_=({t with ds:=⟨some (c_ o 0),c4,t.ds.l⟩}:Tk).g_:=by simp[Tk.g_]
     rw[<-av]at ar;refine lT ({t with ds:=⟨some (c_ o 0),c4,t.ds.l.set k {ao with v:=r.1}⟩}:Tk).g_ (.bool true) ar underlying53 ?_;unfold m8;rw[aR.out];have a:=I.setCell (p:=(c_ w.heap.size 40)) (.inr s_) (.slice (j_ o) t.ds.l.length c4);have g:=a.hK aN p_;have j:=ht.hG g;have bR:=(C.iu O d_ ((F_ [w.heap.size] wc).setCell (p:=(c_ w.heap.size 40)) (.inl s_) (.slice (j_ o) t.ds.l.length c4))).iu a2 d_ aN;refine⟨({t with ds:=⟨some (c_ o 0),c4,t.ds.l.set k {ao with v:=r.1}⟩}:Tk),rfl,⟨j.gs,j.rs,j.ws,j.nw,j.nr,?_,j.h7,j.x0,j.kZ,j.u_,j.sY,?_,j.pE⟩,?_,g⟩
     .show Sl aD 124 5 (j_ o) (t.ds.l.set k _).length _
      rw[ER];exact bR
     .show(t.ds.l.set k _).length<=c4
      rw[ER];exact b7
     .rw[Fi,b4.out]
      rfl
theorem Bf(ht:lb w t)(am:t.ds.l.length<=1000000000)(B:t.nw.l.length<=1000000000)(ak:t.ws.l.length<=1000000000)(V:t.rs.l.length<=1000000000)(h:take t.p d=none):
 Calls prog 126 #[.agg t.g_,.agg #[i_ d.id,i_ d.f,i_ d.op,.bool d.v.r,i_ d.v.n]] w (m8 t.p false w):=tZ t d w ht am B ak V (.inl ⟨rfl,h⟩)
theorem zD(P:i3)(w:World)(ht:lb w t)(am:t.ds.l.length<=1000000000)(B:t.nw.l.length<=1000000000)(ak:t.ws.l.length<=1000000000)(V:t.rs.l.length<=1000000000)(h:take t.p d=some P):
 Calls prog 126 #[.agg t.g_,.agg #[i_ d.id,i_ d.f,i_ d.op,.bool d.v.r,i_ d.v.n]] w (m8 P true w):=tZ t d w ht am B ak V (.inr ⟨P,rfl,h⟩)
theorem ry(A:OA)(c:Nat)(l:List Rw)(id f:Int)(w:World)(ht:lb w t)(h:mj w A c l)(hs:t.p.sm 100000000)(hl:l.length<=100000000)(m:R=m8 t.p false w/\jw t.p (hY l) id f=none∨∃P,R=m8 P true w/\jw t.p (hY l) id f=some P):
 Calls prog 131 #[.agg t.g_,.agg #[.slice A l.length c],i_ id,i_ f] w R:=by
 have bO:t.gs.l.length<=1000000000:=G_ hs.gs d_;have V:t.rs.l.length<=1000000000:=G_ hs.rs d_;have ak:t.ws.l.length<=1000000000:=G_ hs.ws d_;have am:t.ds.l.length<=1000000000:=G_ hs.ds d_
 have B:t.nw.l.length<=100000000:=by have:=hs.nw;rwa [show t.p.nw=hY t.nw.l from rfl,h9]at this
 have hn1:l.length<=1000000000:=o_;have ay:=xo t.ds.l id f;obtain⟨aj,bM⟩:=mn_ (o2 t.ds.l id f);rw[bM]at ay
 have b7:jw t.p (hY l) id f=if aj<0 then some t.p else match jx (before t.p (hY l)) id f with
  |none=>none
  |some b=>if b.r=true then none else some (jX {t.p with rs:=kw t.rs.l ⟨id,f,b⟩,ds:=t.ds.l.eraseIdx aj.toNat} ⟨id,f,(jx (jr t.p (hY l)) id f).getD default⟩):=by rw[<-bM];rfl
 rw[b7]at m;have a7:=h_ bM;clear bM b7;obtain⟨O,z,hR,I⟩:=wt w 53 t.g_ 35 #[.slice A l.length c] 53 lv
 go_enter func131,ntmps131
 go_upto_region 1 with fail
 obtain⟨W,aK⟩:=nm_ (((w.alloc (.cells t.g_ 53)).alloc (.cells #[.slice A l.length c] 35)).alloc (.cells lv 53));rw[<-aK]at O z hR I |-;clear aK;have aQ:=z.f_ 0
 rcases sV aj ay.1 with rfl|⟨k,rfl⟩
 .rw[T_ o_]at m
  rcases m with⟨rfl,m⟩|⟨P,rfl,n⟩
  .cases m
  .injection n with n;subst n
   go_wp2_with (first|(refine kT O underlying53 ?_)|(go_at_call 130;((with_reducible refine(lU t id f _ (ht.hG I) am).mono ?_);rintro e ae⟨rfl,S⟩;rw[a7.out];replace O:=O.hG S;replace z:=z.hG S;replace hR:=hR.hG S;replace I:=I.trans S;replace aQ:=z.f_ 0))|(refine kQ (t.g_) hR (Tk.one _) ?_;intro aD ar aN))
   have g:=I.hK aN p_;exact lT t.g_ (.bool true) ar underlying53 ⟨t,rfl,ht.hG g,rfl,g⟩
 .rw[Q_ o_,Fi]at m;have hk:k<t.ds.l.length:=o_
  cases y:jx (before t.p (hY l)) id f with
  |none=>
   rw[y]at m;simp only at m;have r:=h_ y;clear y
   rcases m with⟨rfl,m⟩|⟨P,rfl,n⟩
   .clear m
    go_wp2_with (first|(refine kT O underlying53 ?_)|(go_at_call 130;((with_reducible refine(lU t id f _ (ht.hG I) am).mono ?_);rintro e ae⟨rfl,S⟩;rw[a7.out];replace O:=O.hG S;replace z:=z.hG S;replace hR:=hR.hG S;replace I:=I.trans S;replace aQ:=z.f_ 0))|(go_at_call 122;((with_reducible refine(oQ t A c l _ (ht.hG I) (h.hG I) hn1 bO V).mono ?_);unfold mf;rintro e T⟨aO,c4,j,rfl,aE,d,Z⟩;have x:=h_ d;have L:=h_ (show j.length=l.length from(by have:=h9 j;rw[d,mB,h9]at this;exact this.symm));clear d;replace O:=O.hG Z;replace z:=z.hG Z;replace hR:=hR.hG Z;replace I:=I.trans Z;replace aQ:=z.f_ 0))|(go_at_call 148;((with_reducible refine(ky aO c4 j id f _ aE.os aE.kZ (ov L.out)).mono ?_);rintro e Y⟨rfl,ah⟩;rw[x.out,r.out];simp only[Gx,GH];replace O:=(O.hG ah).alloc (.cells (V_ (default:Vl)) 38);replace z:=(z.hG ah).alloc (.cells (V_ (default:Vl)) 38);replace hR:=(hR.hG ah).alloc (.cells (V_ (default:Vl)) 38);replace I:=(I.trans ah).alloc (.cells (V_ (default:Vl)) 38);have aZ:=P_ Y 38 (V_ (default:Vl));have U:=aZ.f_ 0;have ad:=aZ.f_ 1;replace aQ:=z.f_ 0))|(refine kQ (t.g_) hR (Tk.one _) ?_;intro aD ar aN))
    exact KA
   .cases n
  |some b=>
   rw[y]at m;simp only at m;have r:=h_ y;clear y
   cases F:b.r with
   |true=>
    rw[T_ F]at m
    rcases m with⟨rfl,m⟩|⟨P,rfl,n⟩
    .clear m;have q:=h_ F;obtain⟨s,a⟩:=b;simp only at F;subst F;clear q
     go_wp2_with (first|(refine kT O underlying53 ?_)|(go_at_call 130;((with_reducible refine(lU t id f _ (ht.hG I) am).mono ?_);rintro e ae⟨rfl,S⟩;rw[a7.out];replace O:=O.hG S;replace z:=z.hG S;replace hR:=hR.hG S;replace I:=I.trans S;replace aQ:=z.f_ 0))|(go_at_call 122;((with_reducible refine(oQ t A c l _ (ht.hG I) (h.hG I) hn1 bO V).mono ?_);unfold mf;rintro e T⟨aO,c4,j,rfl,aE,d,Z⟩;have x:=h_ d;have L:=h_ (show j.length=l.length from(by have:=h9 j;rw[d,mB,h9]at this;exact this.symm));clear d;replace O:=O.hG Z;replace z:=z.hG Z;replace hR:=hR.hG Z;replace I:=I.trans Z;replace aQ:=z.f_ 0))|(go_at_call 148;((with_reducible refine(ky aO c4 j id f _ aE.os aE.kZ (ov L.out)).mono ?_);rintro e Y⟨rfl,ah⟩;rw[x.out,r.out];simp only[Fw,Ga];replace O:=(O.hG ah).alloc (.cells #[.bool true,i_ a] 38);replace z:=(z.hG ah).alloc (.cells #[.bool true,i_ a] 38);replace hR:=(hR.hG ah).alloc (.cells #[.bool true,i_ a] 38);replace I:=(I.trans ah).alloc (.cells #[.bool true,i_ a] 38);have aZ:=P_ Y 38 #[.bool true,i_ a];have U:=aZ.f_ 0;have ad:=aZ.f_ 1;replace aQ:=z.f_ 0))|(refine kQ (t.g_) hR (Tk.one _) ?_;intro aD ar aN))
     exact KA
    .cases n
   |false=>
    rw[Q_ (by rw[F];simp)]at m
    rcases m with⟨rfl,m⟩|⟨P,rfl,n⟩
    .cases m
    .injection n with n;have aR:=h_ n.symm;clear n;obtain⟨s,a⟩:=b;simp only at F;subst F
     go_upto_region 7 with(first|(refine kT O underlying53 ?_)|(go_at_call 130;((with_reducible refine(lU t id f _ (ht.hG I) am).mono ?_);rintro e ae⟨rfl,S⟩;rw[a7.out];replace O:=O.hG S;replace z:=z.hG S;replace hR:=hR.hG S;replace I:=I.trans S;replace aQ:=z.f_ 0))|(go_at_call 122;((with_reducible refine(oQ t A c l _ (ht.hG I) (h.hG I) hn1 bO V).mono ?_);unfold mf;rintro e T⟨aO,c4,j,rfl,aE,d,Z⟩;have x:=h_ d;have L:=h_ (show j.length=l.length from(by have:=h9 j;rw[d,mB,h9]at this;exact this.symm));clear d;replace O:=O.hG Z;replace z:=z.hG Z;replace hR:=hR.hG Z;replace I:=I.trans Z;replace aQ:=z.f_ 0))|(go_at_call 148;((with_reducible refine(ky aO c4 j id f _ aE.os aE.kZ (ov L.out)).mono ?_);rintro e Y⟨rfl,ah⟩;rw[x.out,r.out];simp only[Fw,Ga];replace O:=(O.hG ah).alloc (.cells #[.bool false,i_ a] 38);replace z:=(z.hG ah).alloc (.cells #[.bool false,i_ a] 38);replace hR:=(hR.hG ah).alloc (.cells #[.bool false,i_ a] 38);replace I:=(I.trans ah).alloc (.cells #[.bool false,i_ a] 38);have aZ:=P_ Y 38 #[.bool false,i_ a];have U:=aZ.f_ 0;have ad:=aZ.f_ 1;replace aQ:=z.f_ 0)))
     obtain⟨Q,bL⟩:=nm_ (Y.alloc (.cells #[.bool false,i_ a] 38));rw[<-bL]at O z hR aZ I aQ U ad |-;clear bL;clear aE S Z ah r
     have cH:(jr t.p (hY l)).length<=1000000000:=by
      have h1:=oG (hY t.nw.l) (before t.p (hY l));have e:jr t.p (hY l)=kf (i7 ((hY t.nw.l).foldl lp (before t.p (hY l))) t.ws.l) t.ds.l:=rfl;rw[e,nO,jT];rw[mB,h9,h9]at h1;omega
     obtain⟨u,hu⟩:=mn_ ((jx (jr t.p (hY l)) id f).getD default);have b7:=h_ hu;have cY:=aZ.lt;have a6:=Bk.lZ aZ O d_;have aY:=Bk.lZ aZ hR d_;generalize Y.heap.size=gb at*;clear hu
     go_upto_region 8 with(first|(refine kT O underlying53 ?_)|(go_at_call 79;((with_reducible refine(o8 t A c l _ (ht.hG I) (h.hG I) o_ ak am bO V).mono ?_);unfold mf;rintro e bq⟨b9,cq,N,rfl,aw,dT,br⟩;have aI:=h_ dT;have d1:N.length<=1000000000:=(by have:=h9 N;rw[dT]at this;omega);clear dT;replace O:=O.hG br;replace hR:=hR.hG br;replace aZ:=aZ.hG br;replace I:=I.trans br))|(go_at_call 148;((with_reducible refine(ky b9 cq N id f _ aw.os aw.kZ d1).mono ?_);rintro e X⟨rfl,G⟩;rw[aI.out,b7.out];replace O:=(O.hG G).alloc (.cells (V_ u) 38);replace hR:=(hR.hG G).alloc (.cells (V_ u) 38);replace aZ:=(aZ.hG G).alloc (.cells (V_ u) 38);replace I:=(I.trans G).alloc (.cells (V_ u) 38);have J:=P_ X 38 (V_ u);replace U:=aZ.f_ 0;replace ad:=aZ.f_ 1)))
     obtain⟨bl,bU⟩:=nm_ (X.alloc (.cells (V_ u) 38));rw[<-bU]at O hR aZ I U ad J |-;clear bU;have aH:=Bk.lZ J O d_;have bg:=Bk.lZ J hR d_;generalize X.heap.size=aL at*;clear aw br G;have aP:bl.cell? (c_ w.heap.size 37)=some (.slice t.rs.A t.rs.l.length t.rs.c):=(O.f_ 37).trans rfl
     go_upto_region 9 with(go_at_call 98;((with_reducible refine(q5 t.rs.A t.rs.c t.rs.l ⟨id,f,⟨false,a⟩⟩ _ (ht.hG I).rs V).mono ?_);unfold rX;rintro e cX⟨dg,i,rfl,ag,aF,cQ⟩;replace O:=O.hG cQ;replace aP:cX.cell? (c_ w.heap.size 37)=some (.slice t.rs.A t.rs.l.length t.rs.c):=(O.f_ 37).trans rfl;have cS:=O.hH 37;have cy:Bk (cX.setCell (c_ w.heap.size 37) (.slice dg (kw t.rs.l ⟨id,f,⟨false,a⟩⟩).length i)) w.heap.size 53 ({t with rs:=⟨dg,i,kw t.rs.l ⟨id,f,⟨false,a⟩⟩⟩}:Tk).g_:=O.hW 37 _;replace hR:=(hR.hG cQ).ih (p:=(c_ w.heap.size 37)) sd_ (.slice dg (kw t.rs.l ⟨id,f,⟨false,a⟩⟩).length i);replace J:=(J.hG cQ).ih (p:=(c_ w.heap.size 37)) aH (.slice dg (kw t.rs.l ⟨id,f,⟨false,a⟩⟩).length i);replace ag:Cs (cX.setCell (c_ w.heap.size 37) (.slice dg (kw t.rs.l ⟨id,f,⟨false,a⟩⟩).length i)) dg (kw t.rs.l ⟨id,f,⟨false,a⟩⟩):=Sl.iu ag O d_ ((F_ [w.heap.size] cX).setCell (p:=(c_ w.heap.size 37)) (.inl s_) _);replace I:=(I.trans cQ).setCell (p:=(c_ w.heap.size 37)) (.inr s_) (.slice dg (kw t.rs.l ⟨id,f,⟨false,a⟩⟩).length i)))
     obtain⟨bu,bW⟩:=nm_ (cX.setCell (c_ w.heap.size 37) (.slice dg (kw t.rs.l ⟨id,f,⟨false,a⟩⟩).length i));rw[<-bW]at cy hR J ag I |-;clear bW;clear O aZ U ad aP cS cQ aQ z a6 aY;have O:=cy;clear cy;have a2:bu.cell? (c_ w.heap.size 40)=some (.slice t.ds.A t.ds.l.length t.ds.c):=(O.f_ 40).trans rfl;have f40:=O.hH 40;have aS:(0:Int)<=(k:Int):=o_;have aJ:(k:Int)<=(t.ds.l.length:Int):=o_;have bK:=ht.rS;unfold Sv.ok at bK;have aG:(k:Int)<=(t.ds.c:Int):=o_;have bQ:(0:Int)<=(k:Int)+1:=o_;have b4:(k:Int)+1<=(t.ds.l.length:Int):=o_;have bS:(k:Int)+1<=(t.ds.c:Int):=o_;obtain⟨bF,bE,bt,a8,bo⟩:=info_parts infoDl;have de:=(ht.hG I.drew).ds;have aW:=Sl.vh py de (show k<=t.ds.l.length by omega);have aU:=Sl.x3 py de (show k+1<=t.ds.l.length by omega) t.ds.c bK;have bV:=O.drew;have K:=hR.drew;have aB:=J.drew;have ax:=Sl.drew ag;have bz:=I.drew;have dx:IntKind.i64.wrap ((k:Int)+1)=(k:Int)+1:=E2 _ o_;have dW:((k:Int)+1).toNat=k+1:=o_;have aq:=h_ (show t.ds.l.take k++t.ds.l.drop (k+1)=t.ds.l.eraseIdx k from(List.eraseIdx_eq_take_drop_succ ..).symm)
     go_cut [] (λaX=>∃(H:OA) (af:Nat),Bk aX w.heap.size 53 ({t with rs:=⟨dg,i,kw t.rs.l ⟨id,f,⟨false,a⟩⟩⟩,ds:=⟨H,af,t.ds.l.eraseIdx k⟩}:Tk).g_/\Bk aX (w.heap.size+1+1) 53 lv/\Bk aX aL 38 (V_ u)/\Cs aX dg (kw t.rs.l ⟨id,f,⟨false,a⟩⟩)/\Ds aX H (t.ds.l.eraseIdx k)/\(t.ds.l.eraseIdx k).length<=af/\Gr [] w aX)
     case first=>
      go_region_law (refine mr _ r_ (.tmp 59) (.tmp 64) 51 r_ 124 bF _ 5 40 underlying51 bE bt a8 bo rfl d_ d_ _ k _ r_ aW _ (t.ds.l.length-(k+1)) _ _ r_ aU (tj _) o_ ?_;intro C v dh aV aM aC;have ap:=bV.hG aC;have z41:dh.cell? (c_ w.heap.size 40)=some (.slice t.ds.A t.ds.l.length t.ds.c):=((ap.f_ 40).trans rfl);have be:=ap.hH 40)
      all_goals
       go_wp2
       all_goals
        go_meet
        have ao:(t.ds.l.eraseIdx k).length=k+(t.ds.l.length-(k+1)):=by rw[<-aq.out];simp;omega
        have av:({t with rs:=⟨dg,i,kw t.rs.l ⟨id,f,⟨false,a⟩⟩⟩,ds:=⟨C,v,t.ds.l.eraseIdx k⟩}:Tk).g_=({t with rs:=⟨dg,i,kw t.rs.l ⟨id,f,⟨false,a⟩⟩⟩}:Tk).g_.setIfInBounds 40 (.slice C (k+(t.ds.l.length-(k+1))) v):=by rw[<-ao];rfl
        have az:=ap.hW 40 (.slice C (k+(t.ds.l.length-(k+1))) v);rw[<-av]at az;have M:=(F_ [w.heap.size] dh).setCell (p:=(c_ w.heap.size 40)) (.inl s_) (.slice C (k+(t.ds.l.length-(k+1))) v);have au:=aM.iu ap d_ M;rw[<-EZ,aq.out,<-ao]at au;refine⟨C,v,az,(K.hG aC).ih (p:=(c_ w.heap.size 40)) sd_ _,(aB.hG aC).ih (p:=(c_ w.heap.size 40)) aH _,Sl.iu (Sl.hG ax aC) ap d_ M,?_,by rw[ao];exact aV,(bz.trans aC).setCell (.inr s_) _⟩;rw[ao]at au;unfold Ds;rw[ao];exact au
     case rest=>
      clear O hR J ag bV K aB ax bz a2 f40 aW aU de aq aS aJ aG bQ b4 bS dx dW I;obtain⟨H,af,O,hR,J,D,hD,aT,I⟩:=hcut;have U:=J.f_ 0;have ad:=J.f_ 1;have o:=ht.hG I;have E:lb wc ({t with rs:=⟨dg,i,kw t.rs.l ⟨id,f,⟨false,a⟩⟩⟩,ds:=⟨H,af,t.ds.l.eraseIdx k⟩}:Tk):=⟨o.gs,D,o.ws,o.nw,o.nr,hD,o.h7,o.x0,aF,o.u_,o.sY,aT,o.pE⟩
      go_wp2_with (first|(refine kT O underlying53 ?_)|(go_at_call 132;((with_reducible refine(rn ({t with rs:=⟨dg,i,kw t.rs.l ⟨id,f,⟨false,a⟩⟩⟩,ds:=⟨H,af,t.ds.l.eraseIdx k⟩}:Tk) ⟨id,f,u⟩ _ E (by show t.nw.l.length<=1000000000;omega) ak).mono ?_);unfold tC;rintro e fY⟨t3,rfl,cJ,bJ,cD⟩;have ai:=h_ bJ;clear bJ;replace hR:=hR.hG cD))|(refine kQ (t3.g_) hR (Tk.one _) ?_;intro aD ar aN))
      have g:=(I.trans cD).hK aN p_;refine lT t3.g_ (.bool true) ar underlying53 ⟨t3,rfl,cJ.iu hR sE aN,?_,g⟩;rw[ai.out,aR.out,b7.out]
      rfl
theorem t_(A:OA)(c:Nat)(l:List Rw)(id f:Int)(w:World)(ht:lb w t)(h:mj w A c l)(hs:t.p.sm 100000000)(hl:l.length<=100000000)(m:jw t.p (hY l) id f=none):
 Calls prog 131 #[.agg t.g_,.agg #[.slice A l.length c],i_ id,i_ f] w (m8 t.p false w):=ry t A c l id f w ht h hs hl (.inl ⟨rfl,m⟩)
theorem sM(A:OA)(c:Nat)(l:List Rw)(id f:Int)(P:i3)(w:World)(ht:lb w t)(h:mj w A c l)(hs:t.p.sm 100000000)(hl:l.length<=100000000)(hy:jw t.p (hY l) id f=some P):
 Calls prog 131 #[.agg t.g_,.agg #[.slice A l.length c],i_ id,i_ f] w (m8 P true w):=ry t A c l id f w ht h hs hl (.inr ⟨P,rfl,hy⟩)
theorem infoInt:(prog.info? 3).map (λi=>(i.zero,i.size,i.bytes))=some (some (i_ 0),1,8):=by kernel_rfl
theorem Bk.Ai{w:World}{t e:TypeId}{cs:Array Value}(h:Bk w g t cs)(ao:e≠t):∀c fz,w.heap[g]?≠some (.cells c e fz):=JC
def kF(l:List In)(hI hF:Int):List Int:=if ic l hI hF=true then(List.range (hF.toNat+1)).map Int.ofNat else[]
def CX(P:List Int)(w:World)(e:Ending)(w':World):Prop:=∃(A:OA) (d:Nat),e=.returned (.agg #[.slice A P.length d])/\Ns w' 3 A P/\P.length<=d/\Gr [] w w'
theorem Ak(l:List In):0<=jG l/\jG l<=l.length:=by
 unfold jG
 have:=Fl (λi:In=>i.op==21) l
 omega
theorem kl{l:List In}{hI hF:Int}(h:ic l hI hF=true):1<=l.length/\l.length<=2048/\0<=hI/\hI<=64/\0<=hF/\hF<=2048:=by
 have hm:=Ak l;unfold ic at h;simp only[ES,Fr,beq_iff_eq]at h;obtain⟨⟨⟨⟨⟨⟨⟨⟨h1,h2⟩,h3⟩,au⟩,_⟩,_⟩,_⟩,_⟩,aM⟩:=h;omega
theorem y0(l:List In)(hI hF:Int)(w:World)(h:Is w A l)(hn:l.length<=1000000000):
 Calls prog 90 #[.agg #[.slice A l.length c,i_ hI,i_ hF]] w (CX (kF l hI hF) w):=by
 obtain⟨bF,bE,bt,a8,bo⟩:=info_parts infoInt;obtain⟨D,hR,hD,I⟩:=wt w 26 #[.slice A l.length c,i_ hI,i_ hF] 32 #[n_] 32 #[n_]
 cases hv:ic l hI hF with
 |false=>
  have aX:=h_ (show kF l hI hF=[] by unfold kF;rw[hv];simp)
  go_enter func90,ntmps90
  go_upto_region 2 with fail
  obtain⟨W,aK⟩:=nm_ (((w.alloc (.cells #[.slice A l.length c,i_ hI,i_ hF] 26)).alloc (.cells #[n_] 32)).alloc (.cells #[n_] 32));rw[<-aK]at D hR hD I |-;clear aK;have z0:=D.f_ 0;have aM:=D.f_ 1;have aV:=D.f_ 2
  go_wp2_with (go_at_call 92;have af:=iS A c l hI hF _ (h.hG I) hn;rw[hv]at af;refine af.mono ?_;rintro e Y⟨rfl,hg⟩;replace hR:=hR.hG hg;replace hD:=hD.hG hg;replace I:=I.trans hg;have U:=hD.f_ 0;have bj:=hR.f_ 0;have bH:=hR.hH 0)
  refine rr_ #[n_] (hR.hW 0 (n_)) underlying32 ?_;unfold CX;rw[aX.out];exact⟨none,0,rfl,Fm _ _ _ _,H_ _,I.setCell (.inr s_) _⟩
 |true=>
  obtain⟨b1,b2,b3,dJ,ev,dZ⟩:=kl hv;obtain⟨n,rfl⟩:∃n:Nat,hF=n:=⟨hF.toNat,o_⟩;have aX:=h_ (show kF l hI n=(List.range (n+1)).map Int.ofNat by unfold kF;rw[hv];simp)
  go_enter func90,ntmps90
  go_upto_region 2 with fail
  obtain⟨W,aK⟩:=nm_ (((w.alloc (.cells #[.slice A l.length c,i_ hI,i_ (n:Int)] 26)).alloc (.cells #[n_] 32)).alloc (.cells #[n_] 32));rw[<-aK]at D hR hD I |-;clear aK;have z0:=D.f_ 0;have aM:=D.f_ 1;have aV:=D.f_ 2;have a:w.heap.size+1+1+1<=W.heap.size:=ov hD.lt
  go_wp2_with (go_at_call 92;have af:=iS A c l hI n _ (h.hG I) hn;rw[hv]at af;refine af.mono ?_;rintro e Y⟨rfl,hg⟩;replace D:=D.hG hg;replace hR:=hR.hG hg;replace hD:=hD.hG hg;replace I:=I.trans hg;replace z0:=D.f_ 0;replace aM:=D.f_ 1;replace aV:=D.f_ 2;have U:=hD.f_ 0)
  replace a:=G_ a hg.size;clear z0 aM aV U hg a
  go_loopw [4] (λi wr=>∃(k:Nat) (A':OA) (c':Nat),k<=n+1/\i=i_ k/\wr.ownsRow (w.heap.size+1+1+1) 3 1 (.slice A' k c') k ((List.range k).map λj:Nat=>Value.int .i64 j)/\Bk wr w.heap.size 26 #[.slice A l.length c,i_ hI,i_ (n:Int)]/\Bk wr (w.heap.size+1) 32 #[n_]/\Bk wr (w.heap.size+1+1) 32 #[.slice A' k c']/\Gr [] w wr) (λi _=>n+1-(intOf i).toNat)
  case atStart=>exact⟨0,none,0,O_ _,rfl,iV _ _ _ _,D,hR,hD,I⟩
  case round=>
   clear D hR hD I;obtain⟨k,A',c',hk,rfl,aF,D,hR,hD,F⟩:=hrel;have a:w.heap.size+1+1+1<=wr.heap.size:=ov hD.lt
   by_cases ag:k<n+1
   .have aJ:(k:Int)<=(n:Int):=o_;have aY:=iK aF ((F_ [] wr).alloc (.cells #[i_ (k:Int)] 3));have aQ:Sl (wr.alloc (.cells #[i_ (k:Int)] 3)) 3 1 (j_ wr.heap.size) 1 [i_ (k:Int)]:=kN (s:=1) (P_ wr 3 #[i_ (k:Int)]) rfl;have t:w.heap.size+1+1+1<=(wr.alloc (.cells #[i_ (k:Int)] 3)).heap.size:=p_;have aV:=D.f_ 2;have ad:=hD.f_ 0;replace D:=D.alloc (.cells #[i_ (k:Int)] 3);replace hR:=hR.alloc (.cells #[i_ (k:Int)] 3);replace hD:=hD.alloc (.cells #[i_ (k:Int)] 3);replace F:=F.alloc (.cells #[i_ (k:Int)] 3)
    go_wp2_with (at_builtin;refine iL _ rfl (.tmp 14) (.tmp 16) 30 rfl (w.heap.size+1+1+1) 3 bF _ 1 8 underlying30 bE bt a8 bo rfl d_ d_ A' k c' _ rfl aY _ 1 1 _ rfl aQ (by intro u hu;simp at hu;subst hu;rfl) o_ t ?_;intro av ai w2 aq ao;replace D:=ao.bk D d_;replace hR:=ao.bk hR d_;replace hD:=ao.bk hD d_;replace F:=ao.gr [] w o_ F;have b8:=hD.hH 0;have ar:=hD.f_ 0)
    go_roundw
    case rel=>exact⟨k+1,av,ai,o_,gn,(by simpa[List.range_succ]using ko (x:=w.heap.size+1+1) aq (hD.Ai d_) ((F_ _ _).setCell (.inl s_) _)),D.ih (p:=(c_ (w.heap.size+1+1) 0)) sd_ _,hR.ih (p:=(c_ (w.heap.size+1+1) 0)) sd_ _,hD.hW 0 _,F.setCell (.inr p_) _⟩
    case measure=>exact mz
   .have aJ:¬(k:Int)<=(n:Int):=o_;have bQ:=h_ (show k=n+1 by omega);have aV:=D.f_ 2;have U:=hD.f_ 0;have bH:=hR.hH 0;have bj:=hR.f_ 0;go_wp2;refine rr_ #[.slice A' k c'] (hR.hW 0 (.slice A' k c')) underlying32 ?_;unfold CX;rw[aX.out];have M:=F.setCell (p:=(c_ (w.heap.size+1) 0)) (.inr s_) (.slice A' k c');have cN:=Sl.iT (ko (x:=w.heap.size+1) aF (hR.Ai d_) ((F_ [w.heap.size+1] wr).setCell (p:=(c_ (w.heap.size+1) 0)) (.inl s_) (.slice A' k c')));refine⟨A',c',by rw[bQ.out];simp,?_,by have:=jf aF;have:=bQ.out;simp;omega,M⟩;unfold Ns;rw[bQ.out]at cN |-
    simpa[List.map_map,Function.comp_def]using cN
def m7(P:i3)(n:Int)(w:World)(e:Ending)(w':World):Prop:=∃t:Tk,e=.returned (.tuple #[.agg t.g_,i_ n])/\lb w' t/\t.p=P/\Gr [] w w'
def s2(hS run:Int)(ik:Bool):Tk:={Tk.zero with hS:=hS,run:=run,ik:=ik,pc:=hS}
def q6(hS run:Int)(ik:Bool):Tk:={Tk.zero with hS:=hS,run:=run,ik:=ik,pc:=hS,h8:=1,next:=hS+1}
theorem uS(l:List In)(hI hF hS run:Int)(ik:Bool)(w:World)(h:Is w A l)(hn:l.length<=1000000000)(b6: -1000000000<=hS)(bE:hS<=1000000000)(bD:0<=run)(bJ:run<=1099511627776)(hv:ic l hI hF=false):
 Calls prog 49 #[.agg #[.slice A l.length c,i_ hI,i_ hF],i_ hS,i_ run,.bool ik,n_] w (m7 Tk.zero.p 1 w):=by
 obtain⟨D,hR,I⟩:=qh w 26 #[.slice A l.length c,i_ hI,i_ hF] 53 lv
 go_enter func49,ntmps49
 go_upto_region 1 with fail
 obtain⟨W,aK⟩:=nm_ ((w.alloc (.cells #[.slice A l.length c,i_ hI,i_ hF] 26)).alloc (.cells lv 53));rw[<-aK]at D hR I |-;clear aK;have z0:=D.f_ 0;have aM:=D.f_ 1;have aV:=D.f_ 2
 go_wp2_with (first|(go_at_call 92;have af:=iS A c l hI hF _ (h.hG I) hn;rw[hv]at af;refine af.mono ?_;rintro e Y⟨rfl,hg⟩;replace hR:=hR.hG hg;replace I:=I.trans hg;clear hg)|(refine kQ (Tk.zero.g_) hR (Tk.one _) ?_;intro bq ap br))
 have g:=I.hK br s_;exact lT Tk.zero.g_ (i_ 1) ap underlying53 ⟨Tk.zero,rfl,lb.nil _ _ rfl rfl rfl rfl rfl rfl,rfl,g⟩
theorem uR(l:List In)(hI hF hS run:Int)(ik:Bool)(w:World)(h:Is w A l)(hn:l.length<=1000000000)(b6: -1000000000<=hS)(bE:hS<=1000000000)(bD:0<=run)(bJ:run<=1099511627776)(hv:ic l hI hF=true)(hb:mO l hS=false):
 Calls prog 49 #[.agg #[.slice A l.length c,i_ hI,i_ hF],i_ hS,i_ run,.bool ik,n_] w (m7 Tk.zero.p 2 w):=by
 obtain⟨D,hR,I⟩:=qh w 26 #[.slice A l.length c,i_ hI,i_ hF] 53 lv
 go_enter func49,ntmps49
 go_upto_region 1 with fail
 obtain⟨W,aK⟩:=nm_ ((w.alloc (.cells #[.slice A l.length c,i_ hI,i_ hF] 26)).alloc (.cells lv 53));rw[<-aK]at D hR I |-;clear aK;have z0:=D.f_ 0;have aM:=D.f_ 1;have aV:=D.f_ 2
 go_wp2_with (first|(go_at_call 92;have af:=iS A c l hI hF _ (h.hG I) hn;rw[hv]at af;refine af.mono ?_;rintro e Y⟨rfl,hg⟩;replace D:=D.hG hg;replace hR:=hR.hG hg;replace I:=I.trans hg;replace z0:=D.f_ 0;replace aM:=D.f_ 1;replace aV:=D.f_ 2;clear hg)|(go_at_call 97;have af:=lV A c l hI hF hS _ (h.hG I) hn b6 bE;rw[hb]at af;refine af.mono ?_;rintro e Y⟨rfl,hg⟩;replace hR:=hR.hG hg;replace I:=I.trans hg;clear hg)|(refine kQ (Tk.zero.g_) hR (Tk.one _) ?_;intro bq ap br))
 have g:=I.hK br s_;exact lT Tk.zero.g_ (i_ 2) ap underlying53 ⟨Tk.zero,rfl,lb.nil _ _ rfl rfl rfl rfl rfl rfl,rfl,g⟩
theorem xv(l:List In)(hI hF hS run:Int)(ik:Bool)(w:World)(h:Is w A l)(hn:l.length<=1000000000)(b6: -1000000000<=hS)(bE:hS<=1000000000)(bD:0<=run)(bJ:run<=1099511627776)(hv:ic l hI hF=true)(hb:mO l hS=true)(ha:jB l hI hF hS=false):
 Calls prog 49 #[.agg #[.slice A l.length c,i_ hI,i_ hF],i_ hS,i_ run,.bool ik,n_] w (m7 (s2 hS run ik).p 0 w):=by
 obtain⟨D,hR,I⟩:=qh w 26 #[.slice A l.length c,i_ hI,i_ hF] 53 lv
 go_enter func49,ntmps49
 go_upto_region 1 with fail
 obtain⟨W,aK⟩:=nm_ ((w.alloc (.cells #[.slice A l.length c,i_ hI,i_ hF] 26)).alloc (.cells lv 53));rw[<-aK]at D hR I |-;clear aK;have z0:=D.f_ 0;have aM:=D.f_ 1;have aV:=D.f_ 2;have a8:(run<0)=False:=p_;have bo:((1099511627776:Int)<run)=False:=p_
 go_upto_region 5 with(first|(go_at_call 92;have af:=iS A c l hI hF _ (h.hG I) hn;rw[hv]at af;refine af.mono ?_;rintro e Y⟨rfl,hg⟩;replace D:=D.hG hg;replace hR:=hR.hG hg;replace I:=I.trans hg;replace z0:=D.f_ 0;replace aM:=D.f_ 1;replace aV:=D.f_ 2;clear hg)|(go_at_call 97;have af:=lV A c l hI hF hS _ (h.hG I) hn b6 bE;rw[hb]at af;refine af.mono ?_;rintro e Y⟨rfl,hg⟩;replace D:=D.hG hg;replace hR:=hR.hG hg;replace I:=I.trans hg;replace z0:=D.f_ 0;replace aM:=D.f_ 1;replace aV:=D.f_ 2;clear hg))
 have cN:=hR.lt;have bt:=P_ Y 53 lv;replace D:=D.alloc (.cells lv 53);replace hR:=hR.alloc (.cells lv 53);replace I:=I.alloc (.cells lv 53);have M:w.heap.size<=Y.heap.size:=o_
 go_upto_region 6 with(refine kQ ((s2 hS run ik).g_) bt (Tk.one _) ?_;intro ax a aB)
 replace D:=D.gr aB sd_;replace hR:=hR.gr aB sd_;replace I:=I.hK aB p_;have bt:=a;clear a aB z0 aM aV;generalize Y.heap.size=gn at*;have z0:=D.f_ 0;have aM:=D.f_ 1;have aV:=D.f_ 2;go_wp2
 go_loopw [40] (λi wr=>i=i_ 0/\wr=ax) (λi _=>0)
 case atStart=>exact⟨rfl,rfl⟩
 case round=>
  obtain⟨rfl,rfl⟩:=hrel
  go_wp2_with (first|(go_at_call 83;have af:=lr A c l hI hF hS _ (h.hG I) hn;rw[ha]at af;refine af.mono ?_;rintro e Y⟨rfl,hg⟩;replace hR:=hR.hG hg;replace bt:=bt.hG hg;replace I:=I.trans hg;clear hg)|(refine kT bt underlying53 ?_)|(refine kQ ((s2 hS run ik).g_) hR (Tk.one _) ?_;intro bq ap br))
  have g:=I.hK br s_;exact lT (s2 hS run ik).g_ (i_ 0) ap underlying53 ⟨(s2 hS run ik),rfl,lb.nil _ _ rfl rfl rfl rfl rfl rfl,rfl,g⟩
theorem v_(l:List In)(hI hF hS run:Int)(ik:Bool)(w:World)(h:Is w A l)(hn:l.length<=1000000000)(b6: -1000000000<=hS)(bE:hS<=1000000000)(bD:0<=run)(bJ:run<=1099511627776)(hv:ic l hI hF=true)(hb:mO l hS=true)(ha:jB l hI hF hS=true):
 Calls prog 49 #[.agg #[.slice A l.length c,i_ hI,i_ hF],i_ hS,i_ run,.bool ik,n_] w (m7 (q6 hS run ik).p 0 w):=by
 obtain⟨D,hR,I⟩:=qh w 26 #[.slice A l.length c,i_ hI,i_ hF] 53 lv
 go_enter func49,ntmps49
 go_upto_region 1 with fail
 obtain⟨W,aK⟩:=nm_ ((w.alloc (.cells #[.slice A l.length c,i_ hI,i_ hF] 26)).alloc (.cells lv 53));rw[<-aK]at D hR I |-;clear aK;have z0:=D.f_ 0;have aM:=D.f_ 1;have aV:=D.f_ 2;have a8:(run<0)=False:=p_;have bo:((1099511627776:Int)<run)=False:=p_
 go_upto_region 5 with(first|(go_at_call 92;have af:=iS A c l hI hF _ (h.hG I) hn;rw[hv]at af;refine af.mono ?_;rintro e Y⟨rfl,hg⟩;replace D:=D.hG hg;replace hR:=hR.hG hg;replace I:=I.trans hg;replace z0:=D.f_ 0;replace aM:=D.f_ 1;replace aV:=D.f_ 2;clear hg)|(go_at_call 97;have af:=lV A c l hI hF hS _ (h.hG I) hn b6 bE;rw[hb]at af;refine af.mono ?_;rintro e Y⟨rfl,hg⟩;replace D:=D.hG hg;replace hR:=hR.hG hg;replace I:=I.trans hg;replace z0:=D.f_ 0;replace aM:=D.f_ 1;replace aV:=D.f_ 2;clear hg))
 have cN:=hR.lt;have bt:=P_ Y 53 lv;replace D:=D.alloc (.cells lv 53);replace hR:=hR.alloc (.cells lv 53);replace I:=I.alloc (.cells lv 53);have M:w.heap.size<=Y.heap.size:=o_
 go_upto_region 6 with(refine kQ ((s2 hS run ik).g_) bt (Tk.one _) ?_;intro ax a aB)
 replace D:=D.gr aB sd_;replace hR:=hR.gr aB sd_;replace I:=I.hK aB p_;have bt:=a;clear a aB z0 aM aV;generalize Y.heap.size=gn at*;have z0:=D.f_ 0;have aM:=D.f_ 1;have aV:=D.f_ 2;go_wp2
 go_loopw [40] (λi wr=>i=i_ 0/\wr=ax) (λi _=>0)
 case atStart=>exact⟨rfl,rfl⟩
 case round=>
  obtain⟨rfl,rfl⟩:=hrel
  go_upto_region 12 with(go_at_call 83;have af:=lr A c l hI hF hS _ (h.hG I) hn;rw[ha]at af;refine af.mono ?_;rintro e Y⟨rfl,hg⟩;replace hR:=hR.hG hg;replace bt:=bt.hG hg;replace I:=I.trans hg;clear hg)
  have bF:=bt.hH 42;have f43:=bt.hH 43;have f:Bk _ gn 53 (q6 hS run ik).g_:=(bt.hW 42 (i_ 1)).hW 43 (i_ (hS+1));replace hR:=(hR.ih (p:=(c_ gn 42)) sd_ (i_ 1)).ih (p:=(c_ gn 43)) sd_ (i_ (hS+1));replace I:=(I.setCell (p:=(c_ gn 42)) (.inr p_) (i_ 1)).setCell (p:=(c_ gn 43)) (.inr p_) (i_ (hS+1));have d:Y.cell? (c_ gn 42)=some (i_ 0):=(bt.f_ 42).trans rfl;have b:Y.cell? (c_ gn 43)=some (i_ 0):=(bt.f_ 43).trans rfl
  go_wp2_with (first|(refine kT f underlying53 ?_)|(refine kQ ((q6 hS run ik).g_) hR (Tk.one _) ?_;intro bq ap br))
  have g:=I.hK br s_;exact lT (q6 hS run ik).g_ (i_ 0) ap underlying53 ⟨(q6 hS run ik),rfl,lb.nil _ _ rfl rfl rfl rfl rfl rfl,rfl,g⟩
def jo(l:List In)(hI hF hS run:Int)(ik:Bool):i3 × Int:=
 if ic l hI hF=false then(Tk.zero.p,1) else if mO l hS=false then(Tk.zero.p,2) else
 if jB l hI hF hS=true then((q6 hS run ik).p,0) else((s2 hS run ik).p,0)
theorem nW(l:List In)(hI hF hS run:Int)(ik:Bool)(w:World)(h:Is w A l)(hn:l.length<=1000000000)(b6: -1000000000<=hS)(bE:hS<=1000000000)(bD:0<=run)(bJ:run<=1099511627776):
 Calls prog 49 #[.agg #[.slice A l.length c,i_ hI,i_ hF],i_ hS,i_ run,.bool ik,n_] w (m7 (jo l hI hF hS run ik).1 (jo l hI hF hS run ik).2 w):=by
 unfold jo
 cases hv:ic l hI hF with
 |false=>exact uS A c l hI hF hS run ik w h hn b6 bE bD bJ hv
 |true=>
  cases hb:mO l hS with
  |false=>exact uR A c l hI hF hS run ik w h hn b6 bE bD bJ hv hb
  |true=>
   cases ha:jB l hI hF hS with
   |false=>exact xv A c l hI hF hS run ik w h hn b6 bE bD bJ hv hb ha
   |true=>exact v_ A c l hI hF hS run ik w h hn b6 bE bD bJ hv hb ha
end Go.Proofs.YtenbhdilndfaeaaGreat
