import Derived.Test.YtenbhdilndfaeaaGreatM07
set_option maxRecDepth 100000
set_option maxHeartbeats 0
set_option linter.all false
namespace Go.Proofs.YtenbhdilndfaeaaGreat
open Go.RowKit Go.Proofs.Tryz
variable{G:Prop}{z:Int}{k:Nat}{h:List Ob}{e:TypeId}{xs:List Value}{w':World}{M:List Nat}(base:Nat)(o:Int)(w:World)
theorem Hb(h:G:=by
 go_wp2_with ((go_at_call 147;have ak:=qH _ c l hq g9 k g _ (h.g_ hg1) (C.g_ hg1) aH o_;rw[hL,hf]at ak;refine ak.mono ?_;rintro e ae⟨rfl,hg⟩;replace t:=t.g_ hg;have Z:=t.f_ 0;have aV:=t.f_ 4;replace hg1:=hg1.trans hg;replace az:=hB.g_ hg1;clear z0 aS aX;have z0:=az.f_ 0;have aS:=az.f_ 1;have aX:=az.f_ 2;clear hg))
 go_ret;exact⟨iq D.out.symm,J.trans hg1⟩):G:=h
theorem Hj(h:G:=by
 go_enter func97,ntmps97
 go_wp2_with (go_at_call 133;refine(p4 A c l hq g9 _ _ (h.g_ hg1) hn).mono ?_;rintro e ae⟨rfl,hg⟩;replace hg1:=hg1.trans hg;replace hB:=hB.g_ hg;have z0:=hB.f_ 0;have aS:=hB.f_ 1;have aX:=hB.f_ 2;clear hg)
 exact Jh):G:=h
theorem HL(h:G:=by
 have av:((n:Int)<1)=False:=by simp;omega
 have bf:(2048<(n:Int))=False:=by simp;omega
 have y:(hq<0)=False:=by simp;omega
 have E:(64<hq)=False:=by simp;omega
 exact Kf):G:=h
theorem Ie(h:G:=by
 have M:=h_ (show qI l hq g9 d=false by unfold qI;rw[aR.out,oO (p:=bad d g9) a (by rw[Fg];exact aT.out)];rfl);clear aR aT;go_wp2;go_ret;exact⟨iq M.out.symm,J.trans F⟩):G:=h
theorem Jh(h:G:=by
 go_ret;exact⟨iq (by first|exact D.out.symm|(rw[D.out];simp[a,d,e])|(rw[D.out];simp[a])),hg1⟩):G:=h
theorem Jp(h:G:=by
 exact dj.h7 (((D_ [w.heap.size] w2).setCell (.inl s_) _).setCell (.inl s_) _) (by simpa using hB)):G:=h
theorem J0(h:G:=by
 go_enter func147,ntmps147
 go_wp2;go_ret;exact⟨iq ak.out.symm,J.alloc _⟩):G:=h
theorem Kf(h:G:=by
 go_enter func92,ntmps92
 go_wp2;go_ret;exact⟨iq D.out.symm,J⟩):G:=h
def Ch(v:Vl):Prop:= -9<=v.n/\v.n<=11/\(v.r=true->0<=v.n)
structure DF(h:List Ob):Prop where
 size:h.length<=5
 ids:∀o∈h,1<=o.id/\o.id<=100
 fields:∀o∈h,o.fs.length<=3/\∀v∈o.fs,Ch v
 nodup:(h.map Ob.id).Nodup
theorem xO(B g:Nat)(w:World)(hd:iE w B g)(hB:B<=w.heap.size):
 Calls prog 64 #[q_ g] w λe w'=>∃v:Vl,e=.returned (.agg (V_ v))/\Ch v/\iE w' B g/\Gr [g] w w':=by
 have a8:=hd.vl;have bh:=hd.g_ ((D_ [] w).alloc (.cells #[.bool false,i_ 0] 38));have aT:Bk (w.alloc (.cells #[.bool false,i_ 0] 38)) w.heap.size 38 #[.bool false,i_ 0]:=L_ w _ _;have E:Gr [g] w (w.alloc (.cells #[.bool false,i_ 0] 38)):=(D_ [g] w).alloc _
 go_enter func64,ntmps64
 go_wp2_with fail
 go_at_call 19
 refine(h8 B g 2 _ bh o_ o_).mono ?_;rintro e w1⟨r,rfl,bu,bD,ct,ad⟩;have bB:=aT.gr ad p_;have bV:=E.trans ad;clear bh aT E ad
 by_cases hr:r=0
 .subst hr;clear bu bD
  go_wp2_with (go_at_call 19;refine(h8 B g 7 _ ct o_ o_).mono ?_;rintro e w2⟨s,rfl,H,bT,dj,S⟩;have n:=bB.gr S p_;have N:=bV.trans S;obtain⟨bX,cg⟩:=n.iB;have O:=n.hm 0;have C:=n.hm 1)
  have d:=(n.hJ 0 (.bool false)).hJ 1 (i_ (s-2));refine D8 (EV rfl _ _ _ _ _ _ _ rfl d underlying38 rfl k_) rfl ⟨⟨false,s-2⟩,rfl,⟨by simp only;omega,by simp only;omega,by simp⟩,?_,(N.setCell (.inr s_) _).setCell (.inr s_) _⟩;exact Jp
 .have hr:(r==0)=false:=by simp[hr]
  clear bu bD
  go_wp2_with (go_at_call 19;refine(h8 B g 12 _ ct o_ o_).mono ?_;rintro e w2⟨s,rfl,H,bT,dj,S⟩;have n:=bB.gr S p_;have N:=bV.trans S;obtain⟨bX,cg⟩:=n.iB;have O:=n.hm 0;have C:=n.hm 1)
  have d:=(n.hJ 0 (.bool true)).hJ 1 (i_ (s));refine D8 (EV rfl _ _ _ _ _ _ _ rfl d underlying38 rfl k_) rfl ⟨⟨true,s⟩,rfl,⟨by simp only;omega,by simp only;omega,λ_=>by simp only;omega⟩,?_,(N.setCell (.inr s_) _).setCell (.inr s_) _⟩;exact Jp
theorem Ch.wf{v:Vl}(h:Ch v):j9 v.n:=by
 obtain⟨h1,h2,_⟩:=h;exact WalkArith.wf_i64 o_
structure Cq(z:Int)(k:Nat)(h:List Ob):Prop where
 len:h.length=k
 ids:∀o∈h,1<=o.id/\o.id<=z
 fields:∀o∈h,o.fs.length<=3/\∀v∈o.fs,Ch v
 nodup:(h.map Ob.id).Nodup
theorem Cq.add(H:Cq z k h){y:Int}(hy:z<y)(b5:1<=y){fs:List Vl}(hf:fs.length<=3)(hv:∀v∈fs,Ch v):Cq y (k+1) (h++[⟨y,fs⟩]):=by
 refine⟨by simp[H.len],?_,?_,?_⟩
 .intro o ho
  rcases T_.1 ho with ho|ho
  .have:=H.ids o ho
   omega
  .have:o=⟨y,fs⟩:=by simpa using ho
   subst this;simp only;omega
 .intro o ho
  rcases T_.1 ho with ho|ho
  .exact H.fields o ho
  .have:o=⟨y,fs⟩:=by simpa using ho
   subst this;exact⟨hf,hv⟩
 .rw[Ed,Fj];refine⟨H.nodup,by simp,?_⟩;intro a ha b hb he;obtain⟨o,ho,rfl⟩:=D2.1 ha
  have:b=y:=by simpa using hb
  have:=H.ids o ho
  omega
theorem Cq.ok(H:Cq z k h)(hk:k<=5)(hz:z<=100):DF h:=
 ⟨by rw[H.len];exact hk,λo ho=>by have:=H.ids o ho;omega,H.fields,H.nodup⟩
theorem sK{w:World}{base:Nat}{size:Nat}{A:Option Addr}{n c:Nat}(h:w.ownsRow base e size (.slice A n c) n xs){b off:Nat}(hb:A=some ⟨b,off,none⟩):base<=b:=by
 subst hb
 rcases h.2 with⟨hv,h0⟩|⟨g,kX,cur,hv,hg,_⟩
 .cases hv
 .injection hv with hv;injection hv with hv;injection hv with hv _ _;omega
theorem zV(B g:Nat)(w:World)(hd:iE w B g)(hB:B<=w.heap.size):
 Calls prog 20 #[.pointer (some ⟨g,0,none⟩)] w λe w'=>∃(A:Option Addr) (c:Nat) (rs:List Rw),e=.returned (.agg #[.slice A rs.length c])/\rs.length<=c/\Os w' A rs/\mW w' rs/\DF (hN rs)/\iE w' B g/\Gr [g] w w'/\(∀b off,A=some ⟨b,off,none⟩->w.heap.size<=b):=by
 obtain⟨bz,bw,br,bi,bf⟩:=info_parts infoVl;obtain⟨i1,bK,b0,b5,cf⟩:=info_parts infoOb;have a8:=hd.vl;obtain⟨aT,bB,-⟩:=pG w 35 #[n_] 35 #[n_];have E:Gr [g] w ((w.alloc (.cells #[n_] 35)).alloc (.cells #[n_] 35)):=((D_ [g] w).alloc _).alloc _;have bh:=hd.g_ (((D_ [] w).alloc (.cells #[n_] 35)).alloc (.cells #[n_] 35))
 go_enter func20,ntmps20
 go_wp2_with fail
 go_at_call 19
 refine(h8 B g 6 _ bh o_ o_).mono ?_;rintro e w1⟨r,rfl,bu,bD,ct,ad⟩;obtain⟨N,rfl⟩:∃N:Nat,r=N:=⟨r.toNat,by omega⟩;have be:=aT.gr ad p_;have bJ:=bB.gr ad p_;have bV:=E.trans ad
 have au:w.heap.size+2<=w1.heap.size:=by have:=ad.size;simp at this;omega
 clear bh aT bB E ad hd;generalize aM:w.heap.size=bm at*;have I:=h_ aM;clear aM;go_wp2
 go_loopw [4,6] (λaK i w'=>∃(k:Nat) (z:Int) (A':Option Addr) (c':Nat) (rs:List Rw),k<=N/\aK=i_ z/\i=i_ k/\0<=z/\z<=3*k/\Bk w' bm 35 #[n_]/\Bk w' (bm+1) 35 #[.slice A' k c']/\w'.ownsRow w1.heap.size 56 2 (.slice A' k c') k (jy rs)/\mW w' rs/\Cq z k (hN rs)/\iE w' B g/\Gr [g,bm+1] w1 w') (λ_ i _=>N-(intOf i).toNat)
 case atStart=>exact⟨0,0,none,0,[],N_ _,rfl,rfl,by omega,by omega,be,bJ,iJ _ _ _ _,by intro r hr;simp at hr,⟨rfl,by simp[hN],by simp[hN],by simp[hN]⟩,ct,D_ _ _⟩
 case round=>
  obtain⟨k,z,A1,c1,rs,hk,rfl,rfl,aS,cK,a,ap,s,aq,X,aZ,cI⟩:=hrel
  by_cases aQ:k<N
  .have rb:=cI.size
   go_wp2_with fail
   go_at_call 19
   refine(h8 B g 3 _ aZ o_ o_).mono ?_;rintro e w2⟨p,rfl,b4,bo,dj,S⟩;have aP:IntKind.i64.wrap (1+p)=1+p:=Eg _ o_;have aL:IntKind.i64.wrap (z+(1+p))=z+(1+p):=Eg _ o_;have ce:=dj.g_ ((D_ [] w2).alloc (.cells #[i_ (z+(1+p)),n_] 56));have af:Gr [g] wr (w2.alloc (.cells #[i_ (z+(1+p)),n_] 56)):=S.alloc _;have aj:=L_ w2 56 #[i_ (z+(1+p)),n_];have D:=S.size
   have Bz:g≠w2.heap.size:=by omega
   clear dj S
   go_wp2_with fail
   go_at_call 19
   refine(h8 B g 4 _ ce o_ o_).mono ?_;rintro e ai⟨q,rfl,hq0,hq1,aB,am⟩;obtain⟨K,rfl⟩:∃K:Nat,q=K:=⟨q.toNat,by omega⟩;have ak:=aj.gr am (by simpa using Bz.symm);have aC:=af.trans am;have aR:=aC.size;clear ce af aj;have aN:=ak.lt;generalize w2.heap.size=u at*;have HZ:=h_ (show z<z+(1+p)/\1<=z+(1+p)/\z+(1+p)<=3*k+3 by omega);generalize z+(1+p)=y at*;clear aL aP b4 bo am
   have aw:B<=ai.heap.size:=by omega
   go_wp2;obtain⟨ah,rfl⟩:∃x,x=wr:=⟨wr,rfl⟩
   go_loopw [8] (λbp w'=>∃(j:Nat) (F:Option Addr) (f:Nat) (vs:List Vl),j<=K/\bp=i_ ((K:Int)-j)/\vs.length=j/\(∀v∈vs,Ch v)/\Bk w' u 56 #[i_ y,.slice F j f]/\w'.ownsRow ai.heap.size 38 2 (.slice F j f) j (iR vs)/\iE w' B g/\Gr [g] ah w'/\ai.heap.size<=w'.heap.size) (λbp _=>(intOf bp).toNat)
   case atStart=>exact⟨0,none,0,[],N_ _,by go_num,rfl,by simp,ak,iJ _ _ _ _,aB,aC,G_ _⟩
   case round=>
    obtain⟨j,F,f,vs,hj,rfl,cg,ar,L,W,M,cl,ag⟩:=hrel;have cM:=h_ cg;clear cg
    by_cases aH:j<K
    .have ax:=L.f_ 1
     have av:B<=wr.heap.size:=by omega
     have Z:=M.g_ (D_ [] wr).drew;obtain⟨da,t⟩:=M.bk
     go_wp2_with fail
     go_region_law (first|(refine nZ rfl (.tmp 30) (.tmp 33) 54 rfl ai.heap.size 38 bz _ 2 16 underlying54 bw br bi bf rfl d_ d_ F j f (iR vs) rfl C _ 1 1 _ rfl V (l7 _) o_ Q ?_;intro R bZ ae aX n;have o:=n.bk U d_;have bQ:=o.hm 1;have J:=o.f_ 1)|(go_simp;go_at_call 64;refine(xO B g _ Z av).mono ?_;rintro e T⟨v,rfl,cR,bM,aO⟩;obtain⟨d,h⟩:=v;have aW:=(D_ [g] wr).drew.trans aO;have P:=L.gr aW (by simpa using Bz.symm);have az:=P.f_ 1;have U:=P.alloc (.cells #[.bool d,i_ h] 38);have Y:=U.f_ 1;have C:=iu (j1 W t d_ aW) ((D_ [] T).alloc (.cells #[.bool d,i_ h] 38));have V:=BD (v:=⟨d,h⟩) (L_ T 38 #[.bool d,i_ h]);have Q:ai.heap.size<=(T.alloc (.cells #[.bool d,i_ h] 38)).heap.size:=F_ ag (aW.alloc _).size))
     all_goals
      go_wp2;go_roundw
      case rel=>
       have H:=(D_ [u] ae).setCell (p:=⟨u,1,none⟩) (.inl s_) (.slice R (j+1) bZ);have cD:=(bM.g_ ((D_ [] T).alloc (.cells #[.bool d,i_ h] 38))).app n aw;have G:=n.gr [g] ah o_ (cl.trans (aW.alloc _));refine⟨j+1,R,bZ,vs++[⟨d,h⟩],by omega,by go_num,by rw[H_,cM.out];rfl,?_,o.hJ 1 _,?_,?_,?_,?_⟩
       .intro v hv
        rcases T_.1 hv with hv|hv
        .exact ar v hv
        .have:v=⟨d,h⟩:=by simpa using hv
         subst this;exact cR
       .rw[nU];exact j1 aX o d_ H
       .exact cD.h7 H p_
       .exact G.setCell (.inr p_) _
       .have h1:=F_ Q n.size;have h2:=H.size;omega
      case measure=>simp[intOf];omega
    .have bv:j=K:=by omega
     subst bv;obtain⟨da,t⟩:=aZ.bk;have ao:=ap.gr cl p_;have aE:=a.gr cl p_;have cv:=j1 s t d_ cl;have aJ:=aq.ig t d_ cl;have m:=ao.f_ 0;obtain⟨bj,ax⟩:=L.iB;have aF:=ao.alloc (.cells #[i_ y,.slice F j f] 56);have C:=iu cv ((D_ [] wr).alloc (.cells #[i_ y,.slice F j f] 56));have V:=Ae (fs:=vs) (L_ wr 56 #[i_ y,.slice F j f]) cM.out
     have Q:w1.heap.size<=(wr.alloc (.cells #[i_ y,.slice F j f] 56)).heap.size:=by simp;omega
     go_wp2_with (at_builtin;refine si _ rfl (.tmp 37) (.tmp 39) 33 rfl w1.heap.size 56 i1 _ 2 32 underlying33 bK b0 b5 cf rfl d_ d_ A1 k c1 (jy rs) rfl C _ 1 1 _ rfl V (jO _) o_ Q ?_;intro ay an ae aX n;have l:=n.bk aF d_;have bQ:=l.hm 0;have J:=l.f_ 0)
     go_roundw
     case rel=>
      have H:=(D_ [bm+1] ae).setCell (p:=⟨bm+1,0,none⟩) (.inl s_) (.slice ay (k+1) an);have G:=n.gr _ _ (G_ _) (cI.trans ((cl.alloc _).mono s_));have cD:=(M.g_ ((D_ [] wr).alloc (.cells #[i_ y,.slice F j f] 56))).app n o_;refine⟨k+1,y,ay,an,rs++[⟨⟨y,vs⟩,F,f⟩],by omega,rfl,by go_num,by have:=HZ.out;omega,by have:=HZ.out;omega,?_,l.hJ 0 _,?_,?_,?_,?_,G.setCell (.inl s_) _⟩
      .exact(n.bk (aE.alloc _) d_).gr H s_
      .rw[lx];exact j1 aX l d_ H
      .have aI:mW ae (rs++[⟨⟨y,vs⟩,F,f⟩]):=by
        intro r hr
        rcases T_.1 hr with hr|hr
        .have:=aJ.alloc (.cells #[i_ y,.slice F j f] 56) r hr
         exact⟨n.sl this.1 d_,this.2⟩
        .have hr:=by simpa using hr
         subst hr;refine⟨n.sl ?_ d_,by show vs.length<=1000000000;rw[cM.out];omega⟩
         have:=(Sl.iG W).alloc (.cells #[i_ y,.slice F j f] 56)
         show Sl _ _ _ _ vs.length _
         rw[cM.out];exact this
       exact aI.ig l d_ H
      .have hz:=HZ.out
       have:hN (rs++[⟨⟨y,vs⟩,F,f⟩])=hN rs++[⟨y,vs⟩]:=by simp[hN]
       rw[this];exact X.add hz.1 hz.2.1 (by rw[cM.out];omega) ar
      .exact cD.h7 H p_
     case measure=>simp[intOf];omega
  .have a7:k=N:=by omega
   subst a7;have m:=ap.f_ 0;have O:=a.hm 0;have bu:=a.f_ 0;go_wp2;have bO:=a.hJ 0 (.slice A1 k c1);have aD:=X.len
   have aG:=by simpa[hN]using aD
   have H:=(D_ [bm] wr).setCell (p:=⟨bm,0,none⟩) (.inl s_) (.slice A1 k c1);refine D8 (EV rfl _ _ _ _ _ _ _ rfl bO underlying35 rfl k_) rfl ⟨A1,c1,rs,by rw[aG];rfl,by rw[aG];exact iQ s,?_,aq.ig a d_ H,X.ok o_ o_,aZ.h7 H p_,?_,?_⟩
   .unfold Os;rw[aG];exact Sl.ig (Sl.iG s) a d_ H
   .exact(bV.hx cI (by rw[I.out];simp)).setCell (.inr (by rw[I.out];simp)) _
   .intro b off hb
    have:=sK s hb
    rw[I.out];omega
theorem infoI64:(prog.info? 2).map (λi=>(i.zero,i.size,i.bytes))=some (some (i_ 0),1,8):=by kernel_rfl
theorem xK(B g:Nat)(w:World)(hd:iE w B g)(hB:B<=w.heap.size):
 Calls prog 45 #[.pointer (some ⟨g,0,none⟩)] w λe w'=>∃(A:Option Addr) (c:Nat) (l:List Int),e=.returned (.agg #[.slice A l.length c])/\l.length<=5/\Ns w' 2 A l/\iE w' B g/\Gr [g] w w':=by
 obtain⟨bz,bw,br,bi,bf⟩:=info_parts infoI64;have a8:=hd.vl;obtain⟨aT,bB,-⟩:=pG w 29 #[n_] 29 #[n_];have E:Gr [g] w ((w.alloc (.cells #[n_] 29)).alloc (.cells #[n_] 29)):=((D_ [g] w).alloc _).alloc _;have bh:=hd.g_ (((D_ [] w).alloc (.cells #[n_] 29)).alloc (.cells #[n_] 29))
 go_enter func45,ntmps45
 go_wp2_with fail
 go_at_call 19
 refine(h8 B g 6 _ bh o_ o_).mono ?_;rintro e w1⟨r,rfl,bu,bD,ct,ad⟩;obtain⟨K,rfl⟩:∃N:Nat,r=N:=⟨r.toNat,by omega⟩;have be:=aT.gr ad p_;have bJ:=bB.gr ad p_;have bV:=E.trans ad
 have au:w.heap.size+2<=w1.heap.size:=by have:=ad.size;simp at this;omega
 clear bh aT bB E ad hd;generalize aM:w.heap.size=bm at*;have I:=h_ aM;clear aM;go_wp2
 go_loopw [4] (λbp w'=>∃(j:Nat) (F:Option Addr) (f:Nat) (vs:List Int),j<=K/\bp=i_ ((K:Int)-j)/\vs.length=j/\Bk w' bm 29 #[n_]/\Bk w' (bm+1) 29 #[.slice F j f]/\w'.ownsRow w1.heap.size 2 1 (.slice F j f) j (vs.map (Value.int .i64))/\iE w' B g/\Gr [g] w w'/\w1.heap.size<=w'.heap.size) (λbp _=>(intOf bp).toNat)
 case atStart=>exact⟨0,none,0,[],N_ _,by go_num,rfl,be,bJ,iJ _ _ _ _,ct,bV,G_ _⟩
 case round=>
  obtain⟨j,F,f,vs,hj,rfl,cg,a,L,W,M,cl,ag⟩:=hrel;have cM:=h_ cg;clear cg
  by_cases aH:j<K
  .have bj:=L.f_ 0;have Z:=M.g_ (D_ [] wr).drew;obtain⟨da,t⟩:=M.bk
   go_wp2_with fail
   go_region_law (first|(refine nZ rfl (.tmp 12) (.tmp 16) 27 rfl w1.heap.size 2 bz _ 1 8 underlying27 bw br bi bf rfl d_ d_ F j f (vs.map (Value.int .i64)) rfl C _ 1 1 _ rfl V (by intro u hu;simp at hu;subst hu;rfl) o_ Q ?_;intro R bZ ae aX n;have o:=n.bk U d_;have bQ:=o.hm 0;have J:=o.f_ 0)|(go_simp;go_at_call 19;refine(h8 B g 9 _ Z o_ o_).mono ?_;rintro e T⟨v,rfl,X,hv1,bM,aO⟩;have bN:IntKind.i64.wrap (v-3)=v-3:=Eg _ o_;have aW:=(D_ [g] wr).drew.trans aO;have P:=L.gr aW p_;have az:=P.f_ 0;have U:=P.alloc (.cells #[i_ (v-3)] 2);have Y:=U.f_ 0;have C:=iu (j1 W t d_ aW) ((D_ [] T).alloc (.cells #[i_ (v-3)] 2));have V:Sl (T.alloc (.cells #[i_ (v-3)] 2)) 2 1 (some ⟨T.heap.size,0,none⟩) 1 [i_ (v-3)]:=kC (s:=1) (L_ T 2 #[i_ (v-3)]) rfl;have Q:w1.heap.size<=(T.alloc (.cells #[i_ (v-3)] 2)).heap.size:=F_ ag (aW.alloc _).size))
   all_goals
    go_wp2;go_roundw
    case rel=>
     have H:=(D_ [bm+1] ae).setCell (p:=⟨bm+1,0,none⟩) (.inl s_) (.slice R (j+1) bZ);have cD:=(bM.g_ ((D_ [] T).alloc (.cells #[i_ (v-3)] 2))).app n o_;have G:=n.gr [g] w (by rw[I.out];omega) (cl.trans (aW.alloc _));refine⟨j+1,R,bZ,vs++[v-3],by omega,by go_num,by rw[H_,cM.out];rfl,(n.bk ((a.gr aW p_).alloc _) d_).gr H s_,o.hJ 0 _,?_,?_,?_,?_⟩
     .rw[Ed];exact j1 aX o d_ H
     .exact cD.h7 H p_
     .exact G.setCell (.inr (by rw[I.out];simp)) _
     .have h1:=F_ Q n.size;have h2:=H.size;omega
    case measure=>simp[intOf];omega
  .have bv:j=K:=by omega
   subst bv;have m:=L.f_ 0;have O:=a.hm 0;have bu:=a.f_ 0;go_wp2;have bO:=a.hJ 0 (.slice F j f);have H:=(D_ [bm] wr).setCell (p:=⟨bm,0,none⟩) (.inl s_) (.slice F j f);refine D8 (EV rfl _ _ _ _ _ _ _ rfl bO underlying29 rfl k_) rfl ⟨F,f,vs,by rw[cM.out];rfl,by rw[cM.out];omega,?_,M.h7 H p_,?_⟩
   .unfold Ns;rw[cM.out];exact Sl.ig (Sl.iG W) a d_ H
   .exact cl.setCell (.inr (by rw[I.out];simp)) _
inductive ET where
 |mk (hT n:Int) (name:ByteArray) (op:Int) (A:Option Addr) (c:Nat) (l:List ET)
def ET.hT:ET->Int| .mk k _ _ _ _ _ _=>k
def ET.n:ET->Int| .mk _ n _ _ _ _ _=>n
def ET.name:ET->ByteArray| .mk _ _ s _ _ _ _=>s
def ET.op:ET->Int| .mk _ _ _ o _ _ _=>o
def ET.A:ET->Option Addr| .mk _ _ _ _ A _ _=>A
def ET.c:ET->Nat| .mk _ _ _ _ _ c _=>c
def ET.l:ET->List ET| .mk _ _ _ _ _ _ l=>l
def ET.g8(t:ET):Array Value:=#[i_ t.hT,i_ t.n,.string t.name,i_ t.op,.slice t.A t.l.length t.c]
def ET.E(t:ET):List Value:=[i_ t.hT,i_ t.n,.string t.name,i_ t.op,.slice t.A t.l.length t.c]
abbrev jp(b x:Nat):Prop:=b<=x
theorem Sl.rD{w:World}{size:Nat}{A:Option Addr}{n:Nat}(h:Sl w e size A n xs)(hk:0<n->∀b off,A=some (c_ b off)->b<w.heap.size->w'.heap[b]?=w.heap[b]?):Sl w' e size A n xs:=by
 rcases EY n with h0|h0
 .exact⟨h.1,λhn=>by omega⟩
 .exact h.ir (hk h0)
theorem Sl.lt{w:World}{size:Nat}{x off n:Nat}(h:Sl w e size (some (c_ x off)) n xs)(hn:0<n):x<w.heap.size:=by
 obtain⟨b,o,cs,fz,U,hb,_⟩:=h.2 hn;injection U with U;injection U with U;subst U
 rcases D5 x w.heap.size with aj|bC
 .exact aj
 .rw[Y_ bC]at hb
  cases hb
inductive kc(p:Nat->Prop)(w:World):ET->Prop
 |mk (t:ET) (h:Sl w 226 5 t.A t.l.length (t.l.flatMap ET.E)) (hc:t.l.length<=t.c) (hb:∀x off,t.A=some (c_ x off)->0<t.l.length->p x) (hl:∀u∈t.l,kc p w u):kc p w t
theorem kc.g_{p:Nat->Prop}{w:World}{t:ET}(h:kc p w t)(hg:Gr [] w w'):kc p w' t:=by
 induction h with
 |mk t h hc hb _ ad=>exact .mk t (h.g_ hg) hc hb ad
theorem kc.h7{p:Nat->Prop}{w:World}{t:ET}(h:kc p w t)(hg:Gr M w w')(z:∀x∈M,¬p x):kc p w' t:=by
 induction h with
 |mk t h hc hb _ ad=>exact .mk t (h.rD λhn x off U I=>hg.block x I (λY=>z x Y (hb x off U hn))) hc hb ad
theorem kc.imp{p q:Nat->Prop}{w:World}{t:ET}(h:kc p w t)(e:∀x,p x->q x):kc q w t:=by
 induction h with
 |mk t h hc hb _ ad=>exact .mk t h hc (λx off U hn=>e x (hb x off U hn)) ad
theorem kc.lt{p:Nat->Prop}{w:World}{t:ET}(h:kc p w t):kc (λx=>p x/\x<w.heap.size) w t:=by
 induction h with
 |mk t h hc hb _ ad=>exact .mk t h hc (λx off U hn=>⟨hb x off U hn,(by rw[U]at h;exact h.lt hn)⟩) ad
theorem kc.le{b c:Nat}{w:World}{t:ET}(h:kc (jp c) w t)(Bd:b<=c):kc (jp b) w t:=h.imp λ_ I=>F_ Bd I
inductive ST where
 |mk (hT:Int) (name fn:ByteArray) (n op:Int) (AE:Option Addr) (cE:Nat) (es:List ET) (AB:Option Addr) (cB:Nat) (bs:List ST) (AL:Option Addr) (cL:Nat) (ls:List ST)
def ST.hT:ST->Int| .mk k _ _ _ _ _ _ _ _ _ _ _ _ _=>k
def ST.name:ST->ByteArray| .mk _ s _ _ _ _ _ _ _ _ _ _ _ _=>s
def ST.fn:ST->ByteArray| .mk _ _ s _ _ _ _ _ _ _ _ _ _ _=>s
def ST.n:ST->Int| .mk _ _ _ n _ _ _ _ _ _ _ _ _ _=>n
def ST.op:ST->Int| .mk _ _ _ _ o _ _ _ _ _ _ _ _ _=>o
def ST.AE:ST->Option Addr| .mk _ _ _ _ _ A _ _ _ _ _ _ _ _=>A
def ST.cE:ST->Nat| .mk _ _ _ _ _ _ c _ _ _ _ _ _ _=>c
def ST.es:ST->List ET| .mk _ _ _ _ _ _ _ l _ _ _ _ _ _=>l
def ST.AB:ST->Option Addr| .mk _ _ _ _ _ _ _ _ A _ _ _ _ _=>A
def ST.cB:ST->Nat| .mk _ _ _ _ _ _ _ _ _ c _ _ _ _=>c
def ST.bs:ST->List ST| .mk _ _ _ _ _ _ _ _ _ _ l _ _ _=>l
def ST.AL:ST->Option Addr| .mk _ _ _ _ _ _ _ _ _ _ _ A _ _=>A
def ST.cL:ST->Nat| .mk _ _ _ _ _ _ _ _ _ _ _ _ c _=>c
def ST.ls:ST->List ST| .mk _ _ _ _ _ _ _ _ _ _ _ _ _ l=>l
def ST.E(t:ST):List Value:=[i_ t.hT,.string t.name,.string t.fn,i_ t.n,i_ t.op,.slice t.AE t.es.length t.cE,.slice t.AB t.bs.length t.cB,.slice t.AL t.ls.length t.cL]
def ST.g8(t:ST):Array Value:=#[i_ t.hT,.string t.name,.string t.fn,i_ t.n,i_ t.op,.slice t.AE t.es.length t.cE,.slice t.AB t.bs.length t.cB,.slice t.AL t.ls.length t.cL]
inductive jx(p:Nat->Prop)(w:World):ST->Prop
 |mk (t:ST) (he:Sl w 226 5 t.AE t.es.length (t.es.flatMap ET.E)) (hce:t.es.length<=t.cE) (hbe:∀x off,t.AE=some (c_ x off)->0<t.es.length->p x) (hes:∀u∈t.es,kc p w u)
   (hb:Sl w 229 8 t.AB t.bs.length (t.bs.flatMap ST.E)) (hcb:t.bs.length<=t.cB) (qS:∀x off,t.AB=some (c_ x off)->0<t.bs.length->p x) (hbs:∀u∈t.bs,jx p w u)
   (hl:Sl w 229 8 t.AL t.ls.length (t.ls.flatMap ST.E)) (hcl:t.ls.length<=t.cL) (hbl:∀x off,t.AL=some (c_ x off)->0<t.ls.length->p x) (hls:∀u∈t.ls,jx p w u):jx p w t
theorem jx.g_{p:Nat->Prop}{w:World}{t:ST}(h:jx p w t)(hg:Gr [] w w'):jx p w' t:=by
 induction h with
 |mk t he hce hbe hes hb hcb qS _ hl hcl hbl _ c d=>exact .mk t (he.g_ hg) hce hbe (λu hu=>(hes u hu).g_ hg) (hb.g_ hg) hcb qS c (hl.g_ hg) hcl hbl d
theorem jx.h7{p:Nat->Prop}{w:World}{t:ST}(h:jx p w t)(hg:Gr M w w')(z:∀x∈M,¬p x):jx p w' t:=by
 induction h with
 |mk t he hce hbe hes hb hcb qS _ hl hcl hbl _ c d=>
  exact .mk t (he.rD λhn x off U I=>hg.block x I (λY=>z x Y (hbe x off U hn))) hce hbe (λu hu=>(hes u hu).h7 hg z)
   (hb.rD λhn x off U I=>hg.block x I (λY=>z x Y (qS x off U hn))) hcb qS c
   (hl.rD λhn x off U I=>hg.block x I (λY=>z x Y (hbl x off U hn))) hcl hbl d
theorem jx.imp{p q:Nat->Prop}{w:World}{t:ST}(h:jx p w t)(e:∀x,p x->q x):jx q w t:=by
 induction h with
 |mk t he hce hbe hes hb hcb qS _ hl hcl hbl _ c d=>
  exact .mk t he hce (λx off U hn=>e x (hbe x off U hn)) (λu hu=>(hes u hu).imp e) hb hcb (λx off U hn=>e x (qS x off U hn)) c hl hcl (λx off U hn=>e x (hbl x off U hn)) d
theorem jx.lt{p:Nat->Prop}{w:World}{t:ST}(h:jx p w t):jx (λx=>p x/\x<w.heap.size) w t:=by
 induction h with
 |mk t he hce hbe hes hb hcb qS _ hl hcl hbl _ c d=>
  exact .mk t he hce (λx off U hn=>⟨hbe x off U hn,(by rw[U]at he;exact he.lt hn)⟩) (λu hu=>(hes u hu).lt) hb hcb (λx off U hn=>⟨qS x off U hn,(by rw[U]at hb;exact hb.lt hn)⟩) c hl hcl (λx off U hn=>⟨hbl x off U hn,(by rw[U]at hl;exact hl.lt hn)⟩) d
theorem jx.le{b c:Nat}{w:World}{t:ST}(h:jx (jp c) w t)(Bd:b<=c):jx (jp b) w t:=h.imp λ_ I=>F_ Bd I
def jj(n:Int):ET:=.mk 1 n ByteArray.empty 0 none 0 []
def jl(s:ByteArray):ET:=.mk 3 0 s 0 none 0 []
def eNew(n:Int):ET:=.mk 6 n ByteArray.empty 0 none 0 []
theorem kc.leaf(p:Nat->Prop)(w:World)(k n:Int)(s:ByteArray)(o:Int):kc p w (.mk k n s o none 0 []):=.mk _ (EM _ _ _ _) (G_ _) (λ_ _ h _=>by cases h) (λu hu=>by cases hu)
theorem jY(n:Int)(w:World):Calls prog 144 #[i_ n] w λe w'=>e=.returned (.agg (jj n).g8)/\Gr [] w w':=by
 go_enter func144,ntmps144
 go_wp2_with fail
 exact rr_ (jj n).g8 (L_ w 226 _) underlying226 ⟨rfl,(D_ [] w).alloc _⟩
theorem j2(s:ByteArray)(w:World):Calls prog 145 #[.string s] w λe w'=>e=.returned (.agg (jl s).g8)/\Gr [] w w':=by
 go_enter func145,ntmps145
 go_wp2_with fail
 exact rr_ (jl s).g8 (L_ w 226 _) underlying226 ⟨rfl,(D_ [] w).alloc _⟩
def pK(o:Int)(A:Option Addr)(a b:ET):ET:=.mk 5 0 ByteArray.empty o A 2 [a,b]
theorem i5{w:World}{g:Nat}{t:TypeId}{cs:Array Value}{s n:Nat}(h:Bk w g t cs)(hs:cs.size=n*s):Sl w t s (j_ g) n cs.toList:=
 ⟨by simpa using hs,λ_=>⟨g,0,cs,_,rfl,h,λj u hu=>by simpa using hu⟩⟩
theorem ol(a b:ET)(w:World)(aL:base<=w.heap.size)(ha:kc (jp base) w a)(hb:kc (jp base) w b):Calls prog 143 #[i_ o,.agg a.g8,.agg b.g8] w λe w'=>∃A,e=.returned (.agg (pK o A a b).g8)/\kc (jp base) w' (pK o A a b)/\Gr [] w w':=by
 obtain⟨bO,n1,s1,aN,A1,c1,l1⟩:=a;obtain⟨bl,n2,b6,d,ay,an,l2⟩:=b;have HA:=h_ ha;have aY:=h_ hb;clear ha hb;rw[show(ET.mk bO n1 s1 aN A1 c1 l1).g8=#[i_ bO,i_ n1,.string s1,i_ aN,.slice A1 l1.length c1] from rfl,show(ET.mk bl n2 b6 d ay an l2).g8=#[i_ bl,i_ n2,.string b6,i_ d,.slice ay l2.length an] from rfl]
 go_enter func143,ntmps143
 go_wp2_with fail
 obtain⟨-,-,hR,L,J⟩:=BC w 226 #[i_ bO,i_ n1,.string s1,i_ aN,.slice A1 l1.length c1] 226 #[i_ bl,i_ n2,.string b6,i_ d,.slice ay l2.length an] 226 #[i_ 5,i_ 0,.string ByteArray.empty,i_ o,.slice (j_ (w.heap.size+1+1+1)) 2 2] 226 #[i_ bO,i_ n1,.string s1,i_ aN,.slice A1 l1.length c1,i_ bl,i_ n2,.string b6,i_ d,.slice ay l2.length an];refine rr_ (pK o (j_ (w.heap.size+1+1+1)) (ET.mk bO n1 s1 aN A1 c1 l1) (ET.mk bl n2 b6 d ay an l2)).g8 hR underlying226 ⟨_,rfl,?_,J⟩;refine .mk _ (i5 (n:=2) L rfl) (G_ _) (λx off h _=>by injection h with h;injection h with h;omega) ?_;intro u hu
 rcases M_.1 hu with rfl|hu
 .exact HA.out.g_ J
 .rcases M_.1 hu with rfl|hu
  .exact aY.out.g_ J
  .cases hu
def iS(x:ByteArray)(A:Option Addr)(t:ET):ST:=.mk 1 x ByteArray.empty 0 0 A 1 [t] none 0 [] none 0 []
theorem kw(x:ByteArray)(t:ET)(w:World)(aL:base<=w.heap.size)(X:kc (jp base) w t):Calls prog 142 #[.string x,.agg t.g8] w λe w'=>∃A,e=.returned (.agg (iS x A t).g8)/\jx (jp base) w' (iS x A t)/\Gr [] w w':=by
 obtain⟨bO,n1,s1,aN,A1,c1,l1⟩:=t;have HA:=h_ X;clear X;rw[show(ET.mk bO n1 s1 aN A1 c1 l1).g8=#[i_ bO,i_ n1,.string s1,i_ aN,.slice A1 l1.length c1] from rfl]
 go_enter func142,ntmps142
 go_wp2_with fail
 obtain⟨-,hR,L,J⟩:=vQ w 226 #[i_ bO,i_ n1,.string s1,i_ aN,.slice A1 l1.length c1] 229 #[i_ 1,.string x,.string ByteArray.empty,i_ 0,i_ 0,.slice (j_ (w.heap.size+1+1)) 1 1,n_,n_] 226 #[i_ bO,i_ n1,.string s1,i_ aN,.slice A1 l1.length c1];refine rr_ (iS x (j_ (w.heap.size+1+1)) (ET.mk bO n1 s1 aN A1 c1 l1)).g8 hR underlying229 ⟨_,rfl,?_,J⟩;refine .mk _ (i5 (n:=1) L rfl) (G_ _) (λx off h _=>by injection h with h;injection h with h;omega) ?_ (EM _ _ _ _) (G_ _) (λ_ _ h _=>by cases h) (λu hu=>by cases hu) (EM _ _ _ _) (G_ _) (λ_ _ h _=>by cases h) (λu hu=>by cases hu);intro u hu
 rcases M_.1 hu with rfl|hu
 .exact HA.out.g_ J
 .cases hu
def vh:ByteArray:={data:=#[97]}
def ur:ByteArray:={data:=#[98]}
def uJ:ByteArray:={data:=#[115]}
def oW:ByteArray:={data:=#[112]}
def mH:ByteArray:={data:=#[113]}
def ou:ByteArray:={data:=#[105]}
def wB:ByteArray:={data:=#[106]}
def wA:ByteArray:={data:=#[107]}
def A3:ByteArray:={data:=#[110]}
def pJ:ByteArray:={data:=#[102]}
def pf:ByteArray:={data:=#[103]}
def hI:List ByteArray:=[vh,ur,uJ,oW,mH,ou,wB,wA]
def lO:Array Value:=#[.string {data:=#[97]},.string {data:=#[98]},.string {data:=#[115]},.string {data:=#[112]},.string {data:=#[113]}]
theorem lC:Calls prog 177 #[] w λe w'=>e=.returned (.slice (j_ w.heap.size) 5 5)/\w'=w.alloc (.cells lO 9):=by
 go_enter func177,ntmps177
 go_wp2_with fail
 go_ret;exact⟨rfl,rfl⟩
theorem v8(i:Int)(h0:0<=i)(h1:i<5):∃s,s∈hI/\lO[i.toNat]?=some (.string s):=by
 obtain⟨k,rfl⟩:∃k:Nat,i=k:=⟨i.toNat,by omega⟩
 match k,h1 with
 |0,_=>exact⟨vh,by simp[hI],rfl⟩
 |1,_=>exact⟨ur,by simp[hI],rfl⟩
 |2,_=>exact⟨uJ,by simp[hI],rfl⟩
 |3,_=>exact⟨oW,by simp[hI],rfl⟩
 |4,_=>exact⟨mH,by simp[hI],rfl⟩
theorem Cw{w:World}{g:Nat}(h:Sl w 274 4 (j_ g) 22 qn)(hk:k<22):
 w.cell? (c_ g (k*4))=some (.bool (iZ.getD k default).a)/\w.cell? (c_ g (k*4+1))=some (.bool (iZ.getD k default).b)/\w.cell? (c_ g (k*4+2))=some (.bool (iZ.getD k default).c)/\w.cell? (c_ g (k*4+3))=some (i_ (iZ.getD k default).n):=by
 obtain⟨b,off,U,hc⟩:=Sl.f_ h o_;injection U with U;injection U with h1 h2;subst h1;subst h2;have bj:k<iZ.length:=hk
 have e:iZ.getD k default=iZ[k]:=by simp[List.getD,K_ bj]
 rw[e]
 have g:=λj hj=>iW Sh.E 4 (λ_=>rfl) iZ k j bj hj
 have z:=λj u(hu:qn[j]?=some u)=>by have:=hc j u hu;rwa [U_]at this
 exact⟨z (k*4+0) _ (g 0 o_),z (k*4+1) _ (g 1 o_),z (k*4+2) _ (g 2 o_),z (k*4+3) _ (g 3 o_)⟩
theorem zY(A:Option Addr)(c:Nat)(l:List In)(hq g9:Int)(i g:Nat)(w:World)(h:Is w A l)(hi:i<l.length)(hn:l.length<=1000000000)(o:l[i].op<0∨21<l[i].op):
 Calls prog 147 #[.agg #[.slice A l.length c,i_ hq,i_ g9],i_ i,.slice (j_ g) 22 22] w λe w'=>e=.returned (.bool (kU l i))/\Gr [] w w':=by
 have ak:=h_ (show kU l i=false by
  unfold kU jH
  have e:l.getD i default=l[i]:=by simp[List.getD,K_ hi]
  rw[e,Q_ o])
 have J:=(D_ [] w).alloc (.cells #[.slice A l.length c,i_ hq,i_ g9] 26);obtain⟨bv,off,rfl,bj,be,bJ,bU,bu⟩:=(h.g_ J).at_ hi
 have aj:(i:Int)<(l.length:Int):=by omega
 generalize l[i]=x at*;obtain⟨op,a,b,cc,n⟩:=x;simp only at o bj be bJ bU bu
 rcases o with ho|ho
 .exact J0
 .exact J0
theorem B6(h:G:=by first|(simp[r1];done)|(simp[r1,r2,e13,e10,h13,h10];done)|(simp[r1,r2,r3,e13,e10,h13,h10];done)|(simp[r1,r2,r3,e13,e10,h13,h10,m0];done)|(simp[r1,r2,r3,e13,e10,h13,h10,m1];done)|(simp[r1,r2,r3,e13,e10,h13,h10,mb];done)|(simp[r1,r2,r3,e13,e10,h13,h10,mb,m1];done)|(simp[r1,r2,r3,e13,e10,h13,h10,mb,m1,m2];done)|(simp[r1,r2,r3,e13,e10,h13,h10,m1,m2];done)|(simp[r1,r2,r3,e13,e10,h13,h10,m1,m2,m3];done)|(simp[r1,r2,r3,e13,e10,h13,h10,m1,m2,m3,m4];done)|(simp[r1,r2,r3,e13,e10,h13,h10,m0,m1];done)|(simp[r1,e13,e10,n1];done)|(simp[r1,e13,e10,n1,n2];done)|(simp[r1,e13,e10,n1,n2,n3];done)|(simp[r1,e13,e10,n1,n2,n3,n4];done)|(simp[r1,e13,e10,n1,n2,n3,n4,n5];done)|(simp[r1,e13,e10,n1,n2,n3,n4,n5,m1];done)|(simp[r1,r3,e13,e10];done)|(simp[r1,r3,e13,e10,r4];done)|(simp[r1,r3,e13,e10,r4,m1];done)|(simp[r1,r3,e13,e10,r4,m1,m2];done)|fail):G:=h
theorem kf(h:G:=by
 first|(have aB:Hid (Z=false):=h_ (by rw[<-HZ.out];unfold jH;dsimp only;rw[P_ o_];exact B6))|(have aB:Hid (Z=true):=h_ (by rw[<-HZ.out];unfold jH;dsimp only;rw[P_ o_];exact B6))
 go_wp2_with (first
  |(go_at_call 178;refine(um _ _ _).mono ?_;rintro e w2⟨rfl,rfl⟩)
  |(go_at_call 133;refine(p4 _ c l hq g9 _ _ (h.g_ j) hn).mono ?_;rintro e w2⟨rfl,hg⟩;have j:=j.trans hg;have bP:=bP.g_ hg;have cG:=cG.g_ hg;have cF:=cF.g_ hg;have q:=bP.f_ 0;have r:=bP.f_ 1;have u:=bP.f_ 2;have v:=cG.f_ 0;have y:=cG.f_ 1;have z:=cG.f_ 2;have B:=cG.f_ 3;have D:=cG.f_ 4;have E:=cF.f_ 0;have F:=cF.f_ 1;have I:=cF.f_ 2;have J:=cF.f_ 3)
  |(go_at_call 179;refine(uc _ _).mono ?_;rintro e w2⟨rfl,rfl⟩)
  |(go_at_call 180;refine(qA _ _).mono ?_;rintro e w2⟨⟨st,rfl⟩,hg⟩;have j:=j.trans hg;have bP:=bP.g_ hg;have cG:=cG.g_ hg;have cF:=cF.g_ hg;have q:=bP.f_ 0;have r:=bP.f_ 1;have u:=bP.f_ 2;have v:=cG.f_ 0;have y:=cG.f_ 1;have z:=cG.f_ 2;have B:=cG.f_ 3;have D:=cG.f_ 4;have E:=cF.f_ 0;have F:=cF.f_ 1;have I:=cF.f_ 2;have J:=cF.f_ 3))
 go_ret
 exact⟨iq (by first|exact aB.out.symm|(rw[aB.out];exact B6)),j⟩):G:=h
theorem B5(A:Option Addr)(c:Nat)(l:List In)(hq g9:Int)(i g:Nat)(w:World)(h:Is w A l)(C:Sl w 274 4 (j_ g) 22 qn)(hi:i<l.length)(hn:l.length<=1000000000)(h0:0<=l[i].op)(t:l[i].op<=21):
 Calls prog 147 #[.agg #[.slice A l.length c,i_ hq,i_ g9],i_ i,.slice (j_ g) 22 22] w λe w'=>e=.returned (.bool (kU l i))/\Gr [] w w':=by
 have L:kU l i=jH l i l[i] (iZ.getD l[i].op.toNat default):=by
  unfold kU
  have e:l.getD i default=l[i]:=by simp[List.getD,K_ hi]
  rw[e]
 rw[L];clear L;have aE:=(((D_ [] w).alloc (.cells #[.slice A l.length c,i_ hq,i_ g9] 26)));obtain⟨bv,off,rfl,bj,be,bJ,bU,bu⟩:=(h.g_ aE).at_ hi
 have aj:(i:Int)<(l.length:Int):=by omega
 have ay:=AN l[i].op.toNat o_;have ad:=aE.alloc (.cells #[i_ l[i].op,i_ l[i].a,i_ l[i].b,i_ l[i].c,i_ l[i].n] 189);obtain⟨H,bT,b9,cy⟩:=Cw (C.g_ ad) (k:=l[i].op.toNat) o_
 have m:l[i].op=13->iZ.getD l[i].op.toNat default=⟨false,false,false,7⟩:=λh=>by rw[h];rfl
 have ew:l[i].op=10->iZ.getD l[i].op.toNat default=⟨true,false,false,5⟩:=λh=>by rw[h];rfl
 generalize iZ.getD l[i].op.toNat default=s at*;obtain⟨bw,sb,sc,f⟩:=s;generalize l[i]=x at*;obtain⟨op,a,b,cc,n⟩:=x;obtain⟨k,hk⟩:∃k:Nat,op=k:=⟨op.toNat,(EX h0).symm⟩;simp only at*;subst hk;simp only[ED]at*
 have c7:(k:Int)<22:=by omega
 obtain⟨Z,o⟩:=mn_ (jH l i ⟨k,a,b,cc,n⟩ ⟨bw,sb,sc,f⟩);rw[o];have HZ:=h_ o;clear o
 go_enter func147,ntmps147
 go_wp2_with fail
 go_quiet (fail)
 have a8:=ad.alloc (.cells #[.bool bw,.bool sb,.bool sc,i_ f] 274);have r3:Bk _ w.heap.size 26 #[.slice (some (c_ bv off)) l.length c,i_ hq,i_ g9]:=((L_ w 26 #[.slice (some (c_ bv off)) l.length c,i_ hq,i_ g9]).alloc (.cells #[i_ (k:Int),i_ a,i_ b,i_ cc,i_ n] 189)).alloc (.cells #[.bool bw,.bool sb,.bool sc,i_ f] 274);have p:Bk _ (w.heap.size+1) 189 #[i_ (k:Int),i_ a,i_ b,i_ cc,i_ n]:=(by simpa using(L_ (w.alloc (.cells #[.slice (some (c_ bv off)) l.length c,i_ hq,i_ g9] 26)) 189 #[i_ (k:Int),i_ a,i_ b,i_ cc,i_ n]).alloc (.cells #[.bool bw,.bool sb,.bool sc,i_ f] 274):Bk (((w.alloc (.cells #[.slice (some (c_ bv off)) l.length c,i_ hq,i_ g9] 26)).alloc (.cells #[i_ (k:Int),i_ a,i_ b,i_ cc,i_ n] 189)).alloc (.cells #[.bool bw,.bool sb,.bool sc,i_ f] 274)) (w.heap.size+1) 189 #[i_ (k:Int),i_ a,i_ b,i_ cc,i_ n]);obtain⟨-,-,G,-⟩:=vQ w 26 #[.slice (some (c_ bv off)) l.length c,i_ hq,i_ g9] 189 #[i_ (k:Int),i_ a,i_ b,i_ cc,i_ n] 274 #[.bool bw,.bool sb,.bool sc,i_ f];have j:=a8.drewN nq;have bP:=r3.drewN nq;have cG:=p.drewN nq;have cF:=G.drewN nq;clear H bT b9 cy bj be bJ bU bu C ad aE a8 r3 p G;generalize (((w.alloc (.cells #[.slice (some (c_ bv off)) l.length c,i_ hq,i_ g9] 26)).alloc (.cells #[i_ (k:Int),i_ a,i_ b,i_ cc,i_ n] 189)).alloc (.cells #[.bool bw,.bool sb,.bool sc,i_ f] 274)).drewN nq=w1 at*;have q:=bP.f_ 0;have r:=bP.f_ 1;have u:=bP.f_ 2;have v:=cG.f_ 0;have y:=cG.f_ 1;have z:=cG.f_ 2;have B:=cG.f_ 3;have D:=cG.f_ 4;have E:=cF.f_ 0;have F:=cF.f_ 1;have I:=cF.f_ 2;have J:=cF.f_ 3
 by_cases h13:(k:Int)=13
 .have aB:=m h13;simp only[Sh.mk.injEq]at aB;obtain⟨rfl,rfl,rfl,rfl⟩:=aB;clear m ew ay
  obtain rfl:k=13:=by omega
  simp only[Int.cast_ofNat_Int]at*;have e13:((13:Int)==13)=true:=rfl;have e10:((13:Int)==10)=false:=rfl
  cases r1:lV a false with
  |false=>exact kf
  |true=>
   by_cases n1:b<0
   .exact kf
   .by_cases n2:4<b
    .exact kf
    .by_cases n3:cc<b
     .exact kf
     .by_cases n4:64<cc
      .exact kf
      .by_cases n5:ij l ((i:Int)+1)=21
       .by_cases m1:ij l n=21
        .exact kf
        .exact kf
       .exact kf
 have e13:((k:Int)==13)=false:=by simpa using h13
 by_cases h10:(k:Int)=10
 .have aB:=ew h10;simp only[Sh.mk.injEq]at aB;obtain⟨rfl,rfl,rfl,rfl⟩:=aB;clear m ew ay
  obtain rfl:k=10:=by omega
  simp only[Int.cast_ofNat_Int]at*;replace e13:((10:Int)==13)=false:=rfl;have e10:((10:Int)==10)=true:=rfl
  cases r1:lV a true with
  |false=>exact kf
  |true=>
   cases r3:lV cc false with
   |false=>exact kf
   |true=>
    cases r4:ri b with
    |false=>exact kf
    |true=>
     by_cases m1:0<=n
     .by_cases m2:n<64
      .exact kf
      .exact kf
     .exact kf
 have e10:((k:Int)==10)=false:=by simpa using h10
 clear m ew
 have d:f=0∨f=1∨f=2∨f=3∨f=4∨f=5∨f=6∨f=7∨f=8∨f=9:=by omega
 clear ay
 cases r1:lV a bw with
 |false=>rcases d with rfl|rfl|rfl|rfl|rfl|rfl|rfl|rfl|rfl|rfl<;>exact kf
 |true=>
 cases r2:lV b sb with
 |false=>rcases d with rfl|rfl|rfl|rfl|rfl|rfl|rfl|rfl|rfl|rfl<;>exact kf
 |true=>
 cases r3:lV cc sc with
 |false=>rcases d with rfl|rfl|rfl|rfl|rfl|rfl|rfl|rfl|rfl|rfl<;>exact kf
 |true=>
 rcases d with rfl|rfl|rfl|rfl|rfl|rfl|rfl|rfl|rfl|rfl
 .by_cases m0:n=0
  .exact kf
  exact kf
 .exact kf
 .cases mb:ph n with
  |false=>exact kf
  |true=>
  by_cases m1:0<=n
  .by_cases m2:n<100
   .exact kf
   exact kf
  exact kf
 .by_cases m1:0<=n
  .by_cases m2:n<16
   .exact kf
   exact kf
  exact kf
 .by_cases m1:0<=n
  .by_cases m2:n<=16
   .exact kf
   exact kf
  exact kf
 .by_cases m1:0<=n
  .by_cases m2:n<64
   .by_cases m3:(k:Int)=20
    .by_cases m4:ij l ((i:Int)-1)=21
     .exact kf
     exact kf
    exact kf
   exact kf
  exact kf
 .by_cases m1:0<=ij l n
  .by_cases m2:ij l n=20
   .exact kf
   by_cases m3:(i:Int)<n
   .exact kf
   by_cases m4:ij l n=21
   .exact kf
   exact kf
  exact kf
 .by_cases m1:ij l n=21
  .exact kf
  exact kf
 .by_cases m0:n=0
  .exact kf
  by_cases m1:ij l n=21
  .exact kf
  exact kf
 exact kf
theorem qH(A:Option Addr)(c:Nat)(l:List In)(hq g9:Int)(i g:Nat)(w:World)(h:Is w A l)(C:Sl w 274 4 (j_ g) 22 qn)(hi:i<l.length)(hn:l.length<=1000000000):
 Calls prog 147 #[.agg #[.slice A l.length c,i_ hq,i_ g9],i_ i,.slice (j_ g) 22 22] w λe w'=>e=.returned (.bool (kU l i))/\Gr [] w w':=by
 by_cases ho:l[i].op<0∨21<l[i].op
 .exact zY A c l hq g9 i g w h hi hn ho
 exact B5 A c l hq g9 i g w h C hi hn o_ o_
def m_(l:List In)(g9:Int):List In->Nat->Int->Bool
 |[],_,m=>g9==m
 |x::t,k,m=>kU l k&&(if x.op=21 then(x.n==m)&&m_ l g9 t (k+1) (m+1) else m_ l g9 t (k+1) m)
theorem y2(l:List In)(g9:Int)(t:List In):∀(k:Nat) (m:Int),
 ((List.range' k t.length).all (kU l)&&ka t m&&(g9==m+jr t))=m_ l g9 t k m:=by
 induction t with
 |nil=>intro k m;simp[m_,ka,jr]
 |cons x t ad=>
  intro k m
  have hr:List.range' k (x::t).length=k::List.range' (k+1) t.length:=by simp[List.range'_succ]
  rw[hr]
  by_cases I:x.op=21
  .have Y:m+jr (x::t)=(m+1)+jr t:=by simp[jr,I];omega
   rw[Y];simp only[m_,ka,I,if_true,List.all_cons,<-ad]
   cases kU l k<;>cases(x.n==m)<;>simp
  .have Y:jr (x::t)=jr t:=by simp[jr,I]
   rw[Y];simp only[m_,ka,I,if_false,List.all_cons,<-ad]
   cases kU l k<;>simp
theorem xN(l:List In)(g9:Int)(k:Nat)(m:Int)(h:l.length<=k):m_ l g9 (l.drop k) k m=(g9==m):=by
 rw[El h]
 rfl
theorem wa(l:List In)(g9:Int)(k:Nat)(m:Int)(h:k<l.length):
 m_ l g9 (l.drop k) k m=(kU l k&&(if l[k].op=21 then(l[k].n==m)&&m_ l g9 (l.drop (k+1)) (k+1) (m+1) else m_ l g9 (l.drop (k+1)) (k+1) m)):=by
 rw[X_ h]
 rfl
theorem y3(l:List In)(hq g9:Int):hZ l hq g9=(decide (1<=l.length)&&decide (l.length<=2048)&&decide (0<=hq)&&decide (hq<=64)&&(ij l 0==21)&&
 (ij l ((l.length:Int)-1)==14||ij l ((l.length:Int)-1)==16||ij l ((l.length:Int)-1)==11)&&m_ l g9 (l.drop 0) 0 0):=by
 rw[List.drop_zero,<-y2,<-List.range_eq_range',Int.zero_add];unfold hZ oK;simp only[Bool.and_assoc]
theorem iI(A:Option Addr)(c:Nat)(l:List In)(hq g9:Int)(w:World)(h:Is w A l)(hn:l.length<=1000000000):
 Calls prog 92 #[.agg #[.slice A l.length c,i_ hq,i_ g9]] w λe w'=>e=.returned (.bool (hZ l hq g9))/\Gr [] w w':=by
 have aB:=h_ (y3 l hq g9);have J:=(D_ [] w).alloc (.cells #[.slice A l.length c,i_ hq,i_ g9] 26);replace h:=h.g_ J;have hB:=L_ w 26 #[.slice A l.length c,i_ hq,i_ g9];have z0:=hB.f_ 0;have aS:=hB.f_ 1;have aX:=hB.f_ 2
 by_cases h1:l.length<1
 .have D:=h_ (show hZ l hq g9=false by rw[aB.out];simp[show ¬(1<=l.length) by omega]);exact Kf
 by_cases h2:2048<l.length
 .have D:=h_ (show hZ l hq g9=false by rw[aB.out];simp[show ¬(l.length<=2048) by omega]);exact Kf
 by_cases h3:hq<0
 .have D:=h_ (show hZ l hq g9=false by rw[aB.out];simp[show ¬(0<=hq) by omega]);exact Kf
 by_cases aw:64<hq
 .have D:=h_ (show hZ l hq g9=false by rw[aB.out];simp[show ¬(hq<=64) by omega]);exact Kf
 obtain⟨p,hp⟩:∃p,l.length=p+1:=⟨l.length-1,by omega⟩
 have b8:0<l.length:=by omega
 have b0:p<l.length:=by omega
 have am:=h_ (show ij l 0=l[0].op by unfold ij;rw[P_ o_];simp[List.getD,K_ b8])
 have aN:=h_ (show ij l ((l.length:Int)-1)=l[p].op by
  have e:(l.length:Int)-1=p:=by omega
  unfold ij;rw[e,P_ o_]
  simp[List.getD,K_ b0])
 obtain⟨bv,off,rfl,bj, -, -, -, -⟩:=h.at_ b8;obtain⟨K,z,he,ao, -, -, -, -⟩:=h.at_ b0;injection he with he;injection he with aP aL;subst aP;subst aL;rw[FH,Fe]at bj;generalize l[p].op=q at*;generalize l[0].op=bM at*
 by_cases ax:¬bM=21
 .have d:(bM==21)=false:=by simpa using ax
  have D:=h_ (show hZ l hq g9=false by rw[aB.out,am.out,d];simp);clear aB am aN;generalize hL:l.length=n at*;clear b0 ao d hn hL h hp;exact HL
 replace ax:=Classical.not_not.mp ax
 have d:(bM==21)=true:=by simpa using ax
 by_cases hl:q=14∨q=16∨q=11
 .have o:(q==14||q==16||q==11)=true:=by rcases hl with rfl|rfl|rfl<;>rfl
  have M:=h_ (show hZ l hq g9=m_ l g9 (l.drop 0) 0 (0:Nat) by rw[aB.out,am.out,aN.out,d,o];simp[show 1<=l.length by omega,show l.length<=2048 by omega,show 0<=hq by omega,show hq<=64 by omega]);clear aB am aN;generalize hL:l.length=n at*;have aB:=M;clear M
  have Y:(n:Int)-1=p:=by omega
  clear hp o d;subst ax
  have av:((n:Int)<1)=False:=by simp;omega
  have bf:(2048<(n:Int))=False:=by simp;omega
  have y:(hq<0)=False:=by simp;omega
  have E:(64<hq)=False:=by simp;omega
  rcases hl with rfl|rfl|rfl
  all_goals
   go_enter func92,ntmps92
   go_wp2_with (first
    |(go_at_call 146;refine(wl _).mono ?_;rintro e w2⟨g,rfl,C,hg⟩;replace J:=J.trans hg;replace h:=h.g_ hg;replace hB:=hB.g_ hg;have z0:=hB.f_ 0;have aS:=hB.f_ 1;have aX:=hB.f_ 2;clear hg))
   go_loopw [57,5] (λi v w'=>∃(k:Nat) (j:Nat),k<=n/\j<=k/\i=i_ k/\v=i_ j/\hZ l hq g9=m_ l g9 (l.drop k) k j/\Gr [] w2 w') (λi _ _=>n-(intOf i).toNat)
   case atStart=>exact⟨0,0,N_ _,G_ _,rfl,rfl,aB.out,D_ _ _⟩
   case round=>
    obtain⟨k,j,hk,hj,rfl,rfl,G,F⟩:=hrel;have aR:=h_ G;clear G aB;clear z0 aS aX;have s:=hB.g_ F;have z0:=s.f_ 0;have aS:=s.f_ 1;have aX:=s.f_ 2
    by_cases aj:k<n
    .have aH:k<l.length:=by omega
     have ap:=h_ (wa l g9 k j aH);obtain⟨b',z,he,bj,be,bJ,bU,bu⟩:=(h.g_ F).at_ aH;injection he with he;injection he with aP aL;subst aP;subst aL;generalize l[k]=x at*;obtain⟨op,a,b,cc,m⟩:=x;simp only at*;have hg1:=F.alloc (.cells #[i_ op,i_ a,i_ b,i_ cc,i_ m] 189);clear z0 aS aX s;have az:=hB.g_ hg1;have z0:=az.f_ 0;have aS:=az.f_ 1;have aX:=az.f_ 2;have t:=(λ{w2 w':World}(_:Gr [] w2 w')=>L_ w' 189 #[i_ op,i_ a,i_ b,i_ cc,i_ m]) F
     cases hf:kU l k with
     |false=>
      have D:=h_ (show hZ l hq g9=false by rw[aR.out,ap.out,hf];rfl);clear aR ap;exact Hb
     |true=>
      by_cases q:op=21
      .have bM:(op==21)=true:=by simpa using q
       by_cases p:m=j
       .have p0:(m==(j:Int))=true:=by simpa using p
        have D:=h_ (show hZ l hq g9=m_ l g9 (l.drop (k+1)) (k+1) ((j+1:Nat):Int) by rw[aR.out,ap.out,hf,Q_ q,p0];rfl);clear aR ap p q
        go_wp2_with ((go_at_call 147;have ak:=qH _ c l hq g9 k g _ (h.g_ hg1) (C.g_ hg1) aH o_;rw[hL,hf]at ak;refine ak.mono ?_;rintro e ae⟨rfl,hg⟩;replace t:=t.g_ hg;have Z:=t.f_ 0;have aV:=t.f_ 4;replace hg1:=hg1.trans hg;replace az:=hB.g_ hg1;clear z0 aS aX;have z0:=az.f_ 0;have aS:=az.f_ 1;have aX:=az.f_ 2;clear hg))
        go_roundw
        case rel=>exact⟨k+1,j+1,by omega,by omega,by go_num,by go_num,D.out,hg1⟩
        case measure=>simp[intOf];omega
       .have p0:(m==(j:Int))=false:=by simpa using p
        have D:=h_ (show hZ l hq g9=false by rw[aR.out,ap.out,hf,Q_ q,p0];rfl);clear aR ap p q;exact Hb
      .have bM:(op==21)=false:=by simpa using q
       have D:=h_ (show hZ l hq g9=m_ l g9 (l.drop (k+1)) (k+1) (j:Int) by rw[aR.out,ap.out,hf,P_ q];rfl);clear aR ap q
       go_wp2_with ((go_at_call 147;have ak:=qH _ c l hq g9 k g _ (h.g_ hg1) (C.g_ hg1) aH o_;rw[hL,hf]at ak;refine ak.mono ?_;rintro e ae⟨rfl,hg⟩;replace t:=t.g_ hg;have Z:=t.f_ 0;have aV:=t.f_ 4;replace hg1:=hg1.trans hg;replace az:=hB.g_ hg1;clear z0 aS aX;have z0:=az.f_ 0;have aS:=az.f_ 1;have aX:=az.f_ 2;clear hg))
       go_roundw
       case rel=>exact⟨k+1,j,by omega,by omega,by go_num,rfl,D.out,hg1⟩
       case measure=>simp[intOf];omega
    .go_wp2;go_ret;exact⟨iq (by rw[aR.out,xN _ _ _ _ o_]),J.trans F⟩
 .have o:(q==14||q==16||q==11)=false:=by simp;omega
  have D:=h_ (show hZ l hq g9=false by rw[aB.out,am.out,aN.out,d,o];simp)
  have r:¬q=14:=by omega
  have u:¬q=16:=by omega
  have f:¬q=11:=by omega
  have H:(q !=14)=true:=by simpa using r
  have I:(q !=16)=true:=by simpa using u
  have B:(q !=11)=true:=by simpa using f
  clear r u f;clear aB am aN o hl;generalize hL:l.length=n at*
  have Y:(n:Int)-1=p:=by omega
  clear hL hp h hn d;subst ax;exact HL
def jm(l:List In)(hq g9 pc:Int):Bool:=hZ l hq g9&&(ij l pc==20)
def mC(l:List In)(pc:Int):Bool:=
 (pc== -1)||(ij l pc==21)||(decide (0<=ij l pc)&&(ij l (pc-1)==21||ij l (pc-1)==20))
theorem k8(A:Option Addr)(c:Nat)(l:List In)(hq g9 pc:Int)(w:World)(h:Is w A l)(hn:l.length<=1000000000):
 Calls prog 83 #[.agg #[.slice A l.length c,i_ hq,i_ g9],i_ pc] w λe w'=>e=.returned (.bool (jm l hq g9 pc))/\Gr [] w w':=by
 have hg1:=(D_ [] w).alloc (.cells #[.slice A l.length c,i_ hq,i_ g9] 26);have hB:=L_ w 26 #[.slice A l.length c,i_ hq,i_ g9];have z0:=hB.f_ 0;have aS:=hB.f_ 1;have aX:=hB.f_ 2
 cases hv:hZ l hq g9 with
 |false=>
  have D:=h_ (show jm l hq g9 pc=false by unfold jm;rw[hv];rfl)
  go_enter func83,ntmps83
  go_wp2_with (go_at_call 92;have ak:=iI A c l hq g9 _ (h.g_ hg1) hn;rw[hv]at ak;refine ak.mono ?_;rintro e ae⟨rfl,hg⟩;replace hg1:=hg1.trans hg;clear hg)
  go_ret;exact⟨iq D.out.symm,hg1⟩
 |true=>
  have D:=h_ (show jm l hq g9 pc=(ij l pc==20) by unfold jm;rw[hv];rfl)
  go_enter func83,ntmps83
  go_wp2_with (first
   |(go_at_call 92;have ak:=iI A c l hq g9 _ (h.g_ hg1) hn;rw[hv]at ak;refine ak.mono ?_;rintro e ae⟨rfl,hg⟩;replace hg1:=hg1.trans hg;replace hB:=hB.g_ hg;have z0:=hB.f_ 0;have aS:=hB.f_ 1;have aX:=hB.f_ 2;clear hg)
   |(go_at_call 133;refine(p4 A c l hq g9 pc _ (h.g_ hg1) hn).mono ?_;rintro e ae⟨rfl,hg⟩;replace hg1:=hg1.trans hg;clear hg))
  go_ret;exact⟨iq D.out.symm,hg1⟩
theorem lM(A:Option Addr)(c:Nat)(l:List In)(hq g9 pc:Int)(w:World)(h:Is w A l)(hn:l.length<=1000000000)(b4: -1000000000<=pc)(bo:pc<=1000000000):
 Calls prog 97 #[.agg #[.slice A l.length c,i_ hq,i_ g9],i_ pc] w λe w'=>e=.returned (.bool (mC l pc))/\Gr [] w w':=by
 have hg1:=(D_ [] w).alloc (.cells #[.slice A l.length c,i_ hq,i_ g9] 26);have hB:=L_ w 26 #[.slice A l.length c,i_ hq,i_ g9];have z0:=hB.f_ 0;have aS:=hB.f_ 1;have aX:=hB.f_ 2
 by_cases m:pc= -1
 .have D:=h_ (show mC l pc=true by unfold mC;simp[m])
  go_enter func97,ntmps97
  go_wp2;exact Jh
 by_cases a:ij l pc=21
 .skip;have D:=h_ (show mC l pc=true by unfold mC;simp[a]);exact Hj
 by_cases b:0<=ij l pc
 .by_cases d:ij l (pc-1)=21
  .skip;have D:=h_ (show mC l pc=true by unfold mC;simp[b,d]);exact Hj
  by_cases e:ij l (pc-1)=20
  .skip;have D:=h_ (show mC l pc=true by unfold mC;simp[b,e]);exact Hj
  .skip;have D:=h_ (show mC l pc=false by unfold mC;simp[m,a,b,d,e]);exact Hj
 .skip;have D:=h_ (show mC l pc=false by unfold mC;simp[m,a,b]);exact Hj
def bad(l:List Int)(g9:Int)(k:Nat):Bool:=
 decide (l.getD k 0<0)||decide (g9<l.getD k 0)||(decide (0<k)&&decide (l.getD k 0<=l.getD (k-1) 0))
def qI(c:List In)(hq g9:Int)(d:List Int):Bool:= !(iN (bad d g9) (List.range d.length))&&hZ c hq g9
theorem uT(A B:Option Addr)(c cb:Nat)(l:List In)(hq g9:Int)(d:List Int)(w:World)(N:Is w A l)(hn:l.length<=1000000000)(h:Ns w 3 B d)(hd:d.length<=1000000000):
 Calls prog 77 #[.agg #[.slice A l.length c,i_ hq,i_ g9],.agg #[.slice B d.length cb]] w λe w'=>e=.returned (.bool (qI l hq g9 d))/\Gr [] w w':=by
 have J:=((D_ [] w).alloc (.cells #[.slice A l.length c,i_ hq,i_ g9] 26)).alloc (.cells #[.slice B d.length cb] 32);have D:=(L_ w 26 #[.slice A l.length c,i_ hq,i_ g9]).alloc (.cells #[.slice B d.length cb] 32);have hB:Bk _ (w.heap.size+1) 32 #[.slice B d.length cb]:=(by simpa using L_ (w.alloc (.cells #[.slice A l.length c,i_ hq,i_ g9] 26)) 32 #[.slice B d.length cb]:Bk ((w.alloc (.cells #[.slice A l.length c,i_ hq,i_ g9] 26)).alloc (.cells #[.slice B d.length cb] 32)) (w.heap.size+1) 32 #[.slice B d.length cb]);replace h:=h.g_ J;replace N:=N.g_ J;have z0:=D.f_ 0;have aS:=D.f_ 1;have aX:=D.f_ 2;have aU:=hB.f_ 0;generalize hD:d.length=n at*
 go_enter func77,ntmps77
 go_wp2;generalize (w.alloc (.cells #[.slice A l.length c,i_ hq,i_ g9] 26)).alloc (.cells #[.slice B n cb] 32)=w1 at*
 go_loopw [10] (λi w'=>∃k:Nat,k<=n/\i=i_ k/\iN (bad d g9) (List.range d.length)=iN (bad d g9) ((List.range d.length).drop k)/\Gr [] w1 w') (λi _=>n-(intOf i).toNat)
 case atStart=>exact⟨0,N_ _,rfl,rfl,D_ _ _⟩
 case round=>
  obtain⟨k,hk,rfl,G,F⟩:=hrel;have aR:=h_ G;clear G;have t:=D.g_ F;have az:=hB.g_ F;have z0:=t.f_ 0;have aS:=t.f_ 1;have aX:=t.f_ 2;have aU:=az.f_ 0
  by_cases aj:k<n
  .have aH:k<d.length:=by omega
   have a:k<(List.range d.length).length:=by simpa using aH
   have HD:=h_ (show d.getD k 0=d[k] by simp[List.getD,K_ aH]);obtain⟨b,off,rfl,bj⟩:=(h.g_ F).at_ aH;generalize d[k]=x at*
   by_cases t0:x<0
   .have aT:=h_ (show bad d g9 k=true by unfold bad;rw[HD.out];simp[t0]);exact Ie
   by_cases t1:g9<x
   .have aT:=h_ (show bad d g9 k=true by unfold bad;rw[HD.out];simp[t0,t1]);exact Ie
   cases k with
   |zero=>
    rw[Fe]at bj;have aT:=h_ (show bad d g9 0=false by unfold bad;rw[HD.out];simp[t0,t1]);have M:=h_ (show iN (bad d g9) (List.range d.length)=iN (bad d g9) ((List.range d.length).drop (0+1)) by rw[aR.out];exact oo (p:=bad d g9) a (by rw[Fg];exact aT.out));clear aR aT;go_wp2;go_roundw
    case rel=>exact⟨0+1,by omega,rfl,M.out,F⟩
    case measure=>simp[intOf];omega
   |succ j=>
    obtain⟨b',z,he,ao⟩:=(h.g_ F).at_ (k:=j) o_;injection he with he;injection he with aP aL;subst aP;subst aL;have aq:=h_ (show d.getD j 0=d[j] by simp[List.getD,K_ (show j<d.length by omega)]);generalize d[j]=y at*
    have Y:((j:Int)+1-1)=j:=by omega
    by_cases ak:x<=y
    .have aT:=h_ (show bad d g9 (j+1)=true by unfold bad;rw[HD.out,Nat.add_sub_cancel,aq.out];simp[ak]);exact Ie
    .have aT:=h_ (show bad d g9 (j+1)=false by unfold bad;rw[HD.out,Nat.add_sub_cancel,aq.out];simp[t0,t1,ak]);have M:=h_ (show iN (bad d g9) (List.range d.length)=iN (bad d g9) ((List.range d.length).drop (j+1+1)) by rw[aR.out];exact oo (p:=bad d g9) a (by rw[Fg];exact aT.out));clear aR aT;go_wp2;go_roundw
     case rel=>exact⟨j+1+1,by omega,by go_num,M.out,F⟩
     case measure=>simp[intOf];omega
  .have M:=h_ (show qI l hq g9 d=hZ l hq g9 by unfold qI;rw[aR.out,qL (p:=bad d g9) p_];rfl);clear aR
   go_wp2_with (go_at_call 92;refine(iI A c l hq g9 _ (N.g_ F) hn).mono ?_;rintro e ae⟨rfl,hg⟩;replace F:=F.trans hg;clear hg)
   go_ret;exact⟨iq M.out.symm,J.trans F⟩
theorem vj(A:Option Addr)(n c:Nat)(zs:List Int)(w:World)(a6:TypeId)(h:Sl w a6 1 A n (zs.map (.int .u8)))(hz:∀j,0<=zs.getD j 0/\zs.getD j 0<256)(r:n<=c)(hn:n<=9223372036854775807):
 Calls prog 12 #[.slice A n c] w λe w'=>∃g,e=.returned (q_ g)/\w.heap.size<=g/\iE w' w'.heap.size g/\Gr [] w w':=by
 go_enter func12,ntmps12
 go_wp2_with (go_at_call 54;refine(A4 A n c zs _ a6 h hz r hn).mono ?_;rintro e w'⟨g,rfl,hg,hd,F⟩)
 go_ret;exact⟨g,rfl,hg,hd,F⟩
end Go.Proofs.YtenbhdilndfaeaaGreat
