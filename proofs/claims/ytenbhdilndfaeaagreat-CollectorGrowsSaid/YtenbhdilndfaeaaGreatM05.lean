import Derived.Test.YtenbhdilndfaeaaGreatM04
set_option maxRecDepth 100000
set_option maxHeartbeats 0
set_option linter.all false
namespace Go.Proofs.YtenbhdilndfaeaaGreat
open Go.RowKit Go.Proofs.Tryz
variable{G:Prop}{e:TypeId}{xs:List Value}{g:Nat}{w':World}{M:List Nat}(base:Nat)(o:Int)(w:World)
theorem H7(h:G:=by
 go_wp2_with ((go_at_call 147;have af:=qJ _ c l hI hF k g _ (h.hG hg1) (C.hG hg1) az o_;rw[hL,hf]at af;refine af.mono ?_;rintro e Y⟨rfl,hg⟩;replace t:=t.hG hg;have U:=t.f_ 0;have ao:=t.f_ 4;replace hg1:=hg1.trans hg;replace E:=hB.hG hg1;clear z0 aM aV;have z0:=E.f_ 0;have aM:=E.f_ 1;have aV:=E.f_ 2;clear hg))
 go_ret;exact⟨iD bg.out.symm,I.trans hg1⟩):G:=h
theorem If(h:G:=by
 go_enter func97,ntmps97
 go_wp2_with (go_at_call 133;refine(qb A c l hI hF _ _ (h.hG hg1) hn).mono ?_;rintro e Y⟨rfl,hg⟩;replace hg1:=hg1.trans hg;replace hB:=hB.hG hg;have z0:=hB.f_ 0;have aM:=hB.f_ 1;have aV:=hB.f_ 2;clear hg)
 exact Kf):G:=h
theorem I4(h:G:=by
 have bo:((n:Int)<1)=False:=p_;have a2:(2048<(n:Int))=False:=p_;have y:(hI<0)=False:=p_;have o:(64<hI)=False:=p_;exact Ln):G:=h
theorem Ja(h:G:=by
 have bl:=h_ (show qK l hI hF d=false by unfold qK;rw[aI.out,oR (p:=bad d hF) a (by rw[Gb];exact aR.out)];rfl);clear aI aR;go_wp2;go_ret;exact⟨iD bl.out.symm,I.trans F⟩):G:=h
theorem Kf(h:G:=by
 go_ret;exact⟨iD (by first|exact bg.out.symm|(rw[bg.out];simp[a,d,e])|(rw[bg.out];simp[a])),hg1⟩):G:=h
theorem K2(h:G:=by
 go_enter func147,ntmps147
 go_wp2;go_ret;exact⟨iD af.out.symm,I.alloc _⟩):G:=h
theorem Ln(h:G:=by
 go_enter func92,ntmps92
 go_wp2;go_ret;exact⟨iD bg.out.symm,I⟩):G:=h

theorem vB{w:World}{base:Nat}{size:Nat}{A:OA}{n c:Nat}(h:w.ownsRow base e size (.slice A n c) n xs){b off:Nat}(hb:A=some ⟨b,off,none⟩):base<=b:=by
 subst hb
 rcases h.2 with⟨hv,h0⟩|⟨g,lW,cur,hv,hg,_⟩
 .cases hv
 .injection hv with hv;injection hv with hv;injection hv with hv _ _;omega
theorem infoI64:(prog.info? 2).map (λi=>(i.zero,i.size,i.bytes))=some (some (i_ 0),1,8):=by kernel_rfl
theorem yg(B g:Nat)(w:World)(hd:iQ w B g)(hB:B<=w.heap.size):
 Calls prog 45 #[.pointer (some ⟨g,0,none⟩)] w λe w'=>∃(A:OA) (c:Nat) (l:List Int),e=.returned (.agg #[.slice A l.length c])/\l.length<=5/\Ns w' 2 A l/\iQ w' B g/\Gr [g] w w':=by
 obtain⟨bF,bE,bt,a8,bo⟩:=info_parts infoI64;have bl:=hd.xa;obtain⟨aQ,bU,-⟩:=qh w 29 #[n_] 29 #[n_];have af:Gr [g] w ((w.alloc (.cells #[n_] 29)).alloc (.cells #[n_] 29)):=((F_ [g] w).alloc _).alloc _;have bg:=hd.hG (((F_ [] w).alloc (.cells #[n_] 29)).alloc (.cells #[n_] 29))
 go_enter func45,ntmps45
 go_wp2_with fail
 go_at_call 19
 refine(iw B g 6 _ bg o_ o_).mono ?_;rintro e w1⟨r,rfl,bD,bJ,cO,J⟩;obtain⟨K,rfl⟩:∃N:Nat,r=N:=⟨r.toNat,o_⟩;have bq:=aQ.gr J p_;have bK:=bU.gr J p_;have bR:=af.trans J
 have aL:w.heap.size+2<=w1.heap.size:=by have:=J.size;simp at this;omega
 clear bg aQ bU af J hd;generalize aE:w.heap.size=bp at*;have aK:=h_ aE;clear aE;go_wp2
 go_loopw [4] (λbV w'=>∃(j:Nat) (F:OA) (f:Nat) (vs:List Int),j<=K/\bV=i_ ((K:Int)-j)/\vs.length=j/\Bk w' bp 29 #[n_]/\Bk w' (bp+1) 29 #[.slice F j f]/\w'.ownsRow w1.heap.size 2 1 (.slice F j f) j (vs.map (Value.int .i64))/\iQ w' B g/\Gr [g] w w'/\w1.heap.size<=w'.heap.size) (λbV _=>(intOf bV).toNat)
 case atStart=>exact⟨0,none,0,[],O_ _,gn,rfl,bq,bK,iV _ _ _ _,cO,bR,H_ _⟩
 case round=>
  obtain⟨j,F,f,vs,hj,rfl,cH,b,h,x,i,c3,D⟩:=hrel;have dx:=h_ cH;clear cH
  by_cases L:j<K
  .have aR:=h.f_ 0;have y:=i.hG (F_ [] wr).drew;obtain⟨dz,O⟩:=i.bk
   go_wp2_with fail
   go_region_law (first|(refine pb rfl (.tmp 12) (.tmp 16) 27 rfl w1.heap.size 2 bF _ 1 8 underlying27 bE bt a8 bo rfl d_ d_ F j f (vs.map (Value.int .i64)) rfl z _ 1 1 _ rfl Q (by intro u hu;simp at hu;subst hu;rfl) o_ q ?_;intro C b8 Y am m;have d:=m.bk t d_;have bH:=d.hH 0;have I:=d.f_ 0)|(go_simp;go_at_call 19;refine(iw B g 9 _ y o_ o_).mono ?_;rintro e T⟨v,rfl,M,hv1,cI,aN⟩;have bQ:IntKind.i64.wrap (v-3)=v-3:=E2 _ o_;have br:=(F_ [g] wr).drew.trans aN;have n:=h.gr br p_;have E:=n.f_ 0;have t:=n.alloc (.cells #[i_ (v-3)] 2);have k:=t.f_ 0;have z:=iK (kH x O d_ br) ((F_ [] T).alloc (.cells #[i_ (v-3)] 2));have Q:Sl (T.alloc (.cells #[i_ (v-3)] 2)) 2 1 (some ⟨T.heap.size,0,none⟩) 1 [i_ (v-3)]:=kN (s:=1) (P_ T 2 #[i_ (v-3)]) rfl;have q:w1.heap.size<=(T.alloc (.cells #[i_ (v-3)] 2)).heap.size:=G_ D (br.alloc _).size))
   all_goals
    go_wp2;go_roundw
    case rel=>
     have a:=(F_ [bp+1] Y).setCell (p:=⟨bp+1,0,none⟩) (.inl s_) (.slice C (j+1) b8);have dB:=(cI.hG ((F_ [] T).alloc (.cells #[i_ (v-3)] 2))).app m o_;have G:=m.gr [g] w (by rw[aK.out];omega) (c3.trans (br.alloc _));refine⟨j+1,C,b8,vs++[v-3],o_,gn,by rw[J_,dx.out];rfl,(m.bk ((b.gr br p_).alloc _) d_).gr a s_,d.hW 0 _,?_,?_,?_,?_⟩
     .rw[EL];exact kH am d d_ a
     .exact dB.ih a p_
     .exact G.setCell (.inr (by rw[aK.out];simp)) _
     .have h1:=G_ q m.size;have h2:=a.size;omega
    case measure=>exact mz
  .have cC:j=K:=o_;subst cC;have o:=h.f_ 0;have H:=b.hH 0;have bD:=b.f_ 0;go_wp2;have a6:=b.hW 0 (.slice F j f);have a:=(F_ [bp] wr).setCell (p:=⟨bp,0,none⟩) (.inl s_) (.slice F j f);refine EX (FP rfl _ _ _ _ _ _ _ rfl a6 underlying29 rfl k_) rfl ⟨F,f,vs,by rw[dx.out];rfl,by rw[dx.out];omega,?_,i.ih a p_,?_⟩
   .unfold Ns;rw[dx.out];exact Sl.iu (Sl.iT x) b d_ a
   .exact c3.setCell (.inr (by rw[aK.out];simp)) _
inductive ET where
 |mk (h6 n:Int) (name:ByteArray) (op:Int) (A:OA) (c:Nat) (l:List ET)
def ET.h6:ET->Int| .mk k _ _ _ _ _ _=>k
def ET.n:ET->Int| .mk _ n _ _ _ _ _=>n
def ET.name:ET->ByteArray| .mk _ _ s _ _ _ _=>s
def ET.op:ET->Int| .mk _ _ _ o _ _ _=>o
def ET.A:ET->Option Addr| .mk _ _ _ _ A _ _=>A
def ET.c:ET->Nat| .mk _ _ _ _ _ c _=>c
def ET.l:ET->List ET| .mk _ _ _ _ _ _ l=>l
def ET.g_(t:ET):Array Value:=#[i_ t.h6,i_ t.n,.string t.name,i_ t.op,.slice t.A t.l.length t.c]
def ET.E(t:ET):List Value:=[i_ t.h6,i_ t.n,.string t.name,i_ t.op,.slice t.A t.l.length t.c]
abbrev jE(b x:Nat):Prop:=b<=x
theorem Sl.rI{w:World}{size:Nat}{A:OA}{n:Nat}(h:Sl w e size A n xs)(hk:0<n->∀b off,A=some (c_ b off)->b<w.heap.size->w'.heap[b]?=w.heap[b]?):Sl w' e size A n xs:=by
 rcases Fd n with h0|h0
 .exact⟨h.1,λhn=>by omega⟩
 .exact h.iy (hk h0)
theorem Sl.lt{w:World}{size:Nat}{x off n:Nat}(h:Sl w e size (some (c_ x off)) n xs)(hn:0<n):x<w.heap.size:=by
 obtain⟨b,o,cs,fz,hA,hb,_⟩:=h.2 hn;injection hA with hA;injection hA with hA;subst hA
 rcases EJ x w.heap.size with ag|bA
 .exact ag
 .rw[Y_ bA]at hb
  cases hb
inductive kk(p:Nat->Prop)(w:World):ET->Prop
 |mk (t:ET) (h:Sl w 226 5 t.A t.l.length (t.l.flatMap ET.E)) (hc:t.l.length<=t.c) (hb:∀x off,t.A=some (c_ x off)->0<t.l.length->p x) (hl:∀u∈t.l,kk p w u):kk p w t
theorem kk.hG{p:Nat->Prop}{w:World}{t:ET}(h:kk p w t)(hg:Gr [] w w'):kk p w' t:=by
 induction h with
 |mk t h hc hb _ Z=>exact .mk t (h.hG hg) hc hb Z
theorem kk.ih{p:Nat->Prop}{w:World}{t:ET}(h:kk p w t)(hg:Gr M w w')(z:∀x∈M,¬p x):kk p w' t:=by
 induction h with
 |mk t h hc hb _ Z=>exact .mk t (h.rI λhn x off hA hx=>hg.block x hx (λhm=>z x hm (hb x off hA hn))) hc hb Z
theorem kk.imp{p q:Nat->Prop}{w:World}{t:ET}(h:kk p w t)(c:∀x,p x->q x):kk q w t:=by
 induction h with
 |mk t h hc hb _ Z=>exact .mk t h hc (λx off hA hn=>c x (hb x off hA hn)) Z
theorem kk.lt{p:Nat->Prop}{w:World}{t:ET}(h:kk p w t):kk (λx=>p x/\x<w.heap.size) w t:=by
 induction h with
 |mk t h hc hb _ Z=>exact .mk t h hc (λx off hA hn=>⟨hb x off hA hn,(by rw[hA]at h;exact h.lt hn)⟩) Z
theorem kk.le{b c:Nat}{w:World}{t:ET}(h:kk (jE c) w t)(BK:b<=c):kk (jE b) w t:=h.imp λ_ hx=>G_ BK hx
inductive ST where
 |mk (h6:Int) (name fn:ByteArray) (n op:Int) (AE:OA) (cE:Nat) (es:List ET) (AB:OA) (cB:Nat) (bs:List ST) (AL:OA) (cL:Nat) (ls:List ST)
def ST.h6:ST->Int| .mk k _ _ _ _ _ _ _ _ _ _ _ _ _=>k
def ST.name:ST->ByteArray| .mk _ s _ _ _ _ _ _ _ _ _ _ _ _=>s
def ST.fn:ST->ByteArray| .mk _ _ s _ _ _ _ _ _ _ _ _ _ _=>s
def ST.n:ST->Int| .mk _ _ _ n _ _ _ _ _ _ _ _ _ _=>n
def ST.op:ST->Int| .mk _ _ _ _ o _ _ _ _ _ _ _ _ _=>o
def ST.AE:ST->Option Addr| .mk _ _ _ _ _ A _ _ _ _ _ _ _ _=>A
def ST.cE:ST->Nat| .mk _ _ _ _ _ _ c _ _ _ _ _ _ _=>c
def ST.es:ST->List ET| .mk _ _ _ _ _ _ _ l _ _ _ _ _ _=>l
def ST.AB:ST->Option Addr| .mk _ _ _ _ _ _ _ _ A _ _ _ _ _=>A
def ST.cB:ST->Nat| .mk _ _ _ _ _ _ _ _ _ c _ _ _ _=>c
def ST.bs:ST->List ST| .mk _ _ _ _ _ _ _ _ _ _ l _ _ _=>l
def ST.AL:ST->Option Addr| .mk _ _ _ _ _ _ _ _ _ _ _ A _ _=>A
def ST.cL:ST->Nat| .mk _ _ _ _ _ _ _ _ _ _ _ _ c _=>c
def ST.ls:ST->List ST| .mk _ _ _ _ _ _ _ _ _ _ _ _ _ l=>l
def ST.E(t:ST):List Value:=[i_ t.h6,.string t.name,.string t.fn,i_ t.n,i_ t.op,.slice t.AE t.es.length t.cE,.slice t.AB t.bs.length t.cB,.slice t.AL t.ls.length t.cL]
def ST.g_(t:ST):Array Value:=#[i_ t.h6,.string t.name,.string t.fn,i_ t.n,i_ t.op,.slice t.AE t.es.length t.cE,.slice t.AB t.bs.length t.cB,.slice t.AL t.ls.length t.cL]
inductive jK(p:Nat->Prop)(w:World):ST->Prop
 |mk (t:ST) (he:Sl w 226 5 t.AE t.es.length (t.es.flatMap ET.E)) (hce:t.es.length<=t.cE) (hbe:∀x off,t.AE=some (c_ x off)->0<t.es.length->p x) (hes:∀u∈t.es,kk p w u)
   (hb:Sl w 229 8 t.AB t.bs.length (t.bs.flatMap ST.E)) (hcb:t.bs.length<=t.cB) (te:∀x off,t.AB=some (c_ x off)->0<t.bs.length->p x) (hbs:∀u∈t.bs,jK p w u)
   (hl:Sl w 229 8 t.AL t.ls.length (t.ls.flatMap ST.E)) (hcl:t.ls.length<=t.cL) (hbl:∀x off,t.AL=some (c_ x off)->0<t.ls.length->p x) (hls:∀u∈t.ls,jK p w u):jK p w t
theorem jK.hG{p:Nat->Prop}{w:World}{t:ST}(h:jK p w t)(hg:Gr [] w w'):jK p w' t:=by
 induction h with
 |mk t he hce hbe hes hb hcb te _ hl hcl hbl _ d e=>exact .mk t (he.hG hg) hce hbe (λu hu=>(hes u hu).hG hg) (hb.hG hg) hcb te d (hl.hG hg) hcl hbl e
theorem jK.ih{p:Nat->Prop}{w:World}{t:ST}(h:jK p w t)(hg:Gr M w w')(z:∀x∈M,¬p x):jK p w' t:=by
 induction h with
 |mk t he hce hbe hes hb hcb te _ hl hcl hbl _ d e=>
  exact .mk t (he.rI λhn x off hA hx=>hg.block x hx (λhm=>z x hm (hbe x off hA hn))) hce hbe (λu hu=>(hes u hu).ih hg z)
   (hb.rI λhn x off hA hx=>hg.block x hx (λhm=>z x hm (te x off hA hn))) hcb te d
   (hl.rI λhn x off hA hx=>hg.block x hx (λhm=>z x hm (hbl x off hA hn))) hcl hbl e
theorem jK.imp{p q:Nat->Prop}{w:World}{t:ST}(h:jK p w t)(c:∀x,p x->q x):jK q w t:=by
 induction h with
 |mk t he hce hbe hes hb hcb te _ hl hcl hbl _ d e=>
  exact .mk t he hce (λx off hA hn=>c x (hbe x off hA hn)) (λu hu=>(hes u hu).imp c) hb hcb (λx off hA hn=>c x (te x off hA hn)) d hl hcl (λx off hA hn=>c x (hbl x off hA hn)) e
theorem jK.lt{p:Nat->Prop}{w:World}{t:ST}(h:jK p w t):jK (λx=>p x/\x<w.heap.size) w t:=by
 induction h with
 |mk t he hce hbe hes hb hcb te _ hl hcl hbl _ d e=>
  exact .mk t he hce (λx off hA hn=>⟨hbe x off hA hn,(by rw[hA]at he;exact he.lt hn)⟩) (λu hu=>(hes u hu).lt) hb hcb (λx off hA hn=>⟨te x off hA hn,(by rw[hA]at hb;exact hb.lt hn)⟩) d hl hcl (λx off hA hn=>⟨hbl x off hA hn,(by rw[hA]at hl;exact hl.lt hn)⟩) e
theorem jK.le{b c:Nat}{w:World}{t:ST}(h:jK (jE c) w t)(BK:b<=c):jK (jE b) w t:=h.imp λ_ hx=>G_ BK hx
def jy(n:Int):ET:=.mk 1 n ByteArray.empty 0 none 0 []
def jA(s:ByteArray):ET:=.mk 3 0 s 0 none 0 []
def eNew(n:Int):ET:=.mk 6 n ByteArray.empty 0 none 0 []
theorem kk.leaf(p:Nat->Prop)(w:World)(k n:Int)(s:ByteArray)(o:Int):kk p w (.mk k n s o none 0 []):=.mk _ (Fm _ _ _ _) (H_ _) (λ_ _ h _=>by cases h) (λu hu=>by cases hu)
theorem j7(n:Int)(w:World):Calls prog 144 #[i_ n] w λe w'=>e=.returned (.agg (jy n).g_)/\Gr [] w w':=by
 go_enter func144,ntmps144
 go_wp2_with fail
 exact rr_ (jy n).g_ (P_ w 226 _) underlying226 ⟨rfl,(F_ [] w).alloc _⟩
theorem ka(s:ByteArray)(w:World):Calls prog 145 #[.string s] w λe w'=>e=.returned (.agg (jA s).g_)/\Gr [] w w':=by
 go_enter func145,ntmps145
 go_wp2_with fail
 exact rr_ (jA s).g_ (P_ w 226 _) underlying226 ⟨rfl,(F_ [] w).alloc _⟩
def pR(o:Int)(A:OA)(a b:ET):ET:=.mk 5 0 ByteArray.empty o A 2 [a,b]
theorem jj{w:World}{t:TypeId}{cs:Array Value}{s n:Nat}(h:Bk w g t cs)(hs:cs.size=n*s):Sl w t s (j_ g) n cs.toList:=
 ⟨by simpa using hs,λ_=>⟨g,0,cs,_,rfl,h,λj u hu=>by simpa using hu⟩⟩
theorem ot(a b:ET)(w:World)(br:base<=w.heap.size)(ha:kk (jE base) w a)(hb:kk (jE base) w b):Calls prog 143 #[i_ o,.agg a.g_,.agg b.g_] w λe w'=>∃A,e=.returned (.agg (pR o A a b).g_)/\kk (jE base) w' (pR o A a b)/\Gr [] w w':=by
 obtain⟨bV,n1,s1,J,A1,c1,l1⟩:=a;obtain⟨bz,n2,b0,d,av,ai,l2⟩:=b;have HA:=h_ ha;have a6:=h_ hb;clear ha hb;rw[show(ET.mk bV n1 s1 J A1 c1 l1).g_=#[i_ bV,i_ n1,.string s1,i_ J,.slice A1 l1.length c1] from rfl,show(ET.mk bz n2 b0 d av ai l2).g_=#[i_ bz,i_ n2,.string b0,i_ d,.slice av l2.length ai] from rfl]
 go_enter func143,ntmps143
 go_wp2_with fail
 obtain⟨-,-,hR,L,I⟩:=B8 w 226 #[i_ bV,i_ n1,.string s1,i_ J,.slice A1 l1.length c1] 226 #[i_ bz,i_ n2,.string b0,i_ d,.slice av l2.length ai] 226 #[i_ 5,i_ 0,.string ByteArray.empty,i_ o,.slice (j_ (w.heap.size+1+1+1)) 2 2] 226 #[i_ bV,i_ n1,.string s1,i_ J,.slice A1 l1.length c1,i_ bz,i_ n2,.string b0,i_ d,.slice av l2.length ai];refine rr_ (pR o (j_ (w.heap.size+1+1+1)) (ET.mk bV n1 s1 J A1 c1 l1) (ET.mk bz n2 b0 d av ai l2)).g_ hR underlying226 ⟨_,rfl,?_,I⟩;refine .mk _ (jj (n:=2) L rfl) (H_ _) (λx off h _=>by injection h with h;injection h with h;omega) ?_;intro u hu
 rcases L_.1 hu with rfl|hu
 .exact HA.out.hG I
 .rcases L_.1 hu with rfl|hu
  .exact a6.out.hG I
  .cases hu
def iZ(x:ByteArray)(A:OA)(t:ET):ST:=.mk 1 x ByteArray.empty 0 0 A 1 [t] none 0 [] none 0 []
theorem kG(x:ByteArray)(t:ET)(w:World)(br:base<=w.heap.size)(ht:kk (jE base) w t):Calls prog 142 #[.string x,.agg t.g_] w λe w'=>∃A,e=.returned (.agg (iZ x A t).g_)/\jK (jE base) w' (iZ x A t)/\Gr [] w w':=by
 obtain⟨bV,n1,s1,J,A1,c1,l1⟩:=t;have HA:=h_ ht;clear ht;rw[show(ET.mk bV n1 s1 J A1 c1 l1).g_=#[i_ bV,i_ n1,.string s1,i_ J,.slice A1 l1.length c1] from rfl]
 go_enter func142,ntmps142
 go_wp2_with fail
 obtain⟨-,hR,L,I⟩:=wt w 226 #[i_ bV,i_ n1,.string s1,i_ J,.slice A1 l1.length c1] 229 #[i_ 1,.string x,.string ByteArray.empty,i_ 0,i_ 0,.slice (j_ (w.heap.size+1+1)) 1 1,n_,n_] 226 #[i_ bV,i_ n1,.string s1,i_ J,.slice A1 l1.length c1];refine rr_ (iZ x (j_ (w.heap.size+1+1)) (ET.mk bV n1 s1 J A1 c1 l1)).g_ hR underlying229 ⟨_,rfl,?_,I⟩;refine .mk _ (jj (n:=1) L rfl) (H_ _) (λx off h _=>by injection h with h;injection h with h;omega) ?_ (Fm _ _ _ _) (H_ _) (λ_ _ h _=>by cases h) (λu hu=>by cases hu) (Fm _ _ _ _) (H_ _) (λ_ _ h _=>by cases h) (λu hu=>by cases hu);intro u hu
 rcases L_.1 hu with rfl|hu
 .exact HA.out.hG I
 .cases hu
def vE:ByteArray:={data:=#[97]}
def uJ:ByteArray:={data:=#[98]}
def u0:ByteArray:={data:=#[115]}
def oZ:ByteArray:={data:=#[112]}
def mR:ByteArray:={data:=#[113]}
def oB:ByteArray:={data:=#[105]}
def w8:ByteArray:={data:=#[106]}
def w7:ByteArray:={data:=#[107]}
def Bz:ByteArray:={data:=#[110]}
def pQ:ByteArray:={data:=#[102]}
def pm:ByteArray:={data:=#[103]}
def hV:List ByteArray:=[vE,uJ,u0,oZ,mR,oB,w8,w7]
def lY:Array Value:=#[.string {data:=#[97]},.string {data:=#[98]},.string {data:=#[115]},.string {data:=#[112]},.string {data:=#[113]}]
theorem lM:Calls prog 177 #[] w λe w'=>e=.returned (.slice (j_ w.heap.size) 5 5)/\w'=w.alloc (.cells lY 9):=by
 go_enter func177,ntmps177
 go_wp2_with fail
 go_ret;exact LN
theorem wF(i:Int)(h0:0<=i)(h1:i<5):∃s,s∈hV/\lY[i.toNat]?=some (.string s):=by
 obtain⟨k,rfl⟩:∃k:Nat,i=k:=⟨i.toNat,o_⟩
 match k,h1 with
 |0,_=>exact⟨vE,by simp[hV],rfl⟩
 |1,_=>exact⟨uJ,by simp[hV],rfl⟩
 |2,_=>exact⟨u0,by simp[hV],rfl⟩
 |3,_=>exact⟨oZ,by simp[hV],rfl⟩
 |4,_=>exact⟨mR,by simp[hV],rfl⟩
theorem C8{w:World}(h:Sl w 274 4 (j_ g) 22 qr){k:Nat}(hk:k<22):
 w.cell? (c_ g (k*4))=some (.bool (i5.getD k default).a)/\w.cell? (c_ g (k*4+1))=some (.bool (i5.getD k default).b)/\w.cell? (c_ g (k*4+2))=some (.bool (i5.getD k default).c)/\w.cell? (c_ g (k*4+3))=some (i_ (i5.getD k default).n):=by
 obtain⟨b,off,hA,hc⟩:=Sl.f_ h o_;injection hA with hA;injection hA with h1 h2;subst h1;subst h2;have be:k<i5.length:=hk
 have e:i5.getD k default=i5[k]:=by simp[List.getD,M_ be]
 rw[e]
 have g:=λj hj=>jh Sh.E 4 (λ_=>rfl) i5 k j be hj
 have z:=λj u(hu:qr[j]?=some u)=>by have:=hc j u hu;rwa [U_]at this
 exact⟨z (k*4+0) _ (g 0 o_),z (k*4+1) _ (g 1 o_),z (k*4+2) _ (g 2 o_),z (k*4+3) _ (g 3 o_)⟩
theorem Az(A:OA)(c:Nat)(l:List In)(hI hF:Int)(i g:Nat)(w:World)(h:Is w A l)(hi:i<l.length)(hn:l.length<=1000000000)(aq:l[i].op<0∨21<l[i].op):
 Calls prog 147 #[.agg #[.slice A l.length c,i_ hI,i_ hF],i_ i,.slice (j_ g) 22 22] w λe w'=>e=.returned (.bool (kU l i))/\Gr [] w w':=by
 have af:=h_ (show kU l i=false by
  unfold kU jS
  have e:l.getD i default=l[i]:=by simp[List.getD,M_ hi]
  rw[e,T_ aq])
 have I:=(F_ [] w).alloc (.cells #[.slice A l.length c,i_ hI,i_ hF] 26);obtain⟨bB,off,rfl,bi,bq,bK,bT,bF⟩:=(h.hG I).at_ hi;have ag:(i:Int)<(l.length:Int):=o_;generalize l[i]=x at*;obtain⟨op,a,b,cc,n⟩:=x;simp only at aq bi bq bK bT bF
 rcases aq with ho|ho
 .exact K2
 .exact K2
theorem CH(h:G:=by first|(simp[r1];done)|(simp[r1,r2,e13,e10,h13,h10];done)|(simp[r1,r2,r3,e13,e10,h13,h10];done)|(simp[r1,r2,r3,e13,e10,h13,h10,m0];done)|(simp[r1,r2,r3,e13,e10,h13,h10,m1];done)|(simp[r1,r2,r3,e13,e10,h13,h10,mb];done)|(simp[r1,r2,r3,e13,e10,h13,h10,mb,m1];done)|(simp[r1,r2,r3,e13,e10,h13,h10,mb,m1,m2];done)|(simp[r1,r2,r3,e13,e10,h13,h10,m1,m2];done)|(simp[r1,r2,r3,e13,e10,h13,h10,m1,m2,m3];done)|(simp[r1,r2,r3,e13,e10,h13,h10,m1,m2,m3,m4];done)|(simp[r1,r2,r3,e13,e10,h13,h10,m0,m1];done)|(simp[r1,e13,e10,n1];done)|(simp[r1,e13,e10,n1,n2];done)|(simp[r1,e13,e10,n1,n2,n3];done)|(simp[r1,e13,e10,n1,n2,n3,n4];done)|(simp[r1,e13,e10,n1,n2,n3,n4,n5];done)|(simp[r1,e13,e10,n1,n2,n3,n4,n5,m1];done)|(simp[r1,r3,e13,e10];done)|(simp[r1,r3,e13,e10,r4];done)|(simp[r1,r3,e13,e10,r4,m1];done)|(simp[r1,r3,e13,e10,r4,m1,m2];done)|fail):G:=h
theorem ks(h:G:=by
 first|(have ay:Hid (Z=false):=h_ (by rw[<-HZ.out];unfold jS;dsimp only;rw[Q_ o_];exact CH))|(have ay:Hid (Z=true):=h_ (by rw[<-HZ.out];unfold jS;dsimp only;rw[Q_ o_];exact CH))
 go_wp2_with (first
  |(go_at_call 178;refine(uE _ _ _).mono ?_;rintro e w2⟨rfl,rfl⟩)
  |(go_at_call 133;refine(qb _ c l hI hF _ _ (h.hG f) hn).mono ?_;rintro e w2⟨rfl,hg⟩;have f:=f.trans hg;have bN:=bN.hG hg;have cJ:=cJ.hG hg;have cQ:=cQ.hG hg;have m:=bN.f_ 0;have o:=bN.f_ 1;have q:=bN.f_ 2;have r:=cJ.f_ 0;have t:=cJ.f_ 1;have u:=cJ.f_ 2;have v:=cJ.f_ 3;have y:=cJ.f_ 4;have z:=cQ.f_ 0;have D:=cQ.f_ 1;have E:=cQ.f_ 2;have F:=cQ.f_ 3)
  |(go_at_call 179;refine(ur _ _).mono ?_;rintro e w2⟨rfl,rfl⟩)
  |(go_at_call 180;refine(qC _ _).mono ?_;rintro e w2⟨⟨st,rfl⟩,hg⟩;have f:=f.trans hg;have bN:=bN.hG hg;have cJ:=cJ.hG hg;have cQ:=cQ.hG hg;have m:=bN.f_ 0;have o:=bN.f_ 1;have q:=bN.f_ 2;have r:=cJ.f_ 0;have t:=cJ.f_ 1;have u:=cJ.f_ 2;have v:=cJ.f_ 3;have y:=cJ.f_ 4;have z:=cQ.f_ 0;have D:=cQ.f_ 1;have E:=cQ.f_ 2;have F:=cQ.f_ 3))
 go_ret
 exact⟨iD (by first|exact ay.out.symm|(rw[ay.out];exact CH)),f⟩):G:=h
theorem CF(A:Option Addr)(c:Nat)(l:List In)(hI hF:Int)(i g:Nat)(w:World)(h:Is w A l)(C:Sl w 274 4 (j_ g) 22 qr)(hi:i<l.length)(hn:l.length<=1000000000)(h0:0<=l[i].op)(N:l[i].op<=21):
 Calls prog 147 #[.agg #[.slice A l.length c,i_ hI,i_ hF],i_ i,.slice (j_ g) 22 22] w λe w'=>e=.returned (.bool (kU l i))/\Gr [] w w':=by
 have L:kU l i=jS l i l[i] (i5.getD l[i].op.toNat default):=by
  unfold kU
  have e:l.getD i default=l[i]:=by simp[List.getD,M_ hi]
  rw[e]
 rw[L];clear L;have aP:=(((F_ [] w).alloc (.cells #[.slice A l.length c,i_ hI,i_ hF] 26)));obtain⟨bB,off,rfl,bi,bq,bK,bT,bF⟩:=(h.hG aP).at_ hi;have ag:(i:Int)<(l.length:Int):=o_;have B:=Bl l[i].op.toNat o_;have J:=aP.alloc (.cells #[i_ l[i].op,i_ l[i].a,i_ l[i].b,i_ l[i].c,i_ l[i].n] 189);obtain⟨H,bS,cj,cG⟩:=C8 (C.hG J) (k:=l[i].op.toNat) o_
 have j:l[i].op=13->i5.getD l[i].op.toNat default=⟨false,false,false,7⟩:=λh=>by rw[h];rfl
 have eC:l[i].op=10->i5.getD l[i].op.toNat default=⟨true,false,false,5⟩:=λh=>by rw[h];rfl
 generalize i5.getD l[i].op.toNat default=s at*;obtain⟨bo,sb,sc,d⟩:=s;generalize l[i]=x at*;obtain⟨op,a,b,cc,n⟩:=x;obtain⟨k,hk⟩:∃k:Nat,op=k:=⟨op.toNat,(Fz h0).symm⟩;simp only at*;subst hk;simp only[Fi]at*;have dg:(k:Int)<22:=o_;obtain⟨Z,G⟩:=mn_ (jS l i ⟨k,a,b,cc,n⟩ ⟨bo,sb,sc,d⟩);rw[G];have HZ:=h_ G;clear G
 go_enter func147,ntmps147
 go_wp2_with fail
 go_quiet (fail)
 have bl:=J.alloc (.cells #[.bool bo,.bool sb,.bool sc,i_ d] 274);have r3:Bk _ w.heap.size 26 #[.slice (some (c_ bB off)) l.length c,i_ hI,i_ hF]:=((P_ w 26 #[.slice (some (c_ bB off)) l.length c,i_ hI,i_ hF]).alloc (.cells #[i_ (k:Int),i_ a,i_ b,i_ cc,i_ n] 189)).alloc (.cells #[.bool bo,.bool sb,.bool sc,i_ d] 274);have p:Bk _ (w.heap.size+1) 189 #[i_ (k:Int),i_ a,i_ b,i_ cc,i_ n]:=(by simpa using(P_ (w.alloc (.cells #[.slice (some (c_ bB off)) l.length c,i_ hI,i_ hF] 26)) 189 #[i_ (k:Int),i_ a,i_ b,i_ cc,i_ n]).alloc (.cells #[.bool bo,.bool sb,.bool sc,i_ d] 274):Bk (((w.alloc (.cells #[.slice (some (c_ bB off)) l.length c,i_ hI,i_ hF] 26)).alloc (.cells #[i_ (k:Int),i_ a,i_ b,i_ cc,i_ n] 189)).alloc (.cells #[.bool bo,.bool sb,.bool sc,i_ d] 274)) (w.heap.size+1) 189 #[i_ (k:Int),i_ a,i_ b,i_ cc,i_ n]);obtain⟨-,-,I,-⟩:=wt w 26 #[.slice (some (c_ bB off)) l.length c,i_ hI,i_ hF] 189 #[i_ (k:Int),i_ a,i_ b,i_ cc,i_ n] 274 #[.bool bo,.bool sb,.bool sc,i_ d];have f:=bl.drewN nq;have bN:=r3.drewN nq;have cJ:=p.drewN nq;have cQ:=I.drewN nq;clear H bS cj cG bi bq bK bT bF C J aP bl r3 p I;generalize (((w.alloc (.cells #[.slice (some (c_ bB off)) l.length c,i_ hI,i_ hF] 26)).alloc (.cells #[i_ (k:Int),i_ a,i_ b,i_ cc,i_ n] 189)).alloc (.cells #[.bool bo,.bool sb,.bool sc,i_ d] 274)).drewN nq=w1 at*;have m:=bN.f_ 0;have o:=bN.f_ 1;have q:=bN.f_ 2;have r:=cJ.f_ 0;have t:=cJ.f_ 1;have u:=cJ.f_ 2;have v:=cJ.f_ 3;have y:=cJ.f_ 4;have z:=cQ.f_ 0;have D:=cQ.f_ 1;have E:=cQ.f_ 2;have F:=cQ.f_ 3
 by_cases h13:(k:Int)=13
 .have ay:=j h13;simp only[Sh.mk.injEq]at ay;obtain⟨rfl,rfl,rfl,rfl⟩:=ay;clear j eC B;obtain rfl:k=13:=o_;simp only[Int.cast_ofNat_Int]at*;have e13:((13:Int)==13)=true:=rfl;have e10:((13:Int)==10)=false:=rfl
  cases r1:l8 a false with
  |false=>exact ks
  |true=>
   by_cases n1:b<0
   .exact ks
   .by_cases n2:4<b
    .exact ks
    .by_cases n3:cc<b
     .exact ks
     .by_cases n4:64<cc
      .exact ks
      .by_cases n5:iA l ((i:Int)+1)=21
       .by_cases m1:iA l n=21
        .exact ks
        .exact ks
       .exact ks
 have e13:((k:Int)==13)=false:=zu h13
 by_cases h10:(k:Int)=10
 .have ay:=eC h10;simp only[Sh.mk.injEq]at ay;obtain⟨rfl,rfl,rfl,rfl⟩:=ay;clear j eC B;obtain rfl:k=10:=o_;simp only[Int.cast_ofNat_Int]at*;replace e13:((10:Int)==13)=false:=rfl;have e10:((10:Int)==10)=true:=rfl
  cases r1:l8 a true with
  |false=>exact ks
  |true=>
   cases r3:l8 cc false with
   |false=>exact ks
   |true=>
    cases r4:rl b with
    |false=>exact ks
    |true=>
     by_cases m1:0<=n
     .by_cases m2:n<64
      .exact ks
      .exact ks
     .exact ks
 have e10:((k:Int)==10)=false:=zu h10;clear j eC;have az:d=0∨d=1∨d=2∨d=3∨d=4∨d=5∨d=6∨d=7∨d=8∨d=9:=o_;clear B
 cases r1:l8 a bo with
 |false=>rcases az with rfl|rfl|rfl|rfl|rfl|rfl|rfl|rfl|rfl|rfl<;>exact ks
 |true=>
 cases r2:l8 b sb with
 |false=>rcases az with rfl|rfl|rfl|rfl|rfl|rfl|rfl|rfl|rfl|rfl<;>exact ks
 |true=>
 cases r3:l8 cc sc with
 |false=>rcases az with rfl|rfl|rfl|rfl|rfl|rfl|rfl|rfl|rfl|rfl<;>exact ks
 |true=>
 rcases az with rfl|rfl|rfl|rfl|rfl|rfl|rfl|rfl|rfl|rfl
 .by_cases m0:n=0
  .exact ks
  exact ks
 .exact ks
 .cases mb:pn n with
  |false=>exact ks
  |true=>
  by_cases m1:0<=n
  .by_cases m2:n<100
   .exact ks
   exact ks
  exact ks
 .by_cases m1:0<=n
  .by_cases m2:n<16
   .exact ks
   exact ks
  exact ks
 .by_cases m1:0<=n
  .by_cases m2:n<=16
   .exact ks
   exact ks
  exact ks
 .by_cases m1:0<=n
  .by_cases m2:n<64
   .by_cases m3:(k:Int)=20
    .by_cases m4:iA l ((i:Int)-1)=21
     .exact ks
     exact ks
    exact ks
   exact ks
  exact ks
 .by_cases m1:0<=iA l n
  .by_cases m2:iA l n=20
   .exact ks
   by_cases m3:(i:Int)<n
   .exact ks
   by_cases m4:iA l n=21
   .exact ks
   exact ks
  exact ks
 .by_cases m1:iA l n=21
  .exact ks
  exact ks
 .by_cases m0:n=0
  .exact ks
  by_cases m1:iA l n=21
  .exact ks
  exact ks
 exact ks
theorem qJ(A:OA)(c:Nat)(l:List In)(hI hF:Int)(i g:Nat)(w:World)(h:Is w A l)(C:Sl w 274 4 (j_ g) 22 qr)(hi:i<l.length)(hn:l.length<=1000000000):
 Calls prog 147 #[.agg #[.slice A l.length c,i_ hI,i_ hF],i_ i,.slice (j_ g) 22 22] w λe w'=>e=.returned (.bool (kU l i))/\Gr [] w w':=by
 by_cases ho:l[i].op<0∨21<l[i].op
 .exact Az A c l hI hF i g w h hi hn ho
 exact CF A c l hI hF i g w h C hi hn o_ o_
def nk(l:List In)(hF:Int):List In->Nat->Int->Bool
 |[],_,m=>hF==m
 |x::t,k,m=>kU l k&&(if x.op=21 then(x.n==m)&&nk l hF t (k+1) (m+1) else nk l hF t (k+1) m)
theorem zz(l:List In)(hF:Int)(t:List In):∀(k:Nat) (m:Int),
 ((List.range' k t.length).all (kU l)&&kg t m&&(hF==m+jG t))=nk l hF t k m:=by
 induction t with
 |nil=>intro k m;simp[nk,kg,jG]
 |cons x t Z=>
  intro k m
  have hr:List.range' k (x::t).length=k::List.range' (k+1) t.length:=by simp[List.range'_succ]
  rw[hr]
  by_cases hx:x.op=21
  .have hm:m+jG (x::t)=(m+1)+jG t:=by simp[jG,hx];omega
   rw[hm];simp only[nk,kg,hx,if_true,List.all_cons,<-Z]
   cases kU l k<;>cases(x.n==m)<;>simp
  .have hm:jG (x::t)=jG t:=by simp[jG,hx]
   rw[hm];simp only[nk,kg,hx,if_false,List.all_cons,<-Z]
   cases kU l k<;>simp
theorem yj(l:List In)(hF:Int)(k:Nat)(m:Int)(h:l.length<=k):nk l hF (l.drop k) k m=(hF==m):=by
 rw[E3 h]
 rfl
theorem wH(l:List In)(hF:Int)(k:Nat)(m:Int)(h:k<l.length):
 nk l hF (l.drop k) k m=(kU l k&&(if l[k].op=21 then(l[k].n==m)&&nk l hF (l.drop (k+1)) (k+1) (m+1) else nk l hF (l.drop (k+1)) (k+1) m)):=by
 rw[R_ h]
 rfl
theorem zA(l:List In)(hI hF:Int):ic l hI hF=(decide (1<=l.length)&&decide (l.length<=2048)&&decide (0<=hI)&&decide (hI<=64)&&(iA l 0==21)&&
 (iA l ((l.length:Int)-1)==14||iA l ((l.length:Int)-1)==16||iA l ((l.length:Int)-1)==11)&&nk l hF (l.drop 0) 0 0):=by
 rw[List.drop_zero,<-zz,<-List.range_eq_range',Int.zero_add];unfold ic nS;simp only[Bool.and_assoc]
theorem iS(A:OA)(c:Nat)(l:List In)(hI hF:Int)(w:World)(h:Is w A l)(hn:l.length<=1000000000):
 Calls prog 92 #[.agg #[.slice A l.length c,i_ hI,i_ hF]] w λe w'=>e=.returned (.bool (ic l hI hF))/\Gr [] w w':=by
 have ay:=h_ (zA l hI hF);have I:=(F_ [] w).alloc (.cells #[.slice A l.length c,i_ hI,i_ hF] 26);replace h:=h.hG I;have hB:=P_ w 26 #[.slice A l.length c,i_ hI,i_ hF];have z0:=hB.f_ 0;have aM:=hB.f_ 1;have aV:=hB.f_ 2
 by_cases h1:l.length<1
 .have bg:=h_ (show ic l hI hF=false by rw[ay.out];simp[show ¬(1<=l.length) by omega]);exact Ln
 by_cases h2:2048<l.length
 .have bg:=h_ (show ic l hI hF=false by rw[ay.out];simp[show ¬(l.length<=2048) by omega]);exact Ln
 by_cases h3:hI<0
 .have bg:=h_ (show ic l hI hF=false by rw[ay.out];simp[show ¬(0<=hI) by omega]);exact Ln
 by_cases au:64<hI
 .have bg:=h_ (show ic l hI hF=false by rw[ay.out];simp[show ¬(hI<=64) by omega]);exact Ln
 obtain⟨p,hp⟩:∃p,l.length=p+1:=⟨l.length-1,o_⟩;have b9:0<l.length:=o_;have bM:p<l.length:=o_;have aw:=h_ (show iA l 0=l[0].op by unfold iA;rw[Q_ o_];simp[List.getD,M_ b9])
 have J:=h_ (show iA l ((l.length:Int)-1)=l[p].op by
  have e:(l.length:Int)-1=p:=o_;unfold iA;rw[e,Q_ o_]
  simp[List.getD,M_ bM])
 obtain⟨bB,off,rfl,bi, -, -, -, -⟩:=h.at_ b9;obtain⟨K,z,he,ai, -, -, -, -⟩:=h.at_ bM;injection he with he;injection he with aJ aG;subst aJ;subst aG;rw[Gj,FV]at bi;generalize l[p].op=q at*;generalize l[0].op=bj at*
 by_cases aq:¬bj=21
 .have d:(bj==21)=false:=zu aq;have bg:=h_ (show ic l hI hF=false by rw[ay.out,aw.out,d];simp);clear ay aw J;generalize hL:l.length=n at*;clear bM ai d hn hL h hp;exact I4
 replace aq:=Classical.not_not.mp aq;have d:(bj==21)=true:=zu aq
 by_cases hl:q=14∨q=16∨q=11
 .have r:(q==14||q==16||q==11)=true:=by rcases hl with rfl|rfl|rfl<;>rfl
  have bl:=h_ (show ic l hI hF=nk l hF (l.drop 0) 0 (0:Nat) by rw[ay.out,aw.out,J.out,d,r];simp[show 1<=l.length by omega,show l.length<=2048 by omega,show 0<=hI by omega,show hI<=64 by omega]);clear ay aw J;generalize hL:l.length=n at*;have ay:=bl;clear bl;have hm:(n:Int)-1=p:=o_;clear hp r d;subst aq;have bo:((n:Int)<1)=False:=p_;have a2:(2048<(n:Int))=False:=p_;have y:(hI<0)=False:=p_;have o:(64<hI)=False:=p_
  rcases hl with rfl|rfl|rfl
  all_goals
   go_enter func92,ntmps92
   go_wp2_with (first
    |(go_at_call 146;refine(wP _).mono ?_;rintro e w2⟨g,rfl,C,hg⟩;replace I:=I.trans hg;replace h:=h.hG hg;replace hB:=hB.hG hg;have z0:=hB.f_ 0;have aM:=hB.f_ 1;have aV:=hB.f_ 2;clear hg))
   go_loopw [57,5] (λi B w'=>∃(k:Nat) (j:Nat),k<=n/\j<=k/\i=i_ k/\B=i_ j/\ic l hI hF=nk l hF (l.drop k) k j/\Gr [] w2 w') (λi _ _=>n-(intOf i).toNat)
   case atStart=>exact⟨0,0,O_ _,H_ _,rfl,rfl,ay.out,F_ _ _⟩
   case round=>
    obtain⟨k,j,hk,hj,rfl,rfl,G,F⟩:=hrel;have aI:=h_ G;clear G ay;clear z0 aM aV;have s:=hB.hG F;have z0:=s.f_ 0;have aM:=s.f_ 1;have aV:=s.f_ 2
    by_cases ag:k<n
    .have az:k<l.length:=o_;have bG:=h_ (wH l hF k j az);obtain⟨b',z,he,bi,bq,bK,bT,bF⟩:=(h.hG F).at_ az;injection he with he;injection he with aJ aG;subst aJ;subst aG;generalize l[k]=x at*;obtain⟨op,a,b,cc,m⟩:=x;simp only at*;have hg1:=F.alloc (.cells #[i_ op,i_ a,i_ b,i_ cc,i_ m] 189);clear z0 aM aV s;have E:=hB.hG hg1;have z0:=E.f_ 0;have aM:=E.f_ 1;have aV:=E.f_ 2;have t:=(λ{w2 w':World}(_:Gr [] w2 w')=>P_ w' 189 #[i_ op,i_ a,i_ b,i_ cc,i_ m]) F
     cases hf:kU l k with
     |false=>
      have bg:=h_ (show ic l hI hF=false by rw[aI.out,bG.out,hf];rfl);clear aI bG;exact H7
     |true=>
      by_cases q:op=21
      .have bj:(op==21)=true:=zu q
       by_cases p:m=j
       .have p0:(m==(j:Int))=true:=zu p;have bg:=h_ (show ic l hI hF=nk l hF (l.drop (k+1)) (k+1) ((j+1:Nat):Int) by rw[aI.out,bG.out,hf,T_ q,p0];rfl);clear aI bG p q
        go_wp2_with ((go_at_call 147;have af:=qJ _ c l hI hF k g _ (h.hG hg1) (C.hG hg1) az o_;rw[hL,hf]at af;refine af.mono ?_;rintro e Y⟨rfl,hg⟩;replace t:=t.hG hg;have U:=t.f_ 0;have ao:=t.f_ 4;replace hg1:=hg1.trans hg;replace E:=hB.hG hg1;clear z0 aM aV;have z0:=E.f_ 0;have aM:=E.f_ 1;have aV:=E.f_ 2;clear hg))
        go_roundw
        case rel=>exact⟨k+1,j+1,o_,o_,gn,gn,bg.out,hg1⟩
        case measure=>exact mz
       .have p0:(m==(j:Int))=false:=zu p;have bg:=h_ (show ic l hI hF=false by rw[aI.out,bG.out,hf,T_ q,p0];rfl);clear aI bG p q;exact H7
      .have bj:(op==21)=false:=zu q;have bg:=h_ (show ic l hI hF=nk l hF (l.drop (k+1)) (k+1) (j:Int) by rw[aI.out,bG.out,hf,Q_ q];rfl);clear aI bG q
       go_wp2_with ((go_at_call 147;have af:=qJ _ c l hI hF k g _ (h.hG hg1) (C.hG hg1) az o_;rw[hL,hf]at af;refine af.mono ?_;rintro e Y⟨rfl,hg⟩;replace t:=t.hG hg;have U:=t.f_ 0;have ao:=t.f_ 4;replace hg1:=hg1.trans hg;replace E:=hB.hG hg1;clear z0 aM aV;have z0:=E.f_ 0;have aM:=E.f_ 1;have aV:=E.f_ 2;clear hg))
       go_roundw
       case rel=>exact⟨k+1,j,o_,o_,gn,rfl,bg.out,hg1⟩
       case measure=>exact mz
    .go_wp2;go_ret;exact⟨iD (by rw[aI.out,yj _ _ _ _ o_]),I.trans F⟩
 .have r:(q==14||q==16||q==11)=false:=p_;have bg:=h_ (show ic l hI hF=false by rw[ay.out,aw.out,J.out,d,r];simp);have u:¬q=14:=o_;have v:¬q=16:=o_;have f:¬q=11:=o_;have H:(q !=14)=true:=zu u;have L:(q !=16)=true:=zu v;have D:(q !=11)=true:=zu f;clear u v f;clear ay aw J r hl;generalize hL:l.length=n at*;have hm:(n:Int)-1=p:=o_;clear hL hp h hn d;subst aq;exact I4
def jB(l:List In)(hI hF pc:Int):Bool:=ic l hI hF&&(iA l pc==20)
def mO(l:List In)(pc:Int):Bool:=
 (pc== -1)||(iA l pc==21)||(decide (0<=iA l pc)&&(iA l (pc-1)==21||iA l (pc-1)==20))
theorem lr(A:OA)(c:Nat)(l:List In)(hI hF pc:Int)(w:World)(h:Is w A l)(hn:l.length<=1000000000):
 Calls prog 83 #[.agg #[.slice A l.length c,i_ hI,i_ hF],i_ pc] w λe w'=>e=.returned (.bool (jB l hI hF pc))/\Gr [] w w':=by
 have hg1:=(F_ [] w).alloc (.cells #[.slice A l.length c,i_ hI,i_ hF] 26);have hB:=P_ w 26 #[.slice A l.length c,i_ hI,i_ hF];have z0:=hB.f_ 0;have aM:=hB.f_ 1;have aV:=hB.f_ 2
 cases hv:ic l hI hF with
 |false=>
  have bg:=h_ (show jB l hI hF pc=false by unfold jB;rw[hv];rfl)
  go_enter func83,ntmps83
  go_wp2_with (go_at_call 92;have af:=iS A c l hI hF _ (h.hG hg1) hn;rw[hv]at af;refine af.mono ?_;rintro e Y⟨rfl,hg⟩;replace hg1:=hg1.trans hg;clear hg)
  go_ret;exact⟨iD bg.out.symm,hg1⟩
 |true=>
  have bg:=h_ (show jB l hI hF pc=(iA l pc==20) by unfold jB;rw[hv];rfl)
  go_enter func83,ntmps83
  go_wp2_with (first
   |(go_at_call 92;have af:=iS A c l hI hF _ (h.hG hg1) hn;rw[hv]at af;refine af.mono ?_;rintro e Y⟨rfl,hg⟩;replace hg1:=hg1.trans hg;replace hB:=hB.hG hg;have z0:=hB.f_ 0;have aM:=hB.f_ 1;have aV:=hB.f_ 2;clear hg)
   |(go_at_call 133;refine(qb A c l hI hF pc _ (h.hG hg1) hn).mono ?_;rintro e Y⟨rfl,hg⟩;replace hg1:=hg1.trans hg;clear hg))
  go_ret;exact⟨iD bg.out.symm,hg1⟩
theorem lV(A:OA)(c:Nat)(l:List In)(hI hF pc:Int)(w:World)(h:Is w A l)(hn:l.length<=1000000000)(b6: -1000000000<=pc)(bE:pc<=1000000000):
 Calls prog 97 #[.agg #[.slice A l.length c,i_ hI,i_ hF],i_ pc] w λe w'=>e=.returned (.bool (mO l pc))/\Gr [] w w':=by
 have hg1:=(F_ [] w).alloc (.cells #[.slice A l.length c,i_ hI,i_ hF] 26);have hB:=P_ w 26 #[.slice A l.length c,i_ hI,i_ hF];have z0:=hB.f_ 0;have aM:=hB.f_ 1;have aV:=hB.f_ 2
 by_cases m:pc= -1
 .have bg:=h_ (show mO l pc=true by unfold mO;simp[m])
  go_enter func97,ntmps97
  go_wp2;exact Kf
 by_cases a:iA l pc=21
 .skip;have bg:=h_ (show mO l pc=true by unfold mO;simp[a]);exact If
 by_cases b:0<=iA l pc
 .by_cases d:iA l (pc-1)=21
  .skip;have bg:=h_ (show mO l pc=true by unfold mO;simp[b,d]);exact If
  by_cases e:iA l (pc-1)=20
  .skip;have bg:=h_ (show mO l pc=true by unfold mO;simp[b,e]);exact If
  .skip;have bg:=h_ (show mO l pc=false by unfold mO;simp[m,a,b,d,e]);exact If
 .skip;have bg:=h_ (show mO l pc=false by unfold mO;simp[m,a,b]);exact If
def bad(l:List Int)(hF:Int)(k:Nat):Bool:=
 decide (l.getD k 0<0)||decide (hF<l.getD k 0)||(decide (0<k)&&decide (l.getD k 0<=l.getD (k-1) 0))
def qK(c:List In)(hI hF:Int)(d:List Int):Bool:= !(iY (bad d hF) (List.range d.length))&&ic c hI hF
theorem vd(A B:Option Addr)(c cb:Nat)(l:List In)(hI hF:Int)(d:List Int)(w:World)(N:Is w A l)(hn:l.length<=1000000000)(h:Ns w 3 B d)(hd:d.length<=1000000000):
 Calls prog 77 #[.agg #[.slice A l.length c,i_ hI,i_ hF],.agg #[.slice B d.length cb]] w λe w'=>e=.returned (.bool (qK l hI hF d))/\Gr [] w w':=by
 have I:=((F_ [] w).alloc (.cells #[.slice A l.length c,i_ hI,i_ hF] 26)).alloc (.cells #[.slice B d.length cb] 32);have D:=(P_ w 26 #[.slice A l.length c,i_ hI,i_ hF]).alloc (.cells #[.slice B d.length cb] 32);have hB:Bk _ (w.heap.size+1) 32 #[.slice B d.length cb]:=(by simpa using P_ (w.alloc (.cells #[.slice A l.length c,i_ hI,i_ hF] 26)) 32 #[.slice B d.length cb]:Bk ((w.alloc (.cells #[.slice A l.length c,i_ hI,i_ hF] 26)).alloc (.cells #[.slice B d.length cb] 32)) (w.heap.size+1) 32 #[.slice B d.length cb]);replace h:=h.hG I;replace N:=N.hG I;have z0:=D.f_ 0;have aM:=D.f_ 1;have aV:=D.f_ 2;have aQ:=hB.f_ 0;generalize hD:d.length=n at*
 go_enter func77,ntmps77
 go_wp2;generalize (w.alloc (.cells #[.slice A l.length c,i_ hI,i_ hF] 26)).alloc (.cells #[.slice B n cb] 32)=w1 at*
 go_loopw [10] (λi w'=>∃k:Nat,k<=n/\i=i_ k/\iY (bad d hF) (List.range d.length)=iY (bad d hF) ((List.range d.length).drop k)/\Gr [] w1 w') (λi _=>n-(intOf i).toNat)
 case atStart=>exact⟨0,O_ _,rfl,rfl,F_ _ _⟩
 case round=>
  obtain⟨k,hk,rfl,G,F⟩:=hrel;have aI:=h_ G;clear G;have C:=D.hG F;have E:=hB.hG F;have z0:=C.f_ 0;have aM:=C.f_ 1;have aV:=C.f_ 2;have aQ:=E.f_ 0
  by_cases ag:k<n
  .have az:k<d.length:=o_;have a:k<(List.range d.length).length:=zu az;have HD:=h_ (show d.getD k 0=d[k] by simp[List.getD,M_ az]);obtain⟨b,off,rfl,bi⟩:=(h.hG F).at_ az;generalize d[k]=x at*
   by_cases t0:x<0
   .have aR:=h_ (show bad d hF k=true by unfold bad;rw[HD.out];simp[t0]);exact Ja
   by_cases t1:hF<x
   .have aR:=h_ (show bad d hF k=true by unfold bad;rw[HD.out];simp[t0,t1]);exact Ja
   cases k with
   |zero=>
    rw[FV]at bi;have aR:=h_ (show bad d hF 0=false by unfold bad;rw[HD.out];simp[t0,t1]);have bl:=h_ (show iY (bad d hF) (List.range d.length)=iY (bad d hF) ((List.range d.length).drop (0+1)) by rw[aI.out];exact oy (p:=bad d hF) a (by rw[Gb];exact aR.out));clear aI aR;go_wp2;go_roundw
    case rel=>exact⟨0+1,o_,rfl,bl.out,F⟩
    case measure=>exact mz
   |succ j=>
    obtain⟨b',z,he,ai⟩:=(h.hG F).at_ (k:=j) o_;injection he with he;injection he with aJ aG;subst aJ;subst aG;have aX:=h_ (show d.getD j 0=d[j] by simp[List.getD,M_ (show j<d.length by omega)]);generalize d[j]=y at*;have hm:((j:Int)+1-1)=j:=o_
    by_cases af:x<=y
    .have aR:=h_ (show bad d hF (j+1)=true by unfold bad;rw[HD.out,Nat.add_sub_cancel,aX.out];simp[af]);exact Ja
    .have aR:=h_ (show bad d hF (j+1)=false by unfold bad;rw[HD.out,Nat.add_sub_cancel,aX.out];simp[t0,t1,af]);have bl:=h_ (show iY (bad d hF) (List.range d.length)=iY (bad d hF) ((List.range d.length).drop (j+1+1)) by rw[aI.out];exact oy (p:=bad d hF) a (by rw[Gb];exact aR.out));clear aI aR;go_wp2;go_roundw
     case rel=>exact⟨j+1+1,o_,gn,bl.out,F⟩
     case measure=>exact mz
  .have bl:=h_ (show qK l hI hF d=ic l hI hF by unfold qK;rw[aI.out,qN (p:=bad d hF) p_];rfl);clear aI
   go_wp2_with (go_at_call 92;refine(iS A c l hI hF _ (N.hG F) hn).mono ?_;rintro e Y⟨rfl,hg⟩;replace F:=F.trans hg;clear hg)
   go_ret;exact⟨iD bl.out.symm,I.trans F⟩
theorem vG(A:OA)(n c:Nat)(zs:List Int)(w:World)(bS:TypeId)(h:Sl w bS 1 A n (zs.map (.int .u8)))(hz:∀j,0<=zs.getD j 0/\zs.getD j 0<256)(aN:n<=c)(hn:n<=9223372036854775807):
 Calls prog 12 #[.slice A n c] w λe w'=>∃g,e=.returned (q_ g)/\w.heap.size<=g/\iQ w' w'.heap.size g/\Gr [] w w':=by
 go_enter func12,ntmps12
 go_wp2_with (go_at_call 54;refine(BA A n c zs _ bS h hz aN hn).mono ?_;rintro e w'⟨g,rfl,hg,hd,F⟩)
 go_ret;exact⟨g,rfl,hg,hd,F⟩
end Go.Proofs.YtenbhdilndfaeaaGreat
