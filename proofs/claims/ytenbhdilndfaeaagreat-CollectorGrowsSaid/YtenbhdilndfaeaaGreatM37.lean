import Derived.Test.YtenbhdilndfaeaaGreatM32
import Derived.Test.YtenbhdilndfaeaaGreatM36
set_option maxRecDepth 100000
set_option maxHeartbeats 0
set_option linter.all false
namespace Go.Proofs.YtenbhdilndfaeaaGreat
open Go.RowKit Go.Proofs.Tryz
variable{G:Prop}{h:List Ob}{g:Nat}{x:Int}{A:OA}
theorem K0(h:G:=by
 go_wp2;exact Lj):G:=h
theorem Lj(h:G:=by
 go_roundw
 case rel=>exact⟨j+1,o_,gn,Z,bU⟩
 case measure=>exact mz):G:=h
def rV(h:List Ob):Prop:=(iG h).Pairwise (· < ·)
theorem vI:∀(h:List Ob) (n:Int),∀x∈iG (h.take (mV h n)),x<n
 |[],_,x,hx=>by simp[iG]at hx
 |o::h,n,x,hx=>by
  unfold mV at hx;split at hx
  .rw[Gz]at hx
   rcases L_.1 hx with rfl|hx
   .assumption
   .exact vI h n x hx
  .simp[iG]at hx
theorem vJ:∀{h:List Ob} {n:Int},rV h->n∉iG h->∀x∈iG (h.drop (mV h n)),n<x
 |[],_,_,_,x,hx=>by simp[iG]at hx
 |o::h,n,hs,hn,x,hx=>by
  have b:=Hc.1 (show(o.id::iG h).Pairwise (· < ·) from hs)
  have hn1:n≠o.id:=λe=>hn (by rw[e];exact E6)
  have bC:n∉iG h:=λe=>hn (EQ _ e)
  unfold mV at hx;split at hx
  .rw[List.drop_succ_cons]at hx;exact vJ (h:=h) b.2 bC x hx
  .rw[List.drop_zero]at hx
   rcases L_.1 hx with rfl|hx
   .show n<o.id
    omega
   .have:=b.1 x hx
    omega
theorem Ax{n:Int}(hi:jz h n<0):n∉iG h:=λq=>by
 obtain⟨o,e⟩:=si.1 q
 rcases nE h n with⟨_,aG⟩|⟨k,_,aJ,_⟩
 .rw[e]at aG
  cases aG
 .omega
theorem rV.put(hs:rV h)(o:Ob):rV (lp h o):=by
 unfold lp;split
 .rename_i hi;have h1:=vI h o.id;have h2:=vJ hs (Ax hi)
  have bS:(iG (h.take (mV h o.id))).Pairwise (· < ·):=by unfold iG;rw[Hf];exact List.Pairwise.sublist (List.take_sublist _ _) hs
  have cj:(iG (h.drop (mV h o.id))).Pairwise (· < ·):=by unfold iG;rw[List.map_drop];exact List.Pairwise.sublist (List.drop_sublist _ _) hs
  unfold rV iG at*;rw[EL,EL,Fc,Gy];refine⟨bS,Hc.2 ⟨h2,cj⟩,λa ha b hb=>?_⟩
  have:=h1 a ha
  rcases L_.1 hb with rfl|hb
  .exact this
  .exact Int.lt_trans this (h2 b hb)
 .rename_i hi;obtain⟨hk,he⟩:=xY hi;generalize (jz h o.id).toNat=k at*
  have e:iG (h.take k++[o]++h.drop (k+1))=iG h:=by
   unfold iG
   have q:h=h.take k++h[k]::h.drop (k+1):=by rw[<-R_ hk,FW]
   have bI:=ED (List.map (·.id)) q;rw[EL,Fg,he]at bI;rw[bI];simp
  unfold rV;rw[e];exact hs
theorem rV.puts:∀(l:List Ob) {h:List Ob},rV h->rV (l.foldl lp h)
 |[],_,hs=>hs
 |o::l,_,hs=>rV.puts l (hs.put o)
theorem rV.lG(hs:rV h)(t:i3):rV (lG h t):=by
 unfold rV Go.Proofs.YtenbhdilndfaeaaGreat.lG;rw[ph,mI];exact hs.puts _
theorem ux.Eo{l:List In}{hI hF:Int}{d k2:List Int}{k:Nat}{run:Int}{s:pY}(h:ux l hI hF d k2 k run s):rV s.h:=by
 have a:rV []:=List.Pairwise.nil
 induction h with
 |hS=>show rV (startHeap hI);unfold rV startHeap iG;simp
 |ask h he h0 Z=>
  rename_i k run s
  rcases wh l hI hF k2 s with e|e
  .rw[e];exact a
  .unfold rV;rw[e];exact Z
 |commit h he h0 Z=>
  rename_i k run s;unfold kI;rw[Q_ d_];split
  .exact a
  split
  .exact a
  show rV (lQ s _).h
  unfold lQ;split<;>exact Z.lG _
theorem rV.get(hs:rV h):∀{o:Ob},o∈h->kn h o.id=some o:=by
 induction h with
 |nil=>intro o ho;cases ho
 |cons a h Z=>
  intro o ho;have b:=Hc.1 (show(a.id::iG h).Pairwise (· < ·) from hs);unfold kn;rw[List.find?_cons]
  rcases L_.1 ho with rfl|ho
  .simp
  .have:=b.1 o.id (EM.2 ⟨o,ho,rfl⟩)
   have ao:(a.id==o.id)=false:=p_;rw[ao];exact Z b.2 ho
theorem pp(h:List Ob)(ts:List i3)(x:Int):x∈la h ts↔u2 h (· ∈k8 ts) x:=by
 unfold la;rw[(ki _ _).mem];exact⟨λr=>r.mono λy hy=>((mK _).mem y).1 hy,λr=>r.mono λy hy=>((mK _).mem y).2 hy⟩
theorem pz{ts:List i3}{o:Ob}:o∈mi h ts↔o∈h/\o.id∈la h ts:=by
 unfold mi;rw[Gm,Fr]
theorem vU(hs:rV h)(ts:List i3):iG (mi h ts)=la h ts:=by
 refine Asc.eq (P:=λx=>x∈la h ts) ⟨?_,λx=>?_⟩ ⟨(ki _ _).lt,λx=>Iff.rfl⟩
 .unfold mi iG;exact List.Pairwise.sublist (List.Sublist.map _ List.filter_sublist) hs
 .constructor
  .intro q;obtain⟨o,ho,rfl⟩:=EM.1 q;exact(pz.1 ho).2
  .intro q;obtain⟨o,ho,rfl⟩:=EM.1 ((pp _ _ _).1 q).ids;exact EM.2 ⟨o,pz.2 ⟨ho,q⟩,rfl⟩
theorem xq{ts:List i3}(n:Nat){o:Ob}(ho:o∈mi h (ts.take n)):∃u,kn (mi h ts) o.id=some u:=by
 obtain⟨h1,h2⟩:=pz.1 ho;refine si.1 (EM.2 ⟨o,pz.2 ⟨h1,(pp _ _ _).2 ((((pp _ _ _).1 h2)).mono λx hx=>?_)⟩,rfl⟩)
 rcases L_.1 hx with e|hx
 .rw[e];exact E6
 .refine EQ _ ?_;obtain⟨t,ht,hx⟩:=F5.1 hx;exact F5.2 ⟨t,Ff ht,hx⟩
theorem vV{ts:List i3}(hs:rV h)(hc:HG (C0 h) h){o:Ob}(ho:o∈mi h ts){v:Vl}(hv:v∈o.fs)(hr:isRef v=true):v.n∈la h ts:=by
 obtain⟨h1,h2⟩:=pz.1 ho
 have f:v.r=true/\v.n≠0:=by unfold isRef at hr;simpa using hr
 exact(pp _ _ _).2 (.step ((pp _ _ _).1 h2) (hs.get h1) hv hr (((hc o h1).2 v hv f.1).resolve_left f.2))
theorem yF(h:List Ob):n8 h []=[]:=by
 have q:=ki h []
 cases e:n8 h []with
 |nil=>rfl
 |cons x l=>
  have r:=(q.mem x).1 (by rw[e];exact E6)
  exfalso
  clear e q
  induction r with
  |root a b=>cases a
  |step _ _ _ _ _ Z=>exact Z
def wo(h:List Ob)(n:Nat)(w:World)(e:Ending)(w':World):Prop:=∃(A':OA) (c':Nat) (l':List Rw),e=.returned (.agg #[.slice A' l'.length c'])/\hY l'=h/\Os w' A' l'/\oa w' l'/\l'.length<=n/\Gr [] w w'
section
variable{hA TA:OA}{hc tc:Nat}{l:List Rw}{ts:List Tk}{w:World}
theorem rc(z:HM w hA l)(O:TM w TA ts):
 Calls prog 31 #[.agg #[.slice hA l.length hc],.slice TA ts.length tc] w (wo (mi (hY l) (ts.map Tk.p)) l.length w):=by
 refine ia λQ ak=>?_
 obtain⟨W,g,a2,aT,hg,J,I,hB,bz⟩:=v7 w 35 #[.slice hA l.length hc] 35 #[n_];have U:=hB.f_ 0;have aK:=h_ (vz (hc:=hc) (tc:=tc) (rb:=true) (z.hG I) (O.hG I))
 go_enter func31,ntmps31
 go_wp2_with fail
 go_at_call 73
 refine aK.out.mono ?_;rintro e w1⟨A1,c1,l1,rfl,ho,aB,aq,aD,hg1⟩;have bu:=bz.hG hg1;have bj:=bu.f_ 0;have br:=bu.hH 0;go_wp2;have bK:=bu.hW 0 (.slice A1 l1.length c1);have M:Gr [a2] w1 (w1.setCell (c_ a2 0) (.slice A1 l1.length c1)):=(F_ [a2] w1).setCell (p:=c_ a2 0) (.inl s_) _;refine rr_ #[.slice A1 l1.length c1] bK underlying35 ?_;rw[ak.out];refine⟨A1,c1,l1,rfl,?_,Sl.iu aB bu d_ M,λr hr=>⟨Sl.iu (aq r hr).1 bu d_ M,(aq r hr).2⟩,aD,(I.trans hg1).hK M (λy hy=>.inr (by rw[I_]at hy;omega))⟩;rw[ho];unfold mi
 refine List.filter_congr λo _=>?_
 unfold sS
 cases decide (o.id∈la (hY l) (ts.map Tk.p))<;>rfl
theorem yX(z:HM w hA l)(O:TM w TA ts):
 Calls prog 33 #[.agg #[.slice hA l.length hc],.slice TA ts.length tc] w (nX (th (hY l) (ts.map Tk.p)) w):=by
 refine ia λQ ak=>?_
 obtain⟨W,g,aT,hg,I,hB⟩:=box1 w 35 #[.slice hA l.length hc];have U:=hB.f_ 0;have d:=z.len;have aK:=h_ (vz (hc:=hc) (tc:=tc) (rb:=false) (z.hG I) (O.hG I))
 have m:=h_ (show ∀l1:List Rw,hY l1=(hY l).filter (sS (hY l) (ts.map Tk.p) false)->(hY l1).map (·.id)=th (hY l) (ts.map Tk.p) from λl1 h=>by
  rw[h];unfold th;congr 1
  refine List.filter_congr λo _=>?_
  unfold sS
  cases decide (o.id∈la (hY l) (ts.map Tk.p))<;>rfl)
 go_enter func33,ntmps33
 go_wp2_with fail
 go_at_call 73
 refine aK.out.mono ?_;rintro e w1⟨A1,c1,l1,rfl,ho,aB,aq,aD,hg1⟩;have aX:=h_ (m.out l1 ho);have j:=I.trans hg1;have bt:Zr w1.heap.size w1 none 0 []:=Zr.nil;clear ho aq m aK;generalize th (hY l) (ts.map Tk.p)=gs at*
 go_wp2_with fail
 go_loopw [5,12] (λov ap wr=>∃(i:Nat) (ys:List Int) (aY:OA) (c5:Nat),i<=l1.length/\ap=i_ i/\ov=.slice aY ys.length c5/\Hid (ys=((hY l1).take i).map (·.id))/\ys.length<=i/\Zr w1.heap.size wr aY c5 ys/\Gr [] w1 wr) (λ_ ap _=>l1.length-(intOf ap).toNat)
 case atStart=>exact⟨0,[],none,0,O_ _,gn,rfl,h_ rfl,H_ _,bt,F_ _ _⟩
 case round=>
  clear bt;obtain⟨i,ys,aY,c5,hi,rfl,rfl,ah,f,hz,F⟩:=hrel
  by_cases ag:i<l1.length
  .obtain⟨b,off,P,bi,bq⟩:=(aB.hG F).at_ ag;subst P
   have c:=h_ (show ys++[l1[i].o.id]=((hY l1).take (i+1)).map (·.id) by
    rw[W_ (by rw[h9];exact ag),EL,ah.out]
    simp[hY])
   generalize l1[i]=r at*;obtain⟨aH,gb,bC,aU,a,bz⟩:=box1 wr 56 #[i_ r.o.id,.slice r.A r.o.fs.length r.c];have z0:=bz.f_ 0;have aP:=(F_ [] aH).alloc (.cells #[i_ r.o.id] 2);have e9:=(hz.hG a).hG aP;have bl:=(F.trans a).trans aP;have cU:=bl.size;clear bz hz F a
   go_wp2_with (at_builtin;refine Du e9 (Ls.one aH r.o.id) cU p_ ?_;intro av ai Y bH y)
   have N:=y.gr [] w1 (H_ _) bl;go_roundw
   case rel=>exact⟨i+1,ys++[r.o.id],av,ai,o_,gn,s_,c,p_,bH,N⟩
   case measure=>exact mz
  .go_wp2;rw[ak.out];have e:=ah.out;rw[EI (by rw[h9];omega),aX.out]at e;subst e;exact⟨aY,c5,rfl,hz.ls,jf hz,j.trans F⟩
end
def qc(g:Nat):List Rw:=[⟨⟨1,[⟨false,0⟩]⟩,j_ g,1⟩,⟨⟨2,[]⟩,none,0⟩,⟨⟨3,[]⟩,none,0⟩]
def t26(g:Nat):Tk:={Tk.zero with rs:=⟨j_ g,1,[⟨1,0,⟨true,3⟩⟩]⟩}
theorem Da{P:Int->Prop}(r:u2 (hY (qc g)) P x):P x:=by
 induction r with
 |root a _=>exact a
 |step _ ho hv hr _ _=>
  exfalso
  have hm:=qG ho;simp[hY,qc]at hm
  rcases hm with rfl|rfl|rfl<;>simp at hv
  subst hv;simp[isRef]at hr
theorem q9{ts:List i3}(hx:x∈iG (hY (qc g))):x∈la (hY (qc g)) ts↔x∈oX (k8 ts):=by
 unfold la;rw[(ki _ _).mem];exact⟨Da,λh=>.root h hx⟩
theorem CE(g:Nat):(th (hY (qc g)) []).length=2:=by
 have h1:(1:Int)∈la (hY (qc g)) []:=(q9 (by simp[iG,hY,qc])).2 d_
 have h2:(2:Int)∉la (hY (qc g)) []:=λq=>EK ((q9 (by simp[iG,hY,qc])).1 q) d_
 have h3:(3:Int)∉la (hY (qc g)) []:=λq=>EK ((q9 (by simp[iG,hY,qc])).1 q) d_
 unfold th;generalize la (hY (qc g)) []=b at*;simp[hY,qc,h1,h2,h3]
theorem CM(g a2:Nat):(mi (hY (qc g)) [(t26 a2).p]).length=2:=by
 have e:oX (k8 [(t26 a2).p])=[1,3]:=by show oX [1,1,3]=[1,3];decide
 have h1:(1:Int)∈la (hY (qc g)) [(t26 a2).p]:=(q9 (by simp[iG,hY,qc])).2 (by rw[e];decide)
 have h2:(2:Int)∉la (hY (qc g)) [(t26 a2).p]:=λq=>EK ((q9 (by simp[iG,hY,qc])).1 q) (by rw[e];decide)
 have h3:(3:Int)∈la (hY (qc g)) [(t26 a2).p]:=(q9 (by simp[iG,hY,qc])).2 (by rw[e];decide);unfold mi;generalize la (hY (qc g)) [(t26 a2).p]=b at*;simp[hY,qc,h1,h2,h3]
theorem TM.nil(w:World)(A:OA):TM w A []:=⟨⟨0,rfl,λh=>EK h (Nat.lt_irrefl 0)⟩,λt ht=>(by cases ht),by decide,by decide,λt ht=>(by cases ht)⟩
theorem wS(w:World):Calls prog 27 #[] w λe w'=>e=.returned (.bool true)/\Gr [] w w':=by
 refine ia λQ ak=>?_
 obtain⟨bp,g,bo,b5,hg,hg1,bl,hB,E⟩:=v7 w 38 #[.bool false,i_ 0] 56 #[i_ 1,.slice (j_ w.heap.size) 1 1,i_ 2,n_,i_ 3,n_];obtain⟨W,a2,aT,J,F,bz⟩:=box1 bp 35 #[.slice (j_ (w.heap.size+1)) 3 3];have I:=bl.trans F;replace hB:=hB.hG F;replace E:=E.hG F;obtain⟨y,S⟩:=mn_ W.heap.size;obtain⟨bu,bK,a⟩:=qh W 116 #[i_ 1,i_ 0,.bool true,i_ 3] 53 (t26 y).g_;obtain⟨o,Z⟩:=mn_ (y+1);rw[S]at bu;rw[S,Z]at bK;rw[hg,hg1]at bz aT;rw[hg]at E b5;have n:=I.trans a
 have z:HM ((W.alloc (.cells #[i_ 1,i_ 0,.bool true,i_ 3] 116)).alloc (.cells (t26 y).g_ 53)) (j_ bo) (qc g):=by
  refine⟨⟨56,Sl.hG (⟨rfl,λ_=>⟨bo,0,_,(0,0),rfl,E,λj u hu=>by simpa[jl,Rw.E,qc]using hu⟩⟩:Sl W 56 2 (j_ bo) (qc g).length (jl (qc g))) a⟩,⟨λ_=>38,λr hr=>?_⟩,(by show 3<=50000000;decide),by simp[iG,hY,qc],λx hx=>?_⟩
  .simp[qc]at hr
   rcases hr with rfl|rfl|rfl
   .exact⟨(Dt (v:=⟨false,0⟩) hB).hG a,by show 1<=1000000000;decide⟩
   .exact⟨Fm _ _ _ _,d_⟩
   .exact⟨Fm _ _ _ _,d_⟩
  .simp[iG,hY,qc]at hx
   rcases hx with rfl|rfl|rfl<;>rfl
 have O:TM ((W.alloc (.cells #[i_ 1,i_ 0,.bool true,i_ 3] 116)).alloc (.cells (t26 y).g_ 53)) (j_ o) [t26 y]:=by
  refine⟨⟨53,⟨rfl,λ_=>⟨o,0,_,(0,0),rfl,bK,λj u hu=>by simpa using hu⟩⟩⟩,λt ht=>?_,(by show([1,1,3]:List Int).length<=1000000000;decide),(by show 1<=1000000000;decide),λt ht=>?_⟩
  .rw[I_.1 ht];refine⟨⟨0,Fm _ _ _ _⟩,⟨116,⟨rfl,λ_=>⟨y,0,_,(0,0),rfl,bu,λj u hu=>by simpa[t26,Cl.E]using hu⟩⟩⟩,⟨0,Fm _ _ _ _⟩,⟨0,Fm _ _ _ _⟩,⟨0,Fm _ _ _ _⟩,⟨λ_=>0,λr hr=>by cases hr⟩⟩
  .rw[I_.1 ht];exact(by decide:0<=1000000000/\1<=1000000000/\0<=1000000000/\0<=1000000000/\0<=1000000000)
 have a8:=h_ ((yX (hc:=3) (tc:=0) z (TM.nil ((W.alloc (.cells #[i_ 1,i_ 0,.bool true,i_ 3] 116)).alloc (.cells (t26 y).g_ 53)) none)).mono (R':=λe w'=>∃A c,e=.returned (.slice A 2 c)/\Gr [] ((W.alloc (.cells #[i_ 1,i_ 0,.bool true,i_ 3] 116)).alloc (.cells (t26 y).g_ 53)) w') λe w'⟨A,c,h1,_,_,h2⟩=>⟨A,c,by rw[h1];show Ending.returned (.slice A (th (hY (qc g)) []).length c)=_;rw[CE],h2⟩)
 have C:=h_ (λ(w':World)(h:Gr [] ((W.alloc (.cells #[i_ 1,i_ 0,.bool true,i_ 3] 116)).alloc (.cells (t26 y).g_ 53)) w')=>(rc (hc:=3) (tc:=1) (z.hG h) (O.hG h)).mono (R':=λe w2=>∃A c,e=.returned (.agg #[.slice A 2 c])/\Gr [] w' w2) λe w2⟨A,c,l',h1,h3,_,_,_,h2⟩=>⟨A,c,by
  have au:=ED List.length h3;rw[h9]at au;rw[h1,au]
  show Ending.returned (.agg #[.slice A (mi (hY (qc g)) [(t26 y).p]).length c])=_
  rw[CM],h2⟩)
 have dB:=h_ (λ(w':World)(h:Gr [] ((W.alloc (.cells #[i_ 1,i_ 0,.bool true,i_ 3] 116)).alloc (.cells (t26 y).g_ 53)) w')=>((O.hG h).roots 1).mono (R':=λe w2=>∃A c,e=.returned (.slice A 2 c)/\Gr [] w' w2) λe w2⟨A,c,h1,_,_,h2⟩=>⟨A,c,h1,h2⟩);have U:=(bz.hG a).f_ 0;have bU:=bz.hG a;clear O z hB E bz bu bK
 go_enter func27,ntmps27
 go_upto_region 3 with fail
 have i:=CJ
 conv=>arg 5;change((W.alloc (.cells #[i_ 1,i_ 0,.bool true,i_ 3] 116)).alloc (.cells (t26 y).g_ 53))
 generalize ((W.alloc (.cells #[i_ 1,i_ 0,.bool true,i_ 3] 116)).alloc (.cells (t26 y).g_ 53))=aH at*
 go_wp2_with (first
  |(go_at_call 33;refine a8.out.mono ?_;rintro e ae⟨aG,aC,rfl,b⟩;have aL:=(bU.hG b).f_ 0)
  |(go_at_call 31;refine(C.out _ b).mono ?_;rintro e T⟨aO,c4,rfl,d⟩)
  |(go_at_call 28;refine(dB.out _ (b.trans d)).mono ?_;rintro e Y⟨aY,c5,rfl,ah⟩))
 rw[ak.out];exact⟨rfl,n.trans ((b.trans d).trans ah)⟩
theorem BQ(v n:Int)(hn:1<=n):v % n=if v.tmod n<0 then v.tmod n+n else v.tmod n:=by
 have h:=Int.tmod_add_tdiv_mul v n;have e:=Int.emod_emod_of_dvd
 rcases GN v 0 with hv|hv
 .have h1:v.tmod n= -((-v) % n):=by rw[<-Int.neg_neg v,Int.neg_tmod,Int.tmod_eq_emod_of_nonneg o_];simp
  have h2:0<=(-v) % n:=Int.emod_nonneg _ o_;have h3:(-v) % n<n:=Int.emod_lt_of_pos _ o_
  have au:v % n=(-((-v) % n)) % n:=by
   have:=Int.emod_add_mul_ediv (-v) n
   have aq:v= -((-v) % n)+n*(-((-v) / n)):=by rw[Int.mul_neg];omega
   conv=>lhs;rw[aq]
   rw[Int.add_mul_emod_self_left]
  rw[h1,au]
  by_cases hz:(-v) % n=0
  .rw[hz];simp
  .rw[T_ o_];rw[<-Int.add_emod_right,Int.emod_eq_of_lt o_ o_]
 .rw[Int.tmod_eq_emod_of_nonneg hv,Q_ (ov (Int.emod_nonneg v (show n≠0 by omega)))]
theorem BB(v n:Int)(w:World)(hn:1<=n)(bC:n<=1000000)(a: -9223372036854775808<=v)(b:v<=9223372036854775807):
 Calls prog 42 #[i_ v,i_ n] w λe w'=>e=.returned (i_ (v % n))/\w=w':=by
 have h1:=Hg v (show 0<n by omega);have h2: -n<v.tmod n:=ov (Int.lt_tmod_of_pos v (show 0<n by omega));have aX:=h_ (BQ v n hn)
 go_enter func42,ntmps42
 go_wp2
 .go_ret;exact⟨j9 (by rw[aX.out,T_ (by assumption)]),rfl⟩
 .go_ret;exact⟨j9 (by rw[aX.out,Q_ o_]),rfl⟩
theorem zC{P:Program}{Q:Exit->Act->World->Prop}{md:Region.Mode}{S:World->Prop}{N:Nat}{l:List Oper}(i j k:Nat){J d cU:Oper}{r1 r2 r3:List Oper}{fuel:Nat}{listed:Array Bool}{a:Act}{w:World}
 (hi:∀e:Act->World->Prop,Shut (∀a w,(i<N->S w)->jv P md l.toArray Q S N fuel (listed.setIfInBounds i true) a w->e a w)->if Region.wanted J (yielded l.toArray a.tmps)=true then Oper.wp P J a w e Q else e (a.put J.dst undef) w)
 (hj:∀e:Act->World->Prop,Shut (∀a w,(j<N->S w)->jv P md l.toArray Q S N fuel (listed.setIfInBounds j true) a w->e a w)->if Region.wanted d (yielded l.toArray a.tmps)=true then Oper.wp P d a w e Q else e (a.put d.dst undef) w)
 (hk:∀e:Act->World->Prop,Shut (∀a w,(k<N->S w)->jv P md l.toArray Q S N fuel (listed.setIfInBounds k true) a w->e a w)->if Region.wanted cU (yielded l.toArray a.tmps)=true then Oper.wp P cU a w e Q else e (a.put cU.dst undef) w)
 (h1:l.drop i=J::r1:=by rfl) (h2:l.drop j=d::r2:=by rfl) (h3:l.drop k=cU::r3:=by rfl) (hr:Region.ready md l.toArray listed=[i,j,k]:=by kernel_rfl):jv P md l.toArray Q S N (fuel+1) listed a w:=by
 refine⟨λh0=>(by rw[h0]at hr;cases hr),λq am=>?_⟩;rw[hr]at am
 rcases L_.1 am with rfl|am
 .exact Lc
 rcases L_.1 am with rfl|am
 .exact Lb
 .have:q=k:=zu am
  subst this;exact wpOp_step (jn h3) (λe H=>hk e (λa w C aT=>H a w ⟨C,aT⟩))
theorem TM.take{w:World}{ts:List Tk}(h:TM w A ts)(n:Nat):TM w A (ts.take n):=by
 have hs:∀t∈ts.take n,t∈ts:=λt ht=>Ff ht
 obtain⟨e,hr⟩:=h.row;refine⟨⟨e,?_⟩,λt ht=>h.xH t (hs t ht),?_,by have:=h.len;rw[E1];omega,λt ht=>h.lens t (hs t ht)⟩
 .rcases EJ n ts.length with hn|hn
  .rw[E1,Gl o_];exact Sl.vh (E:=λt:Tk=>t.g_.toList) (λ_=>rfl) hr o_
  .rw[EI hn];exact hr
 .refine G_ ?_ h.few
  have q:ts.map Tk.p=(ts.take n).map Tk.p++(ts.drop n).map Tk.p:=by rw[<-EL,FW]
  rw[q];unfold k8;rw[EZ];simp only[Z_,J_];omega
structure CR(h:List Ob)(n:Nat)(w:World)(A:OA)(l:List Rw):Prop where
 o:hY l=h
 os:Os w A l
 rk:oa w l
 n:l.length<=n
theorem CR.fx{n base:Nat}{w w':World}{l:List Rw}{T:List TypeId}(k:CR h n w A l)(aj:Fx base T w w')(h1:56∉T:=by decide)(h2:38∉T:=by decide):CR h n w' A l:=
 ⟨k.o,aj.sl k.os h1,λr hr=>⟨aj.sl (k.rk r hr).1 h2,(k.rk r hr).2⟩,k.n⟩
theorem Dr{W w:World}(h:Gr [] W w)(t:TypeId)(cs:Array Value):∃(A:World) (g:Nat),w.alloc (.cells cs t)=A/\w.heap.size=g/\Gr [] w A/\Bk A g t cs/\W.heap.size<=g:=
 ⟨_,_,rfl,rfl,(F_ [] w).alloc _,P_ w t cs,h.size⟩
theorem C5{W w:World}{x:Nat}{t:TypeId}{u:Value}(hb:Bk w x t #[u])(hx:W.heap.size<=x)(v:Value):∃A:World,w.setCell (c_ x 0) v=A/\Gr [x] w A/\Bk A x t #[v]/\Fx W.heap.size [t] w A:=
 have hg:Gr [x] w (w.setCell (c_ x 0) v):=(F_ [x] w).setCell (p:=c_ x 0) (.inl s_) _
 ⟨_,rfl,hg,by simpa using hb.hW 0 v,Fx.one hg hb hx s_⟩
theorem uj(cD:∀(B g:Nat) (w:World),iQ w B g->B<=w.heap.size->Calls prog 11 #[q_ g] w (A2 B g w))(a0:OA)(U aI:Nat)(z0:List Int)(bS:TypeId)(q:Int)(w:World)(hs:Sl w bS 1 a0 U (z0.map (.int .u8)))(hz:∀j,0<=z0.getD j 0/\z0.getD j 0<256)(cS:U<=aI)(hl0:U<=9223372036854775807)(hq0: -9223372036854775808<=q)(hq1:q<=9223372036854775807):
 Calls prog 9 #[.slice a0 U aI,i_ q] w λe w'=>e=.returned (.bool true)/\Gr [] w w':=by
 refine ia λQ ak=>?_
 go_enter func9,ntmps9
 go_upto_region 3 with(go_at_call 27;refine(wS _).mono ?_;rintro e w1⟨rfl,hg1⟩)
 go_upto_region 4 with(first
  |(go_at_call 12;refine(vG a0 U aI z0 _ bS (Sl.hG hs hg1) hz cS hl0).mono ?_;rintro e ae⟨d,rfl,ai,hd,S⟩)
  |(go_at_call 11;refine(cD ae.heap.size d ae hd (H_ _)).mono ?_;unfold A2;rintro e T⟨m,rfl,bO,bw,cF,Z⟩)
  |(refine kQ (m.g_) (P_ T 43 Ec) (Md.one _) ?_;intro Y a6 ah))
 have bZ:Gr [] T Y:=((F_ [] T).alloc _).hK ah s_;have cr:w.heap.size<=d:=G_ hg1.size ai;have eF:Gr [] w T:=(hg1.trans S).hK Z (zu cr);have I:=eF.trans bZ;replace bO:=bO.hG bZ;have z:=Md.hm bO bw;have O:=Md.tm bO bw;have dF:=bw.tl
 have aK:=h_ (show rV (hY m.s.h.l)/\HG (C0 (hY m.s.h.l)) (hY m.s.h.l) by
  obtain⟨k,run,hk,hc,_⟩:=bw.cm
  exact⟨hc.Eo,(hc.ci bw.val (kl bw.val).2.1).2.cl⟩)
 have L:Bk Y T.heap.size 43 m.g_:=a6;have ay:m.g_[5]?=some (.slice m.s.h.A m.s.h.l.length m.s.h.c):=rfl;have av:m.g_[15]?=some (.slice m.tA m.ts.length m.tc):=rfl;have aP:Y.cell? (c_ T.heap.size 5)=some (.slice m.s.h.A m.s.h.l.length m.s.h.c):=(a6.f_ 5).trans rfl;have b5:Y.cell? (c_ T.heap.size 15)=some (.slice m.tA m.ts.length m.tc):=(a6.f_ 15).trans rfl
 have cV:m.ts.length<=16:=by
  obtain⟨k,cI,hk,hc,hx⟩:=bw.cm
  rcases hx with⟨_,e,_⟩|⟨_,_,n,_,cA⟩
  .rw[e];exact O_ _
  .have:=cA.len
   rwa [E5]at this
 have aE:w.heap.size<=T.heap.size:=eF.size;clear bO bw a6 cF Z ah hd S ai hs hz cS hl0 eF bZ cr;generalize m.g_=mc at*;generalize m.s.h.A=hA at*;generalize m.s.h.c=hc at*;generalize m.s.h.l=hl at*;generalize m.tA=tA at*;generalize m.tc=tc at*;generalize m.ts=ts at*;generalize T.heap.size=gx at*;clear hg1;obtain⟨W,aT⟩:=nm_ Y;rw[<-aT]at I O z aP b5 L |-;clear aT;obtain⟨n,hn⟩:∃n:Nat,q % ((ts.length:Int)+1)=n:=⟨(q % ((ts.length:Int)+1)).toNat,ov (Int.emod_nonneg q (show(ts.length:Int)+1≠0 by omega))⟩;have ce:n<=ts.length:=ov (Int.emod_lt_of_pos q (show 0<(ts.length:Int)+1 by omega));have HM:=h_ (BB q ((ts.length:Int)+1) W o_ o_ hq0 hq1);have aW:=h_ hn;clear hn
 go_upto_region 5 with(go_at_call 42;refine HM.out.mono ?_;rintro e w2⟨rfl,rfl⟩;rw[aW.out])
 have bP:Hid (∀w',Gr [] W w'->Calls prog 31 #[.agg #[.slice hA hl.length hc],.slice tA n tc] w' (wo (mi (hY hl) ((ts.map Tk.p).take n)) hl.length w')):=h_ (λw' h=>by
  have k:=rc (hc:=hc) (tc:=tc) (z.hG h) ((O.take n).hG h);rw[E1,Gl ce,Hf]at k
  exact k)
 have cg:Hid (∀w',Gr [] W w'->Calls prog 31 #[.agg #[.slice hA hl.length hc],.slice tA ts.length tc] w' (wo (mi (hY hl) (ts.map Tk.p)) hl.length w')):=h_ (λw' h=>rc (hc:=hc) (tc:=tc) (z.hG h) (O.hG h));have aN:n<=tc:=o_
 go_cut [7,8] (λp r aX=>∃(aF bI:Nat) (be b9:OA) (aZ cq:Nat) (J N:List Rw),p=q_ aF/\r=q_ bI/\Bk aX aF 35 #[.slice be J.length aZ]/\Bk aX bI 35 #[.slice b9 N.length cq]/\CR (mi (hY hl) ((ts.map Tk.p).take n)) hl.length aX be J/\CR (mi (hY hl) (ts.map Tk.p)) hl.length aX b9 N/\Gr [] W aX)
 case first=>
  refine hQ (λw'=>w'.cell? (c_ gx 5)=some (.slice hA hl.length hc)/\w'.cell? (c_ gx 15)=some (.slice tA ts.length tc)) 18 k_ ?_;obtain⟨bu,ad⟩:=nm_ W.drew
  have f:Gr [] W bu:=by rw[ad];exact(F_ [] W).drew
  have c:=L.hG f;rw[<-ad];clear ad z O I aP b5 HM
  refine nt ⟨(c.f_ 5).trans ay,(c.f_ 15).trans av⟩ λC=>?_
  repeat refine jW C ?_
  refine iP 8 C ?_;refine iP 9 C ?_;refine iP 10 C ?_;refine iP 11 C ?_;refine iP 12 C ?_
  repeat' (first
   |(have H:=bg
     clear bg;go_simp
     go_at_call 31
     refine(bP.out _ f).mono ?_;unfold wo;rintro e A⟨be,aZ,J,rfl,ho,aB,aq,aD,hg⟩;have aj:Fx W.heap.size [35] _ A:=.jC hg;have E:CR _ hl.length A be J:=⟨ho,aB,aq,aD⟩;clear ho aB aq aD
     try replace s:=s.fx aj
     try replace bX:=bX.hG hg
     try replace b7:=b7.hG hg
     replace c:=aj.bk c;replace f:=aj.gr W (H_ _) f;clear aj hg C
     refine h5 H ⟨(c.f_ 5).trans ay,(c.f_ 15).trans av⟩ λC=>?_
     clear H K)
   |(have H:=aQ
     clear aQ;go_simp
     go_at_call 31
     refine(cg.out _ f).mono ?_;unfold wo;rintro e A⟨b9,cq,N,rfl,ho,aB,aq,aD,hg⟩;have aj:Fx W.heap.size [35] _ A:=.jC hg;have s:CR _ hl.length A b9 N:=⟨ho,aB,aq,aD⟩;clear ho aB aq aD
     try replace E:=E.fx aj
     try replace bX:=bX.hG hg
     try replace b7:=b7.hG hg
     replace c:=aj.bk c;replace f:=aj.gr W (H_ _) f;clear aj hg C
     refine h5 H ⟨(c.f_ 5).trans ay,(c.f_ 15).trans av⟩ λC=>?_
     clear H K)
   |(have H:=bo
     clear bo;go_simp;obtain⟨A,aF,az,hx,hg,bX,c8⟩:=Dr f 35 #[n_];have aj:Fx W.heap.size [35] _ A:=.jC hg
     try have ao:aF≠bI:=by have:=b7.lt;omega
     try replace b7:=b7.hG hg
     try replace E:=E.fx aj
     try replace s:=s.fx aj
     replace c:=aj.bk c;replace f:=aj.gr W (H_ _) f;clear aj hg C
     refine h5 H ⟨by rw[az];exact(c.f_ 5).trans ay,by rw[az];exact(c.f_ 15).trans av⟩ λC=>?_
     rw[az,hx];rw[az]at C
     clear H K az hx)
   |(have H:=bt
     clear bt;go_simp;obtain⟨A,bI,az,hx,hg,b7,eV⟩:=Dr f 35 #[n_];have aj:Fx W.heap.size [35] _ A:=.jC hg
     try have ao:aF≠bI:=by have:=bX.lt;omega
     try replace bX:=bX.hG hg
     try replace E:=E.fx aj
     try replace s:=s.fx aj
     replace c:=aj.bk c;replace f:=aj.gr W (H_ _) f;clear aj hg C
     refine h5 H ⟨by rw[az];exact(c.f_ 5).trans ay,by rw[az];exact(c.f_ 15).trans av⟩ λC=>?_
     rw[az,hx];rw[az]at C
     clear H K az hx)
   |(have H:=ck
     clear ck;have bj:=bX.f_ 0;have br:=bX.hH 0;go_simp;obtain⟨A,az,M,hb,aj⟩:=C5 bX c8 (.slice be J.length aZ);replace b7:=b7.gr M (by rw[I_];exact(Ne.symm ao));replace bX:=hb
     try replace E:=E.fx aj
     try replace s:=s.fx aj
     replace c:=aj.bk c;replace f:=aj.gr W (H_ _) f;clear aj M C bj br hb
     refine h5 H ⟨by rw[az];exact(c.f_ 5).trans ay,by rw[az];exact(c.f_ 15).trans av⟩ λC=>?_
     rw[az];rw[az]at C;clear H K az
     have dh:=True.intro)
   |(have H:=cn
     clear cn;have bj:=b7.f_ 0;have br:=b7.hH 0;go_simp;obtain⟨A,az,M,hb,aj⟩:=C5 b7 eV (.slice b9 N.length cq);replace bX:=bX.gr M (by rw[I_];exact ao);replace b7:=hb
     try replace E:=E.fx aj
     try replace s:=s.fx aj
     replace c:=aj.bk c;replace f:=aj.gr W (H_ _) f;clear aj M C bj br hb
     refine h5 H ⟨by rw[az];exact(c.f_ 5).trans ay,by rw[az];exact(c.f_ 15).trans av⟩ λC=>?_
     rw[az];rw[az]at C;clear H K az
     have bl:=True.intro)
   |(have:=bl;clear this;refine hN k_ ?_ _)
   |(have:=dh;clear this;refine h4 17 (λK cn=>?_))
   |(have:=s;have:=bX;have:=b7;clear this;refine h4 16 (λK ck=>?_))
   |(have:=s;have:=bX;clear this;refine h4 15 (λK bt=>?_))
   |(have:=s;have:=b7;clear this;refine h4 14 (λK bo=>?_))
   |(have:=s;clear this;refine wI 14 15 (λK bo=>?_) (λK bt=>?_))
   |(have:=E;have:=bX;have:=b7;clear this;refine h4 13 (λK aQ=>?_))
   |(have:=E;have:=bX;clear this;refine wI 13 15 (λK aQ=>?_) (λK bt=>?_))
   |(have:=E;have:=b7;clear this;refine wI 13 14 (λK aQ=>?_) (λK bo=>?_))
   |(have:=E;clear this;refine zC 13 14 15 (λK aQ=>?_) (λK bo=>?_) (λK bt=>?_))
   |(have:=bX;have:=b7;clear this;refine h4 7 (λK bg=>?_))
   |(have:=bX;clear this;refine wI 7 15 (λK bg=>?_) (λK bt=>?_))
   |(have:=b7;clear this;refine wI 7 14 (λK bg=>?_) (λK bo=>?_))
   |(refine zC 7 14 15 (λK bg=>?_) (λK bo=>?_) (λK bt=>?_))
   )
  all_goals
   go_wp2;go_meet;exact⟨aF,bI,be,b9,aZ,cq,J,N,rfl,rfl,bX,b7,E,s,f⟩
 case rest=>
  obtain⟨aF,bI,be,b9,aZ,cq,J,N,rfl,rfl,bX,b7,E,s,f⟩:=hcut;obtain⟨R,bW⟩:=nm_ wc;rw[<-bW]at bX b7 E s f |-;clear bW aP b5 HM bP cg aN dF cV aE;have l:=L.hG f;have aD:=z.len;have y:=bX.f_ 0
  have bV:=h_ (show ∀(k:Nat) (hk:k<J.length),∃u,kn (hY N) J[k].o.id=some u from λk hk=>by
   rw[s.o];refine xq n (h:=hY hl) (ts:=ts.map Tk.p) ?_;rw[<-E.o]
   exact EM.2 ⟨J[k],N_ hk,rfl⟩)
  have dO:=h_ (λ(w':World)(h:Gr [] R w')(id:Int)(u:Ob)(e:kn (hY N) id=some u)=>get_some b9 cq N id u w' (s.os.hG h) (s.rk.hG h) (ov s.n) e);have cC:=E.n;have aJ:=b7.f_ 0;have ct:=E.os;clear bX
  go_wp2_with fail
  go_loopw [46] (λap wr=>∃k:Nat,k<=J.length/\ap=i_ k/\Gr [] R wr) (λap _=>J.length-(intOf ap).toNat)
  case atStart=>exact⟨0,O_ _,gn,F_ _ _⟩
  case round=>
   obtain⟨k,hk,rfl,F⟩:=hrel
   by_cases ag:k<J.length
   .obtain⟨b,off,P,bi,bq⟩:=(ct.hG F).at_ ag;obtain⟨u,hu⟩:=bV.out k ag;subst P;generalize J[k]=r at*;obtain⟨aH,gb,bC,aU,a,bz⟩:=box1 wr 56 #[i_ r.o.id,.slice r.A r.o.fs.length r.c];have bR:=F.trans a;have z0:=bz.f_ 0;have cQ:=bR.f_ aJ s_;have a8:=h_ (dO.out aH bR r.o.id u hu);clear bz hu
    go_wp2_with (go_at_call 14;refine a8.out.mono ?_;rintro e ae⟨aG,aC,rfl,aR,S⟩)
    go_roundw
    case rel=>exact⟨k+1,o_,gn,(bR.trans S).alloc _⟩
    case measure=>exact mz
   .clear bV dO ct cC y;have cG:=F.f_ aJ s_;have co:=b7.hG F;have dN:CR (mi (hY hl) (ts.map Tk.p)) hl.length wr b9 N:=⟨s.o,s.os.hG F,s.rk.hG F,s.n⟩;have ar:=f.trans F;have a2:=l.hG F;clear F s b7 aJ l f E cG
    go_upto_region 13 with fail
    have cH:¬k<J.length:=by assumption
    clear ag;refine hQ (λw'=>w'.cell? (c_ gx 5)=some (.slice hA hl.length hc)/\w'.cell? (c_ gx 15)=some (.slice tA ts.length tc)) 8 k_ ?_;obtain⟨bu,ad⟩:=nm_ wr.drew
    have au:Gr [] wr bu:=by rw[ad];exact(F_ [] wr).drew
    rw[<-ad];clear ad;have c:=a2.hG au;have cp:=co.hG au;have f:=ar.trans au;have bD:CR (mi (hY hl) (ts.map Tk.p)) hl.length bu b9 N:=⟨dN.o,dN.os.hG au,dN.rk.hG au,dN.n⟩;clear dN ar a2 au co
    refine nt ⟨(c.f_ 5).trans ay,(c.f_ 15).trans av⟩ λC=>?_
    repeat refine jW C ?_
    refine h4 5 λK H=>?_
    go_simp
    go_at_call 28
    refine((O.hG f).roots tc).mono ?_;unfold nX;rintro e T⟨aO,c4,rfl,bN, -,Z⟩
    refine h5 H ⟨((c.hG Z).f_ 5).trans ay,((c.hG Z).f_ 15).trans av⟩ λC=>?_
    clear H K
    refine h4 6 λK H=>?_
    go_simp
    go_at_call 35
    refine((z.hG (f.trans Z)).reach hc c4 bN (G_ (xM _) O.few)).mono ?_;rw[show n8 (hY hl) (oX (k8 (ts.map Tk.p)))=iG (hY N) by rw[bD.o,vU aK.out.1];rfl];unfold nX;rintro e Y⟨aY,c5,rfl,bF, -,ah⟩;have bZ:=Z.trans ah
    refine h5 H ⟨((c.hG bZ).f_ 5).trans ay,((c.hG bZ).f_ 15).trans av⟩ λC=>?_
    clear H K;refine iP 7 C ?_;refine hN k_ ?_ _;have aJ:=cp.hG bZ;have bT:=f.trans bZ;have a7:=c.hG bZ;have cu:=bD.os.hG bZ;have cv:=bD.rk.hG bZ;have d1:=bD.n
    have bA:=h_ (show ∀(i:Nat) (hi:i<N.length),∀v∈N[i].o.fs,isRef v=true->v.n∈iG (hY N) from λi hi v hv hr=>by
     rw[bD.o,vU aK.out.1];refine vV aK.out.1 aK.out.2 (o:=N[i].o) ?_ hv hr;rw[<-bD.o]
     exact EM.2 ⟨N[i],N_ hi,rfl⟩)
    have aS:(iG (hY N)).length=N.length:=by unfold iG;rw[E5,h9]
    have b8:=aJ.f_ 0;rw[aS];clear C c cp bD f Z ah bZ aJ;have cj:=h_ (show ∀(i:Nat) (hi:i<N.length),(iG (hY N))[i]?=some N[i].o.id from λi hi=>by simp[iG,hY,M_ hi]);have bY:=h_ (λ(w':World)(h:Gr [] Y w')(x:Int)=>yU (tb:=2) aY c5 (iG (hY N)) x w' (Sl.hG bF h) o_);rw[aS]at bY;generalize iG (hY N)=ids at*
    go_wp2_with fail
    go_loopw [76] (λap wr=>∃i:Nat,i<=N.length/\ap=i_ i/\Gr [] Y wr) (λap _=>N.length-(intOf ap).toNat)
    case atStart=>exact⟨0,O_ _,gn,F_ _ _⟩
    case round=>
     clear b8;obtain⟨i,hi,rfl,F⟩:=hrel
     by_cases bJ:i<N.length
     .obtain⟨b,off,P,bi,bq⟩:=(cu.hG F).at_ bJ;subst P;obtain⟨b3,cw,u,af,hu,bH⟩:=Sl.at_ (Sl.hG bF F) (by rw[aS];exact bJ:i<ids.length)
      have dj:u=i_ N[i].o.id:=by
       have e:=cj.out i bJ;simp only[E7,e]at hu;injection hu with hu;exact hu.symm
      subst dj;subst af;obtain⟨hv,bB⟩:=cv.hG F _ (N_ bJ);have cy:=h_ (bA.out i bJ);generalize N[i]=r at*;obtain⟨aH,gb,bC,aU,a,bz⟩:=box1 wr 56 #[i_ r.o.id,.slice r.A r.o.fs.length r.c];obtain⟨z0,aM⟩:=bz.iH;have bG:=a.f_ bH s_;have bR:=F.trans a;have aV:=hv.hG a;clear bz bH hu hv
      go_upto_region 19 with fail
      refine hQ (λw'=>w'.cell? (c_ gb 0)=some (i_ r.o.id)/\w'.cell? (c_ b3 (cw+i))=some (i_ r.o.id)) 7 k_ ?_;have V:Gr [] aH aH.drew:=(F_ [] aH).drew;replace z0:=V.f_ z0 s_;replace aM:=V.f_ aM s_;replace bG:=V.f_ bG s_;replace bR:=bR.trans V;replace aV:=aV.hG V;obtain⟨am,cf⟩:=nm_ aH.drew;rw[<-cf]at z0 aM bG bR aV |-;clear cf V bC a
      refine nt ⟨z0,by simpa using bG⟩ λC=>?_
      refine iP 0 C ?_;refine iP 1 C ?_;refine iP 2 C ?_;refine iP 3 C ?_;refine iP 4 C ?_;refine iP 5 C ?_;refine iP 6 C ?_;refine hN k_ ?_ _;clear C z0 bG
      go_wp2_with fail
      go_loopw [91] (λap wr=>∃j:Nat,j<=r.o.fs.length/\ap=i_ j/\Gr [] Y wr/\Vs wr r.A r.o.fs) (λap _=>r.o.fs.length-(intOf ap).toNat)
      case atStart=>exact⟨0,O_ _,gn,bR,aV⟩
      case round=>
       clear bR aV aM;obtain⟨j,hj,rfl,S,aR⟩:=hrel
       by_cases bp:j<r.o.fs.length
       .obtain⟨bv,ov,cz,b6,bE⟩:=aR.at_ bp;have bQ:=h_ (cy.out _ (N_ bp));generalize r.A=b4 at*;subst cz;generalize r.o.fs[j]=v at*;obtain⟨bL,aL,ca,D,t,bK⟩:=box1 wr 38 #[.bool v.r,i_ v.n];obtain⟨bj,bn⟩:=bK.iH;have Z:=S.trans t;have bU:=aR.hG t;clear bK S aR
        cases aw:v.r with
        |false=>
         rw[aw]at bj b6 ca;clear aw bQ;exact K0
        |true=>
         rw[aw]at bj b6 ca
         by_cases h0:v.n=0
         .have cx:(v.n !=0)=false:=by simp[h0]
          clear aw bQ h0;exact K0
         .have cx:(v.n !=0)=true:=by simp[h0]
          have dD:=bQ.out (by unfold isRef;rw[aw,cx];rfl);have bM:=bY.out bL Z v.n;rw[E8 dD]at bM;have bM:=h_ bM;clear aw bQ h0 dD
          go_wp2_with (go_at_call 18;refine bM.out.mono ?_;rintro e ax⟨rfl,rfl⟩)
          exact Lj
       .go_wp2;go_roundw
        case rel=>exact⟨i+1,o_,gn,S⟩
        case measure=>exact mz
     .have ar:=bT.trans F;have b0:=h_ ((z.hG ar).reach hc (e:=2) (B:=none) 0 (rs:=[]) (Fm _ _ _ _) d_);have cJ:=((a7.hG F).f_ 5).trans ay;clear bY bA cj cu cv bF
      go_wp2_with fail
      go_at_call 35
      refine b0.out.mono ?_;rw[yF];unfold nX;rintro e X⟨cY,cN,rfl, -, -,G⟩;go_wp2;rw[ak.out];exact⟨rfl,I.trans (ar.trans G)⟩
end Go.Proofs.YtenbhdilndfaeaaGreat
