import Derived.Test.YtenbhdilndfaeaaGreatProg
import Derived.Below
import Derived.ChangeOld
import Derived.Deep.Cut
import Derived.Deep.QuietTactic
import Derived.Deep.SlicePairs
import Derived.Laws.Rows
import Derived.Lib.SmallJoins
import Derived.OpenShut
import Derived.ProofKit
import Derived.ShutString
import Derived.WalkKit
set_option maxRecDepth 100000
set_option linter.all false
namespace Go.Proofs.YtenbhdilndfaeaaGreat
open Go.RowKit
theorem k_{G:Prop}(h:G:=by kernel_rfl):G:=h
theorem o_{G:Prop}(h:G:=by omega):G:=h
theorem d_{G:Prop}(h:G:=by decide):G:=h
theorem s_{G:Prop}(h:G:=by simp):G:=h
theorem p_{G:Prop}(h:G:=by simp;omega):G:=h
theorem r_{G:Prop}(h:G:=by rfl):G:=h
abbrev i_(x:Int):Value:=.int .i64 x
abbrev n_:Value:=.slice none 0 0
abbrev e_:Value:=.string {data:=#[]}
abbrev c_(x k:Nat):Addr:=⟨x,k,none⟩
abbrev j_(x:Nat):Option Addr:=some ⟨x,0,none⟩
abbrev q_(x:Nat):Value:=.pointer (some ⟨x,0,none⟩)
theorem h_{p:Prop}(h:p):Hid p:=h
theorem rr_{P:Program}{fn:Func}{R:Ending->World->Prop}{a:Act}{w:World}{p:Tmp}{ty:TypeId}{g:Nat}{t:TypeId}{fr:Nat × Nat}{d:TypeDesc}(cs:Array Value)(hg:w.heap[g]?=some (.cells cs t fr))(hu:P.underlying ty=some d)(hR:R (.returned (.agg cs)) w)
 (h:fn.results=#[.cell p ty]:=by rfl) (hp:a.tmps.getD p undef=q_ g:=by rfl) (hd:(match d with|.struct _|.array _ _=>true|_=>false)=true:=by rfl) (hi:(P.info? ty).map (·.size)=some cs.size:=by kernel_rfl) (hf:a.defers=[]:=by rfl):bodyPost P fn R .ret a w:=bodyPost_ret (v:=.agg cs) (results_cell_row h _ _ _ _ _ _ _ hp hg hu hd hi) hf hR
theorem rn_{P:Program}{fn:Func}{R:Ending->World->Prop}{a:Act}{w:World}(hR:R (.returned (.tuple #[])) w)(h:fn.results=#[]:=by rfl)(hf:a.defers=[]:=by rfl):bodyPost P fn R .ret a w:=bodyPost_ret (v:=.tuple #[]) (results_none h _ _ _) hf hR
theorem en_{P:Program}{fn:Func}{R:Ending->World->Prop}{a:Act}{w:World}(hR:R (.returned (.tuple #[])) w)(h:fn.results=#[]:=by rfl)(hf:a.defers=[]:=by rfl):bodyPost P fn R .normal a w:=bodyPost_end (v:=.tuple #[]) (results_none h _ _ _) hf hR
theorem a_:(∀ (a:Act) (i:Tmp) (v:Value),a.put (some i) v=⟨a.tmps.setIfInBounds i v,a.defers⟩) /\ (∀ (a:Act) (v:Value),a.put none v=a) /\
 (∀ {α:Type} (l:List α) (i:Nat) (a:α),l.toArray.setIfInBounds i a=(l.set i a).toArray) /\ (∀ {α:Type} (x y:α) (l:List α),(x::l).set 0 y=y::l) /\ (∀ {α:Type} (x y:α) (l:List α) (i:Nat),(x::l).set (i+1) y=x::l.set i y):=by
 refine⟨λ_ _ _=>rfl,λ_ _=>rfl,λ_ _ _=>by simp,λ_ _ _=>rfl,λ_ _ _ _=>rfl⟩
theorem sd_{G:Prop}(h:G:=by first|(simp;done)|(simp;omega)|fail):G:=h
theorem gs_{G:Prop}(h:G:=by first|(go_simp;done)|(go_simp;with_reducible rfl)|fail):G:=h
theorem nm_{α:Type}(a:α):∃b,b=a:=⟨a,rfl⟩
theorem mn_{α:Type}(a:α):∃b,a=b:=⟨a,rfl⟩
abbrev S_:Array Value:=#[i_ 0,e_,e_,i_ 0,i_ 0,n_,n_,n_]
abbrev E_:Array Value:=#[i_ 0,i_ 0,e_,i_ 0,n_]
open Classical in
open Go.RowKit Go.Maps
open Go.RowKit Go.Proofs.Tryz
abbrev F_:=@Nat.le_trans
abbrev G_:=@Nat.le_refl
abbrev H_:=@List.length_append
abbrev I_:=@Array.getElem?_setIfInBounds
abbrev J_:=@List.getElem_mem
abbrev K_:=@List.getElem?_eq_getElem
abbrev M_:=@List.mem_cons
abbrev N_:=@Nat.zero_le
abbrev O_:=@List.take_succ_eq_append_getElem
abbrev P_:=@if_neg
abbrev Q_:=@if_pos
abbrev R_:=@List.mem_singleton
abbrev T_:=@List.mem_append
abbrev U_:=@Nat.zero_add
abbrev W_:=@List.take_of_length_le
abbrev X_:=@List.drop_eq_getElem_cons
abbrev Y_:=@Array.getElem?_eq_none
abbrev Z_:=@Array.getD_eq_getD_getElem?
abbrev D2:=@List.mem_map
abbrev D3:=@List.length_cons
abbrev D4:=@List.mem_append_left
abbrev D5:=@Nat.lt_or_ge
abbrev D6:=@absurd
abbrev D7:=@Array.getElem?_eq_getElem
abbrev D8:=@bodyPost_ret
abbrev D9:=@congrArg
abbrev Ea:=@List.nil_append
abbrev Eb:=@List.length_set
abbrev Ec:=@Bool.and_eq_true
abbrev Ed:=@List.map_append
abbrev Ee:=@List.mem_or_eq_of_mem_set
abbrev Eg:=@IntWalk.i64_in
abbrev Eh:=@List.getElem?_eq_none
abbrev Ei:=@List.all_eq_true
abbrev Ej:=@List.flatMap_append
abbrev Ek:=@decide_eq_true
abbrev El:=@List.drop_eq_nil_of_le
abbrev Em:=@List.length_filter_le
abbrev En:=@List.eq_nil_of_length_eq_zero
abbrev Eo:=@List.mem_cons_of_mem
abbrev Ep:=@List.mem_range
abbrev Eq:=@List.getElem?_map
abbrev Er:=@List.append_assoc
abbrev Et:=@List.length_map
abbrev Eu:=@List.mem_of_mem_take
abbrev Ev:=@Int.le_refl
abbrev Ew:=@Array.getElem?_eq_some_iff
abbrev Ey:=@List.length_take
abbrev Ez:=@List.flatMap_cons
abbrev EB:=@List.length_nil
abbrev EC:=@List.getElem_append_left
abbrev ED:=@Int.toNat_natCast
abbrev EE:=@List.length_replicate
abbrev EH:=@Nat.not_le
abbrev EI:=@List.getElem?_cons_zero
abbrev EJ:=@run_underlying
abbrev EK:=@List.getElem_append_right
abbrev EL:=@List.getElem?_take
abbrev EO:=@List.mem_filter
abbrev EP:=@decide_eq_true_eq
abbrev EQ:=@List.setIfInBounds_toArray
abbrev ER:=@Nat.lt_of_lt_of_le
abbrev ES:=@List.getElem_cons_zero
abbrev EU:=@decide_eq_false
abbrev EV:=@results_cell_row
abbrev EW:=@Option.getD_some
abbrev EX:=@Int.toNat_of_nonneg
abbrev EY:=@Nat.eq_zero_or_pos
abbrev EZ:=@List.set_cons_succ
abbrev E0:=@List.mem_cons_self
abbrev E1:=@List.map_cons
abbrev E2:=@List.mem_flatMap
abbrev E3:=@List.getElem?_append_right
abbrev E4:=@Array.getElem?_setIfInBounds_ne
abbrev E5:=@List.mem_append_right
abbrev E6:=@List.set_cons_zero
abbrev E7:=@List.getElem_map
abbrev E8:=@IntKind.wrap_i64
abbrev E9:=@List.getElem?_cons_succ
abbrev Fa:=@Nat.add_mul
abbrev Fb:=@List.getElem_modify
abbrev Fc:=@List.take_length
abbrev Fd:=@List.length_drop
abbrev Fe:=@Nat.add_zero
abbrev Ff:=@List.map_nil
abbrev Fg:=@List.getElem_range
abbrev Fh:=@List.getElem?_eq_some_iff
abbrev Fi:=@List.getElem?_append_left
abbrev Fj:=@List.nodup_append
abbrev Fk:=@List.length_range
abbrev Fl:=@List.foldl_cons
abbrev Fm:=@List.foldl_append
abbrev Fn:=@Array.getElem?_replicate
abbrev Fp:=@Int.mul_le_mul_of_nonneg_right
abbrev Fq:=@Nat.le_mul_of_pos_right
abbrev Fr:=@Nat.add_assoc
abbrev Ft:=@ByteArray.toList_eq
abbrev Fu:=@List.map_toArray
abbrev Fv:=@List.getElem_cons_succ
abbrev Fw:=@Option.isSome_some
abbrev Fx:=@List.filter_append
abbrev Fy:=@Nat.le_of_ble_eq_true
abbrev Fz:=@Nat.mod_two_eq_zero_or_one
abbrev FB:=@Nat.mul_le_mul_right
abbrev FC:=@List.mem_of_mem_drop
abbrev FD:=@List.ext_getElem
abbrev FE:=@List.cons_append
abbrev FF:=@List.getElem_of_mem
abbrev FH:=@Nat.zero_mul
abbrev FI:=@decide_eq_false_iff_not
abbrev FJ:=@List.nodup_cons
abbrev FK:=@List.getElem?_drop
abbrev FL:=@Bool.or_eq_true
abbrev FM:=@Bool.false_or
abbrev FN:=@Array.all_eq_true_iff_forall_mem
abbrev FO:=@List.flatMap_singleton
abbrev FP:=@List.length_singleton
abbrev FQ:=@Option.getD_none
abbrev FR:=@Array.length_toList
abbrev FU:=@Array.toList_setIfInBounds
abbrev FV:=@Option.isSome_none
abbrev FW:=@List.length_modify
abbrev FX:=@heap_alloc_new
abbrev FY:=@List.ext_getElem?
abbrev FZ:=@Array.any_eq_true
abbrev F0:=@Nat.one_mul
abbrev F1:=@List.any_cons
abbrev F2:=@List.getElem_replicate
abbrev F3:=@List.find?_cons_of_pos
abbrev F4:=@results_tmp2
abbrev F5:=@Option.map_some
abbrev F6:=@Int.lt_or_le
abbrev F7:=@Bool.true_or
abbrev F8:=@Array.getElem?_setIfInBounds_self_of_lt
abbrev F9:=@List.getElem?_modify
abbrev Ga:=@List.mem_map_of_mem
abbrev Gb:=@List.mem_replicate
abbrev Gc:=@List.mem_filterMap
theorem KD{G:Prop} (h:G:=by
 have bg:=h_ (show js (hN l) id=iO (λr:Rw=>r.o.id==id) l 0 by unfold js hN;exact ns _ _ _ _ _ λ_ _=>rfl);generalize hL:l.length=n at*;have aT:Bk (w.alloc (.cells #[.slice A n c] 35)) w.heap.size 35 #[.slice A n c]:=L_ w _ _;have h0:(w.alloc (.cells #[.slice A n c] 35)).cell? (c_ w.heap.size 0)=some (.slice A n c):=aT.f_ 0
 go_enter func55,ntmps55
 go_wp2
 go_loopw [10] (λi w'=>∃k:Nat,k<=n/\i=i_ k/\js (hN l) id=iO (λr:Rw=>r.o.id==id) (l.drop k) k/\Gr [] w w') (λi _=>n-(intOf i).toNat)
 case atStart=>exact⟨0,N_ _,rfl,bg.out,(D_ _ _).alloc _⟩
 case round=>
  obtain⟨k,hk,rfl,G,F⟩:=hrel;have aR:=h_ G;clear G
  by_cases aj:k<n
  .have aH:k<l.length:=by omega
   obtain⟨b,off,rfl,bj,be⟩:=(h.g_ F).at_ aH
   by_cases hv:l[k].o.id=id
   .have a:(l[k].o.id==id)=true:=by simp[hv]
    clear hv;go_wp2;go_ret;exact⟨j0 (by rw[aR.out,lG _ _ _ _ o_ a]),F.alloc _⟩
   .have a:(l[k].o.id==id)=false:=by simp[hv]
    go_wp2;go_roundw
    case rel=>exact⟨k+1,by omega,by go_num,by rw[aR.out,ko _ _ _ _ o_ a],F.alloc _⟩
    case measure=>simp[intOf];omega
  .exact Kg):G:=h
theorem Gv{G:Prop} (h:G:=by
 refine hQ 10 λK H=>?_
 go_simp;have av:=L_ T 56 #[i_ 0,n_];have aE:Gr [] aJ (T.alloc (.cells #[i_ 0,n_] 56)):=(ap.trans af).alloc _;clear C;have C:(T.alloc (.cells #[i_ 0,n_] 56)).cell? (c_ gx 36)=some (.slice P.h.A P.h.l.length P.h.c)/\(T.alloc (.cells #[i_ 0,n_] 56)).cell? (c_ ay 0)=some (.bool v.r)/\(T.alloc (.cells #[i_ 0,n_] 56)).cell? (c_ ay 1)=some (i_ v.n):=⟨((B.bk.g_ aE).f_ 36).trans rfl,(i.g_ aE).f_ 0,(i.g_ aE).f_ 1⟩;have Z:=av.f_ 0;have ah:=av.f_ 1;have bB:=av.hm 0;have bH:=av.hm 1
 refine hS H C λC=>?_
 clear H K
 refine hQ 11 λK H=>?_
 go_simp;have X:=L_ T 56 #[i_ 0,n_];have a8:Gr [] aJ (T.alloc (.cells #[i_ 0,n_] 56)):=(ap.trans af).alloc _;clear C
 refine hS H ⟨((B.bk.g_ a8).f_ 36).trans rfl,(i.g_ a8).f_ 0,(i.g_ a8).f_ 1⟩ λC=>?_
 clear H K;refine ih 12 C ?_;refine hA k_ ?_ _;go_wp2;go_meet;exact⟨T.heap.size,none,0,rfl,rfl,X,a8⟩):G:=h
theorem Gx{G:Prop} (h:G:=by
 rintro e w2⟨rfl,ad⟩;rw[ag.out];have az:=P.gr ad s_;have s:=K.gr ad s_;have z0:w2.cell? (c_ w.heap.size 0)=some (.slice A l.length c):=s.f_ 0;have X:=(h.g_ J).g_ ad;have bX:=(hr.g_ J).g_ ad;obtain⟨b,off,rfl,bj,be⟩:=X.at_ aH;obtain⟨hv,aI⟩:=bX l[k] (J_ aH)
 go_wp2_with fail
 go_at_call 56
 refine(p5 l[k].o l[k].A l[k].c _ hv aI).mono ?_;rintro e ai⟨a8,aN,rfl,am,S⟩;have az:=az.gr S s_;obtain⟨Z,ah⟩:=az.iB;have O:=az.hm 0;have C:=az.hm 1;go_wp2;have d:=(az.hJ 0 (i_ l[k].o.id)).hJ 1 (.slice a8 l[k].o.fs.length aN);refine lA #[i_ l[k].o.id,.slice a8 l[k].o.fs.length aN] (.bool true) d underlying56 ⟨a8,aN,rfl,?_,?_⟩
 .exact Sl.ig am az d_ (((D_ [w.heap.size+1] ai).setCell (.inl s_) _).setCell (.inl s_) _)
 .exact(((J.trans ad).trans S).setCell (.inr s_) _).setCell (.inr s_) _):G:=h
theorem GR{G:Prop} (h:G:=by
 have X:=(av.hJ 0 (i_ a.id)).hJ 1 (.slice aR a.fs.length c4);have M:=((D_ [aJ.heap.size] T).setCell (p:=(c_ aJ.heap.size 0)) (.inl s_) (i_ a.id)).setCell (p:=(c_ aJ.heap.size 1)) (.inl s_) (.slice aR a.fs.length c4);have a8:=am.hx M (by first|(simp;done)|(simp;exact Bz));clear C
 refine hS H ⟨((B.bk.g_ a8).f_ 36).trans rfl,(i.g_ a8).f_ 0,(i.g_ a8).f_ 1⟩ λC=>?_
 clear H K;refine ih 12 C ?_;refine hA k_ ?_ _;go_wp2;go_meet;exact⟨aJ.heap.size,aR,c4,rfl,rfl,X,a8⟩):G:=h
theorem GZ{G:Prop} (h:G:=by
 have X:=(av.hJ 0 (i_ 0)).hJ 1 (n_);have M:=((D_ [aJ.heap.size] T).setCell (p:=(c_ aJ.heap.size 0)) (.inl s_) (i_ 0)).setCell (p:=(c_ aJ.heap.size 1)) (.inl s_) (n_);have a8:=am.hx M (by first|(simp;done)|(simp;exact Bz));clear C
 refine hS H ⟨((B.bk.g_ a8).f_ 36).trans rfl,(i.g_ a8).f_ 0,(i.g_ a8).f_ 1⟩ λC=>?_
 clear H K;refine ih 12 C ?_;refine hA k_ ?_ _;go_wp2;go_meet;exact⟨aJ.heap.size,none,0,rfl,rfl,X,a8⟩):G:=h
theorem G0{G:Prop} (h:G:=by
 refine hS H C λC=>?_
 clear H K
 refine hQ 11 λK H=>?_
 go_simp;have X:=L_ T 56 #[i_ a.id,.slice aR a.fs.length c4];have a8:Gr [] aJ (T.alloc (.cells #[i_ a.id,.slice aR a.fs.length c4] 56)):=(ap.trans af).alloc _;clear C
 refine hS H ⟨((B.bk.g_ a8).f_ 36).trans rfl,(i.g_ a8).f_ 0,(i.g_ a8).f_ 1⟩ λC=>?_
 clear H K;refine ih 12 C ?_;refine hA k_ ?_ _;go_wp2;go_meet;exact⟨T.heap.size,aR,c4,rfl,rfl,X,a8⟩):G:=h
theorem G3{G:Prop} (h:G:=by
 intro f vs Q hf C O K H;exact G7):G:=h
theorem G7{G:Prop} (h:G:=by
 obtain⟨⟨ta,o,ap,E⟩, -⟩:=O
 try simp only[b_,o]at H |-
 obtain⟨ad,bz,bG,bL,bT,bU,bV⟩:=ta;simp only[ET.h9]at H |-;go_simp;refine H.out _ _ (C.g_ ((D_ [] _).alloc _)) ((D_ _ _).alloc _) ⟨_,[ET.mk ad bz bG bL bT bU bV],rfl,rfl,C.hz,nf (ET.mk ad bz bG bL bT bU bV) (L_ _ _ _),?_⟩;exact Jl):G:=h
theorem Hg{G:Prop} (h:G:=by
 intro f vs Q hf C O K H;obtain⟨⟨ta,o,ap,E⟩, -⟩:=O
 try simp only[b_,o]at H |-
 obtain⟨s1,b6,cx,dz,b7,bR,cg,df,cz,bw,sb,sc,dB,dC⟩:=ta;simp only[ST.h9]at H |-;go_simp;exact H.out _ _ (C.g_ ((D_ [] _).alloc _)) ((D_ _ _).alloc _) ⟨_,ST.mk s1 b6 cx dz b7 bR cg df cz bw sb sc dB dC,rfl,C.hz,L_ _ _ _,ap.g_ ((D_ [] _).alloc _),E⟩):G:=h
theorem Hl{G:Prop} (h:G:=by
 rintro e w2⟨rfl,ad⟩;have az:=P.gr ad s_;obtain⟨Z,ah⟩:=az.iB;have O:=az.hm 0;have C:=az.hm 1
 have bC:¬0<=js (hN l) id:=by omega
 clear aj;go_wp2;have d:=(az.hJ 0 (i_ 0)).hJ 1 (n_);refine lA #[i_ 0,n_] (.bool false) d underlying56 ⟨rfl,?_⟩;exact Li):G:=h
theorem Ho{G:Prop} (h:G:=by
 obtain⟨⟨ta,o,ap,E⟩,⟨tb,ar,X,d⟩, -⟩:=O
 try simp only[b_,o,ar]at H |-
 go_simp
 go_at_call 143
 refine(ol W.heap.size 10 ta tb _ C.hz ap X).mono ?_;rintro e w1⟨A,rfl,V,hg1⟩;exact H.out _ _ (C.g_ hg1) (hg1.mono s_) ⟨pK 10 A ta tb,rfl,V,.bin 0 _ _ _ _ o_ o_ (E.mono o_) (d.mono o_)⟩):G:=h
theorem KK{G:Prop} (h:G:=by
 refine⟨λh0=>(by rw[h0]at hr;cases hr),λq aq=>?_⟩;rw[hr]at aq
 rcases M_.1 aq with rfl|aq
 .exact wpOp_step (ju h1) (λe H=>hi e (λa w C aZ=>H a w ⟨C,aZ⟩))
 .have:q=j:=by simpa using aq
  subst this;exact wpOp_step (ju h2) (λe H=>hj e (λa w C aZ=>H a w ⟨C,aZ⟩))):G:=h
theorem Hr{G:Prop} (h:G:=by
 intro vs Q C O K H;obtain⟨⟨ta,o,ap,E⟩, -⟩:=O
 try simp only[b_,o]at H |-
 refine iL k_ ?_;refine h4 226 _ _ rfl R0 r_ ta.g8 r_ 226 _ C.r rfl k_ (ET.one _) ?_;exact I2):G:=h
theorem Hs{G:Prop} (h:G:=by
 intro vs Q C O K H;obtain⟨⟨ta,o,ap,E⟩, -⟩:=O
 try simp only[b_,o]at H |-
 refine iL k_ ?_;refine h4 229 _ _ rfl R0 r_ ta.g8 r_ 229 _ C.r rfl k_ (ST.one _) ?_;exact I2):G:=h
theorem KL{G:Prop} (h:G:=by
 refine hH [(some 28,0),(some 33,5)] ?_;exact HJ):G:=h
theorem Hz{G:Prop} (h:G:=by
 intro vs Q C O K H;obtain⟨o, -⟩:=O;replace o:_=_:=o
 try simp only[b_,o]at H |-
 exact Ii):G:=h
theorem KM{G:Prop} (h:G:=by
 refine hH [(some 31,3)] ?_;exact HM):G:=h
theorem HI{G:Prop} (h:G:=by
 obtain⟨⟨aJ,o,cD,bp⟩, -⟩:=O
 try simp only[b_,o]at H |-
 go_simp
 go_at_call 144
 refine(jY _ _).mono ?_;rintro e w1⟨rfl,hg1⟩;exact H.out _ _ (C.g_ hg1) (hg1.mono s_) ⟨jj aJ,rfl,kc.leaf _ _ _ _ _ _,.num _ _ o_ o_⟩):G:=h
theorem HJ{G:Prop} (h:G:=by
 intro vs Q C O K H;obtain⟨⟨a7,o,bj,bf⟩,⟨af,ar,c9,cS⟩, -⟩:=O
 try simp only[b_,o,ar]at H |-
 obtain⟨k,rfl⟩:∃k:Nat,af=k:=⟨af.toNat,by omega⟩;go_simp;exact H.out _ _ C (D_ _ _) ⟨a7,k,rfl,by omega,bj,bf⟩):G:=h
theorem HM{G:Prop} (h:G:=by
 intro vs Q C O K H;obtain⟨o, -⟩:=O;replace o:_=_:=o
 try simp only[b_,o]at H |-
 obtain⟨cU,a,bC,cH⟩:=id C;have Z:=a.f_ 0;have ah:=a.f_ 1;have au:=a.f_ 2;have aQ:=a.f_ 3;exact Kn):G:=h
theorem HT{G:Prop} (h:G:=by
 clear O
 try simp only[b_]at H |-
 go_simp
 go_at_call 144
 refine(jY _ _).mono ?_;rintro e w1⟨rfl,hg1⟩;exact H.out _ _ (C.g_ hg1) (hg1.mono s_) ⟨jj 1,rfl,kc.leaf _ _ _ _ _ _,.num _ _ o_ o_⟩):G:=h
theorem H3{G:Prop} (h:G:=by
 clear t0 t1 ak;exact Ij):G:=h
theorem Ib{G:Prop} (h:G:=by
 intro u hu
 rcases M_.1 hu with rfl|hu
 .exact⟨ap.g_ ((D_ [] _).alloc _),E.mono o_⟩
 rcases M_.1 hu with rfl|hu
 .exact⟨X.g_ ((D_ [] _).alloc _),d.mono o_⟩
 cases hu):G:=h
theorem Ic{G:Prop} (h:G:=by
 clear t0;exact Ij):G:=h
theorem Ih{G:Prop} (h:G:=by
 refine hH [] ?_;intro vs Q C O K H;clear O
 try simp only[b_]at H |-
 exact Jn):G:=h
theorem Ii{G:Prop} (h:G:=by
 go_simp
 go_at_call 19
 refine(h8 B g _ _ C.d o_ o_).mono ?_;exact Jb):G:=h
theorem Ij{G:Prop} (h:G:=by
 go_wp2_with fail
 go_quiet (fail)
 go_wp2;go_roundw
 case rel=>exact⟨k+1,by go_num,by omega,by rw[O.out,ap.out];omega,F.drewN _⟩
 case measure=>simp[intOf];omega):G:=h
theorem KY{G:Prop} (h:G:=by
 obtain⟨b,off,U,hc⟩:=Sl.f_ h o_;exact⟨b,off,U,hc (k*2+0) _ (jL Rw.E (λ_=>rfl) l k 0 hk o_),hc (k*2+1) _ (jL Rw.E (λ_=>rfl) l k 1 hk o_)⟩):G:=h
theorem KZ{G:Prop} (h:G:=by
 refine hH [(some 29,1)] ?_;exact IP):G:=h
theorem K0{G:Prop} (h:G:=by
 obtain⟨b,off,U,hc⟩:=Sl.f_ h o_;exact⟨b,off,U,hc (k*2+0) _ (jL Vl.E (λ_=>rfl) l k 0 hk o_),hc (k*2+1) _ (jL Vl.E (λ_=>rfl) l k 1 hk o_)⟩):G:=h
theorem K1{G:Prop} (h:G:=by
 refine hH [(some 30,2)] ?_;exact IP):G:=h
theorem K2{G:Prop} (h:G:=by
 unfold Oper.wp execOp;simp only[ho,resolve,invoke,builtin,Sem.run_bind,Sem.run_pure,Result.andThen_ok,Fu,E1,Ff,hs,I,H];exact h A' c' w' h2 h3 aw):G:=h
theorem K4{G:Prop} (h:G:=by
 unfold Oper.wp execOp;simp only[ho,resolve,invoke,builtin,Sem.run_bind,Sem.run_pure,Result.andThen_ok,Fu,E1,Ff,hs,I,H];exact h A' c' w' h2 h3):G:=h
theorem ID{G:Prop} (h:G:=by
 intro y fz h2;have h3:w.heap[g]?=some (.cells cs t (0,0)):=h;rw[h3]at h2;injection h2 with h2;injection h2 with _ h2 _;exact av h2.symm):G:=h
theorem IF{G:Prop} (h:G:=by
 intro vs bq C;simp only[b_];obtain⟨t,az,V,aq,aR,G⟩:=C;go_wp2;exact rr_ t.g8 az underlying226 ⟨t,rfl,V.le o_,aq,aR,J.hx G p_⟩):G:=h
theorem II{G:Prop} (h:G:=by
 intro vs Q C O K H;obtain⟨⟨bw,bS,o⟩, -⟩:=O
 try simp only[b_,o]at H |-
 go_simp;exact H.out _ _ C (D_ _ _) ⟨bw,bS,rfl⟩):G:=h
theorem K5{G:Prop} (h:G:=by
 exact⟨b,off,U,hc (k*5+0) _ (g 0 o_),hc (k*5+1) _ (g 1 o_),hc (k*5+2) _ (g 2 o_),hc (k*5+3) _ (g 3 o_),hc (k*5+4) _ (g 4 o_)⟩):G:=h
theorem IP{G:Prop} (h:G:=by
 intro vs Q C O K H;exact Jc):G:=h
theorem IU{G:Prop} (h:G:=by
 clear t0 t1 ak;exact Jd):G:=h
theorem IX{G:Prop} (h:G:=by
 clear t0 t1;exact Jd):G:=h
theorem I0{G:Prop} (h:G:=by
 rintro e w1⟨t,rfl,V,aq,bh,hg1⟩;exact H.out _ _ (C.step hg1 bh U aj) (hg1.mono s_) ⟨t,rfl,V.le C.r.lt,aq⟩):G:=h
theorem I1{G:Prop} (h:G:=by
 refine i3 [] ?_;intro f vs Q hf C O K H;exact J4):G:=h
theorem I2{G:Prop} (h:G:=by
 intro ag az G;exact H.out undef _ (λ_=>⟨ta,az,ap.h7 G s_,E,C.d.h7 G p_,(C.g.mono s_).trans (G.mono s_)⟩)):G:=h
theorem K8{G:Prop} (h:G:=by
 simp[Value.cells]at d;obtain⟨rfl,rfl,rfl⟩:=d;exact⟨zs,.inr ⟨_,rfl,hl,Y,by simpa using hz,N,ap⟩⟩):G:=h
theorem I4{G:Prop} (h:G:=by
 refine hH [] ?_;intro vs Q C O K H;exact J4):G:=h
theorem I7{G:Prop} (h:G:=by
 rcases h2.2 with⟨rfl,h0⟩|⟨g,kX,cur,rfl,_⟩
 .exact⟨none,0,by rw[h0]⟩
 .exact⟨_,_,rfl⟩):G:=h
theorem I8{G:Prop} (h:G:=by
 refine wpQuiet_nil ?_;intro _ A;obtain⟨af,c⟩:=A;subst c;go_wp2;go_meet;exact⟨iY aY.out.symm,af.2⟩):G:=h
theorem Jb{G:Prop} (h:G:=by
 rintro e w1⟨r,rfl,h0,h1,bh,hg1⟩;exact H.out _ _ (C.step hg1 bh U aj) (hg1.mono s_) ⟨r,rfl,h0,h1⟩):G:=h
theorem Jc{G:Prop} (h:G:=by
 obtain⟨o, -⟩:=O;replace o:_=_:=o
 try simp only[b_,o]at H |-
 exact Kn):G:=h
theorem Jd{G:Prop} (h:G:=by
 go_wp2_with fail
 go_quiet (fail)
 go_wp2;go_meet;exact⟨k,rfl,hk,by rw[O.out,ap.out];omega,F.drewN _⟩):G:=h
theorem Jk{G:Prop} (h:G:=by
 go_roundw
 case rel=>exact⟨j+1,by omega,by go_num,A.trans af⟩
 case measure=>simp[intOf];omega):G:=h
theorem Jl{G:Prop} (h:G:=by
 intro u hu
 rcases M_.1 hu with rfl|hu
 .exact⟨ap.g_ ((D_ [] _).alloc _),E.mono o_⟩
 cases hu):G:=h
theorem Jn{G:Prop} (h:G:=by
 go_simp;exact JA):G:=h
theorem Jt{G:Prop} (h:G:=by
 unfold GS.lg at aL |-;simp only[iK.mk.injEq]at aL |-;exact⟨aL.1,aL.2.1,trivial,aL.2.2.2⟩):G:=h
theorem Lc{G:Prop} (h:G:=by
 simp[Value.cells]at d;obtain⟨rfl,rfl,rfl⟩:=d;exact⟨[],.inl ⟨rfl,rfl,rfl,rfl⟩⟩):G:=h
theorem JA{G:Prop} (h:G:=by
 exact H.out _ _ (C.g_ ((D_ [] _).alloc _)) ((D_ _ _).alloc _) ⟨_,rfl,C.r.lt,L_ _ _ _⟩):G:=h
theorem Le{G:Prop} (h:G:=by
 go_wp2;refine en_ ?_;rw[aD.out];exact⟨rfl,_,_,dF,(Gt.jQ hg).trans dH,dJ,dL.le o_⟩):G:=h
theorem JE{G:Prop} (h:G:=by
 go_round
 case rel=>exact⟨k+1,by omega,by go_num⟩
 case measure=>simp[intOf];omega):G:=h
theorem JI{G:Prop} (h:G:=by
 rw[P_ he,atKey_put_other (by intro e;injection e with _ e;exact he e)];exact h3 i hi):G:=h
theorem JM{G:Prop} (h:G:=by
 unfold hZ oK at hv;simp only[Ec]at hv;exact Ei.mp hv.1.1.2 k (by simpa using hk)):G:=h
theorem JN{G:Prop} (h:G:=by
 obtain⟨D,⟨es,a,h1,h2⟩,h3⟩:=h;exact⟨D,⟨es,a,hb.trans h1,h2⟩,h3⟩):G:=h
theorem JV{G:Prop} (h:G:=by
 rcases D5 b w.heap.size with aj|bC
 .exact aj
 .rw[Y_ bC]at hb
  cases hb):G:=h
theorem JW{G:Prop} (h:G:=by
 have ah:=(bf.f_ E).trans bI;go_simp;exact H.out _ _ C (D_ _ _) ⟨s,hs,rfl⟩):G:=h
theorem JZ{G:Prop} (h:G:=by
 have hv:=aI;unfold hZ at hv;simp only[Ec,EP]at hv;exact hv.1.1.1.1.1.1.1.2):G:=h
theorem J4{G:Prop} (h:G:=by
 clear O
 try simp only[b_]at H |-
 exact Kn):G:=h
theorem J7{G:Prop} (h:G:=by
 intro y hy
 rcases M_.1 hy with rfl|hy
 .omega
 .exact eP y (jw.1 hy)):G:=h
theorem Kb{G:Prop} (h:G:=by
 rintro e w1⟨rfl,hg1⟩;exact H.out _ _ (C.g_ hg1) (hg1.mono s_) rfl):G:=h
theorem Kg{G:Prop} (h:G:=by
 go_wp2;go_ret;exact⟨j0 (by rw[aR.out,mg _ _ _ _ o_]),F⟩):G:=h
theorem Li{G:Prop} (h:G:=by
 exact((J.trans ad).setCell (.inr s_) _).setCell (.inr s_) _):G:=h
theorem Kj{G:Prop} (h:G:=by
 go_wp2;rw[aD.out];exact⟨rfl,hg.trans F⟩):G:=h
theorem Ll{G:Prop} (h:G:=by
 go_wp2;go_meet;exact⟨iY aY.out.symm,rfl⟩):G:=h
theorem Ln{G:Prop} (h:G:=by
 go_wp2;go_ret;exact⟨x,rfl,g,rfl,aH⟩):G:=h
theorem Kn{G:Prop} (h:G:=by
 go_simp;exact H.out _ _ C (D_ _ _) rfl):G:=h
theorem Kt{G:Prop} (h:G:=by
 unfold GS.g8;rw[H_];exact this):G:=h
theorem Ku{G:Prop} (h:G:=by
 rw[Y_ h]at this
 cases this):G:=h
theorem Kv{G:Prop} (h:G:=by
 rw[e]at h;simp at h;omega):G:=h
theorem Kw{G:Prop} (h:G:=by
 simp only[lw,ST.h9,aG]
 rfl):G:=h
end Go.Proofs.YtenbhdilndfaeaaGreat
