import Derived.Test.YtenbhdilndfaeaaGreatProg
import Derived.Below
import Derived.ChangeOld
import Derived.Deep.Cut
import Derived.Deep.QuietTactic
import Derived.Deep.SlicePairs
import Derived.Laws.Rows
import Derived.Lib.SmallJoins
import Derived.OpenShut
import Derived.ProofKit
import Derived.ShutString
import Derived.WalkKit
set_option maxRecDepth 100000
set_option linter.all false
namespace Go.Proofs.YtenbhdilndfaeaaGreat
open Go.RowKit
theorem k_{G:Prop}(h:G:=by kernel_rfl):G:=h
theorem o_{G:Prop}(h:G:=by omega):G:=h
theorem d_{G:Prop}(h:G:=by decide):G:=h
theorem s_{G:Prop}(h:G:=by simp):G:=h
theorem p_{G:Prop}(h:G:=by simp;omega):G:=h
theorem r_{G:Prop}(h:G:=by rfl):G:=h
abbrev i_(x:Int):Value:=.int .i64 x
abbrev n_:Value:=.slice none 0 0
abbrev e_:Value:=.string {data:=#[]}
abbrev c_(x k:Nat):Addr:=⟨x,k,none⟩
abbrev j_(x:Nat):Option Addr:=some ⟨x,0,none⟩
abbrev q_(x:Nat):Value:=.pointer (some ⟨x,0,none⟩)
theorem h_{p:Prop}(h:p):Hid p:=h
theorem rr_{P:Program}{fn:Func}{R:Ending->World->Prop}{a:Act}{w:World}{p:Tmp}{ty:TypeId}{g:Nat}{t:TypeId}{fr:Nat × Nat}{d:TypeDesc}(cs:Array Value)(hg:w.heap[g]?=some (.cells cs t fr))(hu:P.underlying ty=some d)(hR:R (.returned (.agg cs)) w)
 (h:fn.results=#[.cell p ty]:=by rfl) (hp:a.tmps.getD p undef=q_ g:=by rfl) (hd:(match d with|.struct _|.array _ _=>true|_=>false)=true:=by rfl) (hi:(P.info? ty).map (·.size)=some cs.size:=by kernel_rfl) (hf:a.defers=[]:=by rfl):bodyPost P fn R .ret a w:=bodyPost_ret (v:=.agg cs) (results_cell_row h _ _ _ _ _ _ _ hp hg hu hd hi) hf hR
theorem rn_{P:Program}{fn:Func}{R:Ending->World->Prop}{a:Act}{w:World}(hR:R (.returned (.tuple #[])) w)(h:fn.results=#[]:=by rfl)(hf:a.defers=[]:=by rfl):bodyPost P fn R .ret a w:=bodyPost_ret (v:=.tuple #[]) (results_none h _ _ _) hf hR
theorem en_{P:Program}{fn:Func}{R:Ending->World->Prop}{a:Act}{w:World}(hR:R (.returned (.tuple #[])) w)(h:fn.results=#[]:=by rfl)(hf:a.defers=[]:=by rfl):bodyPost P fn R .normal a w:=bodyPost_end (v:=.tuple #[]) (results_none h _ _ _) hf hR
theorem a_:(∀ (a:Act) (i:Tmp) (v:Value),a.put (some i) v=⟨a.tmps.setIfInBounds i v,a.defers⟩) /\ (∀ (a:Act) (v:Value),a.put none v=a) /\
 (∀ {α:Type} (l:List α) (i:Nat) (a:α),l.toArray.setIfInBounds i a=(l.set i a).toArray) /\ (∀ {α:Type} (x y:α) (l:List α),(x::l).set 0 y=y::l) /\ (∀ {α:Type} (x y:α) (l:List α) (i:Nat),(x::l).set (i+1) y=x::l.set i y):=by
 refine⟨λ_ _ _=>rfl,λ_ _=>rfl,λ_ _ _=>by simp,λ_ _ _=>rfl,λ_ _ _ _=>rfl⟩
theorem sd_{G:Prop}(h:G:=by first|(simp;done)|(simp;omega)|fail):G:=h
theorem gs_{G:Prop}(h:G:=by first|(go_simp;done)|(go_simp;with_reducible rfl)|fail):G:=h
theorem nm_{α:Type}(a:α):∃b,b=a:=⟨a,rfl⟩
theorem mn_{α:Type}(a:α):∃b,a=b:=⟨a,rfl⟩
abbrev S_:Array Value:=#[i_ 0,e_,e_,i_ 0,i_ 0,n_,n_,n_]
abbrev E_:Array Value:=#[i_ 0,i_ 0,e_,i_ 0,n_]
abbrev OA:=Option Addr
theorem ov{A G:Prop}(x:A)(h:A->G:=by intro q;omega):G:=h x
theorem gn{G:Prop}(h:G:=by go_num):G:=h
theorem mz{G:Prop}(h:G:=by simp[intOf];omega):G:=h
theorem zu{A B:Prop}(x:A)(h:A->B:=by intro q;simpa using q):B:=h x
open Classical in
open Go.RowKit Go.Maps
open Go.RowKit Go.Proofs.Tryz
abbrev G_:=@Nat.le_trans
abbrev H_:=@Nat.le_refl
abbrev I_:=@List.mem_singleton
abbrev J_:=@List.length_append
abbrev K_:=@Array.getElem?_setIfInBounds
abbrev L_:=@List.mem_cons
abbrev M_:=@List.getElem?_eq_getElem
abbrev N_:=@List.getElem_mem
abbrev O_:=@Nat.zero_le
abbrev Q_:=@if_neg
abbrev R_:=@List.drop_eq_getElem_cons
abbrev T_:=@if_pos
abbrev U_:=@Nat.zero_add
abbrev W_:=@List.take_succ_eq_append_getElem
abbrev X_:=@List.mem_append
abbrev Y_:=@Array.getElem?_eq_none
abbrev Z_:=@List.length_cons
abbrev ED:=@congrArg
abbrev EE:=@Array.getD_eq_getD_getElem?
abbrev EH:=@Array.getElem?_eq_getElem
abbrev EI:=@List.take_of_length_le
abbrev EJ:=@Nat.lt_or_ge
abbrev EK:=@absurd
abbrev EL:=@List.map_append
abbrev EM:=@List.mem_map
abbrev EO:=@List.nil_append
abbrev EP:=@List.eq_nil_of_length_eq_zero
abbrev EQ:=@List.mem_cons_of_mem
abbrev ER:=@List.length_set
abbrev ES:=@Bool.and_eq_true
abbrev EU:=@List.mem_or_eq_of_mem_set
abbrev EV:=@List.all_eq_true
abbrev EW:=@List.getElem?_eq_none
abbrev EX:=@bodyPost_ret
abbrev EY:=@List.length_nil
abbrev EZ:=@List.flatMap_append
abbrev E0:=@List.flatMap_cons
abbrev E1:=@List.length_take
abbrev E2:=@IntWalk.i64_in
abbrev E3:=@List.drop_eq_nil_of_le
abbrev E4:=@List.mem_append_left
abbrev E5:=@List.length_map
abbrev E6:=@List.mem_cons_self
abbrev E7:=@List.getElem?_map
abbrev E8:=@decide_eq_true
abbrev E9:=@Int.le_refl
abbrev Fa:=@List.length_replicate
abbrev Fb:=@Array.getElem?_eq_some_iff
abbrev Fc:=@List.append_assoc
abbrev Fd:=@Nat.eq_zero_or_pos
abbrev Fe:=@List.mem_range
abbrev Ff:=@List.mem_of_mem_take
abbrev Fg:=@List.map_cons
abbrev Fh:=@List.getElem_append_left
abbrev Fi:=@Int.toNat_natCast
abbrev Fj:=@run_underlying
abbrev Fk:=@List.getElem?_take
abbrev Fl:=@List.length_filter_le
abbrev Fn:=@Nat.not_le
abbrev Fp:=@List.getElem?_cons_zero
abbrev Fq:=@List.getElem_append_right
abbrev Fr:=@decide_eq_true_eq
abbrev Ft:=@List.setIfInBounds_toArray
abbrev Fu:=@List.getElem_cons_zero
abbrev Fv:=@List.getElem?_append_left
abbrev Fw:=@Option.getD_some
abbrev Fy:=@List.getElem_modify
abbrev Fz:=@Int.toNat_of_nonneg
abbrev FB:=@Nat.lt_of_lt_of_le
abbrev FC:=@List.set_cons_succ
abbrev FD:=@List.take_length
abbrev FE:=@List.getElem?_append_right
abbrev FF:=@Array.getElem?_setIfInBounds_ne
abbrev FH:=@decide_eq_false
abbrev FI:=@List.set_cons_zero
abbrev FJ:=@Nat.add_mul
abbrev FK:=@List.getElem?_cons_succ
abbrev FN:=@List.map_nil
abbrev FO:=@List.drop_of_length_le
abbrev FP:=@results_cell_row
abbrev FQ:=@List.length_drop
abbrev FR:=@List.getElem_map
abbrev FU:=@IntKind.wrap_i64
abbrev FV:=@Nat.add_zero
abbrev FW:=@List.take_append_drop
abbrev FX:=@List.getElem?_eq_some_iff
abbrev FY:=@List.foldl_cons
abbrev FZ:=@List.foldl_append
abbrev F0:=@Array.getElem?_replicate
abbrev F1:=@Int.mul_le_mul_of_nonneg_right
abbrev F2:=@Nat.le_mul_of_pos_right
abbrev F3:=@List.getElem_of_mem
abbrev F4:=@ByteArray.toList_eq
abbrev F5:=@List.mem_flatMap
abbrev F6:=@List.map_toArray
abbrev F7:=@List.ext_getElem
abbrev F8:=@List.cons_append
abbrev F9:=@List.getElem_cons_succ
abbrev Ga:=@Option.isSome_some
abbrev Gb:=@List.getElem_range
abbrev Gc:=@List.mem_append_right
abbrev Gd:=@Nat.add_assoc
abbrev Ge:=@List.length_range
abbrev Gf:=@Nat.mod_two_eq_zero_or_one
abbrev Gg:=@Nat.mul_le_mul_right
abbrev Gh:=@List.mem_of_mem_drop
abbrev Gi:=@List.filter_cons
abbrev Gj:=@Nat.zero_mul
abbrev Gk:=@decide_eq_false_iff_not
abbrev Gl:=@Nat.min_eq_left
abbrev Gm:=@List.mem_filter
abbrev Gn:=@Bool.or_eq_true
abbrev Gp:=@Bool.false_or
abbrev Gq:=@Array.all_eq_true_iff_forall_mem
abbrev Gs:=@List.flatMap_singleton
abbrev Gu:=@List.nodup_append
abbrev Gv:=@List.ext_getElem?
abbrev Gw:=@List.length_singleton
abbrev Gx:=@Option.getD_none
abbrev Gy:=@List.pairwise_append
abbrev Gz:=@List.take_succ_cons
abbrev GC:=@List.nodup_cons
abbrev GD:=@List.mem_map_of_mem
abbrev GE:=@List.append_nil
abbrev GF:=@Array.length_toList
abbrev GG:=@Array.toList_setIfInBounds
abbrev GH:=@Option.isSome_none
abbrev GI:=@List.length_modify
abbrev GJ:=@List.getElem?_drop
abbrev GM:=@List.filter_append
abbrev GN:=@Int.lt_or_le
abbrev GQ:=@heap_alloc_new
abbrev GR:=@of_decide_eq_true
abbrev GT:=@List.getElem?_set
abbrev GU:=@Array.any_eq_true
abbrev GX:=@Nat.one_mul
abbrev GY:=@List.any_cons
abbrev GZ:=@List.getElem_replicate
abbrev G0:=@List.find?_cons_of_pos
abbrev G1:=@results_tmp2
abbrev G3:=@Option.map_some
abbrev G4:=@List.set_append_right
abbrev G5:=@List.getElem?_toArray
abbrev G6:=@Bool.true_or
abbrev G7:=@Array.getElem?_setIfInBounds_self_of_lt
abbrev G9:=@List.getElem?_modify
abbrev Ha:=@List.drop_set_of_lt
abbrev Hb:=@of_decide_eq_false
abbrev Hc:=@List.pairwise_cons
abbrev Hd:=@List.mem_replicate
abbrev He:=@List.mem_filterMap
abbrev Hf:=@List.map_take
abbrev Hg:=@Int.tmod_lt_of_pos
theorem HI{G:Prop} (h:G:=by
 intro vs Q C J K H;obtain⟨⟨ta,o,V,E⟩,⟨tb,ap,ak,d⟩, -⟩:=J
 try simp only[b_,o,ap]at H |-
 obtain⟨bA,bE,bF,bW,bX,bY,bZ⟩:=ta;obtain⟨eb,ed,ef,eg,eh,ei,ej⟩:=tb;simp only[ET.ip]at H |-;go_simp;refine H.out _ _ (C.hG ((F_ [] _).alloc _)) ((F_ _ _).alloc _) ⟨_,[ET.mk bA bE bF bW bX bY bZ,ET.mk eb ed ef eg eh ei ej],rfl,rfl,C.r.lt,sK (ET.mk bA bE bF bW bX bY bZ) (ET.mk eb ed ef eg eh ei ej) (P_ _ _ _),?_⟩;exact I7):G:=h
theorem HY{G:Prop} (h:G:=by
 intro f vs Q hf C J K H;exact H4):G:=h
theorem H1{G:Prop} (h:G:=by
 intro vs Q C J K H;obtain⟨⟨ta,o,V,E⟩, -⟩:=J
 try simp only[b_,o]at H |-
 obtain⟨bA,bE,bF,bW,bX,bY,bZ⟩:=ta;simp only[ET.ip]at H |-;go_simp;refine H.out _ _ (C.hG ((F_ [] _).alloc _)) ((F_ _ _).alloc _) ⟨_,[ET.mk bA bE bF bW bX bY bZ],rfl,rfl,C.r.lt,nu (ET.mk bA bE bF bW bX bY bZ) (P_ _ _ _),?_⟩;exact Kq):G:=h
theorem H4{G:Prop} (h:G:=by
 obtain⟨⟨ta,o,V,E⟩, -⟩:=J
 try simp only[b_,o]at H |-
 obtain⟨bA,bE,bF,bW,bX,bY,bZ⟩:=ta;simp only[ET.ip]at H |-;go_simp;refine H.out _ _ (C.hG ((F_ [] _).alloc _)) ((F_ _ _).alloc _) ⟨_,[ET.mk bA bE bF bW bX bY bZ],rfl,rfl,C.hz,nu (ET.mk bA bE bF bW bX bY bZ) (P_ _ _ _),?_⟩;exact Kq):G:=h
theorem Ie{G:Prop} (h:G:=by
 intro f vs Q hf C J K H;obtain⟨⟨ta,o,V,E⟩, -⟩:=J
 try simp only[b_,o]at H |-
 obtain⟨s1,b0,cv,dm,b7,bR,ck,dn,cF,bo,sb,sc,dH,dI⟩:=ta;simp only[ST.ip]at H |-;go_simp;exact H.out _ _ (C.hG ((F_ [] _).alloc _)) ((F_ _ _).alloc _) ⟨_,ST.mk s1 b0 cv dm b7 bR ck dn cF bo sb sc dH dI,rfl,C.hz,P_ _ _ _,V.hG ((F_ [] _).alloc _),E⟩):G:=h
theorem Io{G:Prop} (h:G:=by
 obtain⟨⟨ta,o,V,E⟩,⟨tb,ap,ak,d⟩, -⟩:=J
 try simp only[b_,o,ap]at H |-
 go_simp
 go_at_call 143
 refine(ot W.heap.size 10 ta tb _ C.hz V ak).mono ?_;rintro e w1⟨A,rfl,O,hg1⟩;exact H.out _ _ (C.hG hg1) (hg1.mono s_) ⟨pR 10 A ta tb,rfl,O,.bin 0 _ _ _ _ o_ o_ (E.mono o_) (d.mono o_)⟩):G:=h
theorem Ip{G:Prop} (h:G:=by
 intro vs Q C J K H;obtain⟨o, -⟩:=J;replace o:_=_:=o
 try simp only[b_,o]at H |-
 go_simp
 go_at_call 140
 refine(kC B g m left loops fn 1 o_ _ rfl _ C.d C.m hBm).mono ?_;exact JZ):G:=h
theorem Iq{G:Prop} (h:G:=by
 refine⟨λh0=>(by rw[h0]at hr;cases hr),λq am=>?_⟩;rw[hr]at am
 rcases L_.1 am with rfl|am
 .exact Lc
 .have:q=j:=zu am
  subst this;exact Lb):G:=h
theorem Iu{G:Prop} (h:G:=by
 intro vs Q C J K H;obtain⟨⟨ta,o,V,E⟩, -⟩:=J
 try simp only[b_,o]at H |-
 refine iW k_ ?_;refine ij 229 _ _ rfl R0 r_ ta.g_ r_ 229 _ C.r rfl k_ (ST.one _) ?_;exact J3):G:=h
theorem Iz{G:Prop} (h:G:=by
 intro vs Q C J K H;obtain⟨o, -⟩:=J;replace o:_=_:=o
 try simp only[b_,o]at H |-
 exact Jf):G:=h
theorem IF{G:Prop} (h:G:=by
 obtain⟨⟨a8,o,cM,bn⟩, -⟩:=J
 try simp only[b_,o]at H |-
 go_simp
 go_at_call 144
 refine(j7 _ _).mono ?_;rintro e w1⟨rfl,hg1⟩;exact H.out _ _ (C.hG hg1) (hg1.mono s_) ⟨jy a8,rfl,kk.leaf _ _ _ _ _ _,.num _ _ o_ o_⟩):G:=h
theorem II{G:Prop} (h:G:=by
 intro vs Q C J K H;obtain⟨o, -⟩:=J;replace o:_=_:=o
 try simp only[b_,o]at H |-
 obtain⟨c6,j,bz,cK⟩:=id C;have U:=j.f_ 0;have ad:=j.f_ 1;have ar:=j.f_ 2;have aL:=j.f_ 3;exact LD):G:=h
theorem IL{G:Prop} (h:G:=by
 intro vs Q C J K H;obtain⟨⟨aX,o,bi,a6⟩,⟨rb,ap,di,cZ⟩, -⟩:=J
 try simp only[b_,o,ap]at H |-
 obtain⟨k,rfl⟩:∃k:Nat,rb=k:=⟨rb.toNat,o_⟩;go_simp;exact H.out _ _ C (F_ _ _) ⟨aX,k,rfl,o_,bi,a6⟩):G:=h
theorem IV{G:Prop} (h:G:=by
 clear J
 try simp only[b_]at H |-
 go_simp
 go_at_call 144
 refine(j7 _ _).mono ?_;rintro e w1⟨rfl,hg1⟩;exact H.out _ _ (C.hG hg1) (hg1.mono s_) ⟨jy 1,rfl,kk.leaf _ _ _ _ _ _,.num _ _ o_ o_⟩):G:=h
theorem IZ{G:Prop} (h:G:=by
 intro vs Q C J K H;obtain⟨⟨aX,E,o,bn,bi,a6⟩, -⟩:=J
 try simp only[b_,o]at H |-
 obtain⟨s,hs,bN⟩:=AW E o_;exact KX):G:=h
theorem I7{G:Prop} (h:G:=by
 intro u hu
 rcases L_.1 hu with rfl|hu
 .exact⟨V.hG ((F_ [] _).alloc _),E.mono o_⟩
 rcases L_.1 hu with rfl|hu
 .exact⟨ak.hG ((F_ [] _).alloc _),d.mono o_⟩
 cases hu):G:=h
theorem Je{G:Prop} (h:G:=by
 refine hT [] ?_;intro vs Q C J K H;clear J
 try simp only[b_]at H |-
 exact Ko):G:=h
theorem Jf{G:Prop} (h:G:=by
 go_simp
 go_at_call 19
 refine(iw B g _ _ C.d o_ o_).mono ?_;exact J9):G:=h
theorem Jk{G:Prop} (h:G:=by
 clear t0 t1 af;exact JA):G:=h
theorem Jn{G:Prop} (h:G:=by
 obtain⟨b,off,hA,hc⟩:=Sl.f_ h o_;exact⟨b,off,hA,hc (k*2+0) _ (jV Vl.E (λ_=>rfl) l k 0 hk o_),hc (k*2+1) _ (jV Vl.E (λ_=>rfl) l k 1 hk o_)⟩):G:=h
theorem Jo{G:Prop} (h:G:=by
 obtain⟨b,off,hA,hc⟩:=Sl.f_ h o_;exact⟨b,off,hA,hc (k*2+0) _ (jV Rw.E (λ_=>rfl) l k 0 hk o_),hc (k*2+1) _ (jV Rw.E (λ_=>rfl) l k 1 hk o_)⟩):G:=h
theorem Jt{G:Prop} (h:G:=by
 clear t0;exact JA):G:=h
theorem Jx{G:Prop} (h:G:=by
 unfold Oper.wp execOp;simp only[ho,resolve,invoke,builtin,Sem.run_bind,Sem.run_pure,Result.andThen_ok,F6,Fg,FN,hs,hx,N];exact h A' c' w' h2 h3 au):G:=h
theorem Jz{G:Prop} (h:G:=by
 unfold Oper.wp execOp;simp only[ho,resolve,invoke,builtin,Sem.run_bind,Sem.run_pure,Result.andThen_ok,F6,Fg,FN,hs,hx,N];exact h A' c' w' h2 h3):G:=h
theorem JA{G:Prop} (h:G:=by
 go_wp2_with fail
 go_quiet (fail)
 go_wp2;go_roundw
 case rel=>exact⟨k+1,gn,o_,by rw[H.out,bG.out];omega,F.drewN _⟩
 case measure=>exact mz):G:=h
theorem JC{G:Prop} (h:G:=by
 intro c fz h2;have h3:w.heap[g]?=some (.cells cs t (0,0)):=h;rw[h3]at h2;injection h2 with h2;injection h2 with _ h2 _;exact ao h2.symm):G:=h
theorem JE{G:Prop} (h:G:=by
 intro vs bu C;simp only[b_];obtain⟨t,aw,O,am,aZ,G⟩:=C;go_wp2;exact rr_ t.g_ aw underlying229 ⟨t,rfl,O.le o_,am,aZ,I.hK G p_⟩):G:=h
theorem JI{G:Prop} (h:G:=by
 exact⟨b,off,hA,hc (k*5+0) _ (g 0 o_),hc (k*5+1) _ (g 1 o_),hc (k*5+2) _ (g 2 o_),hc (k*5+3) _ (g 3 o_),hc (k*5+4) _ (g 4 o_)⟩):G:=h
theorem JM{G:Prop} (h:G:=by
 intro vs Q C J K H;exact Ke):G:=h
theorem JS{G:Prop} (h:G:=by
 clear t0 t1 af;exact Ka):G:=h
theorem JV{G:Prop} (h:G:=by
 clear t0 t1;exact Ka):G:=h
theorem JX{G:Prop} (h:G:=by
 obtain⟨b,off,hA,hc⟩:=Sl.row py h hk;exact⟨b,off,hA,hc 0 _ rfl,hc 1 _ rfl,hc 2 _ rfl,hc 3 _ rfl,hc 4 _ rfl⟩):G:=h
theorem JZ{G:Prop} (h:G:=by
 rintro e w1⟨t,rfl,O,am,bg,hg1⟩;exact H.out _ _ (C.step hg1 bg ag aI) (hg1.mono s_) ⟨t,rfl,O.le C.r.lt,am⟩):G:=h
theorem J2{G:Prop} (h:G:=by
 refine je [] ?_;intro f vs Q hf C J K H;exact K7):G:=h
theorem J3{G:Prop} (h:G:=by
 intro X aw G;exact H.out undef _ (λ_=>⟨ta,aw,V.ih G s_,E,C.d.ih G p_,(C.g.mono s_).trans (G.mono s_)⟩)):G:=h
theorem J5{G:Prop} (h:G:=by
 refine hT [] ?_;intro vs Q C J K H;exact K7):G:=h
theorem J6{G:Prop} (h:G:=by
 rcases h2.2 with⟨rfl,h0⟩|⟨g,lW,cur,rfl,_⟩
 .exact⟨none,0,by rw[h0]⟩
 .exact⟨_,_,rfl⟩):G:=h
theorem J9{G:Prop} (h:G:=by
 rintro e w1⟨r,rfl,h0,h1,bg,hg1⟩;exact H.out _ _ (C.step hg1 bg ag aI) (hg1.mono s_) ⟨r,rfl,h0,h1⟩):G:=h
theorem Ka{G:Prop} (h:G:=by
 go_wp2_with fail
 go_quiet (fail)
 go_wp2;go_meet;exact⟨k,rfl,hk,by rw[H.out,bG.out];omega,F.drewN _⟩):G:=h
theorem Kb{G:Prop} (h:G:=by
 obtain⟨b,off,hA,hc⟩:=Sl.row rg h hk;exact⟨b,off,hA,hc 0 _ rfl,hc 1 _ rfl,hc 2 _ rfl,hc 3 _ rfl⟩):G:=h
theorem Kc{G:Prop} (h:G:=by
 refine wpQuiet_nil ?_;intro _ A;obtain⟨M,J⟩:=A;subst J;go_wp2;go_meet;exact⟨ja a6.out.symm,M.2⟩):G:=h
theorem Ke{G:Prop} (h:G:=by
 obtain⟨o, -⟩:=J;replace o:_=_:=o
 try simp only[b_,o]at H |-
 exact LD):G:=h
theorem Ko{G:Prop} (h:G:=by
 go_simp;exact Ky):G:=h
theorem Kq{G:Prop} (h:G:=by
 intro u hu
 rcases L_.1 hu with rfl|hu
 .exact⟨V.hG ((F_ [] _).alloc _),E.mono o_⟩
 cases hu):G:=h
theorem Kt{G:Prop} (h:G:=by
 unfold GS.lg at aG |-;simp only[iU.mk.injEq]at aG |-;exact⟨aG.1,aG.2.1,trivial,aG.2.2.2⟩):G:=h
theorem Kv{G:Prop} (h:G:=by
 rcases Fd l.length with h0|h0
 .exact h0
 .obtain⟨b,off,hA,_⟩:=Sl.f_ h h0
  cases hA):G:=h
theorem Ky{G:Prop} (h:G:=by
 exact H.out _ _ (C.hG ((F_ [] _).alloc _)) ((F_ _ _).alloc _) ⟨_,rfl,C.r.lt,P_ _ _ _⟩):G:=h
theorem KG{G:Prop} (h:G:=by
 rw[Q_ he,atKey_put_other (by intro e;injection e with _ e;exact he e)];exact h3 i hi):G:=h
theorem KO{G:Prop} (h:G:=by
 obtain⟨D,⟨es,i,h1,h2⟩,h3⟩:=h;exact⟨D,⟨es,i,hb.trans h1,h2⟩,h3⟩):G:=h
theorem KW{G:Prop} (h:G:=by
 rcases EJ b w.heap.size with ag|bA
 .exact ag
 .rw[Y_ bA]at hb
  cases hb):G:=h
theorem KX{G:Prop} (h:G:=by
 have ad:=(a6.f_ E).trans bN;go_simp;exact H.out _ _ C (F_ _ _) ⟨s,hs,rfl⟩):G:=h
theorem K3{G:Prop} (h:G:=by
 have hv:=Q;unfold ic at hv;simp only[ES,Fr]at hv;exact hv.1.1.1.1.1.1.1.2):G:=h
theorem K6{G:Prop} (h:G:=by
 go_roundw
 case rel=>exact⟨j+1,o_,gn,A.trans Z⟩
 case measure=>exact mz):G:=h
theorem K7{G:Prop} (h:G:=by
 clear J
 try simp only[b_]at H |-
 exact LD):G:=h
theorem K9{G:Prop} (h:G:=by
 intro y hy
 rcases L_.1 hy with rfl|hy
 .omega
 .exact eT y (jJ.1 hy)):G:=h
theorem Lb{G:Prop} (h:G:=by
 exact wpOp_step (jn h2) (λe H=>hj e (λa w C aT=>H a w ⟨C,aT⟩))):G:=h
theorem Lc{G:Prop} (h:G:=by
 exact wpOp_step (jn h1) (λe H=>hi e (λa w C aT=>H a w ⟨C,aT⟩))):G:=h
theorem Lg{G:Prop} (h:G:=by
 unfold ic nS at hv;simp only[ES]at hv;exact EV.mp hv.1.1.2 k (zu hk)):G:=h
theorem Lh{G:Prop} (h:G:=by
 rintro e w1⟨rfl,hg1⟩;exact H.out _ _ (C.hG hg1) (hg1.mono s_) rfl):G:=h
theorem Lk{G:Prop} (h:G:=by
 apply F7
 .simp
 .intro i h1 h2;simp only[FR,Fy];split<;>rfl):G:=h
theorem Lp{G:Prop} (h:G:=by
 go_wp2;go_ret;exact⟨j9 (by rw[aI.out,my _ _ _ _ o_]),F⟩):G:=h
theorem Lv{G:Prop} (h:G:=by
 go_wp2;rw[ak.out];exact⟨rfl,hg.trans F⟩):G:=h
theorem Lw{G:Prop} (h:G:=by
 go_wp2;go_meet;exact⟨ja a6.out.symm,rfl⟩):G:=h
theorem LD{G:Prop} (h:G:=by
 go_simp;exact H.out _ _ C (F_ _ _) rfl):G:=h
theorem LJ{G:Prop} (h:G:=by
 unfold GS.g_;rw[J_];exact this):G:=h
theorem LK{G:Prop} (h:G:=by
 rw[Y_ h]at this
 cases this):G:=h
theorem LL{G:Prop} (h:G:=by
 rw[e]at h;simp at h;omega):G:=h
theorem LM{G:Prop} (h:G:=by
 simp only[lI,ST.ip,aD]
 rfl):G:=h
theorem LN{G:Prop} (h:G:=by
 exact⟨rfl,rfl⟩):G:=h
theorem LO{G:Prop} (h:G:=by
 simpa using this):G:=h
end Go.Proofs.YtenbhdilndfaeaaGreat
