import Derived.Test.YtenbhdilndfaeaaGreatProg
import Derived.Below
import Derived.ChangeOld
import Derived.Deep.Cut
import Derived.Deep.QuietTactic
import Derived.Deep.SlicePairs
import Derived.Laws.Rows
import Derived.Lib.SmallJoins
import Derived.OpenShut
import Derived.ProofKit
import Derived.ShutString
import Derived.WalkKit
import Derived.BigQuiet
import Derived.Deep.AppendLies
import Derived.Deep.Draws
import Derived.Deep.MidRow
import Derived.Deep.RegionLaw
import Derived.Deep.RegionLawGrows
import Derived.Lib.Hide
import Derived.StillTailTactics
import Derived.WalkLawsBesides
import Derived.WalkSpells
set_option maxRecDepth 100000
set_option linter.all false
set_option maxHeartbeats 0
namespace Go.Proofs.YtenbhdilndfaeaaGreat
open Go.RowKit
open Go.RowKit Go.Proofs.Tryz
abbrev QZ:=List Oper
abbrev QY:=List Nat
abbrev QX:=List Value
abbrev QU:=List ByteArray
abbrev QS:=List Int
def k_{G:Prop}(h:G:=by kernel_rfl):G:=h
def X{G:Prop}(h:G:=by omega):G:=h
def I{G:Prop}(h:G:=by decide):G:=h
def s_{G:Prop}(h:G:=by simp):G:=h
def p_{G:Prop}(h:G:=by simp;omega):G:=h
def r_{G:Prop}(h:G:=by rfl):G:=h
abbrev Y(x:Int):Value:=.int .i64 x
abbrev n_:Value:=.slice none 0 0
abbrev e_:Value:=.string {data:=#[]}
abbrev Z(x k:Nat):Addr:=⟨x,k,none⟩
abbrev j_(x:Nat):Option Addr:=some ⟨x,0,none⟩
abbrev q_(x:Nat):Value:=.pointer<|some ⟨x,0,none⟩
def O{p:Prop}(h:p):Hid p:=h
def rr_{P:Program}{fn:Func}{R:Ending->World->Prop}{a:Act}{w:World}{p:Tmp}{ty:TypeId}{g:Nat}{t:TypeId}{fr:Nat × Nat}{d:TypeDesc}(cs:Array Value)(hg:w.heap[g]?=some (.cells cs t fr))(hu:P.underlying ty=some d)(hR:R (.returned<|.agg cs) w)
 (h:fn.results=#[.cell p ty]:=by rfl) (hp:a.tmps.getD p undef=q_ g:=by rfl) (hd:(match d with|.struct _|.array _ _=>true|_=>false)=true:=by rfl) (hi:(P.info? ty).map (·.size)=some cs.size:=by kernel_rfl) (hf:a.defers=[]:=by rfl):bodyPost P fn R .ret a w:=bodyPost_ret (v:=.agg cs) (results_cell_row h _ _ _ _ _ _ _ hp hg hu hd hi) hf hR
def rn_{P:Program}{fn:Func}{R:Ending->World->Prop}{a:Act}{w:World}(hR:R (.returned<|.tuple #[]) w)(h:fn.results=#[]:=by rfl)(hf:a.defers=[]:=by rfl):bodyPost P fn R .ret a w:=bodyPost_ret (v:=.tuple #[]) (results_none h _ _ _) hf hR
def en_{P:Program}{fn:Func}{R:Ending->World->Prop}{a:Act}{w:World}(hR:R (.returned<|.tuple #[]) w)(h:fn.results=#[]:=by rfl)(hf:a.defers=[]:=by rfl):bodyPost P fn R .normal a w:=bodyPost_end (v:=.tuple #[]) (results_none h _ _ _) hf hR
def a_:(∀ (a:Act) (i:Tmp) (v:Value),a.put (some i) v=⟨a.tmps.setIfInBounds i v,a.defers⟩) /\ (∀ (a:Act) (v:Value),a.put none v=a) /\
 (∀ {b:Type} (l:List b) (i:Nat) (a:b),l.toArray.setIfInBounds i a=(l.set i a).toArray) /\ (∀ {b:Type} (x y:b) (l:List b),(x::l).set 0 y=y::l) /\ (∀ {b:Type} (x y:b) (l:List b) (i:Nat),(x::l).set (i+1) y=x::l.set i y):=by
 refine⟨λ_ _ _=>rfl,λ_ _=>rfl,λ_ _ _=>by simp,λ_ _ _=>rfl,λ_ _ _ _=>rfl⟩
def sd_{G:Prop}(h:G:=by first|(simp;done)|(simp;omega)|fail):G:=h
def gs_{G:Prop}(h:G:=by first|(go_simp;done)|(go_simp;with_reducible rfl)|fail):G:=h
def nm_{c:Type}(a:c):∃b,b=a:=⟨a,rfl⟩
def mn_{c:Type}(a:c):∃b,a=b:=⟨a,rfl⟩
abbrev S_:Array Value:=#[Y 0,e_,e_,Y 0,Y 0,n_,n_,n_]
abbrev E_:Array Value:=#[Y 0,Y 0,e_,Y 0,n_]
abbrev OA:=Option Addr
def ov{A G:Prop}(x:A)(h:A->G:=by intro q;omega):G:=h x
def gn{G:Prop}(h:G:=by go_num):G:=h
def mz{G:Prop}(h:G:=by simp[intOf];omega):G:=h
def zu{A B:Prop}(x:A)(h:A->B:=by intro q;simpa using q):B:=h x
open Classical in
open Go.RowKit Go.Maps
open Go.RowKit Go.Proofs.Tryz
abbrev H_:=@Nat.le_trans
abbrev I_:=@Nat.le_refl
abbrev J_:=@List.mem_singleton
abbrev K_:=@if_neg
abbrev L_:=@if_pos
abbrev M_:=@List.length_append
abbrev N_:=@List.mem_cons
abbrev O_:=@List.getElem?_eq_getElem
abbrev P_:=@List.getElem_mem
abbrev Q_:=@Array.getElem?_setIfInBounds
abbrev R_:=@Nat.zero_le
abbrev U_:=@Nat.zero_add
abbrev W_:=@List.drop_eq_getElem_cons
abbrev X_:=@List.mem_append
abbrev Y_:=@List.take_succ_eq_append_getElem
abbrev Z_:=@List.mem_cons_of_mem
abbrev GG:=@congrArg
abbrev GH:=@Array.getElem?_eq_none
abbrev GI:=@List.length_cons
abbrev GJ:=@List.mem_map
abbrev GM:=@Array.getD_eq_getD_getElem?
abbrev GN:=@List.map_append
abbrev GQ:=@Array.getElem?_eq_getElem
abbrev GR:=@absurd
abbrev GT:=@List.mem_cons_self
abbrev GU:=@Nat.lt_or_ge
abbrev GX:=@List.mem_or_eq_of_mem_set
abbrev GY:=@List.take_of_length_le
abbrev GZ:=@List.mem_append_left
abbrev G0:=@List.nil_append
abbrev G1:=@List.eq_nil_of_length_eq_zero
abbrev G3:=@List.length_set
abbrev G4:=@Bool.and_eq_true
abbrev G5:=@List.mem_append_right
abbrev G6:=@List.all_eq_true
abbrev G7:=@List.getElem?_eq_none
abbrev G9:=@IntWalk.i64_in
abbrev Ha:=@bodyPost_ret
abbrev Hb:=@List.length_nil
abbrev Hc:=@List.flatMap_cons
abbrev Hd:=@List.drop_eq_nil_of_le
abbrev He:=@List.flatMap_append
abbrev Hf:=@List.length_map
abbrev Hg:=@List.getElem?_map
abbrev Hh:=@Int.toNat_natCast
abbrev Hj:=@List.length_take
abbrev Hk:=@List.mem_of_mem_take
abbrev Hl:=@Int.le_refl
abbrev Hm:=@List.length_replicate
abbrev Hn:=@decide_eq_true
abbrev Ho:=@List.mem_range
abbrev Hp:=@Array.getElem?_eq_some_iff
abbrev Hq:=@List.append_assoc
abbrev Hr:=@Nat.eq_zero_or_pos
abbrev Hs:=@List.map_cons
abbrev Ht:=@List.getElem_append_left
abbrev Hu:=@run_underlying
abbrev Hv:=@List.getElem?_take
abbrev Hw:=@List.length_filter_le
abbrev Hx:=@Nat.not_le
abbrev Hy:=@List.getElem_modify
abbrev Hz:=@List.getElem?_cons_zero
abbrev HC:=@List.getElem_append_right
abbrev HE:=@List.take_append_drop
abbrev HF:=@List.getElem_map
abbrev HH:=@decide_eq_true_eq
abbrev HJ:=@List.setIfInBounds_toArray
abbrev HK:=@Nat.lt_of_lt_of_le
abbrev HL:=@List.getElem_cons_zero
abbrev HN:=@List.getElem?_append_left
abbrev HO:=@Option.getD_some
abbrev HP:=@List.getElem_of_mem
abbrev HQ:=@Int.toNat_of_nonneg
abbrev HR:=@List.nodup_append
abbrev HS:=@Bool.eq_false_or_eq_true
abbrev HT:=@List.set_cons_succ
abbrev HU:=@List.take_length
abbrev HV:=@List.getElem?_append_right
abbrev HW:=@Array.getElem?_setIfInBounds_ne
abbrev HX:=@List.set_cons_zero
abbrev HY:=@Nat.add_mul
abbrev H0:=@List.mem_flatMap
abbrev H1:=@List.ext_getElem
abbrev H2:=@List.getElem?_cons_succ
abbrev H3:=@List.map_nil
abbrev H4:=@decide_eq_false
abbrev H5:=@List.nodup_cons
abbrev H6:=@List.mem_filter
abbrev H7:=@List.foldl_cons
abbrev H8:=@List.drop_of_length_le
abbrev Ia:=@results_cell_row
abbrev Ib:=@List.length_drop
abbrev Ic:=@IntKind.wrap_i64
abbrev Id:=@Nat.add_zero
abbrev Ie:=@List.getElem?_eq_some_iff
abbrev If:=@List.mem_of_mem_drop
abbrev Ig:=@List.foldl_append
abbrev Ih:=@Array.getElem?_replicate
abbrev Ii:=@Int.mul_le_mul_of_nonneg_right
abbrev Ij:=@Nat.le_mul_of_pos_right
abbrev Ik:=@Nat.add_assoc
abbrev Il:=@ByteArray.toList_eq
abbrev Io:=@List.map_toArray
abbrev Ip:=@List.cons_append
abbrev Iq:=@List.getElem_cons_succ
abbrev Ir:=@Option.isSome_some
abbrev It:=@List.getElem_range
abbrev Iu:=@Bool.or_eq_true
abbrev Iv:=@List.length_range
abbrev Iw:=@List.find?_append
abbrev Ix:=@Nat.mod_two_eq_zero_or_one
abbrev Iy:=@Nat.mul_le_mul_right
abbrev Iz:=@List.filter_cons
abbrev IA:=@Nat.zero_mul
abbrev IB:=@decide_eq_false_iff_not
abbrev IC:=@Option.map_some
abbrev ID:=@List.mem_replicate
abbrev IE:=@List.length_modify
abbrev IF:=@List.getElem?_drop
abbrev IG:=@Bool.false_or
abbrev IH:=@Array.all_eq_true_iff_forall_mem
abbrev II:=@List.flatMap_singleton
abbrev IJ:=@List.getElem?_set
abbrev IK:=@List.ext_getElem?
abbrev IL:=@List.nodup_nil
abbrev IM:=@List.length_singleton
abbrev IN:=@Option.getD_none
abbrev IP:=@List.pairwise_append
abbrev IQ:=@List.take_succ_cons
abbrev IR:=@List.mem_map_of_mem
abbrev IT:=@List.append_nil
abbrev IU:=@Array.length_toList
abbrev IV:=@Array.toList_setIfInBounds
abbrev IW:=@Option.isSome_none
abbrev IX:=@List.filter_append
abbrev IY:=@heap_alloc_new
abbrev IZ:=@of_decide_eq_true
abbrev I0:=@Array.any_eq_true
abbrev I1:=@Nat.one_mul
abbrev I2:=@List.any_cons
abbrev I3:=@List.getElem_replicate
abbrev I4:=@List.find?_cons_of_pos
abbrev I5:=@results_tmp2
abbrev I6:=@Nat.min_eq_left
abbrev I7:=@List.set_append_right
abbrev I8:=@List.getElem?_toArray
abbrev I9:=@Int.lt_or_le
abbrev Ja:=@Bool.true_or
abbrev Jb:=@Array.getElem?_setIfInBounds_self_of_lt
abbrev Jc:=@List.getElem?_modify
abbrev Jd:=@List.filter_sublist
abbrev Je:=@List.drop_set_of_lt
abbrev Jf:=@of_decide_eq_false
abbrev Jg:=@List.pairwise_cons
abbrev Jh:=@List.mem_filterMap
def JD{G:Prop} (h:G:=by
 intro vs Q C N3 K H;obtain⟨⟨ta,o,ap,E⟩,⟨ao,ax,V,d⟩, -⟩:=N3;try simp only[b_,o,ax]at H |-
 obtain⟨bK,bM,b0,b4,b5,b6,b7⟩:=ta;obtain⟨ea,eb,ed,ef,eg,eh,ei⟩:=ao;simp only[ET.iu]at H |-;go_simp;refine H.out _ _ (C.hF<|(G_ [] _).alloc _) ((G_ _ _).alloc _) ⟨_,[ET.mk bK bM b0 b4 b5 b6 b7,ET.mk ea eb ed ef eg eh ei],rfl,rfl,C.r.lt,tI (ET.mk bK bM b0 b4 b5 b6 b7) (ET.mk ea eb ed ef eg eh ei)<|T_ _ _ _,?_⟩;exact K1):G:=h
def JR{G:Prop} (h:G:=by
 intro f vs Q hf C N3 K H;exact JX):G:=h
def JS{G:Prop} (h:G:=by
 intro vs Q C N3 K H;obtain⟨⟨ta,o,ap,E⟩, -⟩:=N3;try simp only[b_,o]at H |-
 obtain⟨bK,bM,b0,b4,b5,b6,b7⟩:=ta;simp only[ET.iu]at H |-;go_simp;refine H.out _ _ (C.hF<|(G_ [] _).alloc _) ((G_ _ _).alloc _) ⟨_,[ET.mk bK bM b0 b4 b5 b6 b7],rfl,rfl,C.r.lt,nO (ET.mk bK bM b0 b4 b5 b6 b7)<|T_ _ _ _,?_⟩;exact Mo):G:=h
def JX{G:Prop} (h:G:=by
 obtain⟨⟨ta,o,ap,E⟩, -⟩:=N3;try simp only[b_,o]at H |-
 obtain⟨bK,bM,b0,b4,b5,b6,b7⟩:=ta;simp only[ET.iu]at H |-;go_simp;refine H.out _ _ (C.hF<|(G_ [] _).alloc _) ((G_ _ _).alloc _) ⟨_,[ET.mk bK bM b0 b4 b5 b6 b7],rfl,rfl,C.hz,nO (ET.mk bK bM b0 b4 b5 b6 b7)<|T_ _ _ _,?_⟩;exact Mo):G:=h
def J6{G:Prop} (h:G:=by
 intro f vs Q hf C N3 K H;obtain⟨⟨ta,o,ap,E⟩, -⟩:=N3;try simp only[b_,o]at H |-
 obtain⟨s1,bT,cj,c7,b8,bU,cn,dn,cH,bu,sb,sc,dJ,dK⟩:=ta;simp only[ST.iu]at H |-;go_simp;exact H.out _ _ (C.hF<|(G_ [] _).alloc _) ((G_ _ _).alloc _) ⟨_,ST.mk s1 bT cj c7 b8 bU cn dn cH bu sb sc dJ dK,rfl,C.hz,T_ _ _ _,ap.hF<|(G_ [] _).alloc _,E⟩):G:=h
def Kg{G:Prop} (h:G:=by
 obtain⟨⟨ta,o,ap,E⟩,⟨ao,ax,V,d⟩, -⟩:=N3;try simp only[b_,o,ax]at H |-
 go_simp;go_at_call 143;refine(oR W.heap.size 10 ta ao C.hz ap V).mono ?_;rintro e w1⟨A,rfl,N1,hg1⟩;exact H.out _ _ (C.hF hg1) (hg1.mono s_) ⟨qw 10 A ta ao,rfl,N1,.bin 0 _ _ _ _ X X (E.mono X)<|d.mono X⟩):G:=h
def Ki{G:Prop} (h:G:=by
 intro vs Q C N3 K H;obtain⟨o, -⟩:=N3;replace o:_=_:=o;try simp only[b_,o]at H |-
 go_simp;go_at_call 140;refine(kP B g m left loops fn 1 X _ rfl _ C.d C.m hBm).mono ?_;exact L2):G:=h
def Kj{G:Prop} (h:G:=by
 refine⟨λh0=>(by rw[h0]at hr;cases hr),λq aj=>?_⟩;rw[hr]at aj;rcases N_.1 aj with rfl|aj
 exact wpOp_step (jP h1) λe H=>hi e λa w C aW=>H a w ⟨C,aW⟩;have:q=j:=zu aj;subst this;exact wpOp_step (jP h2) λe H=>hj e λa w C aW=>H a w ⟨C,aW⟩):G:=h
def Km{G:Prop} (h:G:=by
 intro vs Q C N3 K H;obtain⟨⟨ta,o,ap,E⟩, -⟩:=N3;try simp only[b_,o]at H |-
 refine i5 k_ ?_;refine h9 229 rfl R0 r_ ta.g_ r_ 229 C.r rfl k_ (ST.one _) ?_;exact L4):G:=h
def Ks{G:Prop} (h:G:=by
 intro vs Q C N3 K H;obtain⟨o, -⟩:=N3;replace o:_=_:=o;try simp only[b_,o]at H |-
 exact K8):G:=h
def Ky{G:Prop} (h:G:=by
 obtain⟨⟨aP,o,cN,aY⟩, -⟩:=N3;try simp only[b_,o]at H |-
 go_simp;go_at_call 144;refine(ki _).mono ?_;rintro e w1⟨rfl,hg1⟩;exact H.out _ _ (C.hF hg1) (hg1.mono s_) ⟨jF aP,rfl,kB.leaf _ _ _ _ _ _,.num _ _ X X⟩):G:=h
def KB{G:Prop} (h:G:=by
 intro vs Q C N3 K H;obtain⟨o, -⟩:=N3;replace o:_=_:=o;try simp only[b_,o]at H |-
 obtain⟨c9,a,be,cQ⟩:=id C;have U:=a.f_ 0;have af:=a.f_ 1;have ay:=a.f_ 2;have aS:=a.f_ 3;exact NJ):G:=h
def KE{G:Prop} (h:G:=by
 intro vs Q C N3 K H;obtain⟨⟨aX,o,bt,bn⟩,⟨rb,ax,dj,c6⟩, -⟩:=N3;try simp only[b_,o,ax]at H |-
 obtain⟨k,rfl⟩:∃k:Nat,rb=k:=⟨rb.toNat,X⟩;go_simp;exact H.out _ _ C (G_ _ _) ⟨aX,k,rfl,X,bt,bn⟩):G:=h
def KO{G:Prop} (h:G:=by
 clear N3;try simp only[b_]at H |-
 go_simp;go_at_call 144;refine(ki _).mono ?_;rintro e w1⟨rfl,hg1⟩;exact H.out _ _ (C.hF hg1) (hg1.mono s_) ⟨jF 1,rfl,kB.leaf _ _ _ _ _ _,.num _ _ X X⟩):G:=h
def KQ{G:Prop} (h:G:=by
 intro vs Q C N3 K H;obtain⟨⟨aX,E,o,aY,bt,bn⟩, -⟩:=N3;try simp only[b_,o]at H |-
 obtain⟨s,hs,bj⟩:=Cx E X;exact M4):G:=h
def KW{G:Prop} (h:G:=by
 unfold jm;split
 .exact NN
 split
 .exact NN
 split;exact NN;exact NN):G:=h
def K1{G:Prop} (h:G:=by
 intro u hu;rcases N_.1 hu with rfl|hu
 .exact⟨ap.hF<|(G_ [] _).alloc _,E.mono X⟩
 rcases N_.1 hu with rfl|hu
 .exact⟨V.hF<|(G_ [] _).alloc _,d.mono X⟩
 cases hu):G:=h
def K6{G:Prop} (h:G:=by
 refine hU [] ?_;intro vs Q C N3 K H;clear N3;try simp only[b_]at H |-
 exact Mp):G:=h
def K8{G:Prop} (h:G:=by
 go_simp;go_at_call 19;refine(iD B g _ C.d X X).mono ?_;exact Me):G:=h
def Le{G:Prop} (h:G:=by
 clear t0 t1 ad;exact Lx):G:=h
def Li{G:Prop} (h:G:=by
 obtain⟨b,off,hA,hc⟩:=Sl.f_ h X;exact⟨b,off,hA,hc (k*2+0) _<|j7 Vl.E (λ_=>rfl) l k 0 hk X,hc (k*2+1) _<|j7 Vl.E (λ_=>rfl) l k 1 hk X⟩):G:=h
def Lj{G:Prop} (h:G:=by
 obtain⟨b,off,hA,hc⟩:=Sl.f_ h X;exact⟨b,off,hA,hc (k*2+0) _<|j7 Rw.E (λ_=>rfl) l k 0 hk X,hc (k*2+1) _<|j7 Rw.E (λ_=>rfl) l k 1 hk X⟩):G:=h
def Lp{G:Prop} (h:G:=by
 clear t0;exact Lx):G:=h
def Lu{G:Prop} (h:G:=by
 unfold Oper.wp execOp;simp only[ho,resolve,invoke,builtin,Sem.run_bind,Sem.run_pure,Result.andThen_ok,Io,Hs,H3,hs,hx,N];exact h A' c' w' h2 h3 ar):G:=h
def Lw{G:Prop} (h:G:=by
 unfold Oper.wp execOp;simp only[ho,resolve,invoke,builtin,Sem.run_bind,Sem.run_pure,Result.andThen_ok,Io,Hs,H3,hs,hx,N];exact h A' c' w' h2 h3):G:=h
def Lx{G:Prop} (h:G:=by
 go_wp2_with fail;go_quiet (fail);go_wp2;go_roundw;exact⟨k+1,gn,X,by rw[K.out,ao.out];omega,F.drewN _⟩;exact mz):G:=h
def Lz{G:Prop} (h:G:=by
 intro c fz h2;have h3:w.heap[g]?=some (.cells cs t (0,0)):=h;rw[h3]at h2;injection h2 with h2;injection h2 with _ h2 _;exact aq h2.symm):G:=h
def LB{G:Prop} (h:G:=by
 intro vs a2 C;simp only[b_];obtain⟨t,az,N1,aj,br,G⟩:=C;go_wp2;exact rr_ t.g_ az underlying229 ⟨t,rfl,N1.le X,aj,br,N2.hJ G p_⟩):G:=h
def LG{G:Prop} (h:G:=by
 exact⟨b,off,hA,hc (k*5+0) _<|g 0 X,hc (k*5+1) _<|g 1 X,hc (k*5+2) _<|g 2 X,hc (k*5+3) _<|g 3 X,hc (k*5+4) _<|g 4 X⟩):G:=h
def LL{G:Prop} (h:G:=by
 intro vs Q C N3 K H;exact Mc):G:=h
def LQ{G:Prop} (h:G:=by
 clear t0 t1 ad;exact L9):G:=h
def LT{G:Prop} (h:G:=by
 clear t0 t1;exact L9):G:=h
def LX{G:Prop} (h:G:=by
 obtain⟨b,off,hA,hc⟩:=Sl.row p8 h hk;exact⟨b,off,hA,hc 0 _ rfl,hc 1 _ rfl,hc 2 _ rfl,hc 3 _ rfl,hc 4 _ rfl⟩):G:=h
def L2{G:Prop} (h:G:=by
 rintro e w1⟨t,rfl,N1,aj,bg,hg1⟩;exact H.out _ _ (C.step hg1 bg ag z) (hg1.mono s_) ⟨t,rfl,N1.le C.r.lt,aj⟩):G:=h
def L3{G:Prop} (h:G:=by
 refine jp [] ?_;intro f vs Q hf C N3 K H;exact Nd):G:=h
def L4{G:Prop} (h:G:=by
 intro N0 az G;exact H.out undef _ λ_=>⟨ta,az,ap.ir G s_,E,C.d.ir G p_,(C.g.mono s_).trans<|G.mono s_⟩):G:=h
def L6{G:Prop} (h:G:=by
 refine hU [] ?_;intro vs Q C N3 K H;exact Nd):G:=h
def L7{G:Prop} (h:G:=by
 rcases h2.2 with⟨rfl,h0⟩|⟨g,l6,cur,rfl,_⟩
 exact⟨none,0,by rw[h0]⟩;exact⟨_,_,rfl⟩):G:=h
def L9{G:Prop} (h:G:=by
 go_wp2_with fail;go_quiet (fail);go_wp2;go_meet;exact⟨k,rfl,hk,by rw[K.out,ao.out];omega,F.drewN _⟩):G:=h
def Ma{G:Prop} (h:G:=by
 obtain⟨b,off,hA,hc⟩:=Sl.row sa h hk;exact⟨b,off,hA,hc 0 _ rfl,hc 1 _ rfl,hc 2 _ rfl,hc 3 _ rfl⟩):G:=h
def Mb{G:Prop} (h:G:=by
 refine wpQuiet_nil ?_;intro _ A;obtain⟨n,c⟩:=A;subst c;go_wp2;go_meet;exact⟨jk a8.out.symm,n.2⟩):G:=h
def Mc{G:Prop} (h:G:=by
 obtain⟨o, -⟩:=N3;replace o:_=_:=o;try simp only[b_,o]at H |-
 exact NJ):G:=h
def Me{G:Prop} (h:G:=by
 rintro e w1⟨r,rfl,h0,h1,bg,hg1⟩;exact H.out _ _ (C.step hg1 bg ag z) (hg1.mono s_) ⟨r,rfl,h0,h1⟩):G:=h
def Mo{G:Prop} (h:G:=by
 intro u hu;rcases N_.1 hu with rfl|hu
 .exact⟨ap.hF<|(G_ [] _).alloc _,E.mono X⟩
 cases hu):G:=h
def Mp{G:Prop} (h:G:=by
 go_simp;exact MC):G:=h
def Ms{G:Prop} (h:G:=by
 unfold GS.lg at av |-;simp only[i3.mk.injEq]at av |-;exact⟨av.1,av.2.1,trivial,av.2.2.2⟩):G:=h
def Mw{G:Prop} (h:G:=by
 rcases Hr l.length with h0|h0
 exact h0;obtain⟨b,off,hA,_⟩:=Sl.f_ h h0;cases hA):G:=h
def MC{G:Prop} (h:G:=by
 exact H.out _ _ (C.hF<|(G_ [] _).alloc _) ((G_ _ _).alloc _) ⟨_,rfl,C.r.lt,T_ _ _ _⟩):G:=h
def MH{G:Prop} (h:G:=by
 rcases N_.1 hv with e|hv
 rw[e];exact GV.num _;rw[J_.1 hv];exact GV.default):G:=h
def MJ{G:Prop} (h:G:=by
 rw[K_ he,atKey_put_other<|by intro e;injection e with _ e;exact he e];exact h3 i hi):G:=h
def MV{G:Prop} (h:G:=by
 obtain⟨D,⟨es,a,h1,h2⟩,h3⟩:=h;exact⟨D,⟨es,a,hb.trans h1,h2⟩,h3⟩):G:=h
def M1{G:Prop} (h:G:=by
 rcases GU b w.heap.size with ag|bI
 exact ag;rw[GH bI]at hb;cases hb):G:=h
def M4{G:Prop} (h:G:=by
 have af:=(bn.f_ E).trans bj;go_simp;exact H.out _ _ C (G_ _ _) ⟨s,hs,rfl⟩):G:=h
def M9{G:Prop} (h:G:=by
 have hv:=ar;unfold ih at hv;simp only[G4,HH]at hv;exact hv.1.1.1.1.1.1.1.2):G:=h
def Nc{G:Prop} (h:G:=by
 go_roundw;exact⟨j+1,X,gn,A.trans NZ⟩;exact mz):G:=h
def Nd{G:Prop} (h:G:=by
 clear N3;try simp only[b_]at H |-
 exact NJ):G:=h
def Ng{G:Prop} (h:G:=by
 intro y hy;rcases N_.1 hy with rfl|hy
 omega;exact eU y<|jQ.1 hy):G:=h
def Nj{G:Prop} (h:G:=by
 unfold ih nF at hv;simp only[G4]at hv;exact G6.mp hv.1.1.2 k<|zu hk):G:=h
def Nl{G:Prop} (h:G:=by
 rintro e w1⟨rfl,hg1⟩;exact H.out _ _ (C.hF hg1) (hg1.mono s_) rfl):G:=h
def Np{G:Prop} (h:G:=by
 apply H1;simp;intro i h1 h2;simp only[HF,Hy];split<;>rfl):G:=h
def Nu{G:Prop} (h:G:=by
 go_wp2;go_ret;exact⟨kD (by rw[HI.out,mP _ _ _ _ X]),F⟩):G:=h
def NA{G:Prop} (h:G:=by
 go_wp2;go_meet;exact⟨jk a8.out.symm,rfl⟩):G:=h
def NB{G:Prop} (h:G:=by
 go_wp2;rw[ax.out];exact⟨rfl,hg.trans F⟩):G:=h
def NE{G:Prop} (h:G:=by
 unfold hQ;split;rfl;split<;>rfl):G:=h
def NJ{G:Prop} (h:G:=by
 go_simp;exact H.out _ _ C (G_ _ _) rfl):G:=h
def NK{G:Prop} (h:G:=by
 go_wp2;rw[ax.out];exact⟨rfl,hg⟩):G:=h
def NM{G:Prop} (h:G:=by
 rw[(ID.1 hv).2];exact GV.default):G:=h
def NN{G:Prop} (h:G:=by
 exact z _ rfl rfl rfl rfl rfl rfl):G:=h
def NQ{G:Prop} (h:G:=by
 unfold GS.g_;rw[M_];exact this):G:=h
def NR{G:Prop} (h:G:=by
 rw[GH h]at this;cases this):G:=h
def NS{G:Prop} (h:G:=by
 rw[e]at h;simp at h;omega):G:=h
def NT{G:Prop} (h:G:=by
 simp only[lW,ST.iu,aH];rfl):G:=h
def NV{G:Prop} (h:G:=by
 exact⟨rfl,rfl⟩):G:=h
def NW{G:Prop} (h:G:=by
 simpa using this):G:=h
variable{base k s:Nat}{o:Oper}{d:QY}{v:Value}{α:Type}{f ty:TypeId}{K:Act->World->Prop}{Q:Exit->Act->World->Prop}{ops:Array Oper}{E:Prop}(vs:Array Value)
def JB{G:Prop} (h:G:=by
 by_cases hm:m=0;subst hm;have hn:=G1<|zu hr.1;subst hn;exact⟨B,az,w,by simpa using mB w base t ty e i size ht hi _ n xs am A c,by simpa using am,App.i6 am<|World.grownBy.refl w _⟩;obtain⟨d,rfl,j⟩:=hr.nX X;have l:n+m<=maxLen:=by
  have:n+m<=(n+m)*bytes:=Ij _ D;simp only[maxLen];omega
 obtain⟨v',w',N,h2,h3,_⟩:=run_append_own (P:=P) w base t ty e i z size bytes ht hi hz q p C ak _ n xs am d m c news hr.1 j h1 l y aE;have hf:∃A' c',v'=.slice A' (n+m) c':=L7;obtain⟨A',c',rfl⟩:=hf;exact⟨A',c',w',N,h2,App.i6 am h3⟩):G:=h
def kD{k:IntKind}{a b:Int}(h:a=b):Ending.returned (.int k a)=Ending.returned (.int k b):=by rw[h]
def oJ{A:OA}{n n' c:Nat}(h:n=n'):Ending.returned (.slice A n c)=Ending.returned (.slice A n' c):=by rw[h]
def iJ{a b:Bool}(h:a=b):Ending.returned (.bool a)=Ending.returned (.bool b):=by rw[h]
def oV(b o n:Nat):((Z b o):Addr).add n=(Z b<|o+n):=by unfold Addr.add;split<;>simp_all
structure J(M:QY)(a w:World):Prop where
 os:w.os=a.os
 tape:w.tape=a.tape
 output:w.output=a.output
 size:a.heap.size<=w.heap.size
 block:∀k,k<a.heap.size->k∉M->w.heap[k]?=a.heap[k]?
section
variable{M:QY}{a b w w':World}
def G_(M:QY)(w:World):J M w w:=⟨rfl,rfl,rfl,I_ _,λ_ _ _=>rfl⟩
def J.trans(h:J M a b)(k:J M b w):J M a w:=
 ⟨k.os.trans h.os,k.tape.trans h.tape,k.output.trans h.output,H_ h.size k.size,λj c i=>(k.block j (HK c h.size) i).trans<|h.block j c i⟩
def J.mono(h:J M a w)(j:∀x∈M,x∈d):J d a w:=⟨h.os,h.tape,h.output,h.size,λc i l=>h.block c i λm=>l<|j c m⟩
def J.of_nil(h:J [] a w)(M:QY):J M a w:=h.mono s_
def J.hJ(h:J M a b)(k:J d b w)(l:∀x∈d,x∈M\/a.heap.size<=x):J M a w:=
 ⟨k.os.trans h.os,k.tape.trans h.tape,k.output.trans h.output,H_ h.size k.size,λc i j=>
   (k.block c (HK i h.size) λm=>by rcases l c m with e|e;exact j e;omega).trans (h.block c i j)⟩
def J.drew(h:J M a w):J M a w.drew:=⟨h.os,h.tape,h.output,h.size,h.block⟩
def J.drewN(h:J M a w)(n:Nat):J M a (w.drewN n):=⟨h.os,h.tape,h.output,h.size,h.block⟩
def J.alloc(h:J M a w)(o:Obj):J M a (w.alloc o):=
 ⟨h.os,h.tape,h.output,by have:=h.size;simp;omega,λi c j=>(Below.heap_alloc w o i<|HK c h.size).trans<|h.block i c j⟩
def J.setCell(h:J M a w){p:Addr}(l:p.block∈M\/a.heap.size<=p.block)(u:Value):J M a (w.setCell p u):=
 ⟨h.os,h.tape,h.output,by have:=h.size;simpa[World.setCell]using this,λi j c=>
   (Below.heap_setCell w p u i λe=>by subst e;rcases l with e|e;exact c e;omega).trans (h.block i j c)⟩
def J.wD(h:J [] a w):Below a.heap.size a w:=⟨h.os,h.tape,h.output,h.size,λi c=>h.block i c s_⟩
def J.grown(h:J M a w){row:Option Nat}(c:w.grownBy w' row)(p:∀k,row=some k->k∈M\/a.heap.size<=k):J M a w':=
 ⟨c.os.trans h.os,c.tape.trans h.tape,c.output.trans h.output,H_ h.size c.size,λi j l=>
   (c.block i (HK j h.size) λe=>by rcases p i e.symm with m|m;exact l m;omega).trans (h.block i j l)⟩
def J.wC{g:Nat}(h:J [g] a w):a.grownBy w (some g):=⟨h.os,h.tape,h.output,h.size,λj c i=>h.block j c<|by simpa using λe=>i<|by rw[e]⟩
def J.zL(h:J [] a w)(row:Option Nat):a.grownBy w row:=⟨h.os,h.tape,h.output,h.size,λi c _=>h.block i c s_⟩
def J.lt(h:J M a w){g:Nat}(c:g<a.heap.size):g<w.heap.size:=HK c h.size
end
def zm{w:World}{p:Addr}(h:w.cell? p=some v):p.block<w.heap.size:=World.block_lt_of_cell? w p h
def J.f_{M:QY}{a w:World}(h:J M a w){p:Addr}(hc:a.cell? p=some v)(c:p.block∉M):w.cell? p=some v:=
 (World.cell?_of_block<|h.block p.block (zm hc) c).trans hc
def jJ{w:World}{p:Addr}(hc:w.cell? p=some v)(o:Obj):(w.alloc o).cell? p=some v:=((G_ [] w).alloc o).f_ hc s_
def Bk(w:World)(g:Nat)(t:TypeId)(cs:Array Value):Prop:=w.heap[g]?=some (.cells cs t (0,0))
section
variable{M:QY}{a w w':World}{g:Nat}{t:TypeId}{cs:Array Value}
def Bk.lt(h:Bk w g t cs):g<w.heap.size:=by
 rcases GU g w.heap.size with c|i
 exact c;unfold Bk at h;rw[GH i]at h;cases h
def Bk.f_(h:Bk w g t cs)(i:Nat):w.cell? (Z g i)=cs[i]?:=cell_of_row w g i cs t (0,0) h
def Bk.iN{x y:Value}(h:Bk w g t #[x,y]):w.cell? (Z g 0)=some x/\w.cell? (Z g 1)=some y:=⟨h.f_ 0,h.f_ 1⟩
def Bk.nW{x y z:Value}(h:Bk w g t #[x,y,z]):w.cell? (Z g 0)=some x/\w.cell? (Z g 1)=some y/\w.cell? (Z g 2)=some z:=⟨h.f_ 0,h.f_ 1,h.f_ 2⟩
def Bk.c5{x y z u:Value}(h:Bk w g t #[x,y,z,u,v]):w.cell? (Z g 0)=some x/\w.cell? (Z g 1)=some y/\w.cell? (Z g 2)=some z/\w.cell? (Z g 3)=some u/\w.cell? (Z g 4)=some v:=⟨h.f_ 0,h.f_ 1,h.f_ 2,h.f_ 3,h.f_ 4⟩
def Bk.hG(h:Bk w g t cs)(i:Nat):w.frozen? (Z g i)=false:=by
 unfold Bk at h;simp[World.frozen?,h]
def T_(w:World)(t:TypeId)(cs:Array Value):Bk (w.alloc<|.cells cs t) w.heap.size t cs:=IY w _
def Bk.drew(h:Bk w g t cs):Bk w.drew g t cs:=h
def Bk.drewN(h:Bk w g t cs)(n:Nat):Bk (w.drewN n) g t cs:=h
def Bk.alloc(h:Bk w g t cs)(o:Obj):Bk (w.alloc o) g t cs:=(Below.heap_alloc w o g h.lt).trans h
def Bk.hW(h:Bk w g t cs)(i:Nat)(u:Value):Bk (w.setCell (Z g i) u) g t (cs.setIfInBounds i u):=by
 unfold Bk at h |-;simp[World.setCell,Array.getElem?_modify,h]
def Bk.ir(h:Bk w g t cs){p:Addr}(c:g≠p.block)(u:Value):Bk (w.setCell p u) g t cs:=(Below.heap_setCell w p u g c).trans h
def Bk.gr(h:Bk w g t cs)(c:J M w w')(i:g∉M):Bk w' g t cs:=(c.block g h.lt i).trans h
def Bk.mm{d:Nat}{t':TypeId}{c:Array Value}(h:Bk w g t cs)(i:Bk w d t' c)(j:t≠t'):g≠d:=by
 rintro rfl;unfold Bk at h i;rw[h]at i;injection i with i;injection i with _ l;exact j l
end
def Sl(w:World)(e:TypeId)(size:Nat)(A:OA)(n:Nat)(xs:QX):Prop:=
 xs.length=n*size/\(0<n->∃b off cs fz,A=some (Z b off)/\w.heap[b]?=some (.cells cs e fz)/\∀j u,xs[j]?=some u->cs[off+j]?=some u)
section
variable{M:QY}{w w':World}{e:TypeId}{size:Nat}{A:OA}{n:Nat}{xs:QX}
def HB(w:World)(e:TypeId)(size:Nat)(A:OA):Sl w e size A 0 []:=⟨by simp,λc=>GR c X⟩
def Sl.drew(h:Sl w e size A n xs):Sl w.drew e size A n xs:=h
def Sl.drewN(h:Sl w e size A n xs)(k:Nat):Sl (w.drewN k) e size A n xs:=h
def Sl.iF(h:Sl w e size A n xs)(m:∀b c,A=some (Z b c)->b<w.heap.size->w'.heap[b]?=w.heap[b]?):Sl w' e size A n xs:=
 ⟨h.1,λp=>by
   obtain⟨b,c,cs,j,i,hb,l⟩:=h.2 p;have ag:b<w.heap.size:=M1;exact⟨b,c,cs,j,i,(m b c i ag).trans hb,l⟩⟩
def Sl.hF(h:Sl w e size A n xs)(i:J [] w w'):Sl w' e size A n xs:=h.iF λb _ _ c=>i.block b c s_
def Sl.alloc(h:Sl w e size A n xs)(o:Obj):Sl (w.alloc o) e size A n xs:=h.hF<|(G_ [] w).alloc o
def Sl.iy(h:Sl w e size A n xs){g:Nat}{t:TypeId}{cs:Array Value}(c:Bk w g t cs)(i:e≠t)(u:J [g] w w'):Sl w' e size A n xs:=
 ⟨h.1,λx=>by
   obtain⟨b,z,j,l,m,hb,r⟩:=h.2 x;have p:b≠g:=by
    rintro rfl;unfold Bk at c;rw[hb]at c;injection c with c;injection c with _ y _;exact i y
   have ag:b<w.heap.size:=M1;exact⟨b,z,j,l,m,(u.block b ag<|zu p).trans hb,r⟩⟩
def Sl.f_(h:Sl w e size A n xs)(q:0<n):∃b i,A=some (Z b i)/\∀c u,xs[c]?=some u->w.cell? (Z b<|i+c)=some u:=by
 obtain⟨b,i,cs,j,l,m,p⟩:=h.2 q;exact⟨b,i,l,λc u r=>by rw[cell_of_row w b _ cs e j m];exact p c u r⟩
def Sl.nX(h:Sl w e size A n xs)(l:0<n):∃d,A=some d/\∀c u,xs[c]?=some u->w.cell? (d.add c)=some u:=by
 obtain⟨b,p,i,j⟩:=h.f_ l;exact⟨_,i,λc u m=>by rw[oV];exact j c u m⟩
def Sl.iZ{q:Nat}(h:w.ownsRow base e size (.slice A n q) n xs):Sl w e size A n xs:=by
 refine⟨h.1,λu=>?_⟩;rcases h.2 with⟨i,r⟩|⟨g,s,j,i,_,m,_,_,_,p⟩
 omega;injection i with l _ _;refine⟨g,0,j,(0,0),l,m,λx y c=>?_⟩;rw[<-p,Hv]at c;split at c
 .simpa using c
 cases c
end
def iK{α:Type}(p:α->Bool):List α->Nat->Int
 |[],_=> -1
 |x::l,k=>if p x then(k:Int) else iK p l (k+1)
def l4(p:α->Bool)(l:List α)(k c:Nat)(h:c<l.length)(i:p l[c]=true):iK p (l.drop c) k=k:=by
 rw[W_ h];simp[iK,i]
def kO(p:α->Bool)(l:List α)(k c:Nat)(h:c<l.length)(i:p l[c]=false):iK p (l.drop c) k=iK p (l.drop<|c+1) (k+1):=by
 rw[W_ h];simp[iK,i]
def mP(p:α->Bool)(l:List α)(k c:Nat)(h:l.length<=c):iK p (l.drop c) k= -1:=by
 rw[Hd h];rfl
def nI(p:α->Bool)(l:List α)(k:Nat): -1<=iK p l k/\iK p l k<(k+l.length:Nat):=by
 induction l generalizing k with
 |nil=>simp[iK];omega
 |cons h l c=>simp only[iK,GI];have:=c<|k+1;split<;>omega
def oD(p:α->Bool)(l:List α)(k:Nat):0<=iK p l k↔∃x∈l,p x=true:=by
 induction l generalizing k with
 |nil=>simp[iK]
 |cons x l c=>simp only[iK];split<;>rename_i h<;>simp[h,c]
def Sl.at_{w:World}{e:TypeId}{A:OA}{n:Nat}{xs:QX}(h:Sl w e 1 A n xs)(m:k<n):∃b c u,A=some (Z b c)/\xs[k]?=some u/\w.cell? (Z b<|c+k)=some u:=by
 obtain⟨b,c,j,l⟩:=h.f_ X;have i:k<xs.length:=ov h.1;exact⟨b,c,xs[k],j,O_ i,l k _<|O_ i⟩
def iO{w w':World}{e:TypeId}{size:Nat}{n:Nat}{xs:QX}(h:w.ownsRow base e size v n xs)(c:J [] w w'):w'.ownsRow base e size v n xs:=
 h.kept (c.zL none) (by cases v.ownBlock<;>simp)
def kX{w w':World}{e:TypeId}{size:Nat}{n:Nat}{xs:QX}{g:Nat}{t:TypeId}{cs:Array Value}(h:w.ownsRow base e size v n xs)(m:Bk w g t cs)(c:e≠t)(j:J [g] w w'):w'.ownsRow base e size v n xs:=by
 refine h.kept j.wC ?_;rcases h.2 with⟨rfl,_⟩|⟨d,q,p,rfl,_,l,_⟩
 exact .inl rfl;right;intro i;have:d=g:=by simpa[Value.ownBlock]using i
 subst this;exact(Bk.mm (t:=e) l m c) rfl
def vm(w:World)(base:Nat)(e:TypeId)(size g:Nat)(h:w.heap.size=g)(c:base<=g):(w.alloc<|.cells #[] e).ownsRow base e size (.slice (j_ g) 0 0) 0 []:=by
 subst h;exact World.ownsRow_lit w #[] 0 c (by simp[maxLen]) s_
def i4(w:World)(base:Nat)(e:TypeId)(size:Nat):w.ownsRow base e size (n_) 0 []:=World.ownsRow_nil w base e size
def oL{w:World}{d:Nat}{e:TypeId}{size:Nat}{n:Nat}{xs:QX}(h:w.ownsRow base e size v n xs)(p:d<=base):w.ownsRow d e size v n xs:=by
 refine⟨h.1,?_⟩;rcases h.2 with h|⟨g,l,c,i,m,j⟩
 exact .inl h;exact .inr ⟨g,l,c,i,X,j⟩
structure App(base:Nat)(e:TypeId)(w w':World):Prop where
 gr:∀(M:QY) (a:World),a.heap.size<=base->J M a w->J M a w'
 iF:∀(k:Nat) (o:Obj),w.heap[k]?=some o->(k<base\/∀cs fz,o≠ .cells cs e fz)->w'.heap[k]?=some o
 size:w.heap.size<=w'.heap.size
def App.i6{e:TypeId}{size:Nat}{w w':World}{n:Nat}{xs:QX}(h:w.ownsRow base e size v n xs)(m:w.grownBy w' v.ownBlock):App base e w w':=by
 refine⟨λM a q u=>u.grown m λk i=>.inr<|H_ q (h.lt k i).1,λk o c i=>?_,m.size⟩;have j:k<w.heap.size:=by
  rcases GU k w.heap.size with j|p
  exact j;rw[GH p]at c;cases c
 refine(m.block k j ?_).trans c;intro l;rcases i with i|i
 have:=(h.lt k l.symm).1;omega;rcases h.2 with⟨rfl,_⟩|⟨g,y,x,rfl,_,r,_⟩
 .simp[Value.ownBlock]at l
 have:k=g:=by simpa[Value.ownBlock]using l
 subst this;rw[r]at c;injection c with c;exact i _ _ c.symm
def App.bk{e t:TypeId}{w w':World}{g:Nat}{cs:Array Value}(h:App base e w w')(i:Bk w g t cs)(c:t≠e):Bk w' g t cs:=
 h.iF g _ i (.inr λl m j=>c<|by injection j)
def App.sl{e:TypeId}{size:Nat}{w w':World}{A:OA}{n:Nat}{xs:QX}(h:App base e w w')(c:Sl w f size A n xs)(i:f≠e):Sl w' f size A n xs:=
 ⟨c.1,λr=>by
   obtain⟨b,u,cs,j,l,m,p⟩:=c.2 r;exact⟨b,u,cs,j,l,h.iF b _ m (.inr λx y q=>i<|by injection q),p⟩⟩
def App.own{d:Nat}{e:TypeId}{size:Nat}{w w':World}{n:Nat}{xs:QX}(h:App base e w w')(c:w.ownsRow d f size v n xs)(i:f≠e):w'.ownsRow d f size v n xs:=by
 refine⟨c.1,?_⟩;rcases c.2 with u|⟨g,x,l,m,p,q,j⟩
 exact .inl u;exact .inr ⟨g,x,l,m,p,h.iF g _ q (.inr λy z r=>i<|by injection r),j⟩
section
variable{P:Program}(w:World)
def mB(base:Nat)(t ty e:TypeId)(i:TypeInfo)(size:Nat)(j:P.underlying t=some (.slice e))(h:P.info? e=some i)
 (v:Value) (n:Nat) (xs:QX) (m:w.ownsRow base e size v n xs) (A:OA) (c:Nat):(Builtin.append_ #[t,t] ty #[v,.slice A 0 c]).run P w=.ok v w:=by
 rcases m.2 with⟨rfl,rfl⟩|⟨g,q,p,rfl,_,_,l,_⟩
 cases A<;>simp[Builtin.append_,Hu j,sizeOf,typeInfo,h,Builtin.lenOf,Builtin.firstCells,loadCells,loadCellsFrom]
 cases A<;>simp[Builtin.append_,Hu j,sizeOf,typeInfo,h,Builtin.lenOf,Builtin.firstCells,l,storeCells,loadCells,loadCellsFrom]
def C8(base:Nat)(t ty e:TypeId)(i:TypeInfo)(z:Value)(size bytes:Nat)(ht:P.underlying t=some (.slice e))(hi:P.info? e=some i)(hz:i.zero=some z)
 (q:i.size=size) (p:i.bytes=bytes) (C:z.cells.size=size) (ak:0<size)
 (B:OA) (az n:Nat) (xs:QX) (am:w.ownsRow base e size (.slice B n az) n xs)
 (A:OA) (m c:Nat) (news:QX) (hr:Sl w e size A m news) (h1:∀u∈news,u.oneCell'=true)
 (y:(n+m)*bytes<=140737488355328) (D:0<bytes) (aE:base<=w.heap.size):
 ∃A' c' w',(Builtin.append_ #[t,t] ty #[.slice B n az,.slice A m c]).run P w=.ok (.slice A' (n+m) c') w'/\w'.ownsRow base e size (.slice A' (n+m) c') (n+m) (xs++news)/\App base e w w':=by
 exact JB
def A8{a:Act}(s x:Operand)(t:TypeId)(ho:o.op=.call {callee:=.builtin .append,args:=#[s,x],argTypes:=#[t,t]})(base:Nat)(e:TypeId)(i:TypeInfo)(z:Value)(size bytes:Nat)(L:P.underlying t=some (.slice e))(I:P.info? e=some i)(O:i.zero=some z)(q:i.size=size)(p:i.bytes=bytes)(C:z.cells.size=size)(F:0<size)(B:0<bytes)(l:OA)(n r:Nat)(xs:QX)(hs:a.eval s=.slice l n r)(G:w.ownsRow base e size (.slice l n r) n xs)(A:OA)(m c:Nat)(j:QX)(hx:a.eval x=.slice A m c)(J:Sl w e size A m j)(H:∀u∈j,u.oneCell'=true)(y:(n+m)*bytes<=140737488355328)(D:base<=w.heap.size)(h:∀(A':OA) (c':Nat) (w':World),w'.ownsRow base e size (.slice A' (n+m) c') (n+m) (xs++j)->App base e w w'->K (a.put o.dst<|.slice A' (n+m) c') w'):o.wp P a w K Q:=by
 obtain⟨A',c',w',N,h2,h3⟩:=C8 (P:=P) w base t o.type e i z size bytes L I O q p C F l r n xs G A m c j J H y B D;exact Lw
def xW{rest:QZ}{a:Act}(I:o.guard=none)(s x:Operand)(t:TypeId)(R:o.op=.call {callee:=.builtin .append,args:=#[s,x],argTypes:=#[t,t]})(base:Nat)(e:TypeId)(i:TypeInfo)(z:Value)(size bytes:Nat)(U:P.underlying t=some (.slice e))(O:P.info? e=some i)(W:i.zero=some z)(q:i.size=size)(p:i.bytes=bytes)(C:z.cells.size=size)(G:0<size)(B:0<bytes)(l:OA)(n r:Nat)(xs:QX)(T:a.eval s=.slice l n r)(H:w.ownsRow base e size (.slice l n r) n xs)(A:OA)(m c:Nat)(j:QX)(V:a.eval x=.slice A m c)(S:Sl w e size A m j)(J:∀u∈j,u.oneCell'=true)(y:(n+m)*bytes<=140737488355328)(F:base<=w.heap.size)(h:∀(A':OA) (c':Nat) (w':World),w'.ownsRow base e size (.slice A' (n+m) c') (n+m) (xs++j)->App base e w w'->wpList P ops Q rest (a.put o.dst<|.slice A' (n+m) c') w'):wpList P ops Q (o::rest) a w:=
 wpList_plain I λ_ D=>A8 w s x t R base e i z size bytes U O W q p C G B l n r xs T H A m c j V S J y F λA' c' w' L N=>D _ _<|h A' c' w' L N
end
section
variable{P:Program}(w:World)
end
def Sl.new(w:World)(e:TypeId)(size:Nat)(cs:Array Value)(n g:Nat)(c:w.heap.size=g)(h:cs.size=n*size):Sl (w.alloc<|.cells cs e) e size (j_ g) n cs.toList:=by
 subst c;exact⟨by simpa using h,λ_=>⟨_,_,cs,(0,0),rfl,IY w _,λj l i=>by simpa using i⟩⟩
def FO(w:World)(h:TypeId)(c:Array Value):Bk (w.alloc<|.cells c h) (w.heap.size) h c/\J [] w (w.alloc<|.cells c h):=⟨(T_ w h c),((G_ [] w).alloc _)⟩
def qU(w:World)(h:TypeId)(c:Array Value)(j:TypeId)(i:Array Value):Bk ((w.alloc<|.cells c h).alloc<|.cells i j) (w.heap.size) h c/\Bk ((w.alloc<|.cells c h).alloc<|.cells i j) (w.heap.size+1) j i/\J [] w ((w.alloc<|.cells c h).alloc<|.cells i j):=⟨((T_ w h c).alloc _),(zu<|T_ (w.alloc<|.cells c h) j i),(((G_ [] w).alloc _).alloc _)⟩
def xO(w:World)(h:TypeId)(c:Array Value)(j:TypeId)(i:Array Value)(l:TypeId)(m:Array Value):Bk (((w.alloc<|.cells c h).alloc<|.cells i j).alloc<|.cells m l) (w.heap.size) h c/\Bk (((w.alloc<|.cells c h).alloc<|.cells i j).alloc<|.cells m l) (w.heap.size+1) j i/\Bk (((w.alloc<|.cells c h).alloc<|.cells i j).alloc<|.cells m l) (w.heap.size+1+1) l m/\J [] w (((w.alloc<|.cells c h).alloc<|.cells i j).alloc<|.cells m l):=⟨(((T_ w h c).alloc _).alloc _),(zu<|(T_ (w.alloc<|.cells c h) j i).alloc _),(zu<|T_ ((w.alloc<|.cells c h).alloc<|.cells i j) l m),((((G_ [] w).alloc _).alloc _).alloc _)⟩
def DX(w:World)(h:TypeId)(c:Array Value)(j:TypeId)(i:Array Value)(l:TypeId)(m:Array Value)(r:TypeId)(p:Array Value):Bk ((((w.alloc<|.cells c h).alloc<|.cells i j).alloc<|.cells m l).alloc<|.cells p r) (w.heap.size) h c/\Bk ((((w.alloc<|.cells c h).alloc<|.cells i j).alloc<|.cells m l).alloc<|.cells p r) (w.heap.size+1) j i/\Bk ((((w.alloc<|.cells c h).alloc<|.cells i j).alloc<|.cells m l).alloc<|.cells p r) (w.heap.size+1+1) l m/\Bk ((((w.alloc<|.cells c h).alloc<|.cells i j).alloc<|.cells m l).alloc<|.cells p r) (w.heap.size+1+1+1) r p/\J [] w ((((w.alloc<|.cells c h).alloc<|.cells i j).alloc<|.cells m l).alloc<|.cells p r):=⟨((((T_ w h c).alloc _).alloc _).alloc _),(zu<|((T_ (w.alloc<|.cells c h) j i).alloc _).alloc _),(zu<|(T_ ((w.alloc<|.cells c h).alloc<|.cells i j) l m).alloc _),(zu<|T_ (((w.alloc<|.cells c h).alloc<|.cells i j).alloc<|.cells m l) r p),(((((G_ [] w).alloc _).alloc _).alloc _).alloc _)⟩
def Gh(w:World)(h:TypeId)(c:Array Value)(j:TypeId)(i:Array Value)(l:TypeId)(m:Array Value)(r:TypeId)(p:Array Value)(x:TypeId)(u:Array Value):Bk (((((w.alloc<|.cells c h).alloc<|.cells i j).alloc<|.cells m l).alloc<|.cells p r).alloc<|.cells u x) (w.heap.size) h c/\Bk (((((w.alloc<|.cells c h).alloc<|.cells i j).alloc<|.cells m l).alloc<|.cells p r).alloc<|.cells u x) (w.heap.size+1) j i/\Bk (((((w.alloc<|.cells c h).alloc<|.cells i j).alloc<|.cells m l).alloc<|.cells p r).alloc<|.cells u x) (w.heap.size+1+1) l m/\Bk (((((w.alloc<|.cells c h).alloc<|.cells i j).alloc<|.cells m l).alloc<|.cells p r).alloc<|.cells u x) (w.heap.size+1+1+1) r p/\Bk (((((w.alloc<|.cells c h).alloc<|.cells i j).alloc<|.cells m l).alloc<|.cells p r).alloc<|.cells u x) (w.heap.size+1+1+1+1) x u/\J [] w (((((w.alloc<|.cells c h).alloc<|.cells i j).alloc<|.cells m l).alloc<|.cells p r).alloc<|.cells u x):=⟨(((((T_ w h c).alloc _).alloc _).alloc _).alloc _),(zu<|(((T_ (w.alloc<|.cells c h) j i).alloc _).alloc _).alloc _),(zu<|((T_ ((w.alloc<|.cells c h).alloc<|.cells i j) l m).alloc _).alloc _),(zu<|(T_ (((w.alloc<|.cells c h).alloc<|.cells i j).alloc<|.cells m l) r p).alloc _),(zu<|T_ ((((w.alloc<|.cells c h).alloc<|.cells i j).alloc<|.cells m l).alloc<|.cells p r) x u),((((((G_ [] w).alloc _).alloc _).alloc _).alloc _).alloc _)⟩
def pK{P:Program}{w:World}{a:Act}(I:o.guard=none)(s x:Operand)(t:TypeId)(N:o.op=.call {callee:=.builtin .append,args:=#[s,x],argTypes:=#[t,t]})(base:Nat)(e:TypeId)(i:TypeInfo){z:Value}(size bytes:Nat)(S:P.underlying t=some (.slice e))(L:P.info? e=some i)(U:i.zero=some z)(q:i.size=size)(p:i.bytes=bytes)(C:z.cells.size=size)(G:0<size)(B:0<bytes)(l:OA)(n r:Nat)(xs:QX)(R:a.eval s=.slice l n r)(H:w.ownsRow base e size (.slice l n r) n xs)(A:OA)(m c:Nat){j:QX}(T:a.eval x=.slice A m c)(O:Sl w e size A m j)(J:∀u∈j,u.oneCell'=true)(y:(n+m)*bytes<=140737488355328)(D:base<=w.heap.size)(h:∀(A':OA) (c':Nat) (w':World),w'.ownsRow base e size (.slice A' (n+m) c') (n+m) (xs++j)->App base e w w'->K (a.put o.dst<|.slice A' (n+m) c') w'):
 if Region.wanted o (yielded ops a.tmps)=true then Oper.wp P o a w K Q else E:=by
 have F:Region.wanted o (yielded ops a.tmps)=true:=by simp[Region.wanted,I]
 rw[L_ F];exact A8 w s x t N base e i z size bytes S L U q p C G B l n r xs R H A m c j T O J y D h
def lv{w:World}{o:Obj}(c:w.heap[k]?=some o):k<w.heap.size:=by
 rcases GU k w.heap.size with h|i
 exact h;rw[GH i]at c;cases c
section
variable{base:Nat}{e:TypeId}{w w1 w2:World}
end
section
variable{P:Program}(w:World)
def BB(base:Nat)(t ty e:TypeId)(i:TypeInfo)(z:Value)(size bytes:Nat)(ht:P.underlying t=some (.slice e))(hi:P.info? e=some i)(hz:i.zero=some z)(q:i.size=size)(p:i.bytes=bytes)(C:z.cells.size=size)(ak:0<size)(B:OA)(az n:Nat)(xs:QX)(am:w.ownsRow base e size (.slice B n az) n xs)(A:OA)(m c:Nat)(news:QX)(hr:Sl w f size A m news)(h1:∀u∈news,u.oneCell'=true)(y:(n+m)*bytes<=140737488355328)(D:0<bytes)(aE:base<=w.heap.size):
 ∃A' c' w',(Builtin.append_ #[t,t] ty #[.slice B n az,.slice A m c]).run P w=.ok (.slice A' (n+m) c') w'/\w'.ownsRow base e size (.slice A' (n+m) c') (n+m) (xs++news)/\App base e w w':=by
 exact JB
def yX{a:Act}(s x:Operand)(t:TypeId)(ho:o.op=.call {callee:=.builtin .append,args:=#[s,x],argTypes:=#[t,t]})(base:Nat)(e:TypeId)(i:TypeInfo)(z:Value)(size bytes:Nat)(L:P.underlying t=some (.slice e))(I:P.info? e=some i)(O:i.zero=some z)(q:i.size=size)(p:i.bytes=bytes)(C:z.cells.size=size)(F:0<size)(B:0<bytes)(l:OA)(n r:Nat)(xs:QX)(hs:a.eval s=.slice l n r)(G:w.ownsRow base e size (.slice l n r) n xs)(A:OA)(m c:Nat)(j:QX)(hx:a.eval x=.slice A m c)(J:Sl w f size A m j)(H:∀u∈j,u.oneCell'=true)(y:(n+m)*bytes<=140737488355328)(D:base<=w.heap.size)(h:∀(A':OA) (c':Nat) (w':World),w'.ownsRow base e size (.slice A' (n+m) c') (n+m) (xs++j)->App base e w w'->K (a.put o.dst<|.slice A' (n+m) c') w'):o.wp P a w K Q:=by
 obtain⟨A',c',w',N,h2,h3⟩:=BB (P:=P) w base t o.type e i z size bytes L I O q p C F l r n xs G A m c j J H y B D;exact Lw
def iQ{rest:QZ}{a:Act}(I:o.guard=none)(s x:Operand)(t:TypeId)(R:o.op=.call {callee:=.builtin .append,args:=#[s,x],argTypes:=#[t,t]})(base:Nat)(e:TypeId)(i:TypeInfo)(z:Value)(size bytes:Nat)(U:P.underlying t=some (.slice e))(O:P.info? e=some i)(W:i.zero=some z)(q:i.size=size)(p:i.bytes=bytes)(C:z.cells.size=size)(G:0<size)(B:0<bytes)(l:OA)(n r:Nat)(xs:QX)(T:a.eval s=.slice l n r)(H:w.ownsRow base e size (.slice l n r) n xs)(A:OA)(m c:Nat)(j:QX)(V:a.eval x=.slice A m c)(S:Sl w f size A m j)(J:∀u∈j,u.oneCell'=true)(y:(n+m)*bytes<=140737488355328)(F:base<=w.heap.size)(h:∀(A':OA) (c':Nat) (w':World),w'.ownsRow base e size (.slice A' (n+m) c') (n+m) (xs++j)->App base e w w'->wpList P ops Q rest (a.put o.dst<|.slice A' (n+m) c') w'):wpList P ops Q (o::rest) a w:=
 wpList_plain I λ_ D=>yX w s x t R base e i z size bytes U O W q p C G B l n r xs T H A m c j V S J y F λA' c' w' L N=>D _ _<|h A' c' w' L N
end
def qk{P:Program}{w:World}{a:Act}(I:o.guard=none)(s x:Operand)(t:TypeId)(N:o.op=.call {callee:=.builtin .append,args:=#[s,x],argTypes:=#[t,t]})(base:Nat)(e:TypeId)(i:TypeInfo)(z:Value)(size bytes:Nat)(S:P.underlying t=some (.slice e))(L:P.info? e=some i)(U:i.zero=some z)(q:i.size=size)(p:i.bytes=bytes)(C:z.cells.size=size)(G:0<size)(B:0<bytes)(l:OA)(n r:Nat)(xs:QX)(R:a.eval s=.slice l n r)(H:w.ownsRow base e size (.slice l n r) n xs)(A:OA)(m c:Nat)(j:QX)(T:a.eval x=.slice A m c)(O:Sl w f size A m j)(J:∀u∈j,u.oneCell'=true)(y:(n+m)*bytes<=140737488355328)(D:base<=w.heap.size)(h:∀(A':OA) (c':Nat) (w':World),w'.ownsRow base e size (.slice A' (n+m) c') (n+m) (xs++j)->App base e w w'->K (a.put o.dst<|.slice A' (n+m) c') w'):
 if Region.wanted o (yielded ops a.tmps)=true then Oper.wp P o a w K Q else E:=by
 have F:Region.wanted o (yielded ops a.tmps)=true:=by simp[Region.wanted,I]
 rw[L_ F];exact yX w s x t N base e i z size bytes S L U q p C G B l n r xs R H A m c j T O J y D h
def info_parts{P:Program}{t:TypeId}{z:Value}{b:Nat}(h:(P.info? t).map (λi=>(i.zero,i.size,i.bytes))=some (some z,s,b)):∃i,P.info? t=some i/\i.zero=some z/\i.size=s/\i.bytes=b:=by
 cases c:P.info? t with
 |none=>rw[c]at h;simp at h
 |some i=>rw[c]at h;simp at h;exact⟨i,rfl,h.1,h.2.1,h.2.2⟩
def Eo{w:World}{d:Nat}{e:TypeId}{size:Nat}{n:Nat}{xs:QX}(h:w.ownsRow d e size v n xs)(p:base<=d):w.ownsRow base e size v n xs:=by
 refine⟨h.1,?_⟩;rcases h.2 with i|⟨g,q,c,j,l,m⟩
 exact .inl i;exact .inr ⟨g,q,c,j,H_ p l,m⟩
def Bk.hF{w w':World}{g:Nat}{t:TypeId}{cs:Array Value}(h:Bk w g t cs)(c:J [] w w'):Bk w' g t cs:=h.gr c s_
def DG{W w1:World}{t:TypeId}{cs:Array Value}{p:Nat}(c:J [] (W.alloc<|.cells cs t) w1)(h:W.heap.size=p):Bk w1 p t cs:=by
 subst h;exact(T_ W t cs).gr c s_
def jq{w:World}{e:TypeId}{size:Nat}{A:OA}{n c:Nat}{xs:QX}(h:w.ownsRow base e size (.slice A n c) n xs):n<=c:=by
 rcases h.2 with⟨i,l⟩|⟨g,p,j,i,_,_,m,_⟩
 omega;injection i with _ _ i;omega
def J.own{M:QY}{a w w':World}{g n c:Nat}(h:J M a w)(i:w.grownBy w' (Value.slice (j_ g) n c).ownBlock)(l:g∈M\/a.heap.size<=g):J M a w':=
 h.grown i (λk j=>by
  have:g=k:=by simpa[Value.ownBlock]using j
  subst this;exact l)
def Bk.own{w w':World}{g n c:Nat}{t:TypeId}{cs:Array Value}(h:Bk w k t cs)(j:w.grownBy w' (Value.slice (j_ g) n c).ownBlock)(i:k≠g):Bk w' k t cs:=
 (j.block k h.lt<|by simpa[Value.ownBlock]using i).trans h
def kA(f:α->List Value)(s:Nat)(h:∀a,(f a).length=s)(l:List α):(l.flatMap f).length=l.length*s:=by
 induction l with
 |nil=>simp
 |cons i l c=>simp only[Hc,M_,h,c,GI,HY,I1];omega
def jr(f:α->List Value)(s:Nat)(h:∀a,(f a).length=s)(l:List α)(k c:Nat)(i:k<l.length)(m:c<s):(l.flatMap f)[k*s+c]?=(f l[k])[c]?:=by
 induction l generalizing k with
 |nil=>simp at i
 |cons p l j=>
  cases k with
  |zero=>simp only[Hc,IA,U_,HL];rw[HN<|by rw[h];exact m]
  |succ k=>
   simp only[Hc,Iq];have e:(k+1)*s+c=s+(k*s+c):=by rw[HY,I1];omega
   rw[e,HV (by rw[h];omega),h,Nat.add_sub_cancel_left];exact j k<|zu i
def kE{wr w':World}{e:TypeId}{size x:Nat}{n:Nat}{xs:QX}(h:wr.ownsRow base e size v n xs)(m:∀cs c,wr.heap[x]?≠some (.cells cs e c))(j:J [x] wr w'):w'.ownsRow base e size v n xs:=by
 refine h.kept j.wC ?_;rcases h.2 with⟨rfl,_⟩|⟨d,q,p,rfl,_,l,_⟩
 exact .inl rfl;right;intro i;have:d=x:=by simpa[Value.ownBlock]using i
 subst this;exact m _ _ l
def q7(E:α->List Value)(c:∀a,∀u∈E a,u.oneCell'=true)(l:List α):∀u∈l.flatMap E,u.oneCell'=true:=by
 intro u h;obtain⟨v,_,i⟩:=H0.1 h;exact c v u i
def Sl.row{E:α->List Value}(m:∀a,(E a).length=s){w:World}{A:OA}{l:List α}(h:Sl w ty s A l.length<|l.flatMap E)(x:k<l.length):
 ∃b i,A=some (Z b i)/\∀c u,(E l[k])[c]?=some u->w.cell? ⟨b,i+(k*s+c),none⟩=some u:=by
 obtain⟨b,i,p,q⟩:=Sl.f_ h X;refine⟨b,i,p,λc u j=>q (k*s+c) u ?_⟩;have r:c<s:=by
  rcases GU c s with h|h
  exact h;rw[G7<|by rw[m];exact h]at j;cases j
 rw[jr E s m l k c x r];exact j
def um(E:α->List Value)(s:Nat)(c:∀a,(E a).length=s)(l:List α)(k:Nat):(l.take k).flatMap E=(l.flatMap E).take (k*s):=by
 induction l generalizing k with
 |nil=>simp
 |cons i l h=>
  cases k with
  |zero=>simp
  |succ k=>
   rw[IQ,Hc,Hc,h,List.take_append,c,GY (l:=E i) (by rw[c,HY];omega),show(k+1)*s-s=k*s by rw[HY];omega]
def yL(E:α->List Value)(s:Nat)(c:∀a,(E a).length=s)(l:List α)(k:Nat):(l.drop k).flatMap E=(l.flatMap E).drop (k*s):=by
 induction l generalizing k with
 |nil=>simp
 |cons i l h=>
  cases k with
  |zero=>simp
  |succ k=>
   rw[List.drop_succ_cons,Hc,h,List.drop_append,c,H8 (l:=E i) (by rw[c,HY];omega),show(k+1)*s-s=k*s by rw[HY];omega,G0]
def Sl.y2{E:α->List Value}(i:∀a,(E a).length=s){w:World}{A:OA}{l:List α}(h:Sl w ty s A l.length<|l.flatMap E)(r:k<=l.length):
 Sl w ty s A k ((l.take k).flatMap E):=by
 refine⟨by rw[kA E s i,Hj,I6 r],λz=>?_⟩;obtain⟨b,x,cs,j,m,p,q⟩:=h.2 X;refine⟨b,x,cs,j,m,p,λu y c=>q u y ?_⟩;rw[um E s i,Hv]at c;split at c;exact c;cases c
def Sl.zl{E:α->List Value}(c:∀a,(E a).length=s){w:World}{A:OA}{l:List α}(h:Sl w ty s A l.length<|l.flatMap E)(B:k<=l.length)(q:Nat)(y:l.length<=q):
 Sl w ty s (if q=k then A else A.map (·.add (k*s))) (l.length-k) ((l.drop k).flatMap E):=by
 refine⟨by rw[kA E s c,Ib],λz=>?_⟩;obtain⟨b,u,cs,j,m,p,r⟩:=h.2 X;subst m;rw[K_ X];refine⟨b,u+k*s,cs,j,by simp[oV],p,λC x i=>?_⟩;rw[Ik];refine r _ x ?_;rw[yL E s c,IF]at i;exact i
def k2{w:World}{g:Nat}{t:TypeId}{cs:Array Value}(h:Bk w g t cs)(c:cs.size=s):Sl w t s (j_ g) 1 cs.toList:=
 ⟨by simp[c],λ_=>⟨g,0,cs,(0,0),rfl,h,λj l i=>by simpa using i⟩⟩
section
variable{P:Program}(w:World)
def Bz(t ty e:TypeId)(i:TypeInfo)(z:Value)(size bytes:Nat)(D:P.underlying t=some (.slice e))(B:P.info? e=some i)(Y:i.zero=some z)(q:i.size=size)(p:i.bytes=bytes)(C:z.cells.size=size)(U:0<size)(ad:0<bytes)(A:OA)(n:Nat)(xs:QX)(l:Sl w e size A n xs)(x:OA)(m c:Nat)(r:QX)(F:Sl w f size x m r)(h1:∀u∈r,u.oneCell'=true)(y:(n+m)*bytes<=140737488355328):
 ∃A' c' w',(Builtin.append_ #[t,t] ty #[.slice A n n,.slice x m c]).run P w=.ok (.slice A' (n+m) c') w'/\n+m<=c'/\Sl w' e size A' (n+m) (xs++r)/\J [] w w':=by
 have ae:n+m<=maxLen:=by
  have:n+m<=(n+m)*bytes:=Ij _ ad;simp only[maxLen];omega
 rcases Hr m with R|R
 .subst R;have h:=G1<|zu F.1;subst h;refine⟨A,n,w,?_,X,by simpa using l,G_ _ _⟩;rcases Hr n with h|h
  .subst h;cases A with
   |none=>cases x<;>simp[Builtin.append_,Hu D,sizeOf,typeInfo,B,Builtin.lenOf,Builtin.firstCells,loadCells,loadCellsFrom]
   |some a=>cases x<;>simp[Builtin.append_,Hu D,sizeOf,typeInfo,B,Builtin.lenOf,Builtin.firstCells,storeCells,loadCells,loadCellsFrom]
  obtain⟨b,off,rfl,_⟩:=Sl.f_ l h;cases x<;>simp[Builtin.append_,Hu D,sizeOf,typeInfo,B,Builtin.lenOf,Builtin.firstCells,storeCells,loadCells,loadCellsFrom]
 obtain⟨d,rfl,W⟩:=F.nX R;have V:∀j w',w'.ownsRow w.heap.size e size j (n+m) (xs++r)->w.grownBy w' none->∃A' c',j=.slice A' (n+m) c'/\n+m<=c'/\Sl w' e size A' (n+m) (xs++r)/\J [] w w':=by
  intro j w' S hg;obtain⟨A',c',rfl⟩:∃A' c',j=.slice A' (n+m) c':=by
   rcases S.2 with⟨rfl,h0⟩|⟨g,l6,cur,rfl,_⟩
   exact⟨none,0,by rw[h0]⟩;exact⟨_,_,rfl⟩
  exact⟨A',c',rfl,jq S,Sl.iZ S,(G_ [] w).grown hg s_⟩
 cases A with
 |none=>
  have h:n=0:=by
   rcases Hr n with h|h
   exact h;obtain⟨b,off,N,_⟩:=Sl.f_ l h;cases N
  subst h;have T:=G1<|zu l.1;subst T;obtain⟨j,w',G,O,Z,_⟩:=run_append_own (P:=P) w w.heap.size t ty e i z size bytes D B Y q p C U _ 0 [] (i4 w w.heap.size e size) d m c r F.1 W h1 ae y<|I_ _;obtain⟨A',c',rfl,I,L,H⟩:=V j w' O Z;exact⟨A',c',w',G,I,L,H⟩
 |some a=>
  have k:∀Z u,xs[Z]?=some u->w.cell? (a.add Z)=some u:=by
   rcases Hr n with h|h
   subst h;have T:=G1<|zu l.1;subst T;simp;obtain⟨a',O,N⟩:=l.nX h;injection O with O;subst O;exact N
  obtain⟨j,w',G,r1,r2⟩:=run_append_arg_grows (P:=P) w t ty e i z size bytes D B Y q p C U a n n xs l.1 k d m c r F.1 W X ae y;obtain⟨A',c',rfl,I,L,H⟩:=V j w' r1 r2;exact⟨A',c',w',G,I,L,H⟩
def yW{a:Act}(s x:Operand)(t:TypeId)(ho:o.op=.call {callee:=.builtin .append,args:=#[s,x],argTypes:=#[t,t]})(e:TypeId)(i:TypeInfo)(z:Value)(size bytes:Nat)(I:P.underlying t=some (.slice e))(H:P.info? e=some i)(L:i.zero=some z)(q:i.size=size)(p:i.bytes=bytes)(C:z.cells.size=size)(B:0<size)(r:0<bytes)(A:OA)(n:Nat)(xs:QX)(hs:a.eval s=.slice A n n)(F:Sl w e size A n xs)(l:OA)(m c:Nat)(j:QX)(hx:a.eval x=.slice l m c)(G:Sl w f size l m j)(D:∀u∈j,u.oneCell'=true)(y:(n+m)*bytes<=140737488355328)(h:∀(A':OA) (c':Nat) (w':World),n+m<=c'->Sl w' e size A' (n+m) (xs++j)->J [] w w'->K (a.put o.dst<|.slice A' (n+m) c') w'):o.wp P a w K Q:=by
 obtain⟨A',c',w',N,h2,h3,ar⟩:=Bz (P:=P) w t o.type e i z size bytes I H L q p C B r A n xs F l m c j G D y;exact Lu
def pD{rest:QZ}{a:Act}(F:o.guard=none)(s x:Operand)(t:TypeId)(S:o.op=.call {callee:=.builtin .append,args:=#[s,x],argTypes:=#[t,t]})(e:TypeId)(i:TypeInfo)(z:Value)(size bytes:Nat)(U:P.underlying t=some (.slice e))(R:P.info? e=some i)(W:i.zero=some z)(q:i.size=size)(p:i.bytes=bytes)(C:z.cells.size=size)(D:0<size)(r:0<bytes)(A:OA)(n:Nat)(xs:QX)(T:a.eval s=.slice A n n)(N:Sl w e size A n xs)(l:OA)(m c:Nat)(j:QX)(V:a.eval x=.slice l m c)(O:Sl w f size l m j)(H:∀u∈j,u.oneCell'=true)(y:(n+m)*bytes<=140737488355328)(h:∀(A':OA) (c':Nat) (w':World),n+m<=c'->Sl w' e size A' (n+m) (xs++j)->J [] w w'->wpList P ops Q rest (a.put o.dst<|.slice A' (n+m) c') w'):wpList P ops Q (o::rest) a w:=
 wpList_plain F λ_ B=>yW w s x t S e i z size bytes U R W q p C D r A n xs T N l m c j V O H y λA' c' w' I L G=>B _ _<|h A' c' w' I L G
def mL{a:Act}(F:o.guard=none)(s x:Operand)(t:TypeId)(N:o.op=.call {callee:=.builtin .append,args:=#[s,x],argTypes:=#[t,t]})(e:TypeId)(i:TypeInfo)(z:Value)(size bytes:Nat)(R:P.underlying t=some (.slice e))(L:P.info? e=some i)(T:i.zero=some z)(q:i.size=size)(p:i.bytes=bytes)(C:z.cells.size=size)(D:0<size)(r:0<bytes)(A:OA)(n:Nat)(xs:QX)(O:a.eval s=.slice A n n)(H:Sl w e size A n xs)(l:OA)(m c:Nat)(j:QX)(S:a.eval x=.slice l m c)(I:Sl w f size l m j)(G:∀u∈j,u.oneCell'=true)(y:(n+m)*bytes<=140737488355328)(h:∀(A':OA) (c':Nat) (w':World),n+m<=c'->Sl w' e size A' (n+m) (xs++j)->J [] w w'->K (a.put o.dst<|.slice A' (n+m) c') w'):
 if Region.wanted o (yielded ops a.tmps)=true then Oper.wp P o a w K Q else E:=by
 have B:Region.wanted o (yielded ops a.tmps)=true:=by simp[Region.wanted,F]
 rw[L_ B];exact yW w s x t N e i z size bytes R L T q p C D r A n xs O H l m c j S I G y h
end
def vN(cs:Array Value)(o:Nat)(vs:QX):Array Value:=(cs.toList.take o++(vs++cs.toList.drop (o+vs.length))).toArray
def Bo(cs:Array Value)(o:Nat)(v:Value)(r:QX)(h:o+(v::r).length<=cs.size):vN (cs.setIfInBounds o v) (o+1) r=vN cs o (v::r):=by
 unfold vN;congr 1;rw[IV];have c:o<cs.toList.length:=by simp at h |-;omega
 rw[Y_<|zu c,List.getElem_set_self,List.take_set_of_le<|I_ _,Je X];simp only[GI,Hq,Ip,G0,Ik,Nat.add_comm 1]
def qc{g:Nat}{t:TypeId}:∀(vs:QX) (o:Nat) (w:World) (cs:Array Value),Bk w g t cs->o+vs.length<=cs.size->Bk (w.setCells g o vs) g t (vN cs o vs)/\J [g] w (w.setCells g o vs)
 |[],o,w,cs,h,_=>by
  refine⟨?_,G_ _ _⟩;have e:vN cs o []=cs:=by simp[vN]
  rw[e];exact h
 |v::j,o,w,cs,h,i=>by
  have c:=qc (g:=g) (t:=t) j (o+1) (w.setCell (Z g o) v) (cs.setIfInBounds o v) (h.hW o v) (by simp at i |-;omega);rw[Bo cs o v j i]at c;exact⟨c.1,((G_ [g] w).setCell (p:=(Z g o)) (.inl s_) v).trans c.2⟩
def Cr{w:World}{g:Nat}{t:TypeId}{cs:Array Value}(h:Bk w g t cs)(o n:Nat)(j:o+n<=cs.size):w.there g o n:=λc i=>
 ⟨by rw[h.f_<|o+c,GQ X];rfl,h.hG _⟩
def q5(cs vs:Array Value)(h:vs.size=cs.size):vN cs 0 vs.toList=vs:=by
 unfold vN;have e:cs.toList.drop (0+vs.toList.length)=[]:=Hd p_;rw[e];simp
section
variable{P:Program}
def jL{a:Act}{w:World}(ty:TypeId)(x y:Operand)(p:o.op=.store ty x y)(g c:Nat)(r:a.eval x=.pointer (some<|Z g c))(vs:Array Value)(hy:a.eval y=.agg vs)(t:TypeId)(cs:Array Value)(i:Bk w g t cs)(j:c+vs.size<=cs.size)(m:(P.info? ty).map (·.size)=some vs.size)(l:vs.all (·.oneCell')=true)(h:∀w',Bk w' g t (vN cs c vs.toList)->J [g] w w'->K (a.put o.dst undef) w'):o.wp P a w K Q:=
 wp_store_mid ty x y p g c vs r hy (Cr i c vs.size j) m l
  (h _ (qc vs.toList c w cs i<|zu j).1 (qc vs.toList c w cs i<|zu j).2)
def jn{rest:QZ}{a:Act}{w:World}(j:o.guard=none)(ty:TypeId)(x y:Operand)(u:o.op=.store ty x y)(g c:Nat)(B:a.eval x=.pointer (some<|Z g c))(vs:Array Value)(hy:a.eval y=.agg vs)(t:TypeId)(cs:Array Value)(q:Bk w g t cs)(z:c+vs.size<=cs.size)(r:(P.info? ty).map (·.size)=some vs.size)(l:vs.all (·.oneCell')=true)(h:∀w',Bk w' g t (vN cs c vs.toList)->J [g] w w'->wpList P ops Q rest (a.put o.dst undef) w'):wpList P ops Q (o::rest) a w:=
 wpList_plain j λ_ i=>jL ty x y u g c B vs hy t cs q z r l λw' m p=>i _ _<|h w' m p
def o0{a:Act}{w:World}(ty:TypeId)(x:Operand)(u:o.op=.load ty x)(g j:Nat)(B:a.eval x=.pointer (some<|Z g j))(t:TypeId)(cs vs:Array Value)(m:Bk w g t cs)(z:∀c,c<vs.size->cs[j+c]?=vs[c]?)(d:TypeDesc)(y:P.underlying ty=some d)(p:d.isRow=true)(r:(P.info? ty).map (·.size)=some vs.size)(h:K (a.put o.dst<|.agg vs) w):o.wp P a w K Q:=by
 refine wp_load_mid ty x u g j B vs.toList d (λc v i=>?_) y p (zu r)<|zu h;have l:c<vs.size:=by
  rcases GU c vs.size with h|h
  exact h;rw[G7<|zu h]at i;cases i
 rw[m.f_,z c l];simpa using i
def iH{rest:QZ}{a:Act}{w:World}(l:o.guard=none)(ty:TypeId)(x:Operand)(r:o.op=.load ty x)(g i:Nat)(z:a.eval x=.pointer (some<|Z g i))(t:TypeId)(cs vs:Array Value)(m:Bk w g t cs)(y:∀c,c<vs.size->cs[i+c]?=vs[c]?)(d:TypeDesc)(u:P.underlying ty=some d)(p:d.isRow=true)(q:(P.info? ty).map (·.size)=some vs.size)(h:wpList P ops Q rest (a.put o.dst<|.agg vs) w):wpList P ops Q (o::rest) a w:=
 wpList_plain l λ_ j=>o0 ty x r g i z t cs vs m y d u p q<|j _ _ h
def sO{rest:QZ}{a:Act}{w:World}(c:o.guard=none)(ty:TypeId)(x:Operand)(m:o.op=.load ty x)(g:Nat)(q:a.eval x=q_ g)(t:TypeId)(cs:Array Value)(i:Bk w g t cs)(d:TypeDesc)(p:P.underlying ty=some d)(j:d.isRow=true)(l:(P.info? ty).map (·.size)=some cs.size)(h:wpList P ops Q rest (a.put o.dst<|.agg cs) w):wpList P ops Q (o::rest) a w:=
 iH c ty x m g 0 q t cs cs i (λr _=>by rw[U_]) d p j l h
end
section
variable{P:Program}
def lL{rest:QZ}{a:Act}{w:World}(i:o.guard=none)(ty:TypeId)(x y:Operand)(q:o.op=.store ty x y)(g:Nat)(u:a.eval x=q_ g)(vs:Array Value)(hy:a.eval y=.agg vs)(t:TypeId)(cs:Array Value)(m:Bk w g t cs)(r:vs.size=cs.size)(p:(P.info? ty).map (·.size)=some vs.size)(j:vs.all (·.oneCell')=true)(h:∀w',Bk w' g t vs->J [g] w w'->wpList P ops Q rest (a.put o.dst undef) w'):wpList P ops Q (o::rest) a w:=
 jn i ty x y q g 0 u vs hy t cs m X p j λw' c l=>h w' (by rw[q5 cs vs r]at c;exact c) l
end
def la{P:Program}{rest:QZ}{a:Act}{w:World}{x:Operand}{g:Nat}{t:TypeId}{cs:Array Value}{d:TypeDesc}(hB:Bk w g t cs)(hu:P.underlying ty=some d)(h:wpList P ops Q rest (a.put o.dst<|.agg cs) w)(ao:o.guard=none:=by rfl)(ho:o.op=.load ty x:=by rfl)(hx:a.eval x=q_ g:=by rfl)(hd:d.isRow=true:=by rfl)(hi:(P.info? ty).map (·.size)=some cs.size:=by kernel_rfl):wpList P ops Q (o::rest) a w:=sO ao ty x ho g hx t cs hB d hu hd hi h
def k6{P:Program}{rest:QZ}{a:Act}{w:World}{x y:Operand}{g:Nat}{t:TypeId}{cs:Array Value}(hB:Bk w g t cs)(h1:vs.all (·.oneCell')=true)(h:∀w',Bk w' g t vs->J [g] w w'->wpList P ops Q rest (a.put o.dst undef) w')(ao:o.guard=none:=by rfl)(ho:o.op=.store ty x y:=by rfl)(hx:a.eval x=q_ g:=by rfl)(hy:a.eval y=.agg vs:=by rfl)(hs:vs.size=cs.size:=by rfl)(hi:(P.info? ty).map (·.size)=some vs.size:=by kernel_rfl):wpList P ops Q (o::rest) a w:=lL ao ty x y ho g hx vs hy t cs hB hs hi h1 h
