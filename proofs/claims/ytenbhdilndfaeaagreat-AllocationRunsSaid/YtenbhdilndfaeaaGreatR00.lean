import Derived.Test.YtenbhdilndfaeaaGreatProg
import Derived.Below
import Derived.ChangeOld
import Derived.Deep.Cut
import Derived.Deep.QuietTactic
import Derived.Deep.SlicePairs
import Derived.Laws.Rows
import Derived.Lib.SmallJoins
import Derived.OpenShut
import Derived.ProofKit
import Derived.ShutString
import Derived.WalkKit
set_option maxRecDepth 100000
set_option linter.all false
namespace Go.Proofs.YtenbhdilndfaeaaGreat
open Go.RowKit
def k_{G:Prop}(h:G:=by kernel_rfl):G:=h
def X{G:Prop}(h:G:=by omega):G:=h
def I{G:Prop}(h:G:=by decide):G:=h
def s_{G:Prop}(h:G:=by simp):G:=h
def p_{G:Prop}(h:G:=by simp;omega):G:=h
def r_{G:Prop}(h:G:=by rfl):G:=h
abbrev Y(x:Int):Value:=.int .i64 x
abbrev n_:Value:=.slice none 0 0
abbrev e_:Value:=.string {data:=#[]}
abbrev Z(x k:Nat):Addr:=⟨x,k,none⟩
abbrev j_(x:Nat):Option Addr:=some ⟨x,0,none⟩
abbrev q_(x:Nat):Value:=.pointer (some ⟨x,0,none⟩)
def O{p:Prop}(h:p):Hid p:=h
def rr_{P:Program}{fn:Func}{R:Ending->World->Prop}{a:Act}{w:World}{p:Tmp}{ty:TypeId}{g:Nat}{t:TypeId}{fr:Nat × Nat}{d:TypeDesc}(cs:Array Value)(hg:w.heap[g]?=some (.cells cs t fr))(hu:P.underlying ty=some d)(hR:R (.returned (.agg cs)) w)
 (h:fn.results=#[.cell p ty]:=by rfl) (hp:a.tmps.getD p undef=q_ g:=by rfl) (hd:(match d with|.struct _|.array _ _=>true|_=>false)=true:=by rfl) (hi:(P.info? ty).map (·.size)=some cs.size:=by kernel_rfl) (hf:a.defers=[]:=by rfl):bodyPost P fn R .ret a w:=bodyPost_ret (v:=.agg cs) (results_cell_row h _ _ _ _ _ _ _ hp hg hu hd hi) hf hR
def rn_{P:Program}{fn:Func}{R:Ending->World->Prop}{a:Act}{w:World}(hR:R (.returned (.tuple #[])) w)(h:fn.results=#[]:=by rfl)(hf:a.defers=[]:=by rfl):bodyPost P fn R .ret a w:=bodyPost_ret (v:=.tuple #[]) (results_none h _ _ _) hf hR
def en_{P:Program}{fn:Func}{R:Ending->World->Prop}{a:Act}{w:World}(hR:R (.returned (.tuple #[])) w)(h:fn.results=#[]:=by rfl)(hf:a.defers=[]:=by rfl):bodyPost P fn R .normal a w:=bodyPost_end (v:=.tuple #[]) (results_none h _ _ _) hf hR
def a_:(∀ (a:Act) (i:Tmp) (v:Value),a.put (some i) v=⟨a.tmps.setIfInBounds i v,a.defers⟩) /\ (∀ (a:Act) (v:Value),a.put none v=a) /\
 (∀ {b:Type} (l:List b) (i:Nat) (a:b),l.toArray.setIfInBounds i a=(l.set i a).toArray) /\ (∀ {b:Type} (x y:b) (l:List b),(x::l).set 0 y=y::l) /\ (∀ {b:Type} (x y:b) (l:List b) (i:Nat),(x::l).set (i+1) y=x::l.set i y):=by
 refine⟨λ_ _ _=>rfl,λ_ _=>rfl,λ_ _ _=>by simp,λ_ _ _=>rfl,λ_ _ _ _=>rfl⟩
def sd_{G:Prop}(h:G:=by first|(simp;done)|(simp;omega)|fail):G:=h
def gs_{G:Prop}(h:G:=by first|(go_simp;done)|(go_simp;with_reducible rfl)|fail):G:=h
def nm_{c:Type}(a:c):∃b,b=a:=⟨a,rfl⟩
def mn_{c:Type}(a:c):∃b,a=b:=⟨a,rfl⟩
abbrev S_:Array Value:=#[Y 0,e_,e_,Y 0,Y 0,n_,n_,n_]
abbrev E_:Array Value:=#[Y 0,Y 0,e_,Y 0,n_]
abbrev OA:=Option Addr
def ov{A G:Prop}(x:A)(h:A->G:=by intro q;omega):G:=h x
def gn{G:Prop}(h:G:=by go_num):G:=h
def mz{G:Prop}(h:G:=by simp[intOf];omega):G:=h
def zu{A B:Prop}(x:A)(h:A->B:=by intro q;simpa using q):B:=h x
open Classical in
open Go.RowKit Go.Maps
open Go.RowKit Go.Proofs.Tryz
abbrev G_:=@Nat.le_trans
abbrev H_:=@Nat.le_refl
abbrev I_:=@if_neg
abbrev J_:=@Array.getElem?_setIfInBounds
abbrev K_:=@List.length_append
abbrev L_:=@List.getElem?_eq_getElem
abbrev M_:=@List.getElem_mem
abbrev N_:=@List.mem_cons
abbrev O_:=@if_pos
abbrev P_:=@Nat.zero_le
abbrev R_:=@List.mem_singleton
abbrev T_:=@List.mem_append
abbrev U_:=@absurd
abbrev W_:=@Nat.zero_add
abbrev X_:=@List.take_succ_eq_append_getElem
abbrev Y_:=@List.drop_eq_getElem_cons
abbrev Z_:=@List.mem_map
abbrev FF:=@Array.getElem?_eq_none
abbrev FH:=@Array.getD_eq_getD_getElem?
abbrev FI:=@List.map_append
abbrev FJ:=@List.length_cons
abbrev FK:=@List.take_of_length_le
abbrev FL:=@List.mem_append_left
abbrev FM:=@Array.getElem?_eq_getElem
abbrev FN:=@congrArg
abbrev FO:=@Nat.lt_or_ge
abbrev FP:=@Bool.and_eq_true
abbrev FQ:=@List.mem_cons_of_mem
abbrev FR:=@Int.le_refl
abbrev FU:=@List.nil_append
abbrev FV:=@List.length_set
abbrev FW:=@List.mem_or_eq_of_mem_set
abbrev FX:=@decide_eq_true
abbrev FY:=@bodyPost_ret
abbrev FZ:=@List.all_eq_true
abbrev F0:=@Int.toNat_natCast
abbrev F1:=@IntWalk.i64_in
abbrev F2:=@List.flatMap_append
abbrev F3:=@List.drop_eq_nil_of_le
abbrev F4:=@List.getElem?_map
abbrev F5:=@List.mem_filter
abbrev F6:=@List.length_map
abbrev F7:=@List.length_filter_le
abbrev F8:=@List.getElem?_eq_none
abbrev F9:=@List.mem_cons_self
abbrev Ga:=@List.eq_nil_of_length_eq_zero
abbrev Gb:=@List.mem_range
abbrev Gc:=@Array.getElem?_eq_some_iff
abbrev Gd:=@List.length_take
abbrev Ge:=@List.append_assoc
abbrev Gf:=@List.mem_of_mem_take
abbrev Gg:=@List.getElem_map
abbrev Gh:=@List.length_nil
abbrev Gi:=@List.getElem_append_left
abbrev Gj:=@List.flatMap_cons
abbrev Gk:=@List.take_append_drop
abbrev Gl:=@List.length_replicate
abbrev Gm:=@Nat.not_le
abbrev Gn:=@List.map_cons
abbrev Gp:=@List.getElem?_cons_zero
abbrev Gq:=@run_underlying
abbrev Gs:=@List.nodup_append
abbrev Gu:=@List.getElem_append_right
abbrev Gv:=@List.getElem?_take
abbrev Gw:=@List.getElem_modify
abbrev Gx:=@decide_eq_true_eq
abbrev Gy:=@List.setIfInBounds_toArray
abbrev GC:=@Nat.lt_of_lt_of_le
abbrev GD:=@List.getElem_cons_zero
abbrev GE:=@Option.getD_some
abbrev GF:=@Int.toNat_of_nonneg
abbrev GG:=@List.mem_append_right
abbrev GH:=@decide_eq_false
abbrev GI:=@Nat.eq_zero_or_pos
abbrev GJ:=@List.set_cons_succ
abbrev GM:=@List.ext_getElem
abbrev GN:=@List.getElem?_append_right
abbrev GQ:=@Array.getElem?_setIfInBounds_ne
abbrev GR:=@List.getElem?_eq_some_iff
abbrev GT:=@List.foldl_cons
abbrev GU:=@List.set_cons_zero
abbrev GX:=@IntKind.wrap_i64
abbrev GY:=@List.mem_of_mem_drop
abbrev GZ:=@List.getElem?_cons_succ
abbrev G0:=@Nat.add_zero
abbrev G1:=@List.map_nil
abbrev G3:=@List.foldl_append
abbrev G4:=@List.find?_append
abbrev G5:=@Nat.add_mul
abbrev G6:=@List.nodup_cons
abbrev G7:=@results_cell_row
abbrev G9:=@List.take_length
abbrev Ha:=@List.mem_flatMap
abbrev Hb:=@List.length_drop
abbrev Hc:=@List.getElem?_append_left
abbrev Hd:=@Array.getElem?_replicate
abbrev He:=@Int.mul_le_mul_of_nonneg_right
abbrev Hf:=@Nat.le_mul_of_pos_right
abbrev Hg:=@List.getElem_of_mem
abbrev Hh:=@ByteArray.toList_eq
abbrev Hj:=@List.map_toArray
abbrev Hk:=@List.getElem_cons_succ
abbrev Hl:=@Option.isSome_some
abbrev Hm:=@List.mem_replicate
abbrev Hn:=@List.getElem_range
abbrev Ho:=@Nat.add_assoc
abbrev Hp:=@List.length_range
abbrev Hq:=@Nat.mod_two_eq_zero_or_one
abbrev Hr:=@Nat.mul_le_mul_right
abbrev Hs:=@List.cons_append
abbrev Ht:=@Nat.zero_mul
abbrev Hu:=@decide_eq_false_iff_not
abbrev Hv:=@List.getElem?_drop
abbrev Hw:=@Bool.or_eq_true
abbrev Hx:=@Bool.false_or
abbrev Hy:=@Array.all_eq_true_iff_forall_mem
abbrev Hz:=@List.flatMap_singleton
abbrev HB:=@List.getElem?_set
abbrev HC:=@List.length_singleton
abbrev HE:=@Option.getD_none
abbrev HF:=@List.any_eq_true
abbrev HH:=@Option.map_some
abbrev HI:=@Array.length_toList
abbrev HJ:=@Array.toList_setIfInBounds
abbrev HK:=@Option.isSome_none
abbrev HL:=@List.length_modify
abbrev HM:=@List.filter_append
abbrev HN:=@heap_alloc_new
abbrev HO:=@List.nodup_nil
abbrev HP:=@List.ext_getElem?
abbrev HQ:=@Array.any_eq_true
abbrev HR:=@Nat.one_mul
abbrev HS:=@List.any_cons
abbrev HT:=@List.getElem_replicate
abbrev HU:=@List.find?_cons_of_pos
abbrev HV:=@results_tmp2
abbrev HW:=@Nat.le_of_ble_eq_true
abbrev HX:=@Int.lt_or_le
abbrev HY:=@Bool.true_or
abbrev H0:=@Array.getElem?_setIfInBounds_self_of_lt
abbrev H1:=@List.pairwise_append
abbrev H2:=@List.mem_of_getElem?
abbrev H3:=@List.getElem?_modify
abbrev H4:=@List.take_succ_cons
abbrev H5:=@List.mem_map_of_mem
abbrev H6:=@of_decide_eq_false
abbrev H7:=@List.pairwise_cons
abbrev H8:=@List.mem_filterMap
def Iy{G:Prop} (h:G:=by
 intro vs Q C MS K MT;obtain⟨⟨ta,o,aE,E⟩,⟨tb,aq,MO,d⟩, -⟩:=MS
 try simp only[b_,o,aq]at MT |-
 obtain⟨bC,bF,bQ,bR,bS,bT,bU⟩:=ta;obtain⟨d1,d2,d3,d4,d5,d6,d7⟩:=tb;simp only[ET.ic]at MT |-;go_simp;refine MT.out _ _ (C.g_ ((H [] _).alloc _)) ((H _ _).alloc _) ⟨_,[ET.mk bC bF bQ bR bS bT bU,ET.mk d1 d2 d3 d4 d5 d6 d7],rfl,rfl,C.r.lt,tE (ET.mk bC bF bQ bR bS bT bU) (ET.mk d1 d2 d3 d4 d5 d6 d7) (Q_ _ _ _),?_⟩;exact JR):G:=h
def IK{G:Prop} (h:G:=by
 intro f vs Q hf C MS K MT;exact IR):G:=h
def IL{G:Prop} (h:G:=by
 intro vs Q C MS K MT;obtain⟨⟨ta,o,aE,E⟩, -⟩:=MS
 try simp only[b_,o]at MT |-
 obtain⟨bC,bF,bQ,bR,bS,bT,bU⟩:=ta;simp only[ET.ic]at MT |-;go_simp;refine MT.out _ _ (C.g_ ((H [] _).alloc _)) ((H _ _).alloc _) ⟨_,[ET.mk bC bF bQ bR bS bT bU],rfl,rfl,C.r.lt,nG (ET.mk bC bF bQ bR bS bT bU) (Q_ _ _ _),?_⟩;exact Lc):G:=h
def IR{G:Prop} (h:G:=by
 obtain⟨⟨ta,o,aE,E⟩, -⟩:=MS
 try simp only[b_,o]at MT |-
 obtain⟨bC,bF,bQ,bR,bS,bT,bU⟩:=ta;simp only[ET.ic]at MT |-;go_simp;refine MT.out _ _ (C.g_ ((H [] _).alloc _)) ((H _ _).alloc _) ⟨_,[ET.mk bC bF bQ bR bS bT bU],rfl,rfl,C.hz,nG (ET.mk bC bF bQ bR bS bT bU) (Q_ _ _ _),?_⟩;exact Lc):G:=h
def I1{G:Prop} (h:G:=by
 intro f vs Q hf C MS K MT;obtain⟨⟨ta,o,aE,E⟩, -⟩:=MS
 try simp only[b_,o]at MT |-
 obtain⟨s1,bV,cr,dw,bX,bL,b6,da,cu,bw,sb,sc,dx,dy⟩:=ta;simp only[ST.ic]at MT |-;go_simp;exact MT.out _ _ (C.g_ ((H [] _).alloc _)) ((H _ _).alloc _) ⟨_,ST.mk s1 bV cr dw bX bL b6 da cu bw sb sc dx dy,rfl,C.hz,Q_ _ _ _,aE.g_ ((H [] _).alloc _),E⟩):G:=h
def I9{G:Prop} (h:G:=by
 obtain⟨⟨ta,o,aE,E⟩,⟨tb,aq,MO,d⟩, -⟩:=MS
 try simp only[b_,o,aq]at MT |-
 go_simp
 go_at_call 143
 refine(oM W.heap.size 10 ta tb C.hz aE MO).mono ?_;rintro e w1⟨A,rfl,MP,hg1⟩;exact MT.out _ _ (C.g_ hg1) (hg1.mono s_) ⟨qu 10 A ta tb,rfl,MP,.bin 0 _ _ _ _ X X (E.mono X) (d.mono X)⟩):G:=h
def Jb{G:Prop} (h:G:=by
 intro vs Q C MS K MT;obtain⟨o, -⟩:=MS;replace o:_=_:=o
 try simp only[b_,o]at MT |-
 go_simp
 go_at_call 140
 refine(kE B g m left loops fn 1 X _ rfl _ C.d C.m hBm).mono ?_;exact KS):G:=h
def Jd{G:Prop} (h:G:=by
 intro vs Q C MS K MT;obtain⟨⟨ta,o,aE,E⟩, -⟩:=MS
 try simp only[b_,o]at MT |-
 refine iV k_ ?_;refine ie 229 rfl R0 r_ ta.g8 r_ 229 C.r rfl k_ (ST.one _) ?_;exact KR):G:=h
def Ji{G:Prop} (h:G:=by
 intro vs Q C MS K MT;obtain⟨o, -⟩:=MS;replace o:_=_:=o
 try simp only[b_,o]at MT |-
 exact JZ):G:=h
def Jo{G:Prop} (h:G:=by
 obtain⟨⟨aZ,o,cM,bt⟩, -⟩:=MS
 try simp only[b_,o]at MT |-
 go_simp
 go_at_call 144
 refine(j3 _).mono ?_;rintro e w1⟨rfl,hg1⟩;exact MT.out _ _ (C.g_ hg1) (hg1.mono s_) ⟨ju aZ,rfl,kl.leaf _ _ _ _ _ _,.num _ _ X X⟩):G:=h
def Jr{G:Prop} (h:G:=by
 intro vs Q C MS K MT;obtain⟨o, -⟩:=MS;replace o:_=_:=o
 try simp only[b_,o]at MT |-
 obtain⟨cR,a,cn,cA⟩:=id C;have MN:=a.f_ 0;have ai:=a.f_ 1;have aB:=a.f_ 2;have aS:=a.f_ 3;exact MC):G:=h
def Js{G:Prop} (h:G:=by
 intro vs Q C MS K MT;obtain⟨⟨a6,o,bg,be⟩,⟨aK,aq,c7,cO⟩, -⟩:=MS
 try simp only[b_,o,aq]at MT |-
 obtain⟨k,rfl⟩:∃k:Nat,aK=k:=⟨aK.toNat,X⟩;go_simp;exact MT.out _ _ C (H _ _) ⟨a6,k,rfl,X,bg,be⟩):G:=h
def Jw{G:Prop} (h:G:=by
 rename_i hy
 exfalso
 unfold ki at hy;rw[I_ (λh=>h.2.2.2 f)]at hy;dsimp only at hy;split at hy
 .cases hy
 rw[I_ (by rw[f];decide),I_ (by rw[f];decide),I_ (by rw[f];decide)]at hy;split at hy<;>cases hy):G:=h
def JD{G:Prop} (h:G:=by
 clear MS
 try simp only[b_]at MT |-
 go_simp
 go_at_call 144
 refine(j3 _).mono ?_;rintro e w1⟨rfl,hg1⟩;exact MT.out _ _ (C.g_ hg1) (hg1.mono s_) ⟨ju 1,rfl,kl.leaf _ _ _ _ _ _,.num _ _ X X⟩):G:=h
def JE{G:Prop} (h:G:=by
 intro vs Q C MS K MT;obtain⟨⟨a6,E,o,bt,bg,be⟩, -⟩:=MS
 try simp only[b_,o]at MT |-
 obtain⟨s,hs,bM⟩:=BS E X;exact LS):G:=h
def JM{G:Prop} (h:G:=by
 rw[<-hr.i3]
 cases MM:iA (hJ (hJ (hF x).1 (hF x).2.1 0).1 (hF x).2.1 1).1.i3 (hJ (hJ (hF x).1 (hF x).2.1 0).1 (hF x).2.1 1).2.n with
 |true=>rfl
 |false=>exact U_ (.inr (.inr MM)) hx):G:=h
def JR{G:Prop} (h:G:=by
 intro u hu
 rcases N_.1 hu with rfl|hu
 .exact⟨aE.g_ ((H [] _).alloc _),E.mono X⟩
 rcases N_.1 hu with rfl|hu
 .exact⟨MO.g_ ((H [] _).alloc _),d.mono X⟩
 cases hu):G:=h
def JX{G:Prop} (h:G:=by
 refine hK [] ?_;intro vs Q C MS K MT;clear MS
 try simp only[b_]at MT |-
 exact Ld):G:=h
def JZ{G:Prop} (h:G:=by
 go_simp
 go_at_call 19
 refine(iq B g _ C.d X X).mono ?_;exact KZ):G:=h
def J4{G:Prop} (h:G:=by
 clear t0 t1 ag;exact Kq):G:=h
def Ka{G:Prop} (h:G:=by
 obtain⟨b,off,U,hc⟩:=Sl.f_ h X;exact⟨b,off,U,hc (k*2+0) _ (jR Vl.E (λ_=>rfl) l k 0 hk X),hc (k*2+1) _ (jR Vl.E (λ_=>rfl) l k 1 hk X)⟩):G:=h
def Kc{G:Prop} (h:G:=by
 obtain⟨b,off,U,hc⟩:=Sl.f_ h X;exact⟨b,off,U,hc (k*2+0) _ (jR Rw.E (λ_=>rfl) l k 0 hk X),hc (k*2+1) _ (jR Rw.E (λ_=>rfl) l k 1 hk X)⟩):G:=h
def Kf{G:Prop} (h:G:=by
 clear t0;exact Kq):G:=h
def Kj{G:Prop} (h:G:=by
 have h:(iz op a b).1.r=false:=by
  unfold iz;split
  .rfl
  split
  .rfl
  unfold pC
  repeat' split
  all_goals rfl
 intro h2;rw[h]at h2
 cases h2):G:=h
def Kl{G:Prop} (h:G:=by
 unfold Oper.wp execOp;simp only[ho,resolve,invoke,builtin,Sem.run_bind,Sem.run_pure,Result.andThen_ok,Hj,Gn,G1,hs,hx,MT];exact h A' c' w' h2 h3 ar):G:=h
def Kn{G:Prop} (h:G:=by
 unfold Oper.wp execOp;simp only[ho,resolve,invoke,builtin,Sem.run_bind,Sem.run_pure,Result.andThen_ok,Hj,Gn,G1,hs,hx,MT];exact h A' c' w' h2 h3):G:=h
def Ko{G:Prop} (h:G:=by
 rw[<-hb.i3]
 cases MM:iA (hJ (hF x).1 (hF x).2.1 2).1.i3 (hJ (hF x).1 (hF x).2.1 2).2.n with
 |true=>rfl
 |false=>exact U_ (Or.inr ⟨hn,MM⟩) hx):G:=h
def Kq{G:Prop} (h:G:=by
 go_wp2_with fail
 go_quiet (fail)
 go_wp2;go_roundw
 case rel=>exact⟨k+1,gn,X,by rw[MT.out,aq.out];omega,F.drewN _⟩
 case measure=>exact mz):G:=h
def Kt{G:Prop} (h:G:=by
 intro c fz h2;have h3:w.heap[g]?=some (.cells cs t (0,0)):=h;rw[h3]at h2;injection h2 with h2;injection h2 with _ h2 _;exact au h2.symm):G:=h
def Kx{G:Prop} (h:G:=by
 intro vs bo C;simp only[b_];obtain⟨t,ax,MP,V,bl,G⟩:=C;go_wp2;exact rr_ t.g8 ax underlying229 ⟨t,rfl,MP.le X,V,bl,MR.hA G p_⟩):G:=h
def KB{G:Prop} (h:G:=by
 exact⟨b,off,U,hc (k*5+0) _ (g 0 X),hc (k*5+1) _ (g 1 X),hc (k*5+2) _ (g 2 X),hc (k*5+3) _ (g 3 X),hc (k*5+4) _ (g 4 X)⟩):G:=h
def KD{G:Prop} (h:G:=by
 intro vs Q C MS K MT;exact K2):G:=h
def KI{G:Prop} (h:G:=by
 clear t0 t1 ag;exact K1):G:=h
def KM{G:Prop} (h:G:=by
 clear t0 t1;exact K1):G:=h
def KQ{G:Prop} (h:G:=by
 refine je [] ?_;intro f vs Q hf C MS K MT;exact L9):G:=h
def KR{G:Prop} (h:G:=by
 intro ae ax G;exact MT.out undef _ (λ_=>⟨ta,ax,aE.ib G s_,E,C.d.ib G p_,(C.g.mono s_).trans (G.mono s_)⟩)):G:=h
def KS{G:Prop} (h:G:=by
 rintro e w1⟨t,rfl,MP,V,bf,hg1⟩;exact MT.out _ _ (C.step hg1 bf U aj) (hg1.mono s_) ⟨t,rfl,MP.le C.r.lt,V⟩):G:=h
def KV{G:Prop} (h:G:=by
 refine hK [] ?_;intro vs Q C MS K MT;exact L9):G:=h
def KW{G:Prop} (h:G:=by
 rcases h2.2 with⟨rfl,h0⟩|⟨g,lO,cur,rfl,_⟩
 .exact⟨none,0,by rw[h0]⟩
 .exact⟨_,_,rfl⟩):G:=h
def KZ{G:Prop} (h:G:=by
 rintro e w1⟨r,rfl,h0,h1,bf,hg1⟩;exact MT.out _ _ (C.step hg1 bf U aj) (hg1.mono s_) ⟨r,rfl,h0,h1⟩):G:=h
def K0{G:Prop} (h:G:=by
 refine wpQuiet_nil ?_;intro _ A;obtain⟨n,c⟩:=A;subst c;go_wp2;go_meet;exact⟨i9 aV.out.symm,n.2⟩):G:=h
def K1{G:Prop} (h:G:=by
 go_wp2_with fail
 go_quiet (fail)
 go_wp2;go_meet;exact⟨k,rfl,hk,by rw[MT.out,aq.out];omega,F.drewN _⟩):G:=h
def K2{G:Prop} (h:G:=by
 obtain⟨o, -⟩:=MS;replace o:_=_:=o
 try simp only[b_,o]at MT |-
 exact MC):G:=h
def Lc{G:Prop} (h:G:=by
 intro u hu
 rcases N_.1 hu with rfl|hu
 .exact⟨aE.g_ ((H [] _).alloc _),E.mono X⟩
 cases hu):G:=h
def Ld{G:Prop} (h:G:=by
 go_simp;exact Ln):G:=h
def Lh{G:Prop} (h:G:=by
 unfold GS.lg at aw |-;simp only[iT.mk.injEq]at aw |-;exact⟨aw.1,aw.2.1,trivial,aw.2.2.2⟩):G:=h
def Ln{G:Prop} (h:G:=by
 exact MT.out _ _ (C.g_ ((H [] _).alloc _)) ((H _ _).alloc _) ⟨_,rfl,C.r.lt,Q_ _ _ _⟩):G:=h
def Lz{G:Prop} (h:G:=by
 rw[I_ he,atKey_put_other (by intro e;injection e with _ e;exact he e)];exact h3 i hi):G:=h
def LH{G:Prop} (h:G:=by
 obtain⟨D,⟨es,a,h1,h2⟩,h3⟩:=h;exact⟨D,⟨es,a,hb.trans h1,h2⟩,h3⟩):G:=h
def LP{G:Prop} (h:G:=by
 rcases FO b w.heap.size with aj|bt
 .exact aj
 .rw[FF bt]at hb
  cases hb):G:=h
def LS{G:Prop} (h:G:=by
 have ai:=(be.f_ E).trans bM;go_simp;exact MT.out _ _ C (H _ _) ⟨s,hs,rfl⟩):G:=h
def LU{G:Prop} (h:G:=by
 have e:(iK.getD (20:Int).toNat default).n=5:=rfl;exact MJ):G:=h
def LV{G:Prop} (h:G:=by
 have e:(iK.getD (10:Int).toNat default).n=5:=rfl;exact MJ):G:=h
def LW{G:Prop} (h:G:=by
 have hv:=aR;unfold hY at hv;simp only[FP,Gx]at hv;exact hv.1.1.1.1.1.1.1.2):G:=h
def LZ{G:Prop} (h:G:=by
 have e:(iK.getD (9:Int).toNat default).n=5:=rfl;exact MJ):G:=h
def L2{G:Prop} (h:G:=by
 go_roundw
 case rel=>exact⟨j+1,X,gn,A.trans af⟩
 case measure=>exact mz):G:=h
def L3{G:Prop} (h:G:=by
 have e:(iK.getD (8:Int).toNat default).n=5:=rfl;exact MJ):G:=h
def L9{G:Prop} (h:G:=by
 clear MS
 try simp only[b_]at MT |-
 exact MC):G:=h
def Ma{G:Prop} (h:G:=by
 intro y hy
 rcases N_.1 hy with rfl|hy
 .omega
 .exact eI y (jC.1 hy)):G:=h
def Me{G:Prop} (h:G:=by
 split
 .exact(o.lm (jo _ _ _)).lm ⟨rfl,rfl,rfl,rfl⟩
 .exact o):G:=h
def Mf{G:Prop} (h:G:=by
 rintro e w1⟨rfl,hg1⟩;exact MT.out _ _ (C.g_ hg1) (hg1.mono s_) rfl):G:=h
def Mh{G:Prop} (h:G:=by
 unfold hY og at hv;simp only[FP]at hv;exact FZ.mp hv.1.1.2 k (zu hk)):G:=h
def Mj{G:Prop} (h:G:=by
 apply GM
 .simp
 .intro i h1 h2;simp only[Gg,Gw];split<;>rfl):G:=h
def Mn{G:Prop} (h:G:=by
 injection hy with hy;subst hy;exact z.lm ⟨rfl,rfl,rfl,rfl⟩):G:=h
def Mo{G:Prop} (h:G:=by
 go_wp2;go_ret;exact⟨kq (by rw[E.out,nN _ _ _ _ X]),F⟩):G:=h
def Mt{G:Prop} (h:G:=by
 go_wp2;rw[aI.out];exact⟨rfl,hg.trans F⟩):G:=h
def Mu{G:Prop} (h:G:=by
 go_wp2;go_meet;exact⟨i9 aV.out.symm,rfl⟩):G:=h
def MC{G:Prop} (h:G:=by
 go_simp;exact MT.out _ _ C (H _ _) rfl):G:=h
def MG{G:Prop} (h:G:=by
 exact h.lm ⟨rfl,rfl,rfl,rfl⟩):G:=h
def MH{G:Prop} (h:G:=by
 unfold GS.g8;rw[K_];exact this):G:=h
def MI{G:Prop} (h:G:=by
 rw[FF h]at this
 cases this):G:=h
def MJ{G:Prop} (h:G:=by
 rw[e]at h;simp at h;omega):G:=h
def MK{G:Prop} (h:G:=by
 simp only[lR,ST.ic,aH]
 rfl):G:=h
def ML{G:Prop} (h:G:=by
 simpa using this):G:=h
