import Derived.Test.YtenbhdilndfaeaaGreatProg
import Derived.Below
import Derived.ChangeOld
import Derived.Deep.Cut
import Derived.Deep.QuietTactic
import Derived.Deep.SlicePairs
import Derived.Laws.Rows
import Derived.Lib.SmallJoins
import Derived.OpenShut
import Derived.ProofKit
import Derived.ShutString
import Derived.WalkKit
set_option maxRecDepth 100000
set_option linter.all false
namespace Go.Proofs.YtenbhdilndfaeaaGreat
open Go.RowKit
def k_{G:Prop}(h:G:=by kernel_rfl):G:=h
def X{G:Prop}(h:G:=by omega):G:=h
def O{G:Prop}(h:G:=by decide):G:=h
def J{G:Prop}(h:G:=by simp):G:=h
def p_{G:Prop}(h:G:=by simp;omega):G:=h
def r_{G:Prop}(h:G:=by rfl):G:=h
abbrev Y(x:Int):Value:=.int .i64 x
abbrev n_:Value:=.slice none 0 0
abbrev e_:Value:=.string {data:=#[]}
abbrev Z(x k:Nat):Addr:=⟨x,k,none⟩
abbrev j_(x:Nat):Option Addr:=some ⟨x,0,none⟩
abbrev q_(x:Nat):Value:=.pointer (some ⟨x,0,none⟩)
def U{p:Prop}(h:p):Hid p:=h
def rr_{P:Program}{fn:Func}{R:Ending->World->Prop}{a:Act}{w:World}{p:Tmp}{ty:TypeId}{g:Nat}{t:TypeId}{fr:Nat × Nat}{d:TypeDesc}(cs:Array Value)(hg:w.heap[g]?=some (.cells cs t fr))(hu:P.underlying ty=some d)(hR:R (.returned (.agg cs)) w)
 (h:fn.results=#[.cell p ty]:=by rfl) (hp:a.tmps.getD p undef=q_ g:=by rfl) (hd:(match d with|.struct _|.array _ _=>true|_=>false)=true:=by rfl) (hi:(P.info? ty).map (·.size)=some cs.size:=by kernel_rfl) (hf:a.defers=[]:=by rfl):bodyPost P fn R .ret a w:=bodyPost_ret (v:=.agg cs) (results_cell_row h _ _ _ _ _ _ _ hp hg hu hd hi) hf hR
def rn_{P:Program}{fn:Func}{R:Ending->World->Prop}{a:Act}{w:World}(hR:R (.returned (.tuple #[])) w)(h:fn.results=#[]:=by rfl)(hf:a.defers=[]:=by rfl):bodyPost P fn R .ret a w:=bodyPost_ret (v:=.tuple #[]) (results_none h _ _ _) hf hR
def en_{P:Program}{fn:Func}{R:Ending->World->Prop}{a:Act}{w:World}(hR:R (.returned (.tuple #[])) w)(h:fn.results=#[]:=by rfl)(hf:a.defers=[]:=by rfl):bodyPost P fn R .normal a w:=bodyPost_end (v:=.tuple #[]) (results_none h _ _ _) hf hR
def a_:(∀ (a:Act) (i:Tmp) (v:Value),a.put (some i) v=⟨a.tmps.setIfInBounds i v,a.defers⟩) /\ (∀ (a:Act) (v:Value),a.put none v=a) /\
 (∀ {b:Type} (l:List b) (i:Nat) (a:b),l.toArray.setIfInBounds i a=(l.set i a).toArray) /\ (∀ {b:Type} (x y:b) (l:List b),(x::l).set 0 y=y::l) /\ (∀ {b:Type} (x y:b) (l:List b) (i:Nat),(x::l).set (i+1) y=x::l.set i y):=by
 refine⟨λ_ _ _=>rfl,λ_ _=>rfl,λ_ _ _=>by simp,λ_ _ _=>rfl,λ_ _ _ _=>rfl⟩
def sd_{G:Prop}(h:G:=by first|(simp;done)|(simp;omega)|fail):G:=h
def gs_{G:Prop}(h:G:=by first|(go_simp;done)|(go_simp;with_reducible rfl)|fail):G:=h
def nm_{c:Type}(a:c):∃b,b=a:=⟨a,rfl⟩
def mn_{c:Type}(a:c):∃b,a=b:=⟨a,rfl⟩
abbrev S_:Array Value:=#[Y 0,e_,e_,Y 0,Y 0,n_,n_,n_]
abbrev E_:Array Value:=#[Y 0,Y 0,e_,Y 0,n_]
abbrev OA:=Option Addr
def ov{A G:Prop}(x:A)(h:A->G:=by intro q;omega):G:=h x
def gn{G:Prop}(h:G:=by go_num):G:=h
def mz{G:Prop}(h:G:=by simp[intOf];omega):G:=h
def zu{A B:Prop}(x:A)(h:A->B:=by intro q;simpa using q):B:=h x
open Classical in
open Go.RowKit Go.Maps
open Go.RowKit Go.Proofs.Tryz
abbrev G_:=@Nat.le_trans
abbrev H_:=@Nat.le_refl
abbrev I_:=@List.mem_singleton
abbrev J_:=@List.length_append
abbrev K_:=@List.getElem?_eq_getElem
abbrev L_:=@Array.getElem?_setIfInBounds
abbrev M_:=@List.mem_cons
abbrev N_:=@Nat.zero_le
abbrev O_:=@List.getElem_mem
abbrev Q_:=@List.drop_eq_getElem_cons
abbrev R_:=@if_neg
abbrev T_:=@List.take_succ_eq_append_getElem
abbrev U_:=@if_pos
abbrev W_:=@Nat.zero_add
abbrev X_:=@List.mem_append
abbrev Y_:=@Array.getElem?_eq_none
abbrev Z_:=@congrArg
abbrev FK:=@List.length_cons
abbrev FN:=@Array.getD_eq_getD_getElem?
abbrev FP:=@List.take_of_length_le
abbrev FQ:=@List.mem_map
abbrev FR:=@Array.getElem?_eq_getElem
abbrev FU:=@absurd
abbrev FV:=@List.map_append
abbrev FW:=@Nat.lt_or_ge
abbrev FX:=@List.mem_cons_of_mem
abbrev FY:=@List.nil_append
abbrev FZ:=@List.eq_nil_of_length_eq_zero
abbrev F0:=@Bool.and_eq_true
abbrev F1:=@List.length_set
abbrev F2:=@List.getElem?_eq_none
abbrev F3:=@List.mem_or_eq_of_mem_set
abbrev F4:=@List.all_eq_true
abbrev F5:=@IntWalk.i64_in
abbrev F6:=@bodyPost_ret
abbrev F7:=@List.length_nil
abbrev F8:=@List.flatMap_append
abbrev F9:=@List.mem_append_left
abbrev Ga:=@List.flatMap_cons
abbrev Gb:=@List.drop_eq_nil_of_le
abbrev Gc:=@List.append_assoc
abbrev Gd:=@decide_eq_true
abbrev Ge:=@List.length_map
abbrev Gf:=@List.getElem?_map
abbrev Gg:=@Int.le_refl
abbrev Gh:=@List.length_replicate
abbrev Gi:=@List.mem_cons_self
abbrev Gj:=@List.length_take
abbrev Gk:=@Array.getElem?_eq_some_iff
abbrev Gl:=@Nat.eq_zero_or_pos
abbrev Gm:=@List.map_cons
abbrev Gn:=@List.mem_range
abbrev Gp:=@List.mem_of_mem_take
abbrev Gq:=@List.getElem_append_left
abbrev Gs:=@Int.toNat_natCast
abbrev Gu:=@run_underlying
abbrev Gv:=@List.getElem?_take
abbrev Gx:=@List.length_filter_le
abbrev Gy:=@Nat.not_le
abbrev Gz:=@List.getElem?_cons_zero
abbrev GC:=@List.getElem_append_right
abbrev GD:=@List.drop_of_length_le
abbrev GE:=@decide_eq_true_eq
abbrev GF:=@List.setIfInBounds_toArray
abbrev GG:=@List.getElem_cons_zero
abbrev GH:=@List.getElem?_append_left
abbrev GI:=@Option.getD_some
abbrev GJ:=@List.getElem_modify
abbrev GM:=@Int.toNat_of_nonneg
abbrev GN:=@Nat.lt_of_lt_of_le
abbrev GQ:=@List.set_cons_succ
abbrev GR:=@List.take_length
abbrev GT:=@List.getElem?_append_right
abbrev GU:=@Array.getElem?_setIfInBounds_ne
abbrev GX:=@decide_eq_false
abbrev GY:=@List.mem_filter
abbrev GZ:=@List.map_nil
abbrev G0:=@List.set_cons_zero
abbrev G1:=@Nat.add_mul
abbrev G3:=@List.mem_flatMap
abbrev G4:=@List.getElem?_cons_succ
abbrev G5:=@results_cell_row
abbrev G6:=@List.map_toArray
abbrev G7:=@List.length_drop
abbrev G9:=@List.getElem_map
abbrev Ha:=@IntKind.wrap_i64
abbrev Hb:=@Nat.add_zero
abbrev Hc:=@List.mem_append_right
abbrev Hd:=@List.filter_append
abbrev He:=@List.getElem?_eq_some_iff
abbrev Hf:=@List.foldl_cons
abbrev Hg:=@List.foldl_append
abbrev Hh:=@Array.getElem?_replicate
abbrev Hj:=@Int.mul_le_mul_of_nonneg_right
abbrev Hk:=@Nat.le_mul_of_pos_right
abbrev Hl:=@Nat.add_assoc
abbrev Hm:=@List.getElem_of_mem
abbrev Hn:=@ByteArray.toList_eq
abbrev Ho:=@List.filter_cons
abbrev Hp:=@List.ext_getElem
abbrev Hq:=@List.cons_append
abbrev Hr:=@List.getElem_cons_succ
abbrev Hs:=@Option.isSome_some
abbrev Ht:=@List.getElem_range
abbrev Hu:=@List.take_append_drop
abbrev Hv:=@List.nodup_append
abbrev Hw:=@List.length_range
abbrev Hx:=@Nat.mod_two_eq_zero_or_one
abbrev Hy:=@Nat.mul_le_mul_right
abbrev Hz:=@List.mem_of_mem_drop
abbrev HB:=@Nat.zero_mul
abbrev HC:=@decide_eq_false_iff_not
abbrev HE:=@List.getElem?_drop
abbrev HF:=@Bool.or_eq_true
abbrev HH:=@Bool.false_or
abbrev HI:=@Array.all_eq_true_iff_forall_mem
abbrev HJ:=@List.flatMap_singleton
abbrev HK:=@List.ext_getElem?
abbrev HL:=@List.length_singleton
abbrev HN:=@Option.getD_none
abbrev HO:=@List.pairwise_append
abbrev HP:=@List.take_succ_cons
abbrev HQ:=@List.nodup_cons
abbrev HR:=@List.mem_map_of_mem
abbrev HS:=@List.append_nil
abbrev HT:=@Array.length_toList
abbrev HU:=@Array.toList_setIfInBounds
abbrev HV:=@Option.isSome_none
abbrev HW:=@List.length_modify
abbrev HX:=@heap_alloc_new
abbrev HY:=@List.nodup_nil
abbrev H0:=@of_decide_eq_true
abbrev H1:=@List.getElem?_set
abbrev H2:=@Array.any_eq_true
abbrev H3:=@Nat.one_mul
abbrev H4:=@List.any_cons
abbrev H5:=@List.getElem_replicate
abbrev H6:=@List.find?_cons_of_pos
abbrev H7:=@results_tmp2
abbrev H8:=@Option.map_some
abbrev Ia:=@Nat.min_eq_left
abbrev Ib:=@List.set_append_right
abbrev Ic:=@List.getElem?_toArray
abbrev Id:=@Int.lt_or_le
abbrev Ie:=@Bool.true_or
abbrev If:=@Array.getElem?_setIfInBounds_self_of_lt
abbrev Ig:=@List.getElem?_modify
abbrev Ih:=@List.drop_set_of_lt
abbrev Ii:=@of_decide_eq_false
abbrev Ij:=@List.pairwise_cons
abbrev Ik:=@List.mem_replicate
abbrev Il:=@List.mem_filterMap
def IB{G:Prop} (h:G:=by
 have bl:=U (show jr (hX l) id=iE (λr:Rw=>r.o.id==id) l 0 by unfold jr hX;exact oW _ _ _ _ λ_ _=>rfl);generalize hL:l.length=n at*;have aV:Bk (w.alloc (.cells #[.slice A n c] 35)) w.heap.size 35 #[.slice A n c]:=P_ w _ _;have h0:(w.alloc (.cells #[.slice A n c] 35)).cell? (Z w.heap.size 0)=some (.slice A n c):=aV.f_ 0
 go_enter func55,ntmps55
 go_wp2
 go_loopw [10] (λi w'=>∃k:Nat,k<=n/\i=Y k/\jr (hX l) id=iE (λr:Rw=>r.o.id==id) (l.drop k) k/\I [] w w') (λi _=>n-(intOf i).toNat)
 case atStart=>exact⟨0,N_ _,rfl,bl.out,(H _ _).alloc _⟩
 case round=>
  obtain⟨k,hk,rfl,G,F⟩:=hrel;have E:=U G;clear G
  by_cases af:k<n
  .have aD:k<l.length:=X;obtain⟨b,off,rfl,bj,bz⟩:=(h.hF F).at_ aD
   by_cases hv:l[k].o.id=id
   .have a:(l[k].o.id==id)=true:=by simp[hv]
    clear hv;go_wp2;go_ret;exact⟨jZ (by rw[E.out,k2 _ _ _ _ X a]),F.alloc _⟩
   .have a:(l[k].o.id==id)=false:=by simp[hv]
    go_wp2;go_roundw
    case rel=>exact⟨k+1,X,gn,by rw[E.out,ka _ _ _ _ X a],F.alloc _⟩
    case measure=>exact mz
  .exact Mt):G:=h
def II{G:Prop} (h:G:=by
 refine hZ 10 λK MY=>?_
 go_simp;have av:=P_ ad 56 #[Y 0,n_];have aF:I [] aI (ad.alloc (.cells #[Y 0,n_] 56)):=(L.trans MS).alloc _;clear C;have C:(ad.alloc (.cells #[Y 0,n_] 56)).cell? (Z gx 36)=some (.slice aC.h.A aC.h.l.length aC.h.c)/\(ad.alloc (.cells #[Y 0,n_] 56)).cell? (Z aP 0)=some (.bool v.r)/\(ad.alloc (.cells #[Y 0,n_] 56)).cell? (Z aP 1)=some (Y v.n):=⟨((B.bk.hF aF).f_ 36).trans rfl,(i.hF aF).f_ 0,(i.hF aF).f_ 1⟩;have MV:=av.f_ 0;have MU:=av.f_ 1;have bB:=av.hG 0;have bM:=av.hG 1
 refine h4 MY C λC=>?_
 clear MY K
 refine hZ 11 λK MY=>?_
 go_simp;have Q:=P_ ad 56 #[Y 0,n_];have bt:I [] aI (ad.alloc (.cells #[Y 0,n_] 56)):=(L.trans MS).alloc _;clear C
 refine h4 MY ⟨((B.bk.hF bt).f_ 36).trans rfl,(i.hF bt).f_ 0,(i.hF bt).f_ 1⟩ λC=>?_
 clear MY K;refine iv 12 C ?_;refine hM k_ ?_ _;go_wp2;go_meet;exact⟨ad.heap.size,none,0,rfl,rfl,Q,bt⟩):G:=h
def IL{G:Prop} (h:G:=by
 rintro e w2⟨rfl,M0⟩;rw[aw.out];have P:=ae.gr M0 J;have s:=MY.gr M0 J;have z0:w2.cell? (Z w.heap.size 0)=some (.slice A l.length c):=s.f_ 0;have Q:=(h.hF MZ).hF M0;have ck:=(hr.hF MZ).hF M0;obtain⟨b,off,rfl,bj,bz⟩:=Q.at_ aD;obtain⟨hv,bi⟩:=ck l[k] (O_ aD)
 go_wp2_with fail
 go_at_call 56
 refine(qo l[k].o l[k].A l[k].c _ hv bi).mono ?_;rintro e ag⟨bg,aO,rfl,V,S⟩;have P:=P.gr S J;obtain⟨MV,MU⟩:=P.iC;have L:=P.hG 0;have C:=P.hG 1;go_wp2;have d:=(P.hV 0 (Y l[k].o.id)).hV 1 (.slice bg l[k].o.fs.length aO);refine lO #[Y l[k].o.id,.slice bg l[k].o.fs.length aO] (.bool true) d underlying56 ⟨bg,aO,rfl,?_,?_⟩
 .exact Sl.it V P O (((H [w.heap.size+1] ag).setCell (.inl J) _).setCell (.inl J) _)
 .exact(((MZ.trans M0).trans S).setCell (.inr J) _).setCell (.inr J) _):G:=h
def IQ{G:Prop} (h:G:=by
 intro vs Q C M0 K MY;obtain⟨⟨ta,o,aq,E⟩,⟨aI,aL,V,d⟩, -⟩:=M0
 try simp only[b_,o,aL]at MY |-
 obtain⟨bF,bH,bJ,b0,b4,b5,b6⟩:=ta;obtain⟨eg,eh,ei,ej,ek,em,eo⟩:=aI;simp only[ET.ij]at MY |-;go_simp;refine MY.out _ _ (C.hF ((H [] _).alloc _)) ((H _ _).alloc _) ⟨_,[ET.mk bF bH bJ b0 b4 b5 b6,ET.mk eg eh ei ej ek em eo],rfl,rfl,C.r.lt,sX (ET.mk bF bH bJ b0 b4 b5 b6) (ET.mk eg eh ei ej ek em eo) (P_ _ _ _),?_⟩;exact Kb):G:=h
def I1{G:Prop} (h:G:=by
 have Q:=(av.hV 0 (Y a.id)).hV 1 (.slice aM a.fs.length c4);have T:=((H [aI.heap.size] ad).setCell (p:=(Z aI.heap.size 0)) (.inl J) (Y a.id)).setCell (p:=(Z aI.heap.size 1)) (.inl J) (.slice aM a.fs.length c4);have bt:=c.hJ T (by first|(simp;done)|(simp;exact Ee));clear C
 refine h4 MY ⟨((B.bk.hF bt).f_ 36).trans rfl,(i.hF bt).f_ 0,(i.hF bt).f_ 1⟩ λC=>?_
 clear MY K;refine iv 12 C ?_;refine hM k_ ?_ _;go_wp2;go_meet;exact⟨aI.heap.size,aM,c4,rfl,rfl,Q,bt⟩):G:=h
def I4{G:Prop} (h:G:=by
 have Q:=(av.hV 0 (Y 0)).hV 1 (n_);have T:=((H [aI.heap.size] ad).setCell (p:=(Z aI.heap.size 0)) (.inl J) (Y 0)).setCell (p:=(Z aI.heap.size 1)) (.inl J) (n_);have bt:=c.hJ T (by first|(simp;done)|(simp;exact Ee));clear C
 refine h4 MY ⟨((B.bk.hF bt).f_ 36).trans rfl,(i.hF bt).f_ 0,(i.hF bt).f_ 1⟩ λC=>?_
 clear MY K;refine iv 12 C ?_;refine hM k_ ?_ _;go_wp2;go_meet;exact⟨aI.heap.size,none,0,rfl,rfl,Q,bt⟩):G:=h
def I5{G:Prop} (h:G:=by
 refine h4 MY C λC=>?_
 clear MY K
 refine hZ 11 λK MY=>?_
 go_simp;have Q:=P_ ad 56 #[Y a.id,.slice aM a.fs.length c4];have bt:I [] aI (ad.alloc (.cells #[Y a.id,.slice aM a.fs.length c4] 56)):=(L.trans MS).alloc _;clear C
 refine h4 MY ⟨((B.bk.hF bt).f_ 36).trans rfl,(i.hF bt).f_ 0,(i.hF bt).f_ 1⟩ λC=>?_
 clear MY K;refine iv 12 C ?_;refine hM k_ ?_ _;go_wp2;go_meet;exact⟨ad.heap.size,aM,c4,rfl,rfl,Q,bt⟩):G:=h
def I6{G:Prop} (h:G:=by
 intro f vs Q hf C M0 K MY;exact Jb):G:=h
def I7{G:Prop} (h:G:=by
 intro vs Q C M0 K MY;obtain⟨⟨ta,o,aq,E⟩, -⟩:=M0
 try simp only[b_,o]at MY |-
 obtain⟨bF,bH,bJ,b0,b4,b5,b6⟩:=ta;simp only[ET.ij]at MY |-;go_simp;refine MY.out _ _ (C.hF ((H [] _).alloc _)) ((H _ _).alloc _) ⟨_,[ET.mk bF bH bJ b0 b4 b5 b6],rfl,rfl,C.r.lt,nF (ET.mk bF bH bJ b0 b4 b5 b6) (P_ _ _ _),?_⟩;exact Lu):G:=h
def Jb{G:Prop} (h:G:=by
 obtain⟨⟨ta,o,aq,E⟩, -⟩:=M0
 try simp only[b_,o]at MY |-
 obtain⟨bF,bH,bJ,b0,b4,b5,b6⟩:=ta;simp only[ET.ij]at MY |-;go_simp;refine MY.out _ _ (C.hF ((H [] _).alloc _)) ((H _ _).alloc _) ⟨_,[ET.mk bF bH bJ b0 b4 b5 b6],rfl,rfl,C.hz,nF (ET.mk bF bH bJ b0 b4 b5 b6) (P_ _ _ _),?_⟩;exact Lu):G:=h
def Jj{G:Prop} (h:G:=by
 intro f vs Q hf C M0 K MY;obtain⟨⟨ta,o,aq,E⟩, -⟩:=M0
 try simp only[b_,o]at MY |-
 obtain⟨s1,b7,cz,dn,ca,bV,cr,dq,cJ,bG,sb,sc,dL,dM⟩:=ta;simp only[ST.ij]at MY |-;go_simp;exact MY.out _ _ (C.hF ((H [] _).alloc _)) ((H _ _).alloc _) ⟨_,ST.mk s1 b7 cz dn ca bV cr dq cJ bG sb sc dL dM,rfl,C.hz,P_ _ _ _,aq.hF ((H [] _).alloc _),E⟩):G:=h
def Js{G:Prop} (h:G:=by
 rintro e w2⟨rfl,M0⟩;have P:=ae.gr M0 J;obtain⟨MV,MU⟩:=P.iC;have L:=P.hG 0;have C:=P.hG 1;have bF:¬0<=jr (hX l) id:=X;clear af;go_wp2;have d:=(P.hV 0 (Y 0)).hV 1 (n_);refine lO #[Y 0,n_] (.bool false) d underlying56 ⟨rfl,?_⟩;exact Mu):G:=h
def Jt{G:Prop} (h:G:=by
 obtain⟨⟨ta,o,aq,E⟩,⟨aI,aL,V,d⟩, -⟩:=M0
 try simp only[b_,o,aL]at MY |-
 go_simp
 go_at_call 143
 refine(oF W.heap.size 10 ta aI C.hz aq V).mono ?_;rintro e w1⟨A,rfl,MX,hg1⟩;exact MY.out _ _ (C.hF hg1) (hg1.mono J) ⟨pY 10 A ta aI,rfl,MX,.bin 0 _ _ _ _ X X (E.mono X) (d.mono X)⟩):G:=h
def Ju{G:Prop} (h:G:=by
 intro vs Q C M0 K MY;obtain⟨o, -⟩:=M0;replace o:_=_:=o
 try simp only[b_,o]at MY |-
 go_simp
 go_at_call 140
 refine(kF B g m left loops fn 1 X _ rfl _ C.d C.m hBm).mono ?_;exact K4):G:=h
def Jv{G:Prop} (h:G:=by
 refine⟨λh0=>(by rw[h0]at hr;cases hr),λq ao=>?_⟩;rw[hr]at ao
 rcases M_.1 ao with rfl|ao
 .exact wpOp_step (jH h1) (λe MY=>hi e (λa w C aW=>MY a w ⟨C,aW⟩))
 .have:q=j:=zu ao
  subst this;exact wpOp_step (jH h2) (λe MY=>hj e (λa w C aW=>MY a w ⟨C,aW⟩))):G:=h
def Jy{G:Prop} (h:G:=by
 intro vs Q C M0 K MY;obtain⟨⟨ta,o,aq,E⟩, -⟩:=M0
 try simp only[b_,o]at MY |-
 refine iZ k_ ?_;refine ia 229 rfl R0 r_ ta.g_ r_ 229 C.r rfl k_ (ST.one _) ?_;exact K9):G:=h
def JD{G:Prop} (h:G:=by
 intro vs Q C M0 K MY;obtain⟨o, -⟩:=M0;replace o:_=_:=o
 try simp only[b_,o]at MY |-
 exact Kj):G:=h
def JJ{G:Prop} (h:G:=by
 obtain⟨⟨a6,o,cR,bT⟩, -⟩:=M0
 try simp only[b_,o]at MY |-
 go_simp
 go_at_call 144
 refine(kb _).mono ?_;rintro e w1⟨rfl,hg1⟩;exact MY.out _ _ (C.hF hg1) (hg1.mono J) ⟨jz a6,rfl,kq.leaf _ _ _ _ _ _,.num _ _ X X⟩):G:=h
def JM{G:Prop} (h:G:=by
 intro vs Q C M0 K MY;obtain⟨o, -⟩:=M0;replace o:_=_:=o
 try simp only[b_,o]at MY |-
 obtain⟨c7,j,ct,cQ⟩:=id C;have MV:=j.f_ 0;have MU:=j.f_ 1;have au:=j.f_ 2;have aP:=j.f_ 3;exact MG):G:=h
def JO{G:Prop} (h:G:=by
 intro vs Q C M0 K MY;obtain⟨⟨be,o,bj,bi⟩,⟨rb,aL,dj,c3⟩, -⟩:=M0
 try simp only[b_,o,aL]at MY |-
 obtain⟨k,rfl⟩:∃k:Nat,rb=k:=⟨rb.toNat,X⟩;go_simp;exact MY.out _ _ C (H _ _) ⟨be,k,rfl,X,bj,bi⟩):G:=h
def JZ{G:Prop} (h:G:=by
 clear M0
 try simp only[b_]at MY |-
 go_simp
 go_at_call 144
 refine(kb _).mono ?_;rintro e w1⟨rfl,hg1⟩;exact MY.out _ _ (C.hF hg1) (hg1.mono J) ⟨jz 1,rfl,kq.leaf _ _ _ _ _ _,.num _ _ X X⟩):G:=h
def J1{G:Prop} (h:G:=by
 intro vs Q C M0 K MY;obtain⟨⟨be,E,o,bT,bj,bi⟩, -⟩:=M0
 try simp only[b_,o]at MY |-
 obtain⟨s,hs,aH⟩:=BN E X;exact L9):G:=h
def Kb{G:Prop} (h:G:=by
 intro u hu
 rcases M_.1 hu with rfl|hu
 .exact⟨aq.hF ((H [] _).alloc _),E.mono X⟩
 rcases M_.1 hu with rfl|hu
 .exact⟨V.hF ((H [] _).alloc _),d.mono X⟩
 cases hu):G:=h
def Ki{G:Prop} (h:G:=by
 refine hS [] ?_;intro vs Q C M0 K MY;clear M0
 try simp only[b_]at MY |-
 exact Lw):G:=h
def Kj{G:Prop} (h:G:=by
 go_simp
 go_at_call 19
 refine(iw B g _ C.d X X).mono ?_;exact Ld):G:=h
def Ko{G:Prop} (h:G:=by
 clear t0 t1 ah;exact KF):G:=h
def Kr{G:Prop} (h:G:=by
 obtain⟨b,off,hA,hc⟩:=Sl.f_ h X;exact⟨b,off,hA,hc (k*2+0) _ (j0 Vl.E (λ_=>rfl) l k 0 hk X),hc (k*2+1) _ (j0 Vl.E (λ_=>rfl) l k 1 hk X)⟩):G:=h
def Kt{G:Prop} (h:G:=by
 obtain⟨b,off,hA,hc⟩:=Sl.f_ h X;exact⟨b,off,hA,hc (k*2+0) _ (j0 Rw.E (λ_=>rfl) l k 0 hk X),hc (k*2+1) _ (j0 Rw.E (λ_=>rfl) l k 1 hk X)⟩):G:=h
def Ky{G:Prop} (h:G:=by
 clear t0;exact KF):G:=h
def KC{G:Prop} (h:G:=by
 unfold Oper.wp execOp;simp only[ho,resolve,invoke,builtin,Sem.run_bind,Sem.run_pure,Result.andThen_ok,G6,Gm,GZ,hs,hx,N];exact h A' c' w' h2 h3 aw):G:=h
def KE{G:Prop} (h:G:=by
 unfold Oper.wp execOp;simp only[ho,resolve,invoke,builtin,Sem.run_bind,Sem.run_pure,Result.andThen_ok,G6,Gm,GZ,hs,hx,N];exact h A' c' w' h2 h3):G:=h
def KF{G:Prop} (h:G:=by
 go_wp2_with fail
 go_quiet (fail)
 go_wp2;go_roundw
 case rel=>exact⟨k+1,gn,X,by rw[z.out,bu.out];omega,F.drewN _⟩
 case measure=>exact mz):G:=h
def KH{G:Prop} (h:G:=by
 intro c fz h2;have h3:w.heap[g]?=some (.cells cs t (0,0)):=h;rw[h3]at h2;injection h2 with h2;injection h2 with _ h2 _;exact ar h2.symm):G:=h
def KJ{G:Prop} (h:G:=by
 intro vs bu C;simp only[b_];obtain⟨t,aB,MX,ao,aX,G⟩:=C;go_wp2;exact rr_ t.g_ aB underlying229 ⟨t,rfl,MX.le X,ao,aX,MZ.hJ G p_⟩):G:=h
def KN{G:Prop} (h:G:=by
 exact⟨b,off,hA,hc (k*5+0) _ (g 0 X),hc (k*5+1) _ (g 1 X),hc (k*5+2) _ (g 2 X),hc (k*5+3) _ (g 3 X),hc (k*5+4) _ (g 4 X)⟩):G:=h
def KT{G:Prop} (h:G:=by
 intro vs Q C M0 K MY;exact Lj):G:=h
def KX{G:Prop} (h:G:=by
 clear t0 t1 ah;exact Lg):G:=h
def KZ{G:Prop} (h:G:=by
 clear t0 t1;exact Lg):G:=h
def K1{G:Prop} (h:G:=by
 obtain⟨b,off,hA,hc⟩:=Sl.row pH h hk;exact⟨b,off,hA,hc 0 _ rfl,hc 1 _ rfl,hc 2 _ rfl,hc 3 _ rfl,hc 4 _ rfl⟩):G:=h
def K4{G:Prop} (h:G:=by
 rintro e w1⟨t,rfl,MX,ao,aU,hg1⟩;exact MY.out _ _ (C.step hg1 aU af aM) (hg1.mono J) ⟨t,rfl,MX.le C.r.lt,ao⟩):G:=h
def K8{G:Prop} (h:G:=by
 refine jf [] ?_;intro f vs Q hf C M0 K MY;exact Mg):G:=h
def K9{G:Prop} (h:G:=by
 intro ae aB G;exact MY.out undef _ (λ_=>⟨ta,aB,aq.ih G J,E,C.d.ih G p_,(C.g.mono J).trans (G.mono J)⟩)):G:=h
def Lb{G:Prop} (h:G:=by
 refine hS [] ?_;intro vs Q C M0 K MY;exact Mg):G:=h
def Lc{G:Prop} (h:G:=by
 rcases h2.2 with⟨rfl,h0⟩|⟨g,l3,cur,rfl,_⟩
 .exact⟨none,0,by rw[h0]⟩
 .exact⟨_,_,rfl⟩):G:=h
def Ld{G:Prop} (h:G:=by
 rintro e w1⟨r,rfl,h0,h1,aU,hg1⟩;exact MY.out _ _ (C.step hg1 aU af aM) (hg1.mono J) ⟨r,rfl,h0,h1⟩):G:=h
def Lg{G:Prop} (h:G:=by
 go_wp2_with fail
 go_quiet (fail)
 go_wp2;go_meet;exact⟨k,rfl,hk,by rw[z.out,bu.out];omega,F.drewN _⟩):G:=h
def Lh{G:Prop} (h:G:=by
 refine wpQuiet_nil ?_;intro _ A;obtain⟨L,o⟩:=A;subst o;go_wp2;go_meet;exact⟨jc bi.out.symm,L.2⟩):G:=h
def Li{G:Prop} (h:G:=by
 obtain⟨b,off,hA,hc⟩:=Sl.row rx h hk;exact⟨b,off,hA,hc 0 _ rfl,hc 1 _ rfl,hc 2 _ rfl,hc 3 _ rfl⟩):G:=h
def Lj{G:Prop} (h:G:=by
 obtain⟨o, -⟩:=M0;replace o:_=_:=o
 try simp only[b_,o]at MY |-
 exact MG):G:=h
def Ln{G:Prop} (h:G:=by
 have q:=(sI x.p (x.sr d) n).sr;rw[k.out]at q
 have bN:ak.p.sr=x.p.sr:=by rw[ai.out];exact q
 exact bN):G:=h
def Lu{G:Prop} (h:G:=by
 intro u hu
 rcases M_.1 hu with rfl|hu
 .exact⟨aq.hF ((H [] _).alloc _),E.mono X⟩
 cases hu):G:=h
def Lw{G:Prop} (h:G:=by
 go_simp;exact LG):G:=h
def Ly{G:Prop} (h:G:=by
 unfold GS.lg at aK |-;simp only[iX.mk.injEq]at aK |-;exact⟨aK.1,aK.2.1,trivial,aK.2.2.2⟩):G:=h
def LB{G:Prop} (h:G:=by
 rcases Gl l.length with h0|h0
 .exact h0
 .obtain⟨b,off,hA,_⟩:=Sl.f_ h h0
  cases hA):G:=h
def LG{G:Prop} (h:G:=by
 exact MY.out _ _ (C.hF ((H [] _).alloc _)) ((H _ _).alloc _) ⟨_,rfl,C.r.lt,P_ _ _ _⟩):G:=h
def LL{G:Prop} (h:G:=by
 rw[R_ he,atKey_put_other (by intro e;injection e with _ e;exact he e)];exact h3 i hi):G:=h
def LW{G:Prop} (h:G:=by
 obtain⟨D,⟨es,i,h1,h2⟩,h3⟩:=h;exact⟨D,⟨es,i,hb.trans h1,h2⟩,h3⟩):G:=h
def L5{G:Prop} (h:G:=by
 rcases FW b w.heap.size with af|bF
 .exact af
 .rw[Y_ bF]at hb
  cases hb):G:=h
def L7{G:Prop} (h:G:=by
 rw[HM.out];exact⟨_,rfl,bT,rfl,aD.it ((H [gx] _).setCell (.inl J) _)⟩):G:=h
def L8{G:Prop} (h:G:=by
 have hv:=aD;unfold ic at hv;simp only[F0,GE]at hv;exact hv.1.1.1.1.1.1.1.2):G:=h
def L9{G:Prop} (h:G:=by
 have MU:=(bi.f_ E).trans aH;go_simp;exact MY.out _ _ C (H _ _) ⟨s,hs,rfl⟩):G:=h
def Mf{G:Prop} (h:G:=by
 go_roundw
 case rel=>exact⟨j+1,X,gn,A.trans MS⟩
 case measure=>exact mz):G:=h
def Mg{G:Prop} (h:G:=by
 clear M0
 try simp only[b_]at MY |-
 exact MG):G:=h
def Mi{G:Prop} (h:G:=by
 intro y hy
 rcases M_.1 hy with rfl|hy
 .omega
 .exact eY y (jK.1 hy)):G:=h
def Ml{G:Prop} (h:G:=by
 rintro e w1⟨rfl,hg1⟩;exact MY.out _ _ (C.hF hg1) (hg1.mono J) rfl):G:=h
def Mn{G:Prop} (h:G:=by
 unfold ic n6 at hv;simp only[F0]at hv;exact F4.mp hv.1.1.2 k (zu hk)):G:=h
def Mo{G:Prop} (h:G:=by
 apply Hp
 .simp
 .intro i h1 h2;simp only[G9,GJ];split<;>rfl):G:=h
def Mt{G:Prop} (h:G:=by
 go_wp2;go_ret;exact⟨jZ (by rw[E.out,lu _ _ _ _ X]),F⟩):G:=h
def Mu{G:Prop} (h:G:=by
 exact((MZ.trans M0).setCell (.inr J) _).setCell (.inr J) _):G:=h
def My{G:Prop} (h:G:=by
 go_wp2;go_meet;exact⟨jc bi.out.symm,rfl⟩):G:=h
def Mz{G:Prop} (h:G:=by
 go_wp2;rw[aq.out];exact⟨rfl,hg.trans F⟩):G:=h
def MB{G:Prop} (h:G:=by
 rw[HM.out];exact⟨ak,rfl,B,ai.out,l⟩):G:=h
def MG{G:Prop} (h:G:=by
 go_simp;exact MY.out _ _ C (H _ _) rfl):G:=h
def ML{G:Prop} (h:G:=by
 unfold GS.g_;rw[J_];exact this):G:=h
def MM{G:Prop} (h:G:=by
 rw[Y_ h]at this
 cases this):G:=h
def MN{G:Prop} (h:G:=by
 rw[e]at h;simp at h;omega):G:=h
def MO{G:Prop} (h:G:=by
 simp only[lN,ST.ij,aJ]
 rfl):G:=h
def MP{G:Prop} (h:G:=by
 exact⟨rfl,rfl⟩):G:=h
def MR{G:Prop} (h:G:=by
 simpa using this):G:=h
