import Derived.Test.YtenbhdilndfaeaaGreatProg
import Derived.Below
import Derived.ChangeOld
import Derived.Deep.Cut
import Derived.Deep.QuietTactic
import Derived.Deep.SlicePairs
import Derived.Laws.Rows
import Derived.Lib.SmallJoins
import Derived.OpenShut
import Derived.ProofKit
import Derived.ShutString
import Derived.WalkKit
set_option maxRecDepth 100000
set_option linter.all false
namespace Go.Proofs.YtenbhdilndfaeaaGreat
open Go.RowKit
abbrev QZ:=List Oper
abbrev QY:=List Nat
abbrev QW:=List Value
abbrev QU:=List ByteArray
abbrev QR:=List Int
def k_{G:Prop}(h:G:=by kernel_rfl):G:=h
def X{G:Prop}(h:G:=by omega):G:=h
def I{G:Prop}(h:G:=by decide):G:=h
def H{G:Prop}(h:G:=by simp):G:=h
def p_{G:Prop}(h:G:=by simp;omega):G:=h
def r_{G:Prop}(h:G:=by rfl):G:=h
abbrev Y(x:Int):Value:=.int .i64 x
abbrev n_:Value:=.slice none 0 0
abbrev e_:Value:=.string {data:=#[]}
abbrev Z(x k:Nat):Addr:=⟨x,k,none⟩
abbrev j_(x:Nat):Option Addr:=some ⟨x,0,none⟩
abbrev q_(x:Nat):Value:=.pointer (some ⟨x,0,none⟩)
def O{p:Prop}(h:p):Hid p:=h
def rr_{P:Program}{fn:Func}{R:Ending->World->Prop}{a:Act}{w:World}{p:Tmp}{ty:TypeId}{g:Nat}{t:TypeId}{fr:Nat × Nat}{d:TypeDesc}(cs:Array Value)(hg:w.heap[g]?=some (.cells cs t fr))(hu:P.underlying ty=some d)(hR:R (.returned (.agg cs)) w)
 (h:fn.results=#[.cell p ty]:=by rfl) (hp:a.tmps.getD p undef=q_ g:=by rfl) (hd:(match d with|.struct _|.array _ _=>true|_=>false)=true:=by rfl) (hi:(P.info? ty).map (·.size)=some cs.size:=by kernel_rfl) (hf:a.defers=[]:=by rfl):bodyPost P fn R .ret a w:=bodyPost_ret (v:=.agg cs) (results_cell_row h _ _ _ _ _ _ _ hp hg hu hd hi) hf hR
def rn_{P:Program}{fn:Func}{R:Ending->World->Prop}{a:Act}{w:World}(hR:R (.returned (.tuple #[])) w)(h:fn.results=#[]:=by rfl)(hf:a.defers=[]:=by rfl):bodyPost P fn R .ret a w:=bodyPost_ret (v:=.tuple #[]) (results_none h _ _ _) hf hR
def en_{P:Program}{fn:Func}{R:Ending->World->Prop}{a:Act}{w:World}(hR:R (.returned (.tuple #[])) w)(h:fn.results=#[]:=by rfl)(hf:a.defers=[]:=by rfl):bodyPost P fn R .normal a w:=bodyPost_end (v:=.tuple #[]) (results_none h _ _ _) hf hR
def a_:(∀ (a:Act) (i:Tmp) (v:Value),a.put (some i) v=⟨a.tmps.setIfInBounds i v,a.defers⟩) /\ (∀ (a:Act) (v:Value),a.put none v=a) /\
 (∀ {b:Type} (l:List b) (i:Nat) (a:b),l.toArray.setIfInBounds i a=(l.set i a).toArray) /\ (∀ {b:Type} (x y:b) (l:List b),(x::l).set 0 y=y::l) /\ (∀ {b:Type} (x y:b) (l:List b) (i:Nat),(x::l).set (i+1) y=x::l.set i y):=by
 refine⟨λ_ _ _=>rfl,λ_ _=>rfl,λ_ _ _=>by simp,λ_ _ _=>rfl,λ_ _ _ _=>rfl⟩
def sd_{G:Prop}(h:G:=by first|(simp;done)|(simp;omega)|fail):G:=h
def gs_{G:Prop}(h:G:=by first|(go_simp;done)|(go_simp;with_reducible rfl)|fail):G:=h
def nm_{c:Type}(a:c):∃b,b=a:=⟨a,rfl⟩
def mn_{c:Type}(a:c):∃b,a=b:=⟨a,rfl⟩
abbrev S_:Array Value:=#[Y 0,e_,e_,Y 0,Y 0,n_,n_,n_]
abbrev E_:Array Value:=#[Y 0,Y 0,e_,Y 0,n_]
abbrev OA:=Option Addr
def ov{A G:Prop}(x:A)(h:A->G:=by intro q;omega):G:=h x
def gn{G:Prop}(h:G:=by go_num):G:=h
def mz{G:Prop}(h:G:=by simp[intOf];omega):G:=h
def zu{A B:Prop}(x:A)(h:A->B:=by intro q;simpa using q):B:=h x
open Classical in
open Go.RowKit Go.Maps
open Go.RowKit Go.Proofs.Tryz
abbrev G_:=@Nat.le_trans
abbrev H_:=@Nat.le_refl
abbrev I_:=@List.length_append
abbrev J_:=@List.mem_singleton
abbrev K_:=@List.getElem?_eq_getElem
abbrev L_:=@Nat.zero_le
abbrev M_:=@Array.getElem?_setIfInBounds
abbrev N_:=@List.getElem_mem
abbrev O_:=@List.mem_cons
abbrev Q_:=@List.take_succ_eq_append_getElem
abbrev R_:=@List.drop_eq_getElem_cons
abbrev T_:=@if_neg
abbrev U_:=@if_pos
abbrev W_:=@List.mem_append
abbrev X_:=@Nat.zero_add
abbrev Y_:=@List.length_cons
abbrev Z_:=@congrArg
abbrev F7:=@List.take_of_length_le
abbrev F8:=@Array.getElem?_eq_none
abbrev F9:=@Array.getD_eq_getD_getElem?
abbrev Ga:=@Nat.lt_or_ge
abbrev Gb:=@Array.getElem?_eq_getElem
abbrev Gc:=@absurd
abbrev Gd:=@List.map_append
abbrev Ge:=@List.mem_map
abbrev Gf:=@List.nil_append
abbrev Gg:=@List.length_map
abbrev Gh:=@List.eq_nil_of_length_eq_zero
abbrev Gi:=@List.flatMap_cons
abbrev Gj:=@List.mem_cons_of_mem
abbrev Gk:=@List.getElem?_eq_none
abbrev Gl:=@List.length_set
abbrev Gm:=@IntWalk.i64_in
abbrev Gn:=@List.mem_append_left
abbrev Gp:=@List.length_take
abbrev Gq:=@Bool.and_eq_true
abbrev Gs:=@List.flatMap_append
abbrev Gu:=@bodyPost_ret
abbrev Gv:=@decide_eq_true
abbrev Gw:=@List.mem_or_eq_of_mem_set
abbrev Gx:=@List.map_cons
abbrev Gy:=@List.all_eq_true
abbrev Gz:=@List.length_nil
abbrev GC:=@List.length_filter_le
abbrev GD:=@List.drop_eq_nil_of_le
abbrev GE:=@List.append_assoc
abbrev GF:=@List.getElem?_map
abbrev GG:=@List.drop_of_length_le
abbrev GH:=@Int.le_refl
abbrev GI:=@List.mem_range
abbrev GJ:=@List.length_replicate
abbrev GM:=@List.mem_cons_self
abbrev GN:=@Array.getElem?_eq_some_iff
abbrev GQ:=@List.length_drop
abbrev GR:=@Nat.eq_zero_or_pos
abbrev GT:=@List.getElem?_append_left
abbrev GX:=@List.mem_of_mem_take
abbrev GY:=@List.getElem_append_left
abbrev GZ:=@Int.toNat_natCast
abbrev G0:=@run_underlying
abbrev G1:=@List.getElem?_take
abbrev G3:=@Nat.not_le
abbrev G4:=@List.getElem?_cons_zero
abbrev G5:=@List.getElem_append_right
abbrev G6:=@decide_eq_false
abbrev G7:=@List.getElem_modify
abbrev G9:=@List.setIfInBounds_toArray
abbrev Ha:=@List.getElem_cons_zero
abbrev Hb:=@results_cell_row
abbrev Hc:=@Option.getD_some
abbrev Hd:=@Int.toNat_of_nonneg
abbrev He:=@decide_eq_true_eq
abbrev Hf:=@List.map_nil
abbrev Hg:=@Nat.lt_of_lt_of_le
abbrev Hh:=@List.set_cons_succ
abbrev Hj:=@List.take_length
abbrev Hk:=@List.getElem?_append_right
abbrev Hl:=@Array.getElem?_setIfInBounds_ne
abbrev Hm:=@List.take_append_drop
abbrev Hn:=@List.mem_append_right
abbrev Ho:=@List.set_cons_zero
abbrev Hp:=@Nat.add_mul
abbrev Hq:=@List.getElem_map
abbrev Hr:=@List.filter_cons
abbrev Hs:=@List.mem_of_mem_drop
abbrev Ht:=@List.getElem?_cons_succ
abbrev Hu:=@List.getElem_of_mem
abbrev Hv:=@List.append_nil
abbrev Hw:=@List.map_toArray
abbrev Hx:=@List.cons_append
abbrev Hy:=@IntKind.wrap_i64
abbrev Hz:=@Option.isSome_some
abbrev HC:=@Nat.add_zero
abbrev HE:=@Nat.add_assoc
abbrev HF:=@List.getElem_range
abbrev HH:=@List.filter_append
abbrev HI:=@List.getElem?_eq_some_iff
abbrev HJ:=@List.nodup_append
abbrev HK:=@List.mem_filter
abbrev HL:=@List.length_range
abbrev HN:=@List.foldl_cons
abbrev HO:=@List.foldl_append
abbrev HP:=@Array.getElem?_replicate
abbrev HQ:=@Int.mul_le_mul_of_nonneg_right
abbrev HR:=@Nat.le_mul_of_pos_right
abbrev HS:=@ByteArray.toList_eq
abbrev HT:=@List.mem_flatMap
abbrev HU:=@List.ext_getElem
abbrev HV:=@List.getElem_cons_succ
abbrev HW:=@of_decide_eq_true
abbrev HX:=@Nat.mod_two_eq_zero_or_one
abbrev HY:=@Nat.mul_le_mul_right
abbrev H0:=@List.mem_map_of_mem
abbrev H1:=@Nat.zero_mul
abbrev H2:=@decide_eq_false_iff_not
abbrev H3:=@Option.isSome_none
abbrev H4:=@List.nodup_cons
abbrev H5:=@List.length_modify
abbrev H6:=@List.getElem?_drop
abbrev H7:=@Bool.or_eq_true
abbrev H8:=@Bool.false_or
abbrev Ia:=@Array.all_eq_true_iff_forall_mem
abbrev Ib:=@List.flatMap_singleton
abbrev Ic:=@List.ext_getElem?
abbrev Id:=@List.length_singleton
abbrev Ie:=@Option.getD_none
abbrev If:=@List.sum_cons
abbrev Ig:=@Nat.min_eq_left
abbrev Ih:=@Array.length_toList
abbrev Ii:=@Array.toList_setIfInBounds
abbrev Ij:=@heap_alloc_new
abbrev Ik:=@List.getElem?_set
abbrev Il:=@Array.any_eq_true
abbrev Io:=@Nat.one_mul
abbrev Ip:=@List.any_cons
abbrev Iq:=@List.getElem_replicate
abbrev Ir:=@List.find?_cons_of_pos
abbrev It:=@results_tmp2
abbrev Iu:=@Option.map_some
abbrev Iv:=@List.set_append_right
abbrev Iw:=@List.getElem?_toArray
abbrev Ix:=@Int.lt_or_le
abbrev Iy:=@Bool.true_or
abbrev Iz:=@Array.getElem?_setIfInBounds_self_of_lt
abbrev IA:=@List.pairwise_append
abbrev IB:=@List.mem_iff_getElem
abbrev IC:=@List.getElem?_modify
abbrev ID:=@List.nodup_nil
abbrev IE:=@Bool.and_false
abbrev IF:=@List.take_succ_cons
abbrev IG:=@List.drop_set_of_lt
abbrev IH:=@of_decide_eq_false
abbrev II:=@List.mem_replicate
abbrev IJ:=@List.mem_filterMap
def IW{G:Prop} (h:G:=by
 have bg:=O (show js (hX l) id=iM (λr:Rw=>r.o.id==id) l 0 by unfold js hX;exact oY _ _ _ _ λ_ _=>rfl);generalize hL:l.length=n at*;have aT:Bk (w.alloc (.cells #[.slice A n c] 35)) w.heap.size 35 #[.slice A n c]:=P_ w _ _;have h0:(w.alloc (.cells #[.slice A n c] 35)).cell? (Z w.heap.size 0)=some (.slice A n c):=aT.f_ 0;go_enter func55,ntmps55;go_wp2;go_loopw [10] (λi w'=>∃k:Nat,k<=n/\i=Y k/\js (hX l) id=iM (λr:Rw=>r.o.id==id) (l.drop k) k/\J [] w w') (λi _=>n-(intOf i).toNat)
 case atStart=>exact⟨0,L_ _,rfl,bg.out,(F_ _ _).alloc _⟩
 obtain⟨k,hk,rfl,T,F⟩:=hrel;have aN:=O T;clear T;by_cases ag:k<n
 .have aE:k<l.length:=X;obtain⟨b,off,rfl,bj,bn⟩:=(h.hF F).at_ aE;by_cases hv:l[k].o.id=id
  .have a:(l[k].o.id==id)=true:=by simp[hv]
   clear hv;go_wp2;go_ret;exact⟨kh (by rw[aN.out,lA _ _ _ _ X a]),F.alloc _⟩
  have a:(l[k].o.id==id)=false:=by simp[hv]
  go_wp2;go_roundw;exact⟨k+1,X,gn,by rw[aN.out,kt _ _ _ _ X a],F.alloc _⟩;exact mz
 exact MZ):G:=h
def I6{G:Prop} (h:G:=by
 rintro e w2⟨rfl,Np⟩;rw[K.out];have P:=bo.gr Np H;have s:=a.gr Np H;have z0:w2.cell? (Z w.heap.size 0)=some (.slice A l.length c):=s.f_ 0;have Nt:=(h.hF Nv).hF Np;have cg:=(hr.hF Nv).hF Np;obtain⟨b,off,rfl,bj,bn⟩:=Nt.at_ aE;obtain⟨hv,bw⟩:=cg l[k] (N_ aE);go_wp2_with fail;go_at_call 56;refine(qo l[k].o l[k].A l[k].c _ hv bw).mono ?_;rintro e af⟨aY,c3,rfl,aB,S⟩;have P:=P.gr S H;obtain⟨U,ah⟩:=P.iA;have C:=P.hG 0;have d:=P.hG 1;go_wp2;have q:=(P.hU 0 (Y l[k].o.id)).hU 1 (.slice aY l[k].o.fs.length c3);refine lW #[Y l[k].o.id,.slice aY l[k].o.fs.length c3] (.bool true) q underlying56 ⟨aY,c3,rfl,?_,?_⟩;exact Sl.iq aB P I (((F_ [w.heap.size+1] af).setCell (.inl H) _).setCell (.inl H) _);exact(((Nv.trans Np).trans S).setCell (.inr H) _).setCell (.inr H) _):G:=h
def Ja{G:Prop} (h:G:=by
 intro vs V C Nw K Nu;obtain⟨⟨ta,o,ap,E⟩,⟨tb,aq,ao,d⟩, -⟩:=Nw;try simp only[b_,o,aq]at Nu |-
 obtain⟨Np,b5,b6,b7,b8,b9,ca⟩:=ta;obtain⟨em,eo,ep,er,et,eu,ev⟩:=tb;simp only[ET.ik]at Nu |-;go_simp;refine Nu.out _ _ (C.hF ((F_ [] _).alloc _)) ((F_ _ _).alloc _) ⟨_,[ET.mk Np b5 b6 b7 b8 b9 ca,ET.mk em eo ep er et eu ev],rfl,rfl,C.r.lt,sX (ET.mk Np b5 b6 b7 b8 b9 ca) (ET.mk em eo ep er et eu ev) (P_ _ _ _),?_⟩;exact Kv):G:=h
def Jm{G:Prop} (h:G:=by
 intro f vs V hf C Nw K Nu;exact Js):G:=h
def Jn{G:Prop} (h:G:=by
 intro vs V C Nw K Nu;obtain⟨⟨ta,o,ap,E⟩, -⟩:=Nw;try simp only[b_,o]at Nu |-
 obtain⟨Np,b5,b6,b7,b8,b9,ca⟩:=ta;simp only[ET.ik]at Nu |-;go_simp;refine Nu.out _ _ (C.hF ((F_ [] _).alloc _)) ((F_ _ _).alloc _) ⟨_,[ET.mk Np b5 b6 b7 b8 b9 ca],rfl,rfl,C.r.lt,nJ (ET.mk Np b5 b6 b7 b8 b9 ca) (P_ _ _ _),?_⟩;exact LT):G:=h
def Js{G:Prop} (h:G:=by
 obtain⟨⟨ta,o,ap,E⟩, -⟩:=Nw;try simp only[b_,o]at Nu |-
 obtain⟨Np,b5,b6,b7,b8,b9,ca⟩:=ta;simp only[ET.ik]at Nu |-;go_simp;refine Nu.out _ _ (C.hF ((F_ [] _).alloc _)) ((F_ _ _).alloc _) ⟨_,[ET.mk Np b5 b6 b7 b8 b9 ca],rfl,rfl,C.hz,nJ (ET.mk Np b5 b6 b7 b8 b9 ca) (P_ _ _ _),?_⟩;exact LT):G:=h
def JB{G:Prop} (h:G:=by
 intro f vs V hf C Nw K Nu;obtain⟨⟨ta,o,ap,E⟩, -⟩:=Nw;try simp only[b_,o]at Nu |-
 obtain⟨s1,aW,cx,df,bY,bU,cp,dt,cQ,bB,sb,sc,dO,dP⟩:=ta;simp only[ST.ik]at Nu |-;go_simp;exact Nu.out _ _ (C.hF ((F_ [] _).alloc _)) ((F_ _ _).alloc _) ⟨_,ST.mk s1 aW cx df bY bU cp dt cQ bB sb sc dO dP,rfl,C.hz,P_ _ _ _,ap.hF ((F_ [] _).alloc _),E⟩):G:=h
def JI{G:Prop} (h:G:=by
 obtain⟨⟨ta,o,ap,E⟩,⟨tb,aq,ao,d⟩, -⟩:=Nw;try simp only[b_,o,aq]at Nu |-
 go_simp;go_at_call 143;refine(oG W.heap.size 10 ta tb C.hz ap ao).mono ?_;rintro e w1⟨A,rfl,Nt,hg1⟩;exact Nu.out _ _ (C.hF hg1) (hg1.mono H) ⟨p5 10 A ta tb,rfl,Nt,.bin 0 _ _ _ _ X X (E.mono X) (d.mono X)⟩):G:=h
def JJ{G:Prop} (h:G:=by
 rintro e w2⟨rfl,Np⟩;have P:=bo.gr Np H;obtain⟨U,ah⟩:=P.iA;have C:=P.hG 0;have d:=P.hG 1;have bK:¬0<=js (hX l) id:=X;clear ag;go_wp2;have q:=(P.hU 0 (Y 0)).hU 1 (n_);refine lW #[Y 0,n_] (.bool false) q underlying56 ⟨rfl,?_⟩;exact M0):G:=h
def JM{G:Prop} (h:G:=by
 intro vs V C Nw K Nu;obtain⟨o, -⟩:=Nw;replace o:_=_:=o;try simp only[b_,o]at Nu |-
 go_simp;go_at_call 140;refine(kL B g m left loops fn 1 X _ rfl _ C.d C.m hBm).mono ?_;exact Lx):G:=h
def JN{G:Prop} (h:G:=by
 refine⟨λh0=>(by rw[h0]at hr;cases hr),λq ar=>?_⟩;rw[hr]at ar;rcases O_.1 ar with rfl|ar
 exact wpOp_step (jI h1) (λe Nu=>hi e (λa w C aV=>Nu a w ⟨C,aV⟩));have:q=j:=zu ar;subst this;exact wpOp_step (jI h2) (λe Nu=>hj e (λa w C aV=>Nu a w ⟨C,aV⟩))):G:=h
def JP{G:Prop} (h:G:=by
 intro vs V C Nw K Nu;obtain⟨⟨ta,o,ap,E⟩, -⟩:=Nw;try simp only[b_,o]at Nu |-
 refine iZ k_ ?_;refine ic 229 rfl R0 r_ ta.g_ r_ 229 C.r rfl k_ (ST.one _) ?_;exact Ly):G:=h
def JV{G:Prop} (h:G:=by
 intro vs V C Nw K Nu;obtain⟨o, -⟩:=Nw;replace o:_=_:=o;try simp only[b_,o]at Nu |-
 exact KE):G:=h
def JZ{G:Prop} (h:G:=by
 rcases cA with⟨_,e,_⟩|⟨_,_,n,_,Nt⟩
 rw[e];exact⟨L_ _,λt ht=>by cases ht⟩;refine⟨by have:=Nt.len;rwa [Gg]at this,λt ht=>?_⟩;have hm:=H0 (f:=Tk.p) ht;exact⟨Nt.fl E.val _ hm,(Nt.tf E.val hl _ hm).1.sm⟩):G:=h
def J2{G:Prop} (h:G:=by
 obtain⟨⟨ad,o,cN,a7⟩, -⟩:=Nw;try simp only[b_,o]at Nu |-
 go_simp;go_at_call 144;refine(kf _).mono ?_;rintro e w1⟨rfl,hg1⟩;exact Nu.out _ _ (C.hF hg1) (hg1.mono H) ⟨jx ad,rfl,kw.leaf _ _ _ _ _ _,.num _ _ X X⟩):G:=h
def J5{G:Prop} (h:G:=by
 intro vs V C Nw K Nu;obtain⟨o, -⟩:=Nw;replace o:_=_:=o;try simp only[b_,o]at Nu |-
 obtain⟨dh,a,bz,cV⟩:=id C;have U:=a.f_ 0;have ah:=a.f_ 1;have ay:=a.f_ 2;have aS:=a.f_ 3;exact Nc):G:=h
def J6{G:Prop} (h:G:=by
 intro vs V C Nw K Nu;obtain⟨⟨a8,o,bu,be⟩,⟨rb,aq,dw,c6⟩, -⟩:=Nw;try simp only[b_,o,aq]at Nu |-
 obtain⟨k,rfl⟩:∃k:Nat,rb=k:=⟨rb.toNat,X⟩;go_simp;exact Nu.out _ _ C (F_ _ _) ⟨a8,k,rfl,X,bu,be⟩):G:=h
def Kj{G:Prop} (h:G:=by
 intro vs V C Nw K Nu;obtain⟨⟨a8,E,o,a7,bu,be⟩, -⟩:=Nw;try simp only[b_,o]at Nu |-
 obtain⟨s,hs,bG⟩:=BQ E X;exact Mz):G:=h
def Kl{G:Prop} (h:G:=by
 clear Nw;try simp only[b_]at Nu |-
 go_simp;go_at_call 144;refine(kf _).mono ?_;rintro e w1⟨rfl,hg1⟩;exact Nu.out _ _ (C.hF hg1) (hg1.mono H) ⟨jx 1,rfl,kw.leaf _ _ _ _ _ _,.num _ _ X X⟩):G:=h
def Kv{G:Prop} (h:G:=by
 intro u hu;rcases O_.1 hu with rfl|hu
 .exact⟨ap.hF ((F_ [] _).alloc _),E.mono X⟩
 rcases O_.1 hu with rfl|hu
 .exact⟨ao.hF ((F_ [] _).alloc _),d.mono X⟩
 cases hu):G:=h
def KC{G:Prop} (h:G:=by
 refine hS [] ?_;intro vs V C Nw K Nu;clear Nw;try simp only[b_]at Nu |-
 exact LV):G:=h
def KE{G:Prop} (h:G:=by
 go_simp;go_at_call 19;refine(ij B g _ C.d X X).mono ?_;exact LE):G:=h
def KJ{G:Prop} (h:G:=by
 clear t0 t1 Q;exact K1):G:=h
def KM{G:Prop} (h:G:=by
 obtain⟨b,off,hA,hc⟩:=Sl.f_ h X;exact⟨b,off,hA,hc (k*2+0) _ (j4 Rw.E (λ_=>rfl) l k 0 hk X),hc (k*2+1) _ (j4 Rw.E (λ_=>rfl) l k 1 hk X)⟩):G:=h
def KN{G:Prop} (h:G:=by
 obtain⟨b,off,hA,hc⟩:=Sl.f_ h X;exact⟨b,off,hA,hc (k*2+0) _ (j4 Vl.E (λ_=>rfl) l k 0 hk X),hc (k*2+1) _ (j4 Vl.E (λ_=>rfl) l k 1 hk X)⟩):G:=h
def KR{G:Prop} (h:G:=by
 clear t0;exact K1):G:=h
def KW{G:Prop} (h:G:=by
 unfold Oper.wp execOp;simp only[ho,resolve,invoke,builtin,Sem.run_bind,Sem.run_pure,Result.andThen_ok,Hw,Gx,Hf,hs,hx,L];exact h A' c' w' h2 h3 am):G:=h
def KZ{G:Prop} (h:G:=by
 unfold Oper.wp execOp;simp only[ho,resolve,invoke,builtin,Sem.run_bind,Sem.run_pure,Result.andThen_ok,Hw,Gx,Hf,hs,hx,L];exact h A' c' w' h2 h3):G:=h
def K1{G:Prop} (h:G:=by
 go_wp2_with fail;go_quiet (fail);go_wp2;go_roundw;exact⟨k+1,gn,X,by rw[Nu.out,bD.out];omega,F.drewN _⟩;exact mz):G:=h
def K2{G:Prop} (h:G:=by
 intro a b ha hb x hx;rcases W_.1 hx with hx|hx
 rcases W_.1 hx with hx|hx
 .exact ha x hx
 rw[J_.1 hx];exact ho;exact hb x hx):G:=h
def K3{G:Prop} (h:G:=by
 split;exact hp _ _ (λx hx=>av x (GX hx)) (λx hx=>av x (Hs hx));exact hp _ _ (λx hx=>av x (GX hx)) (λx hx=>av x (Hs hx))):G:=h
def K4{G:Prop} (h:G:=by
 intro d fz h2;have h3:w.heap[g]?=some (.cells cs t (0,0)):=h;rw[h3]at h2;injection h2 with h2;injection h2 with _ h2 _;exact ax h2.symm):G:=h
def K6{G:Prop} (h:G:=by
 intro vs bw C;simp only[b_];obtain⟨t,aB,Nt,ar,aI,T⟩:=C;go_wp2;exact rr_ t.g_ aB underlying229 ⟨t,rfl,Nt.le X,ar,aI,Nv.hI T p_⟩):G:=h
def La{G:Prop} (h:G:=by
 exact⟨b,off,hA,hc (k*5+0) _ (g 0 X),hc (k*5+1) _ (g 1 X),hc (k*5+2) _ (g 2 X),hc (k*5+3) _ (g 3 X),hc (k*5+4) _ (g 4 X)⟩):G:=h
def Le{G:Prop} (h:G:=by
 intro vs V C Nw K Nu;exact LI):G:=h
def Ll{G:Prop} (h:G:=by
 clear t0 t1 Q;exact LG):G:=h
def Ln{G:Prop} (h:G:=by
 clear t0 t1;exact LG):G:=h
def Lr{G:Prop} (h:G:=by
 obtain⟨b,off,hA,hc⟩:=Sl.row pL h hk;exact⟨b,off,hA,hc 0 _ rfl,hc 1 _ rfl,hc 2 _ rfl,hc 3 _ rfl,hc 4 _ rfl⟩):G:=h
def Lw{G:Prop} (h:G:=by
 refine jg [] ?_;intro f vs V hf C Nw K Nu;exact MI):G:=h
def Lx{G:Prop} (h:G:=by
 rintro e w1⟨t,rfl,Nt,ar,a2,hg1⟩;exact Nu.out _ _ (C.step hg1 a2 ag z) (hg1.mono H) ⟨t,rfl,Nt.le C.r.lt,ar⟩):G:=h
def Ly{G:Prop} (h:G:=by
 intro Nr aB T;exact Nu.out undef _ (λ_=>⟨ta,aB,ap.ih T H,E,C.d.ih T p_,(C.g.mono H).trans (T.mono H)⟩)):G:=h
def LA{G:Prop} (h:G:=by
 refine hS [] ?_;intro vs V C Nw K Nu;exact MI):G:=h
def LB{G:Prop} (h:G:=by
 rcases h2.2 with⟨rfl,h0⟩|⟨g,lR,cur,rfl,_⟩
 exact⟨none,0,by rw[h0]⟩;exact⟨_,_,rfl⟩):G:=h
def LD{G:Prop} (h:G:=by
 refine wpQuiet_nil ?_;intro _ A;obtain⟨Np,Nw⟩:=A;subst Nw;go_wp2;go_meet;exact⟨jd HB.out.symm,Np.2⟩):G:=h
def LE{G:Prop} (h:G:=by
 rintro e w1⟨r,rfl,h0,h1,a2,hg1⟩;exact Nu.out _ _ (C.step hg1 a2 ag z) (hg1.mono H) ⟨r,rfl,h0,h1⟩):G:=h
def LG{G:Prop} (h:G:=by
 go_wp2_with fail;go_quiet (fail);go_wp2;go_meet;exact⟨k,rfl,hk,by rw[Nu.out,bD.out];omega,F.drewN _⟩):G:=h
def LH{G:Prop} (h:G:=by
 obtain⟨b,off,hA,hc⟩:=Sl.row rx h hk;exact⟨b,off,hA,hc 0 _ rfl,hc 1 _ rfl,hc 2 _ rfl,hc 3 _ rfl⟩):G:=h
def LI{G:Prop} (h:G:=by
 obtain⟨o, -⟩:=Nw;replace o:_=_:=o;try simp only[b_,o]at Nu |-
 exact Nc):G:=h
def LT{G:Prop} (h:G:=by
 intro u hu;rcases O_.1 hu with rfl|hu
 .exact⟨ap.hF ((F_ [] _).alloc _),E.mono X⟩
 cases hu):G:=h
def LV{G:Prop} (h:G:=by
 go_simp;exact L8):G:=h
def LZ{G:Prop} (h:G:=by
 unfold GS.lg at aG |-;simp only[iX.mk.injEq]at aG |-;exact⟨aG.1,aG.2.1,trivial,aG.2.2.2⟩):G:=h
def L3{G:Prop} (h:G:=by
 rcases GR l.length with h0|h0
 exact h0;obtain⟨b,off,hA,_⟩:=Sl.f_ h h0;cases hA):G:=h
def L8{G:Prop} (h:G:=by
 exact Nu.out _ _ (C.hF ((F_ [] _).alloc _)) ((F_ _ _).alloc _) ⟨_,rfl,C.r.lt,P_ _ _ _⟩):G:=h
def Mg{G:Prop} (h:G:=by
 rw[T_ he,atKey_put_other (by intro e;injection e with _ e;exact he e)];exact h3 i hi):G:=h
def Mi{G:Prop} (h:G:=by
 rcases Ga j s with h|h
 exact h;rw[Gk (by rw[hE];exact h)]at hu;cases hu):G:=h
def Mp{G:Prop} (h:G:=by
 obtain⟨D,⟨es,d,h1,h2⟩,h3⟩:=h;exact⟨D,⟨es,d,hb.trans h1,h2⟩,h3⟩):G:=h
def Mx{G:Prop} (h:G:=by
 rcases Ga b w.heap.size with ag|bK
 exact ag;rw[F8 bK]at hb;cases hb):G:=h
def Mz{G:Prop} (h:G:=by
 have ah:=(be.f_ E).trans bG;go_simp;exact Nu.out _ _ C (F_ _ _) ⟨s,hs,rfl⟩):G:=h
def MA{G:Prop} (h:G:=by
 have hv:=aY;unfold ia at hv;simp only[Gq,He]at hv;exact hv.1.1.1.1.1.1.1.2):G:=h
def MF{G:Prop} (h:G:=by
 go_roundw;exact⟨j+1,X,gn,A.trans ad⟩;exact mz):G:=h
def MI{G:Prop} (h:G:=by
 clear Nw;try simp only[b_]at Nu |-
 exact Nc):G:=h
def ML{G:Prop} (h:G:=by
 intro y hy;rcases O_.1 hy with rfl|hy
 omega;exact eX y (jK.1 hy)):G:=h
def MP{G:Prop} (h:G:=by
 rintro e w1⟨rfl,hg1⟩;exact Nu.out _ _ (C.hF hg1) (hg1.mono H) rfl):G:=h
def MR{G:Prop} (h:G:=by
 unfold ia oa at hv;simp only[Gq]at hv;exact Gy.mp hv.1.1.2 k (zu hk)):G:=h
def MU{G:Prop} (h:G:=by
 apply HU;simp;intro i h1 h2;simp only[Hq,G7];split<;>rfl):G:=h
def MZ{G:Prop} (h:G:=by
 go_wp2;go_ret;exact⟨kh (by rw[aN.out,l0 _ _ _ _ X]),F⟩):G:=h
def M0{G:Prop} (h:G:=by
 exact((Nv.trans Np).setCell (.inr H) _).setCell (.inr H) _):G:=h
def M4{G:Prop} (h:G:=by
 go_wp2;go_meet;exact⟨jd HB.out.symm,rfl⟩):G:=h
def M5{G:Prop} (h:G:=by
 go_wp2;rw[ao.out];exact⟨rfl,hg.trans F⟩):G:=h
def Nc{G:Prop} (h:G:=by
 go_simp;exact Nu.out _ _ C (F_ _ _) rfl):G:=h
def Ni{G:Prop} (h:G:=by
 unfold GS.g_;rw[I_];exact this):G:=h
def Nj{G:Prop} (h:G:=by
 rw[F8 h]at this;cases this):G:=h
def Nk{G:Prop} (h:G:=by
 rw[e]at h;simp at h;omega):G:=h
def Nl{G:Prop} (h:G:=by
 simp only[lT,ST.ik,bF];rfl):G:=h
def Nn{G:Prop} (h:G:=by
 exact⟨rfl,rfl⟩):G:=h
def No{G:Prop} (h:G:=by
 simpa using this):G:=h
