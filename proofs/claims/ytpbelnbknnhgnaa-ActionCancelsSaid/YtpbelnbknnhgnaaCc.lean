/- ActionCancels, walked. -/
import Derived.Test.YtpbelnbknnhgnaaCa
namespace Go.Proofs.Ytpbelnbknnhgnaa
open Go.RowKit

def lenOf : Value → Nat
  | .slice _ n _ => n
  | _ => 0
theorem held_put (f : Int → Option Int) (T v : Int) : (fun t => ((if t = T then some v else f t).getD 0)) = fun t => if t = T then v else (f t).getD 0 := by
  funext t
  split <;> rfl
theorem Cst.opn_at {l : List Dd} {g : Int} {opn_ : List Int} {held : Int → Int} {want : List Ac} (C : Cst l g opn_ held want) {t : Int} (ht : t ∈ opn_) : opn l t = some (held t) := by
  obtain ⟨op, h1, _, h3⟩ := C.ok
  rw [← opn_eq h1]; exact h3 t ht
theorem Cst.sc {l : List Dd} {g : Int} {opn_ : List Int} {held : Int → Int} {want : List Ac} (C : Cst l g opn_ held want) : ∃ op, scan l = some (g, op) := by
  obtain ⟨op, h1, _⟩ := C.ok
  exact ⟨op, h1⟩
theorem Cst.bd {l : List Dd} {g : Int} {opn_ : List Int} {held : Int → Int} {want : List Ac} (C : Cst l g opn_ held want) : 0 ≤ g ∧ g ≤ l.length := by
  obtain ⟨op, h1⟩ := C.sc
  have K := scan_known l.length l rfl h1
  exact ⟨K.nonneg, K.le⟩
theorem Cst.open_ {l : List Dd} {g : Int} {opn_ : List Int} {held : Int → Int} {want : List Ac} (C : Cst l g opn_ held want) : refOpen l = opn_ := by
  obtain ⟨op, h1, h2, _⟩ := C.ok
  exact asc_eq (refOpen_sorted h1) C.asc (fun t => by rw [refOpen_mem h1, h2])
theorem settled_none {l : List Dd} {T t v : Int} (h : ∃ op, scan l = some (T, op)) (ho : opn l t = some v) : opn (l ++ [⟨3, t, v, plainA⟩]) t = none := by
  obtain ⟨op, hs⟩ := h
  have h1 : op t = some v := (opn_eq hs t).trans ho
  have h2 := scan_settle hs h1 (k := 3) (by omega)
  rw [← opn_eq h2]; simp
theorem held_wf {l : List Dd} {t v : Int} (hw : wfl l) (h : opn l t = some v) : wf64 v := by
  have hr : rsv l t = some v := by
    unfold opn at h
    split at h
    · cases h
    · exact h
  unfold rsv at hr
  cases hf : l.find? (fun d => d.kind == 1 && d.ticket == t) with
  | none => rw [hf] at hr; cases hr
  | some d =>
    rw [hf] at hr
    have : d.value = v := by simpa using hr
    rw [← this]
    exact (hw d (List.mem_of_find?_eq_some hf)).2

theorem CI.putN {w wr : World} {base g p6 p8 N Nn : Nat} {l l' : List Dd} {T T' : Int} {A A' : Option Addr} {c c' : Nat} {ol : List Int} {A7 : Option Addr} {c7 : Nat} {want : List Ac} {A9 : Option Addr} {c9 : Nat} {f : Int → Option Int}
    (h : CI w wr base g p6 p8 N l T A c ol A7 c7 want A9 c9 f) (hN : l'.length = Nn) (hs : Sl wr 32 6 A' Nn (dcells l')) : CI w ((wr.setCell ⟨p6, 0, none⟩ (.slice A' Nn c')).setCell ⟨p6, 1, none⟩ (.int .i64 T')) base g p6 p8 N l' T' A' c' ol A7 c7 want A9 c9 f := by
  subst hN; exact h.put hs
theorem CI.new7 {w wr : World} {base g p6 p8 N : Nat} {l : List Dd} {T : Int} {A : Option Addr} {c : Nat} {ol ol' : List Int} {A7 A7' : Option Addr} {c7 c7' : Nat} {want : List Ac} {A9 : Option Addr} {c9 : Nat} {f : Int → Option Int}
    (h : CI w wr base g p6 p8 N l T A c ol A7 c7 want A9 c9 f) (ho : wr.ownsRow base 2 1 (.slice A7' ol'.length c7') ol'.length (ol'.map (.int .i64))) : CI w wr base g p6 p8 N l T A c ol' A7' c7' want A9 c9 f :=
  ⟨h.b6, h.sl, ho, h.o9, h.mp, h.dc, h.l6, h.l8, h.lb, h.gr⟩
theorem nums_one (l : List Int) : ∀ u ∈ l.map (Value.int .i64), u.oneCell' = true := by
  intro u hu
  obtain ⟨x, _, rfl⟩ := List.mem_map.1 hu
  rfl
theorem nums_take {w : World} {e : TypeId} {A : Option Addr} {n : Nat} {l : List Int} (h : Sl w e 1 A n (l.map (.int .i64))) (k : Nat) (hk : k ≤ n) : Sl w e 1 A k ((l.take k).map (.int .i64)) := by
  have hl : l.length = n := by have := h.1; simp at this; omega
  refine ⟨by simp; omega, fun h0 => ?_⟩
  obtain ⟨b, off, cs, fz, hA, hb, hc⟩ := h.2 (by omega)
  refine ⟨b, off, cs, fz, hA, hb, fun j u hu => hc j u ?_⟩
  rw [List.getElem?_map, List.getElem?_take] at hu
  split at hu
  · rw [List.getElem?_map]; exact hu
  · simp at hu
theorem nums_drop {w : World} {e : TypeId} {b off n : Nat} {l : List Int} (h : Sl w e 1 (some ⟨b, off, none⟩) n (l.map (.int .i64))) (k : Nat) (hk : k < n) : Sl w e 1 (some ⟨b, off + k, none⟩) (n - k) ((l.drop k).map (.int .i64)) := by
  have hl : l.length = n := by have := h.1; simp at this; omega
  refine ⟨by simp; omega, fun h0 => ?_⟩
  obtain ⟨b', off', cs, fz, hA, hb, hc⟩ := h.2 (by omega)
  injection hA with hA
  injection hA with h1 h2
  subst h1; subst h2
  refine ⟨_, _, cs, fz, rfl, hb, fun j u hu => ?_⟩
  rw [Nat.add_assoc]
  refine hc (k + j) u ?_
  rw [List.getElem?_map, List.getElem?_drop] at hu
  rw [List.getElem?_map]; exact hu

set_option maxRecDepth 100000 in
set_option maxHeartbeats 16000000 in
theorem cancels_law (A : Option Addr) (n c : Nat) (zs : List Int) (Av : Option Addr) (nv cv : Nat) (vs : List Int) (w : World) (e5 ev : TypeId) (h : Sl w e5 1 A n (zs.map (.int .u8))) (hz : ∀ j, 0 ≤ zs.getD j 0 ∧ zs.getD j 0 < 256) (hnc : n ≤ c) (hn : n ≤ 9223372036854775807)
    (hv : Sl w ev 1 Av nv (vs.map (.int .i8))) (hvb : ∀ j, -128 ≤ vs.getD j 0 ∧ vs.getD j 0 ≤ 127) (hnv : nv ≤ 9223372036854775807) :
    Calls Try.prog 4 #[.slice A n c, .slice Av nv cv] w fun e w' => e = .returned (.bool true) ∧ Gr [] w w' := by
  obtain ⟨i0, hi0, hz0, hz1, hz2⟩ := info_parts Try.infoI64
  obtain ⟨a0, ha0, hb0, hb1, hb2⟩ := info_parts Try.infoAc
  have hmm := @run_makeMap Try.prog
  by_cases h20 : 20 < nv
  · go_enter Try.func4, Try.ntmps4
    go_wp2_with fail
    go_at_call 7
    refine (sane_any _).mono ?_
    rintro e w1 ⟨rfl, hg1⟩
    have h20' : (20 : Int) < (nv : Int) := by omega
    go_wp2
    go_ret
    exact ⟨rfl, hg1⟩
  · have h20' : ¬ (20 : Int) < (nv : Int) := by omega
    go_enter Try.func4, Try.ntmps4
    go_wp2_with fail
    go_at_call 7
    refine (sane_any _).mono ?_
    rintro e w1 ⟨rfl, hg1⟩
    go_wp2_with fail
    go_at_call 14
    refine (millnew_any A n c zs _ e5 (h.gr0 hg1) hz hnc hn).mono ?_
    rintro e w2 ⟨g, rfl, hgg, hd, hg2⟩
    have hgw : w.heap.size ≤ g := Nat.le_trans hg1.size hgg
    have hci0 : CI w ((w2.alloc (.cells #[.slice none 0 0, .int .i64 0] 26)).alloc (.map #[] 0)) w2.heap.size g w2.heap.size (w2.heap.size + 1) 0 [] 0 none 0 [] none 0 [] none 0 (fun _ => none) := by
      refine ⟨(Bk.new w2 _ _).alloc _, Sl.nil _ _ _ _, own_nil _ _ _ _, own_nil _ _ _ _, ?_, ?_, Nat.le_refl _, by omega, (hg1.trans hg2).size, ((hg1.trans hg2).alloc _).alloc _⟩
      · have := Mo.made (w2.alloc (.cells #[.slice none 0 0, .int .i64 0] 26))
        rwa [show (w2.alloc (.cells #[.slice none 0 0, .int .i64 0] 26)).heap.size = w2.heap.size + 1 by simp] at this
      · exact hd.gr0 (((Gr.refl [] w2).alloc _).alloc _)
    clear hg1 hg2 hgg hd h
    go_wp2_with fail
    generalize hbs : w2.heap.size = base at *
    generalize (w2.alloc (.cells #[.slice none 0 0, .int .i64 0] 26)).alloc (.map #[] 0) = W0 at *
    clear hbs
    go_loopw [32, 7, 9] (fun kv o7 o9 wr => ∃ (k : Nat) (l : List Dd) (T : Int) (A : Option Addr) (c : Nat) (ol : List Int) (A7 : Option Addr) (c7 : Nat) (want : List Ac) (A9 : Option Addr) (c9 : Nat) (f : Int → Option Int), kv = .int .i64 k ∧ k ≤ nv ∧ o7 = .slice A7 ol.length c7 ∧ o9 = .slice A9 want.length c9 ∧ CI w wr base g base (base + 1) k l T A c ol A7 c7 want A9 c9 f ∧ Cst l T ol (fun t => (f t).getD 0) want ∧ wfl l ∧ (∀ t ∈ ol, wf64 t) ∧ l.length + ol.length ≤ 2 * k) (fun kv _ _ _ => nv - (intOf kv).toNat)
    case atStart => exact ⟨0, [], 0, none, 0, [], none, 0, [], none, 0, _, rfl, Nat.zero_le _, rfl, rfl, hci0, Cst.nil, wfl_nil, by simp, by simp⟩
    case round =>
      obtain ⟨k, l, T, A1, c1, ol, A7, c7, want, A9, c9, f, rfl, hk, rfl, rfl, ci, C, hwf, hwo, hbd⟩ := hrel
      obtain ⟨wo, rfl⟩ : ∃ wo : World, wo = wr := ⟨_, rfl⟩
      clear hci0
      obtain ⟨hT0, hT1⟩ := C.bd
      obtain ⟨x0, x1⟩ := ci.b6.cells2
      have HCt := Lib.hid C
      clear C
      by_cases hlt : k < nv
      · have hlt' : (k : Int) < (nv : Int) := by omega
        obtain ⟨bv, ov, u, hAv, hu, hcv⟩ := (hv.gr0 ci.gr).at_ hlt
        obtain ⟨v, hvv, hv1, hv2⟩ : ∃ v : Int, u = .int .i8 v ∧ -128 ≤ v ∧ v ≤ 127 := by
          have hlen : k < vs.length := by have := hv.1; simp at this; omega
          rw [List.getElem?_map, List.getElem?_eq_getElem hlen] at hu
          have := hvb k
          simp only [List.getD, List.getElem?_eq_getElem hlen, Option.getD_some] at this
          exact ⟨vs[k], by simpa using hu.symm, this.1, this.2⟩
        subst hvv
        subst hAv
        clear hu
        go_wp2_with fail
        go_at_call 15
        refine (reserve_any A1 c1 l T v _ ⟨_, ci.sl⟩ (by omega) hT0 (by omega)).mono ?_
        rintro e w3 ⟨A3, c3, rfl, hcap3, hs3, hg3⟩
        have ci1 := (ci.gr0 hg3).gr0 ((Gr.refl [] w3).alloc (.cells #[.slice A3 (l.length + 1) c3, .int .i64 (T + 1)] 26))
        have hlt12 := (ci.gr0 hg3).b6.lt
        have hs4 := hs3.alloc (.cells #[.slice A3 (l.length + 1) c3, .int .i64 (T + 1)] 26)
        have hP12 := Bk.new w3 26 #[.slice A3 (l.length + 1) c3, .int .i64 (T + 1)]
        clear ci x0 x1 hcv hs3 hg3
        go_wp2_with fail
        generalize hq12 : w3.heap.size = q12 at *
        generalize w3.alloc (.cells #[.slice A3 (l.length + 1) c3, .int .i64 (T + 1)] 26) = W1 at *
        clear hq12
        have hbq : base < W1.heap.size := ci1.b6.lt
        have hqb : q12 ≠ base := by omega
        have hqb' : ¬ base = q12 := fun e => hqb e.symm
        have hqb'' : ¬ q12 = base := hqb
        have k0 : W1.drew.cell? ⟨q12, 0, none⟩ = some (.slice A3 (l.length + 1) c3) ∧ W1.drew.cell? ⟨q12, 1, none⟩ = some (.int .i64 (T + 1)) := hP12.drew.cells2
        have hP12a := hP12.drew.alloc (.cells #[.int .i64 (T + 1)] 2)
        have k1 := hP12a.cells2
        have hgA := (Gr.refl [] W1).drew.alloc (.cells #[.int .i64 (T + 1)] 2)
        have hownA := own_gr0 ci1.o7 hgA
        have hslA := bk_i64 (Bk.new W1.drew 2 #[.int .i64 (T + 1)])
        go_region_held3 (fun w' => w'.cell? ⟨q12, 0, none⟩ = some (.slice A3 (l.length + 1) c3) ∧ w'.cell? ⟨q12, 1, none⟩ = some (.int .i64 (T + 1))) (first | exact k0 | exact k1 | exact k2 | go_keep)
          ((refine step_app rfl (.tmp 44) (.tmp 46) 37 rfl base 2 i0 _ 1 8 Try.underlying37 hi0 hz0 hz1 hz2 rfl (by decide) (by decide) A7 ol.length c7 _ rfl hownA _ 1 1 _ rfl hslA (by intro u hu; simp at hu; subst hu; rfl) (by omega) (by simp; omega) ?_; intro A8 c8 w4 hown4 happ4; have hP12b := happ4.bk hP12a (by decide); have k2 := hP12b.cells2; have ci2 := CI.app7 (opn' := ol ++ [T + 1]) (A7' := A8) (c7' := c8) (ci1.gr0 hgA) happ4 (by rw [List.length_append, List.map_append]; exact hown4); have hs5 := happ4.sl (hs4.gr0 hgA) (by decide); obtain ⟨y0, y1⟩ := ci2.b6.cells2; have hy0 := ci2.b6.frozen 0; have hy1 := ci2.b6.frozen 1))
        all_goals
          have ci3 := ci2.putN (l' := l ++ [⟨1, T + 1, v, plainA⟩]) (T' := T + 1) (c' := c3) (by simp) hs5
          clear ci2 ci1 hs5 hs4 hP12 hP12a hP12b k0 k1 k2 hgA hownA hslA y0 y1 hy0 hy1 hown4 happ4 hqb hqb' hqb''
          generalize ((w4.setCell ⟨base, 0, none⟩ (.slice A3 (l.length + 1) c3)).setCell ⟨base, 1, none⟩ (.int .i64 (T + 1))) = W3 at *
          have hwT : wf64 (T + 1) := WalkArith.wf_i64 (by omega)
          have hwv : wf64 v := WalkArith.wf_i64 (by omega)
          obtain ⟨w5, hup, hM5, hg5⟩ := ci3.mp.update (by simp [maxLen]; omega) hwT hwv
          have ci4 := ci3.upd hg5 hM5
          have C4 := HCt.out.reserve v
          rw [← held_put] at C4
          obtain ⟨f2, hf2⟩ : ∃ f2, f2 = fun i => if i = T + 1 then some v else f i := ⟨_, rfl⟩
          rw [← hf2] at ci4
          have C5 : Cst (l ++ [⟨1, T + 1, v, plainA⟩]) (T + 1) (ol ++ [T + 1]) (fun t => (f2 t).getD 0) want := by rw [hf2]; exact C4
          have HC5 := Lib.hid C5
          have hwf2 := wfl_snoc hwf ⟨1, T + 1, v, plainA⟩ hwT hwv
          have hwo2 : ∀ t ∈ ol ++ [T + 1], wf64 t := fun t ht => by
            rcases List.mem_append.1 ht with h1 | h1
            · exact hwo t h1
            · have : t = T + 1 := by simpa using h1
              subst this; exact hwT
          clear C4 C5 hf2 ci3 hM5 hg5
          go_wp2_with fail
          clear hup
          go_loopw [7, 9] (fun o7 o9 wr => ∃ (l : List Dd) (T : Int) (A : Option Addr) (c : Nat) (ol : List Int) (A7 : Option Addr) (c7 : Nat) (want : List Ac) (A9 : Option Addr) (c9 : Nat), o7 = .slice A7 ol.length c7 ∧ o9 = .slice A9 want.length c9 ∧ CI w wr base g base (base + 1) (k + 1) l T A c ol A7 c7 want A9 c9 f2 ∧ Cst l T ol (fun t => (f2 t).getD 0) want ∧ wfl l ∧ (∀ t ∈ ol, wf64 t) ∧ l.length + ol.length ≤ 2 * (k + 1)) (fun o7 _ _ => lenOf o7)
          case atStart => exact ⟨_, T + 1, A3, c3, _, A8, c8, want, A9, c9, by rw [List.length_append]; rfl, rfl, ci4, HC5.out, hwf2, hwo2, by simp; omega⟩
          case round =>
            clear ci4 HC5 hwf2 hwo2 HCt hwf hwo hbd hT0 hT1
            obtain ⟨l, T, A1, c1, ol, A7, c7, want, A9, c9, rfl, rfl, ci, C, hwf, hwo, hbd⟩ := hrel
            have HCt := Lib.hid C
            clear C
            by_cases hol : ol.length = 0
            · have hol' : ¬ (0 : Int) < (ol.length : Int) := by omega
              have HOL := Lib.hid hol
              clear hol
              go_wp2
              go_roundw
              case rel => exact ⟨k + 1, l, T, A1, c1, ol, A7, c7, want, A9, c9, f2, by go_num, by omega, rfl, rfl, ci, HCt.out, hwf, hwo, hbd⟩
              case measure => simp [intOf]; omega

            · have hpos : (0 : Int) < (ol.length : Int) := by omega
              go_wp2_with fail
              go_at_call 16
              refine (pick_any base g 2 _ ci.dc (by omega) (by omega)).mono ?_
              rintro e v1 ⟨r, rfl, hr0, hr1, hd1, hgp1⟩
              have ci1 := ci.pick hd1 hgp1 hgw
              clear ci hd1 hgp1
              by_cases hr : r = 0
              · subst hr
                go_wp2_with fail
                go_at_call 16
                refine (pick_any base g ol.length _ ci1.dc (by omega) (by omega)).mono ?_
                rintro e v2 ⟨jz, rfl, hj0, hj1, hd2, hgp2⟩
                have ci2 := ci1.pick hd2 hgp2 hgw
                clear ci1 hd2 hgp2
                obtain ⟨j, rfl⟩ : ∃ j : Nat, jz = j := ⟨jz.toNat, (Int.toNat_of_nonneg hj0).symm⟩
                have hjl : j < ol.length := by omega
                obtain ⟨g7, hA7, _, _, _⟩ := own_form ci2.o7 (by omega)
                subst hA7
                have hsl7 := Sl.of_own ci2.o7
                obtain ⟨b7, off7, hA, hcj⟩ := nums_at hsl7 hjl
                injection hA with hA
                injection hA with hA1 hA2
                subst hA1; subst hA2
                rw [Nat.zero_add] at hcj
                obtain ⟨t, ht⟩ : ∃ t, t = ol[j] := ⟨_, rfl⟩
                rw [← ht] at hcj
                have HT := Lib.hid ht
                have HTM := Lib.hid (show t ∈ ol by rw [ht]; exact List.getElem_mem hjl)
                clear ht
                have hcap7 := own_cap ci2.o7
                have hj2 : (j : Int) ≤ (c7 : Int) := by omega
                have hjw : IntKind.i64.wrap ((j : Int) + 1) = (j : Int) + 1 := IntWalk.i64_in _ (by omega)
                have hj3 : (0 : Int) ≤ (j : Int) + 1 := by omega
                have hj4 : (j : Int) + 1 ≤ (ol.length : Int) := by omega
                have hj5 : ((j : Int) + 1).toNat = j + 1 := by omega
                have hsT := nums_take hsl7 j (by omega)
                by_cases hc7 : c7 = j + 1
                · subst hc7
                  have hol1 : ol.length = j + 1 := by omega
                  have hsD : Sl v2 2 1 (some ⟨g7, 0, none⟩) 0 (([] : List Int).map (.int .i64)) := Sl.nil _ _ _ _
                  have HOL1 := Lib.hid hol1
                  have hjj : (j : Int) ≤ (j : Int) + 1 := by omega
                  clear hol1 hsl7
                  go_wp2_with fail
                  go_region_law (first
                    | (refine step_app3 rfl (.tmp 68) (.tmp 71) 37 rfl v2.heap.size 2 i0 _ 1 8 Try.underlying37 hi0 hz0 hz1 hz2 rfl (by decide) (by decide) (some ⟨_, 0, none⟩) 0 0 [] rfl (own_gr0 (own_empty v2 v2.heap.size 2 1 v2.heap.size rfl (Nat.le_refl _)) (by repeat' (first | exact Gr.refl _ _ | refine Gr.drew ?_))) (some ⟨g7, 0, none⟩) j _ _ rfl (hsT.gr0 (by repeat' (first | exact Gr.refl _ _ | refine Gr.alloc ?_ _ | refine Gr.drew ?_))) (nums_one _) (by omega) (Gr.size (M := []) (by repeat' (first | exact Gr.refl _ _ | refine Gr.alloc ?_ _ | refine Gr.drew ?_))) ?_; intro B1 d1 v3 hown3 hgb3; have hg3 : Gr [] v2 v3 := Gr.own (a := v2) (by repeat' (first | exact Gr.refl _ _ | refine Gr.alloc ?_ _ | refine Gr.drew ?_)) hgb3 (.inr (Nat.le_refl _)); simp only [Nat.zero_add, List.nil_append] at hown3 ⊢; have hsD3 := hsD.gr0 hg3)
                    | (refine step_app rfl (.tmp 72) (.tmp 76) 37 rfl v2.heap.size 2 i0 _ 1 8 Try.underlying37 hi0 hz0 hz1 hz2 rfl (by decide) (by decide) B1 j d1 _ rfl hown3 _ _ _ _ rfl hsD3 (nums_one _) (by omega) hg3.size ?_; intro B2 d2 v4 hown4 happ4; have hg4 : Gr [] v2 v4 := happ4.gr [] v2 (Nat.le_refl _) hg3))
                  all_goals
                    clear hjw hj5
                    have hel : (ol.eraseIdx j).length = j + 0 := by rw [List.length_eraseIdx_of_lt hjl]; have := HOL1.out; omega
                    have hli : ol.eraseIdx j = ol.take j ++ [] := by rw [List.eraseIdx_eq_take_drop_succ]; rw [List.drop_eq_nil_of_le (by have := HOL1.out; omega)]
                    have ci3 := (ci2.gr0 hg4).new7 (ol' := ol.eraseIdx j) (A7' := B2) (c7' := d2) (own_le (base := base) (base' := v2.heap.size) (by rw [hel, hli, List.map_append]; exact hown4) (by have := ci2.b6.lt; omega))
                    have hwo3 : ∀ x ∈ ol.eraseIdx j, wf64 x := fun x hx => hwo x (List.mem_of_mem_eraseIdx hx)
                    have HEL := Lib.hid (show (ol.eraseIdx j).length < ol.length by rw [List.length_eraseIdx_of_lt hjl]; omega)
                    have hbd3 : l.length + 1 + (ol.eraseIdx j).length ≤ 2 * (k + 1) := by rw [List.length_eraseIdx_of_lt hjl]; omega
                    have HM7 := Lib.hid (show (ol.eraseIdx j).length = j from hel)
                    clear hel hli  ci2 hown4 happ4 hown3 hgb3 hg3 hsD3 hsT hsD hg4
                    obtain ⟨x0, x1⟩ := ci3.b6.cells2
                    go_wp2_with fail
                    go_at_call 16
                    refine (pick_any base g 2 _ ci3.dc (by omega) (by omega)).mono ?_
                    rintro e v5 ⟨r5, rfl, hr50, hr51, hd5, hgp5⟩
                    have ci5 := ci3.pick hd5 hgp5 hgw
                    clear x0 x1 ci3 hd5 hgp5
                    obtain ⟨x0, x1⟩ := ci5.b6.cells2
                    have hTb := HCt.out.bd
                    obtain ⟨hT0, hT1⟩ := hTb
                    have HO := Lib.hid (HCt.out.opn_at HTM.out)
                    have hwt := hwo t HTM.out
                    by_cases hr5 : r5 = 0
                    · subst hr5
                      go_wp2_with fail
                      go_at_call 17
                      refine (confirm_1 A1 c1 l T t _ _ ⟨_, ci5.sl⟩ (by omega) hwf HCt.out.sc hwt HO.out).mono ?_
                      rintro e v6 ⟨A6, c6, rfl, hs6, hg6⟩
                      have hlt6 := (ci5.gr0 hg6).b6.lt
                      have ci6 := (ci5.gr0 hg6).gr0 ((Gr.refl [] v6).alloc (.cells #[.slice A6 (l.length + 1) c6, .int .i64 T] 26))
                      have hP16 := Bk.new v6 26 #[.slice A6 (l.length + 1) c6, .int .i64 T]
                      have hs6a := hs6.alloc (.cells #[.slice A6 (l.length + 1) c6, .int .i64 T] 26)
                      clear ci5 x0 x1 hs6 hg6
                      go_wp2_with fail
                      generalize hq16 : v6.heap.size = q16 at *
                      generalize v6.alloc (.cells #[.slice A6 (l.length + 1) c6, .int .i64 T] 26) = V at *
                      clear hq16
                      have hqb : q16 ≠ base := by omega
                      have hqb' : ¬ base = q16 := fun e => hqb e.symm
                      have hqb'' : ¬ q16 = base := hqb
                      have hbV : base < V.heap.size := ci6.b6.lt
                      have k0 : V.drew.cell? ⟨q16, 0, none⟩ = some (.slice A6 (l.length + 1) c6) ∧ V.drew.cell? ⟨q16, 1, none⟩ = some (.int .i64 T) := hP16.drew.cells2
                      have hlk := (ci6.mp.gr (Gr.refl [] V).drew (by simp)).look1 hwt
                      have hP16a := hP16.drew.alloc (.cells #[.bool false, .int .i64 ((f2 t).getD 0), .int .i64 0] 30)
                      have k1 := hP16a.cells2
                      have hgA := (Gr.refl [] V).drew.alloc (.cells #[.bool false, .int .i64 ((f2 t).getD 0), .int .i64 0] 30)
                      have hownA := own_gr0 ci6.o9 hgA
                      have hslA := bk_as (a := ⟨false, (f2 t).getD 0, 0⟩) (Bk.new V.drew 30 #[.bool false, .int .i64 ((f2 t).getD 0), .int .i64 0])
                      have hwl : want.length ≤ l.length := by rw [← HCt.out.counts]; exact net_len l
                      go_region_held3 (fun w' => w'.cell? ⟨q16, 0, none⟩ = some (.slice A6 (l.length + 1) c6) ∧ w'.cell? ⟨q16, 1, none⟩ = some (.int .i64 T)) (first | exact k0 | exact k1 | exact k2 | go_keep)
                        ((refine step_app rfl (.tmp 90) (.tmp 95) 33 rfl base 30 a0 _ 3 24 Try.underlying33 ha0 hb0 hb1 hb2 rfl (by decide) (by decide) A9 want.length c9 _ rfl hownA _ 1 1 _ rfl hslA (acells_one _) (by omega) (by simp; omega) ?_; intro A10 c10 v7 hown7 happ7; have hP16b := happ7.bk hP16a (by decide); have k2 := hP16b.cells2; have ci7 := CI.app9 (want' := want ++ [⟨false, (f2 t).getD 0, 0⟩]) (A9' := A10) (c9' := c10) (ci6.gr0 hgA) happ7 (by rw [List.length_append, acells_append]; exact hown7); have hs7 := happ7.sl (hs6a.gr0 hgA) (by decide); obtain ⟨y0, y1⟩ := ci7.b6.cells2; have hy0 := ci7.b6.frozen 0; have hy1 := ci7.b6.frozen 1))
                      all_goals
                        have ci8 := ci7.putN (l' := l ++ [⟨2, t, (f2 t).getD 0, plainA⟩]) (T' := T) (c' := c6) (by simp) hs7
                        have C8 := HCt.out.settle hjl (k := 2) (by omega)
                        rw [← HT.out] at C8
                        have HC8 := Lib.hid C8
                        have hwf8 := wfl_snoc hwf ⟨2, t, (f2 t).getD 0, plainA⟩ hwt (held_wf hwf HO.out)
                        clear C8 hlk
                        go_wp2
                        go_roundw
                        case rel => exact ⟨_, T, A6, c6, _, B2, d2, _, A10, c10, by rw [HM7.out], by rw [List.length_append]; rfl, ci8, HC8.out, hwf8, hwo3, by rw [List.length_append]; exact hbd3⟩
                        case measure => simp [lenOf]; have := HM7.out; have := HEL.out; omega
                    · have hr5' : (r5 == 0) = false := by simpa using hr5
                      go_wp2_with fail
                      go_at_call 18
                      refine (cancel_1 A1 c1 l T t _ _ ⟨_, ci5.sl⟩ (by omega) hwf HCt.out.sc hwt HO.out).mono ?_
                      rintro e v6 ⟨A6, c6, rfl, hs6, hg6⟩
                      have hlt6 := (ci5.gr0 hg6).b6.lt
                      have ci6 := (ci5.gr0 hg6).gr0 ((Gr.refl [] v6).alloc (.cells #[.slice A6 (l.length + 1) c6, .int .i64 T] 26))
                      have hP18 := Bk.new v6 26 #[.slice A6 (l.length + 1) c6, .int .i64 T]
                      have hs6a := hs6.alloc (.cells #[.slice A6 (l.length + 1) c6, .int .i64 T] 26)
                      clear ci5 x0 x1 hs6 hg6
                      have C8 := HCt.out.settle hjl (k := 3) (by omega)
                      rw [← HT.out, if_neg (by omega), List.append_nil] at C8
                      have HC8 := Lib.hid C8
                      have hwf8 := wfl_snoc hwf ⟨3, t, (f2 t).getD 0, plainA⟩ hwt (held_wf hwf HO.out)
                      have hl8 : (l ++ [(⟨3, t, (f2 t).getD 0, plainA⟩ : Dd)]).length = l.length + 1 := by simp
                      have HL8 := Lib.hid hl8
                      have HCf := Lib.hid (show ∀ w', Ds w' A6 (l ++ [⟨3, t, (f2 t).getD 0, plainA⟩]) → Calls Try.prog 17 #[.agg #[.slice A6 (l.length + 1) c6, .int .i64 T], .int .i64 t] w' fun e w'' => e = .returned (.tuple #[.agg #[.slice none 0 0, .int .i64 0], .int .i64 5]) ∧ Gr [] w' w'' from fun w' hd => by
                        have := confirm_0 A6 c6 (l ++ [⟨3, t, (f2 t).getD 0, plainA⟩]) T t w' hd (by rw [hl8]; omega) hwf8 HC8.out.sc hwt (settled_none HCt.out.sc HO.out)
                        rwa [hl8] at this)
                      clear C8 hl8
                      go_wp2_with fail
                      generalize hq18 : v6.heap.size = q18 at *
                      generalize v6.alloc (.cells #[.slice A6 (l.length + 1) c6, .int .i64 T] 26) = V at *
                      clear hq18
                      go_at_call 17
                      refine (HCf.out _ ⟨_, by rw [HL8.out]; exact hs6a⟩).mono ?_
                      rintro e v7 ⟨rfl, hg7⟩
                      have ci7 := (ci6.gr0 hg7).gr0 ((Gr.refl [] v7).alloc (.cells #[.slice none 0 0, .int .i64 0] 26))
                      have hs7 := (hs6a.gr0 hg7).alloc (.cells #[.slice none 0 0, .int .i64 0] 26)
                      have hP18b := (hP18.gr0 hg7).alloc (.cells #[.slice none 0 0, .int .i64 0] 26)
                      obtain ⟨z0, z1⟩ := hP18b.cells2
                      obtain ⟨y0, y1⟩ := ci7.b6.cells2
                      have hy0 := ci7.b6.frozen 0
                      have hy1 := ci7.b6.frozen 1
                      have hqb' : ¬ base = q18 := by omega
                      have hqb'' : ¬ q18 = base := by omega
                      have ci8 := ci7.putN (l' := l ++ [⟨3, t, (f2 t).getD 0, plainA⟩]) (T' := T) (c' := c6) (by simp) hs7
                      clear ci6 hg7 hP18 hs6a
                      go_wp2
                      go_roundw
                      case rel => exact ⟨_, T, A6, c6, _, B2, d2, _, A9, c9, by rw [HM7.out], by simp, ci8, HC8.out, hwf8, hwo3, by rw [List.length_append]; exact hbd3⟩
                      case measure => simp [lenOf]; have := HM7.out; have := HEL.out; omega
                · have hsD : Sl v2 2 1 (some ⟨g7, 0 + (j + 1), none⟩) (ol.length - (j + 1)) ((ol.drop (j + 1)).map (.int .i64)) := by
                    by_cases hx : j + 1 < ol.length
                    · exact nums_drop hsl7 (j + 1) hx
                    · have hol1 : ol.length = j + 1 := by omega
                      rw [hol1, Nat.sub_self, List.drop_eq_nil_of_le (by omega)]; exact Sl.nil _ _ _ _
                  rw [Nat.zero_add] at hsD
                  clear hsl7
                  go_wp2_with fail
                  go_region_law (first
                    | (refine step_app3 rfl (.tmp 68) (.tmp 71) 37 rfl v2.heap.size 2 i0 _ 1 8 Try.underlying37 hi0 hz0 hz1 hz2 rfl (by decide) (by decide) (some ⟨_, 0, none⟩) 0 0 [] rfl (own_gr0 (own_empty v2 v2.heap.size 2 1 v2.heap.size rfl (Nat.le_refl _)) (by repeat' (first | exact Gr.refl _ _ | refine Gr.drew ?_))) (some ⟨g7, 0, none⟩) j _ _ rfl (hsT.gr0 (by repeat' (first | exact Gr.refl _ _ | refine Gr.alloc ?_ _ | refine Gr.drew ?_))) (nums_one _) (by omega) (Gr.size (M := []) (by repeat' (first | exact Gr.refl _ _ | refine Gr.alloc ?_ _ | refine Gr.drew ?_))) ?_; intro B1 d1 v3 hown3 hgb3; have hg3 : Gr [] v2 v3 := Gr.own (a := v2) (by repeat' (first | exact Gr.refl _ _ | refine Gr.alloc ?_ _ | refine Gr.drew ?_)) hgb3 (.inr (Nat.le_refl _)); simp only [Nat.zero_add, List.nil_append] at hown3 ⊢; have hsD3 := hsD.gr0 hg3)
                    | (refine step_app rfl (.tmp 72) (.tmp 76) 37 rfl v2.heap.size 2 i0 _ 1 8 Try.underlying37 hi0 hz0 hz1 hz2 rfl (by decide) (by decide) B1 j d1 _ rfl hown3 _ _ _ _ rfl hsD3 (nums_one _) (by omega) hg3.size ?_; intro B2 d2 v4 hown4 happ4; have hg4 : Gr [] v2 v4 := happ4.gr [] v2 (Nat.le_refl _) hg3))
                  all_goals
                    clear hjw hj5
                    have hel : (ol.eraseIdx j).length = j + (ol.length - (j + 1)) := by rw [List.length_eraseIdx_of_lt hjl]; omega
                    have hli : ol.eraseIdx j = ol.take j ++ ol.drop (j + 1) := by rw [List.eraseIdx_eq_take_drop_succ]
                    have ci3 := (ci2.gr0 hg4).new7 (ol' := ol.eraseIdx j) (A7' := B2) (c7' := d2) (own_le (base := base) (base' := v2.heap.size) (by rw [hel, hli, List.map_append]; exact hown4) (by have := ci2.b6.lt; omega))
                    have hwo3 : ∀ x ∈ ol.eraseIdx j, wf64 x := fun x hx => hwo x (List.mem_of_mem_eraseIdx hx)
                    have HEL := Lib.hid (show (ol.eraseIdx j).length < ol.length by rw [List.length_eraseIdx_of_lt hjl]; omega)
                    have hbd3 : l.length + 1 + (ol.eraseIdx j).length ≤ 2 * (k + 1) := by rw [List.length_eraseIdx_of_lt hjl]; omega
                    obtain ⟨m7, hm7⟩ : ∃ m7, m7 = j + (ol.length - (j + 1)) := ⟨_, rfl⟩
                    rw [← hm7]
                    have HM7 := Lib.hid (hel.trans hm7.symm)
                    clear hel hli hm7 ci2 hown4 happ4 hown3 hgb3 hg3 hsD3 hsT hsD hg4
                    obtain ⟨x0, x1⟩ := ci3.b6.cells2
                    go_wp2_with fail
                    go_at_call 16
                    refine (pick_any base g 2 _ ci3.dc (by omega) (by omega)).mono ?_
                    rintro e v5 ⟨r5, rfl, hr50, hr51, hd5, hgp5⟩
                    have ci5 := ci3.pick hd5 hgp5 hgw
                    clear x0 x1 ci3 hd5 hgp5
                    obtain ⟨x0, x1⟩ := ci5.b6.cells2
                    have hTb := HCt.out.bd
                    obtain ⟨hT0, hT1⟩ := hTb
                    have HO := Lib.hid (HCt.out.opn_at HTM.out)
                    have hwt := hwo t HTM.out
                    by_cases hr5 : r5 = 0
                    · subst hr5
                      go_wp2_with fail
                      go_at_call 17
                      refine (confirm_1 A1 c1 l T t _ _ ⟨_, ci5.sl⟩ (by omega) hwf HCt.out.sc hwt HO.out).mono ?_
                      rintro e v6 ⟨A6, c6, rfl, hs6, hg6⟩
                      have hlt6 := (ci5.gr0 hg6).b6.lt
                      have ci6 := (ci5.gr0 hg6).gr0 ((Gr.refl [] v6).alloc (.cells #[.slice A6 (l.length + 1) c6, .int .i64 T] 26))
                      have hP16 := Bk.new v6 26 #[.slice A6 (l.length + 1) c6, .int .i64 T]
                      have hs6a := hs6.alloc (.cells #[.slice A6 (l.length + 1) c6, .int .i64 T] 26)
                      clear ci5 x0 x1 hs6 hg6
                      go_wp2_with fail
                      generalize hq16 : v6.heap.size = q16 at *
                      generalize v6.alloc (.cells #[.slice A6 (l.length + 1) c6, .int .i64 T] 26) = V at *
                      clear hq16
                      have hqb : q16 ≠ base := by omega
                      have hqb' : ¬ base = q16 := fun e => hqb e.symm
                      have hqb'' : ¬ q16 = base := hqb
                      have hbV : base < V.heap.size := ci6.b6.lt
                      have k0 : V.drew.cell? ⟨q16, 0, none⟩ = some (.slice A6 (l.length + 1) c6) ∧ V.drew.cell? ⟨q16, 1, none⟩ = some (.int .i64 T) := hP16.drew.cells2
                      have hlk := (ci6.mp.gr (Gr.refl [] V).drew (by simp)).look1 hwt
                      have hP16a := hP16.drew.alloc (.cells #[.bool false, .int .i64 ((f2 t).getD 0), .int .i64 0] 30)
                      have k1 := hP16a.cells2
                      have hgA := (Gr.refl [] V).drew.alloc (.cells #[.bool false, .int .i64 ((f2 t).getD 0), .int .i64 0] 30)
                      have hownA := own_gr0 ci6.o9 hgA
                      have hslA := bk_as (a := ⟨false, (f2 t).getD 0, 0⟩) (Bk.new V.drew 30 #[.bool false, .int .i64 ((f2 t).getD 0), .int .i64 0])
                      have hwl : want.length ≤ l.length := by rw [← HCt.out.counts]; exact net_len l
                      go_region_held3 (fun w' => w'.cell? ⟨q16, 0, none⟩ = some (.slice A6 (l.length + 1) c6) ∧ w'.cell? ⟨q16, 1, none⟩ = some (.int .i64 T)) (first | exact k0 | exact k1 | exact k2 | go_keep)
                        ((refine step_app rfl (.tmp 90) (.tmp 95) 33 rfl base 30 a0 _ 3 24 Try.underlying33 ha0 hb0 hb1 hb2 rfl (by decide) (by decide) A9 want.length c9 _ rfl hownA _ 1 1 _ rfl hslA (acells_one _) (by omega) (by simp; omega) ?_; intro A10 c10 v7 hown7 happ7; have hP16b := happ7.bk hP16a (by decide); have k2 := hP16b.cells2; have ci7 := CI.app9 (want' := want ++ [⟨false, (f2 t).getD 0, 0⟩]) (A9' := A10) (c9' := c10) (ci6.gr0 hgA) happ7 (by rw [List.length_append, acells_append]; exact hown7); have hs7 := happ7.sl (hs6a.gr0 hgA) (by decide); obtain ⟨y0, y1⟩ := ci7.b6.cells2; have hy0 := ci7.b6.frozen 0; have hy1 := ci7.b6.frozen 1))
                      all_goals
                        have ci8 := ci7.putN (l' := l ++ [⟨2, t, (f2 t).getD 0, plainA⟩]) (T' := T) (c' := c6) (by simp) hs7
                        have C8 := HCt.out.settle hjl (k := 2) (by omega)
                        rw [← HT.out] at C8
                        have HC8 := Lib.hid C8
                        have hwf8 := wfl_snoc hwf ⟨2, t, (f2 t).getD 0, plainA⟩ hwt (held_wf hwf HO.out)
                        clear C8 hlk
                        go_wp2
                        go_roundw
                        case rel => exact ⟨_, T, A6, c6, _, B2, d2, _, A10, c10, by rw [HM7.out], by rw [List.length_append]; rfl, ci8, HC8.out, hwf8, hwo3, by rw [List.length_append]; exact hbd3⟩
                        case measure => simp [lenOf]; have := HM7.out; have := HEL.out; omega
                    · have hr5' : (r5 == 0) = false := by simpa using hr5
                      go_wp2_with fail
                      go_at_call 18
                      refine (cancel_1 A1 c1 l T t _ _ ⟨_, ci5.sl⟩ (by omega) hwf HCt.out.sc hwt HO.out).mono ?_
                      rintro e v6 ⟨A6, c6, rfl, hs6, hg6⟩
                      have hlt6 := (ci5.gr0 hg6).b6.lt
                      have ci6 := (ci5.gr0 hg6).gr0 ((Gr.refl [] v6).alloc (.cells #[.slice A6 (l.length + 1) c6, .int .i64 T] 26))
                      have hP18 := Bk.new v6 26 #[.slice A6 (l.length + 1) c6, .int .i64 T]
                      have hs6a := hs6.alloc (.cells #[.slice A6 (l.length + 1) c6, .int .i64 T] 26)
                      clear ci5 x0 x1 hs6 hg6
                      have C8 := HCt.out.settle hjl (k := 3) (by omega)
                      rw [← HT.out, if_neg (by omega), List.append_nil] at C8
                      have HC8 := Lib.hid C8
                      have hwf8 := wfl_snoc hwf ⟨3, t, (f2 t).getD 0, plainA⟩ hwt (held_wf hwf HO.out)
                      have hl8 : (l ++ [(⟨3, t, (f2 t).getD 0, plainA⟩ : Dd)]).length = l.length + 1 := by simp
                      have HL8 := Lib.hid hl8
                      have HCf := Lib.hid (show ∀ w', Ds w' A6 (l ++ [⟨3, t, (f2 t).getD 0, plainA⟩]) → Calls Try.prog 17 #[.agg #[.slice A6 (l.length + 1) c6, .int .i64 T], .int .i64 t] w' fun e w'' => e = .returned (.tuple #[.agg #[.slice none 0 0, .int .i64 0], .int .i64 5]) ∧ Gr [] w' w'' from fun w' hd => by
                        have := confirm_0 A6 c6 (l ++ [⟨3, t, (f2 t).getD 0, plainA⟩]) T t w' hd (by rw [hl8]; omega) hwf8 HC8.out.sc hwt (settled_none HCt.out.sc HO.out)
                        rwa [hl8] at this)
                      clear C8 hl8
                      go_wp2_with fail
                      generalize hq18 : v6.heap.size = q18 at *
                      generalize v6.alloc (.cells #[.slice A6 (l.length + 1) c6, .int .i64 T] 26) = V at *
                      clear hq18
                      go_at_call 17
                      refine (HCf.out _ ⟨_, by rw [HL8.out]; exact hs6a⟩).mono ?_
                      rintro e v7 ⟨rfl, hg7⟩
                      have ci7 := (ci6.gr0 hg7).gr0 ((Gr.refl [] v7).alloc (.cells #[.slice none 0 0, .int .i64 0] 26))
                      have hs7 := (hs6a.gr0 hg7).alloc (.cells #[.slice none 0 0, .int .i64 0] 26)
                      have hP18b := (hP18.gr0 hg7).alloc (.cells #[.slice none 0 0, .int .i64 0] 26)
                      obtain ⟨z0, z1⟩ := hP18b.cells2
                      obtain ⟨y0, y1⟩ := ci7.b6.cells2
                      have hy0 := ci7.b6.frozen 0
                      have hy1 := ci7.b6.frozen 1
                      have hqb' : ¬ base = q18 := by omega
                      have hqb'' : ¬ q18 = base := by omega
                      have ci8 := ci7.putN (l' := l ++ [⟨3, t, (f2 t).getD 0, plainA⟩]) (T' := T) (c' := c6) (by simp) hs7
                      clear ci6 hg7 hP18 hs6a
                      go_wp2
                      go_roundw
                      case rel => exact ⟨_, T, A6, c6, _, B2, d2, _, A9, c9, by rw [HM7.out], by simp, ci8, HC8.out, hwf8, hwo3, by rw [List.length_append]; exact hbd3⟩
                      case measure => simp [lenOf]; have := HM7.out; have := HEL.out; omega
              · have hr' : (r == 0) = false := by simpa using hr
                go_wp2
                go_roundw
                case rel => exact ⟨k + 1, l, T, A1, c1, ol, A7, c7, want, A9, c9, f2, by go_num, by omega, rfl, rfl, ci1, HCt.out, hwf, hwo, hbd⟩
                case measure => simp [intOf]; omega
      · have hkn : k = nv := by omega
        obtain ⟨op, hsc⟩ := HCt.out.sc
        have HSC := Lib.hid hsc
        clear hsc
        have hla : l.length ≤ 999999 := by omega
        have hok : okD l T = true := okD_ok HSC.out
        have hop := HCt.out.open_
        have HV := Lib.hid (show ∀ w', Gr [] wo w' → Calls Try.prog 11 #[.agg #[.slice A1 l.length c1, .int .i64 T]] w' fun e w'' => e = .returned (.bool true) ∧ Gr [] w' w'' from fun w' hg => by
          have := valid_any A1 c1 l T w' ⟨_, ci.sl.gr0 hg⟩ hla hwf
          rwa [hok] at this)
        have HN := Lib.hid (show ∀ w', Gr [] wo w' → Calls Try.prog 10 #[.agg #[.slice A1 l.length c1, .int .i64 T]] w' fun e w'' => ∃ (A' : Option Addr) (c' : Nat), e = .returned (.slice A' want.length c') ∧ Sl w'' 30 3 A' want.length (acells want) ∧ Gr [] w' w'' from fun w' hg => by
          have := net_any A1 c1 l T w' ⟨_, ci.sl.gr0 hg⟩ hla
          rw [HCt.out.counts] at this
          exact this.mono fun e w'' ⟨A', c', h1, _, h3, h4⟩ => ⟨A', c', h1, h3, h4⟩)
        have HOp := Lib.hid (show ∀ w', Gr [] wo w' → Calls Try.prog 13 #[.agg #[.slice A1 l.length c1, .int .i64 T]] w' fun e w'' => ∃ (A' : Option Addr) (c' : Nat), e = .returned (.slice A' ol.length c') ∧ Sl w'' 2 1 A' ol.length (ol.map (.int .i64)) ∧ Gr [] w' w'' from fun w' hg => by
          have := open_any A1 c1 l T T op w' ⟨_, ci.sl.gr0 hg⟩ hla hwf HSC.out
          rw [hop] at this
          exact this)
        have hwl : want.length ≤ 1000000 := by
          have := net_len l
          rw [HCt.out.counts] at this
          omega
        have hol : ol.length ≤ 1000000 := by omega
        have hx : ∀ w', Gr [] wo w' → w'.cell? ⟨base, 0, none⟩ = some (.slice A1 l.length c1) ∧ w'.cell? ⟨base, 1, none⟩ = some (.int .i64 T) := fun w' hg => (ci.b6.gr0 hg).cells2
        have HX := Lib.hid hx
        have HB := Lib.hid (⟨hwl, hol⟩ : want.length ≤ 1000000 ∧ ol.length ≤ 1000000)
        clear hx hwl hol hok hop hwf hwo
        go_wp2_with fail
        go_at_call 11
        refine (HV.out _ (Gr.refl _ _)).mono ?_
        rintro e q1 ⟨rfl, k1⟩
        obtain ⟨y0, y1⟩ := HX.out _ k1
        go_wp2_with fail
        go_at_call 10
        refine (HN.out _ k1).mono ?_
        rintro e q2 ⟨B2, d2, rfl, hB2, k2'⟩
        have k2 := k1.trans k2'
        go_wp2_with fail
        go_at_call 12
        refine (sameacts_any B2 A9 _ _ d2 c9 want want _ hB2 (Sl.of_own (own_gr0 ci.o9 k2)) HB.out.1 HB.out.1).mono ?_
        rintro e q3 ⟨rfl, k3'⟩
        have k3 := k2.trans k3'
        obtain ⟨v0, v1⟩ := HX.out _ k3
        have hdt : decide (want = want) = true := by simp
        rw [hdt]
        go_wp2_with fail
        go_at_call 13
        refine (HOp.out _ k3).mono ?_
        rintro e q4 ⟨B4, d4, rfl, hB4, k4'⟩
        have k4 := k3.trans k4'
        go_wp2_with fail
        go_at_call 19
        refine (same_any B4 A7 _ _ d4 c7 ol ol _ hB4 (Sl.of_own (own_gr0 ci.o7 k4)) HB.out.2 HB.out.2).mono ?_
        rintro e q5 ⟨rfl, k5'⟩
        rw [show decide (ol = ol) = true by simp]
        go_wp2
        go_ret
        exact ⟨rfl, ci.gr.trans (k4.trans k5')⟩
end Go.Proofs.Ytpbelnbknnhgnaa
