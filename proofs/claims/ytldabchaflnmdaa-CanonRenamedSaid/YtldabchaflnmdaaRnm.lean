/- CanonRenamed: the law's body, for any seeds and any names. -/
import Derived.Test.YtldabchaflnmdaaGarb
namespace Go.Proofs.Ytldabchaflnmdaa
open Go.RowKit

theorem nm_bd {add : Int} {turn : Bool} {id : Int} (h0 : 0 ≤ add) (h1 : add ≤ 255) (h2 : -1000 ≤ id) (h3 : id ≤ 1000) : wf64 (nm add turn id) := by
  unfold nm
  exact WalkArith.wf_i64 (by split <;> omega)
theorem nmL_vw {add : Int} {turn : Bool} {l : List Vl} (h0 : 0 ≤ add) (h1 : add ≤ 255) (hV : ∀ v ∈ l, VOk v) : VW (nmL add turn l) := by
  intro u hu
  obtain ⟨v, hv, rfl⟩ := List.mem_map.1 hu
  obtain ⟨h2, h3, _⟩ := hV v hv
  unfold nmV
  split
  · exact nm_bd h0 h1 (by omega) (by omega)
  · exact (hV v hv).wf
def nmP (add : Int) (turn : Bool) (l : List Ob) : List Ob := l.foldl (fun x o => hput x (nmO add turn o)) []
theorem nmP_take {add : Int} {turn : Bool} {l : List Ob} {k : Nat} (hk : k < l.length) : nmP add turn (l.take (k + 1)) = hput (nmP add turn (l.take k)) (nmO add turn l[k]) := by
  unfold nmP; rw [List.take_succ_eq_append_getElem hk, List.foldl_append]; rfl
theorem nmP_len (add : Int) (turn : Bool) (l : List Ob) : (nmP add turn l).length ≤ l.length := by
  suffices H : ∀ x0 : List Ob, (l.foldl (fun x o => hput x (nmO add turn o)) x0).length ≤ x0.length + l.length by have := H []; simpa [nmP] using this
  induction l with
  | nil => intro x0; simp
  | cons o l ih =>
    intro x0
    have := ih (hput x0 (nmO add turn o))
    have := hput_length x0 (nmO add turn o)
    simp only [List.foldl_cons, List.length_cons]
    omega

set_option maxHeartbeats 10000000 in
theorem renm_any (A : Option Addr) (n c : Nat) (zs : List Int) (add : Int) (turn : Bool) (w : World) (e5 : TypeId) (h : Sl w e5 1 A n (zs.map (.int .u8))) (hz : ∀ j, 0 ≤ zs.getD j 0 ∧ zs.getD j 0 < 256) (hnc : n ≤ c) (hn : n ≤ 9223372036854775807)
    (ha0 : 0 ≤ add) (ha1 : add ≤ 255) :
    Calls Try.prog 4 #[.slice A n c, .int .u8 add, .bool turn] w fun e w' => e = .returned (.bool true) ∧ Gr [] w w' := by
  go_enter Try.func4, Try.ntmps4
  go_wp2_with fail
  go_at_call 6
  refine (sane_any w).mono ?_
  rintro e w1 ⟨rfl, hg1⟩
  go_wp2_with fail
  go_at_call 7
  refine (new_any A n c zs w1 e5 (h.gr0 hg1) hz hnc hn).mono ?_
  rintro e w2 ⟨g, rfl, hgl, hd2, hg2⟩
  have hgN := hg1.trans hg2
  have hgW : w.heap.size ≤ g := Nat.le_trans hg1.size hgl
  have hgB := hd2.ltB
  clear hg1 hg2 h hz hnc hn
  go_wp2_with fail
  go_at_call 8
  refine (heap_any w2.heap.size g w2 hd2 (Nat.le_refl _)).mono ?_
  rintro e w3 ⟨hA, hc, rs, rfl, hcap, hO3, hR3, hok, hd3, hg3, hfr⟩
  clear hfr
  have hB3 : w2.heap.size ≤ w3.heap.size := hg3.size
  have hd3' := hd3.gr0 ((Gr.refl [] w3).alloc (.cells #[.slice hA rs.length hc] 28))
  have hT4 := Bk.new w3 28 #[.slice hA rs.length hc]
  have hg3' : Gr [g] w2 (w3.alloc (.cells #[.slice hA rs.length hc] 28)) := hg3.alloc _
  go_wp2_with fail
  go_at_call 9
  refine (value_any w2.heap.size g _ hd3' (by simp; omega)).mono ?_
  rintro e w4 ⟨v1, rfl, hv1, hd4, hg4⟩
  go_wp2_with fail
  go_at_call 9
  refine (value_any w2.heap.size g _ hd4 (by have := hg4.size; simp at this; omega)).mono ?_
  rintro e w5 ⟨v2, rfl, hv2, hd5, hg5⟩
  obtain ⟨dcs, hdb⟩ := hd3'.bk
  have hg45 := hg4.trans hg5
  have hT4' := hT4.gr hg45 (by simp; omega)
  have hO5 : Os w5 hA rs := Sl.gr1 (hO3.alloc _) hdb (by decide) hg45
  have hR5 : Rok w5 rs := (hR3.alloc _).gr1 hdb (by decide) hg45
  have hgA : Gr [] w (w5.alloc (.cells #[.bool v1.r, .int .i64 v1.n, .bool v2.r, .int .i64 v2.n] 31)) := (hgN.trans_new (hg3'.trans hg45) (by simp; omega)).alloc _
  have hV6 : Vs (w5.alloc (.cells #[.bool v1.r, .int .i64 v1.n, .bool v2.r, .int .i64 v2.n] 31)) (some ⟨w5.heap.size, 0, none⟩) [v1, v2] := bk_vs2 (Bk.new w5 31 #[.bool v1.r, .int .i64 v1.n, .bool v2.r, .int .i64 v2.n])
  have hO6 := hO5.alloc (.cells #[.bool v1.r, .int .i64 v1.n, .bool v2.r, .int .i64 v2.n] 31)
  have hR6 := hR5.alloc (.cells #[.bool v1.r, .int .i64 v1.n, .bool v2.r, .int .i64 v2.n] 31)
  have hT6 := hT4'.alloc (.cells #[.bool v1.r, .int .i64 v1.n, .bool v2.r, .int .i64 v2.n] 31)
  have hVO : ∀ v ∈ [v1, v2], VOk v := by
    intro v hv
    simp at hv
    rcases hv with rfl | rfl
    · exact hv1
    · exact hv2
  have hrl : rs.length ≤ 5 := by have := hok.size; rw [obs_len] at this; exact this
  have hT4q : w3.heap.size < w5.heap.size := hT4'.lt
  have hg3W : w.heap.size ≤ w3.heap.size := by have := hgN.size; omega
  clear hgN hg3 hg3' hd3 hd3' hd4 hd5 hd2 hg4 hg5 hg45 hdb hT4 hT4' hO3 hR3 hO5 hR5
  -- the variable x
  have hgX := hgA.alloc (.cells #[.slice none 0 0] 28)
  have hVX := hV6.alloc (.cells #[.slice none 0 0] 28)
  have hOX := hO6.alloc (.cells #[.slice none 0 0] 28)
  have hRX := hR6.alloc (.cells #[.slice none 0 0] 28)
  have hTX := hT6.alloc (.cells #[.slice none 0 0] 28)
  have hXX : Bk ((w5.alloc (.cells #[.bool v1.r, .int .i64 v1.n, .bool v2.r, .int .i64 v2.n] 31)).alloc (.cells #[.slice none 0 0] 28)) (w5.heap.size + 1) 28 #[.slice none 0 0] := by simpa using Bk.new (w5.alloc (.cells #[.bool v1.r, .int .i64 v1.n, .bool v2.r, .int .i64 v2.n] 31)) 28 #[.slice none 0 0]
  have hTXc := hTX.cell 0
  have hpq : w3.heap.size < w5.heap.size := hT4q
  have hwq : w.heap.size ≤ w5.heap.size := by have := hg3W; omega
  clear hgA hV6 hO6 hR6 hT6
  go_wp2_with fail
  generalize (w5.alloc (.cells #[.bool v1.r, .int .i64 v1.n, .bool v2.r, .int .i64 v2.n] 31)).alloc (.cells #[.slice none 0 0] 28) = W at *
  generalize w5.heap.size = q at *
  generalize w3.heap.size = p8 at *
  have hqW := hXX.lt
  have HOL := Lib.hid (obs_len rs)
  go_loopw [31] (fun i w' => ∃ (k : Nat) (Ax : Option Addr) (cx : Nat) (xs : List Rw), k ≤ rs.length ∧ i = .int .i64 k ∧ Bk w' (q + 1) 28 #[.slice Ax xs.length cx] ∧ xs.length ≤ cx ∧ Os w' Ax xs ∧ Rok w' xs ∧ obs xs = nmP add turn ((obs rs).take k) ∧ Gr [q + 1] W w') (fun i _ => rs.length - (intOf i).toNat)
  case atStart => exact ⟨0, none, 0, [], Nat.zero_le _, rfl, hXX, Nat.le_refl _, Sl.nil _ _ _ _, by intro r hr; simp at hr, rfl, Gr.refl _ _⟩
  case round =>
    obtain ⟨k, Ax, cx, xs, hk, rfl, hbx, hxc, hOx, hRx, hobx, hgx⟩ := hrel
    have hORr : Os wr hA rs := Sl.gr1 hOX hXX (by decide) hgx
    have hRRr : Rok wr rs := hRX.gr1 hXX (by decide) hgx
    have hxl : xs.length ≤ 5 := by
      have h1 := nmP_len add turn ((obs rs).take k)
      rw [← hobx, obs_len, List.length_take] at h1
      omega
    have HOB := Lib.hid hobx
    clear hobx
    by_cases hkl : k < rs.length
    · obtain ⟨b, off, rfl, hc0, hc1⟩ := hORr.at_ hkl
      obtain ⟨hr1, hr2, hr3, hr4⟩ := hRRr rs[k] (List.getElem_mem hkl)
      have HO := Lib.hid (show (obs rs)[k]'(by rw [obs_len]; exact hkl) = rs[k].o by simp [obs])
      have HST := Lib.hid (show nmP add turn ((obs rs).take (k + 1)) = hput (nmP add turn ((obs rs).take k)) (nmO add turn rs[k].o) by rw [nmP_take (by rw [obs_len]; exact hkl), HO.out])
      have hidb := hok.ids rs[k].o (List.mem_map_of_mem (List.getElem_mem hkl))
      have hfdb := hok.fields rs[k].o (List.mem_map_of_mem (List.getElem_mem hkl))
      clear HO
      generalize rs[k] = r at *
      obtain ⟨⟨oid, ofs⟩, gA, gc⟩ := r
      simp only at hc0 hc1 hr1 hr2 hr3 hr4 hidb hfdb HST
      obtain ⟨hid1, hid2⟩ := hidb
      obtain ⟨hfd1, hfd2⟩ := hfdb
      have hb12 := Bk.new wr 43 #[.int .i64 oid, .slice gA ofs.length gc]
      have hg1 := ((Gr.refl [] wr).alloc (.cells #[.int .i64 oid, .slice gA ofs.length gc] 43)).drew
      have hbx1 := hbx.gr0 hg1
      have hx1 := hbx1.cell 0
      have hb12d := hb12.drew
      obtain ⟨hy0, hy1⟩ := hb12d.cells2
      have hvA := hr1.gr0 hg1
      have HPut := Lib.hid (show ∀ (A2 : Option Addr) (c2 : Nat) (w2 : World), Gr [] wr w2 → Vs w2 A2 (nmL add turn ofs) → Calls Try.prog 15 #[.agg #[.slice Ax xs.length cx], .agg #[.int .i64 (nm add turn oid), .slice A2 ofs.length c2]] w2 fun e w' => ∃ (A' : Option Addr) (c' : Nat) (ps : List Rw), e = .returned (.agg #[.slice A' ps.length c']) ∧ ps.length ≤ c' ∧ Os w' A' ps ∧ Rok w' ps ∧ obs ps = nmP add turn ((obs rs).take (k + 1)) ∧ Gr [] w2 w' from fun A2 c2 w2 hg hv => by
        have := put_any Ax cx xs (nm add turn oid) A2 c2 (nmL add turn ofs) w2 (hOx.gr0 hg) (hRx.gr0 hg) hxc hv (nmL_vw ha0 ha1 hfd2) (nm_bd ha0 ha1 (by omega) (by omega)) (by rw [nmL_len]; omega) (by omega)
        rw [nmL_len, HOB.out] at this
        rw [HST.out]
        exact this)
      go_upto_region 10 with fail
      go_region_with (first
        | (go_at_call 16; refine (name_any oid add turn _ (by omega) (by omega) ha0 ha1).mono ?_; rintro e w1 ⟨rfl, rfl⟩)
        | (go_at_call 17; refine (named_any gA gc ofs add turn _ hvA hfd2 hr3 ha0 ha1).mono ?_; rintro e w2 ⟨A2, c2, rfl, hv2, hg2⟩; have hbx2 := hbx1.gr0 hg2; have hx2 := hbx2.cell 0; obtain ⟨hy2, hy3⟩ := (hb12d.gr0 hg2).cells2)
        | (go_at_call 15; refine (HPut.out A2 c2 _ (hg1.trans hg2) hv2).mono ?_; rintro e w3 ⟨A3, c3, ps, rfl, hpc, hO3, hR3, hob3, hg3⟩; have HOB3 := Lib.hid hob3; clear hob3; have hbx3 := hbx2.gr0 hg3; have hx3 := hbx3.cell 0; have hf3 := hbx3.frozen 0))
      all_goals
        go_wp2
        go_roundw
        case rel =>
          have hGO := (Gr.refl [q + 1] w3).setCell (p := ⟨q + 1, 0, none⟩) (.inl (by simp)) (.slice A3 ps.length c3)
          exact ⟨k + 1, A3, c3, ps, by omega, by go_num, hbx3.set_ 0 _, hpc, Sl.gr1 hO3 hbx3 (by decide) hGO, hR3.gr1 hbx3 (by decide) hGO, HOB3.out, (hgx.trans (((hg1.trans hg2).trans hg3).of_nil _)).trans hGO⟩
        case measure => simp [intOf]; omega
    · have hkn : k = rs.length := by omega
      subst hkn
      have hgr : Gr [] w wr := hgX.trans_new hgx (by simp; omega)
      have hT8r := hTX.gr hgx (by simp; omega)
      have hT8c := hT8r.cell 0
      have hVr : Vs wr (some ⟨q, 0, none⟩) [v1, v2] := Sl.gr1 hVX hXX (by decide) hgx
      have HX := Lib.hid (show obs xs = nmH add turn (obs rs) by rw [HOB.out, ← HOL.out, List.take_length]; rfl)
      clear HOB hTX hTXc hVX hOX hRX hXX
      go_wp2_with fail
      go_at_call 10
      refine (canon_any hA hc rs (some ⟨q, 0, none⟩) 2 [v1, v2] wr hORr hRRr hVr (VOk.vw hVO) (Nat.le_of_ble_eq_true rfl) (by omega)).mono ?_
      rintro e w7 ⟨A7, c7, ns, B7, d7, rfl, hO7, hR7, hob7, hV7, hg7⟩
      have hgE := hg7.alloc (.cells #[.slice A7 ns.length c7] 28)
      have hT13 := Bk.new w7 28 #[.slice A7 ns.length c7]
      have HOB7 := Lib.hid hob7
      clear hob7
      have hfl : (hfind (obs rs) [v1, v2]).length ≤ 1000000 := by have := (Found.find (obs rs) [v1, v2]).length; rw [obs_len] at this; omega
      have hnl : ns.length ≤ 1000000 := by
        have e : ns.length = (hfind (obs rs) [v1, v2]).length := by rw [← obs_len, HOB7.out]; exact hnum_length _ _ _
        omega
      have hbx8 := hbx.gr0 hgE
      have hx8 := hbx8.cell 0
      have hVM : VW [nmV add turn v1, nmV add turn v2] := nmL_vw (l := [v1, v2]) ha0 ha1 hVO
      have hcr := canon_renamed (add := add) (turn := turn) hok ha0 hVO
      go_wp2_with fail
      go_upto_region 13 with fail
      have hO8 := hO7.alloc (.cells #[.slice A7 ns.length c7] 28)
      have hR8 := hR7.alloc (.cells #[.slice A7 ns.length c7] 28)
      have hV8 := hV7.alloc (.cells #[.slice A7 ns.length c7] 28)
      clear hO7 hR7 hV7
      generalize w7.alloc (.cells #[.slice A7 ns.length c7] 28) = W8 at *
      go_cut [15, 16] (fun p v wx => ∃ (z : Nat) (A' : Option Addr) (c' : Nat) (ms : List Rw) (B' : Option Addr) (d' : Nat), p = .pointer (some ⟨z, 0, none⟩) ∧ v = .slice B' 2 d' ∧ Bk wx z 28 #[.slice A' ms.length c'] ∧ Os wx A' ms ∧ Rok wx ms ∧ obs ms = (hcanon (obs rs) [v1, v2]).1 ∧ Vs wx B' (hcanon (obs rs) [v1, v2]).2 ∧ Gr [] W8 wx)
      case first =>
        have hx8d := hbx8.drew.cell 0
        have hx8e := (hbx8.drew.alloc (.cells #[.slice none 0 0] 28)).cell 0
        have hx8f := (hbx8.alloc (.cells #[.slice none 0 0] 28)).drew.cell 0
        have hx8g := (hbx8.alloc (.cells #[.slice none 0 0] 28)).cell 0
        have hVd := hVr.gr0 hgE
        have HN := Lib.hid (show ∀ w', Gr [] W8 w' → Calls Try.prog 17 #[.slice (some ⟨q, 0, none⟩) 2 2, .int .u8 add, .bool turn] w' fun e w'' => ∃ (A' : Option Addr) (c' : Nat), e = .returned (.slice A' 2 c') ∧ Vs w'' A' [nmV add turn v1, nmV add turn v2] ∧ Gr [] w' w'' from fun w' hg => named_any (some ⟨q, 0, none⟩) 2 [v1, v2] add turn w' (hVd.gr0 hg) hVO (Nat.le_of_ble_eq_true rfl) ha0 ha1)
        have HCA := Lib.hid (show ∀ (A2 : Option Addr) (c2 : Nat) (w2 : World), Gr [] W8 w2 → Vs w2 A2 [nmV add turn v1, nmV add turn v2] → Calls Try.prog 10 #[.agg #[.slice Ax xs.length cx], .slice A2 2 c2] w2 fun e w' => ∃ (A' : Option Addr) (c' : Nat) (ms : List Rw) (B' : Option Addr) (d' : Nat), e = .returned (.tuple #[.agg #[.slice A' ms.length c'], .slice B' 2 d']) ∧ Os w' A' ms ∧ Rok w' ms ∧ obs ms = (hcanon (obs rs) [v1, v2]).1 ∧ Vs w' B' (hcanon (obs rs) [v1, v2]).2 ∧ Gr [] w2 w' from fun A2 c2 w2 hg hv => by
          have := canon_any Ax cx xs A2 c2 [nmV add turn v1, nmV add turn v2] w2 ((hOx.gr0 hgE).gr0 hg) ((hRx.gr0 hgE).gr0 hg) hv hVM (Nat.le_of_ble_eq_true rfl) (by omega)
          rw [HX.out, show [nmV add turn v1, nmV add turn v2] = [v1, v2].map (nmV add turn) from rfl, hcr] at this
          exact this)
        go_region_with (first
          | (go_at_call 17; refine (HN.out _ (by repeat' (first | exact Gr.refl _ _ | refine Gr.alloc ?_ _ | refine Gr.drew ?_))).mono ?_; rintro e w9 ⟨A9, c9, rfl, hv9, hg9⟩; have hgX : Gr [] W8 w9 := Gr.trans (by repeat' (first | exact Gr.refl _ _ | refine Gr.alloc ?_ _ | refine Gr.drew ?_)) hg9; have hx9 := (hbx8.gr0 hgX).cell 0; have hx9e := ((hbx8.gr0 hgX).alloc (.cells #[.slice none 0 0] 28)).cell 0; try (have hb15 := bk_last (p := W8.heap.size) ((Gr.refl [] (W8.alloc (.cells #[.slice none 0 0] 28))).drew.trans hg9) rfl))
          | (go_at_call 10; refine (HCA.out A9 c9 _ (by first | exact hgX | exact hgX.alloc _) (by first | exact hv9 | exact hv9.alloc _)).mono ?_; rintro e w10 ⟨A10, c10, ms, B10, d10, rfl, hO10, hR10, hob10, hV10, hg10⟩; have HOB10 := Lib.hid hob10; clear hob10; have hgY : Gr [] W8 w10 := Gr.trans (by first | exact hgX | exact hgX.alloc _) hg10; first | (have hb16 := hb15.gr0 hg10; have hf16 := hb16.frozen 0; have hx16 := hb16.cell 0) | (have hb16 := bk_last (p := w9.heap.size) hg10 rfl; have hf16 := hb16.frozen 0; have hx16 := hb16.cell 0) | skip))
        all_goals
          go_wp2
          go_meet
          first
            | exact ⟨_, A10, c10, ms, B10, d10, rfl, rfl, Bk.new w10 _ _, hO10.alloc _, hR10.alloc _, HOB10.out, hV10.alloc _, hgY.alloc _⟩
            | exact ⟨_, A10, c10, ms, B10, d10, rfl, rfl, hb16.set_ 0 _, Sl.gr1 hO10 hb16 (by decide) ((Gr.refl _ _).setCell (.inl (by simp)) _), hR10.gr1 hb16 (by decide) ((Gr.refl _ _).setCell (.inl (by simp)) _), HOB10.out, Sl.gr1 hV10 hb16 (by decide) ((Gr.refl _ _).setCell (.inl (by simp)) _), hgY.setCell (.inr (by first | exact Nat.le_refl _ | exact hgX.size)) _⟩
      case rest =>
        obtain ⟨z, A11, c11, ms, B11, d11, rfl, rfl, hU12, hO11, hR11, hob11, hV11, hgF⟩ := hcut
        have HOB11 := Lib.hid (hob11.trans HOB7.out.symm)
        clear hob11
        have hml : ms.length ≤ 1000000 := by have e : ms.length = ns.length := by rw [← obs_len, ← obs_len, HOB11.out]
                                             omega
        have hU12c := hU12.cell 0
        have hU13c := (hT13.gr0 hgF).cell 0
        have hS := same_any A7 A11 c7 c11 ns ms wc (hO8.gr0 hgF) hO11 (hR8.gr0 hgF) hR11 hnl hml
        rw [show decide (obs ns = obs ms) = true by rw [HOB11.out]; simp] at hS
        have hSV : ∀ w', Gr [] wc w' → Calls Try.prog 12 #[.slice B7 2 d7, .slice B11 2 d11] w' fun e w'' => e = .returned (.bool true) ∧ Gr [] w' w'' := fun w' hg => by
          have ha := (hV8.gr0 hgF).gr0 hg
          have hb := hV11.gr0 hg
          have hl : (hcanon (obs rs) [v1, v2]).2.length = 2 := hren_len _ _
          unfold Vs at ha hb
          rw [hl] at ha hb
          refine (samevals_any B7 B11 2 2 d7 d11 _ _ w' ha hb (by omega) (by omega)).mono ?_
          rintro e w'' ⟨rfl, h2⟩
          exact ⟨ret_bool (by simp), h2⟩
        have HSV := Lib.hid hSV
        clear hSV hcr
        go_wp2_with fail
        go_at_call 11
        refine hS.mono ?_
        rintro e w13 ⟨rfl, hg13⟩
        go_wp2_with fail
        go_at_call 12
        refine (HSV.out _ hg13).mono ?_
        rintro e w14 ⟨rfl, hg14⟩
        go_wp2
        go_ret
        exact ⟨rfl, ((hgr.trans hgE).trans hgF).trans (hg13.trans hg14)⟩
end Go.Proofs.Ytldabchaflnmdaa
