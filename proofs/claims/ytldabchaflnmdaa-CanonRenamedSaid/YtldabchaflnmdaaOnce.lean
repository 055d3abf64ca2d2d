/- CanonOnce: the law's body, for any seeds. -/
import Derived.Test.YtldabchaflnmdaaSane
import Derived.Deep.RegionHeld3
namespace Go.Proofs.Ytldabchaflnmdaa
open Go.RowKit

theorem obs_len (l : List Rw) : (obs l).length = l.length := List.length_map _
theorem Bk.gr0 {w w' : World} {g : Nat} {t : TypeId} {cs : Array Value} (h : Bk w g t cs) (hg : Gr [] w w') : Bk w' g t cs := h.gr hg (by simp)
theorem HOk.vok {h : List Ob} (H : HOk h) : ∀ o ∈ h, ∀ v ∈ o.fs, VOk v := fun o ho => (H.fields o ho).2

set_option maxHeartbeats 2000000 in
theorem once_any (A : Option Addr) (n c : Nat) (zs : List Int) (w : World) (e5 : TypeId) (h : Sl w e5 1 A n (zs.map (.int .u8))) (hz : ∀ j, 0 ≤ zs.getD j 0 ∧ zs.getD j 0 < 256) (hnc : n ≤ c) (hn : n ≤ 9223372036854775807) :
    Calls Try.prog 3 #[.slice A n c] w fun e w' => e = .returned (.bool true) ∧ Gr [] w w' := by
  go_enter Try.func3, Try.ntmps3
  go_wp2_with fail
  go_at_call 6
  refine (sane_any w).mono ?_
  rintro e w1 ⟨rfl, hg1⟩
  go_wp2_with fail
  go_at_call 7
  refine (new_any A n c zs w1 e5 (h.gr0 hg1) hz hnc hn).mono ?_
  rintro e w2 ⟨g, rfl, hgl, hd2, hg2⟩
  have hgN := hg1.trans hg2
  have hgW : w.heap.size ≤ g := Nat.le_trans hg1.size hgl
  have hgB := hd2.ltB
  clear hg1 hg2 h hz hnc hn
  go_wp2_with fail
  go_at_call 8
  refine (heap_any w2.heap.size g w2 hd2 (Nat.le_refl _)).mono ?_
  rintro e w3 ⟨hA, hc, rs, rfl, hcap, hO3, hR3, hok, hd3, hg3, _⟩
  have hB3 : w2.heap.size ≤ w3.heap.size := hg3.size
  have hd3' := hd3.gr0 ((Gr.refl [] w3).alloc (.cells #[.slice hA rs.length hc] 28))
  have hT4 := Bk.new w3 28 #[.slice hA rs.length hc]
  have hg3' : Gr [g] w2 (w3.alloc (.cells #[.slice hA rs.length hc] 28)) := hg3.alloc _
  go_wp2_with fail
  go_at_call 9
  refine (value_any w2.heap.size g _ hd3' (by simp; omega)).mono ?_
  rintro e w4 ⟨v1, rfl, hv1, hd4, hg4⟩
  go_wp2_with fail
  go_at_call 9
  refine (value_any w2.heap.size g _ hd4 (by have := hg4.size; simp at this; omega)).mono ?_
  rintro e w5 ⟨v2, rfl, hv2, hd5, hg5⟩
  obtain ⟨dcs, hdb⟩ := hd3'.bk
  have hg45 := hg4.trans hg5
  have hT4' := hT4.gr hg45 (by simp; omega)
  have hO5 : Os w5 hA rs := Sl.gr1 (hO3.alloc _) hdb (by decide) hg45
  have hR5 : Rok w5 rs := (hR3.alloc _).gr1 hdb (by decide) hg45
  have hgA : Gr [] w (w5.alloc (.cells #[.bool v1.r, .int .i64 v1.n, .bool v2.r, .int .i64 v2.n] 31)) := (hgN.trans_new (hg3'.trans hg45) (by simp; omega)).alloc _
  have hV6 : Vs (w5.alloc (.cells #[.bool v1.r, .int .i64 v1.n, .bool v2.r, .int .i64 v2.n] 31)) (some ⟨w5.heap.size, 0, none⟩) [v1, v2] := bk_vs2 (Bk.new w5 31 #[.bool v1.r, .int .i64 v1.n, .bool v2.r, .int .i64 v2.n])
  have hO6 := hO5.alloc (.cells #[.bool v1.r, .int .i64 v1.n, .bool v2.r, .int .i64 v2.n] 31)
  have hR6 := hR5.alloc (.cells #[.bool v1.r, .int .i64 v1.n, .bool v2.r, .int .i64 v2.n] 31)
  have hT6 := hT4'.alloc (.cells #[.bool v1.r, .int .i64 v1.n, .bool v2.r, .int .i64 v2.n] 31)
  have hT6c := hT6.cell 0
  have hVO : ∀ v ∈ [v1, v2], VOk v := by
    intro v hv
    simp at hv
    rcases hv with rfl | rfl
    · exact hv1
    · exact hv2
  have hrl : rs.length ≤ 5 := by have := hok.size; rw [obs_len] at this; exact this
  clear hgN hg3 hg3' hd3 hd3' hd4 hd5 hd2 hg4 hg5 hg45 hdb hT4 hT4' hO3 hR3 hO5 hR5
  go_wp2_with fail
  go_at_call 10
  refine (canon_any hA hc rs (some ⟨w5.heap.size, 0, none⟩) 2 [v1, v2] _ hO6 hR6 hV6 (VOk.vw hVO) (Nat.le_of_ble_eq_true rfl) (by omega)).mono ?_
  rintro e w7 ⟨A7, c7, ns, B7, d7, rfl, hO7, hR7, hob7, hV7, hg7⟩
  have hon := canon_once (obs rs) [v1, v2]
  have hor := canon_once_reach (obs rs) [v1, v2]
  have hid := canon_ids (obs rs) [v1, v2]
  have hfl : (hfind (obs rs) [v1, v2]).length ≤ 1000000 := by have := (Found.find (obs rs) [v1, v2]).length; rw [obs_len] at this; omega
  have hVW2 : VW (hcanon (obs rs) [v1, v2]).2 := hren_VW (VOk.vw hVO) hfl
  have hl2 : (hcanon (obs rs) [v1, v2]).2.length = 2 := hren_len _ _
  generalize hX : hcanon (obs rs) [v1, v2] = X at *
  obtain ⟨x1, x2⟩ := X
  simp only at hob7 hV7 hon hor hid hVW2 hl2
  have hns : ns.length = (hfind (obs rs) [v1, v2]).length := by rw [← hor.2, ← hob7, obs_len]
  have hnl : ns.length ≤ 1000000 := by rw [hns]; exact hfl
  have hg8 := hg7.alloc (.cells #[.slice A7 ns.length c7] 28)
  have hT4 := hT6.gr hg8 (by simp)
  have hT8 := Bk.new w7 28 #[.slice A7 ns.length c7]
  have hT8c := hT8.cell 0
  have hO8 := hO7.alloc (.cells #[.slice A7 ns.length c7] 28)
  have hR8 := hR7.alloc (.cells #[.slice A7 ns.length c7] 28)
  have hV8 := hV7.alloc (.cells #[.slice A7 ns.length c7] 28)
  have hcall := canon_any A7 c7 ns B7 d7 x2 (w7.alloc (.cells #[.slice A7 ns.length c7] 28)) hO8 hR8 hV8 hVW2 (by rw [hl2]; omega) hnl
  rw [hl2, hob7, hon] at hcall
  simp only at hcall
  have HNS := Lib.hid hns
  have HOB7 := Lib.hid hob7
  have HON := Lib.hid hon
  have HOR := Lib.hid hor
  have HID := Lib.hid hid
  have HL2 := Lib.hid hl2
  clear hns hob7 hon hor hid hl2 hX
  go_wp2_with fail
  go_at_call 10
  refine hcall.mono ?_
  rintro e w9 ⟨A9, c9, ms, B9, d9, rfl, hO9, hR9, hob9, hV9, hg9⟩
  have HOB9 := Lib.hid hob9
  clear hob9
  have hml : ms.length ≤ 1000000 := by have e : ms.length = ns.length := by rw [← obs_len, ← obs_len, HOB9.out, HOB7.out]
                                       omega
  have hgE := hg9.alloc (.cells #[.slice A9 ms.length c9] 28)
  have hT4e := hT4.gr hgE (by simp)
  have hT6e := hT8.gr hgE (by simp)
  have hT8e := Bk.new w9 28 #[.slice A9 ms.length c9]
  have hOa := (hO8.gr0 hgE)
  have hRa := (hR8.gr0 hgE)
  have hVa := (hV8.gr0 hgE)
  have hOb := hO9.alloc (.cells #[.slice A9 ms.length c9] 28)
  have hRb := hR9.alloc (.cells #[.slice A9 ms.length c9] 28)
  have hVb := hV9.alloc (.cells #[.slice A9 ms.length c9] 28)
  have hOh := hO6.gr0 (hg8.trans hgE)
  have hRh := hR6.gr0 (hg8.trans hgE)
  have hVh := hV6.gr0 (hg8.trans hgE)
  have hgZ := hgA.trans (hg8.trans hgE)
  clear hO6 hR6 hV6 hO7 hR7 hV7 hO8 hR8 hV8 hO9 hR9 hV9 hT6 hT6c hT8 hT8c hT4 hcall hg7 hg8 hg9 hgA hgE
  go_wp2_with fail
  generalize w9.alloc (.cells #[.slice A9 ms.length c9] 28) = W at *
  have hc4 : ∀ w', Gr [] W w' → w'.cell? ⟨w3.heap.size, 0, none⟩ = some (.slice hA rs.length hc) := fun w' hg => (hT4e.gr0 hg).cell 0
  have hc6 : ∀ w', Gr [] W w' → w'.cell? ⟨w7.heap.size, 0, none⟩ = some (.slice A7 ns.length c7) := fun w' hg => (hT6e.gr0 hg).cell 0
  have hc8 : ∀ w', Gr [] W w' → w'.cell? ⟨w9.heap.size, 0, none⟩ = some (.slice A9 ms.length c9) := fun w' hg => (hT8e.gr0 hg).cell 0
  have hS : ∀ w', Gr [] W w' → Calls Try.prog 11 #[.agg #[.slice A7 ns.length c7], .agg #[.slice A9 ms.length c9]] w' fun e w'' => e = .returned (.bool true) ∧ Gr [] W w'' := fun w' hg => by
    refine (same_any A7 A9 c7 c9 ns ms w' (hOa.gr0 hg) (hOb.gr0 hg) (hRa.gr0 hg) (hRb.gr0 hg) hnl hml).mono ?_
    rintro e w'' ⟨rfl, h2⟩
    exact ⟨ret_bool (by rw [HOB7.out, HOB9.out]; simp), hg.trans h2⟩
  have hSV : ∀ w', Gr [] W w' → Calls Try.prog 12 #[.slice B7 2 d7, .slice B9 2 d9] w' fun e w'' => e = .returned (.bool true) ∧ Gr [] W w'' := fun w' hg => by
    have ha := hVa.gr0 hg
    have hb := hVb.gr0 hg
    unfold Vs at ha hb
    rw [HL2.out] at ha hb
    refine (samevals_any B7 B9 2 2 d7 d9 x2 x2 w' ha hb (by omega) (by omega)).mono ?_
    rintro e w'' ⟨rfl, h2⟩
    exact ⟨ret_bool (by simp), hg.trans h2⟩
  have hVd : ∀ w', Gr [] W w' → Calls Try.prog 13 #[.agg #[.slice A7 ns.length c7]] w' fun e w'' => e = .returned (.bool true) ∧ Gr [] W w'' := fun w' hg => by
    refine (valid_any A7 c7 ns w' (hOa.gr0 hg) hnl ?_).mono fun e w'' h => ⟨h.1, hg.trans h.2⟩
    intro j hj
    have hj' : j < x1.length := by rw [← HOB7.out, obs_len]; exact hj
    have := HID.out j hj'
    rw [← this]
    have e1 : x1[j] = (obs ns)[j]'(by rw [obs_len]; exact hj) := by congr 1; exact HOB7.out.symm
    rw [e1]
    simp [obs]
  have hRC1 : ∀ w', Gr [] W w' → Calls Try.prog 14 #[.agg #[.slice A7 ns.length c7], .slice B7 2 d7] w' fun e w'' => ∃ (A' : Option Addr) (c' : Nat), e = .returned (.slice A' ns.length c') ∧ Gr [] W w'' := fun w' hg => by
    have := reach_any A7 c7 ns B7 d7 x2 w' (hOa.gr0 hg) (hRa.gr0 hg) (hVa.gr0 hg) hVW2 (by rw [HL2.out]; omega) hnl
    rw [HL2.out, HOB7.out, HOR.out.1, HOR.out.2, ← HNS.out] at this
    exact this.mono fun e w'' ⟨A', c', h1, _, h3⟩ => ⟨A', c', h1, hg.trans h3⟩
  have hRC2 : ∀ w', Gr [] W w' → Calls Try.prog 14 #[.agg #[.slice hA rs.length hc], .slice (some ⟨w5.heap.size, 0, none⟩) 2 2] w' fun e w'' => ∃ (A' : Option Addr) (c' : Nat), e = .returned (.slice A' ns.length c') ∧ Gr [] W w'' := fun w' hg => by
    have := reach_any hA hc rs (some ⟨w5.heap.size, 0, none⟩) 2 [v1, v2] w' (hOh.gr0 hg) (hRh.gr0 hg) (hVh.gr0 hg) (VOk.vw hVO) (Nat.le_of_ble_eq_true rfl) (by omega)
    rw [← HNS.out] at this
    exact this.mono fun e w'' ⟨A', c', h1, _, h3⟩ => ⟨A', c', h1, hg.trans h3⟩
  have hg0 := (Gr.refl [] W).drew
  have z4 := hc4 _ hg0
  have z6 := hc6 _ hg0
  have z8 := hc8 _ hg0
  generalize w3.heap.size = p4 at *
  generalize w7.heap.size = p6 at *
  generalize w9.heap.size = p8 at *
  clear hT4e hT6e hT8e hOa hRa hVa hOb hRb hVb hOh hRh hVh hVW2 hVO
  have HC := Lib.hid (show ∀ w', Gr [] W w' → w'.cell? ⟨p4, 0, none⟩ = some (.slice hA rs.length hc) ∧ w'.cell? ⟨p6, 0, none⟩ = some (.slice A7 ns.length c7) ∧ w'.cell? ⟨p8, 0, none⟩ = some (.slice A9 ms.length c9) from fun w' hg => ⟨hc4 w' hg, hc6 w' hg, hc8 w' hg⟩)
  have HS := Lib.hid hS
  have HSV := Lib.hid hSV
  have HVd := Lib.hid hVd
  have HRC1 := Lib.hid hRC1
  have HRC2 := Lib.hid hRC2
  clear hc4 hc6 hc8 hS hSV hVd hRC1 hRC2
  go_region_held3 (fun w' => w'.cell? ⟨p4, 0, none⟩ = some (.slice hA rs.length hc) ∧ w'.cell? ⟨p6, 0, none⟩ = some (.slice A7 ns.length c7) ∧ w'.cell? ⟨p8, 0, none⟩ = some (.slice A9 ms.length c9)) (first | exact HC.out _ hg0 | exact HC.out _ k1 | exact HC.out _ k2 | exact HC.out _ k3 | exact HC.out _ k4 | exact HC.out _ k5)
    (first
    | (go_at_call 11; refine (HS.out _ hg0).mono ?_; rintro e q1 ⟨rfl, k1⟩)
    | (go_at_call 12; refine (HSV.out _ k1).mono ?_; rintro e q2 ⟨rfl, k2⟩)
    | (go_at_call 13; refine (HVd.out _ k2).mono ?_; rintro e q3 ⟨rfl, k3⟩)
    | (go_at_call_of 14 (Value.slice B7 2 d7); refine (HRC1.out _ k3).mono ?_; rintro e q4 ⟨A4, c4, rfl, k4⟩)
    | (go_at_call_of 14 (Value.slice (some ⟨w5.heap.size, 0, none⟩) 2 2); refine (HRC2.out _ k4).mono ?_; rintro e q5 ⟨A5, c5, rfl, k5⟩))
  all_goals
    go_wp2
    go_ret
    exact ⟨by simp, hgZ.trans k5⟩
end Go.Proofs.Ytldabchaflnmdaa
