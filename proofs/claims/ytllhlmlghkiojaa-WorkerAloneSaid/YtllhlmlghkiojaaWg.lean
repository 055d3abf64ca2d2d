/- The reference's changes of the workers. -/
import Derived.Test.YtllhlmlghkiojaaWf
import Derived.Deep.RegionWith
namespace Go.Proofs.Ytllhlmlghkiojaa
open Go.RowKit

set_option maxHeartbeats 400000 in
theorem rrelease_any (A : Option Addr) (n c : Nat) (l : List Wk) (i : Int) (w : World) (h : Sl w 30 3 A n (wcells l)) (hn : n ≤ 1000000) (hi1 : -9223372036854775808 ≤ i) (hi2 : i ≤ 9223372036854775807) :
    Calls Try.prog 22 #[.slice A n c, .int .i64 i] w (OutW w (wmade [1, 2] 0 l i)) := by
  have hl := wk_len h
  have hs : Sl (w.alloc (.cells #[.int .i64 1, .int .i64 2] 3)) 3 1 (some ⟨w.heap.size, 0, none⟩) 2 (([1, 2] : List Int).map (.int .i64)) := Sl.new w _ 1 #[.int .i64 1, .int .i64 2] 2 _ rfl rfl
  by_cases hok : wis l i [1, 2] = 0
  · have hr := wis_range hok
    obtain ⟨k, rfl⟩ : ∃ k : Nat, i = k := ⟨i.toNat, by omega⟩
    have hkl : k < l.length := by omega
    have hkn : k < n := by omega
    have HO := Lib.hid hok
    have HT := Lib.hid (show wmade [1, 2] 0 l k = (0, l.set k ⟨0, -1, l[k].b⟩) by rw [wmade_ok _ _ _ _ hok, wset_at l k _ hkl]; simp)
    obtain ⟨b, off, rfl, hc0, hc1, hc2⟩ := wk_at h hkl
    clear hok hr
    go_enter Try.func22, Try.ntmps22
    go_wp2_with (first | (go_at_call 36; refine (is_any _ n c l k _ 2 2 [1, 2] _ (h.alloc _) hn hs (by omega) hi1 hi2).mono ?_; rintro e w1 ⟨rfl, hgr⟩; have hgr1 := ((Gr.refl [] w).alloc _).trans hgr; have hd0 := hgr1.cell hc0 (by simp); have hd1 := hgr1.cell hc1 (by simp); have hd2 := hgr1.cell hc2 (by simp); rw [HO.out]) | (go_at_call 37; refine (changed_any _ n c l k ⟨0, -1, l[k].b⟩ _ (h.gr0 hgr1) hn hkn).mono ?_; rintro e w2 ⟨A1, c1, rfl, hown, hgr2⟩))
    go_ret2
    refine ⟨A1, c1, ret_slice_int (by rw [HT.out, List.length_set, hl]) (by rw [HT.out]), ?_, hgr1.trans hgr2⟩
    rw [HT.out, List.length_set, hl]
    exact Sl.of_own hown
  · have HT := Lib.hid (show wmade [1, 2] 0 l i = (wis l i [1, 2], []) by exact wmade_bad _ _ _ _ hok)
    have hne : (wis l i [1, 2] != 0) = true := by simp [hok]
    clear hok
    go_enter Try.func22, Try.ntmps22
    go_wp2_with (go_at_call 36; refine (is_any _ n c l i _ 2 2 [1, 2] _ (h.alloc _) hn hs (by omega) hi1 hi2).mono ?_; rintro e w1 ⟨rfl, hgr⟩; have hgr1 := ((Gr.refl [] w).alloc _).trans hgr)
    go_ret2
    refine ⟨none, 0, ret_slice_int (by rw [HT.out]; rfl) (by rw [HT.out]), ?_, hgr1⟩
    rw [HT.out]
    exact Sl.nil _ _ _ _

set_option maxHeartbeats 400000 in
theorem rrestart_any (A : Option Addr) (n c : Nat) (l : List Wk) (i : Int) (w : World) (h : Sl w 30 3 A n (wcells l)) (hn : n ≤ 1000000) (hi1 : -9223372036854775808 ≤ i) (hi2 : i ≤ 9223372036854775807) :
    Calls Try.prog 25 #[.slice A n c, .int .i64 i] w (OutW w (wrestart l i)) := by
  have hl := wk_len h
  have hs : Sl (w.alloc (.cells #[.int .i64 3] 3)) 3 1 (some ⟨w.heap.size, 0, none⟩) 1 (([3] : List Int).map (.int .i64)) := Sl.new w _ 1 #[.int .i64 3] 1 _ rfl rfl
  by_cases hok : wis l i [3] = 0
  · have hr := wis_range hok
    obtain ⟨k, rfl⟩ : ∃ k : Nat, i = k := ⟨i.toNat, by omega⟩
    have hkl : k < l.length := by omega
    have hkn : k < n := by omega
    have HO := Lib.hid hok
    have HT := Lib.hid (show wrestart l k = (0, l.set k ⟨0, -1, wrap64 (l[k].b + 1)⟩) by unfold wrestart; rw [if_pos hok, wset_at l k _ hkl])
    obtain ⟨b, off, rfl, hc0, hc1, hc2⟩ := wk_at h hkl
    clear hok hr
    go_enter Try.func25, Try.ntmps25
    go_wp2_with (first | (go_at_call 36; refine (is_any _ n c l k _ 1 1 [3] _ (h.alloc _) hn hs (by omega) hi1 hi2).mono ?_; rintro e w1 ⟨rfl, hgr⟩; have hgr1 := ((Gr.refl [] w).alloc _).trans hgr; have hd0 := hgr1.cell hc0 (by simp); have hd1 := hgr1.cell hc1 (by simp); have hd2 := hgr1.cell hc2 (by simp); rw [HO.out]) | (go_at_call 37; refine (changed_any _ n c l k ⟨0, -1, wrap64 (l[k].b + 1)⟩ _ (h.gr0 hgr1) hn hkn).mono ?_; rintro e w2 ⟨A1, c1, rfl, hown, hgr2⟩))
    go_ret2
    refine ⟨A1, c1, ret_slice_int (by rw [HT.out, List.length_set, hl]) (by rw [HT.out]), ?_, hgr1.trans hgr2⟩
    rw [HT.out, List.length_set, hl]
    exact Sl.of_own hown
  · have HT := Lib.hid (show wrestart l i = (wis l i [3], []) by unfold wrestart; rw [if_neg hok])
    have hne : (wis l i [3] != 0) = true := by simp [hok]
    clear hok
    go_enter Try.func25, Try.ntmps25
    go_wp2_with (go_at_call 36; refine (is_any _ n c l i _ 1 1 [3] _ (h.alloc _) hn hs (by omega) hi1 hi2).mono ?_; rintro e w1 ⟨rfl, hgr⟩; have hgr1 := ((Gr.refl [] w).alloc _).trans hgr)
    go_ret2
    refine ⟨none, 0, ret_slice_int (by rw [HT.out]; rfl) (by rw [HT.out]), ?_, hgr1⟩
    rw [HT.out]
    exact Sl.nil _ _ _ _

set_option maxHeartbeats 400000 in
theorem rstop_any (A : Option Addr) (n c : Nat) (l : List Wk) (i : Int) (w : World) (h : Sl w 30 3 A n (wcells l)) (hn : n ≤ 1000000) (hi1 : -9223372036854775808 ≤ i) (hi2 : i ≤ 9223372036854775807) :
    Calls Try.prog 23 #[.slice A n c, .int .i64 i] w (OutW w (wmade [1] 2 l i)) := by
  have hl := wk_len h
  have hs : Sl (w.alloc (.cells #[.int .i64 1] 3)) 3 1 (some ⟨w.heap.size, 0, none⟩) 1 (([1] : List Int).map (.int .i64)) := Sl.new w _ 1 #[.int .i64 1] 1 _ rfl rfl
  by_cases hok : wis l i [1] = 0
  · have hr := wis_range hok
    obtain ⟨k, rfl⟩ : ∃ k : Nat, i = k := ⟨i.toNat, by omega⟩
    have hkl : k < l.length := by omega
    have hkn : k < n := by omega
    have HO := Lib.hid hok
    have HT := Lib.hid (show wmade [1] 2 l k = (0, l.set k ⟨2, l[k].r, l[k].b⟩) by rw [wmade_ok _ _ _ _ hok, wset_at l k _ hkl]; simp)
    obtain ⟨b, off, rfl, hc0, hc1, hc2⟩ := wk_at h hkl
    clear hok hr
    go_enter Try.func23, Try.ntmps23
    go_wp2_with (go_at_call 36; refine (is_any _ n c l k _ 1 1 [1] _ (h.alloc _) hn hs (by omega) hi1 hi2).mono ?_; rintro e w1 ⟨rfl, hgr⟩; have hgr1 := ((Gr.refl [] w).alloc _).trans hgr; have hd0 := hgr1.cell hc0 (by simp); have hd1 := hgr1.cell hc1 (by simp); have hd2 := hgr1.cell hc2 (by simp); rw [HO.out])
    go_region_with (go_at_call 37; refine (changed_any _ n c l k ⟨2, l[k].r, l[k].b⟩ _ ((h.gr0 hgr1).drew) hn hkn).mono ?_; rintro e w2 ⟨A1, c1, rfl, hown, hgr2⟩)
    all_goals
      go_wp2
      go_ret2
      refine ⟨A1, c1, ret_slice_int (by rw [HT.out, List.length_set, hl]) (by rw [HT.out]), ?_, hgr1.drew.trans hgr2⟩
      rw [HT.out, List.length_set, hl]
      exact Sl.of_own hown
  · have HT := Lib.hid (show wmade [1] 2 l i = (wis l i [1], []) by exact wmade_bad _ _ _ _ hok)
    have hne : (wis l i [1] != 0) = true := by simp [hok]
    clear hok
    go_enter Try.func23, Try.ntmps23
    go_wp2_with (go_at_call 36; refine (is_any _ n c l i _ 1 1 [1] _ (h.alloc _) hn hs (by omega) hi1 hi2).mono ?_; rintro e w1 ⟨rfl, hgr⟩; have hgr1 := ((Gr.refl [] w).alloc _).trans hgr)
    go_ret2
    refine ⟨none, 0, ret_slice_int (by rw [HT.out]; rfl) (by rw [HT.out]), ?_, hgr1⟩
    rw [HT.out]
    exact Sl.nil _ _ _ _

set_option maxHeartbeats 400000 in
theorem rgo_any (A : Option Addr) (n c : Nat) (l : List Wk) (i : Int) (w : World) (h : Sl w 30 3 A n (wcells l)) (hn : n ≤ 1000000) (hi1 : -9223372036854775808 ≤ i) (hi2 : i ≤ 9223372036854775807) :
    Calls Try.prog 24 #[.slice A n c, .int .i64 i] w (OutW w (wmade [2] 1 l i)) := by
  have hl := wk_len h
  have hs : Sl (w.alloc (.cells #[.int .i64 2] 3)) 3 1 (some ⟨w.heap.size, 0, none⟩) 1 (([2] : List Int).map (.int .i64)) := Sl.new w _ 1 #[.int .i64 2] 1 _ rfl rfl
  by_cases hok : wis l i [2] = 0
  · have hr := wis_range hok
    obtain ⟨k, rfl⟩ : ∃ k : Nat, i = k := ⟨i.toNat, by omega⟩
    have hkl : k < l.length := by omega
    have hkn : k < n := by omega
    have HO := Lib.hid hok
    have HT := Lib.hid (show wmade [2] 1 l k = (0, l.set k ⟨1, l[k].r, l[k].b⟩) by rw [wmade_ok _ _ _ _ hok, wset_at l k _ hkl]; simp)
    obtain ⟨b, off, rfl, hc0, hc1, hc2⟩ := wk_at h hkl
    clear hok hr
    go_enter Try.func24, Try.ntmps24
    go_wp2_with (go_at_call 36; refine (is_any _ n c l k _ 1 1 [2] _ (h.alloc _) hn hs (by omega) hi1 hi2).mono ?_; rintro e w1 ⟨rfl, hgr⟩; have hgr1 := ((Gr.refl [] w).alloc _).trans hgr; have hd0 := hgr1.cell hc0 (by simp); have hd1 := hgr1.cell hc1 (by simp); have hd2 := hgr1.cell hc2 (by simp); rw [HO.out])
    go_region_with (go_at_call 37; refine (changed_any _ n c l k ⟨1, l[k].r, l[k].b⟩ _ ((h.gr0 hgr1).drew) hn hkn).mono ?_; rintro e w2 ⟨A1, c1, rfl, hown, hgr2⟩)
    all_goals
      go_wp2
      go_ret2
      refine ⟨A1, c1, ret_slice_int (by rw [HT.out, List.length_set, hl]) (by rw [HT.out]), ?_, hgr1.drew.trans hgr2⟩
      rw [HT.out, List.length_set, hl]
      exact Sl.of_own hown
  · have HT := Lib.hid (show wmade [2] 1 l i = (wis l i [2], []) by exact wmade_bad _ _ _ _ hok)
    have hne : (wis l i [2] != 0) = true := by simp [hok]
    clear hok
    go_enter Try.func24, Try.ntmps24
    go_wp2_with (go_at_call 36; refine (is_any _ n c l i _ 1 1 [2] _ (h.alloc _) hn hs (by omega) hi1 hi2).mono ?_; rintro e w1 ⟨rfl, hgr⟩; have hgr1 := ((Gr.refl [] w).alloc _).trans hgr)
    go_ret2
    refine ⟨none, 0, ret_slice_int (by rw [HT.out]; rfl) (by rw [HT.out]), ?_, hgr1⟩
    rw [HT.out]
    exact Sl.nil _ _ _ _
end Go.Proofs.Ytllhlmlghkiojaa
