/- The reference: lose, assign, drop, new; equal workers. -/
import Derived.Test.YtllhlmlghkiojaaWg
namespace Go.Proofs.Ytllhlmlghkiojaa
open Go.RowKit

set_option maxHeartbeats 400000 in
theorem rassign_any (A : Option Addr) (n c : Nat) (l : List Wk) (i run : Int) (w : World) (h : Sl w 30 3 A n (wcells l)) (hn : n ≤ 1000000) (hi1 : -9223372036854775808 ≤ i) (hi2 : i ≤ 9223372036854775807) :
    Calls Try.prog 18 #[.slice A n c, .int .i64 i, .int .i64 run] w (OutW w (wassign l i run)) := by
  have hl := wk_len h
  have hs : Sl (w.alloc (.cells #[.int .i64 0] 3)) 3 1 (some ⟨w.heap.size, 0, none⟩) 1 (([0] : List Int).map (.int .i64)) := Sl.new w _ 1 #[.int .i64 0] 1 _ rfl rfl
  by_cases hok : wis l i [0] = 0
  · have hr := wis_range hok
    obtain ⟨k, rfl⟩ : ∃ k : Nat, i = k := ⟨i.toNat, by omega⟩
    have hkl : k < l.length := by omega
    have hkn : k < n := by omega
    have HO := Lib.hid hok
    obtain ⟨b, off, rfl, hc0, hc1, hc2⟩ := wk_at h hkl
    by_cases hrun : run < 0
    · have HT := Lib.hid (show wassign l k run = (2, []) by unfold wassign; rw [if_pos hrun])
      clear hok hr
      go_enter Try.func18, Try.ntmps18
      go_wp2_with (go_at_call 36; refine (is_any _ n c l k _ 1 1 [0] _ (h.alloc _) hn hs (by omega) hi1 hi2).mono ?_; rintro e w1 ⟨rfl, hgr⟩; have hgr1 := ((Gr.refl [] w).alloc _).trans hgr; rw [HO.out])
      go_ret2
      refine ⟨none, 0, ret_slice_int (by rw [HT.out]; rfl) (by rw [HT.out]), ?_, hgr1⟩
      rw [HT.out]
      exact Sl.nil _ _ _ _
    · by_cases hf : 0 ≤ wfind l run
      · have HT := Lib.hid (show wassign l k run = (6, []) by unfold wassign; rw [if_neg hrun, if_pos hok, if_pos hf])
        clear hok hr
        go_enter Try.func18, Try.ntmps18
        go_wp2_with (first | (go_at_call 36; refine (is_any _ n c l k _ 1 1 [0] _ (h.alloc _) hn hs (by omega) hi1 hi2).mono ?_; rintro e w1 ⟨rfl, hgr⟩; have hgr1 := ((Gr.refl [] w).alloc _).trans hgr; rw [HO.out]) | (go_at_call 19; refine (rfind_any _ n c l run _ (h.gr0 hgr1) hn).mono ?_; rintro e w2 ⟨rfl, hgr2⟩))
        go_ret2
        refine ⟨none, 0, ret_slice_int (by rw [HT.out]; rfl) (by rw [HT.out]), ?_, hgr1.trans hgr2⟩
        rw [HT.out]
        exact Sl.nil _ _ _ _
      · have HT := Lib.hid (show wassign l k run = (0, l.set k ⟨1, run, l[k].b⟩) by unfold wassign; rw [if_neg hrun, if_pos hok, if_neg hf, wset_at l k _ hkl])
        clear hok hr
        go_enter Try.func18, Try.ntmps18
        go_wp2_with (first | (go_at_call 36; refine (is_any _ n c l k _ 1 1 [0] _ (h.alloc _) hn hs (by omega) hi1 hi2).mono ?_; rintro e w1 ⟨rfl, hgr⟩; have hgr1 := ((Gr.refl [] w).alloc _).trans hgr; rw [HO.out]) | (go_at_call 19; refine (rfind_any _ n c l run _ (h.gr0 hgr1) hn).mono ?_; rintro e w3 ⟨rfl, hgr3⟩; have hgr4 := hgr1.trans hgr3; have hd2 := hgr4.cell hc2 (by simp)) | (go_at_call 37; refine (changed_any _ n c l k ⟨1, run, l[k].b⟩ _ (h.gr0 hgr4) hn hkn).mono ?_; rintro e w2 ⟨A1, c1, rfl, hown, hgr2⟩))
        go_ret2
        refine ⟨A1, c1, ret_slice_int (by rw [HT.out, List.length_set, hl]) (by rw [HT.out]), ?_, hgr4.trans hgr2⟩
        rw [HT.out, List.length_set, hl]
        exact Sl.of_own hown
  · by_cases hrun : run < 0
    · have HT := Lib.hid (show wassign l i run = (2, []) by unfold wassign; rw [if_pos hrun])
      go_enter Try.func18, Try.ntmps18
      by_cases h2 : wis l i [0] = 2
      · have h2' : (wis l i [0] == 2) = true := by simp [h2]
        clear h2 hok
        go_wp2_with (go_at_call 36; refine (is_any _ n c l i _ 1 1 [0] _ (h.alloc _) hn hs (by omega) hi1 hi2).mono ?_; rintro e w1 ⟨rfl, hgr⟩; have hgr1 := ((Gr.refl [] w).alloc _).trans hgr)
        go_ret2
        refine ⟨none, 0, ret_slice_int (by rw [HT.out]; rfl) (by rw [HT.out]), ?_, hgr1⟩
        rw [HT.out]
        exact Sl.nil _ _ _ _
      · have h2' : (wis l i [0] == 2) = false := by simp [h2]
        clear h2 hok
        go_wp2_with (go_at_call 36; refine (is_any _ n c l i _ 1 1 [0] _ (h.alloc _) hn hs (by omega) hi1 hi2).mono ?_; rintro e w1 ⟨rfl, hgr⟩; have hgr1 := ((Gr.refl [] w).alloc _).trans hgr)
        go_ret2
        refine ⟨none, 0, ret_slice_int (by rw [HT.out]; rfl) (by rw [HT.out]), ?_, hgr1⟩
        rw [HT.out]
        exact Sl.nil _ _ _ _
    · have HT := Lib.hid (show wassign l i run = (wis l i [0], []) by unfold wassign; rw [if_neg hrun, if_neg hok])
      have hne : (wis l i [0] != 0) = true := by simp [hok]
      go_enter Try.func18, Try.ntmps18
      by_cases h2 : wis l i [0] = 2
      · have H2 := Lib.hid h2
        clear h2 hok hne
        go_wp2_with (go_at_call 36; refine (is_any _ n c l i _ 1 1 [0] _ (h.alloc _) hn hs (by omega) hi1 hi2).mono ?_; rintro e w1 ⟨rfl, hgr⟩; have hgr1 := ((Gr.refl [] w).alloc _).trans hgr; rw [H2.out])
        go_ret2
        refine ⟨none, 0, ret_slice_int (by rw [HT.out]; rfl) (by rw [HT.out, H2.out]), ?_, hgr1⟩
        rw [HT.out]
        exact Sl.nil _ _ _ _
      · have h2' : (wis l i [0] == 2) = false := by simp [h2]
        clear h2 hok
        go_wp2_with (go_at_call 36; refine (is_any _ n c l i _ 1 1 [0] _ (h.alloc _) hn hs (by omega) hi1 hi2).mono ?_; rintro e w1 ⟨rfl, hgr⟩; have hgr1 := ((Gr.refl [] w).alloc _).trans hgr)
        go_ret2
        refine ⟨none, 0, ret_slice_int (by rw [HT.out]; rfl) (by rw [HT.out]), ?_, hgr1⟩
        rw [HT.out]
        exact Sl.nil _ _ _ _

set_option maxHeartbeats 400000 in
theorem rlose_any (A : Option Addr) (n c : Nat) (l : List Wk) (i : Int) (w : World) (h : Sl w 30 3 A n (wcells l)) (hn : n ≤ 1000000) (hi1 : -9223372036854775808 ≤ i) (hi2 : i ≤ 9223372036854775807) :
    Calls Try.prog 26 #[.slice A n c, .int .i64 i] w (OutWr w (wmade [0, 1, 2] 3 l i) (if wis l i [0, 1, 2] = 0 then (l.getD i.toNat default).r else 0)) := by
  have hl := wk_len h
  have hs : Sl (w.alloc (.cells #[.int .i64 0, .int .i64 1, .int .i64 2] 3)) 3 1 (some ⟨w.heap.size, 0, none⟩) 3 (([0, 1, 2] : List Int).map (.int .i64)) := Sl.new w _ 1 #[.int .i64 0, .int .i64 1, .int .i64 2] 3 _ rfl rfl
  by_cases hok : wis l i [0, 1, 2] = 0
  · have hr := wis_range hok
    obtain ⟨k, rfl⟩ : ∃ k : Nat, i = k := ⟨i.toNat, by omega⟩
    have hkl : k < l.length := by omega
    have hkn : k < n := by omega
    have HO := Lib.hid hok
    have HT := Lib.hid (show wmade [0, 1, 2] 3 l k = (0, l.set k ⟨3, -1, l[k].b⟩) by rw [wmade_ok _ _ _ _ hok, wset_at l k _ hkl]; simp)
    obtain ⟨b, off, rfl, hc0, hc1, hc2⟩ := wk_at h hkl
    rw [if_pos hok]
    have HR := Lib.hid (show (l.getD (k : Int).toNat default).r = l[k].r by rw [Int.toNat_natCast, getD_lt l k hkl])
    clear hok hr
    go_enter Try.func26, Try.ntmps26
    go_wp2_with (go_at_call 36; refine (is_any _ n c l k _ 3 3 [0, 1, 2] _ (h.alloc _) hn hs (by omega) hi1 hi2).mono ?_; rintro e w1 ⟨rfl, hgr⟩; have hgr1 := ((Gr.refl [] w).alloc _).trans hgr; have hd0 := hgr1.cell hc0 (by simp); have hd1 := hgr1.cell hc1 (by simp); have hd2 := hgr1.cell hc2 (by simp); rw [HO.out])
    go_region_with (go_at_call 37; refine (changed_any _ n c l k ⟨3, -1, l[k].b⟩ _ ((h.gr0 hgr1).drew) hn hkn).mono ?_; rintro e w2 ⟨A1, c1, rfl, hown, hgr2⟩; have hd1' := (hgr1.drew.trans hgr2).cell hc1 (by simp))
    all_goals
      go_wp2
      go_ret3
      refine ⟨A1, c1, ret_slice_int_int (by rw [HT.out, List.length_set, hl]) HR.out.symm (by rw [HT.out]), ?_, hgr1.drew.trans hgr2⟩
      rw [HT.out, List.length_set, hl]
      exact Sl.of_own hown
  · have HT := Lib.hid (wmade_bad [0, 1, 2] 3 l i hok)
    have hne : (wis l i [0, 1, 2] != 0) = true := by simp [hok]
    rw [if_neg hok]
    clear hok
    go_enter Try.func26, Try.ntmps26
    go_wp2_with (go_at_call 36; refine (is_any _ n c l i _ 3 3 [0, 1, 2] _ (h.alloc _) hn hs (by omega) hi1 hi2).mono ?_; rintro e w1 ⟨rfl, hgr⟩; have hgr1 := ((Gr.refl [] w).alloc _).trans hgr)
    go_ret3
    refine ⟨none, 0, ret_slice_int_int (by rw [HT.out]; rfl) rfl (by rw [HT.out]), ?_, hgr1⟩
    rw [HT.out]
    exact Sl.nil _ _ _ _

set_option maxHeartbeats 400000 in
theorem rdrop_any (A : Option Addr) (n c : Nat) (l : List Wk) (run : Int) (w : World) (h : Sl w 30 3 A n (wcells l)) (hn : n ≤ 1000000) :
    Calls Try.prog 20 #[.slice A n c, .int .i64 run] w (OutL w (wdrop l run)) := by
  have hl := wk_len h
  by_cases hf : wfind l run < 0
  · have HT := Lib.hid (show wdrop l run = l by unfold wdrop; rw [if_pos hf])
    go_enter Try.func20, Try.ntmps20
    go_wp2_with (go_at_call 19; refine (rfind_any A n c l run _ h hn).mono ?_; rintro e w2 ⟨rfl, hgr2⟩)
    go_ret
    refine ⟨A, c, ret_slice (by rw [HT.out, hl]), ?_, hgr2⟩
    rw [HT.out, hl]
    exact h.gr0 hgr2
  · obtain ⟨k, hk⟩ : ∃ k : Nat, wfind l run = k := ⟨(wfind l run).toNat, by omega⟩
    have hkl : k < l.length := by
      have := ixFrom_bd (fun x : Wk => x.r == run) l 0
      unfold wfind at hk hf
      split at hk
      · omega
      · omega
    have hkn : k < n := by omega
    have HT := Lib.hid (show wdrop l run = l.set k ⟨0, -1, l[k].b⟩ by unfold wdrop; rw [if_neg hf, hk, wset_at l k _ hkl])
    have HK := Lib.hid hk
    obtain ⟨b, off, rfl, hc0, hc1, hc2⟩ := wk_at h hkl
    clear hk hf
    go_enter Try.func20, Try.ntmps20
    go_wp2_with (first | (go_at_call 19; refine (rfind_any _ n c l run _ h hn).mono ?_; rintro e w3 ⟨rfl, hgr3⟩; rw [HK.out]; have hd2 := hgr3.cell hc2 (by simp)) | (go_at_call 37; refine (changed_any _ n c l k ⟨0, -1, l[k].b⟩ _ (h.gr0 hgr3) hn hkn).mono ?_; rintro e w2 ⟨A1, c1, rfl, hown, hgr2⟩))
    go_ret
    refine ⟨A1, c1, ret_slice (by rw [HT.out, List.length_set, hl]), ?_, hgr3.trans hgr2⟩
    rw [HT.out, List.length_set, hl]
    exact Sl.of_own hown
end Go.Proofs.Ytllhlmlghkiojaa
