/- The workers' functions: restart, assign, drop, new. -/
import Derived.Test.YtllhlmlghkiojaaWe
namespace Go.Proofs.Ytllhlmlghkiojaa
open Go.RowKit

theorem wset_wset_b (l : List Wk) (k : Nat) (hk : k < l.length) (x : Wk) (b : Int) : wcells ((l.set k x).set k ⟨x.s, x.r, b⟩) = (wcells (l.set k x)).set (k * 3 + 2) (.int .i64 b) := by
  have hk' : k < (l.set k x).length := by simpa using hk
  rw [wcells_set _ _ _ hk']
  have e0 : (wcells (l.set k x))[k * 3]? = some (.int .i64 x.s) := by have := wcells_get (l.set k x) k 0 hk' (by omega); simpa [Wk.E] using this
  have e1 : (wcells (l.set k x))[k * 3 + 1]? = some (.int .i64 x.r) := by have := wcells_get (l.set k x) k 1 hk' (by omega); simpa [Wk.E] using this
  rw [set_same _ _ _ e0, set_same _ _ _ e1]

set_option maxHeartbeats 400000 in
theorem restart_any (A : Option Addr) (n c : Nat) (l : List Wk) (i : Int) (w : World) (h : Sl w 30 3 A n (wcells l)) (hn : n ≤ 1000000) (hi1 : -9223372036854775808 ≤ i) (hi2 : i ≤ 9223372036854775807) :
    Calls Try.prog 11 #[.slice A n c, .int .i64 i] w (OutW w (wrestart l i)) := by
  have hl := wk_len h
  have hs : Sl (w.alloc (.cells #[.int .i64 3] 3)) 3 1 (some ⟨w.heap.size, 0, none⟩) 1 (([3] : List Int).map (.int .i64)) := Sl.new w _ 1 #[.int .i64 3] 1 _ rfl rfl
  by_cases hok : wis l i [3] = 0
  · have hr := wis_range hok
    obtain ⟨k, rfl⟩ : ∃ k : Nat, i = k := ⟨i.toNat, by omega⟩
    have hkl : k < l.length := by omega
    have hkn : k < n := by omega
    have HM := Lib.hid (wmade_ok [3] 0 l k hok)
    have HT := Lib.hid (show wrestart l k = (0, l.set k ⟨0, -1, wrap64 (l[k].b + 1)⟩) by unfold wrestart; rw [if_pos hok, wset_at l k _ hkl])
    have HS := Lib.hid (show (wset l k fun x => (⟨0, if (0 : Int) = 0 ∨ (0 : Int) = 3 then -1 else x.r, x.b⟩ : Wk)) = l.set k ⟨0, -1, l[k].b⟩ by rw [wset_at l k _ hkl]; simp)
    clear hok hr
    go_enter Try.func11, Try.ntmps11
    go_wp2_with (go_at_call 32; refine (made_any A n c l k _ 1 1 [3] 0 _ (h.alloc _) hn hs (by omega) hi1 hi2).mono ?_; rintro e w1 ⟨A1, c1, rfl, hown, hgr⟩; rw [HM.out, HS.out] at hown; rw [HM.out, HS.out]; simp only [List.length_set, hl] at hown ⊢; obtain ⟨g, hA1, hg1, hg2, hfr⟩ := own_form hown (by omega); subst hA1; have hq2 := (hown.cellAt (k * 3 + 2) (by omega)).trans (wcells_get (l.set k ⟨0, -1, l[k].b⟩) k 2 (by simpa using hkl) (by omega)); simp only [List.getElem_set_self, Wk.E, List.getElem?_cons_succ, List.getElem?_cons_zero] at hq2; have hf2 := hfr (k * 3 + 2))
    go_ret2
    refine ⟨_, c1, ret_slice_int (by rw [HT.out, List.length_set, hl]) (by rw [HT.out]), ?_, ?_⟩
    · have hs1 := (hown.stored (k * 3 + 2) (.int .i64 (wrap64 (l[k].b + 1)))).1
      rw [← wset_wset_b l k hkl ⟨0, -1, l[k].b⟩, List.set_set] at hs1
      rw [HT.out, List.length_set, hl]
      exact Sl.of_own hs1
    · have hg3 : w.heap.size + 1 ≤ g := by simpa using hg1
      exact (((Gr.refl _ _).alloc _).trans hgr).setCell (.inr (by simp only; omega)) _
  · have HB := Lib.hid (wmade_bad [3] 0 l i hok)
    have HT := Lib.hid (show wrestart l i = (wis l i [3], []) by unfold wrestart; rw [if_neg hok])
    have hne : (wis l i [3] == 0) = false := by simp [hok]
    clear hok
    go_enter Try.func11, Try.ntmps11
    go_wp2_with (go_at_call 32; refine (made_any A n c l i _ 1 1 [3] 0 _ (h.alloc _) hn hs (by omega) hi1 hi2).mono ?_; rintro e w1 ⟨A1, c1, rfl, hown, hgr⟩; rw [HB.out])
    go_ret2
    refine ⟨A1, c1, ret_slice_int (by rw [HT.out]; rfl) (by rw [HT.out]), ?_, ((Gr.refl _ _).alloc _).trans hgr⟩
    rw [HT.out]
    exact Sl.nil _ _ _ _

set_option maxHeartbeats 400000 in
theorem assign_any (A : Option Addr) (n c : Nat) (l : List Wk) (i run : Int) (w : World) (h : Sl w 30 3 A n (wcells l)) (hn : n ≤ 1000000) (hi1 : -9223372036854775808 ≤ i) (hi2 : i ≤ 9223372036854775807) :
    Calls Try.prog 12 #[.slice A n c, .int .i64 i, .int .i64 run] w (OutW w (wassign l i run)) := by
  have hl := wk_len h
  have hs : Sl (w.alloc (.cells #[.int .i64 0] 3)) 3 1 (some ⟨w.heap.size, 0, none⟩) 1 (([0] : List Int).map (.int .i64)) := Sl.new w _ 1 #[.int .i64 0] 1 _ rfl rfl
  by_cases hrun : run < 0
  · have HT := Lib.hid (show wassign l i run = (2, []) by unfold wassign; rw [if_pos hrun])
    go_enter Try.func12, Try.ntmps12
    go_wp2
    go_ret2
    refine ⟨none, 0, ret_slice_int (by rw [HT.out]; rfl) (by rw [HT.out]), ?_, Gr.refl _ _⟩
    rw [HT.out]
    exact Sl.nil _ _ _ _
  by_cases hok : wis l i [0] = 0
  · have hr := wis_range hok
    obtain ⟨k, rfl⟩ : ∃ k : Nat, i = k := ⟨i.toNat, by omega⟩
    have hkl : k < l.length := by omega
    have hkn : k < n := by omega
    have HM := Lib.hid (wmade_ok [0] 1 l k hok)
    have HS := Lib.hid (show (wset l k fun x => (⟨1, if (1 : Int) = 0 ∨ (1 : Int) = 3 then -1 else x.r, x.b⟩ : Wk)) = l.set k ⟨1, l[k].r, l[k].b⟩ by rw [wset_at l k _ hkl]; simp)
    by_cases hf : 0 ≤ wfind l run
    · have HT := Lib.hid (show wassign l k run = (6, []) by unfold wassign; rw [if_neg hrun, if_pos hok, if_pos hf])
      clear hok hr
      go_enter Try.func12, Try.ntmps12
      go_wp2_with (first | (go_at_call 32; refine (made_any A n c l k _ 1 1 [0] 1 _ (h.alloc _) hn hs (by omega) hi1 hi2).mono ?_; rintro e w1 ⟨A1, c1, rfl, hown, hgr⟩; rw [HM.out, HS.out] at hown; rw [HM.out, HS.out]; simp only [List.length_set, hl] at hown ⊢; have hgr1 := ((Gr.refl [] w).alloc _).trans hgr) | (go_at_call 15; refine (find_any A n c l run _ (h.gr0 hgr1) hn).mono ?_; rintro e w2 ⟨rfl, hgr2⟩))
      go_ret2
      refine ⟨none, 0, ret_slice_int (by rw [HT.out]; rfl) (by rw [HT.out]), ?_, hgr1.trans hgr2⟩
      rw [HT.out]
      exact Sl.nil _ _ _ _
    · have HT := Lib.hid (show wassign l k run = (0, l.set k ⟨1, run, l[k].b⟩) by unfold wassign; rw [if_neg hrun, if_pos hok, if_neg hf, wset_at l k _ hkl])
      clear hok hr
      go_enter Try.func12, Try.ntmps12
      go_wp2_with (first | (go_at_call 32; refine (made_any A n c l k _ 1 1 [0] 1 _ (h.alloc _) hn hs (by omega) hi1 hi2).mono ?_; rintro e w1 ⟨A1, c1, rfl, hown, hgr⟩; rw [HM.out, HS.out] at hown; rw [HM.out, HS.out]; simp only [List.length_set, hl] at hown ⊢; have hgr1 := ((Gr.refl [] w).alloc _).trans hgr) | (go_at_call 15; refine (find_any A n c l run _ (h.gr0 hgr1) hn).mono ?_; rintro e w2 ⟨rfl, hgr2⟩; have hown2 := own_gr0 hown hgr2; obtain ⟨g, hA1, hg1, hg2, hfr⟩ := own_form hown2 (by omega); subst hA1; have hq2 := (hown2.cellAt (k * 3 + 1) (by omega)).trans (wcells_get (l.set k ⟨1, l[k].r, l[k].b⟩) k 1 (by simpa using hkl) (by omega)); simp only [List.getElem_set_self, Wk.E, List.getElem?_cons_succ, List.getElem?_cons_zero] at hq2; have hf2 := hfr (k * 3 + 1)))
      go_ret2
      refine ⟨_, c1, ret_slice_int (by rw [HT.out, List.length_set, hl]) (by rw [HT.out]), ?_, ?_⟩
      · have hs1 := (hown2.stored (k * 3 + 1) (.int .i64 run)).1
        rw [wcells_set1 l k _ hkl, ← wcells_set2 l k _ _ hkl] at hs1
        rw [HT.out, List.length_set, hl]
        exact Sl.of_own hs1
      · have hg3 : w.heap.size + 1 ≤ g := by simpa using hg1
        exact (hgr1.trans hgr2).setCell (.inr (by simp only; omega)) _
  · have HB := Lib.hid (wmade_bad [0] 1 l i hok)
    have HT := Lib.hid (show wassign l i run = (wis l i [0], []) by unfold wassign; rw [if_neg hrun, if_neg hok])
    have hne : (wis l i [0] != 0) = true := by simp [hok]
    clear hok
    go_enter Try.func12, Try.ntmps12
    go_wp2_with (go_at_call 32; refine (made_any A n c l i _ 1 1 [0] 1 _ (h.alloc _) hn hs (by omega) hi1 hi2).mono ?_; rintro e w1 ⟨A1, c1, rfl, hown, hgr⟩; rw [HB.out])
    go_ret2
    refine ⟨none, 0, ret_slice_int (by rw [HT.out]; rfl) (by rw [HT.out]), ?_, ((Gr.refl _ _).alloc _).trans hgr⟩
    rw [HT.out]
    exact Sl.nil _ _ _ _

set_option maxHeartbeats 400000 in
theorem drop_any (A : Option Addr) (n c : Nat) (l : List Wk) (run : Int) (w : World) (h : Sl w 30 3 A n (wcells l)) (hn : n ≤ 1000000) :
    Calls Try.prog 17 #[.slice A n c, .int .i64 run] w (OutL w (wdrop l run)) := by
  have hl := wk_len h
  by_cases hf : wfind l run < 0
  · have HT := Lib.hid (show wdrop l run = l by unfold wdrop; rw [if_pos hf])
    go_enter Try.func17, Try.ntmps17
    go_wp2_with (first | (go_at_call 35; refine (clone_any A n c l _ h hn).mono ?_; rintro e w1 ⟨A1, c1, rfl, hown, hgr⟩) | (go_at_call 15; refine (find_any A n c l run _ (h.gr0 hgr) hn).mono ?_; rintro e w2 ⟨rfl, hgr2⟩))
    go_ret
    refine ⟨A1, c1, ret_slice (by rw [HT.out, hl]), ?_, hgr.trans hgr2⟩
    rw [HT.out, hl]
    exact Sl.of_own (own_gr0 hown hgr2)
  · obtain ⟨k, hk⟩ : ∃ k : Nat, wfind l run = k := ⟨(wfind l run).toNat, by omega⟩
    have hkl : k < l.length := by
      have := ixFrom_bd (fun x : Wk => x.r == run) l 0
      unfold wfind at hk hf
      split at hk
      · omega
      · omega
    have HT := Lib.hid (show wdrop l run = l.set k ⟨0, -1, l[k].b⟩ by unfold wdrop; rw [if_neg hf, hk, wset_at l k _ hkl])
    have HK := Lib.hid hk
    clear hk hf
    go_enter Try.func17, Try.ntmps17
    go_wp2_with (first | (go_at_call 35; refine (clone_any A n c l _ h hn).mono ?_; rintro e w1 ⟨A1, c1, rfl, hown, hgr⟩) | (go_at_call 15; refine (find_any A n c l run _ (h.gr0 hgr) hn).mono ?_; rintro e w2 ⟨rfl, hgr2⟩; rw [HK.out]; have hown2 := own_gr0 hown hgr2; obtain ⟨g, hA1, hg1, hg2, hfr⟩ := own_form hown2 (by omega); subst hA1; obtain ⟨hq0, hq1, _⟩ := wk_own hown2 hl hkl; have hf0 := hfr (k * 3); have hf1 := hfr (k * 3 + 1)))
    go_ret
    refine ⟨_, c1, ret_slice (by rw [HT.out, List.length_set, hl]), ?_, ?_⟩
    · rw [HT.out, List.length_set, hl, wcells_set2 l k _ _ hkl]
      exact Sl.of_own ((hown2.stored _ _).1.stored _ _).1
    · exact ((hgr.trans hgr2).setCell (.inr (by simp only; omega)) _).setCell (.inr (by simp only; omega)) _
end Go.Proofs.Ytllhlmlghkiojaa
