/- New workers; equal workers. -/
import Derived.Test.YtllhlmlghkiojaaWh
namespace Go.Proofs.Ytllhlmlghkiojaa
open Go.RowKit

theorem wcells_rep (k : Nat) (x : Wk) : wcells (List.replicate (k + 1) x) = wcells (List.replicate k x) ++ x.E := by
  rw [List.replicate_succ', wcells_append]; simp [wcells]

set_option maxHeartbeats 400000 in
theorem rnew_any (N : Int) (w : World) :
    Calls Try.prog 28 #[.int .i64 N] w (OutW w (wnew N)) := by
  obtain ⟨i0, hi0, hz0, hz1, hz2⟩ := info_parts Try.infoWk
  by_cases hN : N < 1 ∨ 8 < N
  · have HT := Lib.hid (show wnew N = (2, []) by unfold wnew; rw [if_pos hN])
    have hfin : ∀ W, Gr [] w W → OutW w (wnew N) (.returned (.tuple #[.slice none 0 0, .int .i64 2])) W := by
      intro W hW
      refine ⟨none, 0, by rw [HT.out]; rfl, ?_, hW⟩
      rw [HT.out]
      exact Sl.nil _ _ _ _
    rcases hN with hN | hN
    · go_enter Try.func28, Try.ntmps28
      go_wp2
      go_ret2
      exact hfin _ (Gr.refl _ _)
    · go_enter Try.func28, Try.ntmps28
      go_wp2
      go_ret2
      exact hfin _ (Gr.refl _ _)
  · obtain ⟨m, rfl⟩ : ∃ m : Nat, N = m := ⟨N.toNat, by omega⟩
    have HT := Lib.hid (show wnew m = (0, List.replicate m ⟨0, -1, 1⟩) by unfold wnew; rw [if_neg hN, Int.toNat_natCast])
    have hm1 : 1 ≤ m := by omega
    have hm8 : m ≤ 8 := by omega
    clear hN
    go_enter Try.func28, Try.ntmps28
    go_wp2
    go_loopw [4, 5] (fun v i w' => ∃ (k : Nat) (A : Option Addr) (c : Nat), k ≤ m ∧ i = .int .i64 k ∧ v = .slice A k c ∧ w'.ownsRow w.heap.size 30 3 (.slice A k c) k (wcells (List.replicate k ⟨0, -1, 1⟩)) ∧ Gr [] w w') (fun _ i _ => m - (intOf i).toNat)
    case atStart => exact ⟨0, none, 0, Nat.zero_le _, rfl, rfl, own_nil _ _ _ _, Gr.refl _ _⟩
    case round =>
      obtain ⟨k, A, c, hk, rfl, rfl, hown, hgr⟩ := hrel
      have hsz := hgr.size
      by_cases hlt : k < m
      · go_wp2_with (at_builtin; refine wpList_app _ rfl (.tmp 17) (.tmp 19) 24 rfl w.heap.size 30 i0 _ 3 24 Try.underlying24 hi0 hz0 hz1 hz2 rfl (by decide) (by decide) A k c _ rfl (hown.alloc _) _ 1 1 (wcells [⟨0, -1, 1⟩]) rfl (Sl.new _ _ 3 #[.int .i64 0, .int .i64 (-1), .int .i64 1] 1 _ rfl rfl) (wcells_one _) (by omega) (by simp; omega) ?_; intro A1 c1 w1 hown1 happ1; rw [← wcells_append, ← List.replicate_succ'] at hown1; have hgr1 := happ1.gr [] w (Nat.le_refl _) (hgr.alloc _); clear hown happ1 hgr)
        go_roundw
        case rel => exact ⟨k + 1, A1, c1, by omega, by go_num, rfl, hown1, hgr1⟩
        case measure => simp [intOf]; omega
      · have hkm : k = m := by omega
        subst hkm
        go_wp2
        go_ret2
        refine ⟨A, c, ret_slice_int (by rw [HT.out]; simp) (by rw [HT.out]), ?_, hgr⟩
        rw [HT.out]
        simp only [List.length_replicate]
        exact Sl.of_own hown
end Go.Proofs.Ytllhlmlghkiojaa
