/- The reference: Net. -/
import Derived.Test.YtpbelnbknnhgnaaRg
namespace Go.Proofs.Ytpbelnbknnhgnaa
open Go.RowKit

set_option maxHeartbeats 2000000 in
theorem rnet_any (A : Option Addr) (c : Nat) (l : List Dd) (T : Int) (w : World) (h : Ds w A l) (hn : l.length ≤ 999999) :
    Calls Try.prog 29 #[.agg #[.slice A l.length c, .int .i64 T]] w fun e w' => ∃ (A' : Option Addr) (c' : Nat), e = .returned (.slice A' (net l).length c') ∧ (net l).length ≤ c' ∧ Sl w' 30 3 A' (net l).length (acells (net l)) ∧ Gr [] w w' := by
  obtain ⟨i0, hi0, hz0, hz1, hz2⟩ := info_parts Try.infoAc
  go_enter Try.func29, Try.ntmps29
  go_wp2
  go_loopw [3, 4] (fun o i w' => ∃ (k m : Nat) (A' : Option Addr) (c' : Nat), k ≤ l.length ∧ m = (net (l.take k)).length ∧ m ≤ k ∧ o = .slice A' m c' ∧ i = .int .i64 k ∧ w'.ownsRow w.heap.size 30 3 (.slice A' m c') m (acells (net (l.take k))) ∧ Bk w' w.heap.size 26 #[.slice A l.length c, .int .i64 T] ∧ Gr [] w w') (fun _ i _ => l.length - (intOf i).toNat)
  case atStart => exact ⟨0, 0, none, 0, Nat.zero_le _, rfl, Nat.le_refl _, rfl, rfl, own_nil _ _ _ _, Bk.new w _ _, (Gr.refl _ _).alloc _⟩
  case round =>
    obtain ⟨k, m, A1, c1, hk, hm, hmk, rfl, rfl, hown, hB, hgr⟩ := hrel
    obtain ⟨x0, x1⟩ := hB.cells2
    have HM := Lib.hid hm
    clear hm
    by_cases hlt : k < l.length
    · have HS := Lib.hid (net_snoc hlt)
      obtain ⟨b, off, rfl, hc0, hc1, hc2, hc3, hc4, hc5⟩ := (h.gr0 hgr).at_ hlt
      generalize l[k] = d at *
      obtain ⟨dk, dt, dv, ⟨a1, a2, a3⟩⟩ := d
      simp only at hc0 hc1 hc2 hc3 hc4 hc5 HS
      have hbs : w.heap.size ≤ wr.heap.size := hgr.size
      by_cases h4 : dk = 4
      · subst h4
        have HQ := Lib.hid (show net (l.take (k + 1)) = net (l.take k) ++ [⟨a1, a2, a3⟩] by rw [HS.out]; rfl)
        have hownA := own_gr0 hown (((Gr.refl [] wr).alloc (.cells #[.int .i64 4, .int .i64 dt, .int .i64 dv, .bool a1, .int .i64 a2, .int .i64 a3] 32)).alloc (.cells #[.bool a1, .int .i64 a2, .int .i64 a3] 30))
        have hslA := bk_as (a := ⟨a1, a2, a3⟩) (by simpa using Bk.new (wr.alloc (.cells #[.int .i64 4, .int .i64 dt, .int .i64 dv, .bool a1, .int .i64 a2, .int .i64 a3] 32)) 30 #[.bool a1, .int .i64 a2, .int .i64 a3] : Bk ((wr.alloc (.cells #[.int .i64 4, .int .i64 dt, .int .i64 dv, .bool a1, .int .i64 a2, .int .i64 a3] 32)).alloc (.cells #[.bool a1, .int .i64 a2, .int .i64 a3] 30)) (wr.heap.size + 1) 30 #[.bool a1, .int .i64 a2, .int .i64 a3])
        go_wp2_with (at_builtin; refine wpList_app _ rfl (.tmp 22) (.tmp 25) 33 rfl w.heap.size 30 i0 _ 3 24 Try.underlying33 hi0 hz0 hz1 hz2 rfl (by decide) (by decide) A1 m c1 _ rfl hownA _ 1 1 _ rfl hslA (acells_one _) (by omega) (by simp; omega) ?_; intro A2 c2 w2 hown2 happ2)
        go_roundw
        case rel => exact ⟨k + 1, m + 1, A2, c2, by omega, by rw [HQ.out, List.length_append, ← HM.out]; rfl, by omega, rfl, by go_num, by rw [HQ.out, acells_append]; exact hown2, happ2.bk ((hB.alloc _).alloc _) (by decide), happ2.gr [] w (Nat.le_refl _) ((hgr.alloc _).alloc _)⟩
        case measure => simp [intOf]; omega
      · have b4 : (dk == 4) = false := by simpa using h4
        by_cases h2 : dk = 2
        · subst h2
          have HQ := Lib.hid (show net (l.take (k + 1)) = net (l.take k) ++ [⟨false, dv, 0⟩] by rw [HS.out]; rfl)
          have hownA := own_gr0 hown (((Gr.refl [] wr).alloc (.cells #[.int .i64 2, .int .i64 dt, .int .i64 dv, .bool a1, .int .i64 a2, .int .i64 a3] 32)).alloc (.cells #[.bool false, .int .i64 dv, .int .i64 0] 30))
          have hslA := bk_as (a := ⟨false, dv, 0⟩) (by simpa using Bk.new (wr.alloc (.cells #[.int .i64 2, .int .i64 dt, .int .i64 dv, .bool a1, .int .i64 a2, .int .i64 a3] 32)) 30 #[.bool false, .int .i64 dv, .int .i64 0] : Bk ((wr.alloc (.cells #[.int .i64 2, .int .i64 dt, .int .i64 dv, .bool a1, .int .i64 a2, .int .i64 a3] 32)).alloc (.cells #[.bool false, .int .i64 dv, .int .i64 0] 30)) (wr.heap.size + 1) 30 #[.bool false, .int .i64 dv, .int .i64 0])
          go_wp2_with (at_builtin; refine wpList_app _ rfl (.tmp 29) (.tmp 33) 33 rfl w.heap.size 30 i0 _ 3 24 Try.underlying33 hi0 hz0 hz1 hz2 rfl (by decide) (by decide) A1 m c1 _ rfl hownA _ 1 1 _ rfl hslA (acells_one _) (by omega) (by simp; omega) ?_; intro A2 c2 w2 hown2 happ2)
          go_roundw
          case rel => exact ⟨k + 1, m + 1, A2, c2, by omega, by rw [HQ.out, List.length_append, ← HM.out]; rfl, by omega, rfl, by go_num, by rw [HQ.out, acells_append]; exact hown2, happ2.bk ((hB.alloc _).alloc _) (by decide), happ2.gr [] w (Nat.le_refl _) ((hgr.alloc _).alloc _)⟩
          case measure => simp [intOf]; omega
        · have b2 : (dk == 2) = false := by simpa using h2
          have HQ := Lib.hid (show net (l.take (k + 1)) = net (l.take k) by rw [HS.out]; simp [net1, h4, h2])
          clear h4 h2
          go_wp2
          go_roundw
          case rel => exact ⟨k + 1, m, A1, c1, by omega, by rw [HQ.out, ← HM.out], by omega, rfl, by go_num, by rw [HQ.out]; exact own_gr0 hown ((Gr.refl [] wr).alloc _), hB.alloc _, hgr.alloc _⟩
          case measure => simp [intOf]; omega
    · have hkn : k = l.length := by omega
      subst hkn
      rw [List.take_length] at hown
      have HL := Lib.hid (show m = (net l).length by rw [HM.out, List.take_length])
      go_wp2
      go_ret
      refine ⟨A1, c1, by rw [← HL.out]; rfl, by rw [← HL.out]; exact own_cap hown, by rw [← HL.out]; exact Sl.of_own hown, hgr⟩
end Go.Proofs.Ytpbelnbknnhgnaa
