/- The reference: Open. -/
import Derived.Test.YtpbelnbknnhgnaaRn
namespace Go.Proofs.Ytpbelnbknnhgnaa
open Go.RowKit

def ro (l : List Dd) (k : Nat) : List Int := ((l.take k).filter fun d => d.kind == 1 && !stl l d.ticket).map Dd.ticket
theorem ro_succ (l : List Dd) {k : Nat} (hk : k < l.length) : ro l (k + 1) = ro l k ++ if (l[k].kind == 1 && !stl l l[k].ticket) = true then [l[k].ticket] else [] := by
  unfold ro
  rw [List.take_succ_eq_append_getElem hk, List.filter_append, List.map_append]
  congr 1
  simp only [List.filter_cons, List.filter_nil]
  split <;> rfl
theorem ro_full (l : List Dd) : ro l l.length = refOpen l := by unfold ro refOpen; rw [List.take_length]
theorem ro_len (l : List Dd) (k : Nat) : (ro l k).length ≤ k := by
  unfold ro
  rw [List.length_map]
  exact Nat.le_trans (List.length_filter_le _ _) (List.length_take_le _ _)
theorem Try.infoI64 : (Try.prog.info? 2).map (fun i => (i.zero, i.size, i.bytes)) = some (some (.int .i64 0), 1, 8) := by kernel_rfl
theorem bk_i64 {w : World} {g : Nat} {x : Int} (h : Bk w g 2 #[.int .i64 x]) : Sl w 2 1 (some ⟨g, 0, none⟩) 1 [.int .i64 x] :=
  ⟨rfl, fun _ => ⟨g, 0, _, _, rfl, h, fun j u hu => by simpa using hu⟩⟩

set_option maxHeartbeats 2000000 in
theorem ropen_any (A : Option Addr) (c : Nat) (l : List Dd) (T : Int) (w : World) (h : Ds w A l) (hn : l.length ≤ 999999) :
    Calls Try.prog 30 #[.agg #[.slice A l.length c, .int .i64 T]] w fun e w' => ∃ (A' : Option Addr) (c' : Nat), e = .returned (.slice A' (refOpen l).length c') ∧ (refOpen l).length ≤ c' ∧ Sl w' 2 1 A' (refOpen l).length ((refOpen l).map (.int .i64)) ∧ Gr [] w w' := by
  obtain ⟨i0, hi0, hz0, hz1, hz2⟩ := info_parts Try.infoI64
  go_enter Try.func30, Try.ntmps30
  go_wp2
  go_loopw [3, 4] (fun o i w' => ∃ (k m : Nat) (A' : Option Addr) (c' : Nat), k ≤ l.length ∧ m = (ro l k).length ∧ m ≤ k ∧ o = .slice A' m c' ∧ i = .int .i64 k ∧ w'.ownsRow w.heap.size 2 1 (.slice A' m c') m ((ro l k).map (.int .i64)) ∧ Bk w' w.heap.size 26 #[.slice A l.length c, .int .i64 T] ∧ Gr [] w w') (fun _ i _ => l.length - (intOf i).toNat)
  case atStart => exact ⟨0, 0, none, 0, Nat.zero_le _, rfl, Nat.le_refl _, rfl, rfl, own_nil _ _ _ _, Bk.new w _ _, (Gr.refl _ _).alloc _⟩
  case round =>
    obtain ⟨k, m, A1, c1, hk, hm, hmk, rfl, rfl, hown, hB, hgr⟩ := hrel
    obtain ⟨x0, x1⟩ := hB.cells2
    have HM := Lib.hid hm
    clear hm
    by_cases hlt : k < l.length
    · have HS := Lib.hid (ro_succ l hlt)
      have hds := h.gr0 hgr
      obtain ⟨b, off, rfl, hc0, hc1, hc2, hc3, hc4, hc5⟩ := (h.gr0 hgr).at_ hlt
      generalize l[k] = d at *
      obtain ⟨dk, dt, dv, ⟨a1, a2, a3⟩⟩ := d
      simp only at hc0 hc1 hc2 hc3 hc4 hc5 HS
      have hbs : w.heap.size ≤ wr.heap.size := hgr.size
      by_cases h1 : dk = 1
      · subst h1
        have z0 := (hB.alloc (.cells #[.int .i64 1, .int .i64 dt, .int .i64 dv, .bool a1, .int .i64 a2, .int .i64 a3] 32)).cell 0
        go_wp2_with fail
        go_at_call 38
        refine (stl_any _ c l dt _ (hds.gr0 ((Gr.refl [] wr).alloc _)) (by omega)).mono ?_
        rintro e w2 ⟨rfl, hg2⟩
        have hDB := (by simpa using Bk.new wr 32 #[.int .i64 1, .int .i64 dt, .int .i64 dv, .bool a1, .int .i64 a2, .int .i64 a3] : Bk (wr.alloc (.cells #[.int .i64 1, .int .i64 dt, .int .i64 dv, .bool a1, .int .i64 a2, .int .i64 a3] 32)) wr.heap.size 32 #[.int .i64 1, .int .i64 dt, .int .i64 dv, .bool a1, .int .i64 a2, .int .i64 a3])
        have hDB2 := hDB.gr0 hg2
        have hd1 := hDB2.cell 1
        have hgr2 := (hgr.alloc (.cells #[.int .i64 1, .int .i64 dt, .int .i64 dv, .bool a1, .int .i64 a2, .int .i64 a3] 32)).trans hg2
        have hown2 := own_gr0 hown (((Gr.refl [] wr).alloc (.cells #[.int .i64 1, .int .i64 dt, .int .i64 dv, .bool a1, .int .i64 a2, .int .i64 a3] 32)).trans hg2)
        have hB2 := (hB.alloc (.cells #[.int .i64 1, .int .i64 dt, .int .i64 dv, .bool a1, .int .i64 a2, .int .i64 a3] 32)).gr0 hg2
        cases hst : stl l dt with
        | true =>
          have HQ := Lib.hid (show ro l (k + 1) = ro l k by rw [HS.out, hst]; simp)
          clear hst
          go_wp2
          go_roundw
          case rel => exact ⟨k + 1, m, A1, c1, by omega, by rw [HQ.out, ← HM.out], by omega, rfl, by go_num, by rw [HQ.out]; exact hown2, hB2, hgr2⟩
          case measure => simp [intOf]; omega
        | false =>
          have HQ := Lib.hid (show ro l (k + 1) = ro l k ++ [dt] by rw [HS.out, hst]; simp)
          clear hst
          have hownA := own_gr0 hown2 ((Gr.refl [] w2).alloc (.cells #[.int .i64 dt] 2))
          have hslA := bk_i64 (Bk.new w2 2 #[.int .i64 dt])
          have hbs2 : w.heap.size ≤ w2.heap.size := hgr2.size
          go_wp2_with (at_builtin; refine wpList_app _ rfl (.tmp 29) (.tmp 32) 37 rfl w.heap.size 2 i0 _ 1 8 Try.underlying37 hi0 hz0 hz1 hz2 rfl (by decide) (by decide) A1 m c1 _ rfl hownA _ 1 1 _ rfl hslA (by intro u hu; simp at hu; subst hu; rfl) (by omega) (by simp; omega) ?_; intro A2 c2 w3 hown3 happ3)
          go_roundw
          case rel => exact ⟨k + 1, m + 1, A2, c2, by omega, by rw [HQ.out, List.length_append, ← HM.out]; rfl, by omega, rfl, by go_num, by rw [HQ.out, List.map_append]; exact hown3, happ3.bk (hB2.alloc _) (by decide), happ3.gr [] w (Nat.le_refl _) (hgr2.alloc _)⟩
          case measure => simp [intOf]; omega
      · have b1 : (dk == 1) = false := by simpa using h1
        have HQ := Lib.hid (show ro l (k + 1) = ro l k by rw [HS.out, b1]; simp)
        clear h1
        go_wp2
        go_roundw
        case rel => exact ⟨k + 1, m, A1, c1, by omega, by rw [HQ.out, ← HM.out], by omega, rfl, by go_num, by rw [HQ.out]; exact own_gr0 hown ((Gr.refl [] wr).alloc _), hB.alloc _, hgr.alloc _⟩
        case measure => simp [intOf]; omega
    · have hkn : k = l.length := by omega
      subst hkn
      rw [ro_full] at hown
      have HL := Lib.hid (show m = (refOpen l).length by rw [HM.out, ro_full])
      go_wp2
      go_ret
      refine ⟨A1, c1, by rw [← HL.out]; rfl, by rw [← HL.out]; exact own_cap hown, by rw [← HL.out]; exact Sl.of_own hown, hgr⟩
end Go.Proofs.Ytpbelnbknnhgnaa
