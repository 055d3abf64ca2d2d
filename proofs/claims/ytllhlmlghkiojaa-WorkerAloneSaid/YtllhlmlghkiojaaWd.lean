/- The workers' functions: the program's search, and the changes by their names. -/
import Derived.Test.YtllhlmlghkiojaaWc
namespace Go.Proofs.Ytllhlmlghkiojaa
open Go.RowKit

set_option maxHeartbeats 400000 in
theorem findfn_any (x : Wk) (p : Nat) (run : Int) (w : World) (hp : w.cell? ⟨p, 0, none⟩ = some (.int .i64 run)) :
    Calls Try.prog 34 #[.agg #[.int .i64 x.s, .int .i64 x.r, .int .i64 x.b], .pointer (some ⟨p, 0, none⟩)] w fun e w' => e = .returned (.bool (x.r == run)) ∧ Gr [] w w' := by
  have hp' := cell_alloc hp (.cells #[.int .i64 x.s, .int .i64 x.r, .int .i64 x.b] 30)
  go_enter Try.func34, Try.ntmps34
  go_wp2
  go_ret
  exact ⟨rfl, (Gr.refl _ _).alloc _⟩

set_option maxHeartbeats 400000 in
theorem indexfn_any (A : Option Addr) (n c p : Nat) (l : List Wk) (run : Int) (w : World) (h : Sl w 30 3 A n (wcells l)) (hn : n ≤ 1000000) (hp : w.cell? ⟨p, 0, none⟩ = some (.int .i64 run)) :
    Calls Try.prog 33 #[.slice A n c, .func (.func 34) #[] #[.pointer (some ⟨p, 0, none⟩)]] w fun e w' =>
      e = .returned (.int .i64 (ixFrom (fun x => x.r == run) l 0)) ∧ Gr [] w w' := by
  have hl := wk_len h
  go_enter Try.func33, Try.ntmps33
  go_wp2
  go_loopw [8] (fun i w' => ∃ k : Nat, k ≤ n ∧ i = .int .i64 k ∧ ixFrom (fun x => x.r == run) l 0 = ixFrom (fun x => x.r == run) (l.drop k) k ∧ Gr [] w w') (fun i _ => n - (intOf i).toNat)
  case atStart => exact ⟨0, Nat.zero_le _, rfl, rfl, Gr.refl _ _⟩
  case round =>
    obtain ⟨k, hk, rfl, hix, hgr⟩ := hrel
    have HI := Lib.hid hix
    clear hix
    have hp1 := hgr.cell hp (by simp)
    by_cases hlt : k < n
    · have hkl : k < l.length := by omega
      obtain ⟨b, off, rfl, hc0, hc1, hc2⟩ := wk_at (h.gr0 hgr) hkl
      by_cases hv : l[k].r = run
      · have hv' : (l[k].r == run) = true := by simp [hv]
        clear hv
        go_wp2_with (go_at_call 34; refine (findfn_any l[k] p run _ hp1).mono ?_; rintro e w1 ⟨rfl, hgr1⟩)
        go_ret
        exact ⟨ret_int (by rw [HI.out, ixFrom_hit _ _ _ _ (by omega) hv']), hgr.trans hgr1⟩
      · have hv' : (l[k].r == run) = false := by simp [hv]
        go_wp2_with (go_at_call 34; refine (findfn_any l[k] p run _ hp1).mono ?_; rintro e w1 ⟨rfl, hgr1⟩)
        go_roundw
        case rel => exact ⟨k + 1, by omega, by go_num, by rw [HI.out, ixFrom_miss _ _ _ _ (by omega) hv'], hgr.trans hgr1⟩
        case measure => simp [intOf]; omega
    · go_wp2
      go_ret
      exact ⟨ret_int (by rw [HI.out, ixFrom_end _ _ _ _ (by omega)]), hgr⟩

set_option maxHeartbeats 400000 in
theorem find_any (A : Option Addr) (n c : Nat) (l : List Wk) (run : Int) (w : World) (h : Sl w 30 3 A n (wcells l)) (hn : n ≤ 1000000) :
    Calls Try.prog 15 #[.slice A n c, .int .i64 run] w fun e w' => e = .returned (.int .i64 (wfind l run)) ∧ Gr [] w w' := by
  by_cases hr : run < 0
  · have HW := Lib.hid (show wfind l run = -1 by simp [wfind, hr])
    go_enter Try.func15, Try.ntmps15
    go_wp2
    go_ret
    exact ⟨ret_int HW.out.symm, (Gr.refl _ _).alloc _⟩
  · have HW := Lib.hid (show wfind l run = ixFrom (fun x => x.r == run) l 0 by simp [wfind, hr])
    have hb : (w.alloc (.cells #[.int .i64 run] 2)).cell? ⟨w.heap.size, 0, none⟩ = some (.int .i64 run) := (Bk.new w _ _).cell 0
    go_enter Try.func15, Try.ntmps15
    go_wp2_with (go_at_call 33; refine (indexfn_any A n c w.heap.size l run _ (h.alloc _) hn hb).mono ?_; rintro e w1 ⟨rfl, hgr1⟩)
    go_ret
    exact ⟨ret_int HW.out.symm, ((Gr.refl _ _).alloc _).trans hgr1⟩
end Go.Proofs.Ytllhlmlghkiojaa
