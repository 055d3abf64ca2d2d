/- Valid; name, named. -/
import Derived.Test.YtldabchaflnmdaaSa
namespace Go.Proofs.Ytldabchaflnmdaa
open Go.RowKit

set_option maxHeartbeats 1000000 in
/-- A heap of objects 1, 2, .. is valid. -/
theorem valid_any (A : Option Addr) (c : Nat) (l : List Rw) (w : World) (hA : Os w A l) (hn : l.length ≤ 1000000) (hid : ∀ j (hj : j < l.length), l[j].o.id = (j : Int) + 1) :
    Calls Try.prog 13 #[.agg #[.slice A l.length c]] w fun e w' => e = .returned (.bool true) ∧ Gr [] w w' := by
  have HI := Lib.hid hid
  clear hid
  have hb0 := Bk.new w 28 #[.slice A l.length c]
  have hg0 := (Gr.refl [] w).alloc (.cells #[.slice A l.length c] 28)
  have h0 := hb0.cell 0
  go_enter Try.func13, Try.ntmps13
  go_wp2
  go_loopw [8] (fun v w' => ∃ j : Nat, j ≤ l.length ∧ v = .int .i64 j ∧ Gr [] w w' ∧ Bk w' w.heap.size 28 #[.slice A l.length c]) (fun v _ => l.length - (intOf v).toNat)
  case atStart => exact ⟨0, Nat.zero_le _, rfl, hg0, hb0⟩
  case round =>
    obtain ⟨j, hj, rfl, hgr, hbw⟩ := hrel
    by_cases hlt : j < l.length
    · obtain ⟨b, off, rfl, ha0, ha1⟩ := (hA.gr0 hgr).at_ hlt
      have HID := Lib.hid (HI.out j hlt)
      have hbw0 := (hbw.alloc (.cells #[.int .i64 l[j].o.id, .slice l[j].A l[j].o.fs.length l[j].c] 43)).cell 0
      rcases j with _ | m
      · have h1 : decide (l[0].o.id < 1) = false := by rw [HID.out]; simp
        clear HID
        simp only [Nat.zero_mul, Nat.add_zero] at ha0 ha1
        generalize l[0] = r at *
        obtain ⟨⟨oid, ofs⟩, gA, gc⟩ := r
        simp only at ha0 ha1 h1 hbw0
        clear hA h0 hb0 hg0
        go_wp2_with fail
        go_quiet (fail)
        go_wp2
        go_roundw
        case rel => exact ⟨1, by omega, by go_num, (hgr.alloc _).drewN _, (hbw.alloc _).drewN _⟩
        case measure => simp [intOf]; omega
      · obtain ⟨b', off', hbb, hp0, hp1⟩ := (hA.gr0 hgr).at_ (show m < l.length by omega)
        injection hbb with hbb
        injection hbb with hb1 hb2 _
        subst hb1; subst hb2
        have h1 : decide (l[m + 1].o.id < 1) = false := by rw [HID.out]; simp; omega
        have h2 : decide (l[m + 1].o.id ≤ l[m].o.id) = false := by rw [HID.out, HI.out m (by omega)]; simp; omega
        clear HID
        generalize l[m + 1] = r at *
        generalize l[m] = r' at *
        obtain ⟨⟨oid, ofs⟩, gA, gc⟩ := r
        obtain ⟨⟨oid', ofs'⟩, gA', gc'⟩ := r'
        simp only at ha0 ha1 h1 h2 hp0 hp1 hbw0
        have hp0' := cell_alloc hp0 (.cells #[.int .i64 oid, .slice gA ofs.length gc] 43)
        have e0 : (0 : Int) < (m : Int) + 1 := by omega
        have e1 : IntKind.i64.wrap ((m : Int) + 1 - 1) = (m : Int) := IntWalk.i64_in _ (by omega) |>.trans (by omega)
        have e2 : (m : Int) < (l.length : Int) := by omega
        go_wp2_with fail
        go_quiet (fail)
        go_wp2
        go_roundw
        case rel => exact ⟨m + 1 + 1, by omega, by go_num, (hgr.alloc _).drewN _, (hbw.alloc _).drewN _⟩
        case measure => simp [intOf]; omega
    · go_wp2
      go_ret
      exact ⟨rfl, hgr⟩
end Go.Proofs.Ytldabchaflnmdaa
