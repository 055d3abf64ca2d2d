/- find: everything that can be reached. -/
import Derived.Test.YtldabchaflnmdaaFi
import Derived.Carry
namespace Go.Proofs.Ytldabchaflnmdaa
open Go.RowKit

theorem place_nil : place [] = fun _ => 0 := rfl
theorem Fi.new (w0 w : World) (hA : Option Addr) (hn hc : Nat) (hw : w0.heap.size ≤ w.heap.size) : Fi ((w.alloc (.map #[] 0)).alloc (.cells #[.slice hA hn hc, .map (some w.heap.size), .slice none 0 0] 56)) w0.heap.size (w.heap.size + 1) hA hn hc [] :=
  ⟨w.heap.size, none, 0, [], by simpa using Bk.new (w.alloc (.map #[] 0)) 56 #[.slice hA hn hc, .map (some w.heap.size), .slice none 0 0], by omega, hw, by rw [place_nil]; exact (Mp.made w).gr ((Gr.refl [] _).alloc _) (by simp), own_nil _ _ _ _, by intro r hr; simp at hr, rfl⟩
theorem findLoop_end (h : List Ob) (f k : Nat) (found : List Ob) (hk : ¬ k < found.length) : findLoop h f k found = found := by
  cases f with
  | zero => rfl
  | succ f => rw [findLoop, dif_neg hk]
theorem findLoop_step (h : List Ob) (f k : Nat) (found : List Ob) (hk : k < found.length) : findLoop h (f + 1) k found = findLoop h f (k + 1) (look h found found[k].fs) := by
  rw [findLoop, dif_pos hk]

set_option maxHeartbeats 1000000 in
theorem find_any (hA : Option Addr) (hc : Nat) (h : List Rw) (A : Option Addr) (c : Nat) (l : List Vl) (w : World) (hOs : Os w hA h) (hR : Rok w h)
    (hl : Vs w A l) (hV : VW l) (hn1 : l.length ≤ 1000000) (hn2 : h.length ≤ 1000000) :
    Calls Try.prog 19 #[.agg #[.slice hA h.length hc], .slice A l.length c] w fun e w' => ∃ F, e = .returned (.pointer (some ⟨F, 0, none⟩)) ∧ Fi w' w.heap.size F hA h.length hc (hfind (obs h) l) ∧ Gr [] w w' := by
  have hmm := @run_makeMap Try.prog
  have hob : (obs h).length = h.length := by simp [obs]
  have HB := Lib.hid hob
  clear hob
  have hb1 : Bk (w.alloc (.cells #[.slice hA h.length hc] 28)) w.heap.size 28 #[.slice hA h.length hc] := Bk.new w _ _
  have h0 : (w.alloc (.cells #[.slice hA h.length hc] 28)).cell? ⟨w.heap.size, 0, none⟩ = some (.slice hA h.length hc) := hb1.cell 0
  have hfi0 := Fi.new w (w.alloc (.cells #[.slice hA h.length hc] 28)) hA h.length hc (by simp)
  rw [show (w.alloc (.cells #[.slice hA h.length hc] 28)).heap.size = w.heap.size + 1 by simp] at hfi0
  have hg0 := (((Gr.refl [] w).alloc (.cells #[.slice hA h.length hc] 28)).alloc (.map #[] 0)).alloc (.cells #[.slice hA h.length hc, .map (some (w.heap.size + 1)), .slice none 0 0] 56)
  go_enter Try.func19, Try.ntmps19
  go_wp2_with (go_at_call 24; refine (look_any w.heap.size (w.heap.size + 1 + 1) hA hc h [] A c l w _ (Nat.le_refl _) hOs hR hg0 hfi0 (hl.gr0 hg0) hV hn1 hn2 (Found.nil _)).mono ?_; rintro e w1 ⟨rfl, hfi1, hlv1⟩)
  have hg1 : Gr [] w w1 := hlv1.gr [] w (Nat.le_refl _) hg0
  have HL := Lib.hid (show findLoop (obs h) (h.length + 1 - 0) 0 (look (obs h) [] l) = hfind (obs h) l by unfold hfind; rw [HB.out]; rfl)
  have HF := Lib.hid ((Found.nil (obs h)).look l)
  go_loopw [6] (fun i w' => ∃ (k : Nat) (fd : List Ob), i = .int .i64 k ∧ k ≤ fd.length ∧ Fi w' w.heap.size (w.heap.size + 1 + 1) hA h.length hc fd ∧ Found (obs h) fd ∧ findLoop (obs h) (h.length + 1 - k) k fd = hfind (obs h) l ∧ Gr [] w w') (fun i _ => h.length + 1 - (intOf i).toNat)
  case atStart => exact ⟨0, _, rfl, Nat.zero_le _, hfi1, HF.out, HL.out, hg1⟩
  case round =>
    obtain ⟨k, fd, rfl, hk, hfi, hfo, hlo, hgr⟩ := hrel
    have HLo := Lib.hid hlo
    have hfl : fd.length ≤ h.length := by have := hfo.length; rw [HB.out] at this; exact this
    clear hlo
    have hfi' := hfi
    obtain ⟨Mb, rA, rc, rs, hb, hbF, hbM, hmp, hown, hrok, hobs⟩ := hfi'
    have HRS := Lib.hid (show rs.length = fd.length by rw [← hobs]; simp [obs])
    obtain ⟨hF0, hF1, hF2⟩ := hb.cells3
    by_cases hlt : k < fd.length
    · have hkr : k < rs.length := by rw [HRS.out]; exact hlt
      have HO := Lib.hid (show rs[k].o = fd[k] by subst hobs; simp [obs])
      obtain ⟨b, off, rfl, hc0, hc1⟩ := Os.at_ (Sl.of_own hown) hkr
      obtain ⟨hr1, hr2, hr3, hr4⟩ := hrok rs[k] (List.getElem_mem hkr)
      have HST := Lib.hid (show findLoop (obs h) (h.length + 1 - k) k fd = findLoop (obs h) (h.length + 1 - (k + 1)) (k + 1) (look (obs h) fd rs[k].o.fs) by
        rw [HO.out, show h.length + 1 - k = (h.length + 1 - (k + 1)) + 1 by omega]; exact findLoop_step _ _ _ _ hlt)
      generalize rs[k] = r at *
      obtain ⟨⟨oid, ofs⟩, gA, gc⟩ := r
      simp only at hr1 hr2 hr3 hr4 hc0 hc1
      go_wp2_with (go_at_call 24; refine (look_any w.heap.size (w.heap.size + 1 + 1) hA hc h fd gA gc ofs w _ (Nat.le_refl _) hOs hR hgr hfi hr1 hr2 hr3 hn2 hfo).mono ?_; rintro e w2 ⟨rfl, hfi2, hlv2⟩)
      go_roundw
      case rel =>
        refine ⟨k + 1, _, by go_num, ?_, hfi2, hfo.look _, ?_, hlv2.gr [] w (Nat.le_refl _) hgr⟩
        · obtain ⟨m, hm⟩ := look_prefix (obs h) ofs fd
          rw [hm, List.length_append]; omega
        · rw [← HLo.out, HST.out]
      case measure => simp [intOf]; omega
    · have HE := Lib.hid (show fd = hfind (obs h) l by rw [← HLo.out, findLoop_end _ _ _ _ hlt])
      have hkn : k = rs.length := by rw [HRS.out]; omega
      subst hkn
      go_wp2
      go_ret
      exact ⟨_, rfl, by rw [← HE.out]; exact hfi, hgr⟩
end Go.Proofs.Ytldabchaflnmdaa
