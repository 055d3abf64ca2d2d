/- The statements' own sanity check holds. -/
import Derived.Test.YtldabchaflnmdaaPut
namespace Go.Proofs.Ytldabchaflnmdaa
open Go.RowKit

theorem bk_sl {w : World} {g : Nat} {e : TypeId} {cs : Array Value} (h : Bk w g e cs) (size n : Nat) {xs : List Value} (hx : xs = cs.toList) (hn : xs.length = n * size) : Sl w e size (some ⟨g, 0, none⟩) n xs := by
  subst hx
  exact ⟨hn, fun _ => ⟨g, 0, cs, (0, 0), rfl, h, fun j u hu => by simpa using hu⟩⟩
def saneH (W0 : Nat) : List Rw := [⟨⟨4, []⟩, none, 0⟩, ⟨⟨9, [⟨true, 9⟩, ⟨false, 5⟩]⟩, some ⟨W0, 0, none⟩, 2⟩]
def saneO : List Ob := [⟨4, []⟩, ⟨9, [⟨true, 9⟩, ⟨false, 5⟩]⟩]
theorem sane_canon (W0 : Nat) : (hcanon (obs (saneH W0)) [⟨true, 9⟩]).1 = [⟨1, [⟨true, 1⟩, ⟨false, 5⟩]⟩] := (by decide : (hcanon saneO [⟨true, 9⟩]).1 = [⟨1, [⟨true, 1⟩, ⟨false, 5⟩]⟩])
theorem sane_canon2 (W0 : Nat) : (hcanon (obs (saneH W0)) [⟨true, 9⟩]).2 = [⟨true, 1⟩] := (by decide : (hcanon saneO [⟨true, 9⟩]).2 = [⟨true, 1⟩])
theorem sane_reach (W0 : Nat) : hfind (obs (saneH W0)) [⟨true, 9⟩, ⟨true, 4⟩] = [⟨9, [⟨true, 9⟩, ⟨false, 5⟩]⟩, ⟨4, []⟩] := (by decide : hfind saneO [⟨true, 9⟩, ⟨true, 4⟩] = [⟨9, [⟨true, 9⟩, ⟨false, 5⟩]⟩, ⟨4, []⟩])
theorem obs_one {ns : List Rw} {o : Ob} (h : obs ns = [o]) : ∃ A c, ns = [⟨o, A, c⟩] := by
  rcases ns with _ | ⟨r, l⟩
  · simp [obs] at h
  · have h1 : r.o = o ∧ l = [] := by simpa [obs] using h
    obtain ⟨rfl, rfl⟩ := h1
    exact ⟨r.A, r.c, rfl⟩

set_option maxHeartbeats 2000000 in
theorem sane_any (w : World) : Calls Try.prog 6 #[] w fun e w' => e = .returned (.bool true) ∧ Gr [] w w' := by
  have hG : Gr [] w ((((w.alloc (.cells #[.bool true, .int .i64 9, .bool false, .int .i64 5] 31)).alloc (.cells #[.int .i64 4, .slice none 0 0, .int .i64 9, .slice (some ⟨w.heap.size, 0, none⟩) 2 2] 43)).alloc (.cells #[.slice (some ⟨w.heap.size + 1, 0, none⟩) 2 2] 28)).alloc (.cells #[.bool true, .int .i64 9] 31)) := ((((Gr.refl [] w).alloc _).alloc _).alloc _).alloc _
  have hA0 : Bk ((((w.alloc (.cells #[.bool true, .int .i64 9, .bool false, .int .i64 5] 31)).alloc (.cells #[.int .i64 4, .slice none 0 0, .int .i64 9, .slice (some ⟨w.heap.size, 0, none⟩) 2 2] 43)).alloc (.cells #[.slice (some ⟨w.heap.size + 1, 0, none⟩) 2 2] 28)).alloc (.cells #[.bool true, .int .i64 9] 31)) w.heap.size 31 #[.bool true, .int .i64 9, .bool false, .int .i64 5] := (((Bk.new w _ _).alloc _).alloc _).alloc _
  have hA1 : Bk ((((w.alloc (.cells #[.bool true, .int .i64 9, .bool false, .int .i64 5] 31)).alloc (.cells #[.int .i64 4, .slice none 0 0, .int .i64 9, .slice (some ⟨w.heap.size, 0, none⟩) 2 2] 43)).alloc (.cells #[.slice (some ⟨w.heap.size + 1, 0, none⟩) 2 2] 28)).alloc (.cells #[.bool true, .int .i64 9] 31)) (w.heap.size + 1) 43 #[.int .i64 4, .slice none 0 0, .int .i64 9, .slice (some ⟨w.heap.size, 0, none⟩) 2 2] := by simpa using ((Bk.new (w.alloc (.cells #[.bool true, .int .i64 9, .bool false, .int .i64 5] 31)) 43 #[.int .i64 4, .slice none 0 0, .int .i64 9, .slice (some ⟨w.heap.size, 0, none⟩) 2 2]).alloc (.cells #[.slice (some ⟨w.heap.size + 1, 0, none⟩) 2 2] 28)).alloc (.cells #[.bool true, .int .i64 9] 31)
  have hA2 : Bk ((((w.alloc (.cells #[.bool true, .int .i64 9, .bool false, .int .i64 5] 31)).alloc (.cells #[.int .i64 4, .slice none 0 0, .int .i64 9, .slice (some ⟨w.heap.size, 0, none⟩) 2 2] 43)).alloc (.cells #[.slice (some ⟨w.heap.size + 1, 0, none⟩) 2 2] 28)).alloc (.cells #[.bool true, .int .i64 9] 31)) (w.heap.size + 2) 28 #[.slice (some ⟨w.heap.size + 1, 0, none⟩) 2 2] := by simpa using (Bk.new ((w.alloc (.cells #[.bool true, .int .i64 9, .bool false, .int .i64 5] 31)).alloc (.cells #[.int .i64 4, .slice none 0 0, .int .i64 9, .slice (some ⟨w.heap.size, 0, none⟩) 2 2] 43)) 28 #[.slice (some ⟨w.heap.size + 1, 0, none⟩) 2 2]).alloc (.cells #[.bool true, .int .i64 9] 31)
  have hA3 : Bk ((((w.alloc (.cells #[.bool true, .int .i64 9, .bool false, .int .i64 5] 31)).alloc (.cells #[.int .i64 4, .slice none 0 0, .int .i64 9, .slice (some ⟨w.heap.size, 0, none⟩) 2 2] 43)).alloc (.cells #[.slice (some ⟨w.heap.size + 1, 0, none⟩) 2 2] 28)).alloc (.cells #[.bool true, .int .i64 9] 31)) (w.heap.size + 3) 31 #[.bool true, .int .i64 9] := by simpa using Bk.new (((w.alloc (.cells #[.bool true, .int .i64 9, .bool false, .int .i64 5] 31)).alloc (.cells #[.int .i64 4, .slice none 0 0, .int .i64 9, .slice (some ⟨w.heap.size, 0, none⟩) 2 2] 43)).alloc (.cells #[.slice (some ⟨w.heap.size + 1, 0, none⟩) 2 2] 28)) 31 #[.bool true, .int .i64 9]
  go_enter Try.func6, Try.ntmps6
  go_wp2_with fail
  have hOs : Os ((((w.alloc (.cells #[.bool true, .int .i64 9, .bool false, .int .i64 5] 31)).alloc (.cells #[.int .i64 4, .slice none 0 0, .int .i64 9, .slice (some ⟨w.heap.size, 0, none⟩) 2 2] 43)).alloc (.cells #[.slice (some ⟨w.heap.size + 1, 0, none⟩) 2 2] 28)).alloc (.cells #[.bool true, .int .i64 9] 31)) (some ⟨w.heap.size + 1, 0, none⟩) (saneH w.heap.size) := bk_sl hA1 2 2 rfl rfl
  have hR : Rok ((((w.alloc (.cells #[.bool true, .int .i64 9, .bool false, .int .i64 5] 31)).alloc (.cells #[.int .i64 4, .slice none 0 0, .int .i64 9, .slice (some ⟨w.heap.size, 0, none⟩) 2 2] 43)).alloc (.cells #[.slice (some ⟨w.heap.size + 1, 0, none⟩) 2 2] 28)).alloc (.cells #[.bool true, .int .i64 9] 31)) (saneH w.heap.size) := by
    intro r hr
    simp only [saneH, List.mem_cons, List.not_mem_nil, or_false] at hr
    rcases hr with rfl | rfl
    · exact ⟨Sl.nil _ _ _ _, (by intro v hv; simp at hv), Nat.le_of_ble_eq_true rfl, rfl⟩
    · exact ⟨bk_sl hA0 2 2 rfl rfl, (by intro v hv; simp at hv; rcases hv with rfl | rfl <;> rfl), Nat.le_of_ble_eq_true rfl, rfl⟩
  have hV : Vs ((((w.alloc (.cells #[.bool true, .int .i64 9, .bool false, .int .i64 5] 31)).alloc (.cells #[.int .i64 4, .slice none 0 0, .int .i64 9, .slice (some ⟨w.heap.size, 0, none⟩) 2 2] 43)).alloc (.cells #[.slice (some ⟨w.heap.size + 1, 0, none⟩) 2 2] 28)).alloc (.cells #[.bool true, .int .i64 9] 31)) (some ⟨w.heap.size + 3, 0, none⟩) [⟨true, 9⟩] := bk_vs hA3
  have hl2 : (saneH w.heap.size).length = 2 := rfl
  generalize ((((w.alloc (.cells #[.bool true, .int .i64 9, .bool false, .int .i64 5] 31)).alloc (.cells #[.int .i64 4, .slice none 0 0, .int .i64 9, .slice (some ⟨w.heap.size, 0, none⟩) 2 2] 43)).alloc (.cells #[.slice (some ⟨w.heap.size + 1, 0, none⟩) 2 2] 28)).alloc (.cells #[.bool true, .int .i64 9] 31)) = W4 at *
  go_at_call 10
  refine (canon_any (some ⟨w.heap.size + 1, 0, none⟩) 2 (saneH w.heap.size) (some ⟨w.heap.size + 3, 0, none⟩) 1 [⟨true, 9⟩] W4 hOs hR hV (by intro v hv; simp at hv; subst hv; rfl) (Nat.le_of_ble_eq_true rfl) (Nat.le_of_ble_eq_true rfl)).mono ?_
  rintro e w1 ⟨A1, c1, ns, B1, d1, rfl, hO1, hR1, hob, hV1, hg1⟩
  rw [sane_canon] at hob
  rw [sane_canon2] at hV1
  obtain ⟨rA, rc, rfl⟩ := obs_one hob
  have hH := (hA2.gr hg1 (by simp)).alloc (.cells #[.slice A1 1 c1] 28)
  have hH0 := hH.cell 0
  have hH1 := (hH.alloc (.cells #[.bool true, .int .i64 9, .bool true, .int .i64 4] 31)).cell 0
  have hNv : Vs ((w1.alloc (.cells #[.slice A1 1 c1] 28)).alloc (.cells #[.bool true, .int .i64 9, .bool true, .int .i64 4] 31)) (some ⟨w1.heap.size + 1, 0, none⟩) [⟨true, 9⟩, ⟨true, 4⟩] := bk_vs2 (u := ⟨true, 9⟩) (v := ⟨true, 4⟩) (by simpa using Bk.new (w1.alloc (.cells #[.slice A1 1 c1] 28)) 31 #[.bool true, .int .i64 9, .bool true, .int .i64 4])
  have hgN : Gr [] W4 ((w1.alloc (.cells #[.slice A1 1 c1] 28)).alloc (.cells #[.bool true, .int .i64 9, .bool true, .int .i64 4] 31)) := (hg1.alloc _).alloc _
  have hX := (Bk.new w1 28 #[.slice A1 1 c1]).alloc (.cells #[.bool true, .int .i64 9, .bool true, .int .i64 4] 31)
  clear hH
  go_wp2_with fail
  go_at_call 14
  refine (reach_any (some ⟨w.heap.size + 1, 0, none⟩) 2 (saneH w.heap.size) (some ⟨w1.heap.size + 1, 0, none⟩) 2 [⟨true, 9⟩, ⟨true, 4⟩] _ (hOs.gr0 hgN) (hR.gr0 hgN) hNv (by intro v hv; simp at hv; rcases hv with rfl | rfl <;> rfl) (Nat.le_of_ble_eq_true rfl) (Nat.le_of_ble_eq_true rfl)).mono ?_
  rintro e w2 ⟨A2, c2, rfl, hI, hg2⟩
  rw [sane_reach] at hI ⊢
  have hgW := (((Gr.refl [] w1).alloc (.cells #[.slice A1 1 c1] 28)).alloc (.cells #[.bool true, .int .i64 9, .bool true, .int .i64 4] 31)).trans hg2
  have hgF := (hG.trans hg1).trans hgW
  have hX0 := (hX.gr hg2 (by simp)).cell 0
  have hRf := (hR1.gr0 hgW _ (List.mem_singleton.2 rfl)).1
  obtain ⟨b, off, rfl, ho0, ho1⟩ := (hO1.gr0 hgW).at_ (k := 0) (by simp)
  obtain ⟨b1, off1, rfl, hp0, hp1⟩ := (hV1.gr0 hgW).at_ (k := 0) (by simp)
  obtain ⟨b2, off2, hrA, hq0, hq1⟩ := hRf.at_ (k := 0) (by simp)
  obtain ⟨b3, off3, hrB, hq2, hq3⟩ := hRf.at_ (k := 1) (by simp)
  simp only at hrA hrB
  subst hrA
  injection hrB with hrB
  injection hrB with e1 e2 _
  subst e1; subst e2
  obtain ⟨b4, off4, hA2e, hi⟩ := hI.cell (by simp)
  have hi0 := hi 0 _ rfl
  have hi1 := hi 1 _ rfl
  subst hA2e
  simp only [Nat.zero_mul, Nat.add_zero, Nat.one_mul] at ho0 ho1 hp0 hp1 hq0 hq1 hq2 hq3 hi0 hi1
  clear hi hI hX hNv hH0 hH1 hob hl2
  simp only [List.length_cons, List.length_nil]
  go_wp2
  go_ret
  exact ⟨rfl, hgF⟩
end Go.Proofs.Ytldabchaflnmdaa
