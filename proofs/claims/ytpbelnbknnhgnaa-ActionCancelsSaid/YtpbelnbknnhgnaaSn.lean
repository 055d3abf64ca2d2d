/- The sanity check of chapter 24. -/
import Derived.Test.YtpbelnbknnhgnaaRv
namespace Go.Proofs.Ytpbelnbknnhgnaa
open Go.RowKit

def d1 : Dd := ⟨1, 1, 7, plainA⟩
def d2 : Dd := ⟨4, 0, 0, ⟨false, 5, 0⟩⟩
def d3 : Dd := ⟨2, 1, 7, plainA⟩
theorem ds_nil (w : World) (A : Option Addr) : Ds w A [] := ⟨0, Sl.nil w 0 6 A⟩
theorem s_reserve (w : World) : Calls Try.prog 15 #[.agg #[.slice none 0 0, .int .i64 0], .int .i64 7] w fun e w' => ∃ (A' : Option Addr) (c' : Nat),
    e = .returned (.tuple #[.agg #[.slice A' 1 c', .int .i64 1], .int .i64 1]) ∧ Sl w' 32 6 A' 1 (dcells [d1]) ∧ Gr [] w w' :=
  (reserve_any none 0 [] 0 7 w (ds_nil w none) (by simp) (by omega) (by omega)).mono fun e w' ⟨A', c', h1, _, h2, h3⟩ => ⟨A', c', h1, h2, h3⟩
theorem s_do (A : Option Addr) (c : Nat) (w : World) (h : Ds w A [d1]) : Calls Try.prog 25 #[.agg #[.slice A 1 c, .int .i64 1], .agg #[.bool false, .int .i64 5, .int .i64 0]] w fun e w' => ∃ (A' : Option Addr) (c' : Nat),
    e = .returned (.agg #[.slice A' 2 c', .int .i64 1]) ∧ Sl w' 32 6 A' 2 (dcells [d1, d2]) ∧ Gr [] w w' :=
  (do_any A c [d1] 1 ⟨false, 5, 0⟩ w h (by simp)).mono fun e w' ⟨A', c', h1, _, h2, h3⟩ => ⟨A', c', h1, h2, h3⟩
theorem scan_12 : ∃ op, scan [d1, d2] = some (1, op) ∧ op 1 = some 7 := by
  refine ⟨_, rfl, ?_⟩
  rfl
theorem wf_12 : ∀ d ∈ [d1, d2], wf64 d.ticket ∧ wf64 d.value := by
  intro d hd
  rcases List.mem_cons.1 hd with rfl | hd
  · exact ⟨WalkArith.wf_i64 (by decide), WalkArith.wf_i64 (by decide)⟩
  · rcases List.mem_cons.1 hd with rfl | hd
    · exact ⟨WalkArith.wf_i64 (by decide), WalkArith.wf_i64 (by decide)⟩
    · cases hd
theorem wf_123 : ∀ d ∈ [d1, d2, d3], wf64 d.ticket ∧ wf64 d.value := by
  intro d hd
  rcases List.mem_cons.1 hd with rfl | hd
  · exact ⟨WalkArith.wf_i64 (by decide), WalkArith.wf_i64 (by decide)⟩
  · rcases List.mem_cons.1 hd with rfl | hd
    · exact ⟨WalkArith.wf_i64 (by decide), WalkArith.wf_i64 (by decide)⟩
    · rcases List.mem_cons.1 hd with rfl | hd
      · exact ⟨WalkArith.wf_i64 (by decide), WalkArith.wf_i64 (by decide)⟩
      · cases hd
theorem s_confirm (A : Option Addr) (c : Nat) (w : World) (h : Ds w A [d1, d2]) : Calls Try.prog 17 #[.agg #[.slice A 2 c, .int .i64 1], .int .i64 1] w fun e w' => ∃ (A' : Option Addr) (c' : Nat),
    e = .returned (.tuple #[.agg #[.slice A' 3 c', .int .i64 1], .int .i64 0]) ∧ Sl w' 32 6 A' 3 (dcells [d1, d2, d3]) ∧ Gr [] w w' := by
  obtain ⟨op, hs, ho⟩ := scan_12
  refine (confirm_any A c [d1, d2] 1 1 1 op w h (by simp) wf_12 hs (WalkArith.wf_i64 (by decide))).mono ?_
  rintro e w' (⟨hx, _⟩ | ⟨v, A', c', hv, rfl, _, h2, h3⟩)
  · rw [ho] at hx; cases hx
  · rw [ho] at hv
    injection hv with hv
    subst hv
    exact ⟨A', c', rfl, h2, h3⟩
theorem s_net (A : Option Addr) (c : Nat) (w : World) (h : Ds w A [d1, d2, d3]) : Calls Try.prog 10 #[.agg #[.slice A 3 c, .int .i64 1]] w fun e w' => ∃ (b off c' : Nat),
    e = .returned (.slice (some ⟨b, off, none⟩) 2 c') ∧ w'.cell? ⟨b, off + 1, none⟩ = some (.int .i64 5) ∧ w'.cell? ⟨b, off + 3 + 1, none⟩ = some (.int .i64 7) ∧ Gr [] w w' := by
  refine (net_any A c [d1, d2, d3] 1 w h (by simp)).mono ?_
  rintro e w' ⟨A', c', rfl, _, h2, h3⟩
  obtain ⟨b, off, rfl, hc⟩ := Sl.cell h2 (by decide)
  exact ⟨b, off, c', rfl, hc 1 _ rfl, hc 4 _ rfl, h3⟩
theorem s_open (A : Option Addr) (c : Nat) (w : World) (h : Ds w A [d1, d2]) : Calls Try.prog 13 #[.agg #[.slice A 2 c, .int .i64 1]] w fun e w' => ∃ (A' : Option Addr) (c' : Nat),
    e = .returned (.slice A' 1 c') ∧ Gr [] w w' := by
  obtain ⟨op, hs, ho⟩ := scan_12
  exact (open_any A c [d1, d2] 1 1 op w h (by simp) wf_12 hs).mono fun e w' ⟨A', c', h1, _, h3⟩ => ⟨A', c', h1, h3⟩
theorem s_valid (A : Option Addr) (c : Nat) (w : World) (h : Ds w A [d1, d2, d3]) : Calls Try.prog 11 #[.agg #[.slice A 3 c, .int .i64 1]] w fun e w' => e = .returned (.bool true) ∧ Gr [] w w' :=
  valid_any A c [d1, d2, d3] 1 w h (by simp) wf_123

set_option maxHeartbeats 1000000 in
theorem sane_any (w : World) : Calls Try.prog 7 #[] w fun e w' => e = .returned (.bool true) ∧ Gr [] w w' := by
  go_enter Try.func7, Try.ntmps7
  go_wp2_with fail
  go_at_call 15
  refine (s_reserve _).mono ?_
  rintro e w1 ⟨A1, c1, rfl, hd1, hg1⟩
  have hw1 := hg1
  go_wp2_with fail
  go_at_call 25
  refine (s_do A1 c1 _ ⟨_, hd1.alloc _⟩).mono ?_
  rintro e w2 ⟨A2, c2, rfl, hd2, hg2⟩
  have hT := bk_last hg2 rfl
  obtain ⟨x0, x1⟩ := hT.cells2
  have hf0 := hT.frozen 0
  have hf1 := hT.frozen 1
  have hw2 := (hg1.alloc (.cells #[.slice A1 1 c1, .int .i64 1] 26)).trans hg2
  go_wp2_with fail
  go_at_call 17
  refine (s_confirm A2 c2 _ ⟨_, Sl.gr1 hd2 hT (by decide) (((Gr.refl [w1.heap.size] w2).setCell (.inl (by simp)) _).setCell (.inl (by simp)) _)⟩).mono ?_
  rintro e w3 ⟨A3, c3, rfl, hd3, hg3⟩
  have hT3 := ((hT.set_ 0 (.slice A2 2 c2)).set_ 1 (.int .i64 1)).gr0 hg3
  have hw3 := ((hw2.setCell (.inr hw1.size) _).setCell (.inr hw1.size) _).trans hg3
  have hd23 := (Sl.gr1 hd2 hT (by decide) (((Gr.refl [w1.heap.size] w2).setCell (.inl (by simp)) _).setCell (.inl (by simp)) _)).gr0 hg3
  clear hg1 hg2 hg3 hT x0 x1 hf0 hf1 hd1 hd2 hw1 hw2
  go_wp2_with fail
  go_at_call 10
  refine (s_net A3 c3 _ ⟨_, hd3.alloc _⟩).mono ?_
  rintro e w4 ⟨b4, o4, c4, rfl, n0, n1, hg4⟩
  have hT4 := (hT3.alloc (.cells #[.slice A3 3 c3, .int .i64 1] 26)).gr0 hg4
  have hU4 := bk_last hg4 rfl
  have hd24 := (hd23.alloc (.cells #[.slice A3 3 c3, .int .i64 1] 26)).gr0 hg4
  have hd34 := (hd3.alloc (.cells #[.slice A3 3 c3, .int .i64 1] 26)).gr0 hg4
  have hw4 := (hw3.alloc (.cells #[.slice A3 3 c3, .int .i64 1] 26)).trans hg4
  generalize w1.heap.size = p1 at *
  generalize w3.heap.size = p3 at *
  obtain ⟨x0, x1⟩ := hT4.cells2
  go_wp2_with fail
  go_at_call 13
  refine (s_open A2 c2 _ ⟨_, hd24⟩).mono ?_
  rintro e w5 ⟨A5, c5, rfl, hg5⟩
  have hU5 := hU4.gr0 hg5
  obtain ⟨y0, y1⟩ := hU5.cells2
  go_wp2_with fail
  go_at_call 11
  refine (s_valid A3 c3 _ ⟨_, hd34.gr0 hg5⟩).mono ?_
  rintro e w6 ⟨rfl, hg6⟩
  go_wp2
  go_ret
  exact ⟨rfl, (hw4.trans hg5).trans hg6⟩
end Go.Proofs.Ytpbelnbknnhgnaa
