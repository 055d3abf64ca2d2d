/- Do; Mod. -/
import Derived.Test.YtpbelnbknnhgnaaAn
namespace Go.Proofs.Ytpbelnbknnhgnaa
open Go.RowKit

set_option maxHeartbeats 1000000 in
theorem do_any (A : Option Addr) (c : Nat) (l : List Dd) (T : Int) (a : Ac) (w : World) (h : Ds w A l) (hn : l.length ≤ 999999) :
    Calls Try.prog 25 #[.agg #[.slice A l.length c, .int .i64 T], .agg #[.bool a.ask, .int .i64 a.value, .int .i64 a.answer]] w fun e w' => ∃ (A' : Option Addr) (c' : Nat),
      e = .returned (.agg #[.slice A' (l.length + 1) c', .int .i64 T]) ∧ l.length + 1 ≤ c' ∧ Sl w' 32 6 A' (l.length + 1) (dcells (l ++ [⟨4, 0, 0, a⟩])) ∧ Gr [] w w' := by
  have hG : Gr [] w (((w.alloc (.cells #[.slice A l.length c, .int .i64 T] 26)).alloc (.cells #[.bool a.ask, .int .i64 a.value, .int .i64 a.answer] 30)).alloc (.cells #[.slice none 0 0, .int .i64 0] 26)) := (((Gr.refl [] w).alloc _).alloc _).alloc _
  have hA0 : Bk (((w.alloc (.cells #[.slice A l.length c, .int .i64 T] 26)).alloc (.cells #[.bool a.ask, .int .i64 a.value, .int .i64 a.answer] 30)).alloc (.cells #[.slice none 0 0, .int .i64 0] 26)) w.heap.size 26 #[.slice A l.length c, .int .i64 T] := ((Bk.new w _ _).alloc _).alloc _
  have hA1 : Bk (((w.alloc (.cells #[.slice A l.length c, .int .i64 T] 26)).alloc (.cells #[.bool a.ask, .int .i64 a.value, .int .i64 a.answer] 30)).alloc (.cells #[.slice none 0 0, .int .i64 0] 26)) (w.heap.size + 1) 30 #[.bool a.ask, .int .i64 a.value, .int .i64 a.answer] := by simpa using (Bk.new (w.alloc (.cells #[.slice A l.length c, .int .i64 T] 26)) 30 #[.bool a.ask, .int .i64 a.value, .int .i64 a.answer]).alloc (.cells #[.slice none 0 0, .int .i64 0] 26)
  have hA2 : Bk (((w.alloc (.cells #[.slice A l.length c, .int .i64 T] 26)).alloc (.cells #[.bool a.ask, .int .i64 a.value, .int .i64 a.answer] 30)).alloc (.cells #[.slice none 0 0, .int .i64 0] 26)) (w.heap.size + 2) 26 #[.slice none 0 0, .int .i64 0] := by simpa using Bk.new ((w.alloc (.cells #[.slice A l.length c, .int .i64 T] 26)).alloc (.cells #[.bool a.ask, .int .i64 a.value, .int .i64 a.answer] 30)) 26 #[.slice none 0 0, .int .i64 0]
  obtain ⟨x0, x1⟩ := hA0.cells2
  obtain ⟨y0, y1, y2⟩ := hA1.cells3
  obtain ⟨aa, ab, ac⟩ := a
  simp only at hG hA0 hA1 hA2 x0 x1 y0 y1 y2 ⊢
  go_enter Try.func25, Try.ntmps25
  go_wp2_with fail
  go_at_call 35
  refine (and_any A c l T 4 0 0 aa ab ac _ (h.gr0 hG) hn).mono ?_
  rintro e w2 ⟨A2, c2, rfl, hcap, hsl, hg2⟩
  have hC2 := hA2.gr0 hg2
  obtain ⟨v2, v3⟩ := hC2.cells2
  have hf0 := hC2.frozen 0
  have hf1 := hC2.frozen 1
  go_wp2
  have hC4 := (hC2.set_ 0 (.slice A2 (l.length + 1) c2)).set_ 1 (.int .i64 T)
  refine bodyPost_ret (results_cell_row rfl _ _ _ _ _ _ _ rfl hC4 Try.underlying26 rfl (by kernel_rfl)) rfl ⟨A2, c2, rfl, hcap, ?_, ?_⟩
  · exact Sl.gr1 hsl hC2 (by decide) (((Gr.refl [w.heap.size + 2] w2).setCell (.inl (by simp)) _).setCell (.inl (by simp)) _)
  · exact ((hG.trans hg2).setCell (.inr (show w.heap.size ≤ w.heap.size + 2 by omega)) _).setCell (.inr (show w.heap.size ≤ w.heap.size + 2 by omega)) _
theorem ac_neq (x y : Ac) (w : World) : (binOp .neq 30 (.agg #[.bool x.ask, .int .i64 x.value, .int .i64 x.answer]) (.agg #[.bool y.ask, .int .i64 y.value, .int .i64 y.answer])).run Try.prog w = .ok (.bool (!decide (x = y))) w := by
  obtain ⟨a1, a2, a3⟩ := x
  obtain ⟨b1, b2, b3⟩ := y
  go_simp
  by_cases h1 : a1 = b1
  · by_cases h2 : a2 = b2
    · by_cases h3 : a3 = b3 <;> simp [h1, h2, h3]
    · simp [h1, h2]
  · simp [h1]
end Go.Proofs.Ytpbelnbknnhgnaa
