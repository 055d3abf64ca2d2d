/- The reference: Reserve, Do. -/
import Derived.Test.YtpbelnbknnhgnaaWi
namespace Go.Proofs.Ytpbelnbknnhgnaa
open Go.RowKit

set_option maxHeartbeats 1000000 in
theorem rreserve_any (A : Option Addr) (c : Nat) (l : List Dd) (T v : Int) (w : World) (h : Ds w A l) (hn : l.length ≤ 999999) (hT : 0 ≤ T) (hT2 : T ≤ 1000000) :
    Calls Try.prog 24 #[.agg #[.slice A l.length c, .int .i64 T], .int .i64 v] w fun e w' => ∃ (A' : Option Addr) (c' : Nat),
      e = .returned (.tuple #[.agg #[.slice A' (l.length + 1) c', .int .i64 (T + 1)], .int .i64 (T + 1)]) ∧ l.length + 1 ≤ c' ∧ Sl w' 32 6 A' (l.length + 1) (dcells (l ++ [⟨1, T + 1, v, plainA⟩])) ∧ Gr [] w w' := by
  have hG : Gr [] w ((w.alloc (.cells #[.slice A l.length c, .int .i64 (T + 1)] 26)).alloc (.cells #[.slice none 0 0, .int .i64 0] 26)) := ((Gr.refl [] w).alloc _).alloc _
  have hA0 : Bk ((w.alloc (.cells #[.slice A l.length c, .int .i64 (T + 1)] 26)).alloc (.cells #[.slice none 0 0, .int .i64 0] 26)) w.heap.size 26 #[.slice A l.length c, .int .i64 (T + 1)] := (Bk.new w _ _).alloc _
  have hA1 : Bk ((w.alloc (.cells #[.slice A l.length c, .int .i64 (T + 1)] 26)).alloc (.cells #[.slice none 0 0, .int .i64 0] 26)) (w.heap.size + 1) 26 #[.slice none 0 0, .int .i64 0] := by simpa using Bk.new (w.alloc (.cells #[.slice A l.length c, .int .i64 (T + 1)] 26)) 26 #[.slice none 0 0, .int .i64 0]
  go_enter Try.func24, Try.ntmps24
  go_wp2_with fail
  generalize ((w.alloc (.cells #[.slice A l.length c, .int .i64 (T + 1)] 26)).alloc (.cells #[.slice none 0 0, .int .i64 0] 26)) = W at *
  have k0 : W.drew.cell? ⟨w.heap.size, 0, none⟩ = some (.slice A l.length c) ∧ W.drew.cell? ⟨w.heap.size, 1, none⟩ = some (.int .i64 (T + 1)) := hA0.drew.cells2
  go_region_held3 (fun w' => w'.cell? ⟨w.heap.size, 0, none⟩ = some (.slice A l.length c) ∧ w'.cell? ⟨w.heap.size, 1, none⟩ = some (.int .i64 (T + 1))) (first | exact k0 | exact k1 | go_keep)
    ((go_at_call 40; refine (with_any A c l (T + 1) 1 (T + 1) v false 0 0 _ ((h.gr0 hG).gr0 (Gr.refl _ _).drew) hn).mono ?_; rintro e w3 ⟨A3, c3, rfl, hcap, hsl, hg3⟩; have hC0 := hA0.drew.gr0 hg3; have hC1 := hA1.drew.gr0 hg3; have k1 := hC0.cells2; have m1 := hC1.cells2; have hf0 := hC1.frozen 0; have hf1 := hC1.frozen 1))
  all_goals
    go_wp2
    have hC4 := (hC1.set_ 0 (.slice A3 (l.length + 1) c3)).set_ 1 (.int .i64 (T + 1))
    refine bodyPost_ret (v := .tuple #[.agg #[.slice A3 (l.length + 1) c3, .int .i64 (T + 1)], .int .i64 (T + 1)]) (results_cell_tmp_row (p := 4) (u := 5) rfl _ _ _ _ _ _ _ rfl hC4 Try.underlying26 rfl (by kernel_rfl)) rfl ⟨A3, c3, rfl, hcap, ?_, ?_⟩
    · exact Sl.gr1 hsl hC1 (by decide) (((Gr.refl [w.heap.size + 1] w3).setCell (.inl (by simp)) _).setCell (.inl (by simp)) _)
    · exact (((hG.drew).trans hg3).setCell (.inr (by simp)) _).setCell (.inr (by simp)) _

set_option maxHeartbeats 1000000 in
theorem rdo_any (A : Option Addr) (c : Nat) (l : List Dd) (T : Int) (a : Ac) (w : World) (h : Ds w A l) (hn : l.length ≤ 999999) :
    Calls Try.prog 26 #[.agg #[.slice A l.length c, .int .i64 T], .agg #[.bool a.ask, .int .i64 a.value, .int .i64 a.answer]] w fun e w' => ∃ (A' : Option Addr) (c' : Nat),
      e = .returned (.agg #[.slice A' (l.length + 1) c', .int .i64 T]) ∧ l.length + 1 ≤ c' ∧ Sl w' 32 6 A' (l.length + 1) (dcells (l ++ [⟨4, 0, 0, a⟩])) ∧ Gr [] w w' := by
  have hG : Gr [] w (((w.alloc (.cells #[.slice A l.length c, .int .i64 T] 26)).alloc (.cells #[.bool a.ask, .int .i64 a.value, .int .i64 a.answer] 30)).alloc (.cells #[.slice none 0 0, .int .i64 0] 26)) := (((Gr.refl [] w).alloc _).alloc _).alloc _
  have hA0 : Bk (((w.alloc (.cells #[.slice A l.length c, .int .i64 T] 26)).alloc (.cells #[.bool a.ask, .int .i64 a.value, .int .i64 a.answer] 30)).alloc (.cells #[.slice none 0 0, .int .i64 0] 26)) w.heap.size 26 #[.slice A l.length c, .int .i64 T] := ((Bk.new w _ _).alloc _).alloc _
  have hA1 : Bk (((w.alloc (.cells #[.slice A l.length c, .int .i64 T] 26)).alloc (.cells #[.bool a.ask, .int .i64 a.value, .int .i64 a.answer] 30)).alloc (.cells #[.slice none 0 0, .int .i64 0] 26)) (w.heap.size + 1) 30 #[.bool a.ask, .int .i64 a.value, .int .i64 a.answer] := by simpa using (Bk.new (w.alloc (.cells #[.slice A l.length c, .int .i64 T] 26)) 30 #[.bool a.ask, .int .i64 a.value, .int .i64 a.answer]).alloc (.cells #[.slice none 0 0, .int .i64 0] 26)
  have hA2 : Bk (((w.alloc (.cells #[.slice A l.length c, .int .i64 T] 26)).alloc (.cells #[.bool a.ask, .int .i64 a.value, .int .i64 a.answer] 30)).alloc (.cells #[.slice none 0 0, .int .i64 0] 26)) (w.heap.size + 2) 26 #[.slice none 0 0, .int .i64 0] := by simpa using Bk.new ((w.alloc (.cells #[.slice A l.length c, .int .i64 T] 26)).alloc (.cells #[.bool a.ask, .int .i64 a.value, .int .i64 a.answer] 30)) 26 #[.slice none 0 0, .int .i64 0]
  obtain ⟨x0, x1⟩ := hA0.cells2
  obtain ⟨y0, y1, y2⟩ := hA1.cells3
  obtain ⟨aa, ab, ac⟩ := a
  simp only at hG hA0 hA1 hA2 x0 x1 y0 y1 y2 ⊢
  go_enter Try.func26, Try.ntmps26
  go_wp2_with fail
  go_at_call 40
  refine (with_any A c l T 4 0 0 aa ab ac _ (h.gr0 hG) hn).mono ?_
  rintro e w2 ⟨A2, c2, rfl, hcap, hsl, hg2⟩
  have hC2 := hA2.gr0 hg2
  obtain ⟨v2, v3⟩ := hC2.cells2
  have hf0 := hC2.frozen 0
  have hf1 := hC2.frozen 1
  go_wp2
  have hC4 := (hC2.set_ 0 (.slice A2 (l.length + 1) c2)).set_ 1 (.int .i64 T)
  refine bodyPost_ret (results_cell_row rfl _ _ _ _ _ _ _ rfl hC4 Try.underlying26 rfl (by kernel_rfl)) rfl ⟨A2, c2, rfl, hcap, ?_, ?_⟩
  · exact Sl.gr1 hsl hC2 (by decide) (((Gr.refl [w.heap.size + 2] w2).setCell (.inl (by simp)) _).setCell (.inl (by simp)) _)
  · exact ((hG.trans hg2).setCell (.inr (show w.heap.size ≤ w.heap.size + 2 by omega)) _).setCell (.inr (show w.heap.size ≤ w.heap.size + 2 by omega)) _
end Go.Proofs.Ytpbelnbknnhgnaa
