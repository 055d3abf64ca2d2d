/- Reserve, of the package. -/
import Derived.Test.YtpbelnbknnhgnaaOq
namespace Go.Proofs.Ytpbelnbknnhgnaa
open Go.RowKit

set_option maxHeartbeats 1000000 in
theorem reserve_any (A : Option Addr) (c : Nat) (l : List Dd) (T v : Int) (w : World) (h : Ds w A l) (hn : l.length ≤ 999999) (hT : 0 ≤ T) (hT2 : T ≤ 1000000) :
    Calls Try.prog 15 #[.agg #[.slice A l.length c, .int .i64 T], .int .i64 v] w fun e w' => ∃ (A' : Option Addr) (c' : Nat),
      e = .returned (.tuple #[.agg #[.slice A' (l.length + 1) c', .int .i64 (T + 1)], .int .i64 (T + 1)]) ∧ l.length + 1 ≤ c' ∧ Sl w' 32 6 A' (l.length + 1) (dcells (l ++ [⟨1, T + 1, v, plainA⟩])) ∧ Gr [] w w' := by
  have hG : Gr [] w ((w.alloc (.cells #[.slice A l.length c, .int .i64 (T + 1)] 26)).alloc (.cells #[.slice none 0 0, .int .i64 0] 26)) := ((Gr.refl [] w).alloc _).alloc _
  have hA0 : Bk ((w.alloc (.cells #[.slice A l.length c, .int .i64 (T + 1)] 26)).alloc (.cells #[.slice none 0 0, .int .i64 0] 26)) w.heap.size 26 #[.slice A l.length c, .int .i64 (T + 1)] := (Bk.new w _ _).alloc _
  have hA1 : Bk ((w.alloc (.cells #[.slice A l.length c, .int .i64 (T + 1)] 26)).alloc (.cells #[.slice none 0 0, .int .i64 0] 26)) (w.heap.size + 1) 26 #[.slice none 0 0, .int .i64 0] := by simpa using Bk.new (w.alloc (.cells #[.slice A l.length c, .int .i64 (T + 1)] 26)) 26 #[.slice none 0 0, .int .i64 0]
  go_enter Try.func15, Try.ntmps15
  go_wp2_with fail
  generalize ((w.alloc (.cells #[.slice A l.length c, .int .i64 (T + 1)] 26)).alloc (.cells #[.slice none 0 0, .int .i64 0] 26)) = W at *
  have k0 : W.drew.cell? ⟨w.heap.size, 0, none⟩ = some (.slice A l.length c) ∧ W.drew.cell? ⟨w.heap.size, 1, none⟩ = some (.int .i64 (T + 1)) := hA0.drew.cells2
  go_region_held3 (fun w' => w'.cell? ⟨w.heap.size, 0, none⟩ = some (.slice A l.length c) ∧ w'.cell? ⟨w.heap.size, 1, none⟩ = some (.int .i64 (T + 1))) (first | exact k0 | exact k1 | go_keep)
    ((go_at_call 35; refine (and_any A c l (T + 1) 1 (T + 1) v false 0 0 _ ((h.gr0 hG).gr0 (Gr.refl _ _).drew) hn).mono ?_; rintro e w3 ⟨A3, c3, rfl, hcap, hsl, hg3⟩; have hC0 := hA0.drew.gr0 hg3; have hC1 := hA1.drew.gr0 hg3; have k1 := hC0.cells2; have m1 := hC1.cells2; have hf0 := hC1.frozen 0; have hf1 := hC1.frozen 1))
  all_goals
    go_wp2
    have hC4 := (hC1.set_ 0 (.slice A3 (l.length + 1) c3)).set_ 1 (.int .i64 (T + 1))
    refine bodyPost_ret (v := .tuple #[.agg #[.slice A3 (l.length + 1) c3, .int .i64 (T + 1)], .int .i64 (T + 1)]) (results_cell_tmp_row (p := 4) (u := 5) rfl _ _ _ _ _ _ _ rfl hC4 Try.underlying26 rfl (by kernel_rfl)) rfl ⟨A3, c3, rfl, hcap, ?_, ?_⟩
    · exact Sl.gr1 hsl hC1 (by decide) (((Gr.refl [w.heap.size + 1] w3).setCell (.inl (by simp)) _).setCell (.inl (by simp)) _)
    · exact (((hG.drew).trans hg3).setCell (.inr (by simp)) _).setCell (.inr (by simp)) _
end Go.Proofs.Ytpbelnbknnhgnaa
