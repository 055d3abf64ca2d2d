/- Confirm, Cancel, at what is valid; Valid. -/
import Derived.Test.YtpbelnbknnhgnaaSt
namespace Go.Proofs.Ytpbelnbknnhgnaa
open Go.RowKit

set_option maxHeartbeats 1000000 in
theorem confirm_any (A : Option Addr) (c : Nat) (l : List Dd) (T t g : Int) (op : Int → Option Int) (w : World) (h : Ds w A l) (hn : l.length ≤ 999999) (hw : ∀ d ∈ l, wf64 d.ticket ∧ wf64 d.value) (hsc : scan l = some (g, op)) (ht : wf64 t) :
    Calls Try.prog 17 #[.agg #[.slice A l.length c, .int .i64 T], .int .i64 t] w fun e w' =>
      (op t = none ∧ e = .returned (.tuple #[.agg #[.slice none 0 0, .int .i64 0], .int .i64 5]) ∧ Gr [] w w') ∨
      ∃ (v : Int) (A' : Option Addr) (c' : Nat), op t = some v ∧ e = .returned (.tuple #[.agg #[.slice A' (l.length + 1) c', .int .i64 T], .int .i64 0]) ∧ l.length + 1 ≤ c' ∧ Sl w' 32 6 A' (l.length + 1) (dcells (l ++ [⟨2, t, v, plainA⟩])) ∧ Gr [] w w' := by
  have hG : Gr [] w ((w.alloc (.cells #[.slice A l.length c, .int .i64 T] 26)).alloc (.cells #[.slice none 0 0, .int .i64 0] 26)) := ((Gr.refl [] w).alloc _).alloc _
  have hA0 : Bk ((w.alloc (.cells #[.slice A l.length c, .int .i64 T] 26)).alloc (.cells #[.slice none 0 0, .int .i64 0] 26)) w.heap.size 26 #[.slice A l.length c, .int .i64 T] := (Bk.new w _ _).alloc _
  have hA1 : Bk ((w.alloc (.cells #[.slice A l.length c, .int .i64 T] 26)).alloc (.cells #[.slice none 0 0, .int .i64 0] 26)) (w.heap.size + 1) 26 #[.slice none 0 0, .int .i64 0] := by simpa using Bk.new (w.alloc (.cells #[.slice A l.length c, .int .i64 T] 26)) 26 #[.slice none 0 0, .int .i64 0]
  obtain ⟨x0, x1⟩ := hA0.cells2
  have HSC := Lib.hid hsc
  clear hsc
  go_enter Try.func17, Try.ntmps17
  go_wp2_with fail
  go_at_call 36
  refine (settle_any A c l T t 2 g op _ (h.gr0 hG) hn hw HSC.out ht).mono ?_
  rintro e w2 (⟨hop, rfl, hg2⟩ | ⟨v, A3, c3, hop, rfl, hcap, hsl, hg2⟩)
  · have hC1 := hA1.gr0 hg2
    obtain ⟨y0, y1⟩ := hC1.cells2
    have hk0 := hC1.frozen 0
    have hk1 := hC1.frozen 1
    have HOP := Lib.hid hop
    clear hop
    go_wp2
    have hC4 := (hC1.set_ 0 (.slice none 0 0)).set_ 1 (.int .i64 0)
    refine bodyPost_ret (v := .tuple #[.agg #[.slice none 0 0, .int .i64 0], .int .i64 5]) (results_cell_tmp_row (p := 4) (u := 5) rfl _ _ _ _ _ _ _ rfl hC4 Try.underlying26 rfl (by kernel_rfl)) rfl (.inl ⟨HOP.out, rfl, ?_⟩)
    exact ((hG.trans hg2).setCell (.inr (by simp)) _).setCell (.inr (by simp)) _
  · have hC1 := hA1.gr0 hg2
    obtain ⟨y0, y1⟩ := hC1.cells2
    have hk0 := hC1.frozen 0
    have hk1 := hC1.frozen 1
    have HOP := Lib.hid hop
    clear hop
    go_wp2
    have hC4 := (hC1.set_ 0 (.slice A3 (l.length + 1) c3)).set_ 1 (.int .i64 T)
    refine bodyPost_ret (v := .tuple #[.agg #[.slice A3 (l.length + 1) c3, .int .i64 T], .int .i64 0]) (results_cell_tmp_row (p := 4) (u := 5) rfl _ _ _ _ _ _ _ rfl hC4 Try.underlying26 rfl (by kernel_rfl)) rfl (.inr ⟨v, A3, c3, HOP.out, rfl, hcap, ?_, ?_⟩)
    · exact Sl.gr1 hsl hC1 (by decide) (((Gr.refl [w.heap.size + 1] w2).setCell (.inl (by simp)) _).setCell (.inl (by simp)) _)
    · exact ((hG.trans hg2).setCell (.inr (by simp)) _).setCell (.inr (by simp)) _

set_option maxHeartbeats 1000000 in
theorem cancel_any (A : Option Addr) (c : Nat) (l : List Dd) (T t g : Int) (op : Int → Option Int) (w : World) (h : Ds w A l) (hn : l.length ≤ 999999) (hw : ∀ d ∈ l, wf64 d.ticket ∧ wf64 d.value) (hsc : scan l = some (g, op)) (ht : wf64 t) :
    Calls Try.prog 18 #[.agg #[.slice A l.length c, .int .i64 T], .int .i64 t] w fun e w' =>
      (op t = none ∧ e = .returned (.tuple #[.agg #[.slice none 0 0, .int .i64 0], .int .i64 5]) ∧ Gr [] w w') ∨
      ∃ (v : Int) (A' : Option Addr) (c' : Nat), op t = some v ∧ e = .returned (.tuple #[.agg #[.slice A' (l.length + 1) c', .int .i64 T], .int .i64 0]) ∧ l.length + 1 ≤ c' ∧ Sl w' 32 6 A' (l.length + 1) (dcells (l ++ [⟨3, t, v, plainA⟩])) ∧ Gr [] w w' := by
  have hG : Gr [] w ((w.alloc (.cells #[.slice A l.length c, .int .i64 T] 26)).alloc (.cells #[.slice none 0 0, .int .i64 0] 26)) := ((Gr.refl [] w).alloc _).alloc _
  have hA0 : Bk ((w.alloc (.cells #[.slice A l.length c, .int .i64 T] 26)).alloc (.cells #[.slice none 0 0, .int .i64 0] 26)) w.heap.size 26 #[.slice A l.length c, .int .i64 T] := (Bk.new w _ _).alloc _
  have hA1 : Bk ((w.alloc (.cells #[.slice A l.length c, .int .i64 T] 26)).alloc (.cells #[.slice none 0 0, .int .i64 0] 26)) (w.heap.size + 1) 26 #[.slice none 0 0, .int .i64 0] := by simpa using Bk.new (w.alloc (.cells #[.slice A l.length c, .int .i64 T] 26)) 26 #[.slice none 0 0, .int .i64 0]
  obtain ⟨x0, x1⟩ := hA0.cells2
  have HSC := Lib.hid hsc
  clear hsc
  go_enter Try.func18, Try.ntmps18
  go_wp2_with fail
  go_at_call 36
  refine (settle_any A c l T t 3 g op _ (h.gr0 hG) hn hw HSC.out ht).mono ?_
  rintro e w2 (⟨hop, rfl, hg2⟩ | ⟨v, A3, c3, hop, rfl, hcap, hsl, hg2⟩)
  · have hC1 := hA1.gr0 hg2
    obtain ⟨y0, y1⟩ := hC1.cells2
    have hk0 := hC1.frozen 0
    have hk1 := hC1.frozen 1
    have HOP := Lib.hid hop
    clear hop
    go_wp2
    have hC4 := (hC1.set_ 0 (.slice none 0 0)).set_ 1 (.int .i64 0)
    refine bodyPost_ret (v := .tuple #[.agg #[.slice none 0 0, .int .i64 0], .int .i64 5]) (results_cell_tmp_row (p := 4) (u := 5) rfl _ _ _ _ _ _ _ rfl hC4 Try.underlying26 rfl (by kernel_rfl)) rfl (.inl ⟨HOP.out, rfl, ?_⟩)
    exact ((hG.trans hg2).setCell (.inr (by simp)) _).setCell (.inr (by simp)) _
  · have hC1 := hA1.gr0 hg2
    obtain ⟨y0, y1⟩ := hC1.cells2
    have hk0 := hC1.frozen 0
    have hk1 := hC1.frozen 1
    have HOP := Lib.hid hop
    clear hop
    go_wp2
    have hC4 := (hC1.set_ 0 (.slice A3 (l.length + 1) c3)).set_ 1 (.int .i64 T)
    refine bodyPost_ret (v := .tuple #[.agg #[.slice A3 (l.length + 1) c3, .int .i64 T], .int .i64 0]) (results_cell_tmp_row (p := 4) (u := 5) rfl _ _ _ _ _ _ _ rfl hC4 Try.underlying26 rfl (by kernel_rfl)) rfl (.inr ⟨v, A3, c3, HOP.out, rfl, hcap, ?_, ?_⟩)
    · exact Sl.gr1 hsl hC1 (by decide) (((Gr.refl [w.heap.size + 1] w2).setCell (.inl (by simp)) _).setCell (.inl (by simp)) _)
    · exact ((hG.trans hg2).setCell (.inr (by simp)) _).setCell (.inr (by simp)) _

end Go.Proofs.Ytpbelnbknnhgnaa
