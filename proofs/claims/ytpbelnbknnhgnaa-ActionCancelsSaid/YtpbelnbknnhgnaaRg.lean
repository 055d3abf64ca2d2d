/- The reference: settle, Confirm, Cancel. -/
import Derived.Test.YtpbelnbknnhgnaaRd
namespace Go.Proofs.Ytpbelnbknnhgnaa
open Go.RowKit

def opn (l : List Dd) (t : Int) : Option Int := if stl l t then none else rsv l t
theorem opn_eq {l : List Dd} {g : Int} {op : Int → Option Int} (h : scan l = some (g, op)) (t : Int) : op t = opn l t := (scan_known l.length l rfl h).opens t
set_option maxHeartbeats 1000000 in
theorem rsettle_any (A : Option Addr) (c : Nat) (l : List Dd) (T t kk : Int) (w : World) (h : Ds w A l) (hn : l.length ≤ 999999) :
    Calls Try.prog 41 #[.agg #[.slice A l.length c, .int .i64 T], .int .i64 t, .int .i64 kk] w fun e w' =>
      (opn l t = none ∧ e = .returned (.tuple #[.agg #[.slice none 0 0, .int .i64 0], .int .i64 5]) ∧ Gr [] w w') ∨
      ∃ (v : Int) (A' : Option Addr) (c' : Nat), opn l t = some v ∧ e = .returned (.tuple #[.agg #[.slice A' (l.length + 1) c', .int .i64 T], .int .i64 0]) ∧ l.length + 1 ≤ c' ∧ Sl w' 32 6 A' (l.length + 1) (dcells (l ++ [⟨kk, t, v, plainA⟩])) ∧ Gr [] w w' := by
  have hG : Gr [] w ((w.alloc (.cells #[.slice A l.length c, .int .i64 T] 26)).alloc (.cells #[.slice none 0 0, .int .i64 0] 26)) := ((Gr.refl [] w).alloc _).alloc _
  have hA0 : Bk ((w.alloc (.cells #[.slice A l.length c, .int .i64 T] 26)).alloc (.cells #[.slice none 0 0, .int .i64 0] 26)) w.heap.size 26 #[.slice A l.length c, .int .i64 T] := (Bk.new w _ _).alloc _
  have hA1 : Bk ((w.alloc (.cells #[.slice A l.length c, .int .i64 T] 26)).alloc (.cells #[.slice none 0 0, .int .i64 0] 26)) (w.heap.size + 1) 26 #[.slice none 0 0, .int .i64 0] := by simpa using Bk.new (w.alloc (.cells #[.slice A l.length c, .int .i64 T] 26)) 26 #[.slice none 0 0, .int .i64 0]
  obtain ⟨x0, x1⟩ := hA0.cells2
  go_enter Try.func41, Try.ntmps41
  go_wp2_with fail
  generalize ((w.alloc (.cells #[.slice A l.length c, .int .i64 T] 26)).alloc (.cells #[.slice none 0 0, .int .i64 0] 26)) = W at *
  go_at_call 37
  refine (rsv_any A c l t _ (h.gr0 hG) (by omega)).mono ?_
  rintro e w2 ⟨rfl, hg2⟩
  have hB0 := hA0.gr0 hg2
  have hB1 := hA1.gr0 hg2
  obtain ⟨u0, u1⟩ := hB0.cells2
  obtain ⟨v0, v1⟩ := hB1.cells2
  have hf0 := hB1.frozen 0
  have hf1 := hB1.frozen 1
  cases hr : rsv l t with
  | none =>
    have HO := Lib.hid (show opn l t = none by unfold opn; rw [hr]; split <;> rfl)
    clear hr
    go_wp2
    have hC4 := (hB1.set_ 0 (.slice none 0 0)).set_ 1 (.int .i64 0)
    refine bodyPost_ret (v := .tuple #[.agg #[.slice none 0 0, .int .i64 0], .int .i64 5]) (results_cell_tmp_row (p := 6) (u := 7) rfl _ _ _ _ _ _ _ rfl hC4 Try.underlying26 rfl (by kernel_rfl)) rfl (.inl ⟨HO.out, rfl, ?_⟩)
    exact ((hG.trans hg2).setCell (.inr (by simp)) _).setCell (.inr (by simp)) _
  | some v =>
    have HR := Lib.hid hr
    clear hr
    go_wp2_with fail
    go_at_call 38
    refine (stl_any A c l t _ ((h.gr0 hG).gr0 hg2) (by omega)).mono ?_
    rintro e w3 ⟨rfl, hg3⟩
    have hB0' := hB0.gr0 hg3
    have hB1' := hB1.gr0 hg3
    obtain ⟨u0', u1'⟩ := hB0'.cells2
    obtain ⟨v0', v1'⟩ := hB1'.cells2
    have hf0' := hB1'.frozen 0
    have hf1' := hB1'.frozen 1
    cases hs : stl l t with
    | true =>
      have HO := Lib.hid (show opn l t = none by unfold opn; rw [hs]; rfl)
      clear hs
      go_wp2
      have hC4 := (hB1'.set_ 0 (.slice none 0 0)).set_ 1 (.int .i64 0)
      refine bodyPost_ret (v := .tuple #[.agg #[.slice none 0 0, .int .i64 0], .int .i64 5]) (results_cell_tmp_row (p := 6) (u := 7) rfl _ _ _ _ _ _ _ rfl hC4 Try.underlying26 rfl (by kernel_rfl)) rfl (.inl ⟨HO.out, rfl, ?_⟩)
      exact (((hG.trans hg2).trans hg3).setCell (.inr (by simp)) _).setCell (.inr (by simp)) _
    | false =>
      have HO := Lib.hid (show opn l t = some v by unfold opn; rw [hs]; exact HR.out)
      clear hs
      go_wp2_with fail
      go_at_call 40
      refine (with_any A c l T kk t v false 0 0 w3 (((h.gr0 hG).gr0 hg2).gr0 hg3) hn).mono ?_
      rintro e w4 ⟨A3, c3, rfl, hcap, hsl, hg4⟩
      have hC1 := hB1'.gr0 hg4
      obtain ⟨y0, y1⟩ := hC1.cells2
      have hk0 := hC1.frozen 0
      have hk1 := hC1.frozen 1
      go_wp2
      have hC4 := (hC1.set_ 0 (.slice A3 (l.length + 1) c3)).set_ 1 (.int .i64 T)
      refine bodyPost_ret (v := .tuple #[.agg #[.slice A3 (l.length + 1) c3, .int .i64 T], .int .i64 0]) (results_cell_tmp_row (p := 6) (u := 7) rfl _ _ _ _ _ _ _ rfl hC4 Try.underlying26 rfl (by kernel_rfl)) rfl (.inr ⟨v, A3, c3, HO.out, rfl, hcap, ?_, ?_⟩)
      · exact Sl.gr1 hsl hC1 (by decide) (((Gr.refl [w.heap.size + 1] w4).setCell (.inl (by simp)) _).setCell (.inl (by simp)) _)
      · exact ((((hG.trans hg2).trans hg3).trans hg4).setCell (.inr (by simp)) _).setCell (.inr (by simp)) _

set_option maxHeartbeats 1000000 in
theorem rconfirm_any (A : Option Addr) (c : Nat) (l : List Dd) (T t : Int) (w : World) (h : Ds w A l) (hn : l.length ≤ 999999) :
    Calls Try.prog 27 #[.agg #[.slice A l.length c, .int .i64 T], .int .i64 t] w fun e w' =>
      (opn l t = none ∧ e = .returned (.tuple #[.agg #[.slice none 0 0, .int .i64 0], .int .i64 5]) ∧ Gr [] w w') ∨
      ∃ (v : Int) (A' : Option Addr) (c' : Nat), opn l t = some v ∧ e = .returned (.tuple #[.agg #[.slice A' (l.length + 1) c', .int .i64 T], .int .i64 0]) ∧ l.length + 1 ≤ c' ∧ Sl w' 32 6 A' (l.length + 1) (dcells (l ++ [⟨2, t, v, plainA⟩])) ∧ Gr [] w w' := by
  have hG : Gr [] w ((w.alloc (.cells #[.slice A l.length c, .int .i64 T] 26)).alloc (.cells #[.slice none 0 0, .int .i64 0] 26)) := ((Gr.refl [] w).alloc _).alloc _
  have hA0 : Bk ((w.alloc (.cells #[.slice A l.length c, .int .i64 T] 26)).alloc (.cells #[.slice none 0 0, .int .i64 0] 26)) w.heap.size 26 #[.slice A l.length c, .int .i64 T] := (Bk.new w _ _).alloc _
  have hA1 : Bk ((w.alloc (.cells #[.slice A l.length c, .int .i64 T] 26)).alloc (.cells #[.slice none 0 0, .int .i64 0] 26)) (w.heap.size + 1) 26 #[.slice none 0 0, .int .i64 0] := by simpa using Bk.new (w.alloc (.cells #[.slice A l.length c, .int .i64 T] 26)) 26 #[.slice none 0 0, .int .i64 0]
  obtain ⟨x0, x1⟩ := hA0.cells2
  go_enter Try.func27, Try.ntmps27
  go_wp2_with fail
  go_at_call 41
  refine (rsettle_any A c l T t 2 _ (h.gr0 hG) hn).mono ?_
  rintro e w2 (⟨hop, rfl, hg2⟩ | ⟨v, A3, c3, hop, rfl, hcap, hsl, hg2⟩)
  · have hC1 := hA1.gr0 hg2
    obtain ⟨y0, y1⟩ := hC1.cells2
    have hk0 := hC1.frozen 0
    have hk1 := hC1.frozen 1
    have HOP := Lib.hid hop
    clear hop
    go_wp2
    have hC4 := (hC1.set_ 0 (.slice none 0 0)).set_ 1 (.int .i64 0)
    refine bodyPost_ret (v := .tuple #[.agg #[.slice none 0 0, .int .i64 0], .int .i64 5]) (results_cell_tmp_row (p := 4) (u := 5) rfl _ _ _ _ _ _ _ rfl hC4 Try.underlying26 rfl (by kernel_rfl)) rfl (.inl ⟨HOP.out, rfl, ?_⟩)
    exact ((hG.trans hg2).setCell (.inr (by simp)) _).setCell (.inr (by simp)) _
  · have hC1 := hA1.gr0 hg2
    obtain ⟨y0, y1⟩ := hC1.cells2
    have hk0 := hC1.frozen 0
    have hk1 := hC1.frozen 1
    have HOP := Lib.hid hop
    clear hop
    go_wp2
    have hC4 := (hC1.set_ 0 (.slice A3 (l.length + 1) c3)).set_ 1 (.int .i64 T)
    refine bodyPost_ret (v := .tuple #[.agg #[.slice A3 (l.length + 1) c3, .int .i64 T], .int .i64 0]) (results_cell_tmp_row (p := 4) (u := 5) rfl _ _ _ _ _ _ _ rfl hC4 Try.underlying26 rfl (by kernel_rfl)) rfl (.inr ⟨v, A3, c3, HOP.out, rfl, hcap, ?_, ?_⟩)
    · exact Sl.gr1 hsl hC1 (by decide) (((Gr.refl [w.heap.size + 1] w2).setCell (.inl (by simp)) _).setCell (.inl (by simp)) _)
    · exact ((hG.trans hg2).setCell (.inr (by simp)) _).setCell (.inr (by simp)) _

set_option maxHeartbeats 1000000 in
theorem rcancel_any (A : Option Addr) (c : Nat) (l : List Dd) (T t : Int) (w : World) (h : Ds w A l) (hn : l.length ≤ 999999) :
    Calls Try.prog 28 #[.agg #[.slice A l.length c, .int .i64 T], .int .i64 t] w fun e w' =>
      (opn l t = none ∧ e = .returned (.tuple #[.agg #[.slice none 0 0, .int .i64 0], .int .i64 5]) ∧ Gr [] w w') ∨
      ∃ (v : Int) (A' : Option Addr) (c' : Nat), opn l t = some v ∧ e = .returned (.tuple #[.agg #[.slice A' (l.length + 1) c', .int .i64 T], .int .i64 0]) ∧ l.length + 1 ≤ c' ∧ Sl w' 32 6 A' (l.length + 1) (dcells (l ++ [⟨3, t, v, plainA⟩])) ∧ Gr [] w w' := by
  have hG : Gr [] w ((w.alloc (.cells #[.slice A l.length c, .int .i64 T] 26)).alloc (.cells #[.slice none 0 0, .int .i64 0] 26)) := ((Gr.refl [] w).alloc _).alloc _
  have hA0 : Bk ((w.alloc (.cells #[.slice A l.length c, .int .i64 T] 26)).alloc (.cells #[.slice none 0 0, .int .i64 0] 26)) w.heap.size 26 #[.slice A l.length c, .int .i64 T] := (Bk.new w _ _).alloc _
  have hA1 : Bk ((w.alloc (.cells #[.slice A l.length c, .int .i64 T] 26)).alloc (.cells #[.slice none 0 0, .int .i64 0] 26)) (w.heap.size + 1) 26 #[.slice none 0 0, .int .i64 0] := by simpa using Bk.new (w.alloc (.cells #[.slice A l.length c, .int .i64 T] 26)) 26 #[.slice none 0 0, .int .i64 0]
  obtain ⟨x0, x1⟩ := hA0.cells2
  go_enter Try.func28, Try.ntmps28
  go_wp2_with fail
  go_at_call 41
  refine (rsettle_any A c l T t 3 _ (h.gr0 hG) hn).mono ?_
  rintro e w2 (⟨hop, rfl, hg2⟩ | ⟨v, A3, c3, hop, rfl, hcap, hsl, hg2⟩)
  · have hC1 := hA1.gr0 hg2
    obtain ⟨y0, y1⟩ := hC1.cells2
    have hk0 := hC1.frozen 0
    have hk1 := hC1.frozen 1
    have HOP := Lib.hid hop
    clear hop
    go_wp2
    have hC4 := (hC1.set_ 0 (.slice none 0 0)).set_ 1 (.int .i64 0)
    refine bodyPost_ret (v := .tuple #[.agg #[.slice none 0 0, .int .i64 0], .int .i64 5]) (results_cell_tmp_row (p := 4) (u := 5) rfl _ _ _ _ _ _ _ rfl hC4 Try.underlying26 rfl (by kernel_rfl)) rfl (.inl ⟨HOP.out, rfl, ?_⟩)
    exact ((hG.trans hg2).setCell (.inr (by simp)) _).setCell (.inr (by simp)) _
  · have hC1 := hA1.gr0 hg2
    obtain ⟨y0, y1⟩ := hC1.cells2
    have hk0 := hC1.frozen 0
    have hk1 := hC1.frozen 1
    have HOP := Lib.hid hop
    clear hop
    go_wp2
    have hC4 := (hC1.set_ 0 (.slice A3 (l.length + 1) c3)).set_ 1 (.int .i64 T)
    refine bodyPost_ret (v := .tuple #[.agg #[.slice A3 (l.length + 1) c3, .int .i64 T], .int .i64 0]) (results_cell_tmp_row (p := 4) (u := 5) rfl _ _ _ _ _ _ _ rfl hC4 Try.underlying26 rfl (by kernel_rfl)) rfl (.inr ⟨v, A3, c3, HOP.out, rfl, hcap, ?_, ?_⟩)
    · exact Sl.gr1 hsl hC1 (by decide) (((Gr.refl [w.heap.size + 1] w2).setCell (.inl (by simp)) _).setCell (.inl (by simp)) _)
    · exact ((hG.trans hg2).setCell (.inr (by simp)) _).setCell (.inr (by simp)) _

end Go.Proofs.Ytpbelnbknnhgnaa
