/- settle, at what is valid. -/
import Derived.Test.YtpbelnbknnhgnaaRs
namespace Go.Proofs.Ytpbelnbknnhgnaa
open Go.RowKit

theorem results_cell_tmp_row {P : Program} {fn : Func} {p u : Tmp} {ty : TypeId} (h : fn.results = #[.cell p ty, .tmp u]) (tmps : Array Value) (w : World) (g : Nat) (t : TypeId) (cs : Array Value) (fr : Nat × Nat) (d : TypeDesc)
    (hp : tmps.getD p undef = .pointer (some ⟨g, 0, none⟩)) (hg : w.heap[g]? = some (.cells cs t fr))
    (hu : P.underlying ty = some d) (hd : (match d with | .struct _ | .array _ _ => true | _ => false) = true) (hi : (P.info? ty).map (·.size) = some cs.size) :
    (results fn tmps).run P w = .ok (.tuple #[.agg cs, tmps.getD u undef]) w := by
  rw [results_cell_tmp h]
  have hp' : tmps[p]?.getD undef = .pointer (some ⟨g, 0, none⟩) := by simpa using hp
  simp [hp', asAddr, run_loadVar_row w g t ty cs fr d hg hu hd hi, Result.andThen]

set_option maxHeartbeats 1000000 in
theorem settle_any (A : Option Addr) (c : Nat) (l : List Dd) (T t kk g : Int) (op : Int → Option Int) (w : World) (h : Ds w A l) (hn : l.length ≤ 999999) (hw : ∀ d ∈ l, wf64 d.ticket ∧ wf64 d.value) (hsc : scan l = some (g, op)) (ht : wf64 t) :
    Calls Try.prog 36 #[.agg #[.slice A l.length c, .int .i64 T], .int .i64 t, .int .i64 kk] w fun e w' =>
      (op t = none ∧ e = .returned (.tuple #[.agg #[.slice none 0 0, .int .i64 0], .int .i64 5]) ∧ Gr [] w w') ∨
      ∃ (v : Int) (A' : Option Addr) (c' : Nat), op t = some v ∧ e = .returned (.tuple #[.agg #[.slice A' (l.length + 1) c', .int .i64 T], .int .i64 0]) ∧ l.length + 1 ≤ c' ∧ Sl w' 32 6 A' (l.length + 1) (dcells (l ++ [⟨kk, t, v, plainA⟩])) ∧ Gr [] w w' := by
  have hG : Gr [] w ((w.alloc (.cells #[.slice A l.length c, .int .i64 T] 26)).alloc (.cells #[.slice none 0 0, .int .i64 0] 26)) := ((Gr.refl [] w).alloc _).alloc _
  have hA0 : Bk ((w.alloc (.cells #[.slice A l.length c, .int .i64 T] 26)).alloc (.cells #[.slice none 0 0, .int .i64 0] 26)) w.heap.size 26 #[.slice A l.length c, .int .i64 T] := (Bk.new w _ _).alloc _
  have hA1 : Bk ((w.alloc (.cells #[.slice A l.length c, .int .i64 T] 26)).alloc (.cells #[.slice none 0 0, .int .i64 0] 26)) (w.heap.size + 1) 26 #[.slice none 0 0, .int .i64 0] := by simpa using Bk.new (w.alloc (.cells #[.slice A l.length c, .int .i64 T] 26)) 26 #[.slice none 0 0, .int .i64 0]
  obtain ⟨x0, x1⟩ := hA0.cells2
  have HSC := Lib.hid hsc
  clear hsc
  go_enter Try.func36, Try.ntmps36
  go_wp2_with fail
  go_at_call 31
  refine (reserved_any A c l T _ (h.gr0 hG) hn hw).mono ?_
  rintro e w2 (⟨hx, _⟩ | ⟨g', op', M, n, hx, rfl, hM, _, _, hg2⟩)
  · rw [HSC.out] at hx; cases hx
  · rw [HSC.out] at hx
    injection hx with hx
    injection hx with hx1 hx2
    subst hx1; subst hx2
    have hB0 := hA0.gr0 hg2
    have hB1 := hA1.gr0 hg2
    obtain ⟨u0, u1⟩ := hB0.cells2
    obtain ⟨v0, v1⟩ := hB1.cells2
    have hf0 := hB1.frozen 0
    have hf1 := hB1.frozen 1
    have hlk := hM.look ht
    cases hop : op t with
    | none =>
      rw [hop] at hlk
      simp only [Option.isSome_none, Option.getD_none] at hlk
      clear hM
      go_wp2
      have hC4 := (hB1.set_ 0 (.slice none 0 0)).set_ 1 (.int .i64 0)
      refine bodyPost_ret (v := .tuple #[.agg #[.slice none 0 0, .int .i64 0], .int .i64 5]) (results_cell_tmp_row (p := 6) (u := 7) rfl _ _ _ _ _ _ _ rfl hC4 Try.underlying26 rfl (by kernel_rfl)) rfl (.inl ⟨hop, rfl, ?_⟩)
      exact ((hG.trans hg2).setCell (.inr (by simp)) _).setCell (.inr (by simp)) _
    | some v =>
      rw [hop] at hlk
      simp only [Option.isSome_some, Option.getD_some] at hlk
      clear hM
      go_wp2_with fail
      go_at_call 35
      refine (and_any A c l T kk t v false 0 0 w2 ((h.gr0 hG).gr0 hg2) hn).mono ?_
      rintro e w3 ⟨A3, c3, rfl, hcap, hsl, hg3⟩
      have hC1 := hB1.gr0 hg3
      obtain ⟨y0, y1⟩ := hC1.cells2
      have hk0 := hC1.frozen 0
      have hk1 := hC1.frozen 1
      go_wp2
      have hC4 := (hC1.set_ 0 (.slice A3 (l.length + 1) c3)).set_ 1 (.int .i64 T)
      refine bodyPost_ret (v := .tuple #[.agg #[.slice A3 (l.length + 1) c3, .int .i64 T], .int .i64 0]) (results_cell_tmp_row (p := 6) (u := 7) rfl _ _ _ _ _ _ _ rfl hC4 Try.underlying26 rfl (by kernel_rfl)) rfl (.inr ⟨v, A3, c3, hop, rfl, hcap, ?_, ?_⟩)
      · exact Sl.gr1 hsl hC1 (by decide) (((Gr.refl [w.heap.size + 1] w3).setCell (.inl (by simp)) _).setCell (.inl (by simp)) _)
      · exact (((hG.trans hg2).trans hg3).setCell (.inr (by simp)) _).setCell (.inr (by simp)) _
end Go.Proofs.Ytpbelnbknnhgnaa
