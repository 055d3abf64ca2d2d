/- bad, walked. -/
import Derived.Test.YtpbelnbknnhgnaaBd
namespace Go.Proofs.Ytpbelnbknnhgnaa
open Go.RowKit

theorem bad_fin {w W6 : World} {p : Nat} {u v : Value} {A : Option Addr} {n : Nat} {m : List Dd} (hp : Bk W6 p 26 #[u, v]) (hs : Sl W6 32 6 A n (dcells m)) (hg : Gr [] w W6) (hw : w.heap.size ≤ p) (a b : Value) :
    Bk ((W6.setCell ⟨p, 0, none⟩ a).setCell ⟨p, 1, none⟩ b) p 26 #[a, b] ∧ Sl ((W6.setCell ⟨p, 0, none⟩ a).setCell ⟨p, 1, none⟩ b) 32 6 A n (dcells m) ∧ Gr [] w ((W6.setCell ⟨p, 0, none⟩ a).setCell ⟨p, 1, none⟩ b) :=
  ⟨(hp.set_ 0 _).set_ 1 _, Sl.gr1 hs hp (by decide) (gr_two W6 p a b), hg.trans_new (gr_two W6 p a b) (by intro x hx; right; simp at hx; omega)⟩
theorem Dd.len_set (l : List Dd) (r : Nat) (d : Dd) : (l.set r d).length = l.length := List.length_set

set_option maxRecDepth 100000 in
set_option maxHeartbeats 4000000 in
theorem bad_any (A : Option Addr) (c : Nat) (l : List Dd) (T what at_ : Int) (w : World) (h : Ds w A l) (hn : l.length ≤ 1000) (hw : wfl l) :
    Calls Try.prog 20 #[.agg #[.slice A l.length c, .int .i64 T], .int .i64 what, .int .i64 at_] w fun e w' => ∃ (m : List Dd) (A' : Option Addr) (c' : Nat) (U : Int), e = .returned (.agg #[.slice A' m.length c', .int .i64 U]) ∧ Ds w' A' m ∧ m.length ≤ c' ∧ wfl m ∧ m.length ≤ 1001 ∧ Gr [] w w' := by
  obtain ⟨i0, hi0, hz0, hz1, hz2⟩ := info_parts Try.infoDd
  have hG : Gr [] w ((w.alloc (.cells #[.slice A l.length c, .int .i64 T] 26)).alloc (.cells #[.slice none 0 0, .int .i64 0] 26)) := ((Gr.refl [] w).alloc _).alloc _
  have hA0 : Bk ((w.alloc (.cells #[.slice A l.length c, .int .i64 T] 26)).alloc (.cells #[.slice none 0 0, .int .i64 0] 26)) w.heap.size 26 #[.slice A l.length c, .int .i64 T] := (Bk.new w _ _).alloc _
  have hA1 : Bk ((w.alloc (.cells #[.slice A l.length c, .int .i64 T] 26)).alloc (.cells #[.slice none 0 0, .int .i64 0] 26)) (w.heap.size + 1) 26 #[.slice none 0 0, .int .i64 0] := by simpa using Bk.new (w.alloc (.cells #[.slice A l.length c, .int .i64 T] 26)) 26 #[.slice none 0 0, .int .i64 0]
  obtain ⟨e', hds⟩ := h.gr0 hG
  have hEm : ((((w.alloc (.cells #[.slice A l.length c, .int .i64 T] 26)).alloc (.cells #[.slice none 0 0, .int .i64 0] 26)).alloc (.cells #[] 32))).ownsRow (w.heap.size + 1 + 1) 32 6 (.slice (some ⟨w.heap.size + 1 + 1, 0, none⟩) 0 0) 0 [] := own_empty _ _ _ _ _ (by simp) (Nat.le_refl _)
  have hsE := hds.alloc (.cells #[] 32)
  have hB0 := hA0.alloc (.cells #[] 32)
  have hB1 := hA1.alloc (.cells #[] 32)
  have hgE := hG.alloc (.cells #[] 32)
  by_cases h0 : l.length = 0
  · have hl0 : ((l.length : Int) == 0) = true := by rw [beq_iff_eq]; omega
    have H0 := Lib.hid h0
    clear h0
    go_enter Try.func20, Try.ntmps20
    go_wp2_with (at_builtin; refine wpList_app2 _ rfl (.tmp 8) (.tmp 10) 24 rfl (w.heap.size + 1 + 1) 32 i0 _ 6 48 Try.underlying24 hi0 hz0 hz1 hz2 rfl (by decide) (by decide) _ 0 0 [] rfl hEm A l.length c _ rfl hsE (dcells_one _) (by omega) (by simp) ?_; intro A2 c2 w2 hown2 happ2; have hC0 := happ2.bk hB0 (by decide); have hC1 := happ2.bk hB1 (by decide); have hgr2 : Gr [] w w2 := happ2.gr [] w (by omega) hgE; simp only [Nat.zero_add, List.nil_append] at hown2 ⊢; clear hEm hsE hB0 hB1 hgE happ2 hA0 hA1 hG hds; obtain ⟨x0, x1⟩ := hC0.cells2; obtain ⟨y0, y1⟩ := hC1.cells2; have hf0 := hC0.frozen 0; have hf1 := hC0.frozen 1; have hy0 := hC1.frozen 0; have hy1 := hC1.frozen 1)
    obtain ⟨f1, f2, f3⟩ := bad_fin (w := w) (p := w.heap.size + 1) (m := l) (hC1.far (p := ⟨w.heap.size, 0, none⟩) (by simp) (.slice A2 l.length c2) |>.far (p := ⟨w.heap.size, 1, none⟩) (by simp) (.int .i64 (wrap64 (T + 1))))
      (Sl.gr1 (Sl.of_own hown2) hC0 (by decide) (gr_two w2 w.heap.size (.slice A2 l.length c2) (.int .i64 (wrap64 (T + 1))))) (hgr2.trans_new (gr_two w2 w.heap.size (.slice A2 l.length c2) (.int .i64 (wrap64 (T + 1)))) (by intro x hx; right; simp at hx; omega)) (by omega) (.slice A2 l.length c2) (.int .i64 (wrap64 (T + 1)))
    exact bodyPost_ret (results_cell_row rfl _ _ _ _ _ _ _ rfl f1 Try.underlying26 rfl (by kernel_rfl)) rfl ⟨l, A2, c2, _, rfl, ⟨_, f2⟩, own_cap hown2, hw, by omega, f3⟩
  · have hl : 0 < l.length := by omega
    have hl0 : ((l.length : Int) == 0) = false := by rw [beq_eq_false_iff_ne]; omega
    have hr0 : 0 ≤ at_ % (l.length : Int) := Int.emod_nonneg _ (by omega)
    have hr1 : at_ % (l.length : Int) < (l.length : Int) := Int.emod_lt_of_pos _ (by omega)
    obtain ⟨r, hr⟩ : ∃ r : Nat, at_ % (l.length : Int) = r := ⟨_, (Int.toNat_of_nonneg hr0).symm⟩
    rw [hr] at hr0 hr1
    have hrl : r < l.length := by omega
    have HM := Lib.hid (show ∀ w, Calls Try.prog 9 #[.int .i64 at_, .int .i64 (l.length : Int)] w fun e w' => e = .returned (.int .i64 (r : Int)) ∧ w = w' from fun w => by have := modq at_ l.length w (by omega) (by omega); rwa [hr] at this)
    have hs0 : 0 ≤ what % 7 := Int.emod_nonneg _ (by omega)
    have hs1 : what % 7 < 7 := Int.emod_lt_of_pos _ (by omega)
    obtain ⟨s, hs⟩ : ∃ s : Int, what % 7 = s := ⟨_, rfl⟩
    have HM7 := Lib.hid (show ∀ w, Calls Try.prog 9 #[.int .i64 what, .int .i64 7] w fun e w' => e = .returned (.int .i64 s) ∧ w = w' from fun w => by have := modq what 7 w (by omega) (by omega); rwa [hs] at this)
    rw [hs] at hs0 hs1
    clear hr hs h0
    obtain ⟨d, hd⟩ : ∃ d, d = l[r] := ⟨_, rfl⟩
    have HD := Lib.hid hd
    clear hd
    go_enter Try.func20, Try.ntmps20
    go_wp2_with (at_builtin; refine wpList_app2 _ rfl (.tmp 8) (.tmp 10) 24 rfl (w.heap.size + 1 + 1) 32 i0 _ 6 48 Try.underlying24 hi0 hz0 hz1 hz2 rfl (by decide) (by decide) _ 0 0 [] rfl hEm A l.length c _ rfl hsE (dcells_one _) (by omega) (by simp) ?_; intro A2 c2 w2 hown2 happ2; have hC0 := happ2.bk hB0 (by decide); have hC1 := happ2.bk hB1 (by decide); have hgr2 : Gr [] w w2 := happ2.gr [] w (by omega) hgE; simp only [Nat.zero_add, List.nil_append] at hown2 ⊢; clear hEm hsE hB0 hB1 hgE happ2 hA0 hA1 hG hds; obtain ⟨x0, x1⟩ := hC0.cells2; obtain ⟨y0, y1⟩ := hC1.cells2; have hf0 := hC0.frozen 0; have hf1 := hC0.frozen 1; have hy0 := hC1.frozen 0; have hy1 := hC1.frozen 1)
    obtain ⟨g, rfl, hgb, hR0⟩ := Rw6.of_own hown2 hl
    have hgrW := hgr2.setCell (p := ⟨w.heap.size, 0, none⟩) (.inr (Nat.le_refl _)) (.slice (some ⟨g, 0, none⟩) l.length c2)
    have hg1 : Gr [w.heap.size] w2 (w2.setCell ⟨w.heap.size, 0, none⟩ (.slice (some ⟨g, 0, none⟩) l.length c2)) := (Gr.refl [w.heap.size] w2).setCell (.inl (by simp)) _
    have hD0 := hC0.set_ 0 (.slice (some ⟨g, 0, none⟩) l.length c2)
    have hD1 := hC1.gr hg1 (by simp)
    have hR := hR0.gr hg1 (by simp; omega)
    have hcap := own_cap hown2
    have hownW := own_gr1 hown2 hC0 (by decide) hg1
    clear hown2 hC0 hC1 x0 x1 y0 y1 hf0 hf1 hy0 hy1 hgr2 hR0 hg1
    generalize w2.setCell ⟨w.heap.size, 0, none⟩ (.slice (some ⟨g, 0, none⟩) l.length c2) = W5 at *
    obtain ⟨x0, x1⟩ : W5.cell? ⟨w.heap.size, 0, none⟩ = some (.slice (some ⟨g, 0, none⟩) l.length c2) ∧ W5.cell? ⟨w.heap.size, 1, none⟩ = some (.int .i64 T) := hD0.cells2
    have hf0 := hD0.frozen 0
    have hf1 := hD0.frozen 1
    obtain ⟨y0, y1⟩ := hD1.cells2
    have hy0 := hD1.frozen 0
    have hy1 := hD1.frozen 1
    obtain ⟨c0, c1, c2', c3, c4, c5, hfz⟩ := hR.cells hrl
    rw [← HD.out] at c0 c1 c2' c3 c4 c5
    have hz0'' := hfz (r * 6)
    have hz1' := hfz (r * 6 + 1)
    have hz2' := hfz (r * 6 + 2)
    have hz4' := hfz (r * 6 + 4)
    clear hfz
    go_quiet ((go_at_call 9; exact quiet_ln (HM.out _)))
    go_wp2_with fail
    go_at_call 9
    refine (HM7.out _).mono ?_
    rintro e w3 ⟨rfl, rfl⟩
    have hs7 : s = 0 ∨ s = 1 ∨ s = 2 ∨ s = 3 ∨ s = 4 ∨ s = 5 ∨ s = 6 := by omega
    clear hs0 hs1
    rcases hs7 with rfl | rfl | rfl | rfl | rfl | rfl | rfl
    · go_wp2_with (go_at_call 9; refine (modq at_ 5 _ (by omega) (by omega)).mono ?_; rintro e w' ⟨rfl, rfl⟩)
      have hW6 := (hR.gr ((Gr.refl [] W5).drewN nq) (by simp)).set_ hrl (show 0 < 6 by omega) (⟨1 + at_ % 5, d.ticket, d.value, d.act⟩) (.int .i64 (1 + at_ % 5)) (by rw [← HD.out]; rfl)
      obtain ⟨f1, f2, f3⟩ := bad_fin (w := w) (p := w.heap.size + 1) (m := l.set r (⟨1 + at_ % 5, d.ticket, d.value, d.act⟩)) ((hD1.drewN nq).far (p := ⟨g, r * 6 + 0, none⟩) (by simp; omega) (.int .i64 (1 + at_ % 5))) hW6.sl ((hgrW.drewN nq).setCell (p := ⟨g, r * 6 + 0, none⟩) (.inr (by simp; omega)) (.int .i64 (1 + at_ % 5))) (by omega) (.slice (some ⟨g, 0, none⟩) l.length c2) (.int .i64 T)
      exact bodyPost_ret (results_cell_row rfl _ _ _ _ _ _ _ rfl f1 Try.underlying26 rfl (by kernel_rfl)) rfl ⟨l.set r (⟨1 + at_ % 5, d.ticket, d.value, d.act⟩), _, c2, _, by rw [Dd.len_set], ⟨_, f2⟩, by rw [Dd.len_set]; exact hcap, wfl_set hw r _ (by rw [HD.out]; exact (hw _ (List.getElem_mem hrl)).1) (by rw [HD.out]; exact (hw _ (List.getElem_mem hrl)).2), by rw [Dd.len_set]; omega, f3⟩
    · go_wp2
      have hW6 := (hR.gr ((Gr.refl [] W5).drewN nq) (by simp)).set_ hrl (show 1 < 6 by omega) (⟨d.kind, wrap64 (d.ticket + 1), d.value, d.act⟩) (.int .i64 (wrap64 (d.ticket + 1))) (by rw [← HD.out]; rfl)
      obtain ⟨f1, f2, f3⟩ := bad_fin (w := w) (p := w.heap.size + 1) (m := l.set r (⟨d.kind, wrap64 (d.ticket + 1), d.value, d.act⟩)) ((hD1.drewN nq).far (p := ⟨g, r * 6 + 1, none⟩) (by simp; omega) (.int .i64 (wrap64 (d.ticket + 1)))) hW6.sl ((hgrW.drewN nq).setCell (p := ⟨g, r * 6 + 1, none⟩) (.inr (by simp; omega)) (.int .i64 (wrap64 (d.ticket + 1)))) (by omega) (.slice (some ⟨g, 0, none⟩) l.length c2) (.int .i64 T)
      exact bodyPost_ret (results_cell_row rfl _ _ _ _ _ _ _ rfl f1 Try.underlying26 rfl (by kernel_rfl)) rfl ⟨l.set r (⟨d.kind, wrap64 (d.ticket + 1), d.value, d.act⟩), _, c2, _, by rw [Dd.len_set], ⟨_, f2⟩, by rw [Dd.len_set]; exact hcap, wfl_set hw r _ (wf64_wrap _) (by rw [HD.out]; exact (hw _ (List.getElem_mem hrl)).2), by rw [Dd.len_set]; omega, f3⟩
    · go_wp2
      have hW6 := (hR.gr ((Gr.refl [] W5).drewN nq) (by simp)).set_ hrl (show 2 < 6 by omega) (⟨d.kind, d.ticket, wrap64 (d.value + 1), d.act⟩) (.int .i64 (wrap64 (d.value + 1))) (by rw [← HD.out]; rfl)
      obtain ⟨f1, f2, f3⟩ := bad_fin (w := w) (p := w.heap.size + 1) (m := l.set r (⟨d.kind, d.ticket, wrap64 (d.value + 1), d.act⟩)) ((hD1.drewN nq).far (p := ⟨g, r * 6 + 2, none⟩) (by simp; omega) (.int .i64 (wrap64 (d.value + 1)))) hW6.sl ((hgrW.drewN nq).setCell (p := ⟨g, r * 6 + 2, none⟩) (.inr (by simp; omega)) (.int .i64 (wrap64 (d.value + 1)))) (by omega) (.slice (some ⟨g, 0, none⟩) l.length c2) (.int .i64 T)
      exact bodyPost_ret (results_cell_row rfl _ _ _ _ _ _ _ rfl f1 Try.underlying26 rfl (by kernel_rfl)) rfl ⟨l.set r (⟨d.kind, d.ticket, wrap64 (d.value + 1), d.act⟩), _, c2, _, by rw [Dd.len_set], ⟨_, f2⟩, by rw [Dd.len_set]; exact hcap, wfl_set hw r _ (by rw [HD.out]; exact (hw _ (List.getElem_mem hrl)).1) (wf64_wrap _), by rw [Dd.len_set]; omega, f3⟩
    · go_wp2
      have hW6 := (hR.gr ((Gr.refl [] W5).drewN nq) (by simp)).set_ hrl (show 4 < 6 by omega) (⟨d.kind, d.ticket, d.value, ⟨d.act.ask, wrap64 (d.act.value + 1), d.act.answer⟩⟩) (.int .i64 (wrap64 (d.act.value + 1))) (by rw [← HD.out]; rfl)
      obtain ⟨f1, f2, f3⟩ := bad_fin (w := w) (p := w.heap.size + 1) (m := l.set r (⟨d.kind, d.ticket, d.value, ⟨d.act.ask, wrap64 (d.act.value + 1), d.act.answer⟩⟩)) ((hD1.drewN nq).far (p := ⟨g, r * 6 + 4, none⟩) (by simp; omega) (.int .i64 (wrap64 (d.act.value + 1)))) hW6.sl ((hgrW.drewN nq).setCell (p := ⟨g, r * 6 + 4, none⟩) (.inr (by simp; omega)) (.int .i64 (wrap64 (d.act.value + 1)))) (by omega) (.slice (some ⟨g, 0, none⟩) l.length c2) (.int .i64 T)
      exact bodyPost_ret (results_cell_row rfl _ _ _ _ _ _ _ rfl f1 Try.underlying26 rfl (by kernel_rfl)) rfl ⟨l.set r (⟨d.kind, d.ticket, d.value, ⟨d.act.ask, wrap64 (d.act.value + 1), d.act.answer⟩⟩), _, c2, _, by rw [Dd.len_set], ⟨_, f2⟩, by rw [Dd.len_set]; exact hcap, wfl_set hw r _ (by rw [HD.out]; exact (hw _ (List.getElem_mem hrl)).1) (by rw [HD.out]; exact (hw _ (List.getElem_mem hrl)).2), by rw [Dd.len_set]; omega, f3⟩
    · go_wp2
      have hg6 := (Gr.refl [w.heap.size] (W5.drewN nq)).setCell (p := ⟨w.heap.size, 1, none⟩) (.inl (by simp)) (.int .i64 (wrap64 (T + 1)))
      obtain ⟨f1, f2, f3⟩ := bad_fin (w := w) (p := w.heap.size + 1) (m := l) ((hD1.drewN nq).gr hg6 (by simp)) ((hR.gr ((Gr.refl [] W5).drewN nq) (by simp)).gr hg6 (by simp; omega)).sl ((hgrW.drewN nq).trans_new hg6 (by intro x hx; right; simp at hx; omega)) (by omega) (.slice (some ⟨g, 0, none⟩) l.length c2) (.int .i64 (wrap64 (T + 1)))
      exact bodyPost_ret (results_cell_row rfl _ _ _ _ _ _ _ rfl f1 Try.underlying26 rfl (by kernel_rfl)) rfl ⟨l, _, c2, _, rfl, ⟨_, f2⟩, hcap, hw, by omega, f3⟩
    · go_wp2_with fail
      have W6c : ∃ W6, W6 = W5.drewN nq := ⟨_, rfl⟩
      obtain ⟨W6, hW6⟩ := W6c
      have hR6 : Rw6 W6 g l := by rw [hW6]; exact hR.gr ((Gr.refl [] W5).drewN nq) (by simp)
      have hD06 : Bk W6 w.heap.size 26 #[.slice (some ⟨g, 0, none⟩) l.length c2, .int .i64 T] := by rw [hW6]; exact hD0.drewN nq
      have hD16 : Bk W6 (w.heap.size + 1) 26 #[.slice none 0 0, .int .i64 0] := by rw [hW6]; exact hD1.drewN nq
      have hgr6 : Gr [] w W6 := by rw [hW6]; exact hgrW.drewN nq
      have hown6 : W6.ownsRow (w.heap.size + 1 + 1) 32 6 (.slice (some ⟨g, 0, none⟩) l.length c2) l.length (dcells l) := by rw [hW6]; exact own_gr0 hownW ((Gr.refl [] W5).drewN nq)
      rw [← hW6]
      clear hW6 hR hD0 hD1 hgrW hownW x0 x1 y0 y1 hf0 hf1 hy0 hy1 c0 c1 c2' c3 c4 c5 hz0'' hz1' hz2' hz4'
      obtain ⟨x0, x1⟩ := hD06.cells2
      obtain ⟨c0, c1, c2', c3, c4, c5, hfz⟩ := hR6.cells hrl
      rw [← HD.out] at c0 c1 c2' c3 c4 c5
      clear hfz
      have xA := (hD06.alloc (.cells #[.int .i64 d.kind, .int .i64 d.ticket, .int .i64 d.value, .bool d.act.ask, .int .i64 d.act.value, .int .i64 d.act.answer] 32)).drew.cell 0
      have hDn := bk_ds (Bk.new W6 32 #[.int .i64 d.kind, .int .i64 d.ticket, .int .i64 d.value, .bool d.act.ask, .int .i64 d.act.value, .int .i64 d.act.answer])
      go_region_law (first | (refine step_app rfl (.tmp 78) (.tmp 88) 24 rfl (w.heap.size + 1 + 1) 32 i0 _ 6 48 Try.underlying24 hi0 hz0 hz1 hz2 rfl (by decide) (by decide) _ l.length c2 _ rfl (own_gr0 hown6 (by repeat' (first | exact Gr.refl _ _ | refine Gr.alloc ?_ _ | refine Gr.drew ?_))) _ 1 1 _ rfl (hDn.gr0 (by repeat' (first | exact Gr.refl _ _ | refine Gr.alloc ?_ _ | refine Gr.drew ?_))) (dcells_one _) (by omega) (by have := hD16.lt; simp; omega) ?_; intro A7 c7 w7 hown7 happ7; have hE0 := happ7.bk (hD06.gr0 (by repeat' (first | exact Gr.refl _ _ | refine Gr.alloc ?_ _ | refine Gr.drew ?_))) (by decide); have hE1 := happ7.bk (hD16.gr0 (by repeat' (first | exact Gr.refl _ _ | refine Gr.alloc ?_ _ | refine Gr.drew ?_))) (by decide); have hgr7 : Gr [] w w7 := happ7.gr [] w (by omega) (hgr6.trans (by repeat' (first | exact Gr.refl _ _ | refine Gr.alloc ?_ _ | refine Gr.drew ?_))); obtain ⟨v0, v1⟩ := hE0.cells2; have hf0 := hE0.frozen 0) | (go_simp; go_at_call 9; refine (HM.out _).mono ?_; rintro e w' ⟨rfl, rfl⟩))
      all_goals
        obtain ⟨y0, y1⟩ := hE1.cells2
        have hy0 := hE1.frozen 0
        have hy1 := hE1.frozen 1
        have hgx := (Gr.refl [w.heap.size] w7).setCell (p := ⟨w.heap.size, 0, none⟩) (.inl (by simp)) (.slice A7 (l.length + 1) c7)
        go_wp2
        obtain ⟨f1, f2, f3⟩ := bad_fin (w := w) (p := w.heap.size + 1) (m := l ++ [d]) (hE1.gr hgx (by simp)) (by rw [dcells_append]; exact Sl.gr1 (Sl.of_own hown7) hE0 (by decide) hgx) (hgr7.trans_new hgx (by intro x hx; right; simp at hx; omega)) (by omega) (.slice A7 (l.length + 1) c7) (.int .i64 T)
        exact bodyPost_ret (results_cell_row rfl _ _ _ _ _ _ _ rfl f1 Try.underlying26 rfl (by kernel_rfl)) rfl ⟨l ++ [d], _, c7, _, by rw [List.length_append]; rfl, ⟨_, by rw [List.length_append]; exact f2⟩, by rw [List.length_append]; exact own_cap hown7, wfl_snoc hw d (by rw [HD.out]; exact (hw _ (List.getElem_mem hrl)).1) (by rw [HD.out]; exact (hw _ (List.getElem_mem hrl)).2), by rw [List.length_append]; simp; omega, f3⟩
    · go_wp2
      obtain ⟨f1, f2, f3⟩ := bad_fin (w := w) (p := w.heap.size + 1) (m := l) (hD1.drewN nq) (hR.gr ((Gr.refl [] W5).drewN nq) (by simp)).sl (hgrW.drewN nq) (by omega) (.slice (some ⟨g, 0, none⟩) l.length c2) (.int .i64 T)
      exact bodyPost_ret (results_cell_row rfl _ _ _ _ _ _ _ rfl f1 Try.underlying26 rfl (by kernel_rfl)) rfl ⟨l, _, c2, _, rfl, ⟨_, f2⟩, hcap, hw, by omega, f3⟩
end Go.Proofs.Ytpbelnbknnhgnaa
