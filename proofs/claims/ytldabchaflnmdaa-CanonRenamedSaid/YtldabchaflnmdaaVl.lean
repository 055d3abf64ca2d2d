/- A value out of the dice. -/
import Derived.Test.YtldabchaflnmdaaNm
namespace Go.Proofs.Ytldabchaflnmdaa
open Go.RowKit

theorem Gr.of_g {g : Nat} {a w w' : World} (h : Gr [g] a w) {p : Addr} (hp : a.heap.size ≤ p.block) (u : Value) : Gr [g] a (w.setCell p u) := h.setCell (.inr hp) u

set_option maxHeartbeats 1000000 in
theorem value_any (B g : Nat) (w : World) (hd : Dice w B g) (hB : B ≤ w.heap.size) :
    Calls Try.prog 9 #[.pointer (some ⟨g, 0, none⟩)] w fun e w' => ∃ v : Vl, e = .returned (.agg #[.bool v.r, .int .i64 v.n]) ∧ VOk v ∧ Dice w' B g ∧ Gr [g] w w' := by
  have hgB := hd.ltB
  have hd1 := hd.gr0 ((Gr.refl [] w).alloc (.cells #[.bool false, .int .i64 0] 31))
  have hb1 : Bk (w.alloc (.cells #[.bool false, .int .i64 0] 31)) w.heap.size 31 #[.bool false, .int .i64 0] := Bk.new w _ _
  have hgr1 : Gr [g] w (w.alloc (.cells #[.bool false, .int .i64 0] 31)) := (Gr.refl [g] w).alloc _
  go_enter Try.func9, Try.ntmps9
  go_wp2_with fail
  go_at_call 18
  refine (pick_any B g 2 _ hd1 (by omega) (by omega)).mono ?_
  rintro e w1 ⟨r, rfl, hr0, hr1, hd2, hg2⟩
  have hb2 := hb1.gr hg2 (by simp; omega)
  have hgr2 := hgr1.trans hg2
  clear hd1 hb1 hgr1 hg2
  by_cases hr : r = 0
  · subst hr
    clear hr0 hr1
    go_wp2_with (go_at_call 18; refine (pick_any B g 7 _ hd2 (by omega) (by omega)).mono ?_; rintro e w2 ⟨s, rfl, hs0, hs1, hd3, hg3⟩; have hb3 := hb2.gr hg3 (by simp; omega); have hgr3 := hgr2.trans hg3; obtain ⟨hx0, hx1⟩ := hb3.cells2; have hf0 := hb3.frozen 0; have hf1 := hb3.frozen 1)
    have hb4 := (hb3.set_ 0 (.bool false)).set_ 1 (.int .i64 (s - 2))
    refine bodyPost_ret (results_cell_row rfl _ _ _ _ _ _ _ rfl hb4 Try.underlying31 rfl (by kernel_rfl)) rfl ⟨⟨false, s - 2⟩, rfl, ⟨by simp only; omega, by simp only; omega, by simp⟩, ?_, (hgr3.setCell (.inr (by simp)) _).setCell (.inr (by simp)) _⟩
    exact hd3.far (((Gr.refl [w.heap.size] w2).setCell (.inl (by simp)) _).setCell (.inl (by simp)) _) (by simpa using hB)
  · have hr : (r == 0) = false := by simp [hr]
    clear hr0 hr1
    go_wp2_with (go_at_call 18; refine (pick_any B g 12 _ hd2 (by omega) (by omega)).mono ?_; rintro e w2 ⟨s, rfl, hs0, hs1, hd3, hg3⟩; have hb3 := hb2.gr hg3 (by simp; omega); have hgr3 := hgr2.trans hg3; obtain ⟨hx0, hx1⟩ := hb3.cells2; have hf0 := hb3.frozen 0; have hf1 := hb3.frozen 1)
    have hb4 := (hb3.set_ 0 (.bool true)).set_ 1 (.int .i64 (s))
    refine bodyPost_ret (results_cell_row rfl _ _ _ _ _ _ _ rfl hb4 Try.underlying31 rfl (by kernel_rfl)) rfl ⟨⟨true, s⟩, rfl, ⟨by simp only; omega, by simp only; omega, fun _ => by simp only; omega⟩, ?_, (hgr3.setCell (.inr (by simp)) _).setCell (.inr (by simp)) _⟩
    exact hd3.far (((Gr.refl [w.heap.size] w2).setCell (.inl (by simp)) _).setCell (.inl (by simp)) _) (by simpa using hB)
end Go.Proofs.Ytldabchaflnmdaa
