/- One deed more: and, with. -/
import Derived.Test.YtpbelnbknnhgnaaDc
import Derived.Deep.RegionHeld3
import Derived.Deep.RegionLaw
import Derived.Deep.CutBlock
import Derived.Deep.DeepCutAuto
namespace Go.Proofs.Ytpbelnbknnhgnaa
open Go.RowKit

theorem bk_ds {w : World} {g : Nat} {d : Dd} (h : Bk w g 32 #[.int .i64 d.kind, .int .i64 d.ticket, .int .i64 d.value, .bool d.act.ask, .int .i64 d.act.value, .int .i64 d.act.answer]) : Sl w 32 6 (some ⟨g, 0, none⟩) 1 (dcells [d]) :=
  ⟨rfl, fun _ => ⟨g, 0, _, _, rfl, h, fun j u hu => by simpa [dcells, Dd.E] using hu⟩⟩
theorem own_le {w : World} {base base' : Nat} {e : TypeId} {size : Nat} {v : Value} {n : Nat} {xs : List Value} (h : w.ownsRow base' e size v n xs) (hb : base ≤ base') : w.ownsRow base e size v n xs := by
  refine ⟨h.1, ?_⟩
  rcases h.2 with h0 | ⟨g, cap, cur, h1, h2, h3⟩
  · exact .inl h0
  · exact .inr ⟨g, cap, cur, h1, Nat.le_trans hb h2, h3⟩
theorem Bk.gr0 {w w' : World} {g : Nat} {t : TypeId} {cs : Array Value} (h : Bk w g t cs) (hg : Gr [] w w') : Bk w' g t cs := h.gr hg (by simp)
theorem bk_last {W w1 : World} {t : TypeId} {cs : Array Value} {p : Nat} (hg : Gr [] (W.alloc (.cells cs t)) w1) (hs : W.heap.size = p) : Bk w1 p t cs := by
  subst hs; exact (Bk.new W t cs).gr hg (by simp)
theorem own_cap {w : World} {base : Nat} {e : TypeId} {size : Nat} {A : Option Addr} {n c : Nat} {xs : List Value} (h : w.ownsRow base e size (.slice A n c) n xs) : n ≤ c := by
  rcases h.2 with ⟨hv, h0⟩ | ⟨g, cap, cur, hv, _, _, hc, _⟩
  · omega
  · injection hv with _ _ hv
    omega

set_option maxHeartbeats 1000000 in
theorem and_any (A : Option Addr) (c : Nat) (l : List Dd) (T dk dt dv : Int) (da : Bool) (db dc : Int) (w : World) (h : Ds w A l) (hn : l.length ≤ 999999) :
    Calls Try.prog 35 #[.agg #[.slice A l.length c, .int .i64 T], .agg #[.int .i64 dk, .int .i64 dt, .int .i64 dv, .bool da, .int .i64 db, .int .i64 dc]] w fun e w' => ∃ (A' : Option Addr) (c' : Nat),
      e = .returned (.agg #[.slice A' (l.length + 1) c', .int .i64 T]) ∧ l.length + 1 ≤ c' ∧ Sl w' 32 6 A' (l.length + 1) (dcells (l ++ [⟨dk, dt, dv, ⟨da, db, dc⟩⟩])) ∧ Gr [] w w' := by
  obtain ⟨i0, hi0, hz0, hz1, hz2⟩ := info_parts Try.infoDd
  have hG : Gr [] w (((w.alloc (.cells #[.slice A l.length c, .int .i64 T] 26)).alloc (.cells #[.int .i64 dk, .int .i64 dt, .int .i64 dv, .bool da, .int .i64 db, .int .i64 dc] 32)).alloc (.cells #[.slice none 0 0, .int .i64 0] 26)) := (((Gr.refl [] w).alloc _).alloc _).alloc _
  have hA0 : Bk (((w.alloc (.cells #[.slice A l.length c, .int .i64 T] 26)).alloc (.cells #[.int .i64 dk, .int .i64 dt, .int .i64 dv, .bool da, .int .i64 db, .int .i64 dc] 32)).alloc (.cells #[.slice none 0 0, .int .i64 0] 26)) w.heap.size 26 #[.slice A l.length c, .int .i64 T] := ((Bk.new w _ _).alloc _).alloc _
  have hA1 : Bk (((w.alloc (.cells #[.slice A l.length c, .int .i64 T] 26)).alloc (.cells #[.int .i64 dk, .int .i64 dt, .int .i64 dv, .bool da, .int .i64 db, .int .i64 dc] 32)).alloc (.cells #[.slice none 0 0, .int .i64 0] 26)) (w.heap.size + 1) 32 #[.int .i64 dk, .int .i64 dt, .int .i64 dv, .bool da, .int .i64 db, .int .i64 dc] := by simpa using (Bk.new (w.alloc (.cells #[.slice A l.length c, .int .i64 T] 26)) 32 #[.int .i64 dk, .int .i64 dt, .int .i64 dv, .bool da, .int .i64 db, .int .i64 dc]).alloc (.cells #[.slice none 0 0, .int .i64 0] 26)
  have hA2 : Bk (((w.alloc (.cells #[.slice A l.length c, .int .i64 T] 26)).alloc (.cells #[.int .i64 dk, .int .i64 dt, .int .i64 dv, .bool da, .int .i64 db, .int .i64 dc] 32)).alloc (.cells #[.slice none 0 0, .int .i64 0] 26)) (w.heap.size + 2) 26 #[.slice none 0 0, .int .i64 0] := by simpa using Bk.new ((w.alloc (.cells #[.slice A l.length c, .int .i64 T] 26)).alloc (.cells #[.int .i64 dk, .int .i64 dt, .int .i64 dv, .bool da, .int .i64 db, .int .i64 dc] 32)) 26 #[.slice none 0 0, .int .i64 0]
  go_enter Try.func35, Try.ntmps35
  go_wp2_with fail
  generalize (((w.alloc (.cells #[.slice A l.length c, .int .i64 T] 26)).alloc (.cells #[.int .i64 dk, .int .i64 dt, .int .i64 dv, .bool da, .int .i64 db, .int .i64 dc] 32)).alloc (.cells #[.slice none 0 0, .int .i64 0] 26)) = W at *
  have hg0 := hG.drew
  have hx0 := hA0.drew.cell 0
  have y0 := hA1.drew.cell 0
  have y1 := hA1.drew.cell 1
  have y2 := hA1.drew.cell 2
  have y3 := hA1.drew.cell 3
  have y4 := hA1.drew.cell 4
  have y5 := hA1.drew.cell 5
  have hlt1 := hA1.lt
  have hlt0 := hA2.lt
  go_upto_region 1 with fail
  go_cut [] (fun wx => ∃ (A' : Option Addr) (c' : Nat), Bk wx w.heap.size 26 #[.slice A' (l.length + 1) c', .int .i64 T] ∧ Bk wx (w.heap.size + 2) 26 #[.slice none 0 0, .int .i64 0] ∧ l.length + 1 ≤ c' ∧ Sl wx 32 6 A' (l.length + 1) (dcells (l ++ [⟨dk, dt, dv, ⟨da, db, dc⟩⟩])) ∧ Gr [] w wx)
  case first =>
    have HCl := Lib.hid (show ∀ w', Gr [] W w' → Calls Try.prog 45 #[.slice A l.length c] w' fun e w'' => ∃ (A' : Option Addr) (c' : Nat),
        e = .returned (.slice A' l.length c') ∧ w''.ownsRow W.heap.size 32 6 (.slice A' l.length c') l.length (dcells l) ∧ Gr [] w' w'' from fun w' hg => (clone_any A c l w' ((h.gr0 hG).gr0 hg) (by omega)).mono fun e w'' ⟨A', c', h1, h2, h3⟩ => ⟨A', c', h1, own_le h2 hg.size, h3⟩)
    have z0 := (hA0.alloc (.cells #[.int .i64 dk, .int .i64 dt, .int .i64 dv, .bool da, .int .i64 db, .int .i64 dc] 32)).drew.cell 0
    have z1 := (hA0.alloc (.cells #[.int .i64 dk, .int .i64 dt, .int .i64 dv, .bool da, .int .i64 db, .int .i64 dc] 32)).cell 0
    go_region_law (first | (refine step_app rfl (.tmp 7) (.tmp 9) 24 rfl W.heap.size 32 i0 _ 6 48 Try.underlying24 hi0 hz0 hz1 hz2 rfl (by decide) (by decide) A2 l.length c2 _ rfl hownA _ 1 1 _ rfl hslA (dcells_one _) (by omega) hbsA ?_; intro A3 c3 w3 hown3 happ3; have hgK := (hG.trans hgX).alloc (.cells #[.int .i64 dk, .int .i64 dt, .int .i64 dv, .bool da, .int .i64 db, .int .i64 dc] 32); have hB0_3 := happ3.bk hB0_A (by decide); have hB2_3 := happ3.bk hB2_A (by decide); have hf3 := hB0_3.frozen 0; have hx3 := hB0_3.cell 0) | (refine step_app rfl (.tmp 7) (.tmp 9) 24 rfl W.heap.size 32 i0 _ 6 48 Try.underlying24 hi0 hz0 hz1 hz2 rfl (by decide) (by decide) A2 l.length c2 _ rfl hownW _ 1 1 _ rfl hslB (dcells_one _) (by omega) hbsW ?_; intro A3 c3 w3 hown3 happ3; have hgK := hG.trans hgX; have hB0_3 := happ3.bk hB0_2 (by decide); have hB2_3 := happ3.bk hB2_2 (by decide); have hf3 := hB0_3.frozen 0; have hx3 := hB0_3.cell 0) | (go_simp; go_at_call 45; refine (HCl.out _ (by repeat' (first | exact Gr.refl _ _ | refine Gr.alloc ?_ _ | refine Gr.drew ?_))).mono ?_; rintro e w2 ⟨A2, c2, rfl, hownW, hg2⟩; have hgX : Gr [] W w2 := Gr.trans (by repeat' (first | exact Gr.refl _ _ | refine Gr.alloc ?_ _ | refine Gr.drew ?_)) hg2; have hB0_2 := hA0.gr0 hgX; have hB1_2 := hA1.gr0 hgX; have hB2_2 := hA2.gr0 hgX; have u0 := hB1_2.cell 0; have u1 := hB1_2.cell 1; have u2 := hB1_2.cell 2; have u3 := hB1_2.cell 3; have u4 := hB1_2.cell 4; have u5 := hB1_2.cell 5; have hB0_A := hB0_2.alloc (.cells #[.int .i64 dk, .int .i64 dt, .int .i64 dv, .bool da, .int .i64 db, .int .i64 dc] 32); have hB2_A := hB2_2.alloc (.cells #[.int .i64 dk, .int .i64 dt, .int .i64 dv, .bool da, .int .i64 db, .int .i64 dc] 32); have hownA := own_gr0 hownW ((Gr.refl [] w2).alloc (.cells #[.int .i64 dk, .int .i64 dt, .int .i64 dv, .bool da, .int .i64 db, .int .i64 dc] 32)); have hslA := bk_ds (d := ⟨dk, dt, dv, ⟨da, db, dc⟩⟩) (Bk.new w2 32 #[.int .i64 dk, .int .i64 dt, .int .i64 dv, .bool da, .int .i64 db, .int .i64 dc]); have hbsW := hgX.size; have hbsA := (hgX.alloc (.cells #[.int .i64 dk, .int .i64 dt, .int .i64 dv, .bool da, .int .i64 db, .int .i64 dc] 32)).size; try (have hslB := bk_ds (d := ⟨dk, dt, dv, ⟨da, db, dc⟩⟩) (bk_last (p := W.heap.size) ((Gr.refl [] (W.alloc (.cells #[.int .i64 dk, .int .i64 dt, .int .i64 dv, .bool da, .int .i64 db, .int .i64 dc] 32))).drew.trans hg2) rfl))))
    all_goals
      go_wp2
      go_meet
      have hGO := (Gr.refl [w.heap.size] w3).setCell (p := ⟨w.heap.size, 0, none⟩) (.inl (by simp)) (.slice A3 (l.length + 1) c3)
      refine ⟨A3, c3, hB0_3.set_ 0 _, hB2_3.gr hGO (by simp), own_cap hown3, ?_, ?_⟩
      · rw [dcells_append]
        exact Sl.gr1 (Sl.of_own hown3) hB0_3 (by decide) hGO
      · exact (happ3.gr [] w hG.size hgK).setCell (.inr (Nat.le_refl _)) _
  case rest =>
    obtain ⟨A3, c3, hC0, hC2, hcap, hsl, hgc⟩ := hcut
    obtain ⟨v0, v1⟩ := hC0.cells2
    obtain ⟨v2, v3⟩ := hC2.cells2
    have hf0 := hC2.frozen 0
    have hf1 := hC2.frozen 1
    go_wp2
    have hC4 := (hC2.set_ 0 (.slice A3 (l.length + 1) c3)).set_ 1 (.int .i64 T)
    refine bodyPost_ret (results_cell_row rfl _ _ _ _ _ _ _ rfl hC4 Try.underlying26 rfl (by kernel_rfl)) rfl ⟨A3, c3, rfl, hcap, ?_, ?_⟩
    · exact Sl.gr1 hsl hC2 (by decide) (((Gr.refl [w.heap.size + 2] wc).setCell (.inl (by simp)) _).setCell (.inl (by simp)) _)
    · exact (hgc.setCell (.inr (show w.heap.size ≤ w.heap.size + 2 by omega)) _).setCell (.inr (show w.heap.size ≤ w.heap.size + 2 by omega)) _
end Go.Proofs.Ytpbelnbknnhgnaa
