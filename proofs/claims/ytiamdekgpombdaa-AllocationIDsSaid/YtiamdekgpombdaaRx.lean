/- The heap's functions: index, Get. -/
import Derived.Test.YtiamdekgpombdaaRw
import Derived.WalkMore
namespace Go.Proofs.Ytiamdekgpombdaa
open Go.RowKit

set_option maxHeartbeats 400000 in
theorem index_any (A : Option Addr) (c : Nat) (l : List Rw) (id : Int) (w : World) (h : Os w A l) (hn : l.length ≤ 1000000) :
    Calls Try.prog 16 #[.agg #[.slice A l.length c], .int .i64 id] w fun e w' => e = .returned (.int .i64 (hidx (obs l) id)) ∧ Gr [] w w' := by
  have HL := Lib.hid (show hidx (obs l) id = ixFrom (fun r : Rw => r.o.id == id) l 0 by unfold hidx obs; exact ixFrom_map _ _ _ _ _ fun _ _ => rfl)
  generalize hL : l.length = n at *
  have hb1 : Bk (w.alloc (.cells #[.slice A n c] 42)) w.heap.size 42 #[.slice A n c] := Bk.new w _ _
  have h0 : (w.alloc (.cells #[.slice A n c] 42)).cell? ⟨w.heap.size, 0, none⟩ = some (.slice A n c) := hb1.cell 0
  go_enter Try.func16, Try.ntmps16
  go_wp2
  go_step3
  go_wp2
  go_step3
  go_wp2
  go_loopw [5, 11] (fun f i w' => ∃ k : Nat, k ≤ n ∧ f = .int .i64 (-1) ∧ i = .int .i64 k ∧ hidx (obs l) id = ixFrom (fun r : Rw => r.o.id == id) (l.drop k) k ∧ Gr [] w w') (fun _ i _ => n - (intOf i).toNat)
  case atStart => exact ⟨0, Nat.zero_le _, rfl, rfl, HL.out, (Gr.refl _ _).alloc _⟩
  case round =>
    obtain ⟨k, hk, rfl, rfl, hix, hgr⟩ := hrel
    have HI := Lib.hid hix
    clear hix
    by_cases hlt : k < n
    · have hkl : k < l.length := by omega
      obtain ⟨b, off, rfl, hc0, hc1⟩ := (h.gr0 hgr).at_ hkl
      by_cases hv : l[k].o.id = id
      · have hv' : (l[k].o.id == id) = true := by simp [hv]
        clear hv
        go_wp2
        try rw [Exit.noGoto_ret]
        go_ret
        exact ⟨ret_int (by rw [HI.out, ixFrom_hit _ _ _ _ (by omega) hv']), hgr.alloc _⟩
      · have hv' : (l[k].o.id == id) = false := by simp [hv]
        go_wp2
        go_roundw
        case rel => exact ⟨k + 1, by omega, rfl, by go_num, by rw [HI.out, ixFrom_miss _ _ _ _ (by omega) hv'], hgr.alloc _⟩
        case measure => simp [intOf]; omega
    · go_wp2
      try rw [Exit.noGoto_ret]
      go_ret
      exact ⟨ret_int (by rw [HI.out, ixFrom_end _ _ _ _ (by omega)]), hgr⟩

theorem hget_idx (h : List Ob) (id : Int) : (hidx h id < 0 ∧ hget h id = none) ∨ ∃ k, ∃ hk : k < h.length, hidx h id = (k : Nat) ∧ hget h id = some h[k] := by
  suffices H : ∀ j : Nat, (ixFrom (fun o : Ob => o.id == id) h j < 0 ∧ hget h id = none) ∨ ∃ k, ∃ hk : k < h.length, ixFrom (fun o : Ob => o.id == id) h j = (j + k : Nat) ∧ hget h id = some h[k] by
    rcases H 0 with h1 | ⟨k, hk, h1, h2⟩
    · exact .inl h1
    · exact .inr ⟨k, hk, by unfold hidx; rw [h1]; simp, h2⟩
  induction h with
  | nil => intro j; left; simp [ixFrom, hget]
  | cons o l ih =>
    intro j
    by_cases hp : o.id = id
    · right
      exact ⟨0, by simp, by simp [ixFrom, hp], by simp [hget, hp]⟩
    · have e1 : ixFrom (fun o : Ob => o.id == id) (o :: l) j = ixFrom (fun o : Ob => o.id == id) l (j + 1) := by simp [ixFrom, hp]
      have e2 : hget (o :: l) id = hget l id := by simp [hget, hp]
      rw [e1, e2]
      rcases ih (j + 1) with h1 | ⟨k, hk, h1, h2⟩
      · exact .inl h1
      · exact .inr ⟨k + 1, by simpa using hk, by rw [h1]; congr 1; omega, by simpa using h2⟩

set_option maxHeartbeats 400000 in
theorem get_any (A : Option Addr) (c : Nat) (l : List Rw) (id : Int) (w : World) (h : Os w A l) (hr : Rok w l) (hn : l.length ≤ 1000000) :
    Calls Try.prog 14 #[.agg #[.slice A l.length c], .int .i64 id] w fun e w' =>
      (hget (obs l) id = none ∧ e = .returned (.tuple #[.agg #[.int .i64 0, .slice none 0 0], .bool false]) ∧ Gr [] w w') ∨
      ∃ (o : Ob) (A' : Option Addr) (c' : Nat), hget (obs l) id = some o ∧ e = .returned (.tuple #[.agg #[.int .i64 o.id, .slice A' o.fs.length c'], .bool true]) ∧ Vs w' A' o.fs ∧ VW o.fs ∧ o.fs.length ≤ 1000000 ∧ wf64 o.id ∧ Gr [] w w' := by
  have hb1 : Bk (w.alloc (.cells #[.slice A l.length c] 42)) w.heap.size 42 #[.slice A l.length c] := Bk.new w _ _
  have hb1' := hb1.alloc (.cells #[.int .i64 0, .slice none 0 0] 39)
  have hb2 : Bk ((w.alloc (.cells #[.slice A l.length c] 42)).alloc (.cells #[.int .i64 0, .slice none 0 0] 39)) (w.heap.size + 1) 39 #[.int .i64 0, .slice none 0 0] := by simpa using Bk.new (w.alloc (.cells #[.slice A l.length c] 42)) 39 #[.int .i64 0, .slice none 0 0]
  have h0 := hb1'.cell 0
  rcases hget_idx (obs l) id with ⟨hi, hg⟩ | ⟨k, hk, hi, hg⟩
  · go_enter Try.func14, Try.ntmps14
    go_wp2_with (go_at_call 16; refine (index_any A c l id _ ((h.alloc _).alloc _) hn).mono ?_; rintro e w1 ⟨rfl, hg1⟩; have hb3 := hb2.gr hg1 (by simp); have hb4 := hb1'.gr hg1 (by simp); have hx := hb4.cell 0; obtain ⟨hy0, hy1⟩ := hb3.cells2; have hf0 := hb3.frozen 0; have hf1 := hb3.frozen 1)
    have hb5 := (hb3.set_ 0 (.int .i64 0)).set_ 1 (.slice none 0 0)
    refine bodyPost_ret (v := .tuple #[.agg #[.int .i64 0, .slice none 0 0], .bool false]) (results_cell_tmp_row (p := 4) (u := 5) rfl _ _ _ _ _ _ _ rfl hb5 Try.underlying39 rfl (by kernel_rfl)) rfl (.inl ⟨hg, rfl, ?_⟩)
    exact (((((Gr.refl [] w).alloc _).alloc _).trans hg1).setCell (.inr (by simp)) _).setCell (.inr (by simp)) _
  · have hkl : k < l.length := by simpa [obs] using hk
    obtain ⟨b, off, rfl, hc0, hc1⟩ := h.at_ hkl
    obtain ⟨hr1, hr2, hr3, hr4⟩ := hr l[k] (List.getElem_mem hkl)
    have ho : (obs l)[k] = l[k].o := by simp [obs]
    rw [ho] at hg
    clear ho
    obtain ⟨⟨oid, ofs⟩, hO⟩ : ∃ o, l[k].o = o := ⟨_, rfl⟩
    rw [hO] at hr1 hr2 hr3 hr4 hg hc0 hc1
    generalize l[k].A = rA at *
    generalize l[k].c = rc at *
    have HX := Lib.hid hi
    clear hi
    have hc0' := cell_alloc (cell_alloc hc0 (.cells #[.slice (some ⟨b, off, none⟩) l.length c] 42)) (.cells #[.int .i64 0, .slice none 0 0] 39)
    have hc1' := cell_alloc (cell_alloc hc1 (.cells #[.slice (some ⟨b, off, none⟩) l.length c] 42)) (.cells #[.int .i64 0, .slice none 0 0] 39)
    simp only at hr1 hr2 hr3 hr4 hc0' hc1'
    go_enter Try.func14, Try.ntmps14
    go_wp2_with (first | (go_at_call 16; refine (index_any _ c l id _ ((h.alloc _).alloc _) hn).mono ?_; rintro e w1 ⟨rfl, hg1⟩; rw [HX.out]; have hb4 := hb1'.gr hg1 (by simp); have hx := hb4.cell 0; have hz0 := hg1.cell hc0' (by simp); have hz1 := hg1.cell hc1' (by simp)) | (go_at_call 17; refine (copied_any ⟨oid, ofs⟩ rA rc _ (((hr1.alloc _).alloc _).gr0 hg1) hr3).mono ?_; rintro e w2 ⟨A2, c2, rfl, hv2, hg2⟩; have hb3 := hb2.gr (hg1.trans hg2) (by simp); obtain ⟨hy0, hy1⟩ := hb3.cells2; have hf0 := hb3.frozen 0; have hf1 := hb3.frozen 1))
    have hb5 := (hb3.set_ 0 (.int .i64 oid)).set_ 1 (.slice A2 ofs.length c2)
    refine bodyPost_ret (v := .tuple #[.agg #[.int .i64 oid, .slice A2 ofs.length c2], .bool true]) (results_cell_tmp_row (p := 4) (u := 5) rfl _ _ _ _ _ _ _ rfl hb5 Try.underlying39 rfl (by kernel_rfl)) rfl (.inr ⟨⟨oid, ofs⟩, A2, c2, hg, rfl, ?_, hr2, hr3, hr4, ?_⟩)
    · exact Sl.gr1 hv2 hb3 (by decide) (((Gr.refl [w.heap.size + 1] w2).setCell (.inl (by simp)) _).setCell (.inl (by simp)) _)
    · exact ((((((Gr.refl [] w).alloc _).alloc _).trans hg1).trans hg2).setCell (.inr (by simp)) _).setCell (.inr (by simp)) _

theorem get_none (A : Option Addr) (c : Nat) (l : List Rw) (id : Int) (w : World) (h : Os w A l) (hr : Rok w l) (hn : l.length ≤ 1000000) (hg : hget (obs l) id = none) :
    Calls Try.prog 14 #[.agg #[.slice A l.length c], .int .i64 id] w fun e w' => e = .returned (.tuple #[.agg #[.int .i64 0, .slice none 0 0], .bool false]) ∧ Gr [] w w' := by
  refine (get_any A c l id w h hr hn).mono ?_
  rintro e w' (⟨_, h2, h3⟩ | ⟨o, A', c', h1, _⟩)
  · exact ⟨h2, h3⟩
  · rw [hg] at h1; cases h1
theorem get_some (A : Option Addr) (c : Nat) (l : List Rw) (id : Int) (w : World) (h : Os w A l) (hr : Rok w l) (hn : l.length ≤ 1000000) {oid : Int} {ofs : List Vl} (hg : hget (obs l) id = some ⟨oid, ofs⟩) :
    Calls Try.prog 14 #[.agg #[.slice A l.length c], .int .i64 id] w fun e w' => ∃ (A' : Option Addr) (c' : Nat), e = .returned (.tuple #[.agg #[.int .i64 oid, .slice A' ofs.length c'], .bool true]) ∧ Vs w' A' ofs ∧ VW ofs ∧ ofs.length ≤ 1000000 ∧ wf64 oid ∧ Gr [] w w' := by
  refine (get_any A c l id w h hr hn).mono ?_
  rintro e w' (⟨h1, _⟩ | ⟨o, A', c', h1, h2⟩)
  · rw [hg] at h1; cases h1
  · rw [hg] at h1; injection h1 with h1; subst h1; exact ⟨A', c', h2⟩
end Go.Proofs.Ytiamdekgpombdaa
