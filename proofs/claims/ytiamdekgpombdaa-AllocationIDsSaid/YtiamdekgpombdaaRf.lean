/- The sanity check's heap: refs; the closure of Dangling. -/
import Derived.Test.YtiamdekgpombdaaId
import Derived.Maps.Own
import Derived.Maps.Views
import Derived.Carry
namespace Go.Proofs.Ytiamdekgpombdaa
open Go.RowKit Go.Maps

theorem Bk.gr0 {w w' : World} {g : Nat} {t : TypeId} {cs : Array Value} (h : Bk w g t cs) (hg : Gr [] w w') : Bk w' g t cs := h.gr hg (by simp)
def oneH (fA : Option Addr) (fc : Nat) : List Rw := [⟨⟨1, [⟨true, 9⟩]⟩, fA, fc⟩]
def D0 : DataW Unit := .map []
def D1 : DataW Unit := .map [(.int .i64 9, .lit (.bool true))]
def OwnS (w : World) (b n : Nat) (D : DataW Unit) : Prop := w.ownsMap Try.prog 2 (plainElem Try.prog 4) b n D
theorem D1_put : D0.put (.int .i64 9) (.lit (.bool true)) = D1 := by rfl

set_option maxHeartbeats 1000000 in
theorem closure_any (hA : Option Addr) (hc : Nat) (l : List Rw) (key : Int) (val : Value) (bx : Nat) (W : World) (hx : Bk W bx 42 #[.slice hA l.length hc]) (hO : Os W hA l) (hR : Rok W l) (hn : l.length ≤ 1000000) :
    Calls Try.prog 13 (#[.int .i64 key, val] ++ #[.pointer (some ⟨bx, 0, none⟩)]) W fun e w' => e = .returned (.bool (hget (obs l) key).isSome) ∧ Gr [] W w' := by
  have hx0 := hx.cell 0
  go_enter Try.func13, Try.ntmps13
  go_wp2_with fail
  go_at_call 14
  refine (get_any hA hc l key W hO hR hn).mono ?_
  rintro e w1 (⟨hg, rfl, hg1⟩ | ⟨o, A1, c1, hg, rfl, hv1, _, _, _, hg1⟩)
  · have HG := Lib.hid hg
    clear hg
    go_wp2
    go_ret
    exact ⟨ret_bool (by rw [HG.out]; rfl), hg1.alloc _⟩
  · have HG := Lib.hid hg
    clear hg
    go_wp2
    go_ret
    exact ⟨ret_bool (by rw [HG.out]; rfl), hg1.alloc _⟩

set_option maxHeartbeats 2000000 in
theorem refs_one (b off fc hc : Nat) (fA : Option Addr) (w : World) (hO : Os w (some ⟨b, off, none⟩) (oneH fA fc)) (hR : Rok w (oneH fA fc)) :
    Calls Try.prog 11 #[.agg #[.slice (some ⟨b, off, none⟩) 1 hc]] w fun e w' => ∃ M n, e = .returned (.map (some M)) ∧ w.heap.size ≤ M ∧ n ≤ 10 ∧ OwnS w' M n D1 ∧ Gr [] w w' := by
  have hmm := @run_makeMap Try.prog
  obtain ⟨hr1, _, _, _⟩ := hR _ (List.mem_singleton.2 rfl)
  obtain ⟨b1, off1, hA1, hc0, hc1⟩ := hO.at_ (k := 0) (by simp [oneH])
  injection hA1 with hA1
  injection hA1 with e1 e2 _
  subst e1; subst e2
  obtain ⟨b2, off2, hA2, hp0, hp1⟩ := hr1.at_ (k := 0) (by simp)
  simp only at hA2
  subst hA2
  simp only [oneH, List.getElem_cons_zero, Nat.zero_mul, Nat.add_zero, List.length_cons, List.length_nil, Nat.zero_add] at hc0 hc1 hp0 hp1
  have hG1 := ((Gr.refl [] w).alloc (.cells #[.slice (some ⟨b, off, none⟩) 1 hc] 42)).alloc (.map #[] 0)
  have hBx := (Bk.new w 42 #[.slice (some ⟨b, off, none⟩) 1 hc]).alloc (.map #[] 0)
  have hb0 := hBx.cell 0
  have hM0 : OwnS ((w.alloc (.cells #[.slice (some ⟨b, off, none⟩) 1 hc] 42)).alloc (.map #[] 0)) (w.heap.size + 1) 0 D0 := by unfold OwnS D0; simpa using World.ownsMap_made (w.alloc (.cells #[.slice (some ⟨b, off, none⟩) 1 hc] 42)) Try.prog 2 (plainElem Try.prog 4)
  go_enter Try.func11, Try.ntmps11
  go_wp2_with fail
  go_loopw [12] (fun i w' => (i = .int .i64 0 ∧ OwnS w' (w.heap.size + 1) 0 D0 ∧ Gr [] w w' ∧ w.heap.size + 1 < w'.heap.size) ∨ (i = .int .i64 1 ∧ OwnS w' (w.heap.size + 1) 1 D1 ∧ Gr [] w w')) (fun i _ => 1 - (intOf i).toNat)
  case atStart => exact .inl ⟨rfl, hM0, hG1, hM0.lt⟩
  case round =>
    rcases hrel with ⟨rfl, hM, hg, hlt⟩ | ⟨rfl, hM, hg⟩
    · have hc0' := hg.cell hc0 (by simp)
      have hc1' := hg.cell hc1 (by simp)
      have hO1 := Bk.new wr 39 #[.int .i64 1, .slice (some ⟨b2, off2, none⟩) 1 fc]
      obtain ⟨hq0, hq1⟩ := hO1.cells2
      have hgA := hg.alloc (.cells #[.int .i64 1, .slice (some ⟨b2, off2, none⟩) 1 fc] 39)
      have hMA : OwnS (wr.alloc (.cells #[.int .i64 1, .slice (some ⟨b2, off2, none⟩) 1 fc] 39)) (w.heap.size + 1) 0 D0 := World.ownsMap.alloc hM _
      go_wp2_with fail
      generalize wr.alloc (.cells #[.int .i64 1, .slice (some ⟨b2, off2, none⟩) 1 fc] 39) = wo at *
      generalize wr.heap.size = po at *
      go_loopw [19] (fun i w' => (i = .int .i64 0 ∧ w' = wo) ∨ (i = .int .i64 1 ∧ OwnS w' (w.heap.size + 1) 1 D1 ∧ Gr [] w w')) (fun i _ => 1 - (intOf i).toNat)
      case atStart => exact .inl ⟨rfl, rfl⟩
      case round =>
        rcases hrel with ⟨rfl, rfl⟩ | ⟨rfl, hM2, hg2⟩
        · have hp0' := hgA.cell hp0 (by simp)
          have hp1' := hgA.cell hp1 (by simp)
          have hM3 : OwnS (wr.alloc (.cells #[.bool true, .int .i64 9] 36)) (w.heap.size + 1) 0 D0 := World.ownsMap.alloc hMA _
          obtain ⟨w4, hrun, hM4, hg4⟩ := World.ownsMap.update hM3 (int_keyed Try.underlying2) Try.underlying45 (by decide) (keyOf_int_mk Try.underlying2 (a := 9) rfl) (plainElem_bool Try.underlying4 true)
          go_wp2
          go_roundw
          case rel => exact .inr ⟨rfl, hM4, (hgA.alloc _).grown hg4 (fun k hk => by injection hk with hk; subst hk; exact .inr (by simp))⟩
          case measure => simp [intOf]
        · go_wp2
          go_roundw
          case rel => exact .inr ⟨rfl, hM2, hg2⟩
          case measure => simp [intOf]
    · go_wp2
      go_ret
      exact ⟨_, 1, rfl, by omega, by omega, hM, hg⟩
end Go.Proofs.Ytiamdekgpombdaa
