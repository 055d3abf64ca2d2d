/- The workers' small functions, walked: searches, copies. -/
import Derived.Test.YtllhlmlghkiojaaWk
import Derived.Test.YtllhlmlghkiojaaRows
namespace Go.Proofs.Ytllhlmlghkiojaa
open Go.RowKit

theorem ints_get (zs : List Int) {k : Nat} {u : Value} (h : (zs.map (Value.int .i64))[k]? = some u) : u = .int .i64 (zs.getD k 0) ∧ k < zs.length := by
  rw [List.getElem?_map] at h
  cases hz : zs[k]? with
  | none => rw [hz] at h; simp at h
  | some z => rw [hz] at h; simp at h; exact ⟨by rw [← h]; simp [List.getD, hz], (List.getElem?_eq_some_iff.1 hz).1⟩

set_option maxHeartbeats 400000 in
theorem index_any (A : Option Addr) (n c : Nat) (zs : List Int) (v : Int) (w : World) (h : Sl w 3 1 A n (zs.map (.int .i64))) (hn : n ≤ 1000000) :
    Calls Try.prog 41 #[.slice A n c, .int .i64 v] w fun e w' => e = .returned (.int .i64 (ixFrom (fun z => v == z) zs 0)) ∧ w = w' := by
  have hl : zs.length = n := by have := h.1; simpa using this
  go_enter Try.func41, Try.ntmps41
  go_wp2
  go_loop [8] (fun i => ∃ k : Nat, k ≤ n ∧ i = .int .i64 k ∧ ixFrom (fun z => v == z) zs 0 = ixFrom (fun z => v == z) (zs.drop k) k) (fun i => n - (intOf i).toNat)
  case atStart => exact ⟨0, Nat.zero_le _, rfl, rfl⟩
  case round =>
    obtain ⟨k, hk, rfl, hix⟩ := hrel
    have HI := Lib.hid hix
    clear hix
    by_cases hlt : k < n
    · obtain ⟨b, off, u, rfl, hu, hc⟩ := h.at_ hlt
      obtain ⟨rfl, _⟩ := ints_get zs hu
      have hg : zs.getD k 0 = zs[k] := by simp [List.getD, List.getElem?_eq_getElem (show k < zs.length by omega)]
      rw [hg] at hc
      clear hg hu h
      by_cases hv : v = zs[k]
      · have hv' : (v == zs[k]) = true := by simp [hv]
        clear hv
        go_wp2
        go_ret
        exact ⟨ret_int (by rw [HI.out, ixFrom_hit _ _ _ _ (by omega) hv']), rfl⟩
      · have hv' : (v == zs[k]) = false := by simp [hv]
        go_wp2
        go_round
        case rel => exact ⟨k + 1, by omega, by go_num, by rw [HI.out, ixFrom_miss _ _ _ _ (by omega) hv']⟩
        case measure => simp [intOf]; omega
    · go_wp2
      go_ret
      exact ⟨ret_int (by rw [HI.out, ixFrom_end _ _ _ _ (by omega)]), rfl⟩

set_option maxHeartbeats 400000 in
theorem contains_any (A : Option Addr) (n c : Nat) (zs : List Int) (v : Int) (w : World) (h : Sl w 3 1 A n (zs.map (.int .i64))) (hn : n ≤ 1000000) :
    Calls Try.prog 39 #[.slice A n c, .int .i64 v] w fun e w' => e = .returned (.bool (decide (v ∈ zs))) ∧ w = w' := by
  have hb := Lib.hid (show decide (0 ≤ ixFrom (fun z => v == z) zs 0) = decide (v ∈ zs) by
    rw [decide_eq_decide, ixFrom_nonneg]
    constructor
    · rintro ⟨x, hx, e⟩; simp at e; exact e ▸ hx
    · intro hv; exact ⟨v, hv, by simp⟩)
  go_enter Try.func39, Try.ntmps39
  go_wp2_with (go_at_call 41; refine (index_any A n c zs v _ h hn).mono ?_; rintro e w' ⟨rfl, rfl⟩)
  go_ret
  exact ⟨ret_bool hb.out, rfl⟩

theorem wk_at {w : World} {A : Option Addr} {n : Nat} {l : List Wk} (h : Sl w 30 3 A n (wcells l)) {k : Nat} (hk : k < l.length) :
    ∃ b off, A = some ⟨b, off, none⟩ ∧ w.cell? ⟨b, off + k * 3, none⟩ = some (.int .i64 l[k].s) ∧ w.cell? ⟨b, off + k * 3 + 1, none⟩ = some (.int .i64 l[k].r) ∧ w.cell? ⟨b, off + k * 3 + 2, none⟩ = some (.int .i64 l[k].b) := by
  have hl := h.1
  rw [wcells_length] at hl
  obtain ⟨b, off, hA, hc⟩ := h.cell (by omega)
  refine ⟨b, off, hA, ?_, ?_, ?_⟩
  · have := hc (k * 3 + 0) _ ((wcells_get l k 0 hk (by omega)).trans rfl); simpa [Nat.add_assoc] using this
  · have := hc (k * 3 + 1) _ ((wcells_get l k 1 hk (by omega)).trans rfl); simpa [Nat.add_assoc] using this
  · have := hc (k * 3 + 2) _ ((wcells_get l k 2 hk (by omega)).trans rfl); simpa [Nat.add_assoc] using this
theorem wk_len {w : World} {A : Option Addr} {n : Nat} {l : List Wk} (h : Sl w 30 3 A n (wcells l)) : l.length = n := by
  have hl := h.1
  rw [wcells_length] at hl
  omega

/-- The reference's search. -/
theorem rfind_any (A : Option Addr) (n c : Nat) (l : List Wk) (run : Int) (w : World) (h : Sl w 30 3 A n (wcells l)) (hn : n ≤ 1000000) :
    Calls Try.prog 19 #[.slice A n c, .int .i64 run] w fun e w' => e = .returned (.int .i64 (wfind l run)) ∧ Gr [] w w' := by
  have hl := wk_len h
  by_cases hr : run < 0
  · have hw : wfind l run = -1 := by simp [wfind, hr]
    have HW := Lib.hid hw
    clear hw
    go_enter Try.func19, Try.ntmps19
    go_wp2
    refine wp_loop_rounds 1 ?_
    rw [rounds_succ]
    by_cases h0 : 0 < n
    all_goals
      go_wp2
      go_ret
      exact ⟨ret_int HW.out.symm, Gr.refl _ _⟩
  · have hw : wfind l run = ixFrom (fun x => x.r == run) l 0 := by simp [wfind, hr]
    have HW := Lib.hid hw
    clear hw
    go_enter Try.func19, Try.ntmps19
    go_wp2
    go_loop [5] (fun i => ∃ k : Nat, k ≤ n ∧ i = .int .i64 k ∧ ixFrom (fun x => x.r == run) l 0 = ixFrom (fun x => x.r == run) (l.drop k) k) (fun i => n - (intOf i).toNat)
    case atStart => exact ⟨0, Nat.zero_le _, rfl, rfl⟩
    case round =>
      obtain ⟨k, hk, rfl, hix⟩ := hrel
      have HI := Lib.hid hix
      clear hix
      by_cases hlt : k < n
      · obtain ⟨b, off, rfl, _, hc, _⟩ := wk_at h (show k < l.length by omega)
        clear h
        by_cases hv : l[k].r = run
        · have hv' : (l[k].r == run) = true := by simp [hv]
          clear hv
          go_wp2
          go_ret
          exact ⟨ret_int (by rw [HW.out, HI.out, ixFrom_hit _ _ _ _ (by omega) hv']), Gr.refl _ _⟩
        · have hv' : (l[k].r == run) = false := by simp [hv]
          go_wp2
          go_round
          case rel => exact ⟨k + 1, by omega, by go_num, by rw [HI.out, ixFrom_miss _ _ _ _ (by omega) hv']⟩
          case measure => simp [intOf]; omega
      · go_wp2
        go_ret
        exact ⟨ret_int (by rw [HW.out, HI.out, ixFrom_end _ _ _ _ (by omega)]), Gr.refl _ _⟩
end Go.Proofs.Ytllhlmlghkiojaa
