/- The workers' functions: states, copies, changes. -/
import Derived.Test.YtllhlmlghkiojaaWa
namespace Go.Proofs.Ytllhlmlghkiojaa
open Go.RowKit

theorem getD_lt (l : List Wk) (k : Nat) (h : k < l.length) : l.getD k default = l[k] := by simp [List.getD, List.getElem?_eq_getElem h]

/-- The reference's 'is'. -/
theorem is_any (A : Option Addr) (n c : Nat) (l : List Wk) (i : Int) (B : Option Addr) (m d : Nat) (st : List Int) (w : World) (h : Sl w 30 3 A n (wcells l)) (_hn : n ≤ 1000000)
    (hs : Sl w 3 1 B m (st.map (.int .i64))) (hm : m ≤ 1000000) (hi1 : -9223372036854775808 ≤ i) (hi2 : i ≤ 9223372036854775807) :
    Calls Try.prog 36 #[.slice A n c, .int .i64 i, .slice B m d] w fun e w' => e = .returned (.int .i64 (wis l i st)) ∧ Gr [] w w' := by
  have hl := wk_len h
  have hsl : st.length = m := by have := hs.1; simpa using this
  by_cases hi : i < 0 ∨ (l.length : Int) ≤ i
  · have hw := Lib.hid (show wis l i st = 2 by simp [wis, hi])
    go_enter Try.func36, Try.ntmps36
    by_cases h0 : i < 0
    · go_wp2
      go_ret
      exact ⟨ret_int hw.out.symm, Gr.refl _ _⟩
    · have h1 : (n : Int) ≤ i := by omega
      go_wp2
      go_ret
      exact ⟨ret_int hw.out.symm, Gr.refl _ _⟩
  · obtain ⟨k, rfl⟩ : ∃ k : Nat, i = k := ⟨i.toNat, by omega⟩
    have hkl : k < l.length := by omega
    obtain ⟨b, off, rfl, hc, _, _⟩ := wk_at h hkl
    have hw := Lib.hid (show wis l k st = if l[k].s ∈ st then 0 else 7 by simp [wis, hkl]; omega)
    clear hi
    go_enter Try.func36, Try.ntmps36
    go_wp2
    go_loopw [7] (fun i w' => ∃ j : Nat, j ≤ m ∧ i = .int .i64 j ∧ (∀ x, x < j → st.getD x 0 ≠ l[k].s) ∧ ∃ q, w' = w.drewN q) (fun i _ => m - (intOf i).toNat)
    case atStart => exact ⟨0, Nat.zero_le _, rfl, fun x hx => absurd hx (by omega), 0, rfl⟩
    case round =>
      obtain ⟨j, hj, rfl, hno, q, rfl⟩ := hrel
      have HN := Lib.hid hno
      clear hno
      by_cases hlt : j < m
      · obtain ⟨b2, off2, u, rfl, hu, hc2⟩ := hs.at_ hlt
        obtain ⟨rfl, _⟩ := ints_get st hu
        have hg : st.getD j 0 = st[j] := by simp [List.getD, List.getElem?_eq_getElem (show j < st.length by omega)]
        rw [hg] at hc2
        clear hu hs
        by_cases hv : l[k].s = st[j]
        · have hv' : (l[k].s == st[j]) = true := by simp [hv]
          have HV := Lib.hid hv
          clear hv hg
          go_wp2_with fail
          go_quiet (fail)
          go_wp2
          go_ret
          exact ⟨ret_int (by rw [hw.out, if_pos (by rw [HV.out]; exact List.getElem_mem _)]), ((Gr.refl _ _).drewN _).drewN _⟩
        · have hv' : (l[k].s == st[j]) = false := by simp [hv]
          have HG := Lib.hid hg
          clear hg
          go_wp2_with fail
          go_quiet (fail)
          go_wp2
          go_roundw
          case rel => exact ⟨j + 1, by omega, by go_num, fun x hx => by
            rcases Nat.lt_or_ge x j with h1 | h1
            · exact HN.out x h1
            · have : x = j := by omega
              subst this
              rw [HG.out]; exact fun e => hv e.symm, _, rfl⟩
          case measure => simp [intOf]; omega
      · go_wp2
        go_ret
        refine ⟨ret_int (by
          rw [hw.out, if_neg]
          intro hx
          obtain ⟨x, hx1, hx2⟩ := List.getElem_of_mem hx
          exact HN.out x (by omega) (by simp [List.getD, List.getElem?_eq_getElem hx1, hx2])), (Gr.refl _ _).drewN _⟩

theorem Try.infoWk : (Try.prog.info? 30).map (fun i => (i.zero, i.size, i.bytes)) = some (some (.agg #[.int .i64 0, .int .i64 0, .int .i64 0]), 3, 24) := by kernel_rfl

theorem wk_own {w : World} {base g n c : Nat} {l : List Wk} (h : w.ownsRow base 30 3 (.slice (some ⟨g, 0, none⟩) n c) n (wcells l)) {k : Nat} (hl : l.length = n) (hk : k < l.length) :
    w.cell? ⟨g, k * 3, none⟩ = some (.int .i64 l[k].s) ∧ w.cell? ⟨g, k * 3 + 1, none⟩ = some (.int .i64 l[k].r) ∧ w.cell? ⟨g, k * 3 + 2, none⟩ = some (.int .i64 l[k].b) :=
  ⟨(h.cellAt (k * 3 + 0) (by omega)).trans (wcells_get l k 0 hk (by omega)), (h.cellAt (k * 3 + 1) (by omega)).trans (wcells_get l k 1 hk (by omega)), (h.cellAt (k * 3 + 2) (by omega)).trans (wcells_get l k 2 hk (by omega))⟩

set_option maxHeartbeats 400000 in
theorem changed_any (A : Option Addr) (n c : Nat) (l : List Wk) (k : Nat) (x : Wk) (w : World) (h : Sl w 30 3 A n (wcells l)) (hn : n ≤ 1000000) (hk : k < n) :
    Calls Try.prog 37 #[.slice A n c, .int .i64 k, .agg #[.int .i64 x.s, .int .i64 x.r, .int .i64 x.b]] w fun e w' => ∃ (A' : Option Addr) (c' : Nat),
      e = .returned (.slice A' n c') ∧ w'.ownsRow w.heap.size 30 3 (.slice A' n c') n (wcells (l.set k x)) ∧ Gr [] w w' := by
  have hl := wk_len h
  obtain ⟨i0, hi0, hz0, hz1, hz2⟩ := info_parts Try.infoWk
  go_enter Try.func37, Try.ntmps37
  go_wp2_with (at_builtin; refine wpList_app _ rfl (.tmp 8) (.tmp 9) 24 rfl (w.heap.size + 1) 30 i0 _ 3 24 Try.underlying24 hi0 hz0 hz1 hz2 rfl (by decide) (by decide) _ 0 0 [] rfl (own_empty _ _ _ _ _ (by simp) (by simp)) A n c (wcells l) rfl ((h.alloc _).alloc _) (wcells_one l) (by omega) (by simp) ?_; intro A1 c1 w1 hown1 happ1; simp only [Nat.zero_add, List.nil_append] at hown1; obtain ⟨g, hA1, hg1, hg2, hfr⟩ := own_form hown1 (by omega); subst hA1; have hb1 : Bk w1 w.heap.size 30 #[.int .i64 x.s, .int .i64 x.r, .int .i64 x.b] := happ1.keep _ _ ((Bk.new w _ _).alloc _) (.inl (by omega)); obtain ⟨hx0, hx1, hx2⟩ := hb1.cells3; obtain ⟨hq0, hq1, hq2⟩ := wk_own hown1 hl (show k < l.length by omega); have hf0 := hfr (k * 3); have hf1 := hfr (k * 3 + 1); have hf2 := hfr (k * 3 + 2))
  go_ret
  refine ⟨_, _, rfl, ?_, ?_⟩
  · rw [wcells_set l k x (by omega)]
    exact own_mono (((hown1.stored _ _).1.stored _ _).1.stored _ _).1 (by omega)
  · have hgr := happ1.gr [] w (by omega) (((Gr.refl _ w).alloc _).alloc _)
    exact ((hgr.setCell (.inr (by simp only; omega)) _).setCell (.inr (by simp only; omega)) _).setCell (.inr (by simp only; omega)) _

set_option maxHeartbeats 400000 in
/-- slices.Clone at workers. -/
theorem clone_any (A : Option Addr) (n c : Nat) (l : List Wk) (w : World) (h : Sl w 30 3 A n (wcells l)) (hn : n ≤ 1000000) :
    Calls Try.prog 35 #[.slice A n c] w fun e w' => ∃ (A' : Option Addr) (c' : Nat),
      e = .returned (.slice A' n c') ∧ w'.ownsRow w.heap.size 30 3 (.slice A' n c') n (wcells l) ∧ Gr [] w w' := by
  have hl := wk_len h
  obtain ⟨i0, hi0, hz0, hz1, hz2⟩ := info_parts Try.infoWk
  have hq := fun W => Lib.run_eql_slice_nil (P := Try.prog) W 24 30 A n c 0 0 Try.underlying24
  rcases A with _ | ad
  · have h0 : n = 0 := by
      rcases Nat.eq_zero_or_pos n with h0 | h0
      · exact h0
      · obtain ⟨b, off, hA, _⟩ := h.cell h0; cases hA
    subst h0
    have h1 : l = [] := List.eq_nil_of_length_eq_zero hl
    subst h1
    go_enter Try.func35, Try.ntmps35
    go_wp2
    go_ret
    exact ⟨none, 0, rfl, own_nil _ _ _ _, Gr.refl _ _⟩
  · go_enter Try.func35, Try.ntmps35
    go_wp2_with (at_builtin; refine wpList_app _ rfl (.tmp 5) (.tmp 6) 24 rfl w.heap.size 30 i0 _ 3 24 Try.underlying24 hi0 hz0 hz1 hz2 rfl (by decide) (by decide) _ 0 0 [] rfl (own_empty _ _ _ _ _ (by simp) (by simp)) (some ad) n c (wcells l) rfl (h.alloc _) (wcells_one l) (by omega) (by simp) ?_; intro A1 c1 w1 hown1 happ1; simp only [Nat.zero_add, List.nil_append] at hown1)
    go_ret
    exact ⟨A1, c1, ret_slice (by omega), hown1, happ1.gr [] w (by omega) ((Gr.refl _ w).alloc _)⟩
end Go.Proofs.Ytllhlmlghkiojaa
