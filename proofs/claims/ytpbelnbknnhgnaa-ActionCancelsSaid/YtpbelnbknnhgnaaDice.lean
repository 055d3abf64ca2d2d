/- The dice: new dice, a pick: for any seeds. -/
import Derived.Test.YtpbelnbknnhgnaaMem
import Derived.Test.YtpbelnbknnhgnaaRows
import Derived.OpenShut
namespace Go.Proofs.Ytpbelnbknnhgnaa
open Go.RowKit

/-- Dice at block g: what they hold; all of it lies below B. -/
def Dice (w : World) (B g : Nat) : Prop := ∃ (A : Option Addr) (n c : Nat) (i : Nat) (zs : List Int), Bk w g 66 #[.slice A n c, .int .i64 i] ∧ i ≤ n ∧ n ≤ 200 ∧ n ≤ c ∧
  (∃ e, Sl w e 1 A n (zs.map (.int .u8))) ∧ (∀ j, 0 ≤ zs.getD j 0 ∧ zs.getD j 0 < 256) ∧ (0 < n → ∀ b off, A = some ⟨b, off, none⟩ → b ≠ g ∧ b < B) ∧ g < B
theorem Dice.keep {w w' : World} {B g : Nat} (h : Dice w B g) (hk : ∀ k, k < B → k < w.heap.size → w'.heap[k]? = w.heap[k]?) : Dice w' B g := by
  obtain ⟨A, n, c, i, zs, h1, h2, h3, h4, ⟨e, h5⟩, h6, h7, h8⟩ := h
  refine ⟨A, n, c, i, zs, (hk g h8 h1.lt).trans h1, h2, h3, h4, ⟨e, h5.1, fun hn => ?_⟩, h6, h7, h8⟩
  obtain ⟨b, off, cs, fz, hA, hb, hc⟩ := h5.2 hn
  refine ⟨b, off, cs, fz, hA, (hk b (h7 hn b off hA).2 ?_).trans hb, hc⟩
  rcases Nat.lt_or_ge b w.heap.size with hlt | hge
  · exact hlt
  · rw [Array.getElem?_eq_none hge] at hb; cases hb
theorem Dice.gr0 {w w' : World} {B g : Nat} (h : Dice w B g) (hg : Gr [] w w') : Dice w' B g := h.keep fun k _ hk => hg.block k hk (by simp)
theorem Dice.far {w w' : World} {B g : Nat} {M : List Nat} (h : Dice w B g) (hg : Gr M w w') (hM : ∀ x ∈ M, B ≤ x) : Dice w' B g := h.keep fun k hB hk => hg.block k hk (fun hm => by have := hM k hm; omega)
theorem Dice.app {w w' : World} {B g base : Nat} {e : TypeId} (h : Dice w B g) (hg : App base e w w') (hB : B ≤ base) : Dice w' B g := h.keep fun k hk hlt => by
  rw [hg.keep k w.heap[k] (Array.getElem?_eq_getElem hlt) (.inl (by omega)), Array.getElem?_eq_getElem hlt]
theorem Dice.lt {w : World} {B g : Nat} (h : Dice w B g) : g < w.heap.size := by
  obtain ⟨A, n, c, i, zs, h1, _⟩ := h
  exact h1.lt
theorem Dice.ltB {w : World} {B g : Nat} (h : Dice w B g) : g < B := by
  obtain ⟨A, n, c, i, zs, _, _, _, _, _, _, _, h⟩ := h
  exact h
theorem Dice.bk {w : World} {B g : Nat} (h : Dice w B g) : ∃ cs, Bk w g 66 cs := by
  obtain ⟨A, n, c, i, zs, h1, _⟩ := h
  exact ⟨_, h1⟩

set_option maxHeartbeats 1000000 in
theorem pick_any (B g : Nat) (n : Int) (w : World) (hd : Dice w B g) (hn : 1 ≤ n) (hn2 : n ≤ 1000000) :
    Calls Try.prog 16 #[.pointer (some ⟨g, 0, none⟩), .int .i64 n] w fun e w' => ∃ r : Int, e = .returned (.int .i64 r) ∧ 0 ≤ r ∧ r < n ∧ Dice w' B g ∧ Gr [g] w w' := by
  obtain ⟨A, k, c, i, zs, h1, h2, h3, h4, ⟨e5, h5⟩, h6, h7, h8⟩ := hd
  have hc0 : w.cell? ⟨g, 0, none⟩ = some (.slice A k c) := (h1.cell 0).trans rfl
  have hc1 : w.cell? ⟨g, 1, none⟩ = some (.int .i64 i) := (h1.cell 1).trans rfl
  have hf1 : w.frozen? ⟨g, 1, none⟩ = false := h1.frozen 1
  by_cases hik : i < k
  · obtain ⟨b, off, hA, hcell⟩ := h5.cell (by omega)
    have hbg := (h7 (by omega) b off hA).1
    have hA0 := hA
    subst hA
    have hz := h6 i
    have hci : w.cell? ⟨b, off + i, none⟩ = some (.int .u8 (zs.getD i 0)) := hcell i _ (by
      have hl : i < zs.length := by have := h5.1; simp at this; omega
      simp [List.getElem?_map, List.getElem?_eq_getElem hl, List.getD])
    go_enter Try.func16, Try.ntmps16
    go_wp2_with fail
    go_quiet (fail)
    go_wp2
    have e1 : IntKind.i64.wrap (i : Int) = (i : Int) := IntWalk.i64_in _ (by omega)
    have e2 : (i : Int) < (k : Int) := by omega
    have e3 : (0 : Int) ≤ (i : Int) := by omega
    go_quiet (fail)
    clear e1 e2 e3
    go_wp2
    go_ret
    have hz' : 0 ≤ zs[i]?.getD 0 ∧ zs[i]?.getD 0 < 256 := h6 i
    rw [IntWalk.wrap64_in _ (by omega)]
    refine ⟨_, rfl, ?_, ?_, ⟨_, k, c, i + 1, zs, ((h1.drewN _).set_ 1 _).drewN _, by omega, h3, h4, ⟨e5, ?_⟩, h6, fun _ => h7 (by omega), h8⟩, ?_⟩
    · exact Int.tmod_nonneg _ hz'.1
    · exact Int.tmod_lt_of_pos _ (by omega)
    · refine Sl.drewN (h5.keep fun b' off' hA' hb' => (((Gr.refl [g] w).drewN _).setCell (.inl (by simp)) _).block b' hb' ?_) _
      have := (h7 (by omega) b' off' hA').1
      simpa using this
    · exact (((Gr.refl _ w).drewN _).setCell (.inl (by simp)) _).drewN _
  · have hik' : i = k := by omega
    subst hik'
    go_enter Try.func16, Try.ntmps16
    go_wp2_with fail
    go_quiet (fail)
    go_wp2
    go_ret
    exact ⟨0, rfl, by omega, by omega, ⟨A, i, c, i, zs, h1.drewN _, Nat.le_refl _, h3, h4, ⟨e5, h5⟩, h6, h7, h8⟩, (Gr.refl _ w).drewN _⟩

set_option maxHeartbeats 400000 in
theorem new_any (A : Option Addr) (n c : Nat) (zs : List Int) (w : World) (e5 : TypeId) (h : Sl w e5 1 A n (zs.map (.int .u8))) (hz : ∀ j, 0 ≤ zs.getD j 0 ∧ zs.getD j 0 < 256) (hnc : n ≤ c) (hn : n ≤ 9223372036854775807) :
    Calls Try.prog 34 #[.slice A n c] w fun e w' => ∃ g, e = .returned (.pointer (some ⟨g, 0, none⟩)) ∧ w.heap.size ≤ g ∧ Dice w' w'.heap.size g ∧ Gr [] w w' := by
  have hlt : 0 < n → ∀ b' off', A = some ⟨b', off', none⟩ → b' < w.heap.size := by
    intro hn0 b' off' hA'
    obtain ⟨b, off, cs, fz, hA, hb, _⟩ := h.2 hn0
    rw [hA'] at hA
    injection hA with hA
    injection hA with hA _
    subst hA
    rcases Nat.lt_or_ge b' w.heap.size with hlt | hge
    · exact hlt
    · rw [Array.getElem?_eq_none hge] at hb; cases hb
  by_cases hn2 : 200 < n
  · have hlt := hlt (by omega)
    obtain ⟨b, off, hA, _⟩ := h.cell (by omega)
    have hA0 := hA
    subst hA
    have h200 : Sl w e5 1 (some ⟨b, off, none⟩) 200 ((zs.take 200).map (.int .u8)) := by
      refine ⟨by have := h.1; simp at this ⊢; omega, fun _ => ?_⟩
      obtain ⟨b', off', cs, fz, hA', hb, hc⟩ := h.2 (by omega)
      refine ⟨b', off', cs, fz, hA', hb, fun j u hu => hc j u ?_⟩
      rw [List.getElem?_map, List.getElem?_take] at hu
      split at hu
      · rw [List.getElem?_map]; exact hu
      · simp at hu
    go_enter Try.func34, Try.ntmps34
    go_wp2
    go_ret
    refine ⟨_, rfl, Nat.le_refl _, ⟨_, 200, c, 0, zs.take 200, Bk.new w _ _, by omega, by omega, by omega, ⟨e5, h200.alloc _⟩, fun j => ?_, fun _ b' off' hA' => by have := hlt b' off' hA'; simp; omega, by simp⟩, (Gr.refl _ w).alloc _⟩
    by_cases hj : j < 200
    · simpa [List.getElem?_take, hj] using hz j
    · simp [List.getElem?_take, hj]
  · go_enter Try.func34, Try.ntmps34
    go_wp2
    go_ret
    exact ⟨_, rfl, Nat.le_refl _, ⟨A, n, c, 0, zs, Bk.new w _ _, by omega, by omega, hnc, ⟨e5, h.alloc _⟩, hz, fun hn0 b' off' hA' => by have := hlt (by omega) b' off' hA'; simp; omega, by simp⟩, (Gr.refl _ w).alloc _⟩

theorem take_bd {zs : List Int} {len : Nat} (h : ∀ n ∈ zs, (Lit.int .u8 n).wf = true) : ∀ j, 0 ≤ (zs.take len).getD j 0 ∧ (zs.take len).getD j 0 < 256 := by
  intro j
  by_cases hj : j < (zs.take len).length
  · have hm : (zs.take len).getD j 0 ∈ zs := by
      simp only [List.getD, List.getElem?_eq_getElem hj, Option.getD_some]
      exact List.mem_of_mem_take (List.getElem_mem hj)
    have := bounds_u8 (h _ hm)
    omega
  · simp [List.getD, List.getElem?_eq_none (Nat.le_of_not_lt hj)]
/-- A slice of small numbers that came in. -/
theorem sl_of_cells {k : IntKind} {w : World} {x : Addr} {zs : List Int} {len : Nat} (hl : len ≤ zs.length) (hc : ∀ i, i < zs.length → w.cell? (x.add i) = some (.int k (zs.getD i 0))) :
    ∃ e, Sl w e 1 (some x) len ((zs.take len).map (.int k)) := by
  by_cases h0 : len = 0
  · subst h0
    exact ⟨0, by simpa using Sl.nil w 0 1 (some x)⟩
  · have hx := hc 0 (by omega)
    have e0 : x.add 0 = x := by simp [Addr.add]
    rw [e0] at hx
    obtain ⟨b, off, sp⟩ := x
    unfold World.cell? at hx
    cases hb : w.heap[b]? with
    | none => rw [hb] at hx; simp at hx
    | some o =>
      rw [hb] at hx
      cases o with
      | cells cs e fz =>
        cases sp with
        | some s => simp at hx
        | none =>
          refine ⟨e, by simp; omega, fun _ => ⟨b, off, cs, fz, rfl, hb, fun j u hu => ?_⟩⟩
          rw [List.getElem?_map, List.getElem?_take] at hu
          split at hu
          · rename_i hj
            have := hc j (by omega)
            rw [addr_lit, cell_of_row w b _ cs e fz hb] at this
            rw [this, ← hu]
            simp [List.getD, List.getElem?_eq_getElem (show j < zs.length by omega)]
          · simp at hu
      | _ => simp at hx
end Go.Proofs.Ytpbelnbknnhgnaa
