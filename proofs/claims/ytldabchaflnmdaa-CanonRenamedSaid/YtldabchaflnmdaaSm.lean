/- Comparing values, objects, heaps. -/
import Derived.Test.YtldabchaflnmdaaCan
namespace Go.Proofs.Ytldabchaflnmdaa
open Go.RowKit

theorem vals_len {w : World} {A : Option Addr} {n : Nat} {l : List Vl} (h : Sl w 31 2 A n (vcells l)) : l.length = n := by
  have := h.1; rw [vcells_len] at this; omega
theorem vals_at {w : World} {A : Option Addr} {n : Nat} {l : List Vl} (h : Sl w 31 2 A n (vcells l)) {k : Nat} (hk : k < l.length) :
    ∃ b off, A = some ⟨b, off, none⟩ ∧ w.cell? ⟨b, off + k * 2, none⟩ = some (.bool l[k].r) ∧ w.cell? ⟨b, off + k * 2 + 1, none⟩ = some (.int .i64 l[k].n) := by
  have hl := vals_len h
  subst hl
  exact Vs.at_ h hk
theorem vl_neq (x y : Vl) (w : World) : (binOp .neq 31 (.agg #[.bool x.r, .int .i64 x.n]) (.agg #[.bool y.r, .int .i64 y.n])).run Try.prog w = .ok (.bool (!decide (x = y))) w := by
  obtain ⟨a1, a2⟩ := x
  obtain ⟨b1, b2⟩ := y
  go_simp
  by_cases h1 : a1 = b1
  · by_cases h2 : a2 = b2 <;> simp [h1, h2]
  · simp [h1]

set_option maxHeartbeats 1000000 in
theorem samevals_any (A B : Option Addr) (n m c d : Nat) (l k : List Vl) (w : World) (hA : Sl w 31 2 A n (vcells l)) (hB : Sl w 31 2 B m (vcells k)) (hn : n ≤ 1000000) (hm : m ≤ 1000000) :
    Calls Try.prog 12 #[.slice A n c, .slice B m d] w fun e w' => e = .returned (.bool (decide (l = k))) ∧ Gr [] w w' := by
  have hl := vals_len hA
  have hk := vals_len hB
  by_cases hnm : n = m
  · subst hnm
    go_enter Try.func12, Try.ntmps12
    go_wp2
    go_loopw [13] (fun v w' => ∃ j : Nat, j ≤ n ∧ v = .int .i64 j ∧ (∀ x, x < j → l[x]? = k[x]?) ∧ ∃ q, w' = w.drewN q) (fun v _ => n - (intOf v).toNat)
    case atStart => exact ⟨0, Nat.zero_le _, rfl, fun x hx => absurd hx (by omega), 0, rfl⟩
    case round =>
      obtain ⟨j, hj, rfl, hsame, q, rfl⟩ := hrel
      have HS := Lib.hid hsame
      clear hsame
      by_cases hlt : j < n
      · obtain ⟨b, off, rfl, ha0, ha1⟩ := vals_at hA (show j < l.length by omega)
        obtain ⟨b', off', rfl, hb0, hb1⟩ := vals_at hB (show j < k.length by omega)
        clear hA hB
        have e1 : (j : Int) < (n : Int) := by omega
        by_cases heq : l[j] = k[j]
        · have hq := fun W => (vl_neq l[j] k[j] W).trans (show _ = Result.ok (Value.bool false) W by rw [decide_eq_true heq]; rfl)
          have HE := Lib.hid heq
          clear heq
          go_wp2_with fail
          go_quiet (fail)
          go_wp2
          go_roundw
          case rel => exact ⟨j + 1, by omega, by go_num, fun x hx => by
            rcases Nat.lt_or_ge x j with h1 | h1
            · exact HS.out x h1
            · have : x = j := by omega
              subst this
              rw [List.getElem?_eq_getElem (by omega), List.getElem?_eq_getElem (by omega), HE.out], _, rfl⟩
          case measure => simp [intOf]; omega
        · have hq := fun W => (vl_neq l[j] k[j] W).trans (show _ = Result.ok (Value.bool true) W by rw [decide_eq_false heq]; rfl)
          go_wp2_with fail
          go_quiet (fail)
          go_wp2
          go_ret
          refine ⟨ret_bool ?_, ((Gr.refl _ _).drewN _).drewN _⟩
          symm
          rw [decide_eq_false_iff_not]
          rintro rfl
          exact heq rfl
      · go_wp2
        go_ret
        refine ⟨ret_bool ?_, (Gr.refl _ _).drewN _⟩
        symm
        rw [decide_eq_true_eq]
        apply List.ext_getElem?
        intro x
        rcases Nat.lt_or_ge x n with hx | hx
        · exact HS.out x (by omega)
        · rw [List.getElem?_eq_none (by omega), List.getElem?_eq_none (by omega)]
  · have hne : ((n : Int) != (m : Int)) = true := by simp; omega
    go_enter Try.func12, Try.ntmps12
    go_wp2
    go_ret
    refine ⟨ret_bool ?_, Gr.refl _ _⟩
    symm
    rw [decide_eq_false_iff_not]
    rintro rfl
    omega
end Go.Proofs.Ytldabchaflnmdaa
