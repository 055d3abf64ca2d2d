/- SameActions. -/
import Derived.Test.YtpbelnbknnhgnaaNt
namespace Go.Proofs.Ytpbelnbknnhgnaa
open Go.RowKit

theorem acts_len {w : World} {A : Option Addr} {n : Nat} {l : List Ac} (h : Sl w 30 3 A n (acells l)) : l.length = n := by
  have := h.1; rw [acells_len] at this; omega
theorem acts_at {w : World} {A : Option Addr} {n : Nat} {l : List Ac} (h : Sl w 30 3 A n (acells l)) {k : Nat} (hk : k < l.length) :
    ∃ b off, A = some ⟨b, off, none⟩ ∧ w.cell? ⟨b, off + k * 3, none⟩ = some (.bool l[k].ask) ∧ w.cell? ⟨b, off + k * 3 + 1, none⟩ = some (.int .i64 l[k].value) ∧ w.cell? ⟨b, off + k * 3 + 2, none⟩ = some (.int .i64 l[k].answer) := by
  have hl := acts_len h
  obtain ⟨b, off, hA, hc⟩ := Sl.cell h (by omega)
  have g := fun j hj => cells_get Ac.E 3 (fun _ => rfl) l k j hk hj
  exact ⟨b, off, hA, hc (k * 3 + 0) _ (g 0 (by omega)), hc (k * 3 + 1) _ (g 1 (by omega)), hc (k * 3 + 2) _ (g 2 (by omega))⟩

set_option maxHeartbeats 1000000 in
theorem sameacts_any (A B : Option Addr) (n m c d : Nat) (l k : List Ac) (w : World) (hA : Sl w 30 3 A n (acells l)) (hB : Sl w 30 3 B m (acells k)) (hn : n ≤ 1000000) (hm : m ≤ 1000000) :
    Calls Try.prog 12 #[.slice A n c, .slice B m d] w fun e w' => e = .returned (.bool (decide (l = k))) ∧ Gr [] w w' := by
  have hl := acts_len hA
  have hk := acts_len hB
  by_cases hnm : n = m
  · subst hnm
    go_enter Try.func12, Try.ntmps12
    go_wp2
    go_loopw [13] (fun v w' => ∃ j : Nat, j ≤ n ∧ v = .int .i64 j ∧ (∀ x, x < j → l[x]? = k[x]?) ∧ ∃ q, w' = w.drewN q) (fun v _ => n - (intOf v).toNat)
    case atStart => exact ⟨0, Nat.zero_le _, rfl, fun x hx => absurd hx (by omega), 0, rfl⟩
    case round =>
      obtain ⟨j, hj, rfl, hsame, q, rfl⟩ := hrel
      have HS := Lib.hid hsame
      clear hsame
      by_cases hlt : j < n
      · obtain ⟨b, off, rfl, ha0, ha1, ha2⟩ := acts_at hA (show j < l.length by omega)
        obtain ⟨b', off', rfl, hb0, hb1, hb2⟩ := acts_at hB (show j < k.length by omega)
        clear hA hB
        have e1 : (j : Int) < (n : Int) := by omega
        by_cases heq : l[j] = k[j]
        · have hq := fun W => (ac_neq l[j] k[j] W).trans (show _ = Result.ok (Value.bool false) W by rw [decide_eq_true heq]; rfl)
          have HE := Lib.hid heq
          clear heq
          go_wp2_with fail
          go_quiet (fail)
          go_wp2
          go_roundw
          case rel => exact ⟨j + 1, by omega, by go_num, fun x hx => by
            rcases Nat.lt_or_ge x j with h1 | h1
            · exact HS.out x h1
            · have : x = j := by omega
              subst this
              rw [List.getElem?_eq_getElem (by omega), List.getElem?_eq_getElem (by omega), HE.out], _, rfl⟩
          case measure => simp [intOf]; omega
        · have hq := fun W => (ac_neq l[j] k[j] W).trans (show _ = Result.ok (Value.bool true) W by rw [decide_eq_false heq]; rfl)
          go_wp2_with fail
          go_quiet (fail)
          go_wp2
          go_ret
          refine ⟨ret_bool ?_, ((Gr.refl _ _).drewN _).drewN _⟩
          symm
          rw [decide_eq_false_iff_not]
          rintro rfl
          exact heq rfl
      · go_wp2
        go_ret
        refine ⟨ret_bool ?_, (Gr.refl _ _).drewN _⟩
        symm
        rw [decide_eq_true_eq]
        apply List.ext_getElem?
        intro x
        rcases Nat.lt_or_ge x n with hx | hx
        · exact HS.out x (by omega)
        · rw [List.getElem?_eq_none (by omega), List.getElem?_eq_none (by omega)]
  · have hne : ((n : Int) != (m : Int)) = true := by simp; omega
    go_enter Try.func12, Try.ntmps12
    go_wp2
    go_ret
    refine ⟨ret_bool ?_, Gr.refl _ _⟩
    symm
    rw [decide_eq_false_iff_not]
    rintro rfl
    omega
end Go.Proofs.Ytpbelnbknnhgnaa
