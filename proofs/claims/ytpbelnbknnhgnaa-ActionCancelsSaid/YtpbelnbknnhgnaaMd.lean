/- Mod; same: lists of numbers. -/
import Derived.Test.YtpbelnbknnhgnaaSx
namespace Go.Proofs.Ytpbelnbknnhgnaa
open Go.RowKit

set_option maxHeartbeats 400000 in
theorem mod_any (v n : Int) (w : World) (h1 : 1 ≤ n) (h2 : n ≤ 1000000) :
    Calls Try.prog 9 #[.int .i64 v, .int .i64 n] w fun e w' => ∃ r : Int, e = .returned (.int .i64 r) ∧ 0 ≤ r ∧ r < n ∧ Gr [] w w' := by
  have hlt : Int.tmod v n < n := Int.tmod_lt_of_pos _ (by omega)
  have hgt : -n < Int.tmod v n := Int.lt_tmod_of_pos _ (by omega)
  have hn0 : (n == 0) = false := by simp; omega
  have hw : IntKind.i64.wrap (Int.tmod v n) = Int.tmod v n := IntWalk.i64_in _ (by omega)
  by_cases hneg : Int.tmod v n < 0
  · have hw2 : IntKind.i64.wrap (Int.tmod v n + n) = Int.tmod v n + n := IntWalk.i64_in _ (by omega)
    go_enter Try.func9, Try.ntmps9
    go_wp2
    go_ret
    refine ⟨_, rfl, ?_, ?_, Gr.refl _ _⟩
    all_goals omega
  · go_enter Try.func9, Try.ntmps9
    go_wp2
    go_ret
    refine ⟨_, rfl, ?_, ?_, Gr.refl _ _⟩
    all_goals omega

theorem nums_len {w : World} {A : Option Addr} {n : Nat} {l : List Int} (h : Sl w 2 1 A n (l.map (.int .i64))) : l.length = n := by
  have := h.1; simp at this; omega
theorem nums_at {w : World} {A : Option Addr} {n : Nat} {l : List Int} (h : Sl w 2 1 A n (l.map (.int .i64))) {k : Nat} (hk : k < l.length) :
    ∃ b off, A = some ⟨b, off, none⟩ ∧ w.cell? ⟨b, off + k, none⟩ = some (.int .i64 l[k]) := by
  have hl := nums_len h
  obtain ⟨b, off, hA, hc⟩ := Sl.cell h (by omega)
  exact ⟨b, off, hA, hc k _ (by simp [List.getElem?_eq_getElem hk])⟩

set_option maxHeartbeats 1000000 in
theorem same_any (A B : Option Addr) (n m c d : Nat) (l k : List Int) (w : World) (hA : Sl w 2 1 A n (l.map (.int .i64))) (hB : Sl w 2 1 B m (k.map (.int .i64))) (hn : n ≤ 1000000) (hm : m ≤ 1000000) :
    Calls Try.prog 19 #[.slice A n c, .slice B m d] w fun e w' => e = .returned (.bool (decide (l = k))) ∧ Gr [] w w' := by
  have hl := nums_len hA
  have hk := nums_len hB
  by_cases hnm : n = m
  · subst hnm
    go_enter Try.func19, Try.ntmps19
    go_wp2
    go_loopw [13] (fun v w' => ∃ j : Nat, j ≤ n ∧ v = .int .i64 j ∧ (∀ x, x < j → l[x]? = k[x]?) ∧ ∃ q, w' = w.drewN q) (fun v _ => n - (intOf v).toNat)
    case atStart => exact ⟨0, Nat.zero_le _, rfl, fun x hx => absurd hx (by omega), 0, rfl⟩
    case round =>
      obtain ⟨j, hj, rfl, hsame, q, rfl⟩ := hrel
      have HS := Lib.hid hsame
      clear hsame
      by_cases hlt : j < n
      · obtain ⟨b, off, rfl, ha0⟩ := nums_at hA (show j < l.length by omega)
        obtain ⟨b', off', rfl, hb0⟩ := nums_at hB (show j < k.length by omega)
        clear hA hB
        have e1 : (j : Int) < (n : Int) := by omega
        by_cases heq : l[j] = k[j]
        · have hq : (l[j] != k[j]) = false := by simpa using heq
          have HE := Lib.hid heq
          clear heq
          go_wp2_with fail
          go_quiet (fail)
          go_wp2
          go_roundw
          case rel => exact ⟨j + 1, by omega, by go_num, fun x hx => by
            rcases Nat.lt_or_ge x j with h1 | h1
            · exact HS.out x h1
            · have : x = j := by omega
              subst this
              rw [List.getElem?_eq_getElem (by omega), List.getElem?_eq_getElem (by omega), HE.out], _, rfl⟩
          case measure => simp [intOf]; omega
        · have hq : (l[j] != k[j]) = true := by simpa using heq
          go_wp2_with fail
          go_quiet (fail)
          go_wp2
          go_ret
          refine ⟨ret_bool ?_, ((Gr.refl _ _).drewN _).drewN _⟩
          symm
          rw [decide_eq_false_iff_not]
          rintro rfl
          exact heq rfl
      · go_wp2
        go_ret
        refine ⟨ret_bool ?_, (Gr.refl _ _).drewN _⟩
        symm
        rw [decide_eq_true_eq]
        apply List.ext_getElem?
        intro x
        rcases Nat.lt_or_ge x n with hx | hx
        · exact HS.out x (by omega)
        · rw [List.getElem?_eq_none (by omega), List.getElem?_eq_none (by omega)]
  · have hne : ((n : Int) != (m : Int)) = true := by simp; omega
    go_enter Try.func19, Try.ntmps19
    go_wp2
    go_ret
    refine ⟨ret_bool ?_, Gr.refl _ _⟩
    symm
    rw [decide_eq_false_iff_not]
    rintro rfl
    omega
end Go.Proofs.Ytpbelnbknnhgnaa
