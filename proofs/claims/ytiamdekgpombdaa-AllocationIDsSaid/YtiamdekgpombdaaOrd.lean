/- AllocationOrder: the law's body. -/
import Derived.Test.YtiamdekgpombdaaDg
namespace Go.Proofs.Ytiamdekgpombdaa
open Go.RowKit

theorem id_ok (run n : Int) (w : World) (h0 : 0 ≤ run) (h1 : run ≤ 1099511627776) (h2 : 0 ≤ n) (h3 : n < 1048576) :
    Calls Try.prog 6 #[.int .i64 run, .int .i64 n] w fun e w' => e = .returned (.tuple #[.int .i64 ((run + 1) * 1048576 + n), .int .i64 0]) ∧ w = w' := by
  have hb : ¬ idBad run n := by unfold idBad; omega
  have := id_any run n w
  rw [show idR run n = (run + 1) * 1048576 + n by unfold idR; rw [if_neg hb], show idE run n = 0 by unfold idE; rw [if_neg hb]] at this
  exact this

set_option maxHeartbeats 2000000 in
theorem ord_any (a b n m : Int) (w : World) (ha : 0 ≤ a) (ha' : a ≤ 65535) (hb : 0 ≤ b) (hb' : b ≤ 65535) (hn : 0 ≤ n) (hn' : n ≤ 255) (hm : 0 ≤ m) (hm' : m ≤ 255) :
    Calls Try.prog 4 #[.int .u16 a, .int .u16 b, .int .u8 n, .int .u8 m] w fun e w' => e = .returned (.bool true) ∧ Gr [] w w' := by
  have e1 : IntKind.i64.wrap a = a := IntWalk.i64_in _ (by omega)
  have e2 : IntKind.i64.wrap b = b := IntWalk.i64_in _ (by omega)
  have e3 : IntKind.i64.wrap n = n := IntWalk.i64_in _ (by omega)
  have e4 : IntKind.i64.wrap m = m := IntWalk.i64_in _ (by omega)
  have e5 : IntKind.i64.wrap (n + 1) = n + 1 := IntWalk.i64_in _ (by omega)
  have h1 := fun W => id_ok a n W ha (by omega) hn (by omega)
  have h2 := fun W => id_ok a (n + 1) W ha (by omega) (by omega) (by omega)
  have h3 := fun W => id_ok b m W hb (by omega) hm (by omega)
  obtain ⟨X, hX⟩ : ∃ X, X = (a + 1) * 1048576 + n := ⟨_, rfl⟩
  obtain ⟨Z, hZ⟩ : ∃ Z, Z = (b + 1) * 1048576 + m := ⟨_, rfl⟩
  rw [← hX] at h1
  rw [show (a + 1) * 1048576 + (n + 1) = X + 1 by omega] at h2
  rw [← hZ] at h3
  have e6 : IntKind.i64.wrap (X + 1) = X + 1 := IntWalk.i64_in _ (by omega)
  have hX2 : decide (2 < X) = true := by simp; omega
  have hcase : ∃ p q r s t : Bool, (X == Z) = p ∧ (a == b) = q ∧ (n == m) = r ∧ decide (b ≤ a) = s ∧ decide (X < Z) = t ∧ (p == (q && r)) = true ∧ (s || t) = true := by
    refine ⟨_, _, _, _, _, rfl, rfl, rfl, rfl, rfl, ?_, ?_⟩
    · by_cases h : a = b ∧ n = m
      · obtain ⟨rfl, rfl⟩ := h
        have : X = Z := by omega
        simp [this]
      · have : X ≠ Z := by omega
        have hx : (X == Z) = false := beq_false_of_ne this
        by_cases hab : a = b
        · have hnm : (n == m) = false := beq_false_of_ne (fun e => h ⟨hab, e⟩)
          rw [hx, hnm]; simp
        · rw [hx, show (a == b) = false from beq_false_of_ne hab]; rfl
    · rw [Bool.or_eq_true]
      simp only [decide_eq_true_eq]
      omega
  obtain ⟨p, q, r, s, t, hp, hq, hr, hs, ht, hpq, hst⟩ := hcase
  have H1 := Lib.hid h1
  have H2 := Lib.hid h2
  have H3 := Lib.hid h3
  clear h1 h2 h3 hX hZ
  go_enter Try.func4, Try.ntmps4
  go_wp2_with fail
  go_at_call 5
  refine (sane_any w).mono ?_
  rintro e w1 ⟨rfl, hg⟩
  go_wp2_with fail
  go_at_call 6
  refine (H1.out _).mono ?_
  rintro e w2 ⟨rfl, rfl⟩
  go_wp2_with fail
  go_at_call 6
  refine (H2.out _).mono ?_
  rintro e w2 ⟨rfl, rfl⟩
  go_wp2_with fail
  go_at_call 6
  refine (H3.out _).mono ?_
  rintro e w2 ⟨rfl, rfl⟩
  cases p <;> cases q <;> cases r <;> cases s <;> cases t <;> first | (exfalso; revert hpq hst; decide) | (clear hpq hst; go_wp2; go_ret; exact ⟨rfl, hg⟩)
end Go.Proofs.Ytiamdekgpombdaa
