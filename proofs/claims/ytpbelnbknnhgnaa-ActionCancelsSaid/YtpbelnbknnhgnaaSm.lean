/- Same of both: two lists of deeds are one. -/
import Derived.Test.YtpbelnbknnhgnaaRo
namespace Go.Proofs.Ytpbelnbknnhgnaa
open Go.RowKit

theorem dd_neq (x y : Dd) (w : World) : (binOp .neq 32 (.agg #[.int .i64 x.kind, .int .i64 x.ticket, .int .i64 x.value, .bool x.act.ask, .int .i64 x.act.value, .int .i64 x.act.answer]) (.agg #[.int .i64 y.kind, .int .i64 y.ticket, .int .i64 y.value, .bool y.act.ask, .int .i64 y.act.value, .int .i64 y.act.answer])).run Try.prog w = .ok (.bool (!decide (x = y))) w := by
  obtain ⟨a1, a2, a3, ⟨a4, a5, a6⟩⟩ := x
  obtain ⟨b1, b2, b3, ⟨b4, b5, b6⟩⟩ := y
  go_simp
  by_cases h1 : a1 = b1
  · by_cases h2 : a2 = b2
    · by_cases h3 : a3 = b3
      · by_cases h4 : a4 = b4
        · by_cases h5 : a5 = b5
          · by_cases h6 : a6 = b6 <;> simp [h1, h2, h3, h4, h5, h6]
          · simp [h1, h2, h3, h4, h5]
        · simp [h1, h2, h3, h4]
      · simp [h1, h2, h3]
    · simp [h1, h2]
  · simp [h1]

set_option maxHeartbeats 1000000 in
theorem eqd_any (A B : Option Addr) (c d : Nat) (l k : List Dd) (w : World) (hA : Ds w A l) (hB : Ds w B k) (hn : l.length ≤ 1000000) (hm : k.length ≤ 1000000) :
    Calls Try.prog 39 #[.slice A l.length c, .slice B k.length d] w fun e w' => e = .returned (.bool (decide (l = k))) ∧ Gr [] w w' := by
  generalize hln : l.length = n at *
  generalize hkm : k.length = m at *
  have HL := Lib.hid hln
  have HK := Lib.hid hkm
  clear hln hkm
  by_cases hnm : n = m
  · subst hnm
    go_enter Try.func39, Try.ntmps39
    go_wp2
    go_loopw [13] (fun v w' => ∃ j : Nat, j ≤ n ∧ v = .int .i64 j ∧ (∀ x, x < j → l[x]? = k[x]?) ∧ ∃ q, w' = w.drewN q) (fun v _ => n - (intOf v).toNat)
    case atStart => exact ⟨0, Nat.zero_le _, rfl, fun x hx => absurd hx (by omega), 0, rfl⟩
    case round =>
      obtain ⟨j, hj, rfl, hsame, q, rfl⟩ := hrel
      have HS := Lib.hid hsame
      clear hsame
      by_cases hlt : j < n
      · have hjl : j < l.length := by rw [HL.out]; exact hlt
        have hjk : j < k.length := by rw [HK.out]; exact hlt
        obtain ⟨b, off, rfl, ha0, ha1, ha2, ha3, ha4, ha5⟩ := hA.at_ hjl
        obtain ⟨b', off', rfl, hb0, hb1, hb2, hb3, hb4, hb5⟩ := hB.at_ hjk
        clear hA hB
        have e1 : (j : Int) < (n : Int) := by omega
        have HX := Lib.hid (⟨hjl, hjk⟩ : j < l.length ∧ j < k.length)
        by_cases heq : l[j] = k[j]
        · have hq := fun W => (dd_neq l[j] k[j] W).trans (show _ = Result.ok (Value.bool false) W by rw [decide_eq_true heq]; rfl)
          have HE := Lib.hid heq
          clear heq
          go_wp2_with fail
          go_quiet (fail)
          go_wp2
          go_roundw
          case rel => exact ⟨j + 1, by omega, by go_num, fun x hx => by
            rcases Nat.lt_or_ge x j with h1 | h1
            · exact HS.out x h1
            · have : x = j := by omega
              subst this
              rw [List.getElem?_eq_getElem HX.out.1, List.getElem?_eq_getElem HX.out.2, HE.out], _, rfl⟩
          case measure => simp [intOf]; omega
        · have hq := fun W => (dd_neq l[j] k[j] W).trans (show _ = Result.ok (Value.bool true) W by rw [decide_eq_false heq]; rfl)
          go_wp2_with fail
          go_quiet (fail)
          go_wp2
          go_ret
          refine ⟨ret_bool ?_, ((Gr.refl _ _).drewN _).drewN _⟩
          symm
          rw [decide_eq_false_iff_not]
          rintro rfl
          exact heq rfl
      · go_wp2
        go_ret
        refine ⟨ret_bool ?_, (Gr.refl _ _).drewN _⟩
        symm
        rw [decide_eq_true_eq]
        apply List.ext_getElem?
        intro x
        rcases Nat.lt_or_ge x n with hx | hx
        · exact HS.out x (by omega)
        · rw [List.getElem?_eq_none (by rw [HL.out]; omega), List.getElem?_eq_none (by rw [HK.out]; omega)]
  · have hne : ((n : Int) != (m : Int)) = true := by simp; omega
    go_enter Try.func39, Try.ntmps39
    go_wp2
    go_ret
    refine ⟨ret_bool ?_, Gr.refl _ _⟩
    symm
    rw [decide_eq_false_iff_not]
    rintro rfl
    exact hnm (HL.out.symm.trans HK.out)

set_option maxHeartbeats 1000000 in
theorem asame_any (A B : Option Addr) (c d : Nat) (l k : List Dd) (T U : Int) (w : World) (hA : Ds w A l) (hB : Ds w B k) (hn : l.length ≤ 1000000) (hm : k.length ≤ 1000000) :
    Calls Try.prog 22 #[.agg #[.slice A l.length c, .int .i64 T], .agg #[.slice B k.length d, .int .i64 U]] w fun e w' => e = .returned (.bool (decide (T = U ∧ l = k))) ∧ Gr [] w w' := by
  have hG : Gr [] w ((w.alloc (.cells #[.slice A l.length c, .int .i64 T] 26)).alloc (.cells #[.slice B k.length d, .int .i64 U] 26)) := ((Gr.refl [] w).alloc _).alloc _
  by_cases hT : T = U
  · subst hT
    go_enter Try.func22, Try.ntmps22
    go_wp2_with (go_at_call 39; refine (eqd_any A B c d l k _ (hA.gr0 hG) (hB.gr0 hG) hn hm).mono ?_; rintro e w2 ⟨rfl, hg2⟩)
    go_ret
    exact ⟨ret_bool (by simp), hG.trans hg2⟩
  · have hT' : (T == U) = false := by simpa using hT
    go_enter Try.func22, Try.ntmps22
    go_wp2
    go_ret
    exact ⟨ret_bool (by simp [hT]), hG⟩
end Go.Proofs.Ytpbelnbknnhgnaa
