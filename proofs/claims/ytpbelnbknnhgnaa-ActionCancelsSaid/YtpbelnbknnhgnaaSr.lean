/- The reference's Same. -/
import Derived.Test.YtpbelnbknnhgnaaSm
namespace Go.Proofs.Ytpbelnbknnhgnaa
open Go.RowKit

set_option maxHeartbeats 1000000 in
theorem rsame_any (A B : Option Addr) (c d : Nat) (l k : List Dd) (T U : Int) (w : World) (hA : Ds w A l) (hB : Ds w B k) (hn : l.length ≤ 1000000) (hm : k.length ≤ 1000000) :
    Calls Try.prog 23 #[.agg #[.slice A l.length c, .int .i64 T], .agg #[.slice B k.length d, .int .i64 U]] w fun e w' => e = .returned (.bool (decide (T = U ∧ l = k))) ∧ Gr [] w w' := by
  generalize hln : l.length = n at *
  generalize hkm : k.length = m at *
  have HL := Lib.hid hln
  have HK := Lib.hid hkm
  clear hln hkm
  have hG : Gr [] w ((w.alloc (.cells #[.slice A n c, .int .i64 T] 26)).alloc (.cells #[.slice B m d, .int .i64 U] 26)) := ((Gr.refl [] w).alloc _).alloc _
  have hA0 : Bk ((w.alloc (.cells #[.slice A n c, .int .i64 T] 26)).alloc (.cells #[.slice B m d, .int .i64 U] 26)) w.heap.size 26 #[.slice A n c, .int .i64 T] := (Bk.new w _ _).alloc _
  have hA1 : Bk ((w.alloc (.cells #[.slice A n c, .int .i64 T] 26)).alloc (.cells #[.slice B m d, .int .i64 U] 26)) (w.heap.size + 1) 26 #[.slice B m d, .int .i64 U] := by simpa using Bk.new (w.alloc (.cells #[.slice A n c, .int .i64 T] 26)) 26 #[.slice B m d, .int .i64 U]
  obtain ⟨x0, x1⟩ := hA0.cells2
  obtain ⟨z0, z1⟩ := hA1.cells2
  by_cases hT : T = U
  · subst hT
    have hT1 : (T != T) = false := by simp
    by_cases hnm : n = m
    · subst hnm
      have hA := hA.gr0 hG
      have hB := hB.gr0 hG
      go_enter Try.func23, Try.ntmps23
      go_wp2_with fail
      generalize ((w.alloc (.cells #[.slice A n c, .int .i64 T] 26)).alloc (.cells #[.slice B n d, .int .i64 T] 26)) = W at *
      go_loopw [5] (fun v w' => ∃ j : Nat, j ≤ n ∧ v = .int .i64 j ∧ (∀ x, x < j → l[x]? = k[x]?) ∧ ∃ q, w' = W.drewN q) (fun v _ => n - (intOf v).toNat)
      case atStart => exact ⟨0, Nat.zero_le _, rfl, fun x hx => absurd hx (by omega), 0, rfl⟩
      case round =>
        obtain ⟨j, hj, rfl, hsame, q, rfl⟩ := hrel
        have HS := Lib.hid hsame
        clear hsame
        by_cases hlt : j < n
        · have hjl : j < l.length := by rw [HL.out]; exact hlt
          have hjk : j < k.length := by rw [HK.out]; exact hlt
          obtain ⟨b, off, rfl, ha0, ha1, ha2, ha3, ha4, ha5⟩ := hA.at_ hjl
          obtain ⟨b', off', rfl, hb0, hb1, hb2, hb3, hb4, hb5⟩ := hB.at_ hjk
          clear hA hB
          have e1 : (j : Int) < (n : Int) := by omega
          have HX := Lib.hid (⟨hjl, hjk⟩ : j < l.length ∧ j < k.length)
          by_cases heq : l[j] = k[j]
          · have hq := fun W => (dd_neq l[j] k[j] W).trans (show _ = Result.ok (Value.bool false) W by rw [decide_eq_true heq]; rfl)
            have HE := Lib.hid heq
            clear heq
            go_wp2_with fail
            go_quiet (fail)
            go_wp2
            go_roundw
            case rel => exact ⟨j + 1, by omega, by go_num, fun x hx => by
              rcases Nat.lt_or_ge x j with h1 | h1
              · exact HS.out x h1
              · have : x = j := by omega
                subst this
                rw [List.getElem?_eq_getElem HX.out.1, List.getElem?_eq_getElem HX.out.2, HE.out], _, rfl⟩
            case measure => simp [intOf]; omega
          · have hq := fun W => (dd_neq l[j] k[j] W).trans (show _ = Result.ok (Value.bool true) W by rw [decide_eq_false heq]; rfl)
            go_wp2_with fail
            go_quiet (fail)
            go_wp2
            go_ret
            refine ⟨ret_bool ?_, (hG.drewN _).drewN _⟩
            symm
            rw [decide_eq_false_iff_not]
            rintro ⟨_, rfl⟩
            exact heq rfl
        · go_wp2
          go_ret
          refine ⟨ret_bool ?_, hG.drewN _⟩
          symm
          rw [decide_eq_true_eq]
          refine ⟨trivial, ?_⟩
          apply List.ext_getElem?
          intro x
          rcases Nat.lt_or_ge x n with hx | hx
          · exact HS.out x (by omega)
          · rw [List.getElem?_eq_none (by rw [HL.out]; omega), List.getElem?_eq_none (by rw [HK.out]; omega)]
    · have hne : ((n : Int) != (m : Int)) = true := by simp; omega
      go_enter Try.func23, Try.ntmps23
      go_wp2
      go_ret
      refine ⟨ret_bool ?_, hG⟩
      symm
      rw [decide_eq_false_iff_not]
      rintro ⟨_, rfl⟩
      exact hnm (HL.out.symm.trans HK.out)
  · have hT' : (T != U) = true := by simpa using hT
    go_enter Try.func23, Try.ntmps23
    go_wp2
    go_ret
    refine ⟨ret_bool ?_, hG⟩
    symm
    rw [decide_eq_false_iff_not]
    rintro ⟨h1, _⟩
    exact hT h1
end Go.Proofs.Ytpbelnbknnhgnaa
