/- Comparing objects and heaps. -/
import Derived.Test.YtldabchaflnmdaaSm
namespace Go.Proofs.Ytldabchaflnmdaa
open Go.RowKit

set_option maxHeartbeats 1000000 in
theorem sobj_any (o p : Ob) (A B : Option Addr) (n m c d : Nat) (w : World) (hA0 : Sl w 31 2 A n (vcells o.fs)) (hB0 : Sl w 31 2 B m (vcells p.fs)) (hn : n ≤ 1000000) (hm : m ≤ 1000000) :
    Calls Try.prog 25 #[.agg #[.int .i64 o.id, .slice A n c], .agg #[.int .i64 p.id, .slice B m d]] w fun e w' => e = .returned (.bool (decide (o = p))) ∧ Gr [] w w' := by
  obtain ⟨i, l⟩ := o
  obtain ⟨i', k⟩ := p
  simp only at hA0 hB0 ⊢
  have HL := Lib.hid (vals_len hA0)
  have HK := Lib.hid (vals_len hB0)
  have hb1 : Bk ((w.alloc (.cells #[.int .i64 i, .slice A n c] 43)).alloc (.cells #[.int .i64 i', .slice B m d] 43)) w.heap.size 43 #[.int .i64 i, .slice A n c] := (Bk.new w _ _).alloc _
  have hb2 : Bk ((w.alloc (.cells #[.int .i64 i, .slice A n c] 43)).alloc (.cells #[.int .i64 i', .slice B m d] 43)) (w.heap.size + 1) 43 #[.int .i64 i', .slice B m d] := by simpa using Bk.new (w.alloc (.cells #[.int .i64 i, .slice A n c] 43)) 43 #[.int .i64 i', .slice B m d]
  have hg0 := ((Gr.refl [] w).alloc (.cells #[.int .i64 i, .slice A n c] 43)).alloc (.cells #[.int .i64 i', .slice B m d] 43)
  have hA := hA0.gr0 hg0
  have hB := hB0.gr0 hg0
  obtain ⟨hx0, hx1⟩ := hb1.cells2
  obtain ⟨hy0, hy1⟩ := hb2.cells2
  by_cases hi : i = i'
  · subst hi
    by_cases hnm : n = m
    · subst hnm
      go_enter Try.func25, Try.ntmps25
      go_wp2
      go_loopw [23] (fun v w' => ∃ j : Nat, j ≤ n ∧ v = .int .i64 j ∧ (∀ x, x < j → l[x]? = k[x]?) ∧ ∃ q, w' = (((w.alloc (.cells #[.int .i64 i, .slice A n c] 43)).alloc (.cells #[.int .i64 i, .slice B n d] 43)).drewN q)) (fun v _ => n - (intOf v).toNat)
      case atStart => exact ⟨0, Nat.zero_le _, rfl, fun x hx => absurd hx (by omega), 0, rfl⟩
      case round =>
        obtain ⟨j, hj, rfl, hsame, q, rfl⟩ := hrel
        have HS := Lib.hid hsame
        clear hsame
        by_cases hlt : j < n
        · have hjl : j < l.length := by rw [HL.out]; exact hlt
          have hjk : j < k.length := by rw [HK.out]; exact hlt
          obtain ⟨b, off, rfl, ha0, ha1⟩ := vals_at hA hjl
          obtain ⟨b', off', rfl, hc0, hc1⟩ := vals_at hB hjk
          have e1 : (j : Int) < (n : Int) := by omega
          clear hA0 hB0 hA hB
          by_cases heq : l[j] = k[j]
          · have hq := fun W => (vl_neq l[j] k[j] W).trans (show _ = Result.ok (Value.bool false) W by rw [decide_eq_true heq]; rfl)
            have HE := Lib.hid heq
            clear heq
            go_wp2_with fail
            go_quiet (fail)
            go_wp2
            go_roundw
            case rel => exact ⟨j + 1, by omega, by go_num, fun x hx => by
              rcases Nat.lt_or_ge x j with h1 | h1
              · exact HS.out x h1
              · have : x = j := by omega
                subst this
                rw [List.getElem?_eq_getElem (by omega), List.getElem?_eq_getElem (by omega), HE.out], _, rfl⟩
            case measure => simp [intOf]; omega
          · have hq := fun W => (vl_neq l[j] k[j] W).trans (show _ = Result.ok (Value.bool true) W by rw [decide_eq_false heq]; rfl)
            go_wp2_with fail
            go_quiet (fail)
            go_wp2
            go_ret
            refine ⟨ret_bool ?_, (hg0.drewN _).drewN _⟩
            symm
            rw [decide_eq_false_iff_not]
            intro h
            injection h with _ h
            subst h
            exact heq rfl
        · go_wp2
          go_ret
          refine ⟨ret_bool ?_, hg0.drewN _⟩
          symm
          rw [decide_eq_true_eq]
          congr 1
          apply List.ext_getElem?
          intro x
          have hl := HL.out
          have hk := HK.out
          rcases Nat.lt_or_ge x n with hx | hx
          · exact HS.out x (by omega)
          · rw [List.getElem?_eq_none (by omega), List.getElem?_eq_none (by omega)]
    · have hne : ((n : Int) != (m : Int)) = true := by simp; omega
      have hne2 : ((i : Int) != i) = false := by simp
      go_enter Try.func25, Try.ntmps25
      go_wp2
      go_ret
      refine ⟨ret_bool ?_, hg0⟩
      symm
      rw [decide_eq_false_iff_not]
      rintro h
      injection h with _ h
      subst h
      exact hnm (HL.out.symm.trans HK.out)
  · have hne : ((i : Int) != i') = true := by simpa using hi
    go_enter Try.func25, Try.ntmps25
    go_wp2
    go_ret
    refine ⟨ret_bool ?_, hg0⟩
    symm
    rw [decide_eq_false_iff_not]
    rintro h
    injection h with h _
    exact hi h
end Go.Proofs.Ytldabchaflnmdaa
