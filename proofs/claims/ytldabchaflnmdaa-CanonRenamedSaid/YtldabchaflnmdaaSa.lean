/- Comparing lists of objects; heaps. -/
import Derived.Test.YtldabchaflnmdaaSo
namespace Go.Proofs.Ytldabchaflnmdaa
open Go.RowKit

set_option maxHeartbeats 1000000 in
theorem sobjs_any (A B : Option Addr) (c d : Nat) (l k : List Rw) (w : World) (hA : Os w A l) (hB : Os w B k) (hRA : Rok w l) (hRB : Rok w k) (hn : l.length ≤ 1000000) (hm : k.length ≤ 1000000) :
    Calls Try.prog 21 #[.slice A l.length c, .slice B k.length d] w fun e w' => e = .returned (.bool (decide (obs l = obs k))) ∧ Gr [] w w' := by
  by_cases hnm : l.length = k.length
  · have HN := Lib.hid hnm
    have hd : ((l.length : Int) != (k.length : Int)) = false := by simp [hnm]
    clear hnm
    go_enter Try.func21, Try.ntmps21
    go_wp2
    go_loopw [13] (fun v w' => ∃ j : Nat, j ≤ l.length ∧ v = .int .i64 j ∧ (∀ x, x < j → (obs l)[x]? = (obs k)[x]?) ∧ Gr [] w w') (fun v _ => l.length - (intOf v).toNat)
    case atStart => exact ⟨0, Nat.zero_le _, rfl, fun x hx => absurd hx (by omega), Gr.refl _ _⟩
    case round =>
      obtain ⟨j, hj, rfl, hsame, hgr⟩ := hrel
      have HS := Lib.hid hsame
      clear hsame
      by_cases hlt : j < l.length
      · have hjk : j < k.length := by rw [← HN.out]; exact hlt
        obtain ⟨b, off, rfl, ha0, ha1⟩ := (hA.gr0 hgr).at_ hlt
        obtain ⟨b', off', rfl, hc0, hc1⟩ := (hB.gr0 hgr).at_ hjk
        have hva := (hRA.gr0 hgr l[j] (List.getElem_mem hlt))
        have hvb := (hRB.gr0 hgr k[j] (List.getElem_mem hjk))
        have HE1 := Lib.hid (show (obs l)[j]? = some l[j].o by simp [obs, List.getElem?_eq_getElem hlt])
        have HE2 := Lib.hid (show (obs k)[j]? = some k[j].o by simp [obs, List.getElem?_eq_getElem hjk])
        obtain ⟨⟨⟨i1, f1⟩, A1, c1⟩, hl1⟩ : ∃ r, l[j] = r := ⟨_, rfl⟩
        obtain ⟨⟨⟨i2, f2⟩, A2, c2⟩, hl2⟩ : ∃ r, k[j] = r := ⟨_, rfl⟩
        rw [hl1] at ha0 ha1 hva HE1
        rw [hl2] at hc0 hc1 hvb HE2
        clear hl1 hl2
        simp only at ha0 ha1 hva hc0 hc1 hvb HE1 HE2
        by_cases heq : (⟨i1, f1⟩ : Ob) = ⟨i2, f2⟩
        · have HD := Lib.hid (decide_eq_true heq)
          have HE := Lib.hid heq
          clear heq
          go_wp2_with fail
          go_region_with (go_at_call 25; refine (sobj_any ⟨i1, f1⟩ ⟨i2, f2⟩ A1 A2 f1.length f2.length c1 c2 _ hva.1.drew hvb.1.drew hva.2.2.1 hvb.2.2.1).mono ?_; rintro e w2 ⟨rfl, hg2⟩; rw [HD.out])
          all_goals
            go_wp2
            go_roundw
            case rel => exact ⟨j + 1, by omega, by go_num, fun x hx => by
              rcases Nat.lt_or_ge x j with h1 | h1
              · exact HS.out x h1
              · have : x = j := by omega
                subst this
                rw [HE1.out, HE2.out, HE.out], hgr.drew.trans hg2⟩
            case measure => simp [intOf]; omega
        · have HD := Lib.hid (decide_eq_false heq)
          have HE := Lib.hid heq
          clear heq
          go_wp2_with fail
          go_region_with (go_at_call 25; refine (sobj_any ⟨i1, f1⟩ ⟨i2, f2⟩ A1 A2 f1.length f2.length c1 c2 _ hva.1.drew hvb.1.drew hva.2.2.1 hvb.2.2.1).mono ?_; rintro e w2 ⟨rfl, hg2⟩; rw [HD.out])
          all_goals
            go_wp2
            go_ret
            refine ⟨ret_bool ?_, hgr.drew.trans hg2⟩
            symm
            rw [decide_eq_false_iff_not]
            intro h
            have := HE1.out
            rw [h, HE2.out] at this
            injection this with this
            exact HE.out this.symm
      · go_wp2
        go_ret
        refine ⟨ret_bool ?_, hgr⟩
        symm
        rw [decide_eq_true_eq]
        apply List.ext_getElem?
        intro x
        have hl := HN.out
        have e1 : (obs l).length = l.length := List.length_map _
        have e2 : (obs k).length = k.length := List.length_map _
        rcases Nat.lt_or_ge x l.length with hx | hx
        · exact HS.out x (by omega)
        · rw [List.getElem?_eq_none (by omega), List.getElem?_eq_none (by omega)]
  · have hne : ((l.length : Int) != (k.length : Int)) = true := by simp; omega
    go_enter Try.func21, Try.ntmps21
    go_wp2
    go_ret
    refine ⟨ret_bool ?_, Gr.refl _ _⟩
    symm
    rw [decide_eq_false_iff_not]
    intro h
    have e1 : (obs l).length = l.length := List.length_map _
    have e2 : (obs k).length = k.length := List.length_map _
    rw [h] at e1
    omega

set_option maxHeartbeats 400000 in
theorem same_any (A B : Option Addr) (c d : Nat) (l k : List Rw) (w : World) (hA : Os w A l) (hB : Os w B k) (hRA : Rok w l) (hRB : Rok w k) (hn : l.length ≤ 1000000) (hm : k.length ≤ 1000000) :
    Calls Try.prog 11 #[.agg #[.slice A l.length c], .agg #[.slice B k.length d]] w fun e w' => e = .returned (.bool (decide (obs l = obs k))) ∧ Gr [] w w' := by
  have hg0 := ((Gr.refl [] w).alloc (.cells #[.slice A l.length c] 28)).alloc (.cells #[.slice B k.length d] 28)
  have h0 := (((Bk.new w 28 #[.slice A l.length c]).alloc (.cells #[.slice B k.length d] 28))).cell 0
  have h1 : ((w.alloc (.cells #[.slice A l.length c] 28)).alloc (.cells #[.slice B k.length d] 28)).cell? ⟨w.heap.size + 1, 0, none⟩ = some (.slice B k.length d) := by simp
  go_enter Try.func11, Try.ntmps11
  go_wp2_with (go_at_call 21; refine (sobjs_any A B c d l k _ (hA.gr0 hg0) (hB.gr0 hg0) (hRA.gr0 hg0) (hRB.gr0 hg0) hn hm).mono ?_; rintro e w2 ⟨rfl, hg2⟩)
  go_ret
  exact ⟨rfl, hg0.trans hg2⟩
end Go.Proofs.Ytldabchaflnmdaa
