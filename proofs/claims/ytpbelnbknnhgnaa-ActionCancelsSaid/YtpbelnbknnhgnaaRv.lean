/- The reference's Valid. -/
import Derived.Test.YtpbelnbknnhgnaaQs
namespace Go.Proofs.Ytpbelnbknnhgnaa
open Go.RowKit

theorem okD_rv (l : List Dd) (T : Int) : okD l T = match rv [] 0 l with | none => false | some n => n == T := by
  unfold okD
  rw [valid_eq]
  cases scan l with
  | none => rfl
  | some x => rfl
theorem rv_step {l : List Dd} {k : Nat} (hk : k < l.length) (n : Int) : rv (l.take k) n (l.drop k) = match rok (l.take k) n l[k] with | none => none | some n' => rv (l.take (k + 1)) n' (l.drop (k + 1)) := by
  rw [List.drop_eq_getElem_cons hk]
  conv => lhs; unfold rv
  rw [List.take_succ_eq_append_getElem hk]
  cases rok (l.take k) n l[k] <;> rfl

def RvI (l : List Dd) (T : Int) (k : Nat) (g : Int) : Prop := okD l T = match rv (l.take k) g (l.drop k) with | none => false | some n => n == T
set_option maxRecDepth 100000 in
set_option maxHeartbeats 4000000 in
theorem rvalid_any (A : Option Addr) (c : Nat) (l : List Dd) (T : Int) (w : World) (h : Ds w A l) (hn : l.length ≤ 999999) (hlc : l.length ≤ c) :
    Calls Try.prog 21 #[.agg #[.slice A l.length c, .int .i64 T]] w fun e w' => e = .returned (.bool (okD l T)) ∧ Gr [] w w' := by
  have HV := Lib.hid (show RvI l T 0 0 by unfold RvI; rw [okD_rv]; rfl)
  go_enter Try.func21, Try.ntmps21
  go_wp2
  go_loopw [3, 4] (fun gv i w' => ∃ (k : Nat) (g : Int), k ≤ l.length ∧ gv = .int .i64 g ∧ i = .int .i64 k ∧ RvI l T k g ∧ 0 ≤ g ∧ g ≤ k ∧ Bk w' w.heap.size 26 #[.slice A l.length c, .int .i64 T] ∧ Gr [] w w') (fun _ i _ => l.length - (intOf i).toNat)
  case atStart => exact ⟨0, 0, Nat.zero_le _, rfl, rfl, HV.out, by omega, by omega, Bk.new w _ _, (Gr.refl _ _).alloc _⟩
  case round =>
    obtain ⟨k, g, hk, rfl, rfl, hsc, hg0, hgk, hB, hgr⟩ := hrel
    have HSC := Lib.hid (show okD l T = match rv (l.take k) g (l.drop k) with | none => false | some n => n == T from hsc)
    clear hsc HV
    obtain ⟨x0, x1⟩ := hB.cells2
    by_cases hlt : k < l.length
    · have HS := Lib.hid (rv_step hlt g)
      have HN := Lib.hid (show rok (l.take k) g l[k] = none → okD l T = false from fun hx => by rw [HSC.out, HS.out, hx])
      have HY := Lib.hid (show ∀ g', rok (l.take k) g l[k] = some g' → RvI l T (k + 1) g' from fun g' hx => by unfold RvI; rw [HSC.out, HS.out, hx])
      clear HS
      have hdt := (h.gr0 hgr).take k hk
      obtain ⟨b, off, rfl, hc0, hc1, hc2, hc3, hc4, hc5⟩ := (h.gr0 hgr).at_ hlt
      generalize l[k] = d at *
      obtain ⟨dk, dt, dv, ⟨a1, a2, a3⟩⟩ := d
      simp only at hc0 hc1 hc2 hc3 hc4 hc5 HN HY
      have e1 : IntKind.i64.wrap (g + 1) = g + 1 := IntWalk.i64_in _ (by omega)
      by_cases h1 : dk = 1
      · subst h1
        by_cases ht : dt = g + 1
        · subst ht
          by_cases ha : (⟨a1, a2, a3⟩ : Ac) = plainA
          · have hq := fun V => (ac_neq ⟨a1, a2, a3⟩ plainA V).trans (show _ = Result.ok (Value.bool false) V by simp [ha])
            simp only [plainA] at hq
            have HO := Lib.hid (HY.out (g + 1) (show rok (l.take k) g ⟨1, g + 1, dv, ⟨a1, a2, a3⟩⟩ = some (g + 1) by simp [rok, ha]))
            clear ha hdt h
            go_wp2
            go_roundw
            case rel => exact ⟨k + 1, g + 1, by omega, rfl, by go_num, HO.out, by omega, by omega, hB.alloc _, hgr.alloc _⟩
            case measure => simp [intOf]; omega
          · have HX := Lib.hid (HN.out (show rok (l.take k) g ⟨1, g + 1, dv, ⟨a1, a2, a3⟩⟩ = none by simp [rok, ha]))
            have hq := fun V => (ac_neq ⟨a1, a2, a3⟩ plainA V).trans (show _ = Result.ok (Value.bool true) V by simp [ha])
            simp only [plainA] at hq
            clear ha
            go_wp2
            go_ret
            exact ⟨ret_bool HX.out.symm, hgr.alloc _⟩
        · have HX := Lib.hid (HN.out (show rok (l.take k) g ⟨1, dt, dv, ⟨a1, a2, a3⟩⟩ = none by simp [rok, ht]))
          have hne : (dt != g + 1) = true := by simpa using ht
          clear ht
          go_wp2
          go_ret
          exact ⟨ret_bool HX.out.symm, hgr.alloc _⟩
      · by_cases h2 : dk = 2
        · subst h2
          have hB1 := hB.alloc (.cells #[.int .i64 2, .int .i64 dt, .int .i64 dv, .bool a1, .int .i64 a2, .int .i64 a3] 32)
          have hD1 := (by simpa using Bk.new wr 32 #[.int .i64 2, .int .i64 dt, .int .i64 dv, .bool a1, .int .i64 a2, .int .i64 a3] : Bk (wr.alloc (.cells #[.int .i64 2, .int .i64 dt, .int .i64 dv, .bool a1, .int .i64 a2, .int .i64 a3] 32)) wr.heap.size 32 #[.int .i64 2, .int .i64 dt, .int .i64 dv, .bool a1, .int .i64 a2, .int .i64 a3])
          have hgr1 := hgr.alloc (.cells #[.int .i64 2, .int .i64 dt, .int .i64 dv, .bool a1, .int .i64 a2, .int .i64 a3] 32)
          have hdt1 := (hdt.gr0 ((Gr.refl [] wr).alloc (.cells #[.int .i64 2, .int .i64 dt, .int .i64 dv, .bool a1, .int .i64 a2, .int .i64 a3] 32)))
          have hk0 : (0 : Int) ≤ (k : Int) := by omega
          have hkc : (k : Int) ≤ (c : Int) := by omega
          go_wp2_with fail
          generalize wr.alloc (.cells #[.int .i64 2, .int .i64 dt, .int .i64 dv, .bool a1, .int .i64 a2, .int .i64 a3] 32) = W at *
          have p0 := hB1.cell 0
          obtain ⟨d0, d1, d2⟩ : W.cell? ⟨wr.heap.size, 0, none⟩ = some (.int .i64 2) ∧ W.cell? ⟨wr.heap.size, 1, none⟩ = some (.int .i64 dt) ∧ W.cell? ⟨wr.heap.size, 2, none⟩ = some (.int .i64 dv) := ⟨hD1.cell 0, hD1.cell 1, hD1.cell 2⟩
          have d3 := hD1.cell 3
          have d4 := hD1.cell 4
          have d5 := hD1.cell 5
          have HD := Lib.hid hdt1
          clear hdt hdt1
          cases hrs : rsv (l.take k) dt with
          | none =>
            have HX := Lib.hid (HN.out (show rok (l.take k) g ⟨2, dt, dv, ⟨a1, a2, a3⟩⟩ = none by simp [rok, hrs]))
            have HR := Lib.hid hrs
            clear hrs
            go_quiet ((go_at_call 37; exact quiet_ln (rsv_none _ c l k dt _ HD.out (by omega) (by omega) HR.out)))
            go_wp2
            go_quiet (fail)
            go_wp2
            go_ret
            exact ⟨ret_bool HX.out.symm, (hgr1.drewN _).drewN _⟩
          | some v =>
            by_cases hv : v = dv
            · have hvv : (v != dv) = false := by simp [hv]
              have HR := Lib.hid hrs
              have HR2 := Lib.hid (hrs.trans (by rw [hv]) : rsv (l.take k) dt = some dv)
              clear hv hrs
              cases hst : stl (l.take k) dt with
              | true =>
                have HX := Lib.hid (HN.out (show rok (l.take k) g ⟨2, dt, dv, ⟨a1, a2, a3⟩⟩ = none by simp [rok, hst]))
                have HT := Lib.hid hst
                clear hst
                go_quiet ((go_at_call 37; exact quiet_ln (rsv_some _ c l k dt v _ HD.out (by omega) (by omega) HR.out)))
                go_wp2
                go_quiet ((go_at_call 38; exact quiet_l2 (stl_is _ c l k dt true _ HD.out (by omega) (by omega) HT.out)))
                go_wp2
                go_ret
                exact ⟨ret_bool HX.out.symm, (hgr1.drewN _).drewN _⟩
              | false =>
                have HT := Lib.hid hst
                clear hst
                by_cases ha : (⟨a1, a2, a3⟩ : Ac) = plainA
                · have HO := Lib.hid (HY.out g (show rok (l.take k) g ⟨2, dt, dv, ⟨a1, a2, a3⟩⟩ = some g by simp [rok, ha, HT.out, HR2.out]))
                  have hq := fun V => (ac_neq ⟨a1, a2, a3⟩ plainA V).trans (show _ = Result.ok (Value.bool false) V by simp [ha])
                  simp only [plainA] at hq
                  clear ha
                  go_quiet ((go_at_call 37; exact quiet_ln (rsv_some _ c l k dt v _ HD.out (by omega) (by omega) HR.out)))
                  go_wp2
                  go_quiet ((go_at_call 38; exact quiet_l2 (stl_is _ c l k dt false _ HD.out (by omega) (by omega) HT.out)))
                  go_wp2
                  go_roundw
                  case rel => exact ⟨k + 1, g, by omega, rfl, by go_num, HO.out, hg0, by omega, hB1.drewN _, hgr1.drewN _⟩
                  case measure => simp [intOf]; omega
                · have HX := Lib.hid (HN.out (show rok (l.take k) g ⟨2, dt, dv, ⟨a1, a2, a3⟩⟩ = none by simp [rok, ha]))
                  have hq := fun V => (ac_neq ⟨a1, a2, a3⟩ plainA V).trans (show _ = Result.ok (Value.bool true) V by simp [ha])
                  simp only [plainA] at hq
                  clear ha
                  go_quiet ((go_at_call 37; exact quiet_ln (rsv_some _ c l k dt v _ HD.out (by omega) (by omega) HR.out)))
                  go_wp2
                  go_quiet ((go_at_call 38; exact quiet_l2 (stl_is _ c l k dt false _ HD.out (by omega) (by omega) HT.out)))
                  go_wp2
                  go_ret
                  exact ⟨ret_bool HX.out.symm, (hgr1.drewN _).drewN _⟩
            · have HX := Lib.hid (HN.out (show rok (l.take k) g ⟨2, dt, dv, ⟨a1, a2, a3⟩⟩ = none by simp [rok, hrs, hv]))
              have hvv : (v != dv) = true := by simpa using hv
              have HR := Lib.hid hrs
              clear hrs hv
              go_quiet ((go_at_call 37; exact quiet_ln (rsv_some _ c l k dt v _ HD.out (by omega) (by omega) HR.out)))
              go_wp2
              go_quiet (fail)
              go_wp2
              go_ret
              exact ⟨ret_bool HX.out.symm, (hgr1.drewN _).drewN _⟩
        · by_cases h3 : dk = 3
          · subst h3
            have hB1 := hB.alloc (.cells #[.int .i64 3, .int .i64 dt, .int .i64 dv, .bool a1, .int .i64 a2, .int .i64 a3] 32)
            have hD1 := (by simpa using Bk.new wr 32 #[.int .i64 3, .int .i64 dt, .int .i64 dv, .bool a1, .int .i64 a2, .int .i64 a3] : Bk (wr.alloc (.cells #[.int .i64 3, .int .i64 dt, .int .i64 dv, .bool a1, .int .i64 a2, .int .i64 a3] 32)) wr.heap.size 32 #[.int .i64 3, .int .i64 dt, .int .i64 dv, .bool a1, .int .i64 a2, .int .i64 a3])
            have hgr1 := hgr.alloc (.cells #[.int .i64 3, .int .i64 dt, .int .i64 dv, .bool a1, .int .i64 a2, .int .i64 a3] 32)
            have hdt1 := (hdt.gr0 ((Gr.refl [] wr).alloc (.cells #[.int .i64 3, .int .i64 dt, .int .i64 dv, .bool a1, .int .i64 a2, .int .i64 a3] 32)))
            have hk0 : (0 : Int) ≤ (k : Int) := by omega
            have hkc : (k : Int) ≤ (c : Int) := by omega
            go_wp2_with fail
            generalize wr.alloc (.cells #[.int .i64 3, .int .i64 dt, .int .i64 dv, .bool a1, .int .i64 a2, .int .i64 a3] 32) = W at *
            have p0 := hB1.cell 0
            obtain ⟨d0, d1, d2⟩ : W.cell? ⟨wr.heap.size, 0, none⟩ = some (.int .i64 3) ∧ W.cell? ⟨wr.heap.size, 1, none⟩ = some (.int .i64 dt) ∧ W.cell? ⟨wr.heap.size, 2, none⟩ = some (.int .i64 dv) := ⟨hD1.cell 0, hD1.cell 1, hD1.cell 2⟩
            have d3 := hD1.cell 3
            have d4 := hD1.cell 4
            have d5 := hD1.cell 5
            have HD := Lib.hid hdt1
            clear hdt hdt1
            cases hrs : rsv (l.take k) dt with
            | none =>
              have HX := Lib.hid (HN.out (show rok (l.take k) g ⟨3, dt, dv, ⟨a1, a2, a3⟩⟩ = none by simp [rok, hrs]))
              have HR := Lib.hid hrs
              clear hrs
              go_quiet ((go_at_call 37; exact quiet_ln (rsv_none _ c l k dt _ HD.out (by omega) (by omega) HR.out)))
              go_wp2
              go_quiet (fail)
              go_wp2
              go_ret
              exact ⟨ret_bool HX.out.symm, (hgr1.drewN _).drewN _⟩
            | some v =>
              by_cases hv : v = dv
              · have hvv : (v != dv) = false := by simp [hv]
                have HR := Lib.hid hrs
                have HR2 := Lib.hid (hrs.trans (by rw [hv]) : rsv (l.take k) dt = some dv)
                clear hv hrs
                cases hst : stl (l.take k) dt with
                | true =>
                  have HX := Lib.hid (HN.out (show rok (l.take k) g ⟨3, dt, dv, ⟨a1, a2, a3⟩⟩ = none by simp [rok, hst]))
                  have HT := Lib.hid hst
                  clear hst
                  go_quiet ((go_at_call 37; exact quiet_ln (rsv_some _ c l k dt v _ HD.out (by omega) (by omega) HR.out)))
                  go_wp2
                  go_quiet ((go_at_call 38; exact quiet_l2 (stl_is _ c l k dt true _ HD.out (by omega) (by omega) HT.out)))
                  go_wp2
                  go_ret
                  exact ⟨ret_bool HX.out.symm, (hgr1.drewN _).drewN _⟩
                | false =>
                  have HT := Lib.hid hst
                  clear hst
                  by_cases ha : (⟨a1, a2, a3⟩ : Ac) = plainA
                  · have HO := Lib.hid (HY.out g (show rok (l.take k) g ⟨3, dt, dv, ⟨a1, a2, a3⟩⟩ = some g by simp [rok, ha, HT.out, HR2.out]))
                    have hq := fun V => (ac_neq ⟨a1, a2, a3⟩ plainA V).trans (show _ = Result.ok (Value.bool false) V by simp [ha])
                    simp only [plainA] at hq
                    clear ha
                    go_quiet ((go_at_call 37; exact quiet_ln (rsv_some _ c l k dt v _ HD.out (by omega) (by omega) HR.out)))
                    go_wp2
                    go_quiet ((go_at_call 38; exact quiet_l2 (stl_is _ c l k dt false _ HD.out (by omega) (by omega) HT.out)))
                    go_wp2
                    go_roundw
                    case rel => exact ⟨k + 1, g, by omega, rfl, by go_num, HO.out, hg0, by omega, hB1.drewN _, hgr1.drewN _⟩
                    case measure => simp [intOf]; omega
                  · have HX := Lib.hid (HN.out (show rok (l.take k) g ⟨3, dt, dv, ⟨a1, a2, a3⟩⟩ = none by simp [rok, ha]))
                    have hq := fun V => (ac_neq ⟨a1, a2, a3⟩ plainA V).trans (show _ = Result.ok (Value.bool true) V by simp [ha])
                    simp only [plainA] at hq
                    clear ha
                    go_quiet ((go_at_call 37; exact quiet_ln (rsv_some _ c l k dt v _ HD.out (by omega) (by omega) HR.out)))
                    go_wp2
                    go_quiet ((go_at_call 38; exact quiet_l2 (stl_is _ c l k dt false _ HD.out (by omega) (by omega) HT.out)))
                    go_wp2
                    go_ret
                    exact ⟨ret_bool HX.out.symm, (hgr1.drewN _).drewN _⟩
              · have HX := Lib.hid (HN.out (show rok (l.take k) g ⟨3, dt, dv, ⟨a1, a2, a3⟩⟩ = none by simp [rok, hrs, hv]))
                have hvv : (v != dv) = true := by simpa using hv
                have HR := Lib.hid hrs
                clear hrs hv
                go_quiet ((go_at_call 37; exact quiet_ln (rsv_some _ c l k dt v _ HD.out (by omega) (by omega) HR.out)))
                go_wp2
                go_quiet (fail)
                go_wp2
                go_ret
                exact ⟨ret_bool HX.out.symm, (hgr1.drewN _).drewN _⟩
          · by_cases h4 : dk = 4
            · subst h4
              by_cases ht : dt = 0
              · subst ht
                by_cases hv : dv = 0
                · subst hv
                  have HO := Lib.hid (HY.out g (show rok (l.take k) g ⟨4, 0, 0, ⟨a1, a2, a3⟩⟩ = some g by simp [rok]))
                  clear hdt h
                  go_wp2
                  go_roundw
                  case rel => exact ⟨k + 1, g, by omega, rfl, by go_num, HO.out, hg0, by omega, hB.alloc _, hgr.alloc _⟩
                  case measure => simp [intOf]; omega
                · have HX := Lib.hid (HN.out (show rok (l.take k) g ⟨4, 0, dv, ⟨a1, a2, a3⟩⟩ = none by simp [rok, hv]))
                  have hne : (dv != 0) = true := by simpa using hv
                  clear hv
                  go_wp2
                  go_ret
                  exact ⟨ret_bool HX.out.symm, hgr.alloc _⟩
              · have HX := Lib.hid (HN.out (show rok (l.take k) g ⟨4, dt, dv, ⟨a1, a2, a3⟩⟩ = none by simp [rok, ht]))
                have hne : (dt != 0) = true := by simpa using ht
                clear ht
                go_wp2
                go_ret
                exact ⟨ret_bool HX.out.symm, hgr.alloc _⟩
            · have HX := Lib.hid (HN.out (show rok (l.take k) g ⟨dk, dt, dv, ⟨a1, a2, a3⟩⟩ = none by simp [rok, h1, h2, h3, h4]))
              have b1 : (dk == 1) = false := by simpa using h1
              have b2 : (dk == 2) = false := by simpa using h2
              have b3 : (dk == 3) = false := by simpa using h3
              have b4 : (dk == 4) = false := by simpa using h4
              clear h1 h2 h3 h4
              go_wp2
              go_ret
              exact ⟨ret_bool HX.out.symm, hgr.alloc _⟩
    · have hkl : k = l.length := by omega
      subst hkl
      have HX := Lib.hid (show okD l T = (g == T) by rw [HSC.out, List.drop_eq_nil_of_le (Nat.le_refl _)]; rfl)
      go_wp2
      go_ret
      exact ⟨ret_bool HX.out.symm, hgr⟩
end Go.Proofs.Ytpbelnbknnhgnaa
