/- The package's reserved: which tickets are open. -/
import Derived.Test.YtpbelnbknnhgnaaDo
import Derived.Carry
import Derived.Deep.QuietTactic
namespace Go.Proofs.Ytpbelnbknnhgnaa
open Go.RowKit

theorem Mo.mono {w : World} {b n m : Nat} {f : Int → Option Int} (h : Mo w b n f) (hn : n ≤ m) : Mo w b m f := by
  obtain ⟨D, h1, h2⟩ := h
  exact ⟨D, h1.mono hn, h2⟩

set_option maxHeartbeats 4000000 in
theorem reserved_any (A : Option Addr) (c : Nat) (l : List Dd) (T : Int) (w : World) (h : Ds w A l) (hn : l.length ≤ 999999) (hw : ∀ d ∈ l, wf64 d.ticket ∧ wf64 d.value) :
    Calls Try.prog 31 #[.agg #[.slice A l.length c, .int .i64 T]] w fun e w' =>
      (scan l = none ∧ e = .returned (.tuple #[.map none, .bool false]) ∧ Gr [] w w') ∨
      ∃ (g : Int) (op : Int → Option Int) (M n : Nat), scan l = some (g, op) ∧ e = .returned (.tuple #[.map (some M), .bool (g == T)]) ∧ Mo w' M n op ∧ n ≤ l.length ∧ w.heap.size ≤ M ∧ Gr [] w w' := by
  have hmm := @run_makeMap Try.prog
  have hG : Gr [] w (((w.alloc (.cells #[.slice A l.length c, .int .i64 T] 26)).alloc (.map #[] 0)).alloc (.cells #[.bool false, .int .i64 0, .int .i64 0] 30)) := (((Gr.refl [] w).alloc _).alloc _).alloc _
  have hA0 : Bk (((w.alloc (.cells #[.slice A l.length c, .int .i64 T] 26)).alloc (.map #[] 0)).alloc (.cells #[.bool false, .int .i64 0, .int .i64 0] 30)) w.heap.size 26 #[.slice A l.length c, .int .i64 T] := ((Bk.new w _ _).alloc _).alloc _
  have hA2 : Bk (((w.alloc (.cells #[.slice A l.length c, .int .i64 T] 26)).alloc (.map #[] 0)).alloc (.cells #[.bool false, .int .i64 0, .int .i64 0] 30)) (w.heap.size + 2) 30 #[.bool false, .int .i64 0, .int .i64 0] := by simpa using Bk.new ((w.alloc (.cells #[.slice A l.length c, .int .i64 T] 26)).alloc (.map #[] 0)) 30 #[.bool false, .int .i64 0, .int .i64 0]
  have hM0 : Mo (((w.alloc (.cells #[.slice A l.length c, .int .i64 T] 26)).alloc (.map #[] 0)).alloc (.cells #[.bool false, .int .i64 0, .int .i64 0] 30)) (w.heap.size + 1) 0 (fun _ => none) := by
    have := Mo.made (w.alloc (.cells #[.slice A l.length c, .int .i64 T] 26))
    rw [show (w.alloc (.cells #[.slice A l.length c, .int .i64 T] 26)).heap.size = w.heap.size + 1 by simp] at this
    exact this.gr ((Gr.refl [] _).alloc _) (by simp)
  go_enter Try.func31, Try.ntmps31
  go_wp2_with fail
  generalize (((w.alloc (.cells #[.slice A l.length c, .int .i64 T] 26)).alloc (.map #[] 0)).alloc (.cells #[.bool false, .int .i64 0, .int .i64 0] 30)) = W at *
  go_loopw [5, 16] (fun gv i w' => ∃ (k : Nat) (g : Int) (op : Int → Option Int), k ≤ l.length ∧ gv = .int .i64 g ∧ i = .int .i64 k ∧ scan (l.take k) = some (g, op) ∧ 0 ≤ g ∧ g ≤ k ∧ Mo w' (w.heap.size + 1) k op ∧ Bk w' w.heap.size 26 #[.slice A l.length c, .int .i64 T] ∧ Bk w' (w.heap.size + 2) 30 #[.bool false, .int .i64 0, .int .i64 0] ∧ Gr [] w w') (fun _ i _ => l.length - (intOf i).toNat)
  case atStart => exact ⟨0, 0, _, Nat.zero_le _, rfl, rfl, scan_nil, by omega, by omega, hM0, hA0, hA2, hG⟩
  case round =>
    obtain ⟨k, g, op, hk, rfl, rfl, hsc, hg0, hgk, hM, hB0, hB2, hgr⟩ := hrel
    have HSC := Lib.hid hsc
    clear hsc
    by_cases hlt : k < l.length
    · have HS := Lib.hid (show scan (l.take (k + 1)) = stepD (some (g, op)) l[k] by rw [List.take_succ_eq_append_getElem hlt, scan_snoc, HSC.out])
      have HN := Lib.hid (show stepD (some (g, op)) l[k] = none → scan l = none from fun hx => by
        rw [← List.take_append_drop (k + 1) l, scan_app, HS.out, hx, foldl_none])
      obtain ⟨hwt, hwv⟩ := hw l[k] (List.getElem_mem hlt)
      obtain ⟨b, off, rfl, hc0, hc1, hc2, hc3, hc4, hc5⟩ := (h.gr0 hgr).at_ hlt
      generalize l[k] = d at *
      obtain ⟨dk, dt, dv, ⟨a1, a2, a3⟩⟩ := d
      simp only at hc0 hc1 hc2 hc3 hc4 hc5 HS HN hwt hwv
      have hMA : Mo (wr.alloc (.cells #[.int .i64 dk, .int .i64 dt, .int .i64 dv, .bool a1, .int .i64 a2, .int .i64 a3] 32)) (w.heap.size + 1) k op := hM.gr ((Gr.refl [] wr).alloc _) (by simp)
      have hlk := hMA.look hwt
      obtain ⟨p0, p1, p2⟩ := (hB2.alloc (.cells #[.int .i64 dk, .int .i64 dt, .int .i64 dv, .bool a1, .int .i64 a2, .int .i64 a3] 32)).cells3
      have e1 : IntKind.i64.wrap (g + 1) = g + 1 := IntWalk.i64_in _ (by omega)
      by_cases h1 : dk = 1
      · subst h1
        by_cases ht : dt = g + 1
        · subst ht
          by_cases ha : (⟨a1, a2, a3⟩ : Ac) = plainA
          · have hq := fun V => (ac_neq ⟨a1, a2, a3⟩ plainA V).trans (show _ = Result.ok (Value.bool false) V by simp [ha])
            simp only [plainA] at hq
            obtain ⟨w4, hup, hM4, hg4⟩ := hMA.update (by simp [maxLen]; omega) hwt hwv
            have HO := Lib.hid (HS.out.trans (show stepD (some (g, op)) ⟨1, g + 1, dv, ⟨a1, a2, a3⟩⟩ = some (g + 1, fun t => if t = g + 1 then some dv else op t) by simp [stepD, ha]))
            clear ha
            go_wp2_with fail
            go_roundw
            case rel =>
              have hG4 : Gr [w.heap.size + 1] (wr.alloc (.cells #[.int .i64 1, .int .i64 (g + 1), .int .i64 dv, .bool a1, .int .i64 a2, .int .i64 a3] 32)) w4 := (Gr.refl [w.heap.size + 1] _).grown hg4 (fun k hk => by injection hk with hk; subst hk; exact .inl (by simp))
              exact ⟨k + 1, g + 1, _, by omega, rfl, by go_num, HO.out, by omega, by omega, hM4.mono (by omega), (hB0.alloc _).gr hG4 (by simp), (hB2.alloc _).gr hG4 (by simp), (hgr.alloc _).grown hg4 (fun k hk => by injection hk with hk; subst hk; exact .inr (by simp))⟩
            case measure => simp [intOf]; omega
          · have HX := Lib.hid (HN.out (show stepD (some (g, op)) ⟨1, g + 1, dv, ⟨a1, a2, a3⟩⟩ = none by simp [stepD, ha]))
            have hq := fun V => (ac_neq ⟨a1, a2, a3⟩ plainA V).trans (show _ = Result.ok (Value.bool true) V by simp [ha])
            simp only [plainA] at hq
            clear ha
            go_wp2
            go_ret2
            exact .inl ⟨HX.out, rfl, hgr.alloc _⟩
        · have HX := Lib.hid (HN.out (show stepD (some (g, op)) ⟨1, dt, dv, ⟨a1, a2, a3⟩⟩ = none by simp [stepD, ht]))
          have hne : (dt != g + 1) = true := by simpa using ht
          clear ht
          go_wp2
          go_ret2
          exact .inl ⟨HX.out, rfl, hgr.alloc _⟩
      · by_cases h2 : dk = 2
        · subst h2
          by_cases ho : op dt = some dv
          · have hlk2 : (op dt).isSome = true ∧ (op dt).getD 0 = dv := by rw [ho]; exact ⟨rfl, rfl⟩
            rw [hlk2.1, hlk2.2] at hlk
            clear hlk2
            by_cases ha : (⟨a1, a2, a3⟩ : Ac) = plainA
            · have hq := fun V => (ac_neq ⟨a1, a2, a3⟩ plainA V).trans (show _ = Result.ok (Value.bool false) V by simp [ha])
              simp only [plainA] at hq
              obtain ⟨w4, hdel, hM4, hg4⟩ := hMA.drop hwt 0
              have HO := Lib.hid (HS.out.trans (show stepD (some (g, op)) ⟨2, dt, dv, ⟨a1, a2, a3⟩⟩ = some (g, fun t => if t = dt then none else op t) by simp [stepD, ho, ha]))
              clear ho ha
              go_wp2_with fail
              go_roundw
              case rel =>
                have hG4 : Gr [w.heap.size + 1] (wr.alloc (.cells #[.int .i64 2, .int .i64 dt, .int .i64 dv, .bool a1, .int .i64 a2, .int .i64 a3] 32)) w4 := (Gr.refl [w.heap.size + 1] _).grown hg4 (fun k hk => by injection hk with hk; subst hk; exact .inl (by simp))
                exact ⟨k + 1, g, _, by omega, rfl, by go_num, HO.out, by omega, by omega, hM4.mono (by omega), (hB0.alloc _).gr hG4 (by simp), (hB2.alloc _).gr hG4 (by simp), (hgr.alloc _).grown hg4 (fun k hk => by injection hk with hk; subst hk; exact .inr (by simp))⟩
              case measure => simp [intOf]; omega
            · have HX := Lib.hid (HN.out (show stepD (some (g, op)) ⟨2, dt, dv, ⟨a1, a2, a3⟩⟩ = none by simp [stepD, ho, ha]))
              have hq := fun V => (ac_neq ⟨a1, a2, a3⟩ plainA V).trans (show _ = Result.ok (Value.bool true) V by simp [ha])
              simp only [plainA] at hq
              clear ho ha
              go_wp2
              go_ret2
              exact .inl ⟨HX.out, rfl, hgr.alloc _⟩
          · have HX := Lib.hid (HN.out (show stepD (some (g, op)) ⟨2, dt, dv, ⟨a1, a2, a3⟩⟩ = none by simp [stepD, ho]))
            cases hop : op dt with
            | none =>
              rw [hop] at hlk
              simp only [Option.isSome_none, Option.getD_none] at hlk
              clear ho hop
              go_wp2
              go_ret2
              exact .inl ⟨HX.out, rfl, hgr.alloc _⟩
            | some v =>
              rw [hop] at hlk
              simp only [Option.isSome_some, Option.getD_some] at hlk
              have hvd : (v != dv) = true := by simpa using fun e : v = dv => ho (by rw [hop, e])
              clear ho hop
              go_wp2
              go_ret2
              exact .inl ⟨HX.out, rfl, hgr.alloc _⟩
        · by_cases h3 : dk = 3
          · subst h3
            by_cases ho : op dt = some dv
            · have hlk2 : (op dt).isSome = true ∧ (op dt).getD 0 = dv := by rw [ho]; exact ⟨rfl, rfl⟩
              rw [hlk2.1, hlk2.2] at hlk
              clear hlk2
              by_cases ha : (⟨a1, a2, a3⟩ : Ac) = plainA
              · have hq := fun V => (ac_neq ⟨a1, a2, a3⟩ plainA V).trans (show _ = Result.ok (Value.bool false) V by simp [ha])
                simp only [plainA] at hq
                obtain ⟨w4, hdel, hM4, hg4⟩ := hMA.drop hwt 0
                have HO := Lib.hid (HS.out.trans (show stepD (some (g, op)) ⟨3, dt, dv, ⟨a1, a2, a3⟩⟩ = some (g, fun t => if t = dt then none else op t) by simp [stepD, ho, ha]))
                clear ho ha
                go_wp2_with fail
                go_roundw
                case rel =>
                  have hG4 : Gr [w.heap.size + 1] (wr.alloc (.cells #[.int .i64 3, .int .i64 dt, .int .i64 dv, .bool a1, .int .i64 a2, .int .i64 a3] 32)) w4 := (Gr.refl [w.heap.size + 1] _).grown hg4 (fun k hk => by injection hk with hk; subst hk; exact .inl (by simp))
                  exact ⟨k + 1, g, _, by omega, rfl, by go_num, HO.out, by omega, by omega, hM4.mono (by omega), (hB0.alloc _).gr hG4 (by simp), (hB2.alloc _).gr hG4 (by simp), (hgr.alloc _).grown hg4 (fun k hk => by injection hk with hk; subst hk; exact .inr (by simp))⟩
                case measure => simp [intOf]; omega
              · have HX := Lib.hid (HN.out (show stepD (some (g, op)) ⟨3, dt, dv, ⟨a1, a2, a3⟩⟩ = none by simp [stepD, ho, ha]))
                have hq := fun V => (ac_neq ⟨a1, a2, a3⟩ plainA V).trans (show _ = Result.ok (Value.bool true) V by simp [ha])
                simp only [plainA] at hq
                clear ho ha
                go_wp2
                go_ret2
                exact .inl ⟨HX.out, rfl, hgr.alloc _⟩
            · have HX := Lib.hid (HN.out (show stepD (some (g, op)) ⟨3, dt, dv, ⟨a1, a2, a3⟩⟩ = none by simp [stepD, ho]))
              cases hop : op dt with
              | none =>
                rw [hop] at hlk
                simp only [Option.isSome_none, Option.getD_none] at hlk
                clear ho hop
                go_wp2
                go_ret2
                exact .inl ⟨HX.out, rfl, hgr.alloc _⟩
              | some v =>
                rw [hop] at hlk
                simp only [Option.isSome_some, Option.getD_some] at hlk
                have hvd : (v != dv) = true := by simpa using fun e : v = dv => ho (by rw [hop, e])
                clear ho hop
                go_wp2
                go_ret2
                exact .inl ⟨HX.out, rfl, hgr.alloc _⟩
          · by_cases h4 : dk = 4
            · subst h4
              by_cases ht : dt = 0
              · subst ht
                by_cases hv : dv = 0
                · subst hv
                  have HO := Lib.hid (HS.out.trans (show stepD (some (g, op)) ⟨4, 0, 0, ⟨a1, a2, a3⟩⟩ = some (g, op) by simp [stepD]))
                  go_wp2
                  go_roundw
                  case rel => exact ⟨k + 1, g, op, by omega, rfl, by go_num, HO.out, hg0, by omega, hMA.mono (by omega), hB0.alloc _, hB2.alloc _, hgr.alloc _⟩
                  case measure => simp [intOf]; omega
                · have HX := Lib.hid (HN.out (show stepD (some (g, op)) ⟨4, 0, dv, ⟨a1, a2, a3⟩⟩ = none by simp [stepD, hv]))
                  have hne : (dv != 0) = true := by simpa using hv
                  clear hv
                  go_wp2
                  go_ret2
                  exact .inl ⟨HX.out, rfl, hgr.alloc _⟩
              · have HX := Lib.hid (HN.out (show stepD (some (g, op)) ⟨4, dt, dv, ⟨a1, a2, a3⟩⟩ = none by simp [stepD, ht]))
                have hne : (dt != 0) = true := by simpa using ht
                clear ht
                go_wp2
                go_ret2
                exact .inl ⟨HX.out, rfl, hgr.alloc _⟩
            · have HX := Lib.hid (HN.out (show stepD (some (g, op)) ⟨dk, dt, dv, ⟨a1, a2, a3⟩⟩ = none by simp [stepD, h1, h2, h3, h4]))
              have b1 : (dk == 1) = false := by simpa using h1
              have b2 : (dk == 2) = false := by simpa using h2
              have b3 : (dk == 3) = false := by simpa using h3
              have b4 : (dk == 4) = false := by simpa using h4
              clear h1 h2 h3 h4
              go_wp2
              go_ret2
              exact .inl ⟨HX.out, rfl, hgr.alloc _⟩
    · have hkl : k = l.length := by omega
      subst hkl
      have HX := Lib.hid (show scan l = some (g, op) by rw [← HSC.out, List.take_length])
      obtain ⟨v0, v1⟩ := hB0.cells2
      go_wp2_with fail
      go_quiet (fail)
      go_wp2
      go_ret2
      exact .inr ⟨g, op, _, _, HX.out, rfl, hM.keep rfl, Nat.le_refl _, by omega, hgr.drewN _⟩
end Go.Proofs.Ytpbelnbknnhgnaa
