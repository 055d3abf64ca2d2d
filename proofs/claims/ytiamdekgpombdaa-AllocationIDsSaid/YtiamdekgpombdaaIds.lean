/- AllocationIDs: the law's body. -/
import Derived.Test.YtiamdekgpombdaaOrd
namespace Go.Proofs.Ytiamdekgpombdaa
open Go.RowKit

set_option maxHeartbeats 1000000 in
theorem refid_any (run n : Int) (w : World) :
    Calls Try.prog 7 #[.int .i64 run, .int .i64 n] w fun e w' => e = .returned (.tuple #[.int .i64 (idR run n), .int .i64 (idE run n)]) ∧ w = w' := by
  have HR := Lib.hid (show idR run n = if idBad run n then 0 else (run + 1) * 1048576 + n from rfl)
  have HE := Lib.hid (show idE run n = if idBad run n then 2 else 0 from rfl)
  by_cases h : idBad run n
  · have HB := Lib.hid h
    unfold idBad at h
    go_enter Try.func7, Try.ntmps7
    rcases Classical.em (run < 0) with h1 | h1
    · go_wp2
      go_ret2
      exact ⟨ret2 (by rw [HR.out, if_pos HB.out]) (by rw [HE.out, if_pos HB.out]), rfl⟩
    · rcases Classical.em (1099511627776 < run) with h2 | h2
      · go_wp2
        go_ret2
        exact ⟨ret2 (by rw [HR.out, if_pos HB.out]) (by rw [HE.out, if_pos HB.out]), rfl⟩
      · rcases Classical.em (n < 0) with h3 | h3
        · go_wp2
          go_ret2
          exact ⟨ret2 (by rw [HR.out, if_pos HB.out]) (by rw [HE.out, if_pos HB.out]), rfl⟩
        · have h4 : 1048576 ≤ n := by omega
          clear h
          go_wp2
          go_ret2
          exact ⟨ret2 (by rw [HR.out, if_pos HB.out]) (by rw [HE.out, if_pos HB.out]), rfl⟩
  · have HB := Lib.hid h
    unfold idBad at h
    have h1 : ¬ run < 0 := by omega
    have h2 : ¬ 1099511627776 < run := by omega
    have h3 : ¬ n < 0 := by omega
    have h4 : ¬ 1048576 ≤ n := by omega
    clear h
    go_enter Try.func7, Try.ntmps7
    go_wp2
    go_ret2
    exact ⟨ret2 (by rw [HR.out, if_neg HB.out]) (by rw [HE.out, if_neg HB.out]), rfl⟩

set_option maxHeartbeats 1000000 in
theorem refsplit_any (id : Int) (w : World) (hi : id ≤ 9223372036854775807) :
    Calls Try.prog 9 #[.int .i64 id] w fun e w' => e = .returned (.tuple #[.int .i64 (spR id), .int .i64 (spN id), .bool (decide (¬ id < 1048576))]) ∧ w = w' := by
  have HR := Lib.hid (show spR id = if id < 1048576 then 0 else id / 1048576 - 1 from rfl)
  have HE := Lib.hid (show spN id = if id < 1048576 then 0 else id % 1048576 from rfl)
  by_cases h : id < 1048576
  · go_enter Try.func9, Try.ntmps9
    go_wp2
    go_ret3
    exact ⟨ret3 (by rw [HR.out, if_pos h]) (by rw [HE.out, if_pos h]) (by simp [h]), rfl⟩
  · have ha := and20 (x := id) (by omega) (by omega)
    go_enter Try.func9, Try.ntmps9
    go_wp2
    go_ret3
    exact ⟨ret3 (by rw [HR.out, if_neg (by omega)]) (by rw [HE.out, if_neg (by omega)]) (by simp), rfl⟩
theorem split_id {run n : Int} (h : ¬ idBad run n) : spR (idR run n) = run ∧ spN (idR run n) = n ∧ ¬ idR run n < 1048576 ∧ idR run n ≤ 9223372036854775807 := by
  have e : idR run n = (run + 1) * 1048576 + n := by unfold idR; rw [if_neg h]
  rw [e]
  unfold idBad at h
  unfold spR spN
  have h1 : ¬ (run + 1) * 1048576 + n < 1048576 := by omega
  rw [if_neg h1, if_neg h1]
  omega

set_option maxHeartbeats 2000000 in
set_option maxRecDepth 20000 in
theorem ids_any (run n id : Int) (w : World) (hi0 : -9223372036854775808 ≤ id) (hi : id ≤ 9223372036854775807) (hr0 : -9223372036854775808 ≤ run) (hr1 : run ≤ 9223372036854775807) (hn0 : -9223372036854775808 ≤ n) (hn1 : n ≤ 9223372036854775807) :
    Calls Try.prog 3 #[.int .i64 run, .int .i64 n, .int .i64 id] w fun e w' => e = .returned (.bool true) ∧ Gr [] w w' := by
  go_enter Try.func3, Try.ntmps3
  go_wp2_with fail
  go_at_call 5
  refine (sane_any w).mono ?_
  rintro e w1 ⟨rfl, hg⟩
  go_wp2_with fail
  generalize Int.tmod run 50 = c1 at *
  generalize Int.tmod n 50 = c2 at *
  generalize bits .and .i64 run 1099511627775 = c3 at *
  generalize bits .and .i64 n 1048575 = c4 at *
  have hB := Bk.new w1 23 #[.int .i64 run, .int .i64 n, .int .i64 c1, .int .i64 c2, .int .i64 1099511627776, .int .i64 1048575, .int .i64 c3, .int .i64 c4]
  have hg2 : Gr [] w (w1.alloc (.cells #[.int .i64 run, .int .i64 n, .int .i64 c1, .int .i64 c2, .int .i64 1099511627776, .int .i64 1048575, .int .i64 c3, .int .i64 c4] 23)) := hg.alloc _
  generalize w1.alloc (.cells #[.int .i64 run, .int .i64 n, .int .i64 c1, .int .i64 c2, .int .i64 1099511627776, .int .i64 1048575, .int .i64 c3, .int .i64 c4] 23) = W at *
  generalize w1.heap.size = g at *
  go_loopw [42] (fun i w' => ∃ k : Nat, i = .int .i64 k ∧ k ≤ 4 ∧ Gr [] W w') (fun i _ => 4 - (intOf i).toNat)
  case atStart => exact ⟨0, rfl, by omega, Gr.refl _ _⟩
  case round =>
    obtain ⟨k, rfl, hk, hgr⟩ := hrel
    by_cases hlt : k < 4
    · have hBr := hB.gr0 hgr
      obtain ⟨q0, q1, hc0, hc1⟩ : ∃ q0 q1, wr.cell? ⟨g, k * 2, none⟩ = some (.int .i64 q0) ∧ wr.cell? ⟨g, k * 2 + 1, none⟩ = some (.int .i64 q1) := by
        rcases k with _ | _ | _ | _ | k
        · exact ⟨_, _, hBr.cell 0, hBr.cell 1⟩
        · exact ⟨_, _, hBr.cell 2, hBr.cell 3⟩
        · exact ⟨_, _, hBr.cell 4, hBr.cell 5⟩
        · exact ⟨_, _, hBr.cell 6, hBr.cell 7⟩
        · omega
      have hgA := hgr.alloc (.cells #[.int .i64 q0, .int .i64 q1] 23)
      clear hB hBr
      by_cases hb : idBad q0 q1
      · have h1 := fun X => id_any q0 q1 X
        have h2 := fun X => refid_any q0 q1 X
        rw [show idR q0 q1 = 0 by unfold idR; rw [if_pos hb], show idE q0 q1 = 2 by unfold idE; rw [if_pos hb]] at h1 h2
        have H1 := Lib.hid h1
        have H2 := Lib.hid h2
        clear h1 h2 hb
        go_wp2_with (first
          | (go_at_call 6; refine (H1.out _).mono ?_; rintro e w2 ⟨rfl, rfl⟩)
          | (go_at_call 7; refine (H2.out _).mono ?_; rintro e w2 ⟨rfl, rfl⟩))
        go_roundw
        case rel => exact ⟨k + 1, by go_num, by omega, hgA⟩
        case measure => simp [intOf]; omega
      · obtain ⟨s1, s2, s3, s4⟩ := split_id hb
        have h1 := fun X => id_any q0 q1 X
        have h2 := fun X => refid_any q0 q1 X
        have h3 := fun X => split_any (idR q0 q1) X s4
        rw [show idE q0 q1 = 0 by unfold idE; rw [if_neg hb]] at h1 h2
        rw [s1, s2, show decide (¬ idR q0 q1 < 1048576) = true by simpa using s3] at h3
        clear s1 s2 s3 s4
        generalize idR q0 q1 = I at *
        have H1 := Lib.hid h1
        have H2 := Lib.hid h2
        have H3 := Lib.hid h3
        clear h1 h2 h3 hb
        go_wp2_with (first
          | (go_at_call 6; refine (H1.out _).mono ?_; rintro e w2 ⟨rfl, rfl⟩)
          | (go_at_call 7; refine (H2.out _).mono ?_; rintro e w2 ⟨rfl, rfl⟩)
          | (go_at_call 8; refine (H3.out _).mono ?_; rintro e w2 ⟨rfl, rfl⟩))
        go_roundw
        case rel => exact ⟨k + 1, by go_num, by omega, hgA⟩
        case measure => simp [intOf]; omega
    · have hgR := hg2.trans hgr
      have hk4 : k = 4 := by omega
      subst hk4
      go_wp2_with fail
      have htm : Int.tmod id 4194304 < 4194304 := Int.tmod_lt_of_pos _ (by omega)
      generalize Int.tmod id 4194304 = d1 at *
      have hB2 := Bk.new wr 2 #[.int .i64 id, .int .i64 d1, .int .i64 1048576, .int .i64 1048575, .int .i64 0]
      have hgV : Gr [] w (wr.alloc (.cells #[.int .i64 id, .int .i64 d1, .int .i64 1048576, .int .i64 1048575, .int .i64 0] 2)) := hgR.alloc _
      generalize wr.alloc (.cells #[.int .i64 id, .int .i64 d1, .int .i64 1048576, .int .i64 1048575, .int .i64 0] 2) = V at *
      generalize wr.heap.size = g2 at *
      clear hB hgr hg2 hgR
      go_loopw [98] (fun i w' => ∃ k : Nat, i = .int .i64 k ∧ k ≤ 5 ∧ w' = V) (fun i _ => 5 - (intOf i).toNat)
      case atStart => exact ⟨0, rfl, by omega, rfl⟩
      case round =>
        obtain ⟨k, rfl, hk, rfl⟩ := hrel
        by_cases hlt : k < 5
        · obtain ⟨x, hc0, hx⟩ : ∃ x, wr.cell? ⟨g2, k, none⟩ = some (.int .i64 x) ∧ x ≤ 9223372036854775807 := by
            rcases k with _ | _ | _ | _ | _ | k
            · exact ⟨_, hB2.cell 0, by omega⟩
            · exact ⟨_, hB2.cell 1, by omega⟩
            · exact ⟨_, hB2.cell 2, by omega⟩
            · exact ⟨_, hB2.cell 3, by omega⟩
            · exact ⟨_, hB2.cell 4, by omega⟩
            · omega
          have h1 := fun X => split_any x X hx
          have h2 := fun X => refsplit_any x X hx
          generalize spR x = y1 at *
          generalize spN x = y2 at *
          generalize decide (¬ x < 1048576) = y3 at *
          have H1 := Lib.hid h1
          have H2 := Lib.hid h2
          clear h1 h2 hB2
          cases y3
          · go_wp2_with (first
              | (go_at_call 8; refine (H1.out _).mono ?_; rintro e w2 ⟨rfl, rfl⟩)
              | (go_at_call 9; refine (H2.out _).mono ?_; rintro e w2 ⟨rfl, rfl⟩))
            go_roundw
            case rel =>
              repeat apply Exists.intro
              first
                | exact ⟨⟨k + 1, by go_num, by omega, rfl⟩, rfl⟩
                | exact ⟨⟨k + 1, by go_num, by omega, rfl⟩, trivial⟩
                | exact ⟨⟨k + 1, by go_num, by omega, trivial⟩, rfl⟩
                | exact ⟨k + 1, by go_num, by omega, trivial⟩
                | exact ⟨⟨k + 1, by go_num, by omega, trivial⟩, trivial⟩
                | trace_state
              all_goals exact undef
            case measure => simp [intOf]; omega
          · go_wp2_with (first
              | (go_at_call 8; refine (H1.out _).mono ?_; rintro e w2 ⟨rfl, rfl⟩)
              | (go_at_call 9; refine (H2.out _).mono ?_; rintro e w2 ⟨rfl, rfl⟩))
            go_roundw
            case rel =>
              repeat apply Exists.intro
              first
                | exact ⟨⟨k + 1, by go_num, by omega, rfl⟩, rfl⟩
                | exact ⟨⟨k + 1, by go_num, by omega, rfl⟩, trivial⟩
                | exact ⟨⟨k + 1, by go_num, by omega, trivial⟩, rfl⟩
                | exact ⟨k + 1, by go_num, by omega, trivial⟩
                | exact ⟨⟨k + 1, by go_num, by omega, trivial⟩, trivial⟩
                | trace_state
              all_goals exact undef
            case measure => simp [intOf]; omega
        · go_wp2
          go_ret
          exact ⟨rfl, hgV⟩
end Go.Proofs.Ytiamdekgpombdaa
