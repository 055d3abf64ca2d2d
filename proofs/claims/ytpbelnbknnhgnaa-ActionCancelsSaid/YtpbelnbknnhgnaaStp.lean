/- ActionSteps, walked. -/
import Derived.Test.YtpbelnbknnhgnaaVal
namespace Go.Proofs.Ytpbelnbknnhgnaa
open Go.RowKit

theorem confirm_0 (A : Option Addr) (c : Nat) (l : List Dd) (T t : Int) (w : World) (h : Ds w A l) (hn : l.length ≤ 999999) (hw : wfl l) (hsc : ∃ op, scan l = some (T, op)) (ht : wf64 t) (ho : opn l t = none) :
    Calls Try.prog 17 #[.agg #[.slice A l.length c, .int .i64 T], .int .i64 t] w fun e w' => e = .returned (.tuple #[.agg #[.slice none 0 0, .int .i64 0], .int .i64 5]) ∧ Gr [] w w' := by
  obtain ⟨op, hsc⟩ := hsc
  refine (confirm_any A c l T t T op w h hn hw hsc ht).mono ?_
  rintro e w' (⟨h1, rfl, h3⟩ | ⟨v, A', c', h1, rfl, h3, h4, h5⟩)
  · exact ⟨rfl, h3⟩
  · rw [opn_eq hsc] at h1
    rw [ho] at h1; cases h1
theorem confirm_1 (A : Option Addr) (c : Nat) (l : List Dd) (T t v : Int) (w : World) (h : Ds w A l) (hn : l.length ≤ 999999) (hw : wfl l) (hsc : ∃ op, scan l = some (T, op)) (ht : wf64 t) (ho : opn l t = some v) :
    Calls Try.prog 17 #[.agg #[.slice A l.length c, .int .i64 T], .int .i64 t] w fun e w' => ∃ (A' : Option Addr) (c' : Nat), e = .returned (.tuple #[.agg #[.slice A' (l.length + 1) c', .int .i64 T], .int .i64 0]) ∧ Sl w' 32 6 A' (l.length + 1) (dcells (l ++ [⟨2, t, v, plainA⟩])) ∧ Gr [] w w' := by
  obtain ⟨op, hsc⟩ := hsc
  refine (confirm_any A c l T t T op w h hn hw hsc ht).mono ?_
  rintro e w' (⟨h1, rfl, h3⟩ | ⟨v', A', c', h1, rfl, h3, h4, h5⟩)
  · rw [opn_eq hsc] at h1
    rw [ho] at h1; cases h1
  · rw [opn_eq hsc] at h1
    rw [ho] at h1
    injection h1 with h1
    subst h1
    exact ⟨A', c', rfl, h4, h5⟩
theorem rconfirm_0 (A : Option Addr) (c : Nat) (l : List Dd) (T t : Int) (w : World) (h : Ds w A l) (hn : l.length ≤ 999999) (ho : opn l t = none) :
    Calls Try.prog 27 #[.agg #[.slice A l.length c, .int .i64 T], .int .i64 t] w fun e w' => e = .returned (.tuple #[.agg #[.slice none 0 0, .int .i64 0], .int .i64 5]) ∧ Gr [] w w' := by
  refine (rconfirm_any A c l T t w h hn).mono ?_
  rintro e w' (⟨h1, rfl, h3⟩ | ⟨v, A', c', h1, rfl, h3, h4, h5⟩)
  · exact ⟨rfl, h3⟩
  · skip
    rw [ho] at h1; cases h1
theorem rconfirm_1 (A : Option Addr) (c : Nat) (l : List Dd) (T t v : Int) (w : World) (h : Ds w A l) (hn : l.length ≤ 999999) (ho : opn l t = some v) :
    Calls Try.prog 27 #[.agg #[.slice A l.length c, .int .i64 T], .int .i64 t] w fun e w' => ∃ (A' : Option Addr) (c' : Nat), e = .returned (.tuple #[.agg #[.slice A' (l.length + 1) c', .int .i64 T], .int .i64 0]) ∧ Sl w' 32 6 A' (l.length + 1) (dcells (l ++ [⟨2, t, v, plainA⟩])) ∧ Gr [] w w' := by
  refine (rconfirm_any A c l T t w h hn).mono ?_
  rintro e w' (⟨h1, rfl, h3⟩ | ⟨v', A', c', h1, rfl, h3, h4, h5⟩)
  · skip
    rw [ho] at h1; cases h1
  · skip
    rw [ho] at h1
    injection h1 with h1
    subst h1
    exact ⟨A', c', rfl, h4, h5⟩
theorem cancel_0 (A : Option Addr) (c : Nat) (l : List Dd) (T t : Int) (w : World) (h : Ds w A l) (hn : l.length ≤ 999999) (hw : wfl l) (hsc : ∃ op, scan l = some (T, op)) (ht : wf64 t) (ho : opn l t = none) :
    Calls Try.prog 18 #[.agg #[.slice A l.length c, .int .i64 T], .int .i64 t] w fun e w' => e = .returned (.tuple #[.agg #[.slice none 0 0, .int .i64 0], .int .i64 5]) ∧ Gr [] w w' := by
  obtain ⟨op, hsc⟩ := hsc
  refine (cancel_any A c l T t T op w h hn hw hsc ht).mono ?_
  rintro e w' (⟨h1, rfl, h3⟩ | ⟨v, A', c', h1, rfl, h3, h4, h5⟩)
  · exact ⟨rfl, h3⟩
  · rw [opn_eq hsc] at h1
    rw [ho] at h1; cases h1
theorem cancel_1 (A : Option Addr) (c : Nat) (l : List Dd) (T t v : Int) (w : World) (h : Ds w A l) (hn : l.length ≤ 999999) (hw : wfl l) (hsc : ∃ op, scan l = some (T, op)) (ht : wf64 t) (ho : opn l t = some v) :
    Calls Try.prog 18 #[.agg #[.slice A l.length c, .int .i64 T], .int .i64 t] w fun e w' => ∃ (A' : Option Addr) (c' : Nat), e = .returned (.tuple #[.agg #[.slice A' (l.length + 1) c', .int .i64 T], .int .i64 0]) ∧ Sl w' 32 6 A' (l.length + 1) (dcells (l ++ [⟨3, t, v, plainA⟩])) ∧ Gr [] w w' := by
  obtain ⟨op, hsc⟩ := hsc
  refine (cancel_any A c l T t T op w h hn hw hsc ht).mono ?_
  rintro e w' (⟨h1, rfl, h3⟩ | ⟨v', A', c', h1, rfl, h3, h4, h5⟩)
  · rw [opn_eq hsc] at h1
    rw [ho] at h1; cases h1
  · rw [opn_eq hsc] at h1
    rw [ho] at h1
    injection h1 with h1
    subst h1
    exact ⟨A', c', rfl, h4, h5⟩
theorem rcancel_0 (A : Option Addr) (c : Nat) (l : List Dd) (T t : Int) (w : World) (h : Ds w A l) (hn : l.length ≤ 999999) (ho : opn l t = none) :
    Calls Try.prog 28 #[.agg #[.slice A l.length c, .int .i64 T], .int .i64 t] w fun e w' => e = .returned (.tuple #[.agg #[.slice none 0 0, .int .i64 0], .int .i64 5]) ∧ Gr [] w w' := by
  refine (rcancel_any A c l T t w h hn).mono ?_
  rintro e w' (⟨h1, rfl, h3⟩ | ⟨v, A', c', h1, rfl, h3, h4, h5⟩)
  · exact ⟨rfl, h3⟩
  · skip
    rw [ho] at h1; cases h1
theorem rcancel_1 (A : Option Addr) (c : Nat) (l : List Dd) (T t v : Int) (w : World) (h : Ds w A l) (hn : l.length ≤ 999999) (ho : opn l t = some v) :
    Calls Try.prog 28 #[.agg #[.slice A l.length c, .int .i64 T], .int .i64 t] w fun e w' => ∃ (A' : Option Addr) (c' : Nat), e = .returned (.tuple #[.agg #[.slice A' (l.length + 1) c', .int .i64 T], .int .i64 0]) ∧ Sl w' 32 6 A' (l.length + 1) (dcells (l ++ [⟨3, t, v, plainA⟩])) ∧ Gr [] w w' := by
  refine (rcancel_any A c l T t w h hn).mono ?_
  rintro e w' (⟨h1, rfl, h3⟩ | ⟨v', A', c', h1, rfl, h3, h4, h5⟩)
  · skip
    rw [ho] at h1; cases h1
  · skip
    rw [ho] at h1
    injection h1 with h1
    subst h1
    exact ⟨A', c', rfl, h4, h5⟩
theorem rsame_snoc (A B : Option Addr) (c d : Nat) (l : List Dd) (x : Dd) (T : Int) (w : World) (hA : Sl w 32 6 A (l.length + 1) (dcells (l ++ [x]))) (hB : Sl w 32 6 B (l.length + 1) (dcells (l ++ [x]))) (hn : l.length ≤ 999999) :
    Calls Try.prog 23 #[.agg #[.slice A (l.length + 1) c, .int .i64 T], .agg #[.slice B (l.length + 1) d, .int .i64 T]] w fun e w' => e = .returned (.bool true) ∧ Gr [] w w' := by
  have hl : (l ++ [x]).length = l.length + 1 := by simp
  have := rsame_any A B c d (l ++ [x]) (l ++ [x]) T T w ⟨_, by rw [hl]; exact hA⟩ ⟨_, by rw [hl]; exact hB⟩ (by omega) (by omega)
  rw [hl] at this
  simpa using this
theorem asame_snoc (A B : Option Addr) (c d : Nat) (l : List Dd) (x : Dd) (T : Int) (w : World) (hA : Sl w 32 6 A (l.length + 1) (dcells (l ++ [x]))) (hB : Sl w 32 6 B (l.length + 1) (dcells (l ++ [x]))) (hn : l.length ≤ 999999) :
    Calls Try.prog 22 #[.agg #[.slice A (l.length + 1) c, .int .i64 T], .agg #[.slice B (l.length + 1) d, .int .i64 T]] w fun e w' => e = .returned (.bool true) ∧ Gr [] w w' := by
  have hl : (l ++ [x]).length = l.length + 1 := by simp
  have := asame_any A B c d (l ++ [x]) (l ++ [x]) T T w ⟨_, by rw [hl]; exact hA⟩ ⟨_, by rw [hl]; exact hB⟩ (by omega) (by omega)
  rw [hl] at this
  simpa using this
theorem rsame_zero (w : World) : Calls Try.prog 23 #[.agg #[.slice none 0 0, .int .i64 0], .agg #[.slice none 0 0, .int .i64 0]] w fun e w' => e = .returned (.bool true) ∧ Gr [] w w' :=
  rsame_any none none 0 0 [] [] 0 0 w (ds_nil w none) (ds_nil w none) (by simp) (by simp)

set_option maxRecDepth 100000 in
set_option maxHeartbeats 8000000 in
theorem steps_law (A : Option Addr) (n c : Nat) (zs : List Int) (value ticket : Int) (a : Ac) (w : World) (e5 : TypeId) (h : Sl w e5 1 A n (zs.map (.int .u8))) (hz : ∀ j, 0 ≤ zs.getD j 0 ∧ zs.getD j 0 < 256) (hnc : n ≤ c) (hn : n ≤ 9223372036854775807)
    (hwt : wf64 ticket) :
    Calls Try.prog 6 #[.slice A n c, .int .i64 value, .int .i64 ticket, .agg #[.bool a.ask, .int .i64 a.value, .int .i64 a.answer]] w fun e w' => e = .returned (.bool true) ∧ Gr [] w w' := by
  obtain ⟨aa, ab, ac⟩ := a
  have hgA := (Gr.refl [] w).alloc (.cells #[.bool aa, .int .i64 ab, .int .i64 ac] 30)
  have hP7 := Bk.new w 30 #[.bool aa, .int .i64 ab, .int .i64 ac]
  go_enter Try.func6, Try.ntmps6
  go_wp2_with fail
  go_at_call 7
  refine (sane_any _).mono ?_
  rintro e w1 ⟨rfl, hg1⟩
  go_wp2_with fail
  go_at_call 8
  refine (made_any A n c zs _ e5 ((h.alloc _).gr0 hg1) hz hnc hn).mono ?_
  rintro e w2 ⟨l, A2, c2, T, rfl, hsl, hcap, hsc, hwf, hlen, hg2⟩
  have HSC := Lib.hid hsc
  have hTb : 0 ≤ T ∧ T ≤ 24 := by
    obtain ⟨op, hs⟩ := hsc
    have K := scan_known l.length l rfl hs
    have := K.nonneg
    have := K.le
    omega
  clear hsc
  obtain ⟨hT0, hT1⟩ := hTb
  have hP7 := ((hP7.gr0 hg1).gr0 hg2).alloc (.cells #[.slice A2 l.length c2, .int .i64 T] 26)
  have hP9 := Bk.new w2 26 #[.slice A2 l.length c2, .int .i64 T]
  have hs9 := hsl.alloc (.cells #[.slice A2 l.length c2, .int .i64 T] 26)
  have hgB := ((hgA.trans hg1).trans hg2).alloc (.cells #[.slice A2 l.length c2, .int .i64 T] 26)
  go_wp2_with fail
  generalize hp9 : w2.heap.size = p9 at *
  generalize w2.alloc (.cells #[.slice A2 l.length c2, .int .i64 T] 26) = W1 at *
  clear hp9 hgA hg1 hg2 hsl h
  go_at_call 15
  refine (reserve_any A2 c2 l T value _ ⟨_, hs9⟩ (by omega) hT0 (by omega)).mono ?_
  rintro e w3 ⟨A3, c3, rfl, hc3, hs3, hg3⟩
  have hP7 := (hP7.gr0 hg3).alloc (.cells #[.slice A3 (l.length + 1) c3, .int .i64 (T + 1)] 26)
  have hP9 := (hP9.gr0 hg3).alloc (.cells #[.slice A3 (l.length + 1) c3, .int .i64 (T + 1)] 26)
  have hP10 := Bk.new w3 26 #[.slice A3 (l.length + 1) c3, .int .i64 (T + 1)]
  have hs9 := (hs9.gr0 hg3).alloc (.cells #[.slice A3 (l.length + 1) c3, .int .i64 (T + 1)] 26)
  have hs10 := hs3.alloc (.cells #[.slice A3 (l.length + 1) c3, .int .i64 (T + 1)] 26)
  have hgC := (hgB.trans hg3).alloc (.cells #[.slice A3 (l.length + 1) c3, .int .i64 (T + 1)] 26)
  obtain ⟨x0, x1⟩ := hP9.cells2
  go_wp2_with fail
  generalize hp10 : w3.heap.size = p10 at *
  generalize w3.alloc (.cells #[.slice A3 (l.length + 1) c3, .int .i64 (T + 1)] 26) = W2 at *
  clear hp10 hgB hg3 hs3 x0 x1
  go_at_call 24
  refine (rreserve_any A2 c2 l T value _ ⟨_, hs9⟩ (by omega) hT0 (by omega)).mono ?_
  rintro e w4 ⟨A4, c4, rfl, hc4, hs4, hg4⟩
  have hP7 := (hP7.gr0 hg4).alloc (.cells #[.slice A4 (l.length + 1) c4, .int .i64 (T + 1)] 26)
  have hP9 := (hP9.gr0 hg4).alloc (.cells #[.slice A4 (l.length + 1) c4, .int .i64 (T + 1)] 26)
  have hP10 := (hP10.gr0 hg4).alloc (.cells #[.slice A4 (l.length + 1) c4, .int .i64 (T + 1)] 26)
  have hP12 := Bk.new w4 26 #[.slice A4 (l.length + 1) c4, .int .i64 (T + 1)]
  have hs9 := (hs9.gr0 hg4).alloc (.cells #[.slice A4 (l.length + 1) c4, .int .i64 (T + 1)] 26)
  have hs10 := (hs10.gr0 hg4).alloc (.cells #[.slice A4 (l.length + 1) c4, .int .i64 (T + 1)] 26)
  have hs12 := hs4.alloc (.cells #[.slice A4 (l.length + 1) c4, .int .i64 (T + 1)] 26)
  have hgD := (hgC.trans hg4).alloc (.cells #[.slice A4 (l.length + 1) c4, .int .i64 (T + 1)] 26)
  go_wp2_with fail
  generalize hp12 : w4.heap.size = p12 at *
  generalize w4.alloc (.cells #[.slice A4 (l.length + 1) c4, .int .i64 (T + 1)] 26) = W at *
  clear hp12 hgC hg4 hs4
  have HBC := Lib.hid (show ∀ w', Gr [] W w' → w'.cell? ⟨p9, 0, none⟩ = some (.slice A2 l.length c2) ∧ w'.cell? ⟨p9, 1, none⟩ = some (.int .i64 T) ∧ w'.cell? ⟨p10, 0, none⟩ = some (.slice A3 (l.length + 1) c3) ∧ w'.cell? ⟨p10, 1, none⟩ = some (.int .i64 (T + 1)) ∧ w'.cell? ⟨p12, 0, none⟩ = some (.slice A4 (l.length + 1) c4) ∧ w'.cell? ⟨p12, 1, none⟩ = some (.int .i64 (T + 1)) ∧ w'.cell? ⟨w.heap.size, 0, none⟩ = some (.bool aa) ∧ w'.cell? ⟨w.heap.size, 1, none⟩ = some (.int .i64 ab) ∧ w'.cell? ⟨w.heap.size, 2, none⟩ = some (.int .i64 ac) from fun w' hg => ⟨(hP9.gr0 hg).cell 0, (hP9.gr0 hg).cell 1, (hP10.gr0 hg).cell 0, (hP10.gr0 hg).cell 1, (hP12.gr0 hg).cell 0, (hP12.gr0 hg).cell 1, (hP7.gr0 hg).cell 0, (hP7.gr0 hg).cell 1, (hP7.gr0 hg).cell 2⟩)
  have HX1 := Lib.hid (show ∀ w', Gr [] W w' → Calls Try.prog 23 #[.agg #[.slice A3 (l.length + 1) c3, .int .i64 (T + 1)], .agg #[.slice A4 (l.length + 1) c4, .int .i64 (T + 1)]] w' fun e w'' => e = .returned (.bool true) ∧ Gr [] W w'' from fun w' hg => (rsame_snoc A3 A4 c3 c4 l _ (T + 1) w' (hs10.gr0 hg) (hs12.gr0 hg) (by omega)).mono fun e w'' h => ⟨h.1, hg.trans h.2⟩)
  have HX2 := Lib.hid (show ∀ w', Gr [] W w' → Calls Try.prog 22 #[.agg #[.slice A3 (l.length + 1) c3, .int .i64 (T + 1)], .agg #[.slice A4 (l.length + 1) c4, .int .i64 (T + 1)]] w' fun e w'' => e = .returned (.bool true) ∧ Gr [] W w'' from fun w' hg => (asame_snoc A3 A4 c3 c4 l _ (T + 1) w' (hs10.gr0 hg) (hs12.gr0 hg) (by omega)).mono fun e w'' h => ⟨h.1, hg.trans h.2⟩)
  have HDs := Lib.hid (show ∀ w', Gr [] W w' → Sl w' 32 6 A2 l.length (dcells l) from fun w' hg => hs9.gr0 hg)
  have hg0 := (Gr.refl [] W).drew
  clear hs10 hs12 hP10 hP12 hP7
  have hla : l.length ≤ 999999 := by omega
  go_region_held3 (fun w' => w'.cell? ⟨p9, 0, none⟩ = some (.slice A2 l.length c2) ∧ w'.cell? ⟨p9, 1, none⟩ = some (.int .i64 T) ∧ w'.cell? ⟨p10, 0, none⟩ = some (.slice A3 (l.length + 1) c3) ∧ w'.cell? ⟨p10, 1, none⟩ = some (.int .i64 (T + 1)) ∧ w'.cell? ⟨p12, 0, none⟩ = some (.slice A4 (l.length + 1) c4) ∧ w'.cell? ⟨p12, 1, none⟩ = some (.int .i64 (T + 1)) ∧ w'.cell? ⟨w.heap.size, 0, none⟩ = some (.bool aa) ∧ w'.cell? ⟨w.heap.size, 1, none⟩ = some (.int .i64 ab) ∧ w'.cell? ⟨w.heap.size, 2, none⟩ = some (.int .i64 ac)) (first | exact HBC.out _ hg0 | exact HBC.out _ k1 | exact HBC.out _ k2 | exact HBC.out _ k3 | exact HBC.out _ k4 | exact HBC.out _ k5)
    (first
    | (go_at_call 23; (with_reducible refine (HX1.out _ hg0).mono ?_); rintro e q1 ⟨rfl, k1⟩)
    | (go_at_call 22; refine (HX2.out _ k1).mono ?_; rintro e q2 ⟨rfl, k2⟩)
    | (go_at_call 25; refine (do_any A2 c2 l T ⟨aa, ab, ac⟩ _ ⟨_, HDs.out _ k2⟩ hla).mono ?_; rintro e q3 ⟨A5, c5, rfl, _, hs5, hq3⟩; have k3 := k2.trans hq3)
    | (go_at_call 26; refine (rdo_any A2 c2 l T ⟨aa, ab, ac⟩ _ ⟨_, HDs.out _ k3⟩ hla).mono ?_; rintro e q4 ⟨A6, c6, rfl, _, hs6, hq4⟩; have k4 := k3.trans hq4)
    | (go_at_call 23; (with_reducible refine (rsame_snoc A5 A6 c5 c6 l ⟨4, 0, 0, ⟨aa, ab, ac⟩⟩ T _ (hs5.gr0 hq4) hs6 hla).mono ?_); rintro e q5 ⟨rfl, hq5⟩; have k5 := k4.trans hq5))
  all_goals
    have hk5 := k5
    clear k1 k2 k3 k4 hs5 hs6 hq3 hq4 hq5
    go_wp2_with fail
    go_at_call 9
    refine (mod_any _ 12 _ (by omega) (by omega)).mono ?_
    rintro e q6 ⟨r, rfl, hr0, hr1, hgm⟩
    have hPq := Bk.new q6 2 #[.int .i64 ticket, .int .i64 r]
    have hgq := (hk5.trans hgm).alloc (.cells #[.int .i64 ticket, .int .i64 r] 2)
    go_wp2_with fail
    generalize hpq : q6.heap.size = pq at *
    generalize q6.alloc (.cells #[.int .i64 ticket, .int .i64 r] 2) = W5 at *
    clear hpq hk5 k5 hgm
    go_loopw [71] (fun v wr => ∃ i : Nat, i ≤ 2 ∧ v = .int .i64 i ∧ Gr [] W5 wr) (fun v _ => 2 - (intOf v).toNat)
    case atStart => exact ⟨0, Nat.zero_le _, rfl, Gr.refl _ _⟩
    case round =>
      obtain ⟨i, hi, rfl, hgr⟩ := hrel
      have g0 := hgq.trans hgr
      by_cases hlt : i < 2
      · have hlt' : (i : Int) < 2 := by omega
        obtain ⟨t, hwt2, hct⟩ : ∃ t : Int, wf64 t ∧ wr.cell? ⟨pq, i, none⟩ = some (.int .i64 t) := by
          have hQ := hPq.gr0 hgr
          rcases (by omega : i = 0 ∨ i = 1) with rfl | rfl
          · exact ⟨ticket, hwt, hQ.cell 0⟩
          · exact ⟨r, WalkArith.wf_i64 (by omega), hQ.cell 1⟩
        obtain ⟨x0, x1, _⟩ := HBC.out _ g0
        cases ho : opn l t with
        | none =>
          have HO := Lib.hid ho
          clear ho
          go_wp2_with fail
          go_at_call 17
          refine (confirm_0 A2 c2 l T t _ ⟨_, HDs.out _ g0⟩ hla hwf HSC.out hwt2 HO.out).mono ?_
          rintro e v0 ⟨rfl, f0⟩
          have g1 := (g0.trans f0).alloc (.cells #[.slice none 0 0, .int .i64 0] 26)
          have bk0 := Bk.new v0 26 #[.slice none 0 0, .int .i64 0]
          have gz0 := f0
          have h0s : Gr [] wr (v0.alloc (.cells #[.slice none 0 0, .int .i64 0] 26)) := (Gr.refl [] wr).trans (f0.alloc _)
          clear f0 gz0 x0 x1
          obtain ⟨x0, x1, _⟩ := HBC.out _ g1
          go_wp2_with fail
          go_at_call 27
          refine (rconfirm_0 A2 c2 l T t _ ⟨_, HDs.out _ g1⟩ hla HO.out).mono ?_
          rintro e v1 ⟨rfl, f1⟩
          have g2 := (g1.trans f1).alloc (.cells #[.slice none 0 0, .int .i64 0] 26)
          have bk0 := (bk0.gr0 f1).alloc (.cells #[.slice none 0 0, .int .i64 0] 26)
          have bk1 := Bk.new v1 26 #[.slice none 0 0, .int .i64 0]
          have h1s : Gr [] wr (v1.alloc (.cells #[.slice none 0 0, .int .i64 0] 26)) := (h0s).trans (f1.alloc _)
          clear f1 x0 x1
          obtain ⟨x0, x1, _⟩ := HBC.out _ g2
          go_wp2_with fail
          go_at_call 18
          refine (cancel_0 A2 c2 l T t _ ⟨_, HDs.out _ g2⟩ hla hwf HSC.out hwt2 HO.out).mono ?_
          rintro e v2 ⟨rfl, f2⟩
          have g3 := (g2.trans f2).alloc (.cells #[.slice none 0 0, .int .i64 0] 26)
          have bk0 := (bk0.gr0 f2).alloc (.cells #[.slice none 0 0, .int .i64 0] 26)
          have bk1 := (bk1.gr0 f2).alloc (.cells #[.slice none 0 0, .int .i64 0] 26)
          have bk2 := Bk.new v2 26 #[.slice none 0 0, .int .i64 0]
          have h2s : Gr [] wr (v2.alloc (.cells #[.slice none 0 0, .int .i64 0] 26)) := (h1s).trans (f2.alloc _)
          clear f2 x0 x1
          obtain ⟨x0, x1, _⟩ := HBC.out _ g3
          go_wp2_with fail
          go_at_call 28
          refine (rcancel_0 A2 c2 l T t _ ⟨_, HDs.out _ g3⟩ hla HO.out).mono ?_
          rintro e v3 ⟨rfl, f3⟩
          have g4 := (g3.trans f3).alloc (.cells #[.slice none 0 0, .int .i64 0] 26)
          have bk0 := (bk0.gr0 f3).alloc (.cells #[.slice none 0 0, .int .i64 0] 26)
          have bk1 := (bk1.gr0 f3).alloc (.cells #[.slice none 0 0, .int .i64 0] 26)
          have bk2 := (bk2.gr0 f3).alloc (.cells #[.slice none 0 0, .int .i64 0] 26)
          have bk3 := Bk.new v3 26 #[.slice none 0 0, .int .i64 0]
          have h3s : Gr [] wr (v3.alloc (.cells #[.slice none 0 0, .int .i64 0] 26)) := (h2s).trans (f3.alloc _)
          clear f3 x0 x1
          obtain ⟨u0, u0'⟩ := bk0.cells2
          obtain ⟨u1, u1'⟩ := bk1.cells2
          obtain ⟨u2, u2'⟩ := bk2.cells2
          obtain ⟨u3, u3'⟩ := bk3.cells2
          go_wp2_with fail
          go_at_call 23
          refine (rsame_zero _).mono ?_
          rintro e v4 ⟨rfl, f4⟩
          obtain ⟨p2, p2'⟩ := (bk2.gr0 f4).cells2
          obtain ⟨p3, p3'⟩ := (bk3.gr0 f4).cells2
          go_wp2_with fail
          go_at_call 23
          refine (rsame_zero _).mono ?_
          rintro e v5 ⟨rfl, f5⟩
          go_wp2
          go_roundw
          case rel => exact ⟨i + 1, by omega, by go_num, ((hgr.trans h3s).trans f4).trans f5⟩
          case measure => simp [intOf]; omega
        | some v =>
          have HO := Lib.hid ho
          clear ho
          go_wp2_with fail
          go_at_call 17
          refine (confirm_1 A2 c2 l T t v _ ⟨_, HDs.out _ g0⟩ hla hwf HSC.out hwt2 HO.out).mono ?_
          rintro e v0 ⟨B0, d0, rfl, hsb, f0⟩
          have g1 := (g0.trans f0).alloc (.cells #[.slice B0 (l.length + 1) d0, .int .i64 T] 26)
          have bk0 := Bk.new v0 26 #[.slice B0 (l.length + 1) d0, .int .i64 T]
          have sb0 := hsb.alloc (.cells #[.slice B0 (l.length + 1) d0, .int .i64 T] 26)
          have gz0 := f0
          have h0s : Gr [] wr (v0.alloc (.cells #[.slice B0 (l.length + 1) d0, .int .i64 T] 26)) := (Gr.refl [] wr).trans (f0.alloc _)
          clear f0 gz0 x0 x1
          obtain ⟨x0, x1, _⟩ := HBC.out _ g1
          go_wp2_with fail
          go_at_call 27
          refine (rconfirm_1 A2 c2 l T t v _ ⟨_, HDs.out _ g1⟩ hla HO.out).mono ?_
          rintro e v1 ⟨B1, d1, rfl, hsb, f1⟩
          have g2 := (g1.trans f1).alloc (.cells #[.slice B1 (l.length + 1) d1, .int .i64 T] 26)
          have bk0 := (bk0.gr0 f1).alloc (.cells #[.slice B1 (l.length + 1) d1, .int .i64 T] 26)
          have sb0 := (sb0.gr0 f1).alloc (.cells #[.slice B1 (l.length + 1) d1, .int .i64 T] 26)
          have bk1 := Bk.new v1 26 #[.slice B1 (l.length + 1) d1, .int .i64 T]
          have sb1 := hsb.alloc (.cells #[.slice B1 (l.length + 1) d1, .int .i64 T] 26)
          have h1s : Gr [] wr (v1.alloc (.cells #[.slice B1 (l.length + 1) d1, .int .i64 T] 26)) := (h0s).trans (f1.alloc _)
          clear f1 x0 x1
          obtain ⟨x0, x1, _⟩ := HBC.out _ g2
          go_wp2_with fail
          go_at_call 18
          refine (cancel_1 A2 c2 l T t v _ ⟨_, HDs.out _ g2⟩ hla hwf HSC.out hwt2 HO.out).mono ?_
          rintro e v2 ⟨B2, d2, rfl, hsb, f2⟩
          have g3 := (g2.trans f2).alloc (.cells #[.slice B2 (l.length + 1) d2, .int .i64 T] 26)
          have bk0 := (bk0.gr0 f2).alloc (.cells #[.slice B2 (l.length + 1) d2, .int .i64 T] 26)
          have sb0 := (sb0.gr0 f2).alloc (.cells #[.slice B2 (l.length + 1) d2, .int .i64 T] 26)
          have bk1 := (bk1.gr0 f2).alloc (.cells #[.slice B2 (l.length + 1) d2, .int .i64 T] 26)
          have sb1 := (sb1.gr0 f2).alloc (.cells #[.slice B2 (l.length + 1) d2, .int .i64 T] 26)
          have bk2 := Bk.new v2 26 #[.slice B2 (l.length + 1) d2, .int .i64 T]
          have sb2 := hsb.alloc (.cells #[.slice B2 (l.length + 1) d2, .int .i64 T] 26)
          have h2s : Gr [] wr (v2.alloc (.cells #[.slice B2 (l.length + 1) d2, .int .i64 T] 26)) := (h1s).trans (f2.alloc _)
          clear f2 x0 x1
          obtain ⟨x0, x1, _⟩ := HBC.out _ g3
          go_wp2_with fail
          go_at_call 28
          refine (rcancel_1 A2 c2 l T t v _ ⟨_, HDs.out _ g3⟩ hla HO.out).mono ?_
          rintro e v3 ⟨B3, d3, rfl, hsb, f3⟩
          have g4 := (g3.trans f3).alloc (.cells #[.slice B3 (l.length + 1) d3, .int .i64 T] 26)
          have bk0 := (bk0.gr0 f3).alloc (.cells #[.slice B3 (l.length + 1) d3, .int .i64 T] 26)
          have sb0 := (sb0.gr0 f3).alloc (.cells #[.slice B3 (l.length + 1) d3, .int .i64 T] 26)
          have bk1 := (bk1.gr0 f3).alloc (.cells #[.slice B3 (l.length + 1) d3, .int .i64 T] 26)
          have sb1 := (sb1.gr0 f3).alloc (.cells #[.slice B3 (l.length + 1) d3, .int .i64 T] 26)
          have bk2 := (bk2.gr0 f3).alloc (.cells #[.slice B3 (l.length + 1) d3, .int .i64 T] 26)
          have sb2 := (sb2.gr0 f3).alloc (.cells #[.slice B3 (l.length + 1) d3, .int .i64 T] 26)
          have bk3 := Bk.new v3 26 #[.slice B3 (l.length + 1) d3, .int .i64 T]
          have sb3 := hsb.alloc (.cells #[.slice B3 (l.length + 1) d3, .int .i64 T] 26)
          have h3s : Gr [] wr (v3.alloc (.cells #[.slice B3 (l.length + 1) d3, .int .i64 T] 26)) := (h2s).trans (f3.alloc _)
          clear f3 x0 x1
          obtain ⟨u0, u0'⟩ := bk0.cells2
          obtain ⟨u1, u1'⟩ := bk1.cells2
          obtain ⟨u2, u2'⟩ := bk2.cells2
          obtain ⟨u3, u3'⟩ := bk3.cells2
          go_wp2_with fail
          go_at_call 23
          refine (rsame_snoc B0 B1 d0 d1 l _ T _ sb0 sb1 hla).mono ?_
          rintro e v4 ⟨rfl, f4⟩
          obtain ⟨p2, p2'⟩ := (bk2.gr0 f4).cells2
          obtain ⟨p3, p3'⟩ := (bk3.gr0 f4).cells2
          go_wp2_with fail
          go_at_call 23
          refine (rsame_snoc B2 B3 d2 d3 l _ T _ (sb2.gr0 f4) (sb3.gr0 f4) hla).mono ?_
          rintro e v5 ⟨rfl, f5⟩
          go_wp2
          go_roundw
          case rel => exact ⟨i + 1, by omega, by go_num, ((hgr.trans h3s).trans f4).trans f5⟩
          case measure => simp [intOf]; omega
      · have hnl : (net l).length ≤ 1000000 := by have := net_len l; omega
        have hrl : (refOpen l).length ≤ 1000000 := by
          unfold refOpen
          rw [List.length_map]
          have := List.length_filter_le (fun d : Dd => d.kind == 1 && !stl l d.ticket) l
          omega
        have HZ := Lib.hid (⟨hnl, hrl⟩ : (net l).length ≤ 1000000 ∧ (refOpen l).length ≤ 1000000)
        clear hnl hrl
        have HN1 := Lib.hid (show ∀ w', Gr [] W w' → Calls Try.prog 10 #[.agg #[.slice A2 l.length c2, .int .i64 T]] w' fun e w'' => ∃ (A' : Option Addr) (c' : Nat), e = .returned (.slice A' (net l).length c') ∧ (net l).length ≤ c' ∧ Sl w'' 30 3 A' (net l).length (acells (net l)) ∧ Gr [] w' w'' from fun w' hg => net_any A2 c2 l T w' ⟨_, HDs.out _ hg⟩ hla)
        have HN2 := Lib.hid (show ∀ w', Gr [] W w' → Calls Try.prog 29 #[.agg #[.slice A2 l.length c2, .int .i64 T]] w' fun e w'' => ∃ (A' : Option Addr) (c' : Nat), e = .returned (.slice A' (net l).length c') ∧ (net l).length ≤ c' ∧ Sl w'' 30 3 A' (net l).length (acells (net l)) ∧ Gr [] w' w'' from fun w' hg => rnet_any A2 c2 l T w' ⟨_, HDs.out _ hg⟩ hla)
        have HO1 := Lib.hid (show ∀ w', Gr [] W w' → Calls Try.prog 13 #[.agg #[.slice A2 l.length c2, .int .i64 T]] w' fun e w'' => ∃ (A' : Option Addr) (c' : Nat), e = .returned (.slice A' (refOpen l).length c') ∧ Sl w'' 2 1 A' (refOpen l).length ((refOpen l).map (.int .i64)) ∧ Gr [] w' w'' from fun w' hg => by
          obtain ⟨op, hs⟩ := HSC.out
          exact open_any A2 c2 l T T op w' ⟨_, HDs.out _ hg⟩ hla hwf hs)
        have HO2 := Lib.hid (show ∀ w', Gr [] W w' → Calls Try.prog 30 #[.agg #[.slice A2 l.length c2, .int .i64 T]] w' fun e w'' => ∃ (A' : Option Addr) (c' : Nat), e = .returned (.slice A' (refOpen l).length c') ∧ Sl w'' 2 1 A' (refOpen l).length ((refOpen l).map (.int .i64)) ∧ Gr [] w' w'' from fun w' hg => (ropen_any A2 c2 l T w' ⟨_, HDs.out _ hg⟩ hla).mono fun e w'' ⟨A', c', h1, _, h3, h4⟩ => ⟨A', c', h1, h3, h4⟩)
        have HNS := Lib.hid (show ∀ w' B1 B2 d1 d2, Sl w' 30 3 B1 (net l).length (acells (net l)) → Sl w' 30 3 B2 (net l).length (acells (net l)) → Calls Try.prog 12 #[.slice B1 (net l).length d1, .slice B2 (net l).length d2] w' fun e w'' => e = .returned (.bool true) ∧ Gr [] w' w'' from fun w' B1 B2 d1 d2 h1 h2 => by
          have := sameacts_any B1 B2 _ _ d1 d2 _ _ w' h1 h2 HZ.out.1 HZ.out.1
          simpa using this)
        have HOS := Lib.hid (show ∀ w' B1 B2 d1 d2, Sl w' 2 1 B1 (refOpen l).length ((refOpen l).map (.int .i64)) → Sl w' 2 1 B2 (refOpen l).length ((refOpen l).map (.int .i64)) → Calls Try.prog 19 #[.slice B1 (refOpen l).length d1, .slice B2 (refOpen l).length d2] w' fun e w'' => e = .returned (.bool true) ∧ Gr [] w' w'' from fun w' B1 B2 d1 d2 h1 h2 => by
          have := same_any B1 B2 _ _ d1 d2 _ _ w' h1 h2 HZ.out.2 HZ.out.2
          simpa using this)
        generalize hnn : (net l).length = nn at *
        generalize hno : (refOpen l).length = no at *
        clear hnn hno
        have g1 := g0.drew
        go_wp2_with fail
        go_region_held3 (fun w' => w'.cell? ⟨p9, 0, none⟩ = some (.slice A2 l.length c2) ∧ w'.cell? ⟨p9, 1, none⟩ = some (.int .i64 T)) (first | exact ⟨(HBC.out _ g1).1, (HBC.out _ g1).2.1⟩ | exact ⟨(HBC.out _ m1).1, (HBC.out _ m1).2.1⟩ | exact ⟨(HBC.out _ m2).1, (HBC.out _ m2).2.1⟩ | exact ⟨(HBC.out _ m3).1, (HBC.out _ m3).2.1⟩ | exact ⟨(HBC.out _ m4).1, (HBC.out _ m4).2.1⟩ | exact ⟨(HBC.out _ m5).1, (HBC.out _ m5).2.1⟩ | exact ⟨(HBC.out _ m6).1, (HBC.out _ m6).2.1⟩)
          (first
          | (go_at_call 10; refine (HN1.out _ g1).mono ?_; rintro e r1 ⟨B1, d1, rfl, _, hB1, m1'⟩; have m1 := g1.trans m1')
          | (go_at_call 29; refine (HN2.out _ m1).mono ?_; rintro e r2 ⟨B2, d2, rfl, _, hB2, m2'⟩; have m2 := m1.trans m2')
          | (go_at_call 12; refine (HNS.out _ B1 B2 d1 d2 (hB1.gr0 m2') hB2).mono ?_; rintro e r3 ⟨rfl, m3'⟩; have m3 := m2.trans m3')
          | (go_at_call 13; refine (HO1.out _ m3).mono ?_; rintro e r4 ⟨B3, d3, rfl, hB3, m4'⟩; have m4 := m3.trans m4')
          | (go_at_call 30; refine (HO2.out _ m4).mono ?_; rintro e r5 ⟨B4, d4, rfl, hB4, m5'⟩; have m5 := m4.trans m5')
          | (go_at_call 19; refine (HOS.out _ B3 B4 d3 d4 (hB3.gr0 m5') hB4).mono ?_; rintro e r6 ⟨rfl, m6'⟩; have m6 := m5.trans m6'))
        all_goals
          go_wp2
          go_ret
          exact ⟨rfl, hgD.trans m6⟩
end Go.Proofs.Ytpbelnbknnhgnaa
