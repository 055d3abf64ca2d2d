/- The workers' functions: a change. -/
import Derived.Test.YtllhlmlghkiojaaWb
namespace Go.Proofs.Ytllhlmlghkiojaa
open Go.RowKit

theorem wis_at (st : List Int) (l : List Wk) (k : Nat) (hk : k < l.length) : wis l k st = if l[k].s ∈ st then 0 else 7 := by
  have h : ¬ ((k : Int) < 0 ∨ (l.length : Int) ≤ k) := by omega
  simp only [wis, if_neg h, Int.toNat_natCast, List.getD, List.getElem?_eq_getElem hk, Option.getD_some]
theorem wset_at (l : List Wk) (k : Nat) (f : Wk → Wk) (hk : k < l.length) : wset l k f = l.set k (f l[k]) := by
  simp only [wset, Int.toNat_natCast]
  apply List.ext_getElem?
  intro i
  rw [List.getElem?_modify, List.getElem?_set]
  by_cases h : k = i
  · subst h; simp [hk]
  · simp [h]
theorem wmade_at (st : List Int) (to' : Int) (l : List Wk) (k : Nat) (hk : k < l.length) :
    wmade st to' l k = if l[k].s ∈ st then (0, l.set k ⟨to', if to' = 0 ∨ to' = 3 then -1 else l[k].r, l[k].b⟩) else (7, []) := by
  unfold wmade
  rw [wis_at st l k hk, wset_at l k _ hk]
  by_cases h : l[k].s ∈ st <;> simp [h]

set_option maxHeartbeats 400000 in
theorem made_any (A : Option Addr) (n c : Nat) (l : List Wk) (i : Int) (B : Option Addr) (m d : Nat) (st : List Int) (to' : Int) (w : World) (h : Sl w 30 3 A n (wcells l)) (hn : n ≤ 1000000)
    (hs : Sl w 3 1 B m (st.map (.int .i64))) (hm : m ≤ 1000000) (hi1 : -9223372036854775808 ≤ i) (hi2 : i ≤ 9223372036854775807) :
    Calls Try.prog 32 #[.agg #[.slice B m d, .int .i64 to'], .slice A n c, .int .i64 i] w fun e w' => ∃ (A' : Option Addr) (c' : Nat),
      e = .returned (.tuple #[.slice A' (wmade st to' l i).2.length c', .int .i64 (wmade st to' l i).1]) ∧
      w'.ownsRow w.heap.size 30 3 (.slice A' (wmade st to' l i).2.length c') (wmade st to' l i).2.length (wcells (wmade st to' l i).2) ∧ Gr [] w w' := by
  have hl := wk_len h
  by_cases hi : i < 0 ∨ (l.length : Int) ≤ i
  · have hw := Lib.hid (show wmade st to' l i = (2, []) by simp [wmade, wis, hi])
    rw [hw.out]
    go_enter Try.func32, Try.ntmps32
    by_cases h0 : i < 0
    · go_wp2
      go_ret2
      exact ⟨none, 0, rfl, own_nil _ _ _ _, (Gr.refl _ _).alloc _⟩
    · have h1 : (n : Int) ≤ i := by omega
      go_wp2
      go_ret2
      exact ⟨none, 0, rfl, own_nil _ _ _ _, (Gr.refl _ _).alloc _⟩
  · obtain ⟨k, rfl⟩ : ∃ k : Nat, i = k := ⟨i.toNat, by omega⟩
    have hkl : k < l.length := by omega
    have hkn : k < n := by omega
    have hkn' : (k : Int) < (n : Int) := by omega
    have hk0 : (0 : Int) ≤ (k : Int) := by omega
    have hk1 : decide ((k : Int) < 0) = false := by simp
    obtain ⟨b, off, rfl, hc, _, _⟩ := wk_at h hkl
    clear hi
    have hw : wmade st to' l k = if l[k].s ∈ st then (0, l.set k ⟨to', if to' = 0 ∨ to' = 3 then -1 else l[k].r, l[k].b⟩) else (7, []) := wmade_at st to' l k hkl
    have HW0 := Lib.hid hw
    clear hw
    by_cases hst : l[k].s ∈ st
    · have hd := decide_eq_true hst
      have hc' := cell_alloc hc (.cells #[.slice B m d, .int .i64 to'] 49)
      have HW := Lib.hid (HW0.out.trans (if_pos hst))
      clear hst
      go_enter Try.func32, Try.ntmps32
      go_wp2_with fail
      go_quiet ((go_at_call 39; exact quiet_ln (contains_any B m d st _ _ ((hs.alloc _).drewN _) hm)))
      have hto : to' = 0 ∨ to' = 3 ∨ (to' ≠ 0 ∧ to' ≠ 3) := by omega
      have e0 : (wmade st to' l k).1 = 0 := by simp [HW.out]
      have e1 : (wmade st to' l k).2 = l.set k ⟨to', if to' = 0 ∨ to' = 3 then -1 else l[k].r, l[k].b⟩ := by simp [HW.out]
      have E0 := Lib.hid e0
      have E1 := Lib.hid e1
      clear e0 e1
      rcases hto with ht | ht | ht
      · have ht1 : (to' == 0) = true := by simp [ht]
        have HT := Lib.hid ht
        clear ht
        go_wp2_with (go_at_call 35; refine (clone_any _ n c l _ ((h.alloc _).drewN _) hn).mono ?_; rintro e w1 ⟨A1, c1, rfl, hown1, hgr1⟩; obtain ⟨g, hA1, hg1, hg2, hfr⟩ := own_form hown1 (by omega); subst hA1; obtain ⟨hq0, hq1, hq2⟩ := wk_own hown1 hl hkl; have hb1 := ((Bk.new w 49 #[.slice B m d, .int .i64 to']).drewN _).gr hgr1 (by simp); obtain ⟨hx0, hx1⟩ := hb1.cells2; have hf0 := hfr (k * 3); have hf1 := hfr (k * 3 + 1); have hg3 : w.heap.size + 1 ≤ g := (by simpa using hg1); have hne : g ≠ w.heap.size := by omega)
        go_ret2
        refine ⟨_, c1, ret_slice_int (by rw [E1.out, List.length_set, hl]) E0.out.symm, ?_, ?_⟩
        · rw [E1.out, List.length_set, hl, if_pos (by have := HT.out; omega), wcells_set2 _ _ _ _ hkl]
          exact own_mono ((hown1.stored _ _).1.stored _ _).1 (by simp)
        · exact (((Gr.trans (((Gr.refl _ w).alloc _).drewN _) hgr1).setCell (.inr (by simp only; omega)) _).setCell (.inr (by simp only; omega)) _)
      · have ht0 : (to' == 0) = false := by simp [ht]
        have ht1 : (to' == 3) = true := by simp [ht]
        have HT := Lib.hid ht
        clear ht
        go_wp2_with (go_at_call 35; refine (clone_any _ n c l _ ((h.alloc _).drewN _) hn).mono ?_; rintro e w1 ⟨A1, c1, rfl, hown1, hgr1⟩; obtain ⟨g, hA1, hg1, hg2, hfr⟩ := own_form hown1 (by omega); subst hA1; obtain ⟨hq0, hq1, hq2⟩ := wk_own hown1 hl hkl; have hb1 := ((Bk.new w 49 #[.slice B m d, .int .i64 to']).drewN _).gr hgr1 (by simp); obtain ⟨hx0, hx1⟩ := hb1.cells2; have hf0 := hfr (k * 3); have hf1 := hfr (k * 3 + 1); have hg3 : w.heap.size + 1 ≤ g := (by simpa using hg1); have hne : g ≠ w.heap.size := by omega)
        go_ret2
        refine ⟨_, c1, ret_slice_int (by rw [E1.out, List.length_set, hl]) E0.out.symm, ?_, ?_⟩
        · rw [E1.out, List.length_set, hl, if_pos (by have := HT.out; omega), wcells_set2 _ _ _ _ hkl]
          exact own_mono ((hown1.stored _ _).1.stored _ _).1 (by simp)
        · exact (((Gr.trans (((Gr.refl _ w).alloc _).drewN _) hgr1).setCell (.inr (by simp only; omega)) _).setCell (.inr (by simp only; omega)) _)
      · have ht0 : (to' == 0) = false := by simp [ht.1]
        have ht1 : (to' == 3) = false := by simp [ht.2]
        have HT := Lib.hid ht
        clear ht
        go_wp2_with (go_at_call 35; refine (clone_any _ n c l _ ((h.alloc _).drewN _) hn).mono ?_; rintro e w1 ⟨A1, c1, rfl, hown1, hgr1⟩; obtain ⟨g, hA1, hg1, hg2, hfr⟩ := own_form hown1 (by omega); subst hA1; obtain ⟨hq0, hq1, hq2⟩ := wk_own hown1 hl hkl; have hb1 := ((Bk.new w 49 #[.slice B m d, .int .i64 to']).drewN _).gr hgr1 (by simp); obtain ⟨hx0, hx1⟩ := hb1.cells2; have hf0 := hfr (k * 3); have hf1 := hfr (k * 3 + 1); have hg3 : w.heap.size + 1 ≤ g := (by simpa using hg1); have hne : g ≠ w.heap.size := by omega)
        go_ret2
        refine ⟨_, c1, ret_slice_int (by rw [E1.out, List.length_set, hl]) E0.out.symm, ?_, ?_⟩
        · rw [E1.out, List.length_set, hl, if_neg (by have := HT.out; omega), wcells_set1 _ _ _ hkl]
          exact own_mono (hown1.stored _ _).1 (by simp)
        · exact ((Gr.trans (((Gr.refl _ w).alloc _).drewN _) hgr1).setCell (.inr (by simp only; omega)) _)
    · have hd := decide_eq_false hst
      have hc' := cell_alloc hc (.cells #[.slice B m d, .int .i64 to'] 49)
      have HW := Lib.hid (HW0.out.trans (if_neg hst))
      clear hst
      rw [HW.out]
      go_enter Try.func32, Try.ntmps32
      go_wp2_with fail
      go_quiet ((go_at_call 39; exact quiet_ln (contains_any B m d st _ _ ((hs.alloc _).drewN _) hm)))
      go_wp2
      go_ret2
      exact ⟨none, 0, rfl, own_nil _ _ _ _, ((Gr.refl _ _).alloc _).drewN _⟩
end Go.Proofs.Ytllhlmlghkiojaa
