/- The workers' functions: the program's changes by their names. -/
import Derived.Test.YtllhlmlghkiojaaWd
namespace Go.Proofs.Ytllhlmlghkiojaa
open Go.RowKit

/-- What a change leaves: the workers, or nil, and the error. -/
def OutW (w : World) (r : Int × List Wk) (e : Ending) (w' : World) : Prop :=
  ∃ (A : Option Addr) (c : Nat), e = .returned (.tuple #[.slice A r.2.length c, .int .i64 r.1]) ∧ Sl w' 30 3 A r.2.length (wcells r.2) ∧ Gr [] w w'
def OutWr (w : World) (r : Int × List Wk) (q : Int) (e : Ending) (w' : World) : Prop :=
  ∃ (A : Option Addr) (c : Nat), e = .returned (.tuple #[.slice A r.2.length c, .int .i64 q, .int .i64 r.1]) ∧ Sl w' 30 3 A r.2.length (wcells r.2) ∧ Gr [] w w'
def OutL (w : World) (r : List Wk) (e : Ending) (w' : World) : Prop :=
  ∃ (A : Option Addr) (c : Nat), e = .returned (.slice A r.length c) ∧ Sl w' 30 3 A r.length (wcells r) ∧ Gr [] w w'
theorem wmade_fst (st : List Int) (to' : Int) (l : List Wk) (i : Int) : (wmade st to' l i).1 = wis l i st := by
  unfold wmade; split <;> simp_all
theorem wmade_bad (st : List Int) (to' : Int) (l : List Wk) (i : Int) (h : wis l i st ≠ 0) : wmade st to' l i = (wis l i st, []) := by
  unfold wmade; rw [if_neg h]
theorem wmade_ok (st : List Int) (to' : Int) (l : List Wk) (i : Int) (h : wis l i st = 0) : wmade st to' l i = (0, wset l i fun x => ⟨to', if to' = 0 ∨ to' = 3 then -1 else x.r, x.b⟩) := by
  unfold wmade; rw [if_pos h]
theorem wis_range {l : List Wk} {i : Int} {st : List Int} (h : wis l i st = 0) : 0 ≤ i ∧ i < l.length := by
  unfold wis at h
  split at h
  · omega
  · omega
theorem wset_length (l : List Wk) (i : Int) (f : Wk → Wk) : (wset l i f).length = l.length := by simp [wset]

set_option maxHeartbeats 400000 in
theorem release_any (A : Option Addr) (n c : Nat) (l : List Wk) (i : Int) (w : World) (h : Sl w 30 3 A n (wcells l)) (hn : n ≤ 1000000) (hi1 : -9223372036854775808 ≤ i) (hi2 : i ≤ 9223372036854775807) :
    Calls Try.prog 21 #[.slice A n c, .int .i64 i] w (OutW w (wmade [1, 2] 0 l i)) := by
  have hs : Sl (w.alloc (.cells #[.int .i64 1, .int .i64 2] 3)) 3 1 (some ⟨w.heap.size, 0, none⟩) 2 (([1, 2] : List Int).map (.int .i64)) := Sl.new w _ 1 #[.int .i64 1, .int .i64 2] 2 _ rfl rfl
  go_enter Try.func21, Try.ntmps21
  go_wp2_with (go_at_call 32; refine (made_any A n c l i _ 2 2 [1, 2] 0 _ (h.alloc _) hn hs (by omega) hi1 hi2).mono ?_; rintro e w1 ⟨A1, c1, rfl, hown, hgr⟩)
  go_ret2
  exact ⟨A1, c1, rfl, Sl.of_own hown, ((Gr.refl _ _).alloc _).trans hgr⟩

set_option maxHeartbeats 400000 in
theorem stop_any (A : Option Addr) (n c : Nat) (l : List Wk) (i : Int) (w : World) (h : Sl w 30 3 A n (wcells l)) (hn : n ≤ 1000000) (hi1 : -9223372036854775808 ≤ i) (hi2 : i ≤ 9223372036854775807) :
    Calls Try.prog 13 #[.slice A n c, .int .i64 i] w (OutW w (wmade [1] 2 l i)) := by
  have hs : Sl (w.alloc (.cells #[.int .i64 1] 3)) 3 1 (some ⟨w.heap.size, 0, none⟩) 1 (([1] : List Int).map (.int .i64)) := Sl.new w _ 1 #[.int .i64 1] 1 _ rfl rfl
  go_enter Try.func13, Try.ntmps13
  go_wp2_with (go_at_call 32; refine (made_any A n c l i _ 1 1 [1] 2 _ (h.alloc _) hn hs (by omega) hi1 hi2).mono ?_; rintro e w1 ⟨A1, c1, rfl, hown, hgr⟩)
  go_ret2
  exact ⟨A1, c1, rfl, Sl.of_own hown, ((Gr.refl _ _).alloc _).trans hgr⟩

set_option maxHeartbeats 400000 in
theorem go_any (A : Option Addr) (n c : Nat) (l : List Wk) (i : Int) (w : World) (h : Sl w 30 3 A n (wcells l)) (hn : n ≤ 1000000) (hi1 : -9223372036854775808 ≤ i) (hi2 : i ≤ 9223372036854775807) :
    Calls Try.prog 14 #[.slice A n c, .int .i64 i] w (OutW w (wmade [2] 1 l i)) := by
  have hs : Sl (w.alloc (.cells #[.int .i64 2] 3)) 3 1 (some ⟨w.heap.size, 0, none⟩) 1 (([2] : List Int).map (.int .i64)) := Sl.new w _ 1 #[.int .i64 2] 1 _ rfl rfl
  go_enter Try.func14, Try.ntmps14
  go_wp2_with (go_at_call 32; refine (made_any A n c l i _ 1 1 [2] 1 _ (h.alloc _) hn hs (by omega) hi1 hi2).mono ?_; rintro e w1 ⟨A1, c1, rfl, hown, hgr⟩)
  go_ret2
  exact ⟨A1, c1, rfl, Sl.of_own hown, ((Gr.refl _ _).alloc _).trans hgr⟩

set_option maxHeartbeats 400000 in
theorem lose_any (A : Option Addr) (n c : Nat) (l : List Wk) (i : Int) (w : World) (h : Sl w 30 3 A n (wcells l)) (hn : n ≤ 1000000) (hi1 : -9223372036854775808 ≤ i) (hi2 : i ≤ 9223372036854775807) :
    Calls Try.prog 10 #[.slice A n c, .int .i64 i] w (OutWr w (wmade [0, 1, 2] 3 l i) (if wis l i [0, 1, 2] = 0 then (l.getD i.toNat default).r else 0)) := by
  have hl := wk_len h
  have hs : Sl (w.alloc (.cells #[.int .i64 0, .int .i64 1, .int .i64 2] 3)) 3 1 (some ⟨w.heap.size, 0, none⟩) 3 (([0, 1, 2] : List Int).map (.int .i64)) := Sl.new w _ 1 #[.int .i64 0, .int .i64 1, .int .i64 2] 3 _ rfl rfl
  by_cases hok : wis l i [0, 1, 2] = 0
  · have hm := wmade_fst [0, 1, 2] 3 l i
    rw [hok] at hm
    have HM := Lib.hid hm
    have hr := wis_range hok
    obtain ⟨k, rfl⟩ : ∃ k : Nat, i = k := ⟨i.toNat, by omega⟩
    have hkl : k < l.length := by omega
    have hkn : (k : Int) < (n : Int) := by omega
    have hk0 : (0 : Int) ≤ (k : Int) := by omega
    obtain ⟨b, off, rfl, hc0, hc1, hc2⟩ := wk_at h hkl
    rw [if_pos hok]
    have HR := Lib.hid (show (l.getD (k : Int).toNat default).r = l[k].r by rw [Int.toNat_natCast, getD_lt l k hkl])
    clear hok hm hr
    go_enter Try.func10, Try.ntmps10
    go_wp2_with (go_at_call 32; refine (made_any _ n c l k _ 3 3 [0, 1, 2] 3 _ (h.alloc _) hn hs (by omega) hi1 hi2).mono ?_; rintro e w1 ⟨A1, c1, rfl, hown, hgr⟩; rw [HM.out]; have hcc := (((Gr.refl [] w).alloc _).trans hgr).cell hc1 (by simp))
    go_quiet (fail)
    go_wp2
    go_ret3
    exact ⟨A1, c1, ret_slice_int_int rfl HR.out.symm HM.out.symm, Sl.drewN (Sl.of_own hown) _, (((Gr.refl _ _).alloc _).trans hgr).drewN _⟩
  · have hm := wmade_fst [0, 1, 2] 3 l i
    have HB := Lib.hid (wmade_bad [0, 1, 2] 3 l i hok)
    rw [if_neg hok]
    have hne : (wis l i [0, 1, 2] != 0) = true := by simp [hok]
    have HM := Lib.hid hm
    clear hok hm
    go_enter Try.func10, Try.ntmps10
    go_wp2_with (go_at_call 32; refine (made_any _ n c l i _ 3 3 [0, 1, 2] 3 _ (h.alloc _) hn hs (by omega) hi1 hi2).mono ?_; rintro e w1 ⟨A1, c1, rfl, hown, hgr⟩; rw [HM.out])
    go_ret3
    refine ⟨none, 0, ret_slice_int_int (by rw [HB.out]; rfl) rfl (by rw [HB.out]), ?_, ((Gr.refl _ _).alloc _).trans hgr⟩
    rw [HB.out]
    exact Sl.nil _ _ _ _
end Go.Proofs.Ytllhlmlghkiojaa
