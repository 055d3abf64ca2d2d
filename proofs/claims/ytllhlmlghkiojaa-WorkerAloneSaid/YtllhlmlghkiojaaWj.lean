/- New workers, the program's. -/
import Derived.Test.YtllhlmlghkiojaaWi
import Derived.Deep.RegionLaw
import Derived.StillTailTactics
namespace Go.Proofs.Ytllhlmlghkiojaa
open Go.RowKit

set_option maxHeartbeats 1000000 in
theorem mul_any (m : Nat) (h1 : 1 ≤ m) (h2 : m ≤ 8) (w : World) :
    Calls Try.prog 40 #[.int .u64 1, .int .u64 m] w fun e w' => e = .returned (.tuple #[.int .u64 0, .int .u64 m]) ∧ w = w' := by
  have hm : m = 1 ∨ m = 2 ∨ m = 3 ∨ m = 4 ∨ m = 5 ∨ m = 6 ∨ m = 7 ∨ m = 8 := by omega
  rcases hm with rfl | rfl | rfl | rfl | rfl | rfl | rfl | rfl
  all_goals
    go_enter Try.func40, Try.ntmps40
    go_wp2
    go_ret2
    exact ⟨rfl, rfl⟩

theorem zeros_len (m : Nat) : (madeCells #[.int .i64 0, .int .i64 0, .int .i64 0] (m * 3)).size = m * 3 := by
  simp [madeCells]

def wk0 : Wk := ⟨0, -1, 1⟩
/-- The row's first k workers are new ones. -/
def Rp (k m : Nat) (cur : Array Value) : Prop := cur.size = m * 3 ∧ cur.toList.take (k * 3) = wcells (List.replicate k wk0)
theorem Rp.step {n k m : Nat} {cur : Array Value} (h : Rp n m cur) (hk : n + k ≤ m) :
    Rp (n + k) m (cur.toList.take (n * 3) ++ wcells (List.replicate k wk0) ++ cur.toList.drop (n * 3 + (wcells (List.replicate k wk0)).length)).toArray := by
  have hl : (wcells (List.replicate k wk0)).length = k * 3 := by rw [wcells_length, List.length_replicate]
  have hn : (cur.toList.take (n * 3)).length = n * 3 := by rw [List.length_take, Array.length_toList, h.1]; omega
  refine ⟨?_, ?_⟩
  · have := h.1
    simp only [List.size_toArray, List.length_append, List.length_drop, hn, hl, Array.length_toList]; omega
  · rw [h.2] at hn ⊢
    have e : (n + k) * 3 = (wcells (List.replicate n wk0) ++ wcells (List.replicate k wk0)).length := by rw [List.length_append, hn, hl]; omega
    rw [e, List.take_left, ← wcells_append, List.replicate_append_replicate]
theorem Rp.cells {n m : Nat} {cur : Array Value} (h : Rp n m cur) {w : World} {g : Nat} (hb : Bk w g 30 cur) (k : Nat) (hk : k ≤ n) :
    ∀ j v, (wcells (List.replicate k wk0))[j]? = some v → w.cell? ((⟨g, 0, none⟩ : Addr).add j) = some v := by
  intro j v hv
  have hl : (wcells (List.replicate k wk0)).length = k * 3 := by rw [wcells_length, List.length_replicate]
  have hj : j < k * 3 := by have := (List.getElem?_eq_some_iff.1 hv).1; omega
  rw [addr_lit, Nat.zero_add, hb.cell]
  have e : wcells (List.replicate n wk0) = wcells (List.replicate k wk0) ++ wcells (List.replicate (n - k) wk0) := by
    rw [← wcells_append, List.replicate_append_replicate]; congr 2; omega
  have h2 : (wcells (List.replicate n wk0))[j]? = some v := by rw [e, List.getElem?_append_left (by omega)]; exact hv
  rw [← h.2, List.getElem?_take] at h2
  split at h2
  · simpa using h2
  · cases h2

set_option maxHeartbeats 1000000 in
theorem repeat_any (m : Nat) (hm1 : 1 ≤ m) (hm8 : m ≤ 8) (w : World) (g : Nat) (hb : Bk w g 30 #[.int .i64 0, .int .i64 (-1), .int .i64 1]) :
    Calls Try.prog 38 #[.slice (some ⟨g, 0, none⟩) 1 1, .int .i64 m] w (OutL w (List.replicate m wk0)) := by
  obtain ⟨i0, hi0, hz0, hz1, hz2⟩ := info_parts Try.infoWk
  have hgl := hb.lt
  have hmk := fun W => run_make_rowN (P := Try.prog) 24 30 i0 _ Try.underlying24 hi0 hz0 .i64 .i64 m m (Nat.le_refl _) (by rw [hz2]; omega) (by omega) W
  have hm' : decide ((m : Int) < 0) = false := by simp
  have hm'' : decide ((9223372036854775807 : Int) < (m : Int)) = false := by simp; omega
  have hsrc : ∀ j v, (wcells (List.replicate 1 wk0))[j]? = some v → (w.alloc (.cells (madeCells #[.int .i64 0, .int .i64 0, .int .i64 0] (m * 3)) 30)).cell? ((⟨g, 0, none⟩ : Addr).add j) = some v := by
    intro j v hv
    rw [addr_lit, Nat.zero_add]
    refine cell_alloc ?_ _
    rw [hb.cell]
    rw [← hv]
    simp [wcells, wk0, Wk.E]
  have hR0 : Rp 0 m (madeCells #[.int .i64 0, .int .i64 0, .int .i64 0] (m * 3)) := ⟨zeros_len m, by simp [wcells]⟩
  have HS := Lib.hid hsrc
  clear hsrc
  go_enter Try.func38, Try.ntmps38
  go_wp2_with (first | (go_at_call 40; refine (mul_any m hm1 hm8 _).mono ?_; rintro e w1 ⟨rfl, rfl⟩) | (with_reducible refine wpList_copy_gen _ rfl (.tmp 31) (.tmp 32) 24 24 rfl 30 i0 3 Try.underlying24 hi0 hz1 w.heap.size 0 m m ⟨g, 0, none⟩ 1 1 1 rfl rfl _ 30 (Bk.new w 30 _) (wcells (List.replicate 1 wk0)) ?k1 ?k2 HS.out ?k3 (wcells_one _) ?_; rotate_right; intro w1 hb1 hg1))
  case k1 => exact (Nat.min_eq_left hm1).symm
  case k2 => simp [wcells_length]
  case k3 => rw [zeros_len m, wcells_length]; simp; omega
  have hR1 := hR0.step (k := 1) (by omega)
  simp only [Nat.zero_mul, Nat.zero_add] at hR1 hb1
  have hgr1 := hg1 [] w (.inr (Nat.le_refl _)) ((Gr.refl _ _).alloc _)
  clear hg1 hR0 hmk
  go_loopw [8] (fun v w' => ∃ (n : Nat) (cur : Array Value), 1 ≤ n ∧ n ≤ m ∧ v = .int .i64 n ∧ Bk w' w.heap.size 30 cur ∧ Rp n m cur ∧ Gr [] w w') (fun v _ => m - (intOf v).toNat)
  case atStart => exact ⟨1, _, Nat.le_refl _, hm1, rfl, hb1, hR1, hgr1⟩
  case round =>
    obtain ⟨n, cur, hn1, hnm, rfl, hbn, hRn, hgrn⟩ := hrel
    clear hb1 hR1 hgr1
    by_cases hlt : n < m
    · have hne : ¬ m = n := by omega
      have hlt' : (n : Int) < (m : Int) := by omega
      obtain ⟨k, hk⟩ : ∃ k, k = Nat.min n (m - n) := ⟨_, rfl⟩
      have hkn : k ≤ n := by rw [hk]; exact Nat.min_le_left _ _
      have hkm : n + k ≤ m := by have : k ≤ m - n := (by rw [hk]; exact Nat.min_le_right _ _); omega
      have hk1 : 1 ≤ k := by rw [hk]; exact Nat.le_min.2 ⟨hn1, by omega⟩
      obtain ⟨w2, hcp, hb2, hg2⟩ := run_copy_ex (P := Try.prog) wr.drew 24 24 3 30 i0 3 w.heap.size (n * 3) (m - n) (m - n) ⟨w.heap.size, 0, none⟩ n m k cur 30 (wcells (List.replicate k wk0)) Try.underlying24 hi0 hz1 hbn.drew hk (by simp [wcells_length]) (hRn.cells hbn.drew _ hkn) (by rw [hRn.1]; simp [wcells_length]; omega) (wcells_one _)
      have hR2 := hRn.step hkm
      have hgr2 := hg2 [] w (.inr (Nat.le_refl _)) hgrn.drew
      clear hk hg2 hbn hRn hgrn
      have HB2 := Lib.hid hb2
      have HR2 := Lib.hid hR2
      clear hb2 hR2
      go_wp2_with fail
      go_region
      go_wp2
      go_roundw
      case rel => exact ⟨n + k, _, by omega, hkm, by go_num, HB2.out, HR2.out, hgr2⟩
      case measure => simp [intOf]; omega
    · have hnm' : n = m := by omega
      subst hnm'
      have HRn := Lib.hid hRn
      clear hRn
      go_wp2
      go_ret
      refine ⟨_, _, ret_slice (by simp), ?_, hgrn⟩
      have hx := HRn.out
      refine ⟨by simp [wcells_length], fun _ => ⟨_, 0, cur, (0, 0), rfl, hbn, fun j u hu => ?_⟩⟩
      rw [← hx.2, List.getElem?_take] at hu
      split at hu
      · simpa using hu
      · cases hu

set_option maxHeartbeats 1000000 in
theorem new_workers (N : Int) (w : World) :
    Calls Try.prog 27 #[.int .i64 N] w (OutW w (wnew N)) := by
  by_cases hN : N < 1 ∨ 8 < N
  · have HT := Lib.hid (show wnew N = (2, []) by unfold wnew; rw [if_pos hN])
    have hfin : ∀ W, Gr [] w W → OutW w (wnew N) (.returned (.tuple #[.slice none 0 0, .int .i64 2])) W := by
      intro W hW
      refine ⟨none, 0, by rw [HT.out]; rfl, ?_, hW⟩
      rw [HT.out]
      exact Sl.nil _ _ _ _
    rcases hN with hN | hN
    · go_enter Try.func27, Try.ntmps27
      go_wp2
      go_ret2
      exact hfin _ (Gr.refl _ _)
    · go_enter Try.func27, Try.ntmps27
      go_wp2
      go_ret2
      exact hfin _ (Gr.refl _ _)
  · obtain ⟨m, rfl⟩ : ∃ m : Nat, N = m := ⟨N.toNat, by omega⟩
    have HT := Lib.hid (show wnew m = (0, List.replicate m wk0) by unfold wnew; rw [if_neg hN, Int.toNat_natCast]; rfl)
    have hm1 : 1 ≤ m := by omega
    have hm8 : m ≤ 8 := by omega
    clear hN
    go_enter Try.func27, Try.ntmps27
    go_wp2_with (go_at_call 38; refine (repeat_any m hm1 hm8 _ _ (Bk.new w 30 _)).mono ?_; rintro e w1 ⟨A, c, rfl, hs, hgr⟩)
    go_ret2
    refine ⟨A, c, ret_slice_int (by rw [HT.out]; simp) (by rw [HT.out]), ?_, ((Gr.refl _ _).alloc _).trans hgr⟩
    rw [HT.out]
    exact hs

/-- The reference's equality of workers. -/
theorem wcells_inj {l m : List Wk} (h : wcells l = wcells m) : l = m := by
  induction l generalizing m with
  | nil =>
    cases m with
    | nil => rfl
    | cons y m => simp [wcells, Wk.E] at h
  | cons x l ih =>
    cases m with
    | nil => simp [wcells, Wk.E] at h
    | cons y m =>
      simp only [wcells, List.flatMap_cons, Wk.E, List.cons_append, List.nil_append, List.cons.injEq, Value.int.injEq, true_and] at h
      obtain ⟨h1, h2, h3, h4⟩ := h
      rw [ih h4]
      cases x; cases y; simp_all

theorem wk_neq (x y : Wk) (w : World) : (binOp .neq 30 (.agg #[.int .i64 x.s, .int .i64 x.r, .int .i64 x.b]) (.agg #[.int .i64 y.s, .int .i64 y.r, .int .i64 y.b])).run Try.prog w = .ok (.bool (!decide (x = y))) w := by
  obtain ⟨a1, a2, a3⟩ := x
  obtain ⟨b1, b2, b3⟩ := y
  go_simp
  by_cases h1 : a1 = b1
  · by_cases h2 : a2 = b2
    · simp [h1, h2]
      by_cases h3 : a3 = b3 <;> simp [h3]
    · simp [h1, h2]
  · simp [h1]

set_option maxHeartbeats 1000000 in
theorem same_any (A B : Option Addr) (n m c d : Nat) (l k : List Wk) (w : World) (hA : Sl w 30 3 A n (wcells l)) (hB : Sl w 30 3 B m (wcells k)) (hn : n ≤ 1000000) (hm : m ≤ 1000000) :
    Calls Try.prog 16 #[.slice A n c, .slice B m d] w fun e w' => e = .returned (.bool (decide (l = k))) ∧ Gr [] w w' := by
  have hl := wk_len hA
  have hk := wk_len hB
  by_cases hnm : n = m
  · subst hnm
    go_enter Try.func16, Try.ntmps16
    go_wp2
    go_loopw [5] (fun v w' => ∃ j : Nat, j ≤ n ∧ v = .int .i64 j ∧ (∀ x, x < j → l[x]? = k[x]?) ∧ ∃ q, w' = w.drewN q) (fun v _ => n - (intOf v).toNat)
    case atStart => exact ⟨0, Nat.zero_le _, rfl, fun x hx => absurd hx (by omega), 0, rfl⟩
    case round =>
      obtain ⟨j, hj, rfl, hsame, q, rfl⟩ := hrel
      have HS := Lib.hid hsame
      clear hsame
      by_cases hlt : j < n
      · obtain ⟨b, off, rfl, ha0, ha1, ha2⟩ := wk_at hA (show j < l.length by omega)
        obtain ⟨b', off', rfl, hb0, hb1, hb2⟩ := wk_at hB (show j < k.length by omega)
        clear hA hB
        have e1 : (j : Int) < (n : Int) := by omega
        by_cases heq : l[j] = k[j]
        · have hq := fun W => (wk_neq l[j] k[j] W).trans (show _ = Result.ok (Value.bool false) W by rw [decide_eq_true heq]; rfl)
          have HE := Lib.hid heq
          clear heq
          go_wp2_with fail
          go_quiet (fail)
          go_wp2
          go_roundw
          case rel => exact ⟨j + 1, by omega, by go_num, fun x hx => by
            rcases Nat.lt_or_ge x j with h1 | h1
            · exact HS.out x h1
            · have : x = j := by omega
              subst this
              rw [List.getElem?_eq_getElem (by omega), List.getElem?_eq_getElem (by omega), HE.out], _, rfl⟩
          case measure => simp [intOf]; omega
        · have hq := fun W => (wk_neq l[j] k[j] W).trans (show _ = Result.ok (Value.bool true) W by rw [decide_eq_false heq]; rfl)
          go_wp2_with fail
          go_quiet (fail)
          go_wp2
          go_ret
          refine ⟨ret_bool ?_, ((Gr.refl _ _).drewN _).drewN _⟩
          symm
          rw [decide_eq_false_iff_not]
          rintro rfl
          exact heq rfl
      · go_wp2
        go_ret
        refine ⟨ret_bool ?_, (Gr.refl _ _).drewN _⟩
        symm
        rw [decide_eq_true_eq]
        apply List.ext_getElem?
        intro x
        rcases Nat.lt_or_ge x n with hx | hx
        · exact HS.out x (by omega)
        · rw [List.getElem?_eq_none (by omega), List.getElem?_eq_none (by omega)]
  · have hne : ((n : Int) != (m : Int)) = true := by simp; omega
    go_enter Try.func16, Try.ntmps16
    go_wp2
    go_ret
    refine ⟨ret_bool ?_, Gr.refl _ _⟩
    symm
    rw [decide_eq_false_iff_not]
    rintro rfl
    omega
end Go.Proofs.Ytllhlmlghkiojaa
