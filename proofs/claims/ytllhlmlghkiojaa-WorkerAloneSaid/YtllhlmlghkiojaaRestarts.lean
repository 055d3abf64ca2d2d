/- The law on restarted workers, walked. -/
import Derived.Test.YtllhlmlghkiojaaWk2
namespace Go.Proofs.Ytllhlmlghkiojaa
open Go.RowKit

theorem set_set_wk (l : List Wk) (k : Nat) (x y : Wk) : (l.set k x).set k y = l.set k y := List.set_set ..
theorem get_set_wk (l : List Wk) (k : Nat) (x : Wk) (h : k < (l.set k x).length) : (l.set k x)[k] = x := by simp

theorem wfind_none (l : List Wk) (run : Int) (h : ∀ x ∈ l, x.r ≠ run) : wfind l run = -1 := by
  unfold wfind
  split
  · rfl
  · have h1 := (ixFrom_bd (fun x : Wk => x.r == run) l 0).1
    have h2 := ixFrom_nonneg (fun x : Wk => x.r == run) l 0
    rcases Int.lt_or_le (ixFrom (fun x : Wk => x.r == run) l 0) 0 with h3 | h3
    · omega
    · obtain ⟨x, hx, hxr⟩ := h2.1 h3
      exact absurd (by simpa using hxr) (h x hx)
theorem ixFrom_at {α : Type} (p : α → Bool) (l : List α) (b k : Nat) (hk : k < l.length) (hp : p l[k] = true) (hno : ∀ j, (hj : j < k) → p (l[j]'(by omega)) = false) : ixFrom p l b = (b + k : Nat) := by
  induction l generalizing b k with
  | nil => simp at hk
  | cons x l ih =>
    cases k with
    | zero => simp only [ixFrom]; rw [if_pos (by simpa using hp)]; simp
    | succ k =>
      have h0 := hno 0 (by omega)
      simp only [List.getElem_cons_zero] at h0
      simp only [ixFrom]
      rw [if_neg (by rw [h0]; simp)]
      rw [ih (b + 1) k (by simpa using hk) (by simpa using hp) (fun j hj => by have := hno (j + 1) (by omega); simpa using this)]
      congr 1; omega
theorem wfind_set (l : List Wk) (k : Nat) (x : Wk) (hk : k < l.length) (hx : 0 ≤ x.r) (h : ∀ j, (hj : j < k) → (l[j]'(by omega)).r ≠ x.r) : wfind (l.set k x) x.r = k := by
  unfold wfind
  rw [if_neg (by omega), ixFrom_at _ _ 0 k (by simpa using hk) (by simp)]
  · simp
  · intro j hj
    rw [List.getElem_set_ne (by omega)]
    simpa using h j hj

/-- The law's way: what each change gives. -/
structure Way (L : List Wk) (k : Nat) (b : Int) : Prop where
  assign : wassign (L.set k ⟨0, -1, b⟩) k 1000 = (0, L.set k ⟨1, 1000, b⟩)
  stop : wmade [1] 2 (L.set k ⟨1, 1000, b⟩) k = (0, L.set k ⟨2, 1000, b⟩)
  go : wmade [2] 1 (L.set k ⟨2, 1000, b⟩) k = (0, L.set k ⟨1, 1000, b⟩)
  find : wfind (L.set k ⟨2, 1000, b⟩) 1000 = k
  drop : wdrop (L.set k ⟨1, 1000, b⟩) 1000 = L.set k ⟨0, -1, b⟩
theorem way_restart (L : List Wk) (k : Nat) (hk : k < L.length) (h3 : L[k].s = 3) : wrestart L k = (0, L.set k ⟨0, -1, wrap64 (L[k].b + 1)⟩) := by
  unfold wrestart
  rw [wis_at _ _ k hk, if_pos (by rw [h3]; simp)]
  rw [wset_at L k _ hk]
theorem way_restart' (L : List Wk) (k : Nat) (hk : k < L.length) : wrestart (L.set k ⟨3, -1, L[k].b⟩) k = (0, L.set k ⟨0, -1, wrap64 (L[k].b + 1)⟩) := by
  have hk' : k < (L.set k ⟨3, -1, L[k].b⟩).length := by simpa using hk
  unfold wrestart
  rw [wis_at _ _ k hk', get_set_wk, if_pos (by simp)]
  rw [wset_at _ k _ hk', get_set_wk, set_set_wk]
theorem way_lose (L : List Wk) (hL : LOk L) (k : Nat) (hk : k < L.length) (h3 : L[k].s ≠ 3) : wmade [0, 1, 2] 3 L k = (0, L.set k ⟨3, -1, L[k].b⟩) ∧ wis L k [0, 1, 2] = 0 := by
  have hs := (hL.get k hk).1
  have hm : L[k].s ∈ ([0, 1, 2] : List Int) := by simp; omega
  rw [wmade_at _ _ _ _ hk, wis_at _ _ _ hk, if_pos hm, if_pos hm]
  exact ⟨by simp, rfl⟩
theorem way (L : List Wk) (hL : LOk L) (k : Nat) (hk : k < L.length) (b : Int) : Way L k b := by
  have hw (x : Wk) (st : List Int) : wis (L.set k x) k st = if x.s ∈ st then 0 else 7 := by
    rw [wis_at st _ k (by simpa using hk), get_set_wk]
  have hf (x : Wk) (hx : x.r = 1000) : wfind (L.set k x) 1000 = k := by
    have := wfind_set L k x hk (by omega) (fun j hj => by have := (hL.get j (by omega)).2.2; omega)
    rwa [hx] at this
  refine ⟨?_, ?_, ?_, hf _ rfl, ?_⟩
  · unfold wassign
    rw [if_neg (by omega), hw, if_pos (by simp)]
    rw [if_neg, wset_at _ k _ (by simpa using hk), get_set_wk, set_set_wk]
    rw [wfind_none]
    · omega
    · intro x hx
      rcases List.mem_or_eq_of_mem_set hx with h1 | h1
      · have := (hL.2.2 x h1).2.2; omega
      · rw [h1]; simp
  · rw [wmade_at _ _ _ _ (by simpa using hk), get_set_wk, if_pos (by simp), set_set_wk]; simp
  · rw [wmade_at _ _ _ _ (by simpa using hk), get_set_wk, if_pos (by simp), set_set_wk]; simp
  · unfold wdrop
    rw [hf _ rfl, if_neg (by omega), wset_at _ k _ (by simpa using hk), get_set_wk, set_set_wk]

set_option maxRecDepth 100000 in
set_option maxHeartbeats 4000000 in
theorem restarts_any (A : Option Addr) (n c : Nat) (zs : List Int) (i : Int) (w : World) (e5 : TypeId) (h : Sl w e5 1 A n (zs.map (.int .u8))) (hz : ∀ j, 0 ≤ zs.getD j 0 ∧ zs.getD j 0 < 256) (hnc : n ≤ c) (hn : n ≤ 9223372036854775807)
    (hi1 : -9223372036854775808 ≤ i) (hi2 : i ≤ 9223372036854775807) :
    Calls Try.prog 3 #[.slice A n c, .int .i64 i] w fun e w' => e = .returned (.bool true) ∧ Gr [] w w' := by
  go_enter Try.func3, Try.ntmps3
  go_wp2_with (first
    | (go_at_call 6; refine (sane_any _).mono ?_; rintro e w1 ⟨rfl, hg1⟩)
    | (go_at_call 8; refine (millnew_any A n c zs _ e5 (h.gr0 hg1) hz hnc hn).mono ?_; rintro e w2 ⟨g, rfl, hg, hd2, hg2⟩)
    | (go_at_call 7; refine (lmade_any g _ hd2).mono ?_; rintro e w3 ⟨L, A3, c3, rfl, hL, hs3, hd3, hg3⟩; have hgr := (hg1.trans hg2).trans_new hg3 (by intro x hx; simp at hx; subst hx; exact .inr (Nat.le_trans hg1.size hg)); have hL1 := hL.1; have hL2 := hL.2.1; clear hg1 hg2 hg3 hd2 hd3 h hz))
  refine (mod_any i L.length _ (by omega) (by omega) hi1 hi2).mono ?_
  rintro e w4 ⟨rfl, rfl⟩
  obtain ⟨k, hk⟩ : ∃ k : Nat, i % (L.length : Int) = k := ⟨(i % (L.length : Int)).toNat, by have := Int.emod_nonneg i (show (L.length : Int) ≠ 0 by omega); omega⟩
  have hkl : k < L.length := by have := Int.emod_lt_of_pos i (show 0 < (L.length : Int) by omega); omega
  rw [hk]
  have HK := Lib.hid hk
  clear hk hi1 hi2
  obtain ⟨b, off, rfl, hq0, hq1, hq2⟩ := wk_at hs3 hkl
  have HW := way L hL k hkl
  have hb : ∃ b', b' = wrap64 (L[k].b + 1) := ⟨_, rfl⟩
  obtain ⟨b', hb'⟩ := hb
  have HB := Lib.hid hb'
  clear hb'
  have hWR : ∀ W, (binOp .neq 30 (.agg #[.int .i64 0, .int .i64 (-1), .int .i64 b']) (.agg #[.int .i64 0, .int .i64 (-1), .int .i64 b'])).run Try.prog W = .ok (.bool false) W := fun W => (wk_neq ⟨0, -1, b'⟩ ⟨0, -1, b'⟩ W).trans (by simp)
  have hkL : (k : Int) < (L.length : Int) := by omega
  have hk0 : (0 : Int) ≤ (k : Int) := by omega
  by_cases h3 : L[k].s = 3
  · have h3' : (L[k].s != 3) = false := by simp [h3]
    have HR := Lib.hid (way_restart L k hkl h3)
    clear h3
    have hs5 := hs3
    have hgr5 := hgr
    go_wp2_with fail
    refine (outw_of (restart_any _ _ c3 L k _ (hs3.alloc _) (by omega) (by omega) (by omega)) HR.out).mono ?_
    rintro e w6 ⟨A6, c6, rfl, hs6, hg6⟩
    rw [← HB.out] at hs6 ⊢
    simp only [List.length_set] at hs6 ⊢
    obtain ⟨b6, off6, rfl, hx0, hx1, hx2⟩ := wk_at hs6 (k := k) (by simpa using hkl)
    simp only [List.getElem_set_self] at hx0 hx1 hx2
    have hbx := (Bk.new w3 30 #[.int .i64 L[k].s, .int .i64 L[k].r, .int .i64 L[k].b]).gr hg6 (by simp)
    obtain ⟨hy0, hy1, hy2⟩ := hbx.cells3
    have hbw : IntKind.i64.wrap (L[k].b + 1) = b' := by rw [HB.out, IntKind.wrap_i64]; unfold wrap64; rfl
    go_wp2_with fail
    go_quiet (fail)
    go_wp2_with (first
      | (go_at_call 12; refine (outw_of (assign_any _ _ _ _ k 1000 _ (hs6.drewN _) (by omega) (by omega) (by omega)) (HW b').assign).mono ?_; rintro e w7 ⟨A7, c7, rfl, hs7, hg7⟩; simp only [List.length_set] at hs7 ⊢)
      | (go_at_call 13; refine (outw_of (stop_any _ _ _ _ k _ hs7 (by omega) (by omega) (by omega)) (HW b').stop).mono ?_; rintro e w8 ⟨A8, c8, rfl, hs8, hg8⟩; simp only [List.length_set] at hs8 ⊢)
      | (go_at_call 14; refine (outw_of (go_any _ _ _ _ k _ hs8 (by omega) (by omega) (by omega)) (HW b').go).mono ?_; rintro e w9 ⟨A9, c9, rfl, hs9, hg9⟩; simp only [List.length_set] at hs9 ⊢; obtain ⟨b9, off9, rfl, hz0, hz1, hz2⟩ := wk_at hs9 (k := k) (by simpa using hkl); simp only [List.getElem_set_self] at hz0 hz1 hz2)
      | (go_at_call 15; refine (find_any _ _ _ _ 1000 _ (hs8.gr0 hg9) (by omega)).mono ?_; rintro e w10 ⟨rfl, hg10⟩; rw [(HW b').find]))
    have hs9' := hs9.gr0 hg10
    have hgx := ((hg7.trans hg8).trans hg9).trans hg10
    have hs6' := (hs6.drewN nq).gr0 hgx
    have hs5' := (((hs5.alloc _).gr0 hg6).drewN nq).gr0 hgx
    have hgr' := ((((hgr5.alloc _).trans hg6).drewN nq).trans hgx)
    clear hgx hg7 hg8 hg9 hg10 hg6 hs7 hs8 hs9 hs6 hs5 hgr5 hx0 hx1 hx2 hz0 hz1 hz2 hy0 hy1 hy2 hbx hWR hbw
    go_loopw [113] (fun v w' => ∃ j : Nat, j ≤ L.length ∧ v = .int .i64 j ∧ ∃ q, w' = w10.drewN q) (fun v _ => L.length - (intOf v).toNat)
    case atStart => exact ⟨0, Nat.zero_le _, rfl, 0, rfl⟩
    case round =>
      obtain ⟨j, hj, rfl, q, rfl⟩ := hrel
      by_cases hlt : j < L.length
      · have e1 : (j : Int) < (L.length : Int) := by omega
        have e0 : (0 : Int) ≤ (j : Int) := by omega
        by_cases hjk : j = k
        · subst hjk
          have hne : ((j : Int) != (j : Int)) = false := by simp
          go_wp2_with fail
          go_quiet (fail)
          go_wp2
          go_roundw
          case rel => exact ⟨j + 1, by omega, by go_num, _, rfl⟩
          case measure => simp [intOf]; omega
        · have hne : ((j : Int) != (k : Int)) = true := by simp; omega
          obtain ⟨b9', off9', hA9, hu0, hu1, hu2⟩ := wk_at hs9' (k := j) (by simpa using hlt)
          obtain ⟨b5', off5', hA5, hv0, hv1, hv2⟩ := wk_at hs5' (k := j) (by omega)
          obtain ⟨b6', off6', hA6, ht0, ht1, ht2⟩ := wk_at hs6' (k := j) (by simpa using hlt)
          injection hA9 with hA9; injection hA9 with hA9 hO9; subst hA9; subst hO9
          injection hA5 with hA5; injection hA5 with hA5 hO5; subst hA5; subst hO5
          injection hA6 with hA6; injection hA6 with hA6 hO6; subst hA6; subst hO6
          rw [List.getElem_set_ne (Ne.symm hjk)] at hu0 hu1 hu2 ht0 ht1 ht2
          have hq := fun W => (wk_neq L[j] L[j] W).trans (show _ = Result.ok (Value.bool false) W by simp)
          clear hs9' hs5' hs6'
          go_wp2_with fail
          go_quiet (fail)
          go_wp2
          go_roundw
          case rel => exact ⟨j + 1, by omega, by go_num, _, rfl⟩
          case measure => simp [intOf]; omega
      · go_wp2_with (first
          | (go_at_call 17; refine (outl_of (drop_any _ _ _ _ 1000 _ (hs9'.drewN q) (by omega)) (HW b').drop).mono ?_; rintro e w11 ⟨A11, c11, rfl, hs11, hg11⟩; simp only [List.length_set] at hs11 ⊢)
          | (go_at_call 16; refine (same_any _ _ _ _ _ _ _ _ _ hs11 ((hs6'.drewN q).gr0 hg11) (by omega) (by omega)).mono ?_; rintro e w12 ⟨rfl, hg12⟩))
        go_ret
        exact ⟨ret_bool (by simp), ((hgr'.drewN q).trans hg11).trans hg12⟩
  · have h3' : (L[k].s != 3) = true := by simp [h3]
    have HL := Lib.hid (way_lose L hL k hkl h3)
    have HR := Lib.hid (way_restart' L k hkl)
    have HG := Lib.hid (show (if wis L k [0, 1, 2] = 0 then (L.getD (k : Int).toNat default).r else 0) = L[k].r by rw [if_pos HL.out.2, Int.toNat_natCast, getD_lt L k hkl])
    have hrr : (L[k].r != L[k].r) = false := by simp
    clear h3
    go_wp2_with fail
    refine (outwr_of (lose_any _ _ c3 L k _ (hs3.alloc _) (by omega) (by omega) (by omega)) HL.out.1 HG.out).mono ?_
    rintro e w5 ⟨A5, c5, rfl, hs5, hg5⟩
    simp only [List.length_set] at hs5 ⊢
    obtain ⟨b5, off5, rfl, hz5, _, _⟩ := wk_at hs5 (k := k) (by simpa using hkl)
    have hgr5 := (hgr.alloc (.cells #[.int .i64 L[k].s, .int .i64 L[k].r, .int .i64 L[k].b] 30)).trans hg5
    have hbx5 := (Bk.new w3 30 #[.int .i64 L[k].s, .int .i64 L[k].r, .int .i64 L[k].b]).gr hg5 (by simp)
    obtain ⟨hw0, hw1, hw2⟩ := hbx5.cells3
    go_wp2_with fail
    clear hw0 hw1 hw2
    refine (outw_of (restart_any _ _ c5 _ k _ hs5 (by omega) (by omega) (by omega)) HR.out).mono ?_
    rintro e w6 ⟨A6, c6, rfl, hs6, hg6⟩
    rw [← HB.out] at hs6 ⊢
    simp only [List.length_set] at hs6 ⊢
    obtain ⟨b6, off6, rfl, hx0, hx1, hx2⟩ := wk_at hs6 (k := k) (by simpa using hkl)
    simp only [List.getElem_set_self] at hx0 hx1 hx2
    have hbx := hbx5.gr hg6 (by simp)
    obtain ⟨hy0, hy1, hy2⟩ := hbx.cells3
    have hbw : IntKind.i64.wrap (L[k].b + 1) = b' := by rw [HB.out, IntKind.wrap_i64]; unfold wrap64; rfl
    go_wp2_with fail
    go_quiet (fail)
    go_wp2_with (first
      | (go_at_call 12; refine (outw_of (assign_any _ _ _ _ k 1000 _ (hs6.drewN _) (by omega) (by omega) (by omega)) (HW b').assign).mono ?_; rintro e w7 ⟨A7, c7, rfl, hs7, hg7⟩; simp only [List.length_set] at hs7 ⊢)
      | (go_at_call 13; refine (outw_of (stop_any _ _ _ _ k _ hs7 (by omega) (by omega) (by omega)) (HW b').stop).mono ?_; rintro e w8 ⟨A8, c8, rfl, hs8, hg8⟩; simp only [List.length_set] at hs8 ⊢)
      | (go_at_call 14; refine (outw_of (go_any _ _ _ _ k _ hs8 (by omega) (by omega) (by omega)) (HW b').go).mono ?_; rintro e w9 ⟨A9, c9, rfl, hs9, hg9⟩; simp only [List.length_set] at hs9 ⊢; obtain ⟨b9, off9, rfl, hz0, hz1, hz2⟩ := wk_at hs9 (k := k) (by simpa using hkl); simp only [List.getElem_set_self] at hz0 hz1 hz2)
      | (go_at_call 15; refine (find_any _ _ _ _ 1000 _ (hs8.gr0 hg9) (by omega)).mono ?_; rintro e w10 ⟨rfl, hg10⟩; rw [(HW b').find]))
    have hs9' := hs9.gr0 hg10
    have hgx := ((hg7.trans hg8).trans hg9).trans hg10
    have hs6' := (hs6.drewN nq).gr0 hgx
    have hs5' := ((hs5.gr0 hg6).drewN nq).gr0 hgx
    have hgr' := (((hgr5.trans hg6).drewN nq).trans hgx)
    clear hgx hz5 hg7 hg8 hg9 hg10 hg6 hs7 hs8 hs9 hs6 hs5 hgr5 hx0 hx1 hx2 hz0 hz1 hz2 hy0 hy1 hy2 hbx hWR hbw
    go_loopw [113] (fun v w' => ∃ j : Nat, j ≤ L.length ∧ v = .int .i64 j ∧ ∃ q, w' = w10.drewN q) (fun v _ => L.length - (intOf v).toNat)
    case atStart => exact ⟨0, Nat.zero_le _, rfl, 0, rfl⟩
    case round =>
      obtain ⟨j, hj, rfl, q, rfl⟩ := hrel
      by_cases hlt : j < L.length
      · have e1 : (j : Int) < (L.length : Int) := by omega
        have e0 : (0 : Int) ≤ (j : Int) := by omega
        by_cases hjk : j = k
        · subst hjk
          have hne : ((j : Int) != (j : Int)) = false := by simp
          go_wp2_with fail
          go_quiet (fail)
          go_wp2
          go_roundw
          case rel => exact ⟨j + 1, by omega, by go_num, _, rfl⟩
          case measure => simp [intOf]; omega
        · have hne : ((j : Int) != (k : Int)) = true := by simp; omega
          obtain ⟨b9', off9', hA9, hu0, hu1, hu2⟩ := wk_at hs9' (k := j) (by simpa using hlt)
          obtain ⟨b5', off5', hA5, hv0, hv1, hv2⟩ := wk_at hs5' (k := j) (by simpa using hlt)
          obtain ⟨b6', off6', hA6, ht0, ht1, ht2⟩ := wk_at hs6' (k := j) (by simpa using hlt)
          injection hA9 with hA9; injection hA9 with hA9 hO9; subst hA9; subst hO9
          injection hA5 with hA5; injection hA5 with hA5 hO5; subst hA5; subst hO5
          injection hA6 with hA6; injection hA6 with hA6 hO6; subst hA6; subst hO6
          rw [List.getElem_set_ne (Ne.symm hjk)] at hu0 hu1 hu2 ht0 ht1 ht2 hv0 hv1 hv2
          have hq := fun W => (wk_neq L[j] L[j] W).trans (show _ = Result.ok (Value.bool false) W by simp)
          clear hs9' hs5' hs6'
          go_wp2_with fail
          go_quiet (fail)
          go_wp2
          go_roundw
          case rel => exact ⟨j + 1, by omega, by go_num, _, rfl⟩
          case measure => simp [intOf]; omega
      · go_wp2_with (first
          | (go_at_call 17; refine (outl_of (drop_any _ _ _ _ 1000 _ (hs9'.drewN q) (by omega)) (HW b').drop).mono ?_; rintro e w11 ⟨A11, c11, rfl, hs11, hg11⟩; simp only [List.length_set] at hs11 ⊢)
          | (go_at_call 16; refine (same_any _ _ _ _ _ _ _ _ _ hs11 ((hs6'.drewN q).gr0 hg11) (by omega) (by omega)).mono ?_; rintro e w12 ⟨rfl, hg12⟩))
        go_ret
        exact ⟨ret_bool (by simp), ((hgr'.drewN q).trans hg11).trans hg12⟩
end Go.Proofs.Ytllhlmlghkiojaa
