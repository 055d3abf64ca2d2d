/- The law on workers that have runs alone, walked. -/
import Derived.Test.YtllhlmlghkiojaaRestarts
import Derived.Deep.DeepCutAuto
import Derived.Deep.CutBlock
namespace Go.Proofs.Ytllhlmlghkiojaa
open Go.RowKit

def AWk (b : Int) (x : Wk) : Prop := ((x.s = 0 ∨ x.s = 3) ∧ x.r = -1 ∨ (x.s = 1 ∨ x.s = 2) ∧ 0 ≤ x.r ∧ x.r ≤ 4) ∧ 1 ≤ x.b ∧ x.b ≤ 1 + b
/-- Each worker is as it must be, and no run is with two of them. -/
structure AOk (b : Int) (l : List Wk) : Prop where
  low : 1 ≤ l.length
  high : l.length ≤ 5
  each : ∀ (k : Nat) (h : k < l.length), AWk b l[k]
  alone : ∀ (i j : Nat) (hi : i < l.length) (hj : j < l.length), l[i].r = l[j].r → 0 ≤ l[i].r → i = j
theorem AOk.mono {b b' : Int} {l : List Wk} (h : AOk b l) (hb : b ≤ b') : AOk b' l :=
  ⟨h.low, h.high, fun k hk => by have := h.each k hk; exact ⟨this.1, this.2.1, by have := this.2.2; omega⟩, h.alone⟩
theorem AOk.set {b : Int} {l : List Wk} (h : AOk b l) (k : Nat) {x : Wk} (hx : AWk b x) (hr : x.r < 0 ∨ ∀ j (hj : j < l.length), j ≠ k → l[j].r ≠ x.r) : AOk b (l.set k x) := by
  refine ⟨by simpa using h.low, by simpa using h.high, fun j hj => ?_, fun i j hi hj he hp => ?_⟩
  · rw [List.getElem_set]
    split
    · exact hx
    · exact h.each j (by simpa using hj)
  · have hi' : i < l.length := by simpa using hi
    have hj' : j < l.length := by simpa using hj
    rw [List.getElem_set] at he hp
    rw [List.getElem_set] at he
    split at he
    · rename_i hki
      rw [if_pos hki] at hp
      split at he
      · omega
      · rename_i hkj
        rcases hr with hr | hr
        · omega
        · exact absurd he.symm (hr j hj' (fun e => hkj e.symm))
    · rename_i hki
      rw [if_neg hki] at hp
      split at he
      · rcases hr with hr | hr
        · omega
        · exact absurd he (hr i hi' (fun e => hki e.symm))
      · exact h.alone i j hi' hj' he hp
theorem wfind_miss {l : List Wk} {run : Int} (hr : 0 ≤ run) (h : ¬ 0 ≤ wfind l run) : ∀ j (hj : j < l.length), l[j].r ≠ run := by
  intro j hj he
  apply h
  unfold wfind
  rw [if_neg (by omega), ixFrom_nonneg]
  exact ⟨l[j], List.getElem_mem hj, by simp [he]⟩
theorem AOk.assign {b : Int} {l : List Wk} (h : AOk b l) (i run : Int) (hr : run ≤ 4) (h0 : (wassign l i run).1 = 0) : AOk b (wassign l i run).2 := by
  unfold wassign at h0 ⊢
  by_cases h1 : run < 0
  · rw [if_pos h1] at h0; simp at h0
  rw [if_neg h1] at h0 ⊢
  by_cases h2 : wis l i [0] = 0
  · rw [if_pos h2] at h0 ⊢
    by_cases h3 : 0 ≤ wfind l run
    · rw [if_pos h3] at h0; simp at h0
    · rw [if_neg h3]
      have hr' := wis_range h2
      obtain ⟨k, rfl⟩ : ∃ k : Nat, i = k := ⟨i.toNat, by omega⟩
      have hk : k < l.length := by omega
      have := h.each k hk
      rw [wset_at l k _ hk]
      exact h.set k ⟨.inr ⟨.inl rfl, by simp only; omega, by simp only; omega⟩, this.2⟩ (.inr fun j hj _ => wfind_miss (by omega) h3 j hj)
  · rw [if_neg h2] at h0; exact absurd h0 h2
theorem AOk.made {b : Int} {l : List Wk} (h : AOk b l) (st : List Int) (to' i : Int) (ht : to' = 0 ∨ to' = 3 ∨ (to' = 1 ∨ to' = 2) ∧ ∀ x ∈ st, x = 1 ∨ x = 2) (h0 : (wmade st to' l i).1 = 0) : AOk b (wmade st to' l i).2 := by
  rw [wmade_fst] at h0
  have hr := wis_range h0
  obtain ⟨k, rfl⟩ : ∃ k : Nat, i = k := ⟨i.toNat, by omega⟩
  have hk : k < l.length := by omega
  rw [wmade_ok _ _ _ _ h0, wset_at l k _ hk]
  rw [wis_at _ _ _ hk] at h0
  have hm : l[k].s ∈ st := by
    by_cases hm : l[k].s ∈ st
    · exact hm
    · rw [if_neg hm] at h0; omega
  have hw := h.each k hk
  by_cases h03 : to' = 0 ∨ to' = 3
  · simp only [if_pos h03]
    exact h.set k ⟨.inl ⟨h03, rfl⟩, hw.2⟩ (.inl (by simp only; omega))
  · simp only [if_neg h03]
    have ht' : (to' = 1 ∨ to' = 2) ∧ ∀ x ∈ st, x = 1 ∨ x = 2 := by
      rcases ht with e | e | e
      · exact absurd (.inl e) h03
      · exact absurd (.inr e) h03
      · exact e
    have hs := ht'.2 _ hm
    have hrr : 0 ≤ l[k].r ∧ l[k].r ≤ 4 := by
      rcases hw.1 with e | e
      · omega
      · exact e.2
    refine h.set k ⟨.inr ⟨ht'.1, hrr⟩, hw.2⟩ (.inr fun j hj hne he => hne ?_)
    exact h.alone j k hj hk he (by rw [he]; exact hrr.1)
theorem AOk.restart {b : Int} {l : List Wk} (h : AOk b l) (hb : b ≤ 1000) (hb0 : 0 ≤ b) (i : Int) (h0 : (wrestart l i).1 = 0) : AOk (b + 1) (wrestart l i).2 := by
  unfold wrestart at h0 ⊢
  by_cases h2 : wis l i [3] = 0
  · rw [if_pos h2]
    have hr := wis_range h2
    obtain ⟨k, rfl⟩ : ∃ k : Nat, i = k := ⟨i.toNat, by omega⟩
    have hk : k < l.length := by omega
    rw [wset_at l k _ hk]
    have hw := (h.each k hk).2
    refine (h.mono (by omega)).set k ⟨.inl ⟨.inl rfl, rfl⟩, ?_, ?_⟩ (.inl (by simp only; omega))
    · simp only; rw [IntWalk.wrap64_in _ (by omega)]; omega
    · simp only; rw [IntWalk.wrap64_in _ (by omega)]; omega
  · rw [if_neg h2] at h0; exact absurd h0 h2
theorem AOk.drop {b : Int} {l : List Wk} (h : AOk b l) (run : Int) : AOk b (wdrop l run) := by
  unfold wdrop
  by_cases hf : wfind l run < 0
  · rw [if_pos hf]; exact h
  · rw [if_neg hf]
    have hbd := ixFrom_bd (fun x : Wk => x.r == run) l 0
    obtain ⟨k, hk⟩ : ∃ k : Nat, wfind l run = k := ⟨(wfind l run).toNat, by omega⟩
    have hkl : k < l.length := by
      unfold wfind at hk hf
      split at hk
      · omega
      · omega
    rw [hk, wset_at l k _ hkl]
    exact h.set k ⟨.inl ⟨.inl rfl, rfl⟩, (h.each k hkl).2⟩ (.inl (by simp only; omega))
theorem AOk.new (N : Int) (h1 : 1 ≤ N) (h5 : N ≤ 5) : AOk 0 (wnew N).2 := by
  unfold wnew
  rw [if_neg (by omega)]
  refine ⟨by simp; omega, by simp; omega, fun k hk => ?_, fun i j hi hj he hp => ?_⟩
  · simp only [List.getElem_replicate]
    exact ⟨.inl ⟨.inl rfl, rfl⟩, by simp only; omega, by simp only; omega⟩
  · simp at hp
theorem AOk.find {b : Int} {l : List Wk} (h : AOk b l) (j : Nat) (hj : j < l.length) (hp : 0 ≤ l[j].r) : wfind l l[j].r = j := by
  have := wfind_set l j l[j] hj hp (fun i hi he => by have := h.alone i j (by omega) hj he (by rw [he]; exact hp); omega)
  rwa [List.set_getElem_self] at this
theorem way_release {b : Int} {l : List Wk} (_h : AOk b l) (j : Nat) (hj : j < l.length) (hs : l[j].s = 1 ∨ l[j].s = 2) : wmade [1, 2] 0 l j = (0, l.set j ⟨0, -1, l[j].b⟩) := by
  rw [wmade_at _ _ _ _ hj, if_pos (by simp; omega)]; simp

set_option maxRecDepth 100000 in
set_option maxHeartbeats 8000000 in
theorem alone_any (A : Option Addr) (n c : Nat) (zs : List Int) (w : World) (e5 : TypeId) (h : Sl w e5 1 A n (zs.map (.int .u8))) (hz : ∀ j, 0 ≤ zs.getD j 0 ∧ zs.getD j 0 < 256) (hnc : n ≤ c) (hn : n ≤ 9223372036854775807) :
    Calls Try.prog 5 #[.slice A n c] w fun e w' => e = .returned (.bool true) ∧ Gr [] w w' := by
  go_enter Try.func5, Try.ntmps5
  go_wp2_with (first
    | (go_at_call 6; refine (sane_any _).mono ?_; rintro e w1 ⟨rfl, hg1⟩)
    | (go_at_call 8; refine (millnew_any A n c zs _ e5 (h.gr0 hg1) hz hnc hn).mono ?_; rintro e w2 ⟨g, rfl, hgl, hd2, hg2⟩; have hgw : w.heap.size ≤ g := Nat.le_trans hg1.size hgl)
    | (go_at_call 29; refine (range_any g 1 5 _ hd2 (by omega) (by omega) (by omega)).mono ?_; rintro e w3 ⟨N, rfl, hN1, hN2, hd3, hg3⟩)
    | (go_at_call 27; refine (new_workers N _).mono ?_; rintro e w4 ⟨A4, c4, rfl, hs4, hg4⟩; have hL := AOk.new N hN1 hN2; have hd4 := hd3.gr0 hg4; have hgr := ((hg1.trans hg2).trans_new hg3 (by intro x hx; simp at hx; subst hx; exact .inr hgw)).trans hg4; clear hg1 hg2 hg3 hg4 hd2 hd3 h hz))
  generalize (wnew N).2 = L0 at *
  go_loopw [4, 6] (fun v kk w' => ∃ (L : List Wk) (A : Option Addr) (c k : Nat), kk = .int .i64 k ∧ k ≤ 30 ∧ v = .slice A L.length c ∧ AOk k L ∧ Sl w' 30 3 A L.length (wcells L) ∧ Dice w' g ∧ Gr [] w w') (fun _ kk _ => 30 - (intOf kk).toNat)
  case atStart => exact ⟨L0, A4, c4, 0, rfl, by omega, rfl, hL, hs4, hd4, hgr⟩
  case round =>
    clear hL hs4 hd4 hgr
    obtain ⟨L, A, c, k, rfl, hk, rfl, hL, hs, hd, hgr⟩ := hrel
    have hgM : ∀ x ∈ [g], x ∈ ([] : List Nat) ∨ w.heap.size ≤ x := by intro x hx; simp at hx; subst hx; exact .inr hgw
    have HM := Lib.hid hgM
    clear hgM
    by_cases hk0 : k < 30
    · have hL1 := hL.low
      have hL2 := hL.high
      go_wp2_with fail
      (with_reducible refine (pick_any g L.length _ hd (by omega) (by omega)).mono ?_)
      rintro e w1 ⟨i, rfl, hi1, hi2, hd1, hg1⟩
      have hs1 := hs.dice hd hg1
      have hgr1 := hgr.trans_new hg1 HM.out
      clear hs hd hg1 hgr
      go_wp2_with fail
      (with_reducible refine (pick_any g 7 _ hd1 (by omega) (by omega)).mono ?_)
      rintro e w2 ⟨r, rfl, hr1, hr2, hd2, hg2⟩
      have hs2 := hs1.dice hd1 hg2
      have hgr2 := hgr1.trans_new hg2 HM.out
      clear hs1 hd1 hg2 hgr1
      go_upto_block 2 with fail
      go_cut [8, 9] (fun x e wx => ∃ (L' : List Wk) (A' : Option Addr) (c' : Nat) (code : Int), x = .slice A' L'.length c' ∧ e = .int .i64 code ∧ (code = 0 → AOk (k + 1) L') ∧ Sl wx 30 3 A' L'.length (wcells L') ∧ Sl wx 30 3 A L.length (wcells L) ∧ Dice wx g ∧ Gr [] w wx)
      case first =>
        have hr : r = 0 ∨ r = 1 ∨ r = 2 ∨ r = 3 ∨ r = 4 ∨ r = 5 ∨ r = 6 := by omega
        rcases hr with rfl | rfl | rfl | rfl | rfl | rfl | rfl
        · go_wp2_with fail
          (with_reducible refine (pick_any g 5 _ hd2 (by omega) (by omega)).mono ?_)
          rintro e w3 ⟨q, rfl, hq1, hq2, hd3, hg3⟩
          have hs3 := hs2.dice hd2 hg3
          have hgr3 := hgr2.trans_new hg3 HM.out
          clear hs2 hd2 hg3 hgr2
          go_wp2_with fail
          have hok : (wassign L i q).1 = 0 → AOk (k + 1) (wassign L i q).2 := fun h0 => (hL.assign i q (by omega) h0).mono (by omega)
          (with_reducible refine (assign_any A _ c L i q _ hs3 (by omega) (by omega) (by omega)).mono ?_)
          rintro e w4 ⟨A4, c4, rfl, hs4, hg4⟩
          generalize wassign L i q = R at *
          have HOK := Lib.hid hok
          clear hok
          go_wp2_with fail
          go_meet
          exact ⟨R.2, A4, c4, R.1, rfl, rfl, HOK.out, hs4, hs3.gr0 hg4, hd3.gr0 hg4, hgr3.trans hg4⟩
        · go_wp2_with fail
          (with_reducible refine (pick_any g 5 _ hd2 (by omega) (by omega)).mono ?_)
          rintro e w3 ⟨q, rfl, hq1, hq2, hd3, hg3⟩
          have hs3 := hs2.dice hd2 hg3
          have hgr3 := hgr2.trans_new hg3 HM.out
          clear hs2 hd2 hg3 hgr2
          go_wp2_with fail
          have hok : (wassign L i q).1 = 0 → AOk (k + 1) (wassign L i q).2 := fun h0 => (hL.assign i q (by omega) h0).mono (by omega)
          (with_reducible refine (assign_any A _ c L i q _ hs3 (by omega) (by omega) (by omega)).mono ?_)
          rintro e w4 ⟨A4, c4, rfl, hs4, hg4⟩
          generalize wassign L i q = R at *
          have HOK := Lib.hid hok
          clear hok
          go_wp2_with fail
          go_meet
          exact ⟨R.2, A4, c4, R.1, rfl, rfl, HOK.out, hs4, hs3.gr0 hg4, hd3.gr0 hg4, hgr3.trans hg4⟩
        · have hs3 := hs2
          have hd3 := hd2
          have hgr3 := hgr2
          clear hs2 hd2 hgr2
          go_wp2_with fail
          have hok : (wmade [1] 2 L i).1 = 0 → AOk (k + 1) (wmade [1] 2 L i).2 := fun h0 => (hL.made [1] 2 i (.inr (.inr ⟨.inr rfl, by simp⟩)) h0).mono (by omega)
          (with_reducible refine (stop_any A _ c L i _ hs3 (by omega) (by omega) (by omega)).mono ?_)
          rintro e w4 ⟨A4, c4, rfl, hs4, hg4⟩
          generalize wmade [1] 2 L i = R at *
          have HOK := Lib.hid hok
          clear hok
          go_wp2_with fail
          go_meet
          exact ⟨R.2, A4, c4, R.1, rfl, rfl, HOK.out, hs4, hs3.gr0 hg4, hd3.gr0 hg4, hgr3.trans hg4⟩
        · have hs3 := hs2
          have hd3 := hd2
          have hgr3 := hgr2
          clear hs2 hd2 hgr2
          go_wp2_with fail
          have hok : (wmade [2] 1 L i).1 = 0 → AOk (k + 1) (wmade [2] 1 L i).2 := fun h0 => (hL.made [2] 1 i (.inr (.inr ⟨.inl rfl, by simp⟩)) h0).mono (by omega)
          (with_reducible refine (go_any A _ c L i _ hs3 (by omega) (by omega) (by omega)).mono ?_)
          rintro e w4 ⟨A4, c4, rfl, hs4, hg4⟩
          generalize wmade [2] 1 L i = R at *
          have HOK := Lib.hid hok
          clear hok
          go_wp2_with fail
          go_meet
          exact ⟨R.2, A4, c4, R.1, rfl, rfl, HOK.out, hs4, hs3.gr0 hg4, hd3.gr0 hg4, hgr3.trans hg4⟩
        · have hs3 := hs2
          have hd3 := hd2
          have hgr3 := hgr2
          clear hs2 hd2 hgr2
          go_wp2_with fail
          have hok : (wmade [0, 1, 2] 3 L i).1 = 0 → AOk (k + 1) (wmade [0, 1, 2] 3 L i).2 := fun h0 => (hL.made [0, 1, 2] 3 i (.inr (.inl rfl)) h0).mono (by omega)
          (with_reducible refine (lose_any A _ c L i _ hs3 (by omega) (by omega) (by omega)).mono ?_)
          rintro e w4 ⟨A4, c4, rfl, hs4, hg4⟩
          generalize (if wis L i [0, 1, 2] = 0 then (L.getD i.toNat default).r else 0) = Q at *
          generalize wmade [0, 1, 2] 3 L i = R at *
          have HOK := Lib.hid hok
          clear hok
          go_wp2_with fail
          go_meet
          exact ⟨R.2, A4, c4, R.1, rfl, rfl, HOK.out, hs4, hs3.gr0 hg4, hd3.gr0 hg4, hgr3.trans hg4⟩
        · have hs3 := hs2
          have hd3 := hd2
          have hgr3 := hgr2
          clear hs2 hd2 hgr2
          go_wp2_with fail
          have hok : (wrestart L i).1 = 0 → AOk (k + 1) (wrestart L i).2 := fun h0 => hL.restart (by omega) (by omega) i h0
          (with_reducible refine (restart_any A _ c L i _ hs3 (by omega) (by omega) (by omega)).mono ?_)
          rintro e w4 ⟨A4, c4, rfl, hs4, hg4⟩
          generalize wrestart L i = R at *
          have HOK := Lib.hid hok
          clear hok
          go_wp2_with fail
          go_meet
          exact ⟨R.2, A4, c4, R.1, rfl, rfl, HOK.out, hs4, hs3.gr0 hg4, hd3.gr0 hg4, hgr3.trans hg4⟩
        · go_wp2_with fail
          (with_reducible refine (pick_any g 5 _ hd2 (by omega) (by omega)).mono ?_)
          rintro e w3 ⟨q, rfl, hq1, hq2, hd3, hg3⟩
          have hs3 := hs2.dice hd2 hg3
          have hgr3 := hgr2.trans_new hg3 HM.out
          clear hs2 hd2 hg3 hgr2
          go_wp2_with fail
          (with_reducible refine (drop_any A _ c L q _ hs3 (by omega)).mono ?_)
          rintro e w4 ⟨A4, c4, rfl, hs4, hg4⟩
          have hok := hL.drop q
          generalize wdrop L q = R at *
          go_wp2_with fail
          go_meet
          exact ⟨R, A4, c4, 0, rfl, rfl, fun _ => hok.mono (by omega), hs4, hs3.gr0 hg4, hd3.gr0 hg4, hgr3.trans hg4⟩
      case rest =>
        clear hs2 hd2 hgr2
        obtain ⟨L', A', c', code, rfl, rfl, hok, hs5, hs4, hd4, hgr4⟩ := hcut
        rcases Decidable.em (code = 0) with h0 | h0
        · have h0' : (code == 0) = true := by simp [h0]
          have HLo := Lib.hid (hok h0)
          clear hok h0 hL hL1 hL2
          have hLl := HLo.out.low
          have hLh := HLo.out.high
          go_wp2_with fail
          go_loopw [89] (fun v w' => ∃ j : Nat, j ≤ L'.length ∧ v = .int .i64 j ∧ Sl w' 30 3 A' L'.length (wcells L') ∧ Dice w' g ∧ Gr [] w w') (fun v _ => L'.length - (intOf v).toNat)
          case atStart => exact ⟨0, Nat.zero_le _, rfl, hs5, hd4, hgr4⟩
          case round =>
            clear hs4 hs5 hd4 hgr4
            obtain ⟨j, hj, rfl, hso, hdo, hgro⟩ := hrel
            by_cases hlt : j < L'.length
            · have hjl : (j : Int) < (L'.length : Int) := by omega
              have hj0 : (0 : Int) ≤ (j : Int) := by omega
              obtain ⟨b, off, hA, hc0, hc1, hc2⟩ := wk_at hso (k := j) hlt
              subst hA
              have hw := HLo.out.each j hlt
              have hb := hw.2
              rcases hw.1 with ⟨hs03, hrm⟩ | ⟨hs12, hrp⟩
              · rw [hrm] at hc1
                rcases hs03 with hsv | hsv
                · rw [hsv] at hc0
                  have hc0' := cell_alloc hc0 (.cells #[.int .i64 0, .int .i64 (-1), .int .i64 L'[j].b] 30)
                  clear hsv hrm hw
                  go_wp2_with fail
                  go_roundw
                  case rel => exact ⟨j + 1, by omega, by go_num, hso.alloc _, hdo.gr0 ((Gr.refl _ _).alloc _), hgro.alloc _⟩
                  case measure => simp [intOf]; omega
                · rw [hsv] at hc0
                  have HR := Lib.hid (way_restart L' j hlt hsv)
                  clear hsv hrm hw
                  go_wp2_with (go_at_call 11; (with_reducible refine (outw_of (restart_any _ _ _ L' j _ (hso.alloc _) (by omega) (by omega) (by omega)) HR.out).mono ?_); rintro e w6 ⟨A6, c6, rfl, hs6, hg6⟩; simp only [List.length_set] at hs6 ⊢; obtain ⟨b6, off6, hA6, hx0, hx1, hx2⟩ := wk_at hs6 (k := j) (by simpa using hlt); subst hA6; simp only [List.getElem_set_self] at hx0 hx1 hx2)
                  go_roundw
                  case rel => exact ⟨j + 1, by omega, by go_num, (hso.alloc _).gr0 hg6, (hdo.gr0 ((Gr.refl _ _).alloc _)).gr0 hg6, (hgro.alloc _).trans hg6⟩
                  case measure => simp [intOf]; omega
              · have HF := Lib.hid (HLo.out.find j hlt hrp.1)
                have HR := Lib.hid (way_release HLo.out j hlt hs12)
                rcases hs12 with hsv | hsv
                all_goals
                  rw [hsv] at hc0
                  have hr0 := hrp.1
                  clear hsv hw hrp
                  go_wp2_with (first | (go_at_call 15; (with_reducible refine (find_any _ _ _ L' _ _ (hso.alloc _) (by omega)).mono ?_); rintro e w5 ⟨rfl, hg5⟩; rw [HF.out]; have hb5 := (Bk.new _ _ _).gr hg5 (by simp); obtain ⟨hy0, hy1, hy2⟩ := hb5.cells3) | (go_at_call 21; (with_reducible refine (outw_of (release_any _ _ _ L' j _ ((hso.alloc _).gr0 hg5) (by omega) (by omega) (by omega)) HR.out).mono ?_); rintro e w6 ⟨A6, c6, rfl, hs6, hg6⟩; simp only [List.length_set] at hs6 ⊢; obtain ⟨b6, off6, hA6, hx0, hx1, hx2⟩ := wk_at hs6 (k := j) (by simpa using hlt); subst hA6; simp only [List.getElem_set_self] at hx0 hx1 hx2))
                  go_roundw
                  case rel => exact ⟨j + 1, by omega, by go_num, ((hso.alloc _).gr0 hg5).gr0 hg6, ((hdo.gr0 ((Gr.refl _ _).alloc _)).gr0 hg5).gr0 hg6, ((hgro.alloc _).trans hg5).trans hg6⟩
                  case measure => simp [intOf]; omega
            · go_wp2
              go_roundw
              case rel => exact ⟨L', A', c', k + 1, by go_num, by omega, rfl, HLo.out, hso, hdo, hgro⟩
              case measure => simp [intOf]; omega
        · have h0' : (code == 0) = false := by simp [h0]
          have HLo := Lib.hid (show AOk (k + 1) L from hL.mono (by omega))
          clear hok h0 hL hL1 hL2
          have hLl := HLo.out.low
          have hLh := HLo.out.high
          go_wp2_with fail
          go_loopw [89] (fun v w' => ∃ j : Nat, j ≤ L.length ∧ v = .int .i64 j ∧ Sl w' 30 3 A L.length (wcells L) ∧ Dice w' g ∧ Gr [] w w') (fun v _ => L.length - (intOf v).toNat)
          case atStart => exact ⟨0, Nat.zero_le _, rfl, hs4, hd4, hgr4⟩
          case round =>
            clear hs4 hs5 hd4 hgr4
            obtain ⟨j, hj, rfl, hso, hdo, hgro⟩ := hrel
            by_cases hlt : j < L.length
            · have hjl : (j : Int) < (L.length : Int) := by omega
              have hj0 : (0 : Int) ≤ (j : Int) := by omega
              obtain ⟨b, off, hA, hc0, hc1, hc2⟩ := wk_at hso (k := j) hlt
              subst hA
              have hw := HLo.out.each j hlt
              have hb := hw.2
              rcases hw.1 with ⟨hs03, hrm⟩ | ⟨hs12, hrp⟩
              · rw [hrm] at hc1
                rcases hs03 with hsv | hsv
                · rw [hsv] at hc0
                  have hc0' := cell_alloc hc0 (.cells #[.int .i64 0, .int .i64 (-1), .int .i64 L[j].b] 30)
                  clear hsv hrm hw
                  go_wp2_with fail
                  go_roundw
                  case rel => exact ⟨j + 1, by omega, by go_num, hso.alloc _, hdo.gr0 ((Gr.refl _ _).alloc _), hgro.alloc _⟩
                  case measure => simp [intOf]; omega
                · rw [hsv] at hc0
                  have HR := Lib.hid (way_restart L j hlt hsv)
                  clear hsv hrm hw
                  go_wp2_with (go_at_call 11; (with_reducible refine (outw_of (restart_any _ _ _ L j _ (hso.alloc _) (by omega) (by omega) (by omega)) HR.out).mono ?_); rintro e w6 ⟨A6, c6, rfl, hs6, hg6⟩; simp only [List.length_set] at hs6 ⊢; obtain ⟨b6, off6, hA6, hx0, hx1, hx2⟩ := wk_at hs6 (k := j) (by simpa using hlt); subst hA6; simp only [List.getElem_set_self] at hx0 hx1 hx2)
                  go_roundw
                  case rel => exact ⟨j + 1, by omega, by go_num, (hso.alloc _).gr0 hg6, (hdo.gr0 ((Gr.refl _ _).alloc _)).gr0 hg6, (hgro.alloc _).trans hg6⟩
                  case measure => simp [intOf]; omega
              · have HF := Lib.hid (HLo.out.find j hlt hrp.1)
                have HR := Lib.hid (way_release HLo.out j hlt hs12)
                rcases hs12 with hsv | hsv
                all_goals
                  rw [hsv] at hc0
                  have hr0 := hrp.1
                  clear hsv hw hrp
                  go_wp2_with (first | (go_at_call 15; (with_reducible refine (find_any _ _ _ L _ _ (hso.alloc _) (by omega)).mono ?_); rintro e w5 ⟨rfl, hg5⟩; rw [HF.out]; have hb5 := (Bk.new _ _ _).gr hg5 (by simp); obtain ⟨hy0, hy1, hy2⟩ := hb5.cells3) | (go_at_call 21; (with_reducible refine (outw_of (release_any _ _ _ L j _ ((hso.alloc _).gr0 hg5) (by omega) (by omega) (by omega)) HR.out).mono ?_); rintro e w6 ⟨A6, c6, rfl, hs6, hg6⟩; simp only [List.length_set] at hs6 ⊢; obtain ⟨b6, off6, hA6, hx0, hx1, hx2⟩ := wk_at hs6 (k := j) (by simpa using hlt); subst hA6; simp only [List.getElem_set_self] at hx0 hx1 hx2))
                  go_roundw
                  case rel => exact ⟨j + 1, by omega, by go_num, ((hso.alloc _).gr0 hg5).gr0 hg6, ((hdo.gr0 ((Gr.refl _ _).alloc _)).gr0 hg5).gr0 hg6, ((hgro.alloc _).trans hg5).trans hg6⟩
                  case measure => simp [intOf]; omega
            · go_wp2
              go_roundw
              case rel => exact ⟨L, A, c, k + 1, by go_num, by omega, rfl, HLo.out, hso, hdo, hgro⟩
              case measure => simp [intOf]; omega
    · go_wp2
      go_ret
      exact ⟨rfl, hgr⟩
end Go.Proofs.Ytllhlmlghkiojaa
