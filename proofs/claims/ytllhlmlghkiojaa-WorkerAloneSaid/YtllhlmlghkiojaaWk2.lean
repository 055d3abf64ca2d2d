/- The sanity check; the workers that are made for the statements. -/
import Derived.Test.YtllhlmlghkiojaaWj
import Derived.Test.YtllhlmlghkiojaaDice
namespace Go.Proofs.Ytllhlmlghkiojaa
open Go.RowKit

theorem outw_of {P : Program} {f : FuncId} {args : Array Value} {w : World} {r r' : Int × List Wk} (hc : Calls P f args w (OutW w r)) (h : r = r') : Calls P f args w (OutW w r') := h ▸ hc
theorem outwr_of {P : Program} {f : FuncId} {args : Array Value} {w : World} {r r' : Int × List Wk} {q q' : Int} (hc : Calls P f args w (OutWr w r q)) (h : r = r') (hq : q = q') : Calls P f args w (OutWr w r' q') := h ▸ hq ▸ hc
theorem outl_of {P : Program} {f : FuncId} {args : Array Value} {w : World} {r r' : List Wk} (hc : Calls P f args w (OutL w r)) (h : r = r') : Calls P f args w (OutL w r') := h ▸ hc

set_option maxHeartbeats 1000000 in
theorem sane_any (w : World) : Calls Try.prog 6 #[] w fun e w' => e = .returned (.bool true) ∧ Gr [] w w' := by
  go_enter Try.func6, Try.ntmps6
  go_wp2_with (first
    | (go_at_call 27; refine (outw_of (new_workers 2 _) (r' := (0, [⟨0, -1, 1⟩, ⟨0, -1, 1⟩])) (by decide)).mono ?_; rintro e w1 ⟨A1, c1, rfl, hs1, hg1⟩; simp only [List.length_cons, List.length_nil, Nat.reduceAdd] at hs1 ⊢)
    | (go_at_call 12; refine (outw_of (assign_any A1 2 c1 _ 1 3 _ hs1 (by omega) (by omega) (by omega)) (r' := (0, [⟨0, -1, 1⟩, ⟨1, 3, 1⟩])) (by decide)).mono ?_; rintro e w2 ⟨A2, c2, rfl, hs2, hg2⟩; simp only [List.length_cons, List.length_nil, Nat.reduceAdd] at hs2 ⊢)
    | (go_at_call 10; refine (outwr_of (lose_any A2 2 c2 _ 1 _ hs2 (by omega) (by omega) (by omega)) (r' := (0, [⟨0, -1, 1⟩, ⟨3, -1, 1⟩])) (q' := 3) (by decide) (by decide)).mono ?_; rintro e w3 ⟨A3, c3, rfl, hs3, hg3⟩; simp only [List.length_cons, List.length_nil, Nat.reduceAdd] at hs3 ⊢; obtain ⟨b, off, rfl, hq0, hq1, hq2⟩ := wk_at hs3 (k := 1) (by decide); simp only [List.getElem_cons_succ, List.getElem_cons_zero] at hq0 hq1)
    | (go_at_call 15; refine (find_any A2 2 c2 _ 3 _ (hs2.gr0 hg3) (by omega)).mono ?_; rintro e w4 ⟨rfl, hg4⟩; rw [show wfind [⟨0, -1, 1⟩, ⟨1, 3, 1⟩] 3 = 1 from by decide]))
  go_ret
  exact ⟨rfl, ((hg1.trans hg2).trans hg3).trans hg4⟩

/-- What the workers that are made look like. -/
def WOk (x : Wk) : Prop := (x.s = 0 ∨ x.s = 1 ∨ x.s = 2 ∨ x.s = 3) ∧ -1 ≤ x.r ∧ x.r ≤ 5
def LOk (l : List Wk) : Prop := 1 ≤ l.length ∧ l.length ≤ 5 ∧ ∀ x ∈ l, WOk x
theorem LOk.set {l : List Wk} (h : LOk l) (k : Nat) {x : Wk} (hx : WOk x) : LOk (l.set k x) := by
  refine ⟨by simpa using h.1, by simpa using h.2.1, fun y hy => ?_⟩
  rcases List.mem_or_eq_of_mem_set hy with h1 | h1
  · exact h.2.2 y h1
  · exact h1 ▸ hx
theorem LOk.get {l : List Wk} (h : LOk l) (k : Nat) (hk : k < l.length) : WOk l[k] := h.2.2 _ (List.getElem_mem hk)
theorem LOk.made {l : List Wk} (h : LOk l) (st : List Int) (to' i : Int) (ht : to' = 0 ∨ to' = 1 ∨ to' = 2 ∨ to' = 3) (h0 : (wmade st to' l i).1 = 0) : LOk (wmade st to' l i).2 := by
  rw [wmade_fst] at h0
  have hr := wis_range h0
  obtain ⟨k, rfl⟩ : ∃ k : Nat, i = k := ⟨i.toNat, by omega⟩
  have hk : k < l.length := by omega
  rw [wmade_ok _ _ _ _ h0, wset_at l k _ hk]
  obtain ⟨_, h2, h3⟩ := h.get k hk
  refine h.set k ⟨by simp only; omega, ?_, ?_⟩ <;> (simp only; split <;> omega)
theorem LOk.assign {l : List Wk} (h : LOk l) (i run : Int) (hr : run ≤ 5) (h0 : (wassign l i run).1 = 0) : LOk (wassign l i run).2 := by
  unfold wassign at h0 ⊢
  by_cases h1 : run < 0
  · rw [if_pos h1] at h0; simp at h0
  rw [if_neg h1] at h0 ⊢
  by_cases h2 : wis l i [0] = 0
  · rw [if_pos h2] at h0 ⊢
    by_cases h3 : 0 ≤ wfind l run
    · rw [if_pos h3] at h0; simp at h0
    · rw [if_neg h3]
      have hr := wis_range h2
      obtain ⟨k, rfl⟩ : ∃ k : Nat, i = k := ⟨i.toNat, by omega⟩
      have hk : k < l.length := by omega
      rw [wset_at l k _ hk]
      exact h.set k ⟨by simp, by simp only; omega, by simp only; omega⟩
  · rw [if_neg h2] at h0; exact absurd h0 h2
theorem LOk.restart {l : List Wk} (h : LOk l) (i : Int) (h0 : (wrestart l i).1 = 0) : LOk (wrestart l i).2 := by
  unfold wrestart at h0 ⊢
  by_cases h2 : wis l i [3] = 0
  · rw [if_pos h2]
    have hr := wis_range h2
    obtain ⟨k, rfl⟩ : ∃ k : Nat, i = k := ⟨i.toNat, by omega⟩
    have hk : k < l.length := by omega
    rw [wset_at l k _ hk]
    exact h.set k ⟨by simp, by simp, by simp⟩
  · rw [if_neg h2] at h0; exact absurd h0 h2
theorem LOk.new (N : Int) (h1 : 1 ≤ N) (h5 : N ≤ 5) : LOk (wnew N).2 ∧ (wnew N).1 = 0 := by
  unfold wnew
  rw [if_neg (by omega)]
  refine ⟨⟨by simp; omega, by simp; omega, fun x hx => ?_⟩, rfl⟩
  rw [List.eq_of_mem_replicate hx]
  exact ⟨by simp, by simp, by simp⟩
theorem Sl.dice {w w' : World} {A : Option Addr} {n g : Nat} {xs : List Value} (h : Sl w 30 3 A n xs) (hd : Dice w g) (hg : Gr [g] w w') : Sl w' 30 3 A n xs := by
  obtain ⟨cs, hb⟩ := hd.bk
  exact h.gr1 hb (by decide) hg

set_option maxHeartbeats 4000000 in
theorem lmade_any (g : Nat) (w : World) (hd : Dice w g) :
    Calls Try.prog 7 #[.pointer (some ⟨g, 0, none⟩)] w fun e w' => ∃ (L : List Wk) (A : Option Addr) (c : Nat), e = .returned (.slice A L.length c) ∧ LOk L ∧ Sl w' 30 3 A L.length (wcells L) ∧ Dice w' g ∧ Gr [g] w w' := by
  go_enter Try.func7, Try.ntmps7
  go_wp2_with (first
    | (go_at_call 29; refine (range_any g 1 5 _ hd (by omega) (by omega) (by omega)).mono ?_; rintro e w1 ⟨N, rfl, hN1, hN2, hd1, hg1⟩)
    | (go_at_call 28; refine (rnew_any N _).mono ?_; rintro e w2 ⟨A, c, rfl, hs2, hg2⟩; have hL := (LOk.new N hN1 hN2).1; have hd2 := hd1.gr0 hg2)
    | (go_at_call 30; refine (pick_any g 24 _ hd2 (by omega) (by omega)).mono ?_; rintro e w3 ⟨K, rfl, hK1, hK2, hd3, hg3⟩; have hs3 := hs2.dice hd2 hg3; have hgr := (hg1.trans (hg2.of_nil _)).trans hg3; clear hs2 hd2 hg1 hg2 hg3 hd1 hd))
  generalize (wnew N).2 = L0 at *
  obtain ⟨k0, rfl⟩ : ∃ k : Nat, K = k := ⟨K.toNat, by omega⟩
  go_loopw [3, 5] (fun v kk w' => ∃ (L : List Wk) (A : Option Addr) (c k : Nat), kk = .int .i64 k ∧ k ≤ 24 ∧ v = .slice A L.length c ∧ LOk L ∧ Sl w' 30 3 A L.length (wcells L) ∧ Dice w' g ∧ Gr [g] w w') (fun _ kk _ => (intOf kk).toNat)
  case atStart => exact ⟨L0, A, c, k0, rfl, by omega, rfl, hL, hs3, hd3, hgr⟩
  case round =>
    clear hL hs3 hd3 hgr
    obtain ⟨L, A, c, k, rfl, hk, rfl, hL, hs, hd, hgr⟩ := hrel
    by_cases hk0 : 0 < k
    · have hL1 := hL.1
      have hL2 := hL.2.1
      go_wp2_with fail
      refine (pick_any g L.length _ hd (by omega) (by omega)).mono ?_
      rintro e w1 ⟨i, rfl, hi1, hi2, hd1, hg1⟩
      have hs1 := hs.dice hd hg1
      have hgr1 := hgr.trans hg1
      clear hs hd hg1 hgr
      go_wp2_with fail
      refine (pick_any g 8 _ hd1 (by omega) (by omega)).mono ?_
      rintro e w2 ⟨r, rfl, hr1, hr2, hd2, hg2⟩
      have hs2 := hs1.dice hd1 hg2
      have hgr2 := hgr1.trans hg2
      clear hs1 hd1 hg2 hgr1
      have hr : r = 0 ∨ r = 1 ∨ r = 2 ∨ r = 3 ∨ r = 4 ∨ r = 5 ∨ r = 6 ∨ r = 7 := by omega
      rcases hr with rfl | rfl | rfl | rfl | rfl | rfl | rfl | rfl
      · go_wp2_with fail
        refine (pick_any g 6 _ hd2 (by omega) (by omega)).mono ?_
        rintro e w3 ⟨q, rfl, hq1, hq2, hd3, hg3⟩
        have hs3 := hs2.dice hd2 hg3
        have hgr3 := hgr2.trans hg3
        clear hs2 hd2 hg3 hgr2
        go_wp2_with fail
        have hok := hL.assign i q (by omega)
        refine (rassign_any A _ c L i q _ hs3 (by omega) (by omega) (by omega)).mono ?_
        rintro e w4 ⟨A4, c4, rfl, hs4, hg4⟩
        generalize wassign L i q = R at *
        obtain ⟨code, out⟩ := R
        have hd4 := hd3.gr0 hg4
        have hgr4 := hgr3.trans (hg4.of_nil _)
        have hs5 := hs3.gr0 hg4
        clear hs3 hd3 hgr3 hg4
        simp only at hs4 hok
        have HOK := Lib.hid hok
        clear hok
        rcases Decidable.em (code = 0) with h0 | h0
        · have h0' : (code == 0) = true := by simp [h0]
          have HL := Lib.hid (HOK.out h0)
          clear h0 HOK
          go_wp2
          go_roundw
          case rel => exact ⟨out, A4, c4, k - 1, go_eq (by omega), by omega, rfl, HL.out, hs4, hd4, hgr4⟩
          case measure => simp [intOf]; omega
        · have h0' : (code == 0) = false := by simp [h0]
          clear h0 HOK
          go_wp2
          go_roundw
          case rel => exact ⟨L, A, c, k - 1, go_eq (by omega), by omega, rfl, hL, hs5, hd4, hgr4⟩
          case measure => simp [intOf]; omega
      · go_wp2_with fail
        refine (pick_any g 6 _ hd2 (by omega) (by omega)).mono ?_
        rintro e w3 ⟨q, rfl, hq1, hq2, hd3, hg3⟩
        have hs3 := hs2.dice hd2 hg3
        have hgr3 := hgr2.trans hg3
        clear hs2 hd2 hg3 hgr2
        go_wp2_with fail
        have hok := hL.assign i q (by omega)
        refine (rassign_any A _ c L i q _ hs3 (by omega) (by omega) (by omega)).mono ?_
        rintro e w4 ⟨A4, c4, rfl, hs4, hg4⟩
        generalize wassign L i q = R at *
        obtain ⟨code, out⟩ := R
        have hd4 := hd3.gr0 hg4
        have hgr4 := hgr3.trans (hg4.of_nil _)
        have hs5 := hs3.gr0 hg4
        clear hs3 hd3 hgr3 hg4
        simp only at hs4 hok
        have HOK := Lib.hid hok
        clear hok
        rcases Decidable.em (code = 0) with h0 | h0
        · have h0' : (code == 0) = true := by simp [h0]
          have HL := Lib.hid (HOK.out h0)
          clear h0 HOK
          go_wp2
          go_roundw
          case rel => exact ⟨out, A4, c4, k - 1, go_eq (by omega), by omega, rfl, HL.out, hs4, hd4, hgr4⟩
          case measure => simp [intOf]; omega
        · have h0' : (code == 0) = false := by simp [h0]
          clear h0 HOK
          go_wp2
          go_roundw
          case rel => exact ⟨L, A, c, k - 1, go_eq (by omega), by omega, rfl, hL, hs5, hd4, hgr4⟩
          case measure => simp [intOf]; omega
      · go_wp2_with fail
        refine (pick_any g 6 _ hd2 (by omega) (by omega)).mono ?_
        rintro e w3 ⟨q, rfl, hq1, hq2, hd3, hg3⟩
        have hs3 := hs2.dice hd2 hg3
        have hgr3 := hgr2.trans hg3
        clear hs2 hd2 hg3 hgr2
        go_wp2_with fail
        have hok := hL.assign i q (by omega)
        refine (rassign_any A _ c L i q _ hs3 (by omega) (by omega) (by omega)).mono ?_
        rintro e w4 ⟨A4, c4, rfl, hs4, hg4⟩
        generalize wassign L i q = R at *
        obtain ⟨code, out⟩ := R
        have hd4 := hd3.gr0 hg4
        have hgr4 := hgr3.trans (hg4.of_nil _)
        have hs5 := hs3.gr0 hg4
        clear hs3 hd3 hgr3 hg4
        simp only at hs4 hok
        have HOK := Lib.hid hok
        clear hok
        rcases Decidable.em (code = 0) with h0 | h0
        · have h0' : (code == 0) = true := by simp [h0]
          have HL := Lib.hid (HOK.out h0)
          clear h0 HOK
          go_wp2
          go_roundw
          case rel => exact ⟨out, A4, c4, k - 1, go_eq (by omega), by omega, rfl, HL.out, hs4, hd4, hgr4⟩
          case measure => simp [intOf]; omega
        · have h0' : (code == 0) = false := by simp [h0]
          clear h0 HOK
          go_wp2
          go_roundw
          case rel => exact ⟨L, A, c, k - 1, go_eq (by omega), by omega, rfl, hL, hs5, hd4, hgr4⟩
          case measure => simp [intOf]; omega
      · go_wp2_with fail
        have hd3 := hd2
        have hs3 := hs2
        have hgr3 := hgr2
        clear hd2 hs2 hgr2
        have hok := hL.made [1, 2] 0 i (by simp)
        refine (rrelease_any A _ c L i _ hs3 (by omega) (by omega) (by omega)).mono ?_
        rintro e w4 ⟨A4, c4, rfl, hs4, hg4⟩
        generalize wmade [1, 2] 0 L i = R at *
        obtain ⟨code, out⟩ := R
        have hd4 := hd3.gr0 hg4
        have hgr4 := hgr3.trans (hg4.of_nil _)
        have hs5 := hs3.gr0 hg4
        clear hs3 hd3 hgr3 hg4
        simp only at hs4 hok
        have HOK := Lib.hid hok
        clear hok
        rcases Decidable.em (code = 0) with h0 | h0
        · have h0' : (code == 0) = true := by simp [h0]
          have HL := Lib.hid (HOK.out h0)
          clear h0 HOK
          go_wp2
          go_roundw
          case rel => exact ⟨out, A4, c4, k - 1, go_eq (by omega), by omega, rfl, HL.out, hs4, hd4, hgr4⟩
          case measure => simp [intOf]; omega
        · have h0' : (code == 0) = false := by simp [h0]
          clear h0 HOK
          go_wp2
          go_roundw
          case rel => exact ⟨L, A, c, k - 1, go_eq (by omega), by omega, rfl, hL, hs5, hd4, hgr4⟩
          case measure => simp [intOf]; omega
      · go_wp2_with fail
        have hd3 := hd2
        have hs3 := hs2
        have hgr3 := hgr2
        clear hd2 hs2 hgr2
        have hok := hL.made [1] 2 i (by simp)
        refine (rstop_any A _ c L i _ hs3 (by omega) (by omega) (by omega)).mono ?_
        rintro e w4 ⟨A4, c4, rfl, hs4, hg4⟩
        generalize wmade [1] 2 L i = R at *
        obtain ⟨code, out⟩ := R
        have hd4 := hd3.gr0 hg4
        have hgr4 := hgr3.trans (hg4.of_nil _)
        have hs5 := hs3.gr0 hg4
        clear hs3 hd3 hgr3 hg4
        simp only at hs4 hok
        have HOK := Lib.hid hok
        clear hok
        rcases Decidable.em (code = 0) with h0 | h0
        · have h0' : (code == 0) = true := by simp [h0]
          have HL := Lib.hid (HOK.out h0)
          clear h0 HOK
          go_wp2
          go_roundw
          case rel => exact ⟨out, A4, c4, k - 1, go_eq (by omega), by omega, rfl, HL.out, hs4, hd4, hgr4⟩
          case measure => simp [intOf]; omega
        · have h0' : (code == 0) = false := by simp [h0]
          clear h0 HOK
          go_wp2
          go_roundw
          case rel => exact ⟨L, A, c, k - 1, go_eq (by omega), by omega, rfl, hL, hs5, hd4, hgr4⟩
          case measure => simp [intOf]; omega
      · go_wp2_with fail
        have hd3 := hd2
        have hs3 := hs2
        have hgr3 := hgr2
        clear hd2 hs2 hgr2
        have hok := hL.made [2] 1 i (by simp)
        refine (rgo_any A _ c L i _ hs3 (by omega) (by omega) (by omega)).mono ?_
        rintro e w4 ⟨A4, c4, rfl, hs4, hg4⟩
        generalize wmade [2] 1 L i = R at *
        obtain ⟨code, out⟩ := R
        have hd4 := hd3.gr0 hg4
        have hgr4 := hgr3.trans (hg4.of_nil _)
        have hs5 := hs3.gr0 hg4
        clear hs3 hd3 hgr3 hg4
        simp only at hs4 hok
        have HOK := Lib.hid hok
        clear hok
        rcases Decidable.em (code = 0) with h0 | h0
        · have h0' : (code == 0) = true := by simp [h0]
          have HL := Lib.hid (HOK.out h0)
          clear h0 HOK
          go_wp2
          go_roundw
          case rel => exact ⟨out, A4, c4, k - 1, go_eq (by omega), by omega, rfl, HL.out, hs4, hd4, hgr4⟩
          case measure => simp [intOf]; omega
        · have h0' : (code == 0) = false := by simp [h0]
          clear h0 HOK
          go_wp2
          go_roundw
          case rel => exact ⟨L, A, c, k - 1, go_eq (by omega), by omega, rfl, hL, hs5, hd4, hgr4⟩
          case measure => simp [intOf]; omega
      · go_wp2_with fail
        have hd3 := hd2
        have hs3 := hs2
        have hgr3 := hgr2
        clear hd2 hs2 hgr2
        have hok := hL.made [0, 1, 2] 3 i (by simp)
        refine (rlose_any A _ c L i _ hs3 (by omega) (by omega) (by omega)).mono ?_
        rintro e w4 ⟨A4, c4, rfl, hs4, hg4⟩
        generalize wmade [0, 1, 2] 3 L i = R at *
        obtain ⟨code, out⟩ := R
        have hd4 := hd3.gr0 hg4
        have hgr4 := hgr3.trans (hg4.of_nil _)
        have hs5 := hs3.gr0 hg4
        clear hs3 hd3 hgr3 hg4
        simp only at hs4 hok
        have HOK := Lib.hid hok
        clear hok
        rcases Decidable.em (code = 0) with h0 | h0
        · have h0' : (code == 0) = true := by simp [h0]
          have HL := Lib.hid (HOK.out h0)
          clear h0 HOK
          go_wp2
          go_roundw
          case rel => exact ⟨out, A4, c4, k - 1, go_eq (by omega), by omega, rfl, HL.out, hs4, hd4, hgr4⟩
          case measure => simp [intOf]; omega
        · have h0' : (code == 0) = false := by simp [h0]
          clear h0 HOK
          go_wp2
          go_roundw
          case rel => exact ⟨L, A, c, k - 1, go_eq (by omega), by omega, rfl, hL, hs5, hd4, hgr4⟩
          case measure => simp [intOf]; omega
      · go_wp2_with fail
        have hd3 := hd2
        have hs3 := hs2
        have hgr3 := hgr2
        clear hd2 hs2 hgr2
        have hok := hL.restart i
        refine (rrestart_any A _ c L i _ hs3 (by omega) (by omega) (by omega)).mono ?_
        rintro e w4 ⟨A4, c4, rfl, hs4, hg4⟩
        generalize wrestart L i = R at *
        obtain ⟨code, out⟩ := R
        have hd4 := hd3.gr0 hg4
        have hgr4 := hgr3.trans (hg4.of_nil _)
        have hs5 := hs3.gr0 hg4
        clear hs3 hd3 hgr3 hg4
        simp only at hs4 hok
        have HOK := Lib.hid hok
        clear hok
        rcases Decidable.em (code = 0) with h0 | h0
        · have h0' : (code == 0) = true := by simp [h0]
          have HL := Lib.hid (HOK.out h0)
          clear h0 HOK
          go_wp2
          go_roundw
          case rel => exact ⟨out, A4, c4, k - 1, go_eq (by omega), by omega, rfl, HL.out, hs4, hd4, hgr4⟩
          case measure => simp [intOf]; omega
        · have h0' : (code == 0) = false := by simp [h0]
          clear h0 HOK
          go_wp2
          go_roundw
          case rel => exact ⟨L, A, c, k - 1, go_eq (by omega), by omega, rfl, hL, hs5, hd4, hgr4⟩
          case measure => simp [intOf]; omega
    · go_wp2
      go_ret
      exact ⟨L, A, c, rfl, hL, hs, hd, hgr⟩
end Go.Proofs.Ytllhlmlghkiojaa
