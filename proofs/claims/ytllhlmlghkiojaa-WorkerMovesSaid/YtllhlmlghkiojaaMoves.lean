/- The law on the workers' changes, walked. -/
import Derived.Test.YtllhlmlghkiojaaWk2
namespace Go.Proofs.Ytllhlmlghkiojaa
open Go.RowKit

theorem same_self_any (A B : Option Addr) (n c d : Nat) (l : List Wk) (w : World) (hA : Sl w 30 3 A n (wcells l)) (hB : Sl w 30 3 B n (wcells l)) (hn : n ≤ 1000000) :
    Calls Try.prog 16 #[.slice A n c, .slice B n d] w fun e w' => e = .returned (.bool true) ∧ Gr [] w w' :=
  (same_any A B n n c d l l w hA hB hn hn).mono fun e w' ⟨he, hg⟩ => ⟨by rw [he]; simp, hg⟩
def wrun (l : List Wk) (i : Int) : Int := if wis l i [0, 1, 2] = 0 then (l.getD i.toNat default).r else 0
theorem lose2_any (A : Option Addr) (n c : Nat) (l : List Wk) (i : Int) (w : World) (h : Sl w 30 3 A n (wcells l)) (hn : n ≤ 1000000) (hi1 : -9223372036854775808 ≤ i) (hi2 : i ≤ 9223372036854775807) :
    Calls Try.prog 10 #[.slice A n c, .int .i64 i] w (OutWr w (wmade [0, 1, 2] 3 l i) (wrun l i)) := lose_any A n c l i w h hn hi1 hi2
theorem rlose2_any (A : Option Addr) (n c : Nat) (l : List Wk) (i : Int) (w : World) (h : Sl w 30 3 A n (wcells l)) (hn : n ≤ 1000000) (hi1 : -9223372036854775808 ≤ i) (hi2 : i ≤ 9223372036854775807) :
    Calls Try.prog 26 #[.slice A n c, .int .i64 i] w (OutWr w (wmade [0, 1, 2] 3 l i) (wrun l i)) := rlose_any A n c l i w h hn hi1 hi2
theorem wmade_len (st : List Int) (to' : Int) (l : List Wk) (i : Int) : (wmade st to' l i).2.length ≤ l.length := by
  unfold wmade; split <;> simp [wset]
theorem wassign_len (l : List Wk) (i run : Int) : (wassign l i run).2.length ≤ l.length := by
  unfold wassign; split
  · simp
  · split
    · split <;> simp [wset]
    · simp
theorem wrestart_len (l : List Wk) (i : Int) : (wrestart l i).2.length ≤ l.length := by
  unfold wrestart; split <;> simp [wset]
theorem wdrop_len (l : List Wk) (run : Int) : (wdrop l run).length ≤ l.length := by
  unfold wdrop; split <;> simp [wset]
theorem wnew_len (n : Int) : (wnew n).2.length ≤ 8 := by
  unfold wnew; split
  · simp
  · simp; omega

set_option maxRecDepth 100000 in
set_option maxHeartbeats 8000000 in
theorem moves_any (A : Option Addr) (n c : Nat) (zs : List Int) (i run N : Int) (w : World) (e5 : TypeId) (h : Sl w e5 1 A n (zs.map (.int .u8))) (hz : ∀ j, 0 ≤ zs.getD j 0 ∧ zs.getD j 0 < 256) (hnc : n ≤ c) (hn : n ≤ 9223372036854775807)
    (hi1 : -9223372036854775808 ≤ i) (hi2 : i ≤ 9223372036854775807) (hr1 : -9223372036854775808 ≤ run) (hr2 : run ≤ 9223372036854775807) (hN1 : -9223372036854775808 ≤ N) (hN2 : N ≤ 9223372036854775807) :
    Calls Try.prog 4 #[.slice A n c, .int .i64 i, .int .i64 run, .int .i64 N] w fun e w' => e = .returned (.bool true) ∧ Gr [] w w' := by
  have hm7 : 0 ≤ i % 7 ∧ i % 7 < 7 := ⟨Int.emod_nonneg _ (by omega), Int.emod_lt_of_pos _ (by omega)⟩
  have hm11 : 0 ≤ N % 11 ∧ N % 11 < 11 := ⟨Int.emod_nonneg _ (by omega), Int.emod_lt_of_pos _ (by omega)⟩
  have hr7 : -7 < run.tmod 7 ∧ run.tmod 7 < 7 := ⟨by have := Int.lt_tmod_of_pos run (show (0 : Int) < 7 by omega); omega, Int.tmod_lt_of_pos _ (by omega)⟩
  go_enter Try.func4, Try.ntmps4
  go_wp2_with (first
    | (go_at_call 6; refine (sane_any _).mono ?_; rintro e w1 ⟨rfl, hg1⟩)
    | (go_at_call 8; refine (millnew_any A n c zs _ e5 (h.gr0 hg1) hz hnc hn).mono ?_; rintro e w2 ⟨g, rfl, hg, hd2, hg2⟩)
    | (go_at_call 7; refine (lmade_any g _ hd2).mono ?_; rintro e w3 ⟨L, A3, c3, rfl, hL, hsL, hd3, hg3⟩; have hgr := (hg1.trans hg2).trans_new hg3 (by intro x hx; simp at hx; subst hx; exact .inr (Nat.le_trans hg1.size hg)); have hL1 := hL.1; have hL2 := hL.2.1; clear hg1 hg2 hg3 hd2 hd3 h hz hL hg)
    | (go_at_call 9; refine (mod_any i 7 _ (by omega) (by omega) hi1 hi2).mono ?_; rintro e w4 ⟨rfl, rfl⟩))
  have hsO : Sl (w3.alloc (.cells #[.int .i64 i, .int .i64 (i % 7 - 1)] 3)) 3 1 (some ⟨w3.heap.size, 0, none⟩) 2 (([i, i % 7 - 1] : List Int).map (.int .i64)) := Sl.new w3 _ 1 #[.int .i64 i, .int .i64 (i % 7 - 1)] 2 _ rfl rfl
  replace hsL := hsL.alloc (.cells #[.int .i64 i, .int .i64 (i % 7 - 1)] 3)
  replace hgr := hgr.alloc (.cells #[.int .i64 i, .int .i64 (i % 7 - 1)] 3)
  go_loopw [47] (fun v w' => ∃ j : Nat, j ≤ 2 ∧ v = .int .i64 j ∧ Sl w' 30 3 A3 L.length (wcells L) ∧ Sl w' 3 1 (some ⟨w3.heap.size, 0, none⟩) 2 (([i, i % 7 - 1] : List Int).map (.int .i64)) ∧ Gr [] w w') (fun v _ => 2 - (intOf v).toNat)
  case atStart => exact ⟨0, by omega, rfl, hsL, hsO, hgr⟩
  case round =>
    clear hsL hsO hgr
    obtain ⟨j, hj, rfl, hsL, hsO, hgr⟩ := hrel
    by_cases hlt : j < 2
    · obtain ⟨b, off, u, hA, hu, hc⟩ := hsO.at_ hlt
      injection hA with hA
      injection hA with hA hO
      subst hA; subst hO
      obtain ⟨rfl, _⟩ := ints_get _ hu
      rw [Nat.zero_add] at hc
      have hk : ∃ k, k = ([i, i % 7 - 1] : List Int).getD j 0 := ⟨_, rfl⟩
      obtain ⟨k, hk⟩ := hk
      rw [← hk] at hc
      have hkb : -9223372036854775808 ≤ k ∧ k ≤ 9223372036854775807 := by
        have hj' : j = 0 ∨ j = 1 := by omega
        rcases hj' with rfl | rfl <;> simp at hk <;> omega
      have hk1 := hkb.1
      have hk2 := hkb.2
      clear hk hu hkb
      go_wp2_with fail
      have hsI : Sl (wr.alloc (.cells #[.int .i64 run, .int .i64 (run.tmod 7)] 2)) 2 1 (some ⟨wr.heap.size, 0, none⟩) 2 (([run, run.tmod 7] : List Int).map (.int .i64)) := Sl.new wr _ 1 #[.int .i64 run, .int .i64 (run.tmod 7)] 2 _ rfl rfl
      replace hsL := hsL.alloc (.cells #[.int .i64 run, .int .i64 (run.tmod 7)] 2)
      replace hsO := hsO.alloc (.cells #[.int .i64 run, .int .i64 (run.tmod 7)] 2)
      replace hgr := hgr.alloc (.cells #[.int .i64 run, .int .i64 (run.tmod 7)] 2)
      clear hc
      obtain ⟨wo, hwo⟩ : ∃ wo : World, wo = wr := ⟨_, rfl⟩
      rw [← hwo] at hsI hsL hsO hgr ⊢
      clear hwo wr
      go_loopw [56] (fun v w' => ∃ j : Nat, j ≤ 2 ∧ v = .int .i64 j ∧ Sl w' 30 3 A3 L.length (wcells L) ∧ Sl w' 3 1 (some ⟨w3.heap.size, 0, none⟩) 2 (([i, i % 7 - 1] : List Int).map (.int .i64)) ∧ Sl w' 2 1 (some ⟨wo.heap.size, 0, none⟩) 2 (([run, run.tmod 7] : List Int).map (.int .i64)) ∧ Gr [] w w') (fun v _ => 2 - (intOf v).toNat)
      case atStart => exact ⟨0, by omega, rfl, hsL, hsO, hsI, hgr⟩
      case round =>
        clear hsL hsO hsI hgr
        obtain ⟨p, hp, rfl, hsL, hsO, hsI, hgr⟩ := hrel
        by_cases hlt2 : p < 2
        · obtain ⟨b, off, u, hA, hu, hc⟩ := hsI.at_ hlt2
          injection hA with hA
          injection hA with hA hO
          subst hA; subst hO
          obtain ⟨rfl, _⟩ := ints_get _ hu
          rw [Nat.zero_add] at hc
          obtain ⟨r, hr⟩ : ∃ r, r = ([run, run.tmod 7] : List Int).getD p 0 := ⟨_, rfl⟩
          rw [← hr] at hc
          clear hr hu
          go_wp2_with fail
          (with_reducible refine (assign_any _ _ _ L k r _ hsL (by omega) (by omega) (by omega)).mono ?_)
          rintro e w1 ⟨Aa, ca, rfl, hsa, hg⟩
          replace hsL := hsL.gr0 hg
          replace hsO := hsO.gr0 hg
          replace hsI := hsI.gr0 hg
          replace hgr := hgr.trans hg
          clear hg
          clear hc
          go_wp2_with fail
          (with_reducible refine (rassign_any _ _ _ L k r _ hsL (by omega) (by omega) (by omega)).mono ?_)
          rintro e w1 ⟨Ab, cb, rfl, hsb, hg⟩
          replace hsL := hsL.gr0 hg
          replace hsO := hsO.gr0 hg
          replace hsI := hsI.gr0 hg
          replace hsa := hsa.gr0 hg
          replace hgr := hgr.trans hg
          clear hg
          have hle := wassign_len L k r
          generalize wassign L k r = R at *
          have hne : (R.1 != R.1) = false := by simp
          have hnf : (wfind L r != wfind L r) = false := by simp
          go_wp2_with fail
          (with_reducible refine (same_self_any _ _ _ _ _ _ _ hsa hsb (by omega)).mono ?_)
          rintro e w1 ⟨rfl, hg⟩
          replace hsL := hsL.gr0 hg
          replace hsO := hsO.gr0 hg
          replace hsI := hsI.gr0 hg
          replace hsa := hsa.gr0 hg
          replace hsb := hsb.gr0 hg
          replace hgr := hgr.trans hg
          clear hg
          go_wp2_with fail
          (with_reducible refine (find_any _ _ _ L r _ hsL (by omega)).mono ?_)
          rintro e w1 ⟨rfl, hg⟩
          replace hsL := hsL.gr0 hg
          replace hsO := hsO.gr0 hg
          replace hsI := hsI.gr0 hg
          replace hsa := hsa.gr0 hg
          replace hsb := hsb.gr0 hg
          replace hgr := hgr.trans hg
          clear hg
          go_wp2_with fail
          (with_reducible refine (rfind_any _ _ _ L r _ hsL (by omega)).mono ?_)
          rintro e w1 ⟨rfl, hg⟩
          replace hsL := hsL.gr0 hg
          replace hsO := hsO.gr0 hg
          replace hsI := hsI.gr0 hg
          replace hsa := hsa.gr0 hg
          replace hsb := hsb.gr0 hg
          replace hgr := hgr.trans hg
          clear hg
          go_wp2_with fail
          (with_reducible refine (drop_any _ _ _ L r _ hsL (by omega)).mono ?_)
          rintro e w1 ⟨Ax, cx, rfl, hsx, hg⟩
          replace hsL := hsL.gr0 hg
          replace hsO := hsO.gr0 hg
          replace hsI := hsI.gr0 hg
          replace hsa := hsa.gr0 hg
          replace hsb := hsb.gr0 hg
          replace hgr := hgr.trans hg
          clear hg
          go_wp2_with fail
          (with_reducible refine (rdrop_any _ _ _ L r _ hsL (by omega)).mono ?_)
          rintro e w1 ⟨Ay, cy, rfl, hsy, hg⟩
          replace hsL := hsL.gr0 hg
          replace hsO := hsO.gr0 hg
          replace hsI := hsI.gr0 hg
          replace hsa := hsa.gr0 hg
          replace hsb := hsb.gr0 hg
          replace hsx := hsx.gr0 hg
          replace hgr := hgr.trans hg
          clear hg
          have hle2 := wdrop_len L r
          go_wp2_with fail
          (with_reducible refine (same_self_any _ _ _ _ _ _ _ hsx hsy (by omega)).mono ?_)
          rintro e w1 ⟨rfl, hg⟩
          replace hsL := hsL.gr0 hg
          replace hsO := hsO.gr0 hg
          replace hsI := hsI.gr0 hg
          replace hsa := hsa.gr0 hg
          replace hsb := hsb.gr0 hg
          replace hsx := hsx.gr0 hg
          replace hsy := hsy.gr0 hg
          replace hgr := hgr.trans hg
          clear hg
          go_wp2
          go_roundw
          case rel => exact ⟨p + 1, by omega, by go_num, hsL, hsO, hsI, hgr⟩
          case measure => simp [intOf]; omega
        · clear hsI
          go_wp2_with fail
          (with_reducible refine (release_any _ _ _ L k _ hsL (by omega) (by omega) (by omega)).mono ?_)
          rintro e w1 ⟨Aa, ca, rfl, hsa, hg⟩
          replace hsL := hsL.gr0 hg
          replace hsO := hsO.gr0 hg
          replace hgr := hgr.trans hg
          clear hg
          go_wp2_with fail
          (with_reducible refine (rrelease_any _ _ _ L k _ hsL (by omega) (by omega) (by omega)).mono ?_)
          rintro e w1 ⟨Ab, cb, rfl, hsb, hg⟩
          replace hsL := hsL.gr0 hg
          replace hsO := hsO.gr0 hg
          replace hsa := hsa.gr0 hg
          replace hgr := hgr.trans hg
          clear hg
          go_wp2_with fail
          (with_reducible refine (stop_any _ _ _ L k _ hsL (by omega) (by omega) (by omega)).mono ?_)
          rintro e w1 ⟨Ac, cc, rfl, hsc, hg⟩
          replace hsL := hsL.gr0 hg
          replace hsO := hsO.gr0 hg
          replace hsa := hsa.gr0 hg
          replace hsb := hsb.gr0 hg
          replace hgr := hgr.trans hg
          clear hg
          go_wp2_with fail
          (with_reducible refine (rstop_any _ _ _ L k _ hsL (by omega) (by omega) (by omega)).mono ?_)
          rintro e w1 ⟨Ad, cd, rfl, hsd, hg⟩
          replace hsL := hsL.gr0 hg
          replace hsO := hsO.gr0 hg
          replace hsa := hsa.gr0 hg
          replace hsb := hsb.gr0 hg
          replace hsc := hsc.gr0 hg
          replace hgr := hgr.trans hg
          clear hg
          have hle := wmade_len [1, 2] 0 L k
          have hle2 := wmade_len [1] 2 L k
          generalize wmade [1, 2] 0 L k = R at *
          generalize wmade [1] 2 L k = R2 at *
          have hne : (R.1 != R.1) = false := by simp
          have hne2 : (R2.1 != R2.1) = false := by simp
          go_wp2_with fail
          (with_reducible refine (same_self_any _ _ _ _ _ _ _ hsa hsb (by omega)).mono ?_)
          rintro e w1 ⟨rfl, hg⟩
          replace hsL := hsL.gr0 hg
          replace hsO := hsO.gr0 hg
          replace hsa := hsa.gr0 hg
          replace hsb := hsb.gr0 hg
          replace hsc := hsc.gr0 hg
          replace hsd := hsd.gr0 hg
          replace hgr := hgr.trans hg
          clear hg
          go_wp2_with fail
          (with_reducible refine (same_self_any _ _ _ _ _ _ _ hsc hsd (by omega)).mono ?_)
          rintro e w1 ⟨rfl, hg⟩
          replace hsL := hsL.gr0 hg
          replace hsO := hsO.gr0 hg
          replace hsa := hsa.gr0 hg
          replace hsb := hsb.gr0 hg
          replace hsc := hsc.gr0 hg
          replace hsd := hsd.gr0 hg
          replace hgr := hgr.trans hg
          clear hg
          clear hne hne2 hsa hsb hsc hsd hle hle2
          go_wp2_with fail
          (with_reducible refine (go_any _ _ _ L k _ hsL (by omega) (by omega) (by omega)).mono ?_)
          rintro e w1 ⟨Ae, ce, rfl, hse, hg⟩
          replace hsL := hsL.gr0 hg
          replace hsO := hsO.gr0 hg
          replace hgr := hgr.trans hg
          clear hg
          go_wp2_with fail
          (with_reducible refine (rgo_any _ _ _ L k _ hsL (by omega) (by omega) (by omega)).mono ?_)
          rintro e w1 ⟨Af, cf, rfl, hsf, hg⟩
          replace hsL := hsL.gr0 hg
          replace hsO := hsO.gr0 hg
          replace hse := hse.gr0 hg
          replace hgr := hgr.trans hg
          clear hg
          go_wp2_with fail
          (with_reducible refine (restart_any _ _ _ L k _ hsL (by omega) (by omega) (by omega)).mono ?_)
          rintro e w1 ⟨Ag, cg, rfl, hsg, hg⟩
          replace hsL := hsL.gr0 hg
          replace hsO := hsO.gr0 hg
          replace hse := hse.gr0 hg
          replace hsf := hsf.gr0 hg
          replace hgr := hgr.trans hg
          clear hg
          go_wp2_with fail
          (with_reducible refine (rrestart_any _ _ _ L k _ hsL (by omega) (by omega) (by omega)).mono ?_)
          rintro e w1 ⟨Ah, ch, rfl, hsh, hg⟩
          replace hsL := hsL.gr0 hg
          replace hsO := hsO.gr0 hg
          replace hse := hse.gr0 hg
          replace hsf := hsf.gr0 hg
          replace hsg := hsg.gr0 hg
          replace hgr := hgr.trans hg
          clear hg
          have hle := wmade_len [2] 1 L k
          have hle2 := wrestart_len L k
          generalize wmade [2] 1 L k = R at *
          generalize wrestart L k = R2 at *
          have hne : (R.1 != R.1) = false := by simp
          have hne2 : (R2.1 != R2.1) = false := by simp
          go_wp2_with fail
          (with_reducible refine (same_self_any _ _ _ _ _ _ _ hse hsf (by omega)).mono ?_)
          rintro e w1 ⟨rfl, hg⟩
          replace hsL := hsL.gr0 hg
          replace hsO := hsO.gr0 hg
          replace hse := hse.gr0 hg
          replace hsf := hsf.gr0 hg
          replace hsg := hsg.gr0 hg
          replace hsh := hsh.gr0 hg
          replace hgr := hgr.trans hg
          clear hg
          go_wp2_with fail
          (with_reducible refine (same_self_any _ _ _ _ _ _ _ hsg hsh (by omega)).mono ?_)
          rintro e w1 ⟨rfl, hg⟩
          replace hsL := hsL.gr0 hg
          replace hsO := hsO.gr0 hg
          replace hse := hse.gr0 hg
          replace hsf := hsf.gr0 hg
          replace hsg := hsg.gr0 hg
          replace hsh := hsh.gr0 hg
          replace hgr := hgr.trans hg
          clear hg
          clear hne hne2 hse hsf hsg hsh hle hle2
          go_wp2_with fail
          (with_reducible refine (lose2_any _ _ _ L k _ hsL (by omega) (by omega) (by omega)).mono ?_)
          rintro e w1 ⟨Ap, cp, rfl, hsp, hg⟩
          replace hsL := hsL.gr0 hg
          replace hsO := hsO.gr0 hg
          replace hgr := hgr.trans hg
          clear hg
          go_wp2_with fail
          (with_reducible refine (rlose2_any _ _ _ L k _ hsL (by omega) (by omega) (by omega)).mono ?_)
          rintro e w1 ⟨Aq, cq, rfl, hsq, hg⟩
          replace hsL := hsL.gr0 hg
          replace hsO := hsO.gr0 hg
          replace hsp := hsp.gr0 hg
          replace hgr := hgr.trans hg
          clear hg
          have hle := wmade_len [0, 1, 2] 3 L k
          generalize wmade [0, 1, 2] 3 L k = R at *
          generalize wrun L k = Q at *
          have hne : (R.1 != R.1) = false := by simp
          have hne2 : (Q != Q) = false := by simp
          go_wp2_with fail
          (with_reducible refine (same_self_any _ _ _ _ _ _ _ hsp hsq (by omega)).mono ?_)
          rintro e w1 ⟨rfl, hg⟩
          replace hsL := hsL.gr0 hg
          replace hsO := hsO.gr0 hg
          replace hsp := hsp.gr0 hg
          replace hsq := hsq.gr0 hg
          replace hgr := hgr.trans hg
          clear hg
          go_wp2
          go_roundw
          case rel => exact ⟨j + 1, by omega, by go_num, hsL, hsO, hgr⟩
          case measure => simp [intOf]; omega
    · clear hsL hsO
      go_wp2_with fail
      (with_reducible refine (mod_any N 11 _ (by omega) (by omega) hN1 hN2).mono ?_)
      rintro e w4 ⟨rfl, rfl⟩
      go_wp2_with fail
      have hsN : Sl (wr.alloc (.cells #[.int .i64 N, .int .i64 (N % 11 - 1)] 3)) 3 1 (some ⟨wr.heap.size, 0, none⟩) 2 (([N, N % 11 - 1] : List Int).map (.int .i64)) := Sl.new wr _ 1 #[.int .i64 N, .int .i64 (N % 11 - 1)] 2 _ rfl rfl
      replace hgr := hgr.alloc (.cells #[.int .i64 N, .int .i64 (N % 11 - 1)] 3)
      obtain ⟨wo, hwo⟩ : ∃ wo : World, wo = wr := ⟨_, rfl⟩
      rw [← hwo] at hsN hgr ⊢
      clear hwo wr
      go_loopw [226] (fun v w' => ∃ j : Nat, j ≤ 2 ∧ v = .int .i64 j ∧ Sl w' 3 1 (some ⟨wo.heap.size, 0, none⟩) 2 (([N, N % 11 - 1] : List Int).map (.int .i64)) ∧ Gr [] w w') (fun v _ => 2 - (intOf v).toNat)
      case atStart => exact ⟨0, by omega, rfl, hsN, hgr⟩
      case round =>
        clear hsN hgr
        obtain ⟨p, hp, rfl, hsN, hgr⟩ := hrel
        by_cases hlt2 : p < 2
        · obtain ⟨b, off, u, hA, hu, hc⟩ := hsN.at_ hlt2
          injection hA with hA
          injection hA with hA hO
          subst hA; subst hO
          obtain ⟨rfl, _⟩ := ints_get _ hu
          rw [Nat.zero_add] at hc
          obtain ⟨r, hr⟩ : ∃ r, r = ([N, N % 11 - 1] : List Int).getD p 0 := ⟨_, rfl⟩
          rw [← hr] at hc
          clear hr hu
          go_wp2_with fail
          (with_reducible refine (new_workers r _).mono ?_)
          rintro e w1 ⟨Ax, cx, rfl, hsx, hg⟩
          replace hsN := hsN.gr0 hg
          replace hgr := hgr.trans hg
          clear hg hc
          go_wp2_with fail
          (with_reducible refine (rnew_any r _).mono ?_)
          rintro e w1 ⟨Ay, cy, rfl, hsy, hg⟩
          replace hsN := hsN.gr0 hg
          replace hsx := hsx.gr0 hg
          replace hgr := hgr.trans hg
          clear hg
          have hle := wnew_len r
          generalize wnew r = R at *
          have hne : (R.1 != R.1) = false := by simp
          go_wp2_with fail
          (with_reducible refine (same_self_any _ _ _ _ _ _ _ hsx hsy (by omega)).mono ?_)
          rintro e w1 ⟨rfl, hg⟩
          replace hsN := hsN.gr0 hg
          replace hgr := hgr.trans hg
          go_wp2
          go_roundw
          case rel => exact ⟨p + 1, by omega, by go_num, hsN, hgr⟩
          case measure => simp [intOf]; omega
        · go_wp2
          go_ret
          exact ⟨rfl, hgr⟩
end Go.Proofs.Ytllhlmlghkiojaa
