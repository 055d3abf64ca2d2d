/- Other identifiers: name, named. -/
import Derived.Test.YtldabchaflnmdaaVa
namespace Go.Proofs.Ytldabchaflnmdaa
open Go.RowKit

set_option maxHeartbeats 400000 in
theorem name_any (id add : Int) (turn : Bool) (w : World) (h1 : -1000000 ≤ id) (h2 : id ≤ 1000000) (h3 : 0 ≤ add) (h4 : add ≤ 255) :
    Calls Try.prog 16 #[.int .i64 id, .int .u8 add, .bool turn] w fun e w' => e = .returned (.int .i64 (nm add turn id)) ∧ w = w' := by
  have HN := Lib.hid (show nm add turn id = if turn then 1000 - 3 * id else 7 * id + add + 20 from rfl)
  have e3 : IntKind.i64.wrap add = add := IntWalk.i64_in _ (by omega)
  cases turn
  · go_enter Try.func16, Try.ntmps16
    go_wp2
    go_ret
    exact ⟨ret_int (by rw [HN.out]; simp), rfl⟩
  · go_enter Try.func16, Try.ntmps16
    go_wp2
    go_ret
    exact ⟨ret_int (by rw [HN.out]; simp), rfl⟩

def nmL (add : Int) (turn : Bool) (l : List Vl) : List Vl := l.map (nmV add turn)
theorem nmL_take {add : Int} {turn : Bool} {l : List Vl} {k : Nat} (hk : k < l.length) : nmL add turn (l.take (k + 1)) = nmL add turn (l.take k) ++ [nmV add turn l[k]] := by
  unfold nmL; rw [List.take_succ_eq_append_getElem hk, List.map_append]; rfl
theorem nmL_len (add : Int) (turn : Bool) (l : List Vl) : (nmL add turn l).length = l.length := by simp [nmL]

set_option maxHeartbeats 1000000 in
theorem named_any (A : Option Addr) (c : Nat) (l : List Vl) (add : Int) (turn : Bool) (w : World) (hl : Vs w A l) (hV : ∀ v ∈ l, VOk v) (hn1 : l.length ≤ 1000000) (h3 : 0 ≤ add) (h4 : add ≤ 255) :
    Calls Try.prog 17 #[.slice A l.length c, .int .u8 add, .bool turn] w fun e w' => ∃ (A' : Option Addr) (c' : Nat), e = .returned (.slice A' l.length c') ∧ Vs w' A' (nmL add turn l) ∧ Gr [] w w' := by
  obtain ⟨i0, hi0, hz0, hz1, hz2⟩ := info_parts Try.infoVl
  go_enter Try.func17, Try.ntmps17
  go_wp2
  go_loopw [7, 12] (fun o i w' => ∃ (k : Nat) (A' : Option Addr) (c' : Nat), k ≤ l.length ∧ o = .slice A' k c' ∧ i = .int .i64 k ∧ w'.ownsRow w.heap.size 31 2 (.slice A' k c') k (vcells (nmL add turn (l.take k))) ∧ Gr [] w w') (fun _ i _ => l.length - (intOf i).toNat)
  case atStart => exact ⟨0, none, 0, Nat.zero_le _, rfl, rfl, own_nil _ _ _ _, Gr.refl _ _⟩
  case round =>
    obtain ⟨k, A1, c1, hk, rfl, rfl, hown, hgr⟩ := hrel
    by_cases hkl : k < l.length
    · obtain ⟨b, off, rfl, hc0, hc1⟩ := (hl.gr0 hgr).at_ hkl
      have hvw : VOk l[k] := hV l[k] (List.getElem_mem hkl)
      have HK := Lib.hid (nmL_take (add := add) (turn := turn) hkl)
      obtain ⟨⟨vr, vn⟩, hv⟩ : ∃ v, l[k] = v := ⟨_, rfl⟩
      rw [hv] at hc0 hc1 hvw HK
      clear hv
      obtain ⟨hb1, hb2, hb3⟩ := hvw
      simp only at hc0 hc1 hb1 hb2 hb3
      have hbs : w.heap.size ≤ wr.heap.size := hgr.size
      by_cases hch : vr = true ∧ vn ≠ 0
      · obtain ⟨rfl, hne⟩ := hch
        have HQ := Lib.hid (show vcells (nmL add turn (l.take (k + 1))) = vcells (nmL add turn (l.take k)) ++ vcells [⟨true, nm add turn vn⟩] by rw [HK.out, vcells_append]; simp [nmV, hne])
        generalize hpl : nm add turn vn = pl at *
        have HP := Lib.hid hpl
        clear hpl
        have hneb : (vn != 0) = true := by simpa using hne
        have hownA := own_gr0 hown (((Gr.refl [] wr).alloc (.cells #[.bool true, .int .i64 pl] 31)).alloc (.cells #[.bool true, .int .i64 pl] 31))
        have hslA : Sl ((wr.alloc (.cells #[.bool true, .int .i64 pl] 31)).alloc (.cells #[.bool true, .int .i64 pl] 31)) 31 2 (some ⟨wr.heap.size + 1, 0, none⟩) 1 (vcells [⟨true, pl⟩]) := bk_vs (v := ⟨true, pl⟩) (by simpa using Bk.new (wr.alloc (.cells #[.bool true, .int .i64 pl] 31)) _ _)
        go_wp2_with (first | (go_at_call 16; refine (name_any vn add turn _ (by omega) (by omega) h3 h4).mono ?_; rintro e w1 ⟨rfl, rfl⟩; rw [HP.out]) | (at_builtin; refine wpList_app _ rfl (.tmp 29) (.tmp 31) 33 rfl w.heap.size 31 i0 _ 2 16 Try.underlying33 hi0 hz0 hz1 hz2 rfl (by decide) (by decide) A1 k c1 _ rfl hownA _ 1 1 _ rfl hslA (vcells_one _) (by omega) (by simp; omega) ?_; intro A2 c2 w2 hown2 happ2))
        go_roundw
        case rel => exact ⟨k + 1, A2, c2, by omega, rfl, by go_num, by rw [HQ.out]; exact hown2, happ2.gr [] w (Nat.le_refl _) ((hgr.alloc _).alloc _)⟩
        case measure => simp [intOf]; omega
      · have HQ := Lib.hid (show vcells (nmL add turn (l.take (k + 1))) = vcells (nmL add turn (l.take k)) ++ vcells [⟨vr, vn⟩] by rw [HK.out, vcells_append]; congr 2; simp [nmV]; intro h1 h2; exact absurd ⟨h1, h2⟩ hch)
        have hownA := own_gr0 hown (((Gr.refl [] wr).alloc (.cells #[.bool vr, .int .i64 vn] 31)).alloc (.cells #[.bool vr, .int .i64 vn] 31))
        have hslA : Sl ((wr.alloc (.cells #[.bool vr, .int .i64 vn] 31)).alloc (.cells #[.bool vr, .int .i64 vn] 31)) 31 2 (some ⟨wr.heap.size + 1, 0, none⟩) 1 (vcells [⟨vr, vn⟩]) := bk_vs (v := ⟨vr, vn⟩) (by simpa using Bk.new (wr.alloc (.cells #[.bool vr, .int .i64 vn] 31)) _ _)
        cases vr
        · clear hch
          go_wp2_with (at_builtin; refine wpList_app _ rfl (.tmp 29) (.tmp 31) 33 rfl w.heap.size 31 i0 _ 2 16 Try.underlying33 hi0 hz0 hz1 hz2 rfl (by decide) (by decide) A1 k c1 _ rfl hownA _ 1 1 _ rfl hslA (vcells_one _) (by omega) (by simp; omega) ?_; intro A2 c2 w2 hown2 happ2)
          go_roundw
          case rel => exact ⟨k + 1, A2, c2, by omega, rfl, by go_num, by rw [HQ.out]; exact hown2, happ2.gr [] w (Nat.le_refl _) ((hgr.alloc _).alloc _)⟩
          case measure => simp [intOf]; omega
        · have hv0 : vn = 0 := by
            rcases Classical.em (vn = 0) with h | h
            · exact h
            · exact absurd ⟨rfl, h⟩ hch
          subst hv0
          clear hch
          go_wp2_with (at_builtin; refine wpList_app _ rfl (.tmp 29) (.tmp 31) 33 rfl w.heap.size 31 i0 _ 2 16 Try.underlying33 hi0 hz0 hz1 hz2 rfl (by decide) (by decide) A1 k c1 _ rfl hownA _ 1 1 _ rfl hslA (vcells_one _) (by omega) (by simp; omega) ?_; intro A2 c2 w2 hown2 happ2)
          go_roundw
          case rel => exact ⟨k + 1, A2, c2, by omega, rfl, by go_num, by rw [HQ.out]; exact hown2, happ2.gr [] w (Nat.le_refl _) ((hgr.alloc _).alloc _)⟩
          case measure => simp [intOf]; omega
    · have hkn : k = l.length := by omega
      subst hkn
      rw [List.take_length] at hown
      go_wp2
      go_ret
      refine ⟨A1, c1, rfl, ?_, hgr⟩
      unfold Vs
      rw [nmL_len]
      exact Sl.of_own hown
end Go.Proofs.Ytldabchaflnmdaa
