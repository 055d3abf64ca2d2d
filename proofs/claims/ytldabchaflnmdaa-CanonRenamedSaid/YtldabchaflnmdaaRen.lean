/- renamed: values with the new identifiers. -/
import Derived.Test.YtldabchaflnmdaaFn
namespace Go.Proofs.Ytldabchaflnmdaa
open Go.RowKit

theorem hren_take {found : List Ob} {l : List Vl} {k : Nat} (hk : k < l.length) : hren found (l.take (k + 1)) = hren found (l.take k) ++ [if l[k].r then ⟨true, place found l[k].n⟩ else l[k]] := by
  unfold hren; rw [List.take_succ_eq_append_getElem hk, List.map_append]; rfl
theorem hren_len (found : List Ob) (l : List Vl) : (hren found l).length = l.length := by simp [hren]

set_option maxHeartbeats 1000000 in
theorem renamed_any (base F : Nat) (hA : Option Addr) (hn hc : Nat) (found : List Ob) (A : Option Addr) (c : Nat) (l : List Vl) (w : World) (hf : Fi w base F hA hn hc found) (hl : Vs w A l) (hV : VW l) (hn1 : l.length ≤ 1000000) :
    Calls Try.prog 20 #[.pointer (some ⟨F, 0, none⟩), .slice A l.length c] w fun e w' => ∃ (A' : Option Addr) (c' : Nat), e = .returned (.slice A' l.length c') ∧ Vs w' A' (hren found l) ∧ Gr [] w w' := by
  obtain ⟨i0, hi0, hz0, hz1, hz2⟩ := info_parts Try.infoVl
  go_enter Try.func20, Try.ntmps20
  go_wp2
  go_loopw [5, 10] (fun o i w' => ∃ (k : Nat) (A' : Option Addr) (c' : Nat), k ≤ l.length ∧ o = .slice A' k c' ∧ i = .int .i64 k ∧ w'.ownsRow w.heap.size 31 2 (.slice A' k c') k (vcells (hren found (l.take k))) ∧ Gr [] w w') (fun _ i _ => l.length - (intOf i).toNat)
  case atStart => exact ⟨0, none, 0, Nat.zero_le _, rfl, rfl, own_nil _ _ _ _, Gr.refl _ _⟩
  case round =>
    obtain ⟨k, A1, c1, hk, rfl, rfl, hown, hgr⟩ := hrel
    by_cases hkl : k < l.length
    · obtain ⟨b, off, rfl, hc0, hc1⟩ := (hl.gr0 hgr).at_ hkl
      have hvw : wf64 l[k].n := hV l[k] (List.getElem_mem hkl)
      have HK := Lib.hid (hren_take (found := found) hkl)
      obtain ⟨Mb, rA, rc, rs, hb, hbF, hbM, hmp, hown0, hrok, hobs⟩ := hf.gr0 hgr
      obtain ⟨⟨vr, vn⟩, hv⟩ : ∃ v, l[k] = v := ⟨_, rfl⟩
      rw [hv] at hc0 hc1 hvw HK
      clear hv
      simp only at hc0 hc1 hvw
      have hbs : w.heap.size ≤ wr.heap.size := hgr.size
      cases vr
      · have HQ := Lib.hid (show vcells (hren found (l.take (k + 1))) = vcells (hren found (l.take k)) ++ vcells [⟨false, vn⟩] by rw [HK.out, vcells_append]; rfl)
        have hownA := own_gr0 hown (((Gr.refl [] wr).alloc (.cells #[.bool false, .int .i64 vn] 31)).alloc (.cells #[.bool false, .int .i64 vn] 31))
        have hslA : Sl ((wr.alloc (.cells #[.bool false, .int .i64 vn] 31)).alloc (.cells #[.bool false, .int .i64 vn] 31)) 31 2 (some ⟨wr.heap.size + 1, 0, none⟩) 1 (vcells [⟨false, vn⟩]) := bk_vs (v := ⟨false, vn⟩) (by simpa using Bk.new (wr.alloc (.cells #[.bool false, .int .i64 vn] 31)) _ _)
        go_wp2_with (at_builtin; refine wpList_app _ rfl (.tmp 24) (.tmp 26) 33 rfl w.heap.size 31 i0 _ 2 16 Try.underlying33 hi0 hz0 hz1 hz2 rfl (by decide) (by decide) A1 k c1 _ rfl hownA _ 1 1 _ rfl hslA (vcells_one _) (by omega) (by simp; omega) ?_; intro A2 c2 w2 hown2 happ2)
        go_roundw
        case rel => exact ⟨k + 1, A2, c2, by omega, rfl, by go_num, by rw [HQ.out]; exact hown2, happ2.gr [] w (Nat.le_refl _) ((hgr.alloc _).alloc _)⟩
        case measure => simp [intOf]; omega
      · have HQ := Lib.hid (show vcells (hren found (l.take (k + 1))) = vcells (hren found (l.take k)) ++ vcells [⟨true, place found vn⟩] by rw [HK.out, vcells_append]; rfl)
        have hmp2 := (show Mp ((wr.alloc (.cells #[.bool true, .int .i64 vn] 31)).drew) Mb rs.length (place found) from hmp.gr (M := []) (((Gr.refl [] wr).alloc _).drew) (by simp)).lookup hvw
        generalize place found vn = pl at *
        have hbv := Bk.new wr 31 #[.bool true, .int .i64 vn]
        obtain ⟨hv0, hv1⟩ := hbv.cells2
        have hz3 := hbv.frozen 1
        obtain ⟨hF0, hF1, hF2⟩ := (hb.alloc (.cells #[.bool true, .int .i64 vn] 31)).cells3
        go_wp2_with fail
        have hownA := own_gr0 hown ((((Gr.refl [] wr).alloc (.cells #[.bool true, .int .i64 pl] 31)).alloc (.cells #[.bool true, .int .i64 pl] 31)).drew)
        have hslA : Sl (((wr.alloc (.cells #[.bool true, .int .i64 pl] 31)).alloc (.cells #[.bool true, .int .i64 pl] 31)).drew) 31 2 (some ⟨wr.heap.size + 1, 0, none⟩) 1 (vcells [⟨true, pl⟩]) := bk_vs (v := ⟨true, pl⟩) (Bk.drew (by simpa using Bk.new (wr.alloc (.cells #[.bool true, .int .i64 pl] 31)) _ _))
        go_region
        all_goals
          go_wp2_with (at_builtin; refine wpList_app _ rfl (.tmp 24) (.tmp 26) 33 rfl w.heap.size 31 i0 _ 2 16 Try.underlying33 hi0 hz0 hz1 hz2 rfl (by decide) (by decide) A1 k c1 _ rfl hownA _ 1 1 _ rfl hslA (vcells_one _) (by omega) (by simp; omega) ?_; intro A2 c2 w2 hown2 happ2)
          go_roundw
          case rel => exact ⟨k + 1, A2, c2, by omega, rfl, by go_num, by rw [HQ.out]; exact hown2, happ2.gr [] w (Nat.le_refl _) (((hgr.alloc _).alloc _).drew)⟩
          case measure => simp [intOf]; omega
    · have hkn : k = l.length := by omega
      subst hkn
      rw [List.take_length] at hown
      go_wp2
      go_ret
      refine ⟨A1, c1, rfl, ?_, hgr⟩
      unfold Vs
      rw [hren_len]
      exact Sl.of_own hown
end Go.Proofs.Ytldabchaflnmdaa
