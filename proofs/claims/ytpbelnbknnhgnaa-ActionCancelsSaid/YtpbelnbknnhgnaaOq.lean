/- Open walked. -/
import Derived.Test.YtpbelnbknnhgnaaOp
namespace Go.Proofs.Ytpbelnbknnhgnaa
open Go.RowKit Go.Maps

theorem ss_open {l : List Dd} {g : Int} {op : Int → Option Int} {D : DataW Unit} {R : Value → Option (DataW Unit × List MemPlace)} {w : World} {b n : Nat} (h : scan l = some (g, op)) (hl : l.length ≤ 999999) (hown : w.ownsMap Try.prog 2 R b n D) (ha : Ans D op) {ss : List Int} (hp : ss.Perm (intKeys D)) :
    ss.mergeSort (fun x y => decide (x ≤ y)) = refOpen l := by
  obtain ⟨h1, h2, h3⟩ := keys_facts hown
  have K := scan_known l.length l rfl h
  refine keys_open h (hp.nodup_iff.2 h1) (fun t => ?_)
  rw [hp.mem_iff]
  constructor
  · intro ht
    rw [← (ha t (h3 t ht)).1]
    exact (h2 t).1 ht
  · intro ht
    have hb : 1 ≤ t ∧ t ≤ g := by
      have h4 := ht
      rw [K.opens t] at h4
      split at h4
      · cases h4
      · exact (K.given t).1 h4
    have := K.le
    have hw : wf64 t := WalkArith.wf_i64 (by omega)
    rw [h2, (ha t hw).1]
    exact ht

set_option maxHeartbeats 1000000 in
theorem open_any (A : Option Addr) (c : Nat) (l : List Dd) (T g : Int) (op : Int → Option Int) (w : World) (h : Ds w A l) (hn : l.length ≤ 999999) (hw : ∀ d ∈ l, wf64 d.ticket ∧ wf64 d.value) (hsc : scan l = some (g, op)) :
    Calls Try.prog 13 #[.agg #[.slice A l.length c, .int .i64 T]] w fun e w' => ∃ (A' : Option Addr) (c' : Nat), e = .returned (.slice A' (refOpen l).length c') ∧ Sl w' 2 1 A' (refOpen l).length ((refOpen l).map (.int .i64)) ∧ Gr [] w w' := by
  have hG := (Gr.refl [] w).alloc (.cells #[.slice A l.length c, .int .i64 T] 26)
  obtain ⟨x0, x1⟩ := (Bk.new w 26 #[.slice A l.length c, .int .i64 T]).cells2
  have HSC := Lib.hid hsc
  clear hsc
  go_enter Try.func13, Try.ntmps13
  go_wp2_with fail
  go_at_call 31
  refine (reserved_any A c l T _ (h.gr0 hG) hn hw).mono ?_
  rintro e w2 (⟨hx, _⟩ | ⟨g', op', M, n, hx, rfl, hM, hnl, _, hg2⟩)
  · rw [HSC.out] at hx; cases hx
  · rw [HSC.out] at hx
    injection hx with hx
    injection hx with hx1 hx2
    subst hx1; subst hx2
    obtain ⟨D, hown, hans⟩ := hM
    have hs := hown.size_le
    obtain ⟨cK, cS⟩ := keysSorted M n D _ w2 hown (by simp [maxLen]; omega) (by omega)
    have HK := Lib.hid cK
    clear cK
    go_wp2_with fail
    go_at_call 33
    refine (HK.out _ _).mono ?_
    rintro e w3 ⟨rfl, rfl⟩
    go_wp2_with fail
    go_at_call 32
    refine cS.mono ?_
    rintro e w4 ⟨v, ss, rfl, hp, hrow, hbe⟩
    have ho := ss_open HSC.out hn hown hans hp
    have hlen : ss.length = (refOpen l).length := by rw [← ho, List.length_mergeSort]
    rw [ho, hlen] at hrow
    have HL := Lib.hid hlen
    clear hlen ho hown
    obtain ⟨A', c', rfl⟩ : ∃ A' c', v = .slice A' (refOpen l).length c' := by
      rcases hrow.2 with ⟨hv, h0⟩ | ⟨g, cap, cur, hv, _⟩
      · exact ⟨none, 0, by rw [hv, h0]⟩
      · exact ⟨_, _, hv⟩
    go_wp2
    go_ret
    exact ⟨A', c', rfl, Sl.of_own hrow, (hG.trans hg2).trans (Gr.of_below hbe [])⟩
end Go.Proofs.Ytpbelnbknnhgnaa
