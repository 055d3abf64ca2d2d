/- CanonGarbage: the law's body, for any seeds and any object. -/
import Derived.Test.YtldabchaflnmdaaOnce
namespace Go.Proofs.Ytldabchaflnmdaa
open Go.RowKit

set_option maxHeartbeats 2000000 in
theorem garb_any (A : Option Addr) (n c : Nat) (zs : List Int) (oid : Int) (FA : Option Addr) (m fc : Nat) (w : World) (e5 : TypeId) (h : Sl w e5 1 A n (zs.map (.int .u8))) (hz : ∀ j, 0 ≤ zs.getD j 0 ∧ zs.getD j 0 < 256) (hnc : n ≤ c) (hn : n ≤ 9223372036854775807)
    (hf : m ≤ 50 → ∃ (fs : List Vl) (e' : TypeId), fs.length = m ∧ Sl w e' 2 FA fs.length (vcells fs) ∧ VW fs) :
    Calls Try.prog 5 #[.slice A n c, .agg #[.int .i64 oid, .slice FA m fc]] w fun e w' => e = .returned (.bool true) ∧ Gr [] w w' := by
  have hX := Bk.new w 43 #[.int .i64 oid, .slice FA m fc]
  have hg0 := (Gr.refl [] w).alloc (.cells #[.int .i64 oid, .slice FA m fc] 43)
  go_enter Try.func5, Try.ntmps5
  go_wp2_with fail
  go_at_call 6
  refine (sane_any _).mono ?_
  rintro e w1 ⟨rfl, hg1⟩
  have hX1 := hX.gr0 hg1
  have hg01 := hg0.trans hg1
  obtain ⟨hx0, hx1⟩ := hX1.cells2
  clear hX hg0 hg1
  have hlt0 := hX1.lt
  by_cases hm : m ≤ 50
  · obtain ⟨fs, e', hfl, hfv, hfw⟩ := hf hm
    clear hf
    subst hfl
    have hm' : ¬ (50 : Int) < (fs.length : Int) := by omega
    go_wp2_with fail
    go_at_call 7
    refine (new_any A n c zs w1 e5 (h.gr0 hg01) hz hnc hn).mono ?_
    rintro e w2 ⟨g, rfl, hgl, hd2, hg2⟩
    have hgN := hg01.trans hg2
    have hgW : w.heap.size ≤ g := Nat.le_trans hg01.size hgl
    have hgB := hd2.ltB
    have hX2 := hX1.gr0 hg2
    clear hg01 hg2 h hz hnc hn hX1 hx0 hx1
    go_wp2_with fail
    go_at_call 8
    refine (heap_any w2.heap.size g w2 hd2 (Nat.le_refl _)).mono ?_
    rintro e w3 ⟨hA, hc, rs, rfl, hcap, hO3, hR3, hok, hd3, hg3, hfr⟩
    have hB3 : w2.heap.size ≤ w3.heap.size := hg3.size
    have hd3' := hd3.gr0 ((Gr.refl [] w3).alloc (.cells #[.slice hA rs.length hc] 28))
    have hT4 := Bk.new w3 28 #[.slice hA rs.length hc]
    have hg3' : Gr [g] w2 (w3.alloc (.cells #[.slice hA rs.length hc] 28)) := hg3.alloc _
    go_wp2_with fail
    go_at_call 9
    refine (value_any w2.heap.size g _ hd3' (by simp; omega)).mono ?_
    rintro e w4 ⟨v1, rfl, hv1, hd4, hg4⟩
    obtain ⟨dcs, hdb⟩ := hd3'.bk
    have hT4' := hT4.gr hg4 (by simp; omega)
    have hX4 := hX2.gr (hg3'.trans hg4) (by simp; omega)
    have hO5 : Os w4 hA rs := Sl.gr1 (hO3.alloc _) hdb (by decide) hg4
    have hR5 : Rok w4 rs := (hR3.alloc _).gr1 hdb (by decide) hg4
    have hgA : Gr [] w (w4.alloc (.cells #[.bool v1.r, .int .i64 v1.n] 31)) := (hgN.trans_new (hg3'.trans hg4) (by simp; omega)).alloc _
    have hV6 : Vs (w4.alloc (.cells #[.bool v1.r, .int .i64 v1.n] 31)) (some ⟨w4.heap.size, 0, none⟩) [v1] := bk_vs (Bk.new w4 31 #[.bool v1.r, .int .i64 v1.n])
    have hO6 := hO5.alloc (.cells #[.bool v1.r, .int .i64 v1.n] 31)
    have hR6 := hR5.alloc (.cells #[.bool v1.r, .int .i64 v1.n] 31)
    have hT6 := hT4'.alloc (.cells #[.bool v1.r, .int .i64 v1.n] 31)
    have hX6 := hX4.alloc (.cells #[.bool v1.r, .int .i64 v1.n] 31)
    have hVO : ∀ v ∈ [v1], VOk v := by
      intro v hv
      simp at hv
      subst hv
      exact hv1
    have hrl : rs.length ≤ 5 := by have := hok.size; rw [obs_len] at this; exact this
    have hxl : w.heap.size < w3.heap.size := by omega
    -- the store of the identifier
    have hGS := (Gr.refl [w.heap.size] (w4.alloc (.cells #[.bool v1.r, .int .i64 v1.n] 31))).setCell (p := ⟨w.heap.size, 0, none⟩) (.inl (by simp)) (.int .i64 5000)
    have hX7 := hX6.set_ 0 (.int .i64 5000)
    have hT7 := hT6.gr hGS (by simp; omega)
    have hO7 : Os _ hA rs := hO6.keep fun b off hb hlt => hGS.block b hlt (by have := hfr b off hb; simp; omega)
    have hR7 := hR6.gr1 hX6 (by decide) hGS
    have hV7 := Sl.gr1 hV6 hX6 (by decide) hGS
    have hgZ : Gr [] w ((w4.alloc (.cells #[.bool v1.r, .int .i64 v1.n] 31)).setCell ⟨w.heap.size, 0, none⟩ (.int .i64 5000)) := hgA.setCell (.inr (by simp)) _
    have hfv7 := hfv.gr0 hgZ
    have hfx0 := hX6.frozen 0
    have hT7c := hT7.cell 0
    have hcx6 := hX6.cells2
    clear hgN hg3 hg3' hd3 hd3' hd4 hd2 hg4 hdb hT4 hT4' hO3 hR3 hO5 hR5 hX2 hX4 hO6 hR6 hV6 hT6 hgA
    go_wp2_with fail
    go_at_call 10
    refine (canon_any hA hc rs (some ⟨w4.heap.size, 0, none⟩) 1 [v1] _ hO7 hR7 hV7 (VOk.vw hVO) (Nat.le_of_ble_eq_true rfl) (by omega)).mono ?_
    rintro e w8 ⟨A7, c7, ns, B7, d7, rfl, hO8, hR8, hob8, hV8, hg8⟩
    have HOB8 := Lib.hid hob8
    clear hob8
    have hfl : (hfind (obs rs) [v1]).length ≤ 1000000 := by have := (Found.find (obs rs) [v1]).length; rw [obs_len] at this; omega
    have hnl : ns.length ≤ 1000000 := by
      have e : ns.length = (hfind (obs rs) [v1]).length := by rw [← obs_len, HOB8.out]; exact hnum_length _ _ _
      omega
    have hgE := hg8.alloc (.cells #[.slice A7 ns.length c7] 28)
    have hT9 := hT7.gr0 hgE
    have hX9 := hX7.gr0 hgE
    have hT9c := hT9.cell 0
    obtain ⟨hX9c, hX9d⟩ : _ ∧ _ := ⟨hX9.cell 0, hX9.cell 1⟩
    have hU9 := Bk.new w8 28 #[.slice A7 ns.length c7]
    have hcall := put_any hA hc rs 5000 FA fc fs _ (hO7.gr0 hgE) (hR7.gr0 hgE) hcap (hfv7.gr0 hgE) hfw rfl (by omega) (by omega)
    clear hT7c hcx6 hfx0 hX6 hGS
    go_wp2_with fail
    go_at_call 15
    refine hcall.mono ?_
    rintro e w10 ⟨A10, c10, ps, rfl, hpc, hO10, hR10, hob10, hg10⟩
    have hpl : ps.length ≤ 6 := by
      have h1 := hput_length (obs rs) ⟨5000, fs⟩
      rw [← hob10, obs_len, obs_len] at h1
      omega
    have HOB10 := Lib.hid hob10
    clear hob10 hcall
    have hVx := (hV7.gr0 hgE).gr0 hg10
    go_wp2_with fail
    go_at_call 10
    refine (canon_any A10 c10 ps (some ⟨w4.heap.size, 0, none⟩) 1 [v1] w10 hO10 hR10 hVx (VOk.vw hVO) (Nat.le_of_ble_eq_true rfl) (by omega)).mono ?_
    rintro e w11 ⟨A11, c11, ms, B11, d11, rfl, hO11, hR11, hob11, hV11, hg11⟩
    have hcg := canon_garbage hok hVO ⟨5000, fs⟩ rfl
    rw [HOB10.out, hcg] at hob11 hV11
    clear hcg
    have HOB11 := Lib.hid (hob11.trans HOB8.out.symm)
    clear hob11
    have hml : ms.length ≤ 1000000 := by have e : ms.length = ns.length := by rw [← obs_len, ← obs_len, HOB11.out]
                                         omega
    have hgF := (hg10.trans hg11).alloc (.cells #[.slice A11 ms.length c11] 28)
    have hU12 := hU9.gr0 hgF
    have hU12c := hU12.cell 0
    have hS := same_any A7 A11 c7 c11 ns ms (w11.alloc (.cells #[.slice A11 ms.length c11] 28)) ((hO8.alloc _).gr0 hgF) (hO11.alloc _) ((hR8.alloc _).gr0 hgF) (hR11.alloc _) hnl hml
    rw [show decide (obs ns = obs ms) = true by rw [HOB11.out]; simp] at hS
    have hSV : ∀ w', Gr [] (w11.alloc (.cells #[.slice A11 ms.length c11] 28)) w' → Calls Try.prog 12 #[.slice B7 1 d7, .slice B11 1 d11] w' fun e w'' => e = .returned (.bool true) ∧ Gr [] w' w'' := fun w' hg => by
      have ha := ((hV8.alloc (.cells #[.slice A7 ns.length c7] 28)).gr0 hgF).gr0 hg
      have hb := (hV11.alloc (.cells #[.slice A11 ms.length c11] 28)).gr0 hg
      have hl : (hcanon (obs rs) [v1]).2.length = 1 := hren_len _ _
      unfold Vs at ha hb
      rw [hl] at ha hb
      refine (samevals_any B7 B11 1 1 d7 d11 _ _ w' ha hb (by omega) (by omega)).mono ?_
      rintro e w'' ⟨rfl, h2⟩
      exact ⟨ret_bool (by simp), h2⟩
    have HSV := Lib.hid hSV
    clear hSV
    go_wp2_with fail
    go_at_call 11
    refine hS.mono ?_
    rintro e w13 ⟨rfl, hg13⟩
    go_wp2_with fail
    go_at_call 12
    refine (HSV.out _ hg13).mono ?_
    rintro e w14 ⟨rfl, hg14⟩
    go_wp2
    go_ret
    exact ⟨rfl, ((hgZ.trans hgE).trans hgF).trans (hg13.trans hg14)⟩
  · have hm' : (50 : Int) < (m : Int) := by omega
    go_wp2
    go_ret
    exact ⟨rfl, hg01⟩
end Go.Proofs.Ytldabchaflnmdaa
