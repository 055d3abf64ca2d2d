/- ActionValid, walked. -/
import Derived.Test.YtpbelnbknnhgnaaPre
namespace Go.Proofs.Ytpbelnbknnhgnaa
open Go.RowKit

theorem okD_ok {l : List Dd} {g : Int} {op : Int → Option Int} (h : scan l = some (g, op)) : okD l g = true := by
  unfold okD; rw [h]; simp

set_option maxRecDepth 100000 in
set_option maxHeartbeats 4000000 in
theorem valid_law (A : Option Addr) (n c : Nat) (zs : List Int) (Ar : Option Addr) (nr cr : Nat) (rT what at_ : Int) (w : World) (e5 : TypeId) (h : Sl w e5 1 A n (zs.map (.int .u8))) (hz : ∀ j, 0 ≤ zs.getD j 0 ∧ zs.getD j 0 < 256) (hnc : n ≤ c) (hn : n ≤ 9223372036854775807)
    (hrc : nr ≤ cr) (hrm : nr ≤ 9223372036854775807) (hr : nr ≤ 20 → ∃ rl : List Dd, rl.length = nr ∧ Ds w Ar rl ∧ wfl rl) :
    Calls Try.prog 5 #[.slice A n c, .agg #[.slice Ar nr cr, .int .i64 rT], .int .i64 what, .int .i64 at_] w fun e w' => e = .returned (.bool true) ∧ Gr [] w w' := by
  have hgA := (Gr.refl [] w).alloc (.cells #[.slice Ar nr cr, .int .i64 rT] 26)
  have hP5 := Bk.new w 26 #[.slice Ar nr cr, .int .i64 rT]
  by_cases h20 : 20 < nr
  · go_enter Try.func5, Try.ntmps5
    go_wp2_with fail
    go_at_call 7
    refine (sane_any _).mono ?_
    rintro e w1 ⟨rfl, hg1⟩
    have hP5 := hP5.gr0 hg1
    obtain ⟨x0, x1⟩ := hP5.cells2
    have h20' : (20 : Int) < (nr : Int) := by omega
    go_wp2
    go_ret
    exact ⟨rfl, hgA.trans hg1⟩
  · obtain ⟨rl, hrl, hdr, hwr⟩ := hr (by omega)
    subst hrl
    go_enter Try.func5, Try.ntmps5
    go_wp2_with fail
    go_at_call 7
    refine (sane_any _).mono ?_
    rintro e w1 ⟨rfl, hg1⟩
    have hP5 := hP5.gr0 hg1
    obtain ⟨x0, x1⟩ := hP5.cells2
    have h20' : ¬ (20 : Int) < (rl.length : Int) := by omega
    go_wp2_with fail
    go_at_call 8
    refine (made_any A n c zs _ e5 ((h.alloc _).gr0 hg1) hz hnc hn).mono ?_
    rintro e w2 ⟨l, A2, c2, T, rfl, hsl, hcap, ⟨op, hsc⟩, hwf, hlen, hg2⟩
    have HSC := Lib.hid hsc
    clear hsc
    have hP5 := hP5.gr0 hg2
    have hgB := (hgA.trans hg1).trans hg2
    clear x0 x1 hg1 hg2 hgA
    have hP9 := Bk.new w2 26 #[.slice A2 l.length c2, .int .i64 T]
    have hP5 := hP5.alloc (.cells #[.slice A2 l.length c2, .int .i64 T] 26)
    have hs9 := hsl.alloc (.cells #[.slice A2 l.length c2, .int .i64 T] 26)
    have hgC := hgB.alloc (.cells #[.slice A2 l.length c2, .int .i64 T] 26)
    go_wp2_with fail
    generalize hp9 : w2.heap.size = p9 at *
    generalize w2.alloc (.cells #[.slice A2 l.length c2, .int .i64 T] 26) = W1 at *
    clear hp9 hgB hsl
    go_at_call 20
    refine (bad_any A2 c2 l T what at_ _ ⟨_, hs9⟩ (by omega) hwf).mono ?_
    rintro e w3 ⟨m, A3, c3, U, rfl, hdm, hcm, hwm, hlm, hg3⟩
    have hP5 := (hP5.gr0 hg3).alloc (.cells #[.slice A3 m.length c3, .int .i64 U] 26)
    have hP9 := (hP9.gr0 hg3).alloc (.cells #[.slice A3 m.length c3, .int .i64 U] 26)
    have hP10 := Bk.new w3 26 #[.slice A3 m.length c3, .int .i64 U]
    have hs9 := (hs9.gr0 hg3).alloc (.cells #[.slice A3 m.length c3, .int .i64 U] 26)
    have hdm := hdm.gr0 ((Gr.refl [] w3).alloc (.cells #[.slice A3 m.length c3, .int .i64 U] 26))
    have hgD := (hgC.trans hg3).alloc (.cells #[.slice A3 m.length c3, .int .i64 U] 26)
    go_wp2_with fail
    generalize hp10 : w3.heap.size = p10 at *
    generalize w3.alloc (.cells #[.slice A3 m.length c3, .int .i64 U] 26) = W at *
    clear hp10 hgC hg3
    have hdr := hdr.gr0 hgD
    obtain ⟨bp, hbp⟩ : ∃ b, okD m U = b := ⟨_, rfl⟩
    obtain ⟨br, hbr⟩ : ∃ b, okD rl rT = b := ⟨_, rfl⟩
    obtain ⟨bs, hbs⟩ : ∃ b, decide (T = U ∧ l = m) = b := ⟨_, rfl⟩
    have HV1 := Lib.hid (show ∀ w', Gr [] W w' → Calls Try.prog 11 #[Value.agg #[Value.slice A2 l.length c2, Value.int IntKind.i64 T]] w' fun e w'' => e = .returned (.bool true) ∧ Gr [] W w'' from fun w' hg => ((show Calls _ _ _ _ (fun e w'' => e = .returned (.bool true) ∧ Gr [] w' w'') from by have := valid_any A2 c2 l T w' ⟨_, hs9.gr0 hg⟩ (by omega) hwf; rwa [okD_ok HSC.out] at this)).mono fun e w'' h => ⟨h.1, hg.trans h.2⟩)
    have HV2 := Lib.hid (show ∀ w', Gr [] W w' → Calls Try.prog 11 #[Value.agg #[Value.slice A3 m.length c3, Value.int IntKind.i64 U]] w' fun e w'' => e = .returned (.bool bp) ∧ Gr [] W w'' from fun w' hg => (valid_any A3 c3 m U w' (hdm.gr0 hg) (by omega) hwm).mono fun e w'' h => ⟨by rw [← hbp]; exact h.1, hg.trans h.2⟩)
    have HR2 := Lib.hid (show ∀ w', Gr [] W w' → Calls Try.prog 21 #[Value.agg #[Value.slice A3 m.length c3, Value.int IntKind.i64 U]] w' fun e w'' => e = .returned (.bool bp) ∧ Gr [] W w'' from fun w' hg => (rvalid_any A3 c3 m U w' (hdm.gr0 hg) (by omega) hcm).mono fun e w'' h => ⟨by rw [← hbp]; exact h.1, hg.trans h.2⟩)
    have HV3 := Lib.hid (show ∀ w', Gr [] W w' → Calls Try.prog 11 #[Value.agg #[Value.slice Ar rl.length cr, Value.int IntKind.i64 rT]] w' fun e w'' => e = .returned (.bool br) ∧ Gr [] W w'' from fun w' hg => (valid_any Ar cr rl rT w' (hdr.gr0 hg) (by omega) hwr).mono fun e w'' h => ⟨by rw [← hbr]; exact h.1, hg.trans h.2⟩)
    have HR3 := Lib.hid (show ∀ w', Gr [] W w' → Calls Try.prog 21 #[Value.agg #[Value.slice Ar rl.length cr, Value.int IntKind.i64 rT]] w' fun e w'' => e = .returned (.bool br) ∧ Gr [] W w'' from fun w' hg => (rvalid_any Ar cr rl rT w' (hdr.gr0 hg) (by omega) hrc).mono fun e w'' h => ⟨by rw [← hbr]; exact h.1, hg.trans h.2⟩)
    have HS1 := Lib.hid (show ∀ w', Gr [] W w' → Calls Try.prog 22 #[Value.agg #[Value.slice A2 l.length c2, Value.int IntKind.i64 T], Value.agg #[Value.slice A3 m.length c3, Value.int IntKind.i64 U]] w' fun e w'' => e = .returned (.bool bs) ∧ Gr [] W w'' from fun w' hg => (asame_any A2 A3 c2 c3 l m T U w' ⟨_, hs9.gr0 hg⟩ (hdm.gr0 hg) (by omega) (by omega)).mono fun e w'' h => ⟨by rw [← hbs]; exact h.1, hg.trans h.2⟩)
    have HS2 := Lib.hid (show ∀ w', Gr [] W w' → Calls Try.prog 23 #[Value.agg #[Value.slice A2 l.length c2, Value.int IntKind.i64 T], Value.agg #[Value.slice A3 m.length c3, Value.int IntKind.i64 U]] w' fun e w'' => e = .returned (.bool bs) ∧ Gr [] W w'' from fun w' hg => (rsame_any A2 A3 c2 c3 l m T U w' ⟨_, hs9.gr0 hg⟩ (hdm.gr0 hg) (by omega) (by omega)).mono fun e w'' h => ⟨by rw [← hbs]; exact h.1, hg.trans h.2⟩)
    have HBC := Lib.hid (show ∀ w', Gr [] W w' → w'.cell? ⟨p9, 0, none⟩ = some (.slice A2 l.length c2) ∧ w'.cell? ⟨p9, 1, none⟩ = some (.int .i64 T) ∧ w'.cell? ⟨p10, 0, none⟩ = some (.slice A3 m.length c3) ∧ w'.cell? ⟨p10, 1, none⟩ = some (.int .i64 U) ∧ w'.cell? ⟨w.heap.size, 0, none⟩ = some (.slice Ar rl.length cr) ∧ w'.cell? ⟨w.heap.size, 1, none⟩ = some (.int .i64 rT) from fun w' hg => ⟨(hP9.gr0 hg).cell 0, (hP9.gr0 hg).cell 1, (hP10.gr0 hg).cell 0, (hP10.gr0 hg).cell 1, (hP5.gr0 hg).cell 0, (hP5.gr0 hg).cell 1⟩)
    have hg0 := (Gr.refl [] W).drew
    clear hbp hbr hbs hs9 hdm hdr hP9 hP10 hP5 h
    go_region_held3 (fun w' => w'.cell? ⟨p9, 0, none⟩ = some (.slice A2 l.length c2) ∧ w'.cell? ⟨p9, 1, none⟩ = some (.int .i64 T) ∧ w'.cell? ⟨p10, 0, none⟩ = some (.slice A3 m.length c3) ∧ w'.cell? ⟨p10, 1, none⟩ = some (.int .i64 U) ∧ w'.cell? ⟨w.heap.size, 0, none⟩ = some (.slice Ar rl.length cr) ∧ w'.cell? ⟨w.heap.size, 1, none⟩ = some (.int .i64 rT)) (first | exact HBC.out _ hg0 | exact HBC.out _ k1 | exact HBC.out _ k2 | exact HBC.out _ k3 | exact HBC.out _ k4 | exact HBC.out _ k5 | exact HBC.out _ k6 | exact HBC.out _ k7)
      (first
      | (go_at_call_of 11 (Value.agg #[Value.slice A2 l.length c2, Value.int IntKind.i64 T]); refine (HV1.out _ hg0).mono ?_; rintro e q1 ⟨rfl, k1⟩)
      | (go_at_call_of 11 (Value.agg #[Value.slice A3 m.length c3, Value.int IntKind.i64 U]); refine (HV2.out _ k1).mono ?_; rintro e q2 ⟨rfl, k2⟩)
      | (go_at_call_of 21 (Value.agg #[Value.slice A3 m.length c3, Value.int IntKind.i64 U]); refine (HR2.out _ k2).mono ?_; rintro e q3 ⟨rfl, k3⟩)
      | (go_at_call_of 11 (Value.agg #[Value.slice Ar rl.length cr, Value.int IntKind.i64 rT]); refine (HV3.out _ k3).mono ?_; rintro e q4 ⟨rfl, k4⟩)
      | (go_at_call_of 21 (Value.agg #[Value.slice Ar rl.length cr, Value.int IntKind.i64 rT]); refine (HR3.out _ k4).mono ?_; rintro e q5 ⟨rfl, k5⟩)
      | (go_at_call 22; refine (HS1.out _ k5).mono ?_; rintro e q6 ⟨rfl, k6⟩)
      | (go_at_call 23; refine (HS2.out _ k6).mono ?_; rintro e q7 ⟨rfl, k7⟩))
    all_goals
      go_wp2
      go_ret
      exact ⟨ret_bool (by simp), hgD.trans k7⟩
end Go.Proofs.Ytpbelnbknnhgnaa
