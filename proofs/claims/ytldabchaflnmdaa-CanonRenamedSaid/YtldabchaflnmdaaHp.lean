/- A heap out of the dice. -/
import Derived.Test.YtldabchaflnmdaaVl
namespace Go.Proofs.Ytldabchaflnmdaa
open Go.RowKit

theorem VOk.wf {v : Vl} (h : VOk v) : wf64 v.n := by
  obtain ⟨h1, h2, _⟩ := h
  exact WalkArith.wf_i64 (by omega)
theorem VOk.vw {l : List Vl} (h : ∀ v ∈ l, VOk v) : VW l := fun v hv => (h v hv).wf
/-- The heap so far: k objects, none with an identifier above z. -/
structure HUp (z : Int) (k : Nat) (h : List Ob) : Prop where
  len : h.length = k
  ids : ∀ o ∈ h, 1 ≤ o.id ∧ o.id ≤ z
  fields : ∀ o ∈ h, o.fs.length ≤ 3 ∧ ∀ v ∈ o.fs, VOk v
  nodup : (h.map Ob.id).Nodup
theorem HUp.add {z : Int} {k : Nat} {h : List Ob} (H : HUp z k h) {y : Int} (hy : z < y) (hy1 : 1 ≤ y) {fs : List Vl} (hf : fs.length ≤ 3) (hv : ∀ v ∈ fs, VOk v) : HUp y (k + 1) (h ++ [⟨y, fs⟩]) := by
  refine ⟨by simp [H.len], ?_, ?_, ?_⟩
  · intro o ho
    rcases List.mem_append.1 ho with ho | ho
    · have := H.ids o ho; omega
    · have : o = ⟨y, fs⟩ := by simpa using ho
      subst this; simp only; omega
  · intro o ho
    rcases List.mem_append.1 ho with ho | ho
    · exact H.fields o ho
    · have : o = ⟨y, fs⟩ := by simpa using ho
      subst this; exact ⟨hf, hv⟩
  · rw [List.map_append, List.nodup_append]
    refine ⟨H.nodup, by simp, ?_⟩
    intro a ha b hb he
    obtain ⟨o, ho, rfl⟩ := List.mem_map.1 ha
    have : b = y := by simpa using hb
    have := H.ids o ho
    omega
theorem HUp.ok {z : Int} {k : Nat} {h : List Ob} (H : HUp z k h) (hk : k ≤ 5) (hz : z ≤ 100) : HOk h :=
  ⟨by rw [H.len]; exact hk, fun o ho => by have := H.ids o ho; omega, H.fields, H.nodup⟩

theorem own_cap {w : World} {base : Nat} {e : TypeId} {size : Nat} {A : Option Addr} {n c : Nat} {xs : List Value} (h : w.ownsRow base e size (.slice A n c) n xs) : n ≤ c := by
  rcases h.2 with ⟨hv, h0⟩ | ⟨g, cap, cur, hv, _, _, hc, _⟩
  · omega
  · injection hv with _ _ hv
    omega

theorem own_base {w : World} {base : Nat} {e : TypeId} {size : Nat} {A : Option Addr} {n c : Nat} {xs : List Value} (h : w.ownsRow base e size (.slice A n c) n xs) {b off : Nat} (hb : A = some ⟨b, off, none⟩) : base ≤ b := by
  subst hb
  rcases h.2 with ⟨hv, h0⟩ | ⟨g, cap, cur, hv, hg, _⟩
  · cases hv
  · injection hv with hv
    injection hv with hv
    injection hv with hv _ _
    omega

set_option maxHeartbeats 2000000 in
theorem heap_any (B g : Nat) (w : World) (hd : Dice w B g) (hB : B ≤ w.heap.size) :
    Calls Try.prog 8 #[.pointer (some ⟨g, 0, none⟩)] w fun e w' => ∃ (A : Option Addr) (c : Nat) (rs : List Rw), e = .returned (.agg #[.slice A rs.length c]) ∧ rs.length ≤ c ∧ Os w' A rs ∧ Rok w' rs ∧ HOk (obs rs) ∧ Dice w' B g ∧ Gr [g] w w' ∧ (∀ b off, A = some ⟨b, off, none⟩ → w.heap.size ≤ b) := by
  obtain ⟨i0, hi0, hz0, hz1, hz2⟩ := info_parts Try.infoVl
  obtain ⟨i1, hi1, hy0, hy1, hy2⟩ := info_parts Try.infoOb
  have hgB := hd.ltB
  have hb1 : Bk ((w.alloc (.cells #[.slice none 0 0] 28)).alloc (.cells #[.slice none 0 0] 28)) w.heap.size 28 #[.slice none 0 0] := (Bk.new w _ _).alloc _
  have hb2 : Bk ((w.alloc (.cells #[.slice none 0 0] 28)).alloc (.cells #[.slice none 0 0] 28)) (w.heap.size + 1) 28 #[.slice none 0 0] := by simpa using Bk.new (w.alloc (.cells #[.slice none 0 0] 28)) 28 #[.slice none 0 0]
  have hgr1 : Gr [g] w ((w.alloc (.cells #[.slice none 0 0] 28)).alloc (.cells #[.slice none 0 0] 28)) := ((Gr.refl [g] w).alloc _).alloc _
  have hd1 := hd.gr0 (((Gr.refl [] w).alloc (.cells #[.slice none 0 0] 28)).alloc (.cells #[.slice none 0 0] 28))
  go_enter Try.func8, Try.ntmps8
  go_wp2_with fail
  go_at_call 18
  refine (pick_any B g 6 _ hd1 (by omega) (by omega)).mono ?_
  rintro e w1 ⟨r, rfl, hr0, hr1, hd2, hg2⟩
  obtain ⟨N, rfl⟩ : ∃ N : Nat, r = N := ⟨r.toNat, by omega⟩
  have hc1 := hb1.gr hg2 (by simp; omega)
  have hc2 := hb2.gr hg2 (by simp; omega)
  have hgr2 := hgr1.trans hg2
  have hsz : w.heap.size + 2 ≤ w1.heap.size := by have := hg2.size; simp at this; omega
  clear hd1 hb1 hb2 hgr1 hg2 hd
  generalize hWE : w.heap.size = W0 at *
  have hWW := Lib.hid hWE
  clear hWE
  go_wp2
  go_loopw [4, 6] (fun zv i w' => ∃ (k : Nat) (z : Int) (A' : Option Addr) (c' : Nat) (rs : List Rw), k ≤ N ∧ zv = .int .i64 z ∧ i = .int .i64 k ∧ 0 ≤ z ∧ z ≤ 3 * k ∧ Bk w' W0 28 #[.slice none 0 0] ∧ Bk w' (W0 + 1) 28 #[.slice A' k c'] ∧ w'.ownsRow w1.heap.size 43 2 (.slice A' k c') k (rcells rs) ∧ Rok w' rs ∧ HUp z k (obs rs) ∧ Dice w' B g ∧ Gr [g, W0 + 1] w1 w') (fun _ i _ => N - (intOf i).toNat)
  case atStart => exact ⟨0, 0, none, 0, [], Nat.zero_le _, rfl, rfl, by omega, by omega, hc1, hc2, own_nil _ _ _ _, by intro r hr; simp at hr, ⟨rfl, by simp [obs], by simp [obs], by simp [obs]⟩, hd2, Gr.refl _ _⟩
  case round =>
    obtain ⟨k, z, A1, c1, rs, hk, rfl, rfl, hz0', hz3, hcr1, hcr2, hownr, hrokr, hup, hdr, hgR⟩ := hrel
    by_cases hkN : k < N
    · have hwr : w1.heap.size ≤ wr.heap.size := hgR.size
      go_wp2_with fail
      go_at_call 18
      refine (pick_any B g 3 _ hdr (by omega) (by omega)).mono ?_
      rintro e w2 ⟨p, rfl, hp0, hp1, hd3, hg3⟩
      have e1 : IntKind.i64.wrap (1 + p) = 1 + p := IntWalk.i64_in _ (by omega)
      have e2 : IntKind.i64.wrap (z + (1 + p)) = z + (1 + p) := IntWalk.i64_in _ (by omega)
      have hd4 := hd3.gr0 ((Gr.refl [] w2).alloc (.cells #[.int .i64 (z + (1 + p)), .slice none 0 0] 43))
      have hg4 : Gr [g] wr (w2.alloc (.cells #[.int .i64 (z + (1 + p)), .slice none 0 0] 43)) := hg3.alloc _
      have hbF := Bk.new w2 43 #[.int .i64 (z + (1 + p)), .slice none 0 0]
      have hw2 : wr.heap.size ≤ w2.heap.size := hg3.size
      have hgO : g ≠ w2.heap.size := by omega
      clear hd3 hg3
      go_wp2_with fail
      go_at_call 18
      refine (pick_any B g 4 _ hd4 (by omega) (by omega)).mono ?_
      rintro e w3 ⟨q, rfl, hq0, hq1, hd5, hg5⟩
      obtain ⟨K, rfl⟩ : ∃ K : Nat, q = K := ⟨q.toNat, by omega⟩
      have hbF3 := hbF.gr hg5 (by simpa using hgO.symm)
      have hg6 := hg4.trans hg5
      have hwo3 := hg6.size
      clear hd4 hg4 hbF
      have hOB : w2.heap.size < w3.heap.size := hbF3.lt
      generalize w2.heap.size = OB at *
      have HZ := Lib.hid (show z < z + (1 + p) ∧ 1 ≤ z + (1 + p) ∧ z + (1 + p) ≤ 3 * k + 3 by omega)
      generalize z + (1 + p) = y at *
      clear e2 e1 hp0 hp1 hg5
      have hBw3 : B ≤ w3.heap.size := by omega
      go_wp2
      obtain ⟨wo, rfl⟩ : ∃ x, x = wr := ⟨wr, rfl⟩
      go_loopw [8] (fun cv w' => ∃ (j : Nat) (F : Option Addr) (f : Nat) (vs : List Vl), j ≤ K ∧ cv = .int .i64 ((K : Int) - j) ∧ vs.length = j ∧ (∀ v ∈ vs, VOk v) ∧ Bk w' OB 43 #[.int .i64 y, .slice F j f] ∧ w'.ownsRow w3.heap.size 31 2 (.slice F j f) j (vcells vs) ∧ Dice w' B g ∧ Gr [g] wo w' ∧ w3.heap.size ≤ w'.heap.size) (fun cv _ => (intOf cv).toNat)
      case atStart => exact ⟨0, none, 0, [], Nat.zero_le _, by go_num, rfl, by simp, hbF3, own_nil _ _ _ _, hd5, hg6, Nat.le_refl _⟩
      case round =>
        obtain ⟨j, F, f, vs, hj, rfl, hvl, hvok, hbFr, hownv, hdq, hgq, hsq⟩ := hrel
        have HVL := Lib.hid hvl
        clear hvl
        by_cases hjK : j < K
        · have hF0 := hbFr.cell 0
          have hF1 := hbFr.cell 1
          have hBq : B ≤ wr.heap.size := by omega
          have hdD := hdq.gr0 (Gr.refl [] wr).drew
          obtain ⟨dcs, hdb⟩ := hdq.bk
          go_wp2_with fail
          go_region_law (first | (refine step_app rfl (.tmp 30) (.tmp 33) 33 rfl w3.heap.size 31 i0 _ 2 16 Try.underlying33 hi0 hz0 hz1 hz2 rfl (by decide) (by decide) F j f (vcells vs) rfl hownA _ 1 1 _ rfl hslA (vcells_one _) (by omega) hbsA ?_; intro F2 f2 w5 hown5 happ5; have hbF5 := happ5.bk hbFA (by decide); have hz5 := hbF5.frozen 1; have hx5 := hbF5.cell 1) | (go_simp; go_at_call 9; refine (value_any B g _ hdD hBq).mono ?_; rintro e w4 ⟨v, rfl, hvo, hd6, hg7⟩; obtain ⟨vr, vn⟩ := v; have hg8 : Gr [g] wr w4 := (Gr.refl [g] wr).drew.trans hg7; have hbF4 := hbFr.gr hg8 (by simpa using hgO.symm); have hF4 := hbF4.cell 1; have hbFA := hbF4.alloc (.cells #[.bool vr, .int .i64 vn] 31); have hFA := hbFA.cell 1; have hownA := own_gr0 (own_gr1 hownv hdb (by decide) hg8) ((Gr.refl [] w4).alloc (.cells #[.bool vr, .int .i64 vn] 31)); have hslA := bk_vs (v := ⟨vr, vn⟩) (Bk.new w4 31 #[.bool vr, .int .i64 vn]); have hbsA : w3.heap.size ≤ (w4.alloc (.cells #[.bool vr, .int .i64 vn] 31)).heap.size := Nat.le_trans hsq (hg8.alloc _).size))
          all_goals
            go_wp2
            go_roundw
            case rel =>
              have hGO := (Gr.refl [OB] w5).setCell (p := ⟨OB, 1, none⟩) (.inl (by simp)) (.slice F2 (j + 1) f2)
              have hd7 : Dice w5 B g := (hd6.gr0 ((Gr.refl [] w4).alloc (.cells #[.bool vr, .int .i64 vn] 31))).app happ5 hBw3
              have hg9 : Gr [g] wo w5 := happ5.gr [g] wo (by omega) (hgq.trans (hg8.alloc _))
              refine ⟨j + 1, F2, f2, vs ++ [⟨vr, vn⟩], by omega, by go_num, by rw [List.length_append, HVL.out]; rfl, ?_, hbF5.set_ 1 _, ?_, ?_, ?_, ?_⟩
              · intro v hv
                rcases List.mem_append.1 hv with hv | hv
                · exact hvok v hv
                · have : v = ⟨vr, vn⟩ := by simpa using hv
                  subst this; exact hvo
              · rw [vcells_append]
                exact own_gr1 hown5 hbF5 (by decide) hGO
              · exact hd7.far hGO (by simp; omega)
              · exact hg9.setCell (.inr (by simp; omega)) _
              · have h1 := Nat.le_trans hbsA happ5.size
                have h2 := hGO.size
                omega
            case measure => simp [intOf]; omega
        · have hjk : j = K := by omega
          subst hjk
          obtain ⟨dcs, hdb⟩ := hdr.bk
          have hcA2 := hcr2.gr hgq (by simp; omega)
          have hcA1 := hcr1.gr hgq (by simp; omega)
          have hown4 := own_gr1 hownr hdb (by decide) hgq
          have hrok4 := hrokr.gr1 hdb (by decide) hgq
          have hH0 := hcA2.cell 0
          obtain ⟨hF0, hF1⟩ := hbFr.cells2
          have hcB2 := hcA2.alloc (.cells #[.int .i64 y, .slice F j f] 43)
          have hG0 := hcB2.cell 0
          have hownA := own_gr0 hown4 ((Gr.refl [] wr).alloc (.cells #[.int .i64 y, .slice F j f] 43))
          have hslA := bk_os' (fs := vs) (Bk.new wr 43 #[.int .i64 y, .slice F j f]) HVL.out
          have hbsA : w1.heap.size ≤ (wr.alloc (.cells #[.int .i64 y, .slice F j f] 43)).heap.size := by simp; omega
          go_wp2_with (at_builtin; refine wpList_app _ rfl (.tmp 37) (.tmp 39) 26 rfl w1.heap.size 43 i1 _ 2 32 Try.underlying26 hi1 hy0 hy1 hy2 rfl (by decide) (by decide) A1 k c1 (rcells rs) rfl hownA _ 1 1 _ rfl hslA (rcells_one _) (by omega) hbsA ?_; intro A2 c2 w5 hown5 happ5; have hcB5 := happ5.bk hcB2 (by decide); have hz5 := hcB5.frozen 0; have hx5 := hcB5.cell 0)
          go_roundw
          case rel =>
            have hGO := (Gr.refl [W0 + 1] w5).setCell (p := ⟨W0 + 1, 0, none⟩) (.inl (by simp)) (.slice A2 (k + 1) c2)
            have hg9 : Gr [g, W0 + 1] w1 w5 := happ5.gr _ _ (Nat.le_refl _) (hgR.trans ((hgq.alloc _).mono (by simp)))
            have hd7 : Dice w5 B g := (hdq.gr0 ((Gr.refl [] wr).alloc (.cells #[.int .i64 y, .slice F j f] 43))).app happ5 (by omega)
            refine ⟨k + 1, y, A2, c2, rs ++ [⟨⟨y, vs⟩, F, f⟩], by omega, rfl, by go_num, by have := HZ.out; omega, by have := HZ.out; omega, ?_, hcB5.set_ 0 _, ?_, ?_, ?_, ?_, hg9.setCell (.inl (by simp)) _⟩
            · exact (happ5.bk (hcA1.alloc _) (by decide)).gr hGO (by simp)
            · rw [rcells_append]
              exact own_gr1 hown5 hcB5 (by decide) hGO
            · have hrA : Rok w5 (rs ++ [⟨⟨y, vs⟩, F, f⟩]) := by
                intro r hr
                rcases List.mem_append.1 hr with hr | hr
                · have := hrok4.alloc (.cells #[.int .i64 y, .slice F j f] 43) r hr
                  exact ⟨happ5.sl this.1 (by decide), this.2⟩
                · have hr : r = ⟨⟨y, vs⟩, F, f⟩ := by simpa using hr
                  subst hr
                  refine ⟨happ5.sl ?_ (by decide), VOk.vw hvok, by simp only [HVL.out]; omega, ?_⟩
                  · have := (Sl.of_own hownv).alloc (.cells #[.int .i64 y, .slice F j f] 43)
                    show Sl _ _ _ _ vs.length _
                    rw [HVL.out]
                    exact this
                  · have := HZ.out; exact WalkArith.wf_i64 (by simp only; omega)
              exact hrA.gr1 hcB5 (by decide) hGO
            · have hz := HZ.out
              have : obs (rs ++ [⟨⟨y, vs⟩, F, f⟩]) = obs rs ++ [⟨y, vs⟩] := by simp [obs]
              rw [this]
              exact hup.add hz.1 hz.2.1 (by rw [HVL.out]; omega) hvok
            · exact hd7.far hGO (by simp; omega)
          case measure => simp [intOf]; omega
    · have hkn : k = N := by omega
      subst hkn
      have hH0 := hcr2.cell 0
      have hf0 := hcr1.frozen 0
      have hr0 := hcr1.cell 0
      go_wp2
      have hb5 := hcr1.set_ 0 (.slice A1 k c1)
      have hLN := hup.len
      have hln : rs.length = k := by simpa [obs] using hLN
      have hGO := (Gr.refl [W0] wr).setCell (p := ⟨W0, 0, none⟩) (.inl (by simp)) (.slice A1 k c1)
      refine bodyPost_ret (results_cell_row rfl _ _ _ _ _ _ _ rfl hb5 Try.underlying28 rfl (by kernel_rfl)) rfl ⟨A1, c1, rs, by rw [hln]; rfl, by rw [hln]; exact own_cap hownr, ?_, hrokr.gr1 hcr1 (by decide) hGO, hup.ok (by omega) (by omega), hdr.far hGO (by simp; omega), ?_, ?_⟩
      · unfold Os
        rw [hln]
        exact Sl.gr1 (Sl.of_own hownr) hcr1 (by decide) hGO
      · exact (hgr2.trans_new hgR (by rw [hWW.out]; simp)).setCell (.inr (by rw [hWW.out]; simp)) _
      · intro b off hb
        have := own_base hownr hb
        rw [hWW.out]; omega
end Go.Proofs.Ytldabchaflnmdaa
