/- The reference heap's Put. -/
import Derived.Test.YtldabchaflnmdaaAt
namespace Go.Proofs.Ytldabchaflnmdaa
open Go.RowKit

theorem hlow_lt {h : List Ob} {id : Int} {k : Nat} (hk : k < h.length) (hlt : h[k].id < id) : hlow (h.drop k) id = hlow (h.drop (k + 1)) id + 1 := by
  rw [List.drop_eq_getElem_cons hk]; simp [hlow, hlt]
theorem hlow_ge {h : List Ob} {id : Int} {k : Nat} (hk : k < h.length) (hlt : ¬ h[k].id < id) : hlow (h.drop k) id = 0 := by
  rw [List.drop_eq_getElem_cons hk]; simp [hlow, hlt]
theorem hlow_end {h : List Ob} {id : Int} {k : Nat} (hk : h.length ≤ k) : hlow (h.drop k) id = 0 := by
  rw [List.drop_eq_nil_of_le hk]; rfl
theorem pair_take {α : Type} (f : α → List Value) (hf : ∀ a, (f a).length = 2) (l : List α) (k : Nat) : (l.take k).flatMap f = (l.flatMap f).take (k * 2) := by
  induction l generalizing k with
  | nil => simp
  | cons x l ih =>
    cases k with
    | zero => simp
    | succ k =>
      rw [List.take_succ_cons, List.flatMap_cons, List.flatMap_cons, ih, List.take_append, hf, List.take_of_length_le (l := f x) (by rw [hf]; omega), show (k + 1) * 2 - 2 = k * 2 by omega]
theorem Os.take {w : World} {A : Option Addr} {l : List Rw} (h : Os w A l) {k : Nat} (hk : k ≤ l.length) : Sl w 43 2 A k (rcells (l.take k)) := by
  refine ⟨by rw [rcells_len, List.length_take]; omega, fun h0 => ?_⟩
  obtain ⟨b, off, cs, fz, hA, hb, hc⟩ := h.2 (by omega)
  refine ⟨b, off, cs, fz, hA, hb, fun j u hu => hc j u ?_⟩
  unfold rcells at hu
  rw [pair_take Rw.E (fun _ => rfl), List.getElem?_take] at hu
  split at hu
  · exact hu
  · cases hu
theorem Os.drop {w : World} {A : Option Addr} {l : List Rw} (h : Os w A l) {k : Nat} (hk : k ≤ l.length) (q : Nat) (hq : l.length ≤ q) : Sl w 43 2 (if q = k then A else A.map (·.add (k * 2))) (l.length - k) (rcells (l.drop k)) := by
  refine ⟨by rw [rcells_len, List.length_drop], fun h0 => ?_⟩
  obtain ⟨b, off, cs, fz, hA, hb, hc⟩ := h.2 (by omega)
  subst hA
  rw [if_neg (by omega)]
  refine ⟨b, off + k * 2, cs, fz, by simp [addr_lit], hb, fun j u hu => ?_⟩
  rw [Nat.add_assoc]
  refine hc _ u ?_
  have hj : j < (l.length - k) * 2 := by
    rcases Nat.lt_or_ge j ((l.length - k) * 2) with h | h
    · exact h
    · rw [List.getElem?_eq_none (by rw [rcells_len, List.length_drop]; exact h)] at hu; cases hu
  have e1 := pair_get Rw.E (fun _ => rfl) (l.drop k) (j / 2) (j % 2) (by rw [List.length_drop]; omega) (Nat.mod_lt _ (by omega))
  have e2 := pair_get Rw.E (fun _ => rfl) l (k + j / 2) (j % 2) (by omega) (Nat.mod_lt _ (by omega))
  rw [show j / 2 * 2 + j % 2 = j by omega] at e1
  rw [show (k + j / 2) * 2 + j % 2 = k * 2 + j by omega] at e2
  unfold rcells at hu ⊢
  rw [e2, ← hu, e1, List.getElem_drop]
def rput (l : List Rw) (k m : Nat) (r : Rw) : List Rw := l.take k ++ [r] ++ l.drop m
theorem obs_put (l : List Rw) (k m : Nat) (r : Rw) : obs (rput l k m r) = (obs l).take k ++ [r.o] ++ (obs l).drop m := by
  simp [rput, obs, List.map_take, List.map_drop]

theorem App.bk_low {base : Nat} {e t : TypeId} {w w' : World} {g : Nat} {cs : Array Value} (h : App base e w w') (hb : Bk w g t cs) (hlt : g < base) : Bk w' g t cs := h.keep _ _ hb (.inl hlt)

theorem rput_len {h : List Rw} {k m : Nat} {r : Rw} (hm : m ≤ h.length) (hk : k ≤ h.length) : (rput h k m r).length = k + 1 + (h.length - m) := by
  simp [rput]; omega
theorem rok_put {w : World} {h : List Rw} {k m : Nat} {id : Int} {fs : List Vl} {A : Option Addr} {c : Nat} (hR : Rok w h) (hv : Vs w A fs) (hV : VW fs) (hn : fs.length ≤ 1000000) (hi : wf64 id) : Rok w (rput h k m ⟨⟨id, fs⟩, A, c⟩) := by
  intro r hr
  unfold rput at hr
  rcases List.mem_append.1 hr with hr | hr
  · rcases List.mem_append.1 hr with hr | hr
    · exact hR r (List.mem_of_mem_take hr)
    · have : r = ⟨⟨id, fs⟩, A, c⟩ := by simpa using hr
      subst this
      exact ⟨hv, hV, hn, hi⟩
  · exact hR r (List.mem_of_mem_drop hr)
theorem App.rok {base : Nat} {w w' : World} {l : List Rw} (h : App base 43 w w') (hR : Rok w l) : Rok w' l := fun r hr => ⟨h.sl (hR r hr).1 (by decide), (hR r hr).2⟩

set_option maxHeartbeats 2000000 in
theorem put_any {e' : TypeId} (hA : Option Addr) (hc : Nat) (h : List Rw) (id : Int) (A : Option Addr) (c : Nat) (fs : List Vl) (w : World) (hOs : Os w hA h) (hR : Rok w h) (hcap : h.length ≤ hc)
    (hv : Sl w e' 2 A fs.length (vcells fs)) (hV : VW fs) (hi : wf64 id) (hn1 : fs.length ≤ 1000000) (hn2 : h.length ≤ 999999) :
    Calls Try.prog 15 #[.agg #[.slice hA h.length hc], .agg #[.int .i64 id, .slice A fs.length c]] w fun e w' => ∃ (A' : Option Addr) (c' : Nat) (rs : List Rw),
      e = .returned (.agg #[.slice A' rs.length c']) ∧ rs.length ≤ c' ∧ Os w' A' rs ∧ Rok w' rs ∧ obs rs = hput (obs h) ⟨id, fs⟩ ∧ Gr [] w w' := by
  obtain ⟨i1, hi1, hy0, hy1, hy2⟩ := info_parts Try.infoOb
  have hG4 : Gr [] w ((((w.alloc (.cells #[.slice hA h.length hc] 28)).alloc (.cells #[.int .i64 id, .slice A fs.length c] 43)).alloc (.cells #[.slice none 0 0] 28)).alloc (.cells #[.slice none 0 0] 28)) := ((((Gr.refl [] w).alloc _).alloc _).alloc _).alloc _
  have hA0 : Bk ((((w.alloc (.cells #[.slice hA h.length hc] 28)).alloc (.cells #[.int .i64 id, .slice A fs.length c] 43)).alloc (.cells #[.slice none 0 0] 28)).alloc (.cells #[.slice none 0 0] 28)) w.heap.size 28 #[.slice hA h.length hc] := (((Bk.new w _ _).alloc _).alloc _).alloc _
  have hA1 : Bk ((((w.alloc (.cells #[.slice hA h.length hc] 28)).alloc (.cells #[.int .i64 id, .slice A fs.length c] 43)).alloc (.cells #[.slice none 0 0] 28)).alloc (.cells #[.slice none 0 0] 28)) (w.heap.size + 1) 43 #[.int .i64 id, .slice A fs.length c] := by simpa using ((Bk.new (w.alloc (.cells #[.slice hA h.length hc] 28)) 43 #[.int .i64 id, .slice A fs.length c]).alloc (.cells #[.slice none 0 0] 28)).alloc (.cells #[.slice none 0 0] 28)
  have hA2 : Bk ((((w.alloc (.cells #[.slice hA h.length hc] 28)).alloc (.cells #[.int .i64 id, .slice A fs.length c] 43)).alloc (.cells #[.slice none 0 0] 28)).alloc (.cells #[.slice none 0 0] 28)) (w.heap.size + 2) 28 #[.slice none 0 0] := by simpa using (Bk.new ((w.alloc (.cells #[.slice hA h.length hc] 28)).alloc (.cells #[.int .i64 id, .slice A fs.length c] 43)) 28 #[.slice none 0 0]).alloc (.cells #[.slice none 0 0] 28)
  have hA3 : Bk ((((w.alloc (.cells #[.slice hA h.length hc] 28)).alloc (.cells #[.int .i64 id, .slice A fs.length c] 43)).alloc (.cells #[.slice none 0 0] 28)).alloc (.cells #[.slice none 0 0] 28)) (w.heap.size + 3) 28 #[.slice none 0 0] := by simpa using Bk.new (((w.alloc (.cells #[.slice hA h.length hc] 28)).alloc (.cells #[.int .i64 id, .slice A fs.length c] 43)).alloc (.cells #[.slice none 0 0] 28)) 28 #[.slice none 0 0]
  have h0 := hA0.cell 0
  obtain ⟨h1, h2⟩ := hA1.cells2
  go_enter Try.func15, Try.ntmps15
  go_wp2_with fail
  go_at_call 22
  refine (at_any hA hc h id _ (hOs.gr0 hG4) (by omega)).mono ?_
  rintro e w1 ⟨rfl, hg1⟩
  have hg2 := hG4.trans hg1
  have hB0 := hA0.gr hg1 (by simp)
  have hB1 := hA1.gr hg1 (by simp)
  have hB2 := hA2.gr hg1 (by simp)
  have hB3 := hA3.gr hg1 (by simp)
  have hsz := hB3.lt
  clear hG4 hA0 hA1 hA2 hA3 h0 h1 h2 hg1
  have HX := Lib.hid (show -1 ≤ hidx (obs h) id ∧ hidx (obs h) id < h.length by have := ixFrom_bd (fun o : Ob => o.id == id) (obs h) 0; simp [obs] at this; unfold hidx; simpa [obs] using this)
  have hWE : w.heap.size = w.heap.size := rfl
  generalize hXI : hidx (obs h) id = X at *
  have HXI := Lib.hid hXI
  clear hXI
  have HO0 := Lib.hid (show (obs h).length = h.length by simp [obs])
  go_upto_if 14 with fail
  go_cut [7] (fun y wx => ∃ k : Nat, y = .int .i64 k ∧ k ≤ h.length ∧ ((0 ≤ X ∧ X = k) ∨ (X < 0 ∧ k = hlow (obs h) id)) ∧ Gr [] w1 wx)
  case first =>
    obtain ⟨hx1, hx2⟩ := HX.out
    by_cases hneg : X < 0
    · obtain rfl : X = -1 := by omega
      have HN := Lib.hid hneg
      clear hneg hx1 hx2
      have HL := Lib.hid (show hlow (obs h) id = 0 + hlow ((obs h).drop 0) id by simp)
      go_wp2_with fail
      go_loopw [7] (fun y w' => ∃ k : Nat, y = .int .i64 k ∧ k ≤ h.length ∧ hlow (obs h) id = k + hlow ((obs h).drop k) id ∧ Gr [] w1 w') (fun y _ => h.length - (intOf y).toNat)
      case atStart => exact ⟨0, rfl, Nat.zero_le _, HL.out, Gr.refl _ _⟩
      case round =>
        obtain ⟨k, rfl, hk, hlo, hgr⟩ := hrel
        have HLo := Lib.hid hlo
        clear hlo
        have hC0 := (hB0.gr hgr (by simp)).cell 0
        obtain ⟨hD0, hD1⟩ := (hB1.gr hgr (by simp)).cells2
        by_cases hlt : k < h.length
        · obtain ⟨b, off, rfl, ha0, ha1⟩ := (hOs.gr0 (hg2.trans hgr)).at_ hlt
          have HO := Lib.hid (show (obs h)[k]'(by rw [HO0.out]; exact hlt) = h[k].o by simp [obs])
          by_cases hid : h[k].o.id < id
          · have HS := Lib.hid (hlow_lt (h := obs h) (id := id) (k := k) (by rw [HO0.out]; exact hlt) (by rw [HO.out]; exact hid))
            have hid' : decide (h[k].o.id < id) = true := by simpa using hid
            clear hid HO
            generalize h[k] = r at *
            obtain ⟨⟨oid, ofs⟩, gA, gc⟩ := r
            simp only at ha0 ha1 hid'
            have e2 : (k : Int) < (h.length : Int) := by omega
            go_wp2_with fail
            go_quiet (fail)
            go_wp2
            go_roundw
            case rel => exact ⟨k + 1, by go_num, by omega, by rw [HLo.out, HS.out]; omega, hgr.drewN _⟩
            case measure => simp [intOf]; omega
          · have HS := Lib.hid (hlow_ge (h := obs h) (id := id) (k := k) (by rw [HO0.out]; exact hlt) (by rw [HO.out]; exact hid))
            have hid' : decide (h[k].o.id < id) = false := by simpa using hid
            clear hid HO
            generalize h[k] = r at *
            obtain ⟨⟨oid, ofs⟩, gA, gc⟩ := r
            simp only at ha0 ha1 hid'
            have e2 : (k : Int) < (h.length : Int) := by omega
            go_wp2_with fail
            go_quiet (fail)
            go_wp2
            go_meet
            exact ⟨k, rfl, hk, .inr ⟨HN.out, by rw [HLo.out, HS.out]; omega⟩, hgr.drewN _⟩
        · have HS := Lib.hid (hlow_end (h := obs h) (id := id) (k := k) (by rw [HO0.out]; omega))
          have e2 : ¬ (k : Int) < (h.length : Int) := by omega
          go_wp2_with fail
          go_quiet (fail)
          go_wp2
          go_meet
          exact ⟨k, rfl, hk, .inr ⟨HN.out, by rw [HLo.out, HS.out]; omega⟩, hgr.drewN _⟩
    · obtain ⟨x, rfl⟩ : ∃ x : Nat, X = x := ⟨X.toNat, by omega⟩
      rw [show decide ((x : Int) < 0) = false by simp]
      clear hneg
      go_wp2_with fail
      go_meet
      have := HX.out
      exact ⟨x, rfl, by omega, .inl ⟨by omega, rfl⟩, Gr.refl _ _⟩
  case rest =>
    obtain ⟨k, rfl, hk, hXk, hgr⟩ := hcut
    have HK := Lib.hid hXk
    clear hXk
    have hg3 := hg2.trans hgr
    have hC0 := hB0.gr hgr (by simp)
    have hC1 := hB1.gr hgr (by simp)
    have hC2 := hB2.gr hgr (by simp)
    have hC3 := hB3.gr hgr (by simp)
    have hsz2 := hgr.size
    clear hB0 hB1 hB2 hB3 hgr
    obtain ⟨hu0, hu1⟩ := hC1.cells2
    have hu2 := hC0.cell 0
    have hu3 := hC3.cell 0
    have e1 : (k : Int) ≤ (hc : Int) := by omega
    have e0 : (0 : Int) ≤ (k : Int) := by omega
    obtain ⟨wk, rfl⟩ : ∃ x, x = wc := ⟨wc, rfl⟩
    have hlt1 : w.heap.size + 1 < wk.heap.size := by omega
    have hslT := Os.take (hOs.gr0 hg3.drew) hk
    have hvD := hv.gr0 hg3.drew
    have hownN := own_nil wk.drew wk.heap.size 43 2
    have hbs0 : wk.heap.size ≤ wk.drew.heap.size := Nat.le_refl _
    go_upto_region 8 with fail
    go_cut [] (fun wx => ∃ (A5 : Option Addr) (c5 : Nat) (A4 : Option Addr) (c4 : Nat), Bk wx w.heap.size 28 #[.slice hA h.length hc] ∧ Bk wx (w.heap.size + 2) 28 #[.slice none 0 0] ∧ Bk wx (w.heap.size + 3) 28 #[.slice A5 (k + 1) c5] ∧ wx.ownsRow wk.heap.size 43 2 (.slice A5 (k + 1) c5) (k + 1) (rcells (h.take k ++ [⟨⟨id, fs⟩, A4, c4⟩])) ∧ Vs wx A4 fs ∧ wk.heap.size ≤ wx.heap.size ∧ Gr [] w wx)
    case first =>
      go_region_law (first | (refine step_app rfl (.tmp 34) (.tmp 38) 26 rfl wk.heap.size 43 i1 _ 2 32 Try.underlying26 hi1 hy0 hy1 hy2 rfl (by decide) (by decide) none 0 0 [] rfl hownN hA k hc _ rfl hslT (rcells_one _) (by omega) hbs0 ?_; intro A2 c2 w3 hown3 happ3; simp only [Nat.zero_add, List.nil_append] at hown3; have hC0_3 := happ3.bk hC0 (by decide); have hC2_3 := happ3.bk hC2 (by decide); have hC3_3 := happ3.bk hC3 (by decide); have hC1_3 := happ3.bk_low hC1.drew hlt1; obtain ⟨hq0, hq1⟩ := hC1_3.cells2; have hv3 := hv.gr0 (happ3.gr [] w hg3.size hg3.drew)) | (go_simp; go_at_call 23; refine (object_any ⟨id, fs⟩ A c _ hv3 hn1).mono ?_; rintro e w4 ⟨A4, c4, rfl, hv4, hg4⟩; have hgA := hg4.alloc (.cells #[.int .i64 id, .slice A4 fs.length c4] 43); have hC0_4 := hC0_3.gr hgA (by simp); have hC2_4 := hC2_3.gr hgA (by simp); have hC3_4 := hC3_3.gr hgA (by simp); have hownA := own_gr0 hown3 hgA; have hslA := bk_os' (fs := fs) (Bk.new w4 43 #[.int .i64 id, .slice A4 fs.length c4]) rfl; have hbsA := Nat.le_trans (Nat.le_trans hbs0 happ3.size) hgA.size) | (refine step_app rfl (.tmp 39) (.tmp 42) 26 rfl wk.heap.size 43 i1 _ 2 32 Try.underlying26 hi1 hy0 hy1 hy2 rfl (by decide) (by decide) A2 k c2 _ rfl hownA _ 1 1 _ rfl hslA (rcells_one _) (by omega) hbsA ?_; intro A5 c5 w5 hown5 happ5; have hC0_5 := happ5.bk hC0_4 (by decide); have hC2_5 := happ5.bk hC2_4 (by decide); have hC3_5 := happ5.bk hC3_4 (by decide); have hf5 := hC3_5.frozen 0; have hx5 := hC3_5.cell 0))
      all_goals
        go_wp2
        go_meet
        have hGO := (Gr.refl [w.heap.size + 3] w5).setCell (p := ⟨w.heap.size + 3, 0, none⟩) (.inl (by simp)) (.slice A5 (k + 1) c5)
        refine ⟨A5, c5, A4, c4, hC0_5.gr hGO (by simp), hC2_5.gr hGO (by simp), hC3_5.set_ 0 _, ?_, ?_, Nat.le_trans (Nat.le_trans hbsA happ5.size) hGO.size, ?_⟩
        · rw [rcells_append]
          exact own_gr1 hown5 hC3_5 (by decide) hGO
        · exact Sl.gr1 (happ5.sl (hv4.alloc (.cells #[.int .i64 id, .slice A4 fs.length c4] 43)) (by decide)) hC3_5 (by decide) hGO
        · exact (happ5.gr [] w hg3.size ((happ3.gr [] w hg3.size hg3.drew).trans hgA)).setCell (.inr (show w.heap.size ≤ w.heap.size + 3 by omega)) _
    case rest =>
      obtain ⟨A5, c5, A4, c4, hD0, hD2, hD3, hownD, hvD4, hszk, hgD⟩ := hcut
      have hu2 := hD0.cell 0
      have hu3 := hD3.cell 0
      have hszD := hgD.size
      obtain ⟨hh, rfl⟩ : ∃ x, x = h := ⟨h, rfl⟩
      have hRD := hR.gr0 hgD.drew
      clear hvD hownN hbs0 hslT
      rcases HK.out with ⟨hx0, rfl⟩ | ⟨hx0, hkl⟩
      · have hm : k + 1 ≤ hh.length := by have := HX.out; omega
        have em : (k : Int) + 1 ≤ (hh.length : Int) := by omega
        have em0 : (0 : Int) ≤ (k : Int) + 1 := by omega
        clear hx0
        have hslU := Os.drop (hOs.gr0 hgD.drew) hm hc hcap
        have hbsU : wk.heap.size ≤ wc.drew.heap.size := hszk
        have hownU := own_gr0 hownD (Gr.refl [] wc).drew
        have hw32 : w.heap.size + 2 ≠ w.heap.size + 3 := by omega
        go_wp2_with fail
        go_region_law (refine step_app rfl (.tmp 50) (.tmp 54) 26 rfl wk.heap.size 43 i1 _ 2 32 Try.underlying26 hi1 hy0 hy1 hy2 rfl (by decide) (by decide) A5 (k + 1) c5 _ rfl hownU _ (hh.length - (k + 1)) (hc - (k + 1)) _ rfl hslU (rcells_one _) (by omega) hbsU ?_; intro A6 c6 w6 hown6 happ6; have hD2_6 := happ6.bk hD2 (by decide); have hD3_6 := happ6.bk hD3 (by decide); have hf6 := hD3_6.frozen 0; have hx6 := hD3_6.cell 0; have hf7 := hD2_6.frozen 0; have hx7 := hD2_6.cell 0)
        all_goals
          have hNN : k + 1 + (hh.length - (k + 1)) = hh.length := by omega
          rw [hNN] at hown6
          have hPL : (rput hh k (k + 1) ⟨⟨id, fs⟩, A4, c4⟩).length = hh.length := by rw [rput_len hm hk]; exact hNN
          clear hNN
          have HPL := Lib.hid hPL
          clear hPL
          go_wp2
          all_goals
            have hE3 := hD3_6.set_ 0 (.slice A6 hh.length c6)
            have hE2 := hD2_6.far (p := ⟨w.heap.size + 3, 0, none⟩) hw32 (.slice A6 hh.length c6)
            have hF2 := hE2.set_ 0 (.slice A6 hh.length c6)
            have hGA := (Gr.refl [w.heap.size + 3] w6).setCell (p := ⟨w.heap.size + 3, 0, none⟩) (.inl (by simp)) (.slice A6 hh.length c6)
            have hGB := (Gr.refl [w.heap.size + 2] (w6.setCell ⟨w.heap.size + 3, 0, none⟩ (.slice A6 hh.length c6))).setCell (p := ⟨w.heap.size + 2, 0, none⟩) (.inl (by simp)) (.slice A6 hh.length c6)
            have hownZ := own_gr1 (own_gr1 hown6 hD3_6 (by decide) hGA) hE2 (by decide) hGB
            have hRZ : Rok _ (rput hh k (k + 1) ⟨⟨id, fs⟩, A4, c4⟩) := ((rok_put (happ6.rok hRD) (happ6.sl hvD4 (by decide)) hV hn1 hi).gr1 hD3_6 (by decide) hGA).gr1 hE2 (by decide) hGB
            refine bodyPost_ret (results_cell_row rfl _ _ _ _ _ _ _ rfl hF2 Try.underlying28 rfl (by kernel_rfl)) rfl ⟨A6, c6, rput hh k (k + 1) ⟨⟨id, fs⟩, A4, c4⟩, by rw [HPL.out]; rfl, by rw [HPL.out]; exact own_cap hown6, ?_, hRZ, ?_, ?_⟩
            · unfold Os
              rw [HPL.out]
              have := Sl.of_own hownZ
              rw [← rcells_append] at this
              exact this
            · rw [obs_put]
              unfold hput
              rw [HXI.out, if_neg (by omega), Int.toNat_natCast]
            · exact ((happ6.gr [] w hg3.size hgD.drew).setCell (.inr (by simp; omega)) _).setCell (.inr (by simp; omega)) _
      · obtain rfl : X = -1 := by have := HX.out; omega
        have hm : k ≤ hh.length := hk
        have em : (k : Int) ≤ (hh.length : Int) := by omega
        have HKL := Lib.hid hkl
        clear hx0 hkl
        have hslU := Os.drop (hOs.gr0 hgD.drew) hm hc hcap
        have hbsU : wk.heap.size ≤ wc.drew.heap.size := hszk
        have hownU := own_gr0 hownD (Gr.refl [] wc).drew
        have hw32 : w.heap.size + 2 ≠ w.heap.size + 3 := by omega
        go_wp2_with fail
        go_region_law (refine step_app rfl (.tmp 50) (.tmp 54) 26 rfl wk.heap.size 43 i1 _ 2 32 Try.underlying26 hi1 hy0 hy1 hy2 rfl (by decide) (by decide) A5 (k + 1) c5 _ rfl hownU _ (hh.length - (k)) (hc - (k)) _ rfl hslU (rcells_one _) (by omega) hbsU ?_; intro A6 c6 w6 hown6 happ6; have hD2_6 := happ6.bk hD2 (by decide); have hD3_6 := happ6.bk hD3 (by decide); have hf6 := hD3_6.frozen 0; have hx6 := hD3_6.cell 0; have hf7 := hD2_6.frozen 0; have hx7 := hD2_6.cell 0)
        all_goals
          have HPL := Lib.hid (rput_len (r := ⟨⟨id, fs⟩, A4, c4⟩) hm hk)
          go_wp2
          all_goals
            have hE3 := hD3_6.set_ 0 (.slice A6 (k + 1 + (hh.length - (k))) c6)
            have hE2 := hD2_6.far (p := ⟨w.heap.size + 3, 0, none⟩) hw32 (.slice A6 (k + 1 + (hh.length - (k))) c6)
            have hF2 := hE2.set_ 0 (.slice A6 (k + 1 + (hh.length - (k))) c6)
            have hGA := (Gr.refl [w.heap.size + 3] w6).setCell (p := ⟨w.heap.size + 3, 0, none⟩) (.inl (by simp)) (.slice A6 (k + 1 + (hh.length - (k))) c6)
            have hGB := (Gr.refl [w.heap.size + 2] (w6.setCell ⟨w.heap.size + 3, 0, none⟩ (.slice A6 (k + 1 + (hh.length - (k))) c6))).setCell (p := ⟨w.heap.size + 2, 0, none⟩) (.inl (by simp)) (.slice A6 (k + 1 + (hh.length - (k))) c6)
            have hownZ := own_gr1 (own_gr1 hown6 hD3_6 (by decide) hGA) hE2 (by decide) hGB
            have hRZ : Rok _ (rput hh k (k) ⟨⟨id, fs⟩, A4, c4⟩) := ((rok_put (happ6.rok hRD) (happ6.sl hvD4 (by decide)) hV hn1 hi).gr1 hD3_6 (by decide) hGA).gr1 hE2 (by decide) hGB
            refine bodyPost_ret (results_cell_row rfl _ _ _ _ _ _ _ rfl hF2 Try.underlying28 rfl (by kernel_rfl)) rfl ⟨A6, c6, rput hh k (k) ⟨⟨id, fs⟩, A4, c4⟩, by rw [HPL.out]; rfl, by rw [HPL.out]; exact own_cap hown6, ?_, hRZ, ?_, ?_⟩
            · unfold Os
              rw [HPL.out]
              have := Sl.of_own hownZ
              rw [← rcells_append] at this
              exact this
            · rw [obs_put]
              unfold hput
              rw [HXI.out, if_pos (by omega), ← HKL.out]
            · exact ((happ6.gr [] w hg3.size hgD.drew).setCell (.inr (by simp; omega)) _).setCell (.inr (by simp; omega)) _
end Go.Proofs.Ytldabchaflnmdaa
