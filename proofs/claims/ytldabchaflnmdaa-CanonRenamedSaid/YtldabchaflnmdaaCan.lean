/- Canon: the normal form. -/
import Derived.Test.YtldabchaflnmdaaRch
import Derived.WalkArith
namespace Go.Proofs.Ytldabchaflnmdaa
open Go.RowKit

theorem hnum_take {fd : List Ob} {k : Nat} (hk : k < fd.length) : (hnum fd 0 fd).take (k + 1) = (hnum fd 0 fd).take k ++ [⟨(k + 1 : Nat), hren fd fd[k].fs⟩] := by
  rw [List.take_succ_eq_append_getElem (by rw [hnum_length]; exact hk), hnum_get fd 0 fd k hk]; simp
theorem hren_VW {fd : List Ob} {l : List Vl} (h : VW l) (hn : fd.length ≤ 1000000) : VW (hren fd l) := by
  intro v hv
  obtain ⟨u, hu, rfl⟩ := List.mem_map.1 hv
  split
  · have := place_bd fd u.n
    exact WalkArith.wf_i64 (by simp only; omega)
  · exact h u hu

theorem bk_os' {w : World} {g : Nat} {i : Int} {fs : List Vl} {B : Option Addr} {n d : Nat} (h : Bk w g 43 #[.int .i64 i, .slice B n d]) (hn : fs.length = n) : Sl w 43 2 (some ⟨g, 0, none⟩) 1 (rcells [⟨⟨i, fs⟩, B, d⟩]) := by
  subst hn; exact bk_os (r := ⟨⟨i, fs⟩, B, d⟩) h

theorem Rok.gr1 {w w' : World} {l : List Rw} {g : Nat} {t : TypeId} {cs : Array Value} (h : Rok w l) (hk : Bk w g t cs) (hne : 31 ≠ t) (hg : Gr [g] w w') : Rok w' l := fun r hr => ⟨Sl.gr1 (h r hr).1 hk hne hg, (h r hr).2⟩
theorem Fi.gr1 {w w' : World} {base F : Nat} {hA : Option Addr} {hn hc : Nat} {found : List Ob} {g : Nat} {cs : Array Value} (h : Fi w base F hA hn hc found) (hk : Bk w g 28 cs) (hg : Gr [g] w w') : Fi w' base F hA hn hc found := by
  obtain ⟨Mb, A, c, rs, h1, h2, h3, h4, h5, h6, h7⟩ := h
  exact ⟨Mb, A, c, rs, h1.gr hg (by simpa using Bk.ne_ h1 hk (by decide)), h2, h3, h4.one hk hg, own_gr1 h5 hk (by decide) hg, h6.gr1 hk (by decide) hg, h7⟩

set_option maxHeartbeats 2000000 in
theorem canon_any (hA : Option Addr) (hc : Nat) (h : List Rw) (A : Option Addr) (c : Nat) (l : List Vl) (w : World) (hOs : Os w hA h) (hR : Rok w h)
    (hl : Vs w A l) (hV : VW l) (hn1 : l.length ≤ 1000000) (hn2 : h.length ≤ 1000000) :
    Calls Try.prog 10 #[.agg #[.slice hA h.length hc], .slice A l.length c] w fun e w' => ∃ (A' : Option Addr) (c' : Nat) (ns : List Rw) (B : Option Addr) (d : Nat),
      e = .returned (.tuple #[.agg #[.slice A' ns.length c'], .slice B l.length d]) ∧ Os w' A' ns ∧ Rok w' ns ∧ obs ns = (hcanon (obs h) l).1 ∧ Vs w' B (hcanon (obs h) l).2 ∧ Gr [] w w' := by
  obtain ⟨i0, hi0, hz0, hz1, hz2⟩ := info_parts Try.infoOb
  have hfl : (hfind (obs h) l).length ≤ 1000000 := by have := (Found.find (obs h) l).length; have e : (obs h).length = h.length := List.length_map _; omega
  have HC1 := Lib.hid (show (hcanon (obs h) l).1 = hnum (hfind (obs h) l) 0 (hfind (obs h) l) from rfl)
  have HC2 := Lib.hid (show (hcanon (obs h) l).2 = hren (hfind (obs h) l) l from rfl)
  have hb1 : Bk ((w.alloc (.cells #[.slice hA h.length hc] 28)).alloc (.cells #[.slice none 0 0] 28)) w.heap.size 28 #[.slice hA h.length hc] := (Bk.new w _ _).alloc _
  have h0 : ((w.alloc (.cells #[.slice hA h.length hc] 28)).alloc (.cells #[.slice none 0 0] 28)).cell? ⟨w.heap.size, 0, none⟩ = some (.slice hA h.length hc) := hb1.cell 0
  have hbR : Bk ((w.alloc (.cells #[.slice hA h.length hc] 28)).alloc (.cells #[.slice none 0 0] 28)) (w.heap.size + 1) 28 #[.slice none 0 0] := by simpa using Bk.new (w.alloc (.cells #[.slice hA h.length hc] 28)) 28 #[.slice none 0 0]
  generalize hfd : hfind (obs h) l = fd at *
  go_enter Try.func10, Try.ntmps10
  go_wp2_with (go_at_call 19; refine (find_any hA hc h A c l _ ((hOs.alloc _).alloc _) ((hR.alloc _).alloc _) ((hl.alloc _).alloc _) hV hn1 hn2).mono ?_; rintro e w1 ⟨F, rfl, hfi, hgr⟩; rw [hfd] at hfi; have hfi2 := hfi.gr0 ((Gr.refl [] w1).alloc (.cells #[.slice none 0 0] 28)); obtain ⟨Mb, rA, rc, rs, hb, hbF, hbM, hmp, hown, hrok, hobs⟩ := hfi2; obtain ⟨hF0, hF1, hF2⟩ := hb.cells3)
  have hg1 : Gr [] w (w1.alloc (.cells #[.slice none 0 0] 28)) := ((((Gr.refl [] w).alloc _).alloc _).trans hgr).alloc _
  have HRS := Lib.hid (show rs.length = fd.length by rw [← hobs]; simp [obs])
  have hrl : rs.length ≤ 1000000 := by rw [HRS.out]; omega
  have hbO : Bk (w1.alloc (.cells #[.slice none 0 0] 28)) w1.heap.size 28 #[.slice none 0 0] := Bk.new w1 _ _
  have hbR1 : Bk (w1.alloc (.cells #[.slice none 0 0] 28)) (w.heap.size + 1) 28 #[.slice none 0 0] := (hbR.gr hgr (by simp)).alloc _
  have hOw : w.heap.size + 2 ≤ w1.heap.size := by have := hgr.size; simp at this; omega
  have hfi3 := hfi.gr0 ((Gr.refl [] w1).alloc (.cells #[.slice none 0 0] 28))
  generalize w1.alloc (.cells #[.slice none 0 0] 28) = W1 at *
  generalize w1.heap.size = OB at *
  generalize ((w.alloc (.cells #[.slice hA h.length hc] 28)).alloc (.cells #[.slice none 0 0] 28)).heap.size = base at *
  clear hfi hgr hbR hb1 h0 hF0 hF1 hF2 hb hmp hbF hbM
  have hOS := Sl.of_own hown
  have hW1 := hbO.lt
  go_loopw [18] (fun i w' => ∃ (k : Nat) (A' : Option Addr) (c' : Nat) (ns : List Rw), k ≤ rs.length ∧ i = .int .i64 k ∧ ns.length = k ∧ Bk w' OB 28 #[.slice A' k c'] ∧ w'.ownsRow W1.heap.size 43 2 (.slice A' k c') k (rcells ns) ∧ Rok w' ns ∧ obs ns = (hnum fd 0 fd).take k ∧ Gr [OB] W1 w') (fun i _ => rs.length - (intOf i).toNat)
  case atStart => exact ⟨0, none, 0, [], Nat.zero_le _, rfl, rfl, hbO, own_nil _ _ _ _, by intro r hr; simp at hr, rfl, Gr.refl _ _⟩
  case round =>
    obtain ⟨k, A1, c1, ns, hk, rfl, hnl, hbOr, hownN, hrokN, hobN, hgW⟩ := hrel
    have hfir := hfi3.gr1 hbO hgW
    have hosr : Os wr rA rs := Sl.gr1 hOS hbO (by decide) hgW
    have hrokr := hrok.gr1 hbO (by decide) hgW
    have HNL := Lib.hid hnl
    clear hnl
    have hbs : W1.heap.size ≤ wr.heap.size := hgW.size
    by_cases hkr : k < rs.length
    · obtain ⟨b, off, rfl, hc0, hc1⟩ := hosr.at_ hkr
      obtain ⟨hr1, hr2, hr3, hr4⟩ := hrokr rs[k] (List.getElem_mem hkr)
      have HK := Lib.hid (hnum_take (fd := fd) (k := k) (by rw [← HRS.out]; exact hkr))
      have HO := Lib.hid (show rs[k].o = fd[k]'(by rw [← HRS.out]; exact hkr) by subst hobs; simp [obs])
      have HQ := Lib.hid (show (hnum fd 0 fd).take (k + 1) = (hnum fd 0 fd).take k ++ [⟨(k : Int) + 1, hren fd rs[k].o.fs⟩] by rw [HK.out, HO.out]; simp)
      clear HK HO
      generalize rs[k] = r at *
      obtain ⟨⟨oid, ofs⟩, gA, gc⟩ := r
      simp only at hc0 hc1 HQ hr1 hr2 hr3 hr4
      have hgrA := ((Gr.refl [] wr).alloc (.cells #[.int .i64 oid, .slice gA ofs.length gc] 43)).drew
      have hvA := hr1.gr0 hgrA
      have hfA := hfir.gr0 hgrA
      have hbx := (Bk.new wr 43 #[.int .i64 oid, .slice gA ofs.length gc])
      obtain ⟨hx0, hx1⟩ := hbx.cells2
      have hO0 := (hbOr.alloc (.cells #[.int .i64 oid, .slice gA ofs.length gc] 43)).cell 0
      have e1 : IntKind.i64.wrap ((k : Int) + 1) = (k : Int) + 1 := IntWalk.i64_in _ (by omega)
      go_wp2_with fail
      go_region_law (first | (refine step_app rfl (.tmp 24) (.tmp 32) 26 rfl W1.heap.size 43 i0 _ 2 32 Try.underlying26 hi0 hz0 hz1 hz2 rfl (by decide) (by decide) A1 k c1 (rcells ns) rfl hownA _ 1 1 _ rfl hslA (rcells_one _) (by omega) hbsA ?_; intro A2 c2 w3 hown3 happ3; have hbO3 := happ3.bk hbOA (by decide); have hz3 := hbO3.frozen 0; have hx3 := hbO3.cell 0) | (go_simp; go_at_call 20; refine (renamed_any base F hA h.length hc fd gA gc ofs _ hfA hvA hr2 hr3).mono ?_; rintro e w2 ⟨B, d, rfl, hvB, hgB⟩; have hg2 := hgrA.trans hgB; have hbO2 := hbOr.gr hg2 (by simp); have hO2 := hbO2.cell 0; have hOA := (hbO2.alloc (.cells #[.int .i64 ((k : Int) + 1), .slice B ofs.length d] 43)).cell 0; have hbOA := hbO2.alloc (.cells #[.int .i64 ((k : Int) + 1), .slice B ofs.length d] 43); have hgA := hg2.alloc (.cells #[.int .i64 ((k : Int) + 1), .slice B ofs.length d] 43); have hownA := own_gr0 hownN hgA; have hslA := bk_os' (fs := hren fd ofs) (Bk.new w2 43 #[.int .i64 ((k : Int) + 1), .slice B ofs.length d]) (hren_len _ _); have hbsA : W1.heap.size ≤ (w2.alloc (.cells #[.int .i64 ((k : Int) + 1), .slice B ofs.length d] 43)).heap.size := Nat.le_trans hbs hgA.size))
      all_goals
        go_wp2
        go_roundw
        case rel =>
          have hGO := (Gr.refl [OB] w3).setCell (p := ⟨OB, 0, none⟩) (.inl (by simp)) (.slice A2 (k + 1) c2)
          have hgA3 := happ3.gr [OB] W1 (Nat.le_refl _) (hgW.trans (hgA.of_nil _))
          refine ⟨k + 1, A2, c2, ns ++ [⟨⟨(k : Int) + 1, hren fd ofs⟩, B, d⟩], by omega, by go_num, by rw [List.length_append, HNL.out]; rfl, hbO3.set_ 0 _, ?_, ?_, ?_, hgA3.trans hGO⟩
          · rw [rcells_append]
            exact own_gr1 hown3 hbO3 (by decide) hGO
          · have hrA : Rok w3 (ns ++ [⟨⟨(k : Int) + 1, hren fd ofs⟩, B, d⟩]) := by
              intro r hr
              rcases List.mem_append.1 hr with hr | hr
              · have := hrokN.gr0 hgA r hr
                exact ⟨happ3.sl this.1 (by decide), this.2⟩
              · have hr : r = ⟨⟨(k : Int) + 1, hren fd ofs⟩, B, d⟩ := by simpa using hr
                subst hr
                refine ⟨happ3.sl (Sl.alloc hvB _) (by decide), hren_VW hr2 hfl, by simp only [hren_len]; exact hr3, ?_⟩
                exact WalkArith.wf_i64 (by simp only; omega)
            exact hrA.gr1 hbO3 (by decide) hGO
          · rw [HQ.out]; simp [obs] at hobN ⊢; exact hobN
        case measure => simp [intOf]; omega
    · have hkn : k = rs.length := by omega
      subst hkn
      have HT := Lib.hid (show (hnum fd 0 fd).take rs.length = (hcanon (obs h) l).1 by rw [HC1.out, HRS.out, List.take_of_length_le (by rw [hnum_length]; exact Nat.le_refl _)])
      have hgw : Gr [] w wr := hg1.trans_new hgW (fun x hx => .inr (by simp at hx; subst hx; omega))
      have hlr := hl.gr0 hgw
      have hbRr := hbR1.gr hgW (by simp; omega)
      have hRO : w.heap.size + 1 ≠ OB := by omega
      have hgD := (Gr.refl [] wr).drew
      have hgS := ((Gr.refl [w.heap.size + 1] wr).setCell (p := ⟨w.heap.size + 1, 0, none⟩) (.inl (by simp)) (.slice A1 rs.length c1)).drew
      obtain hO0 := hbOr.cell 0
      obtain hR0 := hbRr.cell 0
      have hRf := hbRr.frozen 0
      go_wp2_with fail
      go_region_with (go_at_call 20; refine (renamed_any base F hA h.length hc fd A c l _ (hfir.gr0 hgD) (hlr.gr0 hgD) hV hn1).mono ?_; rintro e w2 ⟨B, d, rfl, hvB, hgB⟩; have hbO2 := hbOr.gr (hgD.trans hgB) (by simp); have hbR2 := hbRr.gr (hgD.trans hgB) (by simp); have hO2 := hbO2.cell 0; have hR2 := hbR2.cell 0; have hR2f := hbR2.frozen 0)
      all_goals
        go_wp2
        have hgR := (Gr.refl [w.heap.size + 1] w2).setCell (p := ⟨w.heap.size + 1, 0, none⟩) (.inl (by simp)) (.slice A1 rs.length c1)
        have hbR3 := hbR2.set_ 0 (.slice A1 rs.length c1)
        refine bodyPost_ret (results_cell_tmp_row (p := 4) (u := 5) rfl _ _ _ _ _ _ _ rfl hbR3 Try.underlying28 rfl (by kernel_rfl)) rfl ⟨A1, c1, ns, B, d, by rw [HNL.out]; rfl, ?_, ?_, ?_, ?_, ?_⟩
        · unfold Os
          rw [HNL.out]
          exact Sl.gr1 ((Sl.of_own hownN).gr0 (hgD.trans hgB)) hbR2 (by decide) hgR
        · exact (hrokN.gr0 (hgD.trans hgB)).gr1 hbR2 (by decide) hgR
        · rw [← HT.out]; exact hobN
        · rw [HC2.out]; exact Sl.gr1 hvB hbR2 (by decide) hgR
        · exact (hgw.trans (hgD.trans hgB)).setCell (.inr (by simp)) _
end Go.Proofs.Ytldabchaflnmdaa
