/- The finder: what its memory says; look. -/
import Derived.Test.YtldabchaflnmdaaRx
import Derived.Test.YtldabchaflnmdaaAp
import Derived.Deep.DeepCutAuto
import Derived.Deep.CutBlock
namespace Go.Proofs.Ytldabchaflnmdaa
open Go.RowKit

/-- The finder at block F over the heap (hA, hn, hc) has found these objects. -/
def Fi (w : World) (base F : Nat) (hA : Option Addr) (hn hc : Nat) (found : List Ob) : Prop :=
  ∃ (Mb : Nat) (A : Option Addr) (c : Nat) (rs : List Rw), Bk w F 56 #[.slice hA hn hc, .map (some Mb), .slice A rs.length c] ∧ base ≤ F ∧ base ≤ Mb ∧ Mp w Mb rs.length (place found) ∧
    w.ownsRow base 43 2 (.slice A rs.length c) rs.length (rcells rs) ∧ Rok w rs ∧ obs rs = found
def Lv (base : Nat) (w w' : World) : Prop := Lk base 31 w w'
theorem Lv.vs {base : Nat} {w w' : World} (h : Lv base w w') {A : Option Addr} {l : List Vl} (hs : Vs w A l) : Vs w' A l := Lk.sl h hs
theorem Lv.rok {base : Nat} {w w' : World} (h : Lv base w w') {l : List Rw} (hs : Rok w l) : Rok w' l := fun r hr => ⟨h.vs (hs r hr).1, (hs r hr).2⟩
theorem Lv.trans {base : Nat} {w w1 w2 : World} (h : Lv base w w1) (k : Lv base w1 w2) : Lv base w w2 := Lk.trans h k
theorem Lv.refl (base : Nat) (w : World) : Lv base w w := Lk.refl _ _ w
theorem Lv.of_gr {base : Nat} {w w1 : World} (h : Gr [] w w1) : Lv base w w1 := Lk.of_gr h
theorem Fi.gr0 {w w' : World} {base F : Nat} {hA : Option Addr} {hn hc : Nat} {found : List Ob} (h : Fi w base F hA hn hc found) (hg : Gr [] w w') : Fi w' base F hA hn hc found := by
  obtain ⟨Mb, A, c, rs, h1, h2, h3, h4, h5, h6, h7⟩ := h
  exact ⟨Mb, A, c, rs, h1.gr hg (by simp), h2, h3, h4.gr hg (by simp), own_gr0 h5 hg, h6.gr0 hg, h7⟩
theorem Fi.len {w : World} {base F : Nat} {hA : Option Addr} {hn hc : Nat} {found : List Ob} (h : Fi w base F hA hn hc found) : base ≤ w.heap.size := by
  obtain ⟨Mb, A, c, rs, h1, h2, _⟩ := h
  have := h1.lt; omega
theorem look_snoc (h found : List Ob) (l : List Vl) (v : Vl) : look h found (l ++ [v]) = look1 h (look h found l) v := by simp [look]
theorem look_take {h found : List Ob} {l : List Vl} {k : Nat} (hk : k < l.length) : look h found (l.take (k + 1)) = look1 h (look h found (l.take k)) l[k] := by
  rw [List.take_succ_eq_append_getElem hk, look_snoc]

theorem bk_last {W w1 : World} {t : TypeId} {cs : Array Value} {p : Nat} (hg : Gr [] (W.alloc (.cells cs t)) w1) (hs : W.heap.size = p) : Bk w1 p t cs := by
  subst hs; exact (Bk.new W t cs).gr hg (by simp)

set_option maxHeartbeats 1000000 in
theorem look_any (base F : Nat) (hA : Option Addr) (hc : Nat) (h : List Rw) (found : List Ob) (A : Option Addr) (c : Nat) (l : List Vl) (w0 w : World) (hw0 : w0.heap.size ≤ base) (hOs : Os w0 hA h) (hR : Rok w0 h) (hgr0 : Gr [] w0 w)
    (hf : Fi w base F hA h.length hc found) (hl : Vs w A l) (hV : VW l) (hn1 : l.length ≤ 1000000) (hn2 : h.length ≤ 1000000) (hFo : Found (obs h) found) :
    Calls Try.prog 24 #[.pointer (some ⟨F, 0, none⟩), .slice A l.length c] w fun e w' => e = .returned (.tuple #[]) ∧ Fi w' base F hA h.length hc (look (obs h) found l) ∧ Lv base w w' := by
  have HFo := Lib.hid (fun k => hFo.look (l.take k))
  go_enter Try.func24, Try.ntmps24
  go_wp2
  go_loopw [10] (fun i w' => ∃ k : Nat, k ≤ l.length ∧ i = .int .i64 k ∧ Fi w' base F hA h.length hc (look (obs h) found (l.take k)) ∧ Lv base w w') (fun i _ => l.length - (intOf i).toNat)
  case atStart => exact ⟨0, Nat.zero_le _, rfl, hf, Lv.refl _ _⟩
  case round =>
    obtain ⟨k, hk, rfl, hfi, hlv⟩ := hrel
    by_cases hkl : k < l.length
    · obtain ⟨b, off, rfl, hc0, hc1⟩ := (hlv.vs hl).at_ hkl
      have hvw : wf64 l[k].n := hV l[k] (List.getElem_mem hkl)
      have HK := Lib.hid (look_take (h := obs h) (found := found) hkl)
      have HFk := HFo.out k
      have hlen := HFk.length
      have hok : (obs h).length = h.length := by simp [obs]
      rw [hok] at hlen
      clear hok
      generalize look (obs h) found (l.take k) = fd at *
      obtain ⟨Mb, rA, rc, rs, hb, hbF, hbM, hmp, hown, hrok, hobs⟩ := hfi
      have HRS := Lib.hid (show rs.length = fd.length by rw [← hobs]; simp [obs])
      have hrs : rs.length ≤ 1000000 := by rw [HRS.out]; omega
      obtain ⟨⟨vr, vn⟩, hv⟩ : ∃ v, l[k] = v := ⟨_, rfl⟩
      rw [hv] at hc0 hc1 hvw HK
      clear hv
      simp only at hc0 hc1 hvw
      cases vr
      · have hq := Lib.hid (show look (obs h) found (l.take (k + 1)) = fd by rw [HK.out]; simp [look1])
        go_wp2_with fail
        go_quiet (fail)
        go_wp2
        go_roundw
        case rel => exact ⟨k + 1, by omega, by go_num, by rw [hq.out]; exact Fi.gr0 ⟨Mb, rA, rc, rs, hb, hbF, hbM, hmp, hown, hrok, hobs⟩ (((Gr.refl [] wr).alloc _).drewN _), hlv.trans (Lv.of_gr (((Gr.refl [] wr).alloc _).drewN _))⟩
        case measure => simp [intOf]; omega
      · have hmp1 := fun m => ((hmp.gr (((Gr.refl [] wr).alloc (.cells #[.bool true, .int .i64 vn] 31)).drewN m) (by simp)).lookup hvw)
        have hbv := Bk.new wr 31 #[.bool true, .int .i64 vn]
        obtain ⟨hv0, hv1⟩ := hbv.cells2
        obtain ⟨hF0, hF1, hF2⟩ := (hb.alloc (.cells #[.bool true, .int .i64 vn] 31)).cells3
        by_cases hpl : 0 < place fd vn
        · have hq := Lib.hid (show look (obs h) found (l.take (k + 1)) = fd by rw [HK.out]; simp [look1, hpl])
          generalize place fd vn = pl at *
          go_wp2_with fail
          go_quiet (fail)
          go_wp2
          go_roundw
          case rel => exact ⟨k + 1, by omega, by go_num, by rw [hq.out]; exact Fi.gr0 ⟨Mb, rA, rc, rs, hb, hbF, hbM, hmp, hown, hrok, hobs⟩ (((Gr.refl [] wr).alloc _).drewN _), hlv.trans (Lv.of_gr (((Gr.refl [] wr).alloc _).drewN _))⟩
          case measure => simp [intOf]; omega
        · have hgw : Gr [] w0 wr := hlv.gr [] w0 hw0 hgr0
          have hF0b := fun m => cell_alloc (show ((wr.alloc (.cells #[.bool true, .int .i64 vn] 31)).drewN m).cell? ⟨F, 0, none⟩ = _ from hF0) (.cells #[.int .i64 0, .slice none 0 0] 43)
          have hv1b := fun m => cell_alloc (show ((wr.alloc (.cells #[.bool true, .int .i64 vn] 31)).drewN m).cell? ⟨wr.heap.size, 1, none⟩ = _ from hv1) (.cells #[.int .i64 0, .slice none 0 0] 43)
          have hpl0 : place fd vn = 0 := by have := place_bd fd vn; omega
          rcases hgt : hget (obs h) vn with _ | ⟨oid, ofs⟩
          · have hq := Lib.hid (show look (obs h) found (l.take (k + 1)) = fd by rw [HK.out]; simp [look1, hpl, hgt])
            have hne : ¬ (0 : Int) < 0 := by omega
            rw [hpl0] at hmp1
            clear hpl
            go_wp2_with fail
            go_quiet (fail)
            go_wp2_with fail
            go_region_with (go_at_call 26; refine (get_none hA hc h vn _ (hOs.gr0 (by repeat' (first | exact hgw | refine Gr.alloc ?_ _ | refine Gr.drewN ?_ _ | refine Gr.drew ?_))) (hR.gr0 (by repeat' (first | exact hgw | refine Gr.alloc ?_ _ | refine Gr.drewN ?_ _ | refine Gr.drew ?_))) hn2 hgt).mono ?_; rintro e w1 ⟨rfl, hg1⟩; try (have hbo := bk_last (p := wr.heap.size + 1) hg1 (by simp); obtain ⟨ho0, ho1⟩ := hbo.cells2; have hz0 := hbo.frozen 0; have hz1 := hbo.frozen 1))
            all_goals
              go_wp2
              go_roundw
              case rel =>
                refine ⟨k + 1, by omega, by go_num, ?_, hlv.trans (Lv.of_gr ?_)⟩
                · rw [hq.out]
                  refine Fi.gr0 ⟨Mb, rA, rc, rs, hb, hbF, hbM, hmp, hown, hrok, hobs⟩ ?_
                  repeat' (first | exact Gr.refl _ wr | refine Gr.trans ?_ hg1 | refine Gr.alloc ?_ _ | refine Gr.drewN ?_ _ | refine Gr.drew ?_ | refine Gr.setCell ?_ (.inr (by simp; try omega)) _)
                repeat' (first | exact Gr.refl _ wr | refine Gr.trans ?_ hg1 | refine Gr.alloc ?_ _ | refine Gr.drewN ?_ _ | refine Gr.drew ?_ | refine Gr.setCell ?_ (.inr (by simp; try omega)) _)
              case measure => simp [intOf]; omega
          · have hq := Lib.hid (show look (obs h) found (l.take (k + 1)) = fd ++ [⟨oid, ofs⟩] by rw [HK.out]; simp [look1, hpl, hgt])
            rw [hpl0] at hmp1
            clear hpl
            go_wp2_with fail
            go_quiet (fail)
            go_wp2_with fail
            go_upto_region 4 with fail
            go_cut [6, 7] (fun x y wx => ∃ (q : Nat) (gA : Option Addr) (gc : Nat), x = .pointer (some ⟨q, 0, none⟩) ∧ y = .bool true ∧ Bk wx q 43 #[.int .i64 oid, .slice gA ofs.length gc] ∧ wr.heap.size ≤ q ∧ Vs wx gA ofs ∧ VW ofs ∧ ofs.length ≤ 1000000 ∧ wf64 oid ∧ Gr [] wr wx ∧ Bk wx wr.heap.size 31 #[.bool true, .int .i64 vn])
            case first =>
              go_region_with (go_at_call 26; refine (get_some hA hc h vn _ (hOs.gr0 (by repeat' (first | exact hgw | refine Gr.alloc ?_ _ | refine Gr.drewN ?_ _ | refine Gr.drew ?_))) (hR.gr0 (by repeat' (first | exact hgw | refine Gr.alloc ?_ _ | refine Gr.drewN ?_ _ | refine Gr.drew ?_))) hn2 hgt).mono ?_; rintro e w1 ⟨gA, gc, rfl, hgv, hgV, hgl, hgi, hg1⟩; have hgX : Gr [] (wr.alloc (.cells #[.bool true, .int .i64 vn] 31)) w1 := Gr.trans (by repeat' (first | exact Gr.refl _ _ | refine Gr.alloc ?_ _ | refine Gr.drewN ?_ _ | refine Gr.drew ?_)) hg1; try (have hbo := bk_last (p := wr.heap.size + 1) hg1 (by simp); obtain ⟨ho0, ho1⟩ := hbo.cells2; have hz0 := hbo.frozen 0; have hz1 := hbo.frozen 1))
              all_goals
                go_wp2
                go_meet
                have hgW : Gr [] wr w1 := ((Gr.refl [] wr).alloc _).trans hgX
                first
                  | exact ⟨_, gA, gc, rfl, rfl, Bk.new w1 _ _, by have := hgW.size; omega, hgv.alloc _, hgV, hgl, hgi, hgW.alloc _, (hbv.gr hgX (by simp)).alloc _⟩
                  | exact ⟨_, gA, gc, rfl, rfl, (hbo.set_ 0 _).set_ 1 _, by omega, Sl.gr1 hgv hbo (by decide) (((Gr.refl [wr.heap.size + 1] w1).setCell (.inl (by simp)) _).setCell (.inl (by simp)) _), hgV, hgl, hgi, (hgW.setCell (.inr (by simp)) _).setCell (.inr (by simp)) _, ((hbv.gr hgX (by simp)).far (by simp) _).far (by simp) _⟩
            case rest =>
              obtain ⟨q, gA, gc, rfl, rfl, hbq, hqs, hgv, hgV, hgl, hgi, hgc, hbv2⟩ := hcut
              have hb2 := hb.gr hgc (by simp)
              have hown2 := own_gr0 hown hgc
              have hmp2 := hmp.gr hgc (by simp)
              have hrok2 := hrok.gr0 hgc
              have HID := Lib.hid (show oid = vn from hget_id hgt)
              clear hF0b hv1b hmp1 hF0 hF1 hF2 hv0 hv1 hbv hlen
              obtain ⟨hF0, hF1, hF2⟩ := hb2.cells3
              obtain ⟨hq0, hq1⟩ := hbq.cells2
              obtain ⟨hv0, hv1⟩ := hbv2.cells2
              obtain ⟨i0, hi0, hz0, hz1, hz2⟩ := info_parts Try.infoOb
              have hbs : base ≤ wc.heap.size := by have := hb2.lt; omega
              go_upto_region 6 with fail
              go_cut [] (fun wx => ∃ (A' : Option Addr) (c' : Nat), Bk wx F 56 #[.slice hA h.length hc, .map (some Mb), .slice A' (rs.length + 1) c'] ∧ Mp wx Mb rs.length (place fd) ∧ wx.ownsRow base 43 2 (.slice A' (rs.length + 1) c') (rs.length + 1) (rcells (rs ++ [⟨⟨oid, ofs⟩, gA, gc⟩])) ∧ Lv base wc wx ∧ Bk wx wr.heap.size 31 #[.bool true, .int .i64 vn])
              case first =>
                have hownA : ((wc.alloc (.cells #[.int .i64 oid, .slice gA ofs.length gc] 43)).drew).ownsRow base 43 2 (.slice rA rs.length rc) rs.length (rcells rs) := own_gr0 hown2 (((Gr.refl [] wc).alloc _).drew)
                have hslA : Sl ((wc.alloc (.cells #[.int .i64 oid, .slice gA ofs.length gc] 43)).drew) 43 2 (some ⟨wc.heap.size, 0, none⟩) 1 (rcells [⟨⟨oid, ofs⟩, gA, gc⟩]) := bk_os (r := ⟨⟨oid, ofs⟩, gA, gc⟩) (Bk.new wc _ _).drew
                have hbA := (hb2.alloc (.cells #[.int .i64 oid, .slice gA ofs.length gc] 43)).drew
                have hmpA : Mp ((wc.alloc (.cells #[.int .i64 oid, .slice gA ofs.length gc] 43)).drew) Mb rs.length (place fd) := hmp2.gr (((Gr.refl [] wc).alloc _).drew) (by simp)
                have hv2A := (hbv2.alloc (.cells #[.int .i64 oid, .slice gA ofs.length gc] 43)).drew
                have hlvA : Lv base wc ((wc.alloc (.cells #[.int .i64 oid, .slice gA ofs.length gc] 43)).drew) := Lv.of_gr (((Gr.refl [] wc).alloc _).drew)
                obtain ⟨hFA0, hFA1, hFA2⟩ := (hb2.alloc (.cells #[.int .i64 oid, .slice gA ofs.length gc] 43)).cells3
                have hbsA : base ≤ ((wc.alloc (.cells #[.int .i64 oid, .slice gA ofs.length gc] 43)).drew).heap.size := by simp; omega
                go_region_law (refine step_app rfl (.tmp 42) (.tmp 44) 26 rfl base 43 i0 _ 2 32 Try.underlying26 hi0 hz0 hz1 hz2 rfl (by decide) (by decide) rA rs.length rc (rcells rs) rfl hownA (some ⟨wc.heap.size, 0, none⟩) 1 1 (rcells [⟨⟨oid, ofs⟩, gA, gc⟩]) rfl hslA (rcells_one _) (by omega) hbsA ?_; intro A1 c1 w1 hown1 happ1; have hb3 := happ1.bk hbA (by decide); have hz3 := hb3.frozen 2; obtain ⟨hx0, hx1, hx2⟩ := hb3.cells3)
                all_goals
                  go_wp2
                  go_meet
                  refine ⟨A1, c1, hb3.set_ 2 _, Mp.one (hmpA.app happ1) hb3 ((Gr.refl [F] w1).setCell (.inl (by simp)) _), ?_, ?_, ?_⟩
                  · rw [rcells_append]
                    exact own_gr1 hown1 hb3 (by decide) ((Gr.refl [F] w1).setCell (.inl (by simp)) _)
                  · exact hlvA.trans (Lk.trans (Lk.of_app happ1 (by decide)) (Lk.of_one (g := F) ((Gr.refl [F] w1).setCell (.inl (by simp)) _) hbF (fun cs fz he => by unfold Bk at hb3; rw [hb3] at he; injection he with he; injection he with _ he; exact absurd he (by decide))))
                  · exact (happ1.bk hv2A (by decide)).far (fun he => by have := Bk.lt hb; simp at he; omega) _
              case rest =>
                obtain ⟨A2, c2, hb4, hmp4, hown4, hlv4, hbv4⟩ := hcut
                clear hF0 hF1 hF2 hq0 hq1 hv0 hv1 hbs
                have hwfL : wf64 ((rs.length + 1 : Nat) : Int) := by unfold wf64; simp [Lit.wf, IntKind.min, IntKind.max, IntKind.signed, IntKind.bits]; omega
                obtain ⟨w2, hrun, hmp5, hgrow⟩ := (show Mp wc.drew Mb rs.length (place fd) from hmp4).update (show rs.length < maxLen by simp [maxLen]; omega) hvw hwfL
                obtain ⟨hF0, hF1, hF2⟩ := hb4.cells3
                obtain ⟨hv0, hv1⟩ := hbv4.cells2
                simp only [Int.natCast_add, Int.cast_ofNat_Int] at hrun
                go_wp2_with fail
                go_region
                go_wp2
                go_roundw
                case rel =>
                  have hG : Gr [Mb] wc w2 := ((Gr.refl [Mb] wc).drew).grown hgrow (fun k hk => by injection hk with hk; subst hk; simp)
                  have hl5 : Lv base wc w2 := Lk.of_one hG hbM (hmp4.not_cells _)
                  have hFM := hmp4.ne_bk hb4
                  refine ⟨k + 1, by omega, by go_num, ?_, ((hlv.trans (Lv.of_gr hgc)).trans hlv4).trans hl5⟩
                  rw [hq.out]
                  refine ⟨Mb, A2, c2, rs ++ [⟨⟨oid, ofs⟩, gA, gc⟩], ?_⟩
                  rw [List.length_append, List.length_singleton]
                  refine ⟨hb4.gr hG (by simpa using hFM), hbF, hbM, ?_, own_map hown4 hmp4 hG, ?_, by simp [obs, ← hobs]⟩
                  · have HP : place (fd ++ [⟨oid, ofs⟩]) = fun i => if i = vn then ((rs.length + 1 : Nat) : Int) else place fd i := by
                      funext i
                      by_cases hi : i = vn
                      · subst hi
                        rw [if_pos rfl, HRS.out]
                        have := place_append_new fd ⟨oid, ofs⟩ (by rw [HID.out, hpl0]; omega)
                        rw [HID.out] at this
                        rw [HID.out, this]; simp
                      · rw [if_neg hi]
                        exact place_append_other fd ⟨oid, ofs⟩ i (by rw [HID.out]; exact fun e => hi e.symm)
                    rw [HP]; exact hmp5
                  · intro r hr
                    rcases List.mem_append.1 hr with hr | hr
                    · exact (hl5.rok (hlv4.rok hrok2)) r hr
                    · have hr : r = ⟨⟨oid, ofs⟩, gA, gc⟩ := by simpa using hr
                      subst hr
                      exact ⟨hl5.vs (hlv4.vs hgv), hgV, hgl, hgi⟩
                case measure => simp [intOf]; omega
    · have hkn : k = l.length := by omega
      subst hkn
      rw [List.take_length] at hfi
      go_wp2
      exact bodyPost_end (results_none rfl _ _ _) rfl ⟨rfl, hfi, hlv⟩
end Go.Proofs.Ytldabchaflnmdaa
