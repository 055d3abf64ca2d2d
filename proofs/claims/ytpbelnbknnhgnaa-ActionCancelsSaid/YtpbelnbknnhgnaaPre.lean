/- ActionPrefixes, walked. -/
import Derived.Test.YtpbelnbknnhgnaaBe
namespace Go.Proofs.Ytpbelnbknnhgnaa
open Go.RowKit

def cnt (l : List Dd) (k : Nat) : Int := (gives (l.take k)).length
theorem cnt_zero (l : List Dd) : cnt l 0 = 0 := rfl
theorem cnt_succ (l : List Dd) {k : Nat} (hk : k < l.length) : cnt l (k + 1) = cnt l k + if l[k].kind = 1 then 1 else 0 := by
  unfold cnt gives
  rw [List.take_succ_eq_append_getElem hk, List.filter_append, List.map_append, List.length_append]
  by_cases h : l[k].kind = 1
  · simp [h]
  · have h' : (l[k].kind == 1) = false := by simpa using h
    simp [List.filter, h', h]
theorem gives_len {l : List Dd} {g : Int} {op : Int → Option Int} (h : scan l = some (g, op)) : ((gives l).length : Int) = g := by
  have K := scan_known l.length l rfl h
  have := K.nonneg
  rw [scan_gives l.length l rfl h]
  simp; omega
theorem okD_take {l : List Dd} {g : Int} {op : Int → Option Int} (h : scan l = some (g, op)) (k : Nat) : okD (l.take k) (cnt l k) = true := by
  obtain ⟨g', op', h'⟩ := scan_take h k
  unfold okD
  rw [h']
  show (g' == cnt l k) = true
  rw [beq_iff_eq]
  exact (gives_len h').symm
theorem refOpen_len {l : List Dd} {g : Int} {op : Int → Option Int} (h : scan l = some (g, op)) : ((refOpen l).length : Int) ≤ g := by
  rw [← gives_len h, refOpen_gives]
  have := List.length_filter_le (fun t => !stl l t) (gives l)
  omega
theorem net_take_eq (l : List Dd) (k : Nat) : (net l).take (net (l.take k)).length = net (l.take k) ∧ (net (l.take k)).length ≤ (net l).length := by
  obtain ⟨m, hm⟩ := net_take l k
  constructor
  · rw [hm]; simp
  · rw [hm]; simp

theorem Sl.acts_take {w : World} {A : Option Addr} {n : Nat} {l : List Ac} (h : Sl w 30 3 A n (acells l)) (k : Nat) (hk : k ≤ n) : Sl w 30 3 A k (acells (l.take k)) := by
  have hl := acts_len h
  have hlk : (l.take k).length = k := by rw [List.length_take]; omega
  refine ⟨by rw [acells_len, hlk], fun h0 => ?_⟩
  obtain ⟨b, off, cs, fz, hA, hb, hc⟩ := h.2 (by omega)
  refine ⟨b, off, cs, fz, hA, hb, fun j u hu => hc j u ?_⟩
  rw [← List.take_append_drop k l, acells_append, List.getElem?_append_left]
  · exact hu
  · rcases Nat.lt_or_ge j (acells (l.take k)).length with h | h
    · exact h
    · rw [List.getElem?_eq_none h] at hu; cases hu
set_option maxRecDepth 100000 in
set_option maxHeartbeats 4000000 in
theorem prefixes_any (A : Option Addr) (n c : Nat) (zs : List Int) (cut : Int) (w : World) (e5 : TypeId) (h : Sl w e5 1 A n (zs.map (.int .u8))) (hz : ∀ j, 0 ≤ zs.getD j 0 ∧ zs.getD j 0 < 256) (hnc : n ≤ c) (hn : n ≤ 9223372036854775807) :
    Calls Try.prog 3 #[.slice A n c, .int .i64 cut] w fun e w' => e = .returned (.bool true) ∧ Gr [] w w' := by
  go_enter Try.func3, Try.ntmps3
  go_wp2_with fail
  go_at_call 7
  refine (sane_any _).mono ?_
  rintro e w1 ⟨rfl, hg1⟩
  have h1 := h.gr0 hg1
  go_wp2_with fail
  go_at_call 8
  refine (made_any A n c zs _ e5 h1 hz hnc hn).mono ?_
  rintro e w2 ⟨l, A2, c2, T, rfl, hsl, hcap, ⟨op, hsc⟩, hwf, hlen, hg2⟩
  have HSC := Lib.hid hsc
  have HGL := Lib.hid (refOpen_len hsc)
  have hK := scan_known l.length l rfl hsc
  have hT0 := hK.nonneg
  have hT1 := hK.le
  clear hsc hK h1 h
  have hgrA := (hg1.trans hg2).alloc (.cells #[.slice A2 l.length c2, .int .i64 T] 26)
  have hP5 := Bk.new w2 26 #[.slice A2 l.length c2, .int .i64 T]
  have hs5 := hsl.alloc (.cells #[.slice A2 l.length c2, .int .i64 T] 26)
  have hB5 : w.heap.size ≤ w2.heap.size := (hg1.trans hg2).size
  have hr0 : 0 ≤ cut % ((l.length : Int) + 1) := Int.emod_nonneg _ (by omega)
  have hr1 : cut % ((l.length : Int) + 1) < (l.length : Int) + 1 := Int.emod_lt_of_pos _ (by omega)
  obtain ⟨k, hk⟩ : ∃ k : Nat, cut % ((l.length : Int) + 1) = k := ⟨_, (Int.toNat_of_nonneg hr0).symm⟩
  rw [hk] at hr0 hr1
  have HM := Lib.hid (show ∀ w, Calls Try.prog 9 #[.int .i64 cut, .int .i64 ((l.length : Int) + 1)] w fun e w' => e = .returned (.int .i64 (k : Int)) ∧ w = w' from fun w => by have := modq cut ((l.length : Int) + 1) w (by omega) (by omega); rwa [hk] at this)
  clear hk hg1 hg2 hsl
  have hkl : k ≤ l.length := by omega
  go_wp2_with fail
  generalize hp5 : w2.heap.size = p5 at *
  generalize w2.alloc (.cells #[.slice A2 l.length c2, .int .i64 T] 26) = W at *
  clear hp5
  go_at_call 9
  refine (HM.out _).mono ?_
  rintro e w3 ⟨rfl, rfl⟩
  obtain ⟨x0, x1⟩ := hP5.cells2
  have hkc : (k : Int) ≤ (c2 : Int) := by omega
  go_wp2_with fail
  have hP7 := Bk.new W 26 #[.slice A2 k c2, .int .i64 0]
  have hP5a := hP5.alloc (.cells #[.slice A2 k c2, .int .i64 0] 26)
  have hs5a := hs5.alloc (.cells #[.slice A2 k c2, .int .i64 0] 26)
  have hgrB := hgrA.alloc (.cells #[.slice A2 k c2, .int .i64 0] 26)
  have hp57 := hP5.lt
  generalize W.heap.size = p7 at *
  generalize W.alloc (.cells #[.slice A2 k c2, .int .i64 0] 26) = W1 at *
  clear x0 x1 hgrA hP5 hs5
  have hcb : ∀ i, i ≤ l.length → 0 ≤ cnt l i ∧ cnt l i ≤ i := fun i hi => by
    unfold cnt gives
    have h1 := List.length_filter_le (fun d : Dd => d.kind == 1) (l.take i)
    have h2 := List.length_take_le i l
    simp only [List.length_map]
    omega
  have HCB := Lib.hid hcb
  clear hcb
  go_loopw [30] (fun v wr => ∃ i : Nat, i ≤ k ∧ v = .int .i64 i ∧ Bk wr p7 26 #[.slice A2 k c2, .int .i64 (cnt l i)] ∧ Bk wr p5 26 #[.slice A2 l.length c2, .int .i64 T] ∧ Sl wr 32 6 A2 l.length (dcells l) ∧ Gr [] w wr) (fun v _ => k - (intOf v).toNat)
  case atStart => exact ⟨0, Nat.zero_le _, rfl, by rw [cnt_zero]; exact hP7, hP5a, hs5a, hgrB⟩
  case round =>
    obtain ⟨i, hik, rfl, hP7, hP5, hs5, hgr⟩ := hrel
    clear hP5a hs5a hgrB
    obtain ⟨x0, x1⟩ := hP7.cells2
    by_cases hlt : i < k
    · have hil : i < l.length := by omega
      have HC := Lib.hid (cnt_succ l hil)
      obtain ⟨b, off, rfl, hc0, hc1, hc2, hc3, hc4, hc5⟩ := Ds.at_ ⟨_, hs5⟩ hil
      have hlt' : (i : Int) < (k : Int) := by omega
      generalize l[i] = d at *
      obtain ⟨dk, dt, dv, ⟨a1, a2, a3⟩⟩ := d
      simp only at hc0 hc1 hc2 hc3 hc4 hc5 HC
      have hcn := HCB.out i (by omega)
      have hP7a := hP7.alloc (.cells #[.int .i64 dk, .int .i64 dt, .int .i64 dv, .bool a1, .int .i64 a2, .int .i64 a3] 32)
      have z1 := hP7a.cell 1
      have zf := hP7a.frozen 1
      by_cases h1 : dk = 1
      · subst h1
        have HQ := Lib.hid (show cnt l (i + 1) = cnt l i + 1 by rw [HC.out]; simp)
        go_wp2
        go_roundw
        case rel =>
          have hg := (Gr.refl [p7] (wr.alloc (.cells #[.int .i64 1, .int .i64 dt, .int .i64 dv, .bool a1, .int .i64 a2, .int .i64 a3] 32))).setCell (p := ⟨p7, 1, none⟩) (.inl (by simp)) (.int .i64 (cnt l i + 1))
          exact ⟨i + 1, by omega, by go_num, by rw [HQ.out]; exact hP7a.set_ 1 _, (hP5.alloc _).gr hg (by simp; omega), Sl.gr1 (hs5.alloc _) hP7a (by decide) hg, (hgr.alloc _).trans_new hg (by intro x hx; right; simp at hx; omega)⟩
        case measure => simp [intOf]; omega
      · have b1 : (dk == 1) = false := by simpa using h1
        have HQ := Lib.hid (show cnt l (i + 1) = cnt l i by rw [HC.out]; simp [h1])
        clear h1
        go_wp2
        go_roundw
        case rel => exact ⟨i + 1, by omega, by go_num, by rw [HQ.out]; exact hP7a, hP5.alloc _, hs5.alloc _, hgr.alloc _⟩
        case measure => simp [intOf]; omega
    · have hik' : i = k := by omega
      subst hik'
      have htl : (l.take i).length = i := by rw [List.length_take]; omega
      obtain ⟨e1, e2⟩ := net_take_eq l i
      have HTL := Lib.hid htl
      have HE1 := Lib.hid e1
      have HV := Lib.hid (okD_take HSC.out i)
      have hdT : Ds wr A2 (l.take i) := Ds.take ⟨_, hs5⟩ i (by omega)
      have hwT : ∀ d ∈ l.take i, wf64 d.ticket ∧ wf64 d.value := fun d hd => hwf d (List.mem_of_mem_take hd)
      have HN1 := Lib.hid (show ∀ w', Gr [] wr w' → Calls Try.prog 10 #[.agg #[.slice A2 i c2, .int .i64 (cnt l i)]] w' fun e w'' => ∃ (A' : Option Addr) (c' : Nat), e = .returned (.slice A' (net (l.take i)).length c') ∧ (net (l.take i)).length ≤ c' ∧ Sl w'' 30 3 A' (net (l.take i)).length (acells (net (l.take i))) ∧ Gr [] w' w'' from fun w' hg => by
        have := net_any A2 c2 (l.take i) (cnt l i) w' (hdT.gr0 hg) (by rw [htl]; omega)
        rwa [htl] at this)
      have HN2 := Lib.hid (show ∀ w', Gr [] wr w' → Calls Try.prog 10 #[.agg #[.slice A2 l.length c2, .int .i64 T]] w' fun e w'' => ∃ (A' : Option Addr) (c' : Nat), e = .returned (.slice A' (net l).length c') ∧ (net l).length ≤ c' ∧ Sl w'' 30 3 A' (net l).length (acells (net l)) ∧ Gr [] w' w'' from fun w' hg => net_any A2 c2 l T w' ⟨_, hs5.gr0 hg⟩ (by omega))
      have HVa := Lib.hid (show ∀ w', Gr [] wr w' → Calls Try.prog 11 #[.agg #[.slice A2 i c2, .int .i64 (cnt l i)]] w' fun e w'' => e = .returned (.bool true) ∧ Gr [] w' w'' from fun w' hg => by
        have := valid_any A2 c2 (l.take i) (cnt l i) w' (hdT.gr0 hg) (by rw [htl]; omega) hwT
        rwa [htl, HV.out] at this)
      have HOp := Lib.hid (show ∀ w', Gr [] wr w' → Calls Try.prog 13 #[.agg #[.slice A2 l.length c2, .int .i64 T]] w' fun e w'' => ∃ (A' : Option Addr) (c' : Nat), e = .returned (.slice A' (refOpen l).length c') ∧ Gr [] w' w'' from fun w' hg => (open_any A2 c2 l T T op w' ⟨_, hs5.gr0 hg⟩ (by omega) hwf HSC.out).mono fun e w'' ⟨A', c', h1, _, h3⟩ => ⟨A', c', h1, h3⟩)
      have hro := HGL.out
      generalize (refOpen l).length = nr at *
      have hn1 : (net (l.take i)).length ≤ 1000000 := by have := net_len (l.take i); rw [htl] at this; omega
      have hn2 : (net l).length ≤ 1000000 := by have := net_len l; omega
      have hP7' := hP7
      clear htl e1 hdT hwT hs5 hP7
      have HBC := Lib.hid (show ∀ w', Gr [] wr w' → w'.cell? ⟨p7, 0, none⟩ = some (.slice A2 i c2) ∧ w'.cell? ⟨p7, 1, none⟩ = some (.int .i64 (cnt l i)) ∧ w'.cell? ⟨p5, 0, none⟩ = some (.slice A2 l.length c2) ∧ w'.cell? ⟨p5, 1, none⟩ = some (.int .i64 T) from fun w' hg => ⟨(hP7'.gr0 hg).cell 0, (hP7'.gr0 hg).cell 1, (hP5.gr0 hg).cell 0, (hP5.gr0 hg).cell 1⟩)
      have hg0 := (Gr.refl [] wr).drew
      clear hP7' hP5 x0 x1
      generalize hnn1 : (net (l.take i)).length = n1 at *
      generalize hnn2 : (net l).length = n2 at *
      have HNN := Lib.hid (⟨hnn1, hnn2⟩ : (net (l.take i)).length = n1 ∧ (net l).length = n2)
      clear hnn1 hnn2
      go_wp2_with fail
      go_region_held3 (fun w' => w'.cell? ⟨p7, 0, none⟩ = some (.slice A2 i c2) ∧ w'.cell? ⟨p7, 1, none⟩ = some (.int .i64 (cnt l i)) ∧ w'.cell? ⟨p5, 0, none⟩ = some (.slice A2 l.length c2) ∧ w'.cell? ⟨p5, 1, none⟩ = some (.int .i64 T)) (first | exact HBC.out _ hg0 | exact HBC.out _ k1 | exact HBC.out _ k2)
        (first
        | (go_at_call_of 10 (Value.agg #[Value.slice A2 i c2, Value.int IntKind.i64 (cnt l i)]); refine (HN1.out _ hg0).mono ?_; rintro e q1 ⟨B1, d1, rfl, hd1, hB1, k1'⟩; have k1 := hg0.trans k1')
        | (go_at_call_of 10 (Value.agg #[Value.slice A2 l.length c2, Value.int IntKind.i64 T]); refine (HN2.out _ k1).mono ?_; rintro e q2 ⟨B2, d2, rfl, hd2, hB2, k2'⟩; have k2 := k1.trans k2'))
      all_goals
        have hB1q := hB1.gr0 k2'
        have HSA := Lib.hid (show ∀ w', Gr [] q2 w' → Calls Try.prog 12 #[.slice B1 n1 d1, .slice B2 n1 d2] w' fun e w'' => e = .returned (.bool true) ∧ Gr [] w' w'' from fun w' hg => by
          have hh := Sl.acts_take (hB2.gr0 hg) n1 (by omega)
          have e1 := HE1.out
          rw [e1] at hh
          have := sameacts_any B1 B2 n1 n1 d1 d2 (net (l.take i)) (net (l.take i)) w' (hB1q.gr0 hg) hh (by omega) (by omega)
          simpa using this)
        have hgD := k2.drew
        have hgE := (Gr.refl [] q2).drew
        have hle1 : (0 : Int) ≤ (n1 : Int) := by omega
        have hle2 : (n1 : Int) ≤ (d2 : Int) := by omega
        have hle3 : (n1 : Int) ≤ (n2 : Int) := by omega
        clear hB1 hB2 hB1q k1' k2' k1
        go_wp2_with fail
        go_region_held3 (fun w' => w'.cell? ⟨p7, 0, none⟩ = some (.slice A2 i c2) ∧ w'.cell? ⟨p7, 1, none⟩ = some (.int .i64 (cnt l i)) ∧ w'.cell? ⟨p5, 0, none⟩ = some (.slice A2 l.length c2) ∧ w'.cell? ⟨p5, 1, none⟩ = some (.int .i64 T)) (first | exact HBC.out _ hgD | exact HBC.out _ m1 | exact HBC.out _ m2 | exact HBC.out _ m3)
          (first
          | (go_at_call 11; refine (HVa.out _ hgD).mono ?_; rintro e r1 ⟨rfl, m1'⟩; have m1 := hgD.trans m1'; have j1 := hgE.trans m1')
          | (go_at_call 12; refine (HSA.out _ j1).mono ?_; rintro e r2 ⟨rfl, m2'⟩; have m2 := m1.trans m2')
          | (go_at_call 13; refine (HOp.out _ m2).mono ?_; rintro e r3 ⟨B3, d3, rfl, m3'⟩; have m3 := m2.trans m3'))
        all_goals
          go_wp2
          go_ret
          exact ⟨rfl, hgr.trans m3⟩
end Go.Proofs.Ytpbelnbknnhgnaa
