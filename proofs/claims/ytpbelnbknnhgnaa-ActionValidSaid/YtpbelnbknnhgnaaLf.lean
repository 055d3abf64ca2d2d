/- A slice of deeds that came in. -/
import Derived.Test.YtpbelnbknnhgnaaStp
import Derived.Deep.Slices
import Derived.Deep.Fields
import Derived.ChangeSame
import Derived.Lib.SmallJoins
namespace Go.Proofs.Ytpbelnbknnhgnaa
open Go.RowKit Go.ChangeShapes Go.WideShapes

theorem sl_of_recs {α : Type} (E : α → List Value) (s : Nat) (hs : 0 < s) (hE : ∀ a, (E a).length = s) {w : World} {x : Addr} {len : Nat} {f : Nat → α} (hc : ∀ i, i < len → ∀ j u, (E (f i))[j]? = some u → w.cell? (x.add (i * s + j)) = some u) :
    ∃ e, Sl w e s (some x) len (((List.range len).map f).flatMap E) := by
  have hlen : (((List.range len).map f).flatMap E).length = len * s := by rw [cells_len E s hE]; simp
  by_cases h0 : len = 0
  · subst h0
    exact ⟨0, Sl.nil w 0 s (some x)⟩
  · have h00 : 0 < (E (f 0)).length := by rw [hE]; exact hs
    have hx := hc 0 (by omega) 0 _ (List.getElem?_eq_getElem h00)
    have e0 : x.add (0 * s + 0) = x := by simp [Addr.add]
    rw [e0] at hx
    obtain ⟨b, off, sp⟩ := x
    unfold World.cell? at hx
    cases hb : w.heap[b]? with
    | none => rw [hb] at hx; simp at hx
    | some o =>
      rw [hb] at hx
      cases o with
      | cells cs e fz =>
        cases sp with
        | some s => simp at hx
        | none =>
          refine ⟨e, hlen, fun _ => ⟨b, off, cs, fz, rfl, hb, fun j u hu => ?_⟩⟩
          have hj : j < len * s := by
            rcases Nat.lt_or_ge j (len * s) with h | h
            · exact h
            · rw [List.getElem?_eq_none (by rw [hlen]; exact h)] at hu; cases hu
          have hk : j / s < len := by rw [Nat.div_lt_iff_lt_mul hs]; exact hj
          have e1 := cells_get E s hE ((List.range len).map f) (j / s) (j % s) (by simpa using hk) (Nat.mod_lt _ hs)
          have ej : j / s * s + j % s = j := by rw [Nat.mul_comm]; exact Nat.div_add_mod j s
          rw [ej] at e1
          rw [e1] at hu
          simp only [List.getElem_map, List.getElem_range] at hu
          have := hc (j / s) hk (j % s) u hu
          rw [ej, addr_lit, cell_of_row w b _ cs e fz hb] at this
          exact this
      | _ => simp at hx

section
variable {H : Type} {enc : TypeId × Value → H} {w : World} {base : Nat} {spare : Nat → Bool} {held : Bool}
theorem one_at {cs : List Value} {n j : Nat} (hl : cs.length = n) (hj : j < n) : ∃ v, cs[j]? = some v ∧ (cs.drop j).take 1 = [v] := by
  have h : j < cs.length := by omega
  refine ⟨cs[j], List.getElem?_eq_getElem h, ?_⟩
  rw [List.drop_eq_getElem_cons h]; rfl
theorem kB : Try.prog.cellsOf 4 = 1 := by kernel_rfl
theorem kI : Try.prog.cellsOf 2 = 1 := by kernel_rfl
theorem kJ : Try.prog.cellsOf 3 = 1 := by kernel_rfl
theorem kA : Try.prog.cellsOf 30 = 3 := by kernel_rfl
theorem act_open {fuel : Nat} {cs : List Value} {x : DataW H × List MemPlace} (hl : cs.length = 3) (h : DataW.trod enc Try.prog w base spare held fuel 30 cs = some x) :
    ∃ a : Ac, cs = a.E := by
  obtain ⟨ys, n, _, _, _, hyl, hf⟩ := DataW.trod_struct Try.underlying30 h
  match cs, hl with
  | [c0, c1, c2], _ =>
    have g0 := hf 0 _ rfl
    have g1 := hf 1 _ rfl
    have g2 := hf 2 _ rfl
    match ys, hyl with
    | [y0, y1, y2], _ =>
      have g0' : DataW.trod enc Try.prog w base spare held n 4 [c0] = some y0 := by simpa [kB, kI, kJ, kA] using g0
      have g1' : DataW.trod enc Try.prog w base spare held n 2 [c1] = some y1 := by simpa [kB, kI, kJ, kA] using g1
      have g2' : DataW.trod enc Try.prog w base spare held n 2 [c2] = some y2 := by simpa [kB, kI, kJ, kA] using g2
      obtain ⟨b, hb, _⟩ := DataW.trod_bool Try.underlying4 g0'
      obtain ⟨i1, h1, _⟩ := DataW.trod_int Try.underlying2 g1'
      obtain ⟨i2, h2, _⟩ := DataW.trod_int Try.underlying2 g2'
      refine ⟨⟨b, i1, i2⟩, ?_⟩
      simp only [List.cons.injEq, and_true] at hb h1 h2
      rw [hb, h1, h2]; rfl
theorem deed_open {fuel : Nat} {cs : List Value} {x : DataW H × List MemPlace} (hl : cs.length = 6) (h : DataW.trod enc Try.prog w base spare held fuel 32 cs = some x) :
    ∃ d : Dd, cs = d.E ∧ wf64 d.ticket ∧ wf64 d.value := by
  obtain ⟨ys, n, _, _, _, hyl, hf⟩ := DataW.trod_struct Try.underlying32 h
  match cs, hl with
  | [c0, c1, c2, c3, c4, c5], _ =>
    have g0 := hf 0 _ rfl
    have g1 := hf 1 _ rfl
    have g2 := hf 2 _ rfl
    have g3 := hf 3 _ rfl
    match ys, hyl with
    | [y0, y1, y2, y3], _ =>
      have g0' : DataW.trod enc Try.prog w base spare held n 3 [c0] = some y0 := by simpa [kB, kI, kJ, kA] using g0
      have g1' : DataW.trod enc Try.prog w base spare held n 2 [c1] = some y1 := by simpa [kB, kI, kJ, kA] using g1
      have g2' : DataW.trod enc Try.prog w base spare held n 2 [c2] = some y2 := by simpa [kB, kI, kJ, kA] using g2
      have g3' : DataW.trod enc Try.prog w base spare held n 30 [c3, c4, c5] = some y3 := by simpa [kB, kI, kJ, kA] using g3
      obtain ⟨i0, h0, _⟩ := DataW.trod_int Try.underlying3 g0'
      obtain ⟨i1, h1, _, w1⟩ := DataW.trod_int Try.underlying2 g1'
      obtain ⟨i2, h2, _, w2⟩ := DataW.trod_int Try.underlying2 g2'
      obtain ⟨a, ha⟩ := act_open rfl g3'
      refine ⟨⟨i0, i1, i2, a⟩, ?_, w1, w2⟩
      simp only [List.cons.injEq, and_true] at h0 h1 h2
      show c0 :: c1 :: c2 :: [c3, c4, c5] = _
      rw [ha, h0, h1, h2]; rfl
theorem deeds_open {fuel : Nat} {v : Value} {x : DataW H × List MemPlace} (h : DataW.trod enc Try.prog w base spare held fuel 24 [v] = some x) :
    ∃ (A : Option Addr) (n c : Nat), v = .slice A n c ∧ n ≤ c ∧ n ≤ 9223372036854775807 ∧ ∃ l : List Dd, l.length = n ∧ Ds w A l ∧ wfl l := by
  rcases Go.Deep.open_slice Try.underlying24 h with ⟨hcs, _⟩ | ⟨a, len, cap, m, n, D, Pl, hcs, _, hlc, hcm, hmx, _, hi⟩
  · obtain rfl : v = .slice none 0 0 := by simpa using hcs
    exact ⟨none, 0, 0, rfl, Nat.le_refl _, by omega, [], rfl, ds_nil w none, wfl_nil⟩
  · obtain rfl : v = .slice (some a) len cap := by simpa using hcs
    have hlm : len ≤ m := by rw [hmx]; split <;> omega
    refine ⟨some a, len, cap, rfl, hlc, by unfold maxLen at hcm; omega, ?_⟩
    have hce : Try.prog.cellsOf 32 = 6 := by kernel_rfl
    have each : ∀ i, ∃ d : Dd, i < len → (∀ j u, d.E[j]? = some u → w.cell? (a.add (i * 6 + j)) = some u) ∧ wf64 d.ticket ∧ wf64 d.value := by
      intro i
      by_cases hil : i < len
      · obtain ⟨cs', hc, ht'⟩ := hi i (by omega)
        rw [hce] at hc
        obtain ⟨_, hcl, hat⟩ := World.cells?_some hc
        obtain ⟨d, hd, w1, w2⟩ := deed_open hcl ht'
        refine ⟨d, fun _ => ⟨fun j u hu => ?_, w1, w2⟩⟩
        have hj : j < 6 := by
          rcases Nat.lt_or_ge j 6 with h | h
          · exact h
          · rw [List.getElem?_eq_none (by show 6 ≤ j; exact h)] at hu; cases hu
        have := hat j hj
        rw [hd, hu, addr_add] at this
        exact this
      · exact ⟨default, fun h => absurd h hil⟩
    obtain ⟨f, hf⟩ := Classical.axiomOfChoice each
    obtain ⟨e', hs⟩ := sl_of_recs Dd.E 6 (by omega) (fun _ => rfl) (w := w) (x := a) (len := len) (f := f) (fun i hi => (hf i hi).1)
    refine ⟨(List.range len).map f, by simp, ⟨e', by rw [List.length_map, List.length_range]; exact hs⟩, ?_⟩
    intro d hd
    obtain ⟨i, hi, rfl⟩ := List.mem_map.1 hd
    exact (hf i (List.mem_range.1 hi)).2
end
end Go.Proofs.Ytpbelnbknnhgnaa
