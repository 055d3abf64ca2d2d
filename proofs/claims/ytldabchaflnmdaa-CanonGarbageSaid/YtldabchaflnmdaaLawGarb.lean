/- The law CanonGarbage holds for every input: the statement as it is given, proved. No conditions. -/
import Derived.Test.YtldabchaflnmdaaRows
import Derived.Test.YtldabchaflnmdaaGarb
import Derived.WalkKit
import Derived.ProofKit
import Derived.OpenShut
import Derived.ShutString
import Derived.ChangeOld
import Derived.Below
import Derived.Deep.SlicePairs
import Derived.Lib.SmallJoins
namespace Go.Proofs.Ytldabchaflnmdaa.canonGarbage
open Go.ChangeShapes Go.WideShapes Go.ChangeAt Go.RowKit
open Go.ChangeMaps (open_string shut_string)
set_option linter.unusedVariables false

theorem own : ownKnob Try.prog.godebug = none := by kernel_rfl
theorem laidOut : laidOutB Try.prog = true := by kernel_rfl

def IsRow (k : IntKind) (w : World) (a : Option Addr) (len cap : Nat) (zs : List Int) : Prop :=
  (a = none ∧ len = 0 ∧ cap = 0 ∧ zs = []) ∨
  ∃ x, a = some x ∧ len ≤ cap ∧ cap ≤ maxLen ∧ zs.length = cap ∧ (∀ i, i < zs.length → w.cell? (x.add i) = some (.int k (zs.getD i 0))) ∧ ∀ n ∈ zs, (Lit.int k n).wf = true

theorem sl_of_pairs {w : World} {x : Addr} {len : Nat} {f : Nat → Vl} (hc : ∀ i, i < len → w.cell? (x.add (i * 2)) = some (.bool (f i).r) ∧ w.cell? (x.add (i * 2 + 1)) = some (.int .i64 (f i).n)) :
    ∃ e, Sl w e 2 (some x) len (vcells ((List.range len).map f)) := by
  by_cases h0 : len = 0
  · subst h0
    exact ⟨0, Sl.nil w 0 2 (some x)⟩
  · have hx := (hc 0 (by omega)).1
    have e0 : x.add (0 * 2) = x := by simp [Addr.add]
    rw [e0] at hx
    obtain ⟨b, off, sp⟩ := x
    unfold World.cell? at hx
    cases hb : w.heap[b]? with
    | none => rw [hb] at hx; simp at hx
    | some o =>
      rw [hb] at hx
      cases o with
      | cells cs e fz =>
        cases sp with
        | some s => simp at hx
        | none =>
          refine ⟨e, by rw [vcells_len]; simp, fun _ => ⟨b, off, cs, fz, rfl, hb, fun j u hu => ?_⟩⟩
          have hj : j < len * 2 := by
            rcases Nat.lt_or_ge j (len * 2) with h | h
            · exact h
            · rw [List.getElem?_eq_none (by rw [vcells_len]; simpa using h)] at hu; cases hu
          have hk : j / 2 < len := by omega
          have e1 := pair_get Vl.E (fun _ => rfl) ((List.range len).map f) (j / 2) (j % 2) (by simpa using hk) (Nat.mod_lt _ (by omega))
          rw [show j / 2 * 2 + j % 2 = j by omega] at e1
          unfold vcells at hu
          rw [e1] at hu
          simp only [List.getElem_map, List.getElem_range] at hu
          obtain ⟨ha, hb'⟩ := hc (j / 2) hk
          rw [addr_lit, cell_of_row w b _ cs e fz hb] at ha hb'
          rcases Nat.mod_two_eq_zero_or_one j with h | h
          · rw [h] at hu
            have : u = .bool (f (j / 2)).r := by simpa [Vl.E] using hu.symm
            subst this
            rw [← ha]; congr 1; omega
          · rw [h] at hu
            have : u = .int .i64 (f (j / 2)).n := by simpa [Vl.E] using hu.symm
            subst this
            rw [← hb']; congr 1; omega
      | _ => simp at hx

theorem walk (a0 : Option Addr) (len0 cap0 : Nat) (z0 : List Int) (oid : Int) (FA : Option Addr) (m fc : Nat) (w : World) (w0 : IsRow .u8 w a0 len0 cap0 z0) (hf : m ≤ 50 → ∃ (fs : List Vl) (e' : TypeId), fs.length = m ∧ Sl w e' 2 FA fs.length (vcells fs) ∧ VW fs) :
    Calls Try.prog 5 #[.slice a0 len0 cap0, .agg #[.int .i64 oid, .slice FA m fc]] w fun e w' => e = .returned (.bool true) ∧ Below w.heap.size w w' := by
  rcases w0 with ⟨rfl, rfl, rfl, rfl⟩ | ⟨x, rfl, hlc, hcm, hzl, hcell, hwf⟩
  · refine (garb_any none 0 0 [] oid FA m fc w 0 (Sl.nil _ _ _ _) (fun j => by simp) (by omega) (by omega) hf).mono fun e w' h => ⟨h.1, h.2.to_below⟩
  · obtain ⟨e5, hs⟩ := sl_of_cells (len := len0) (by omega) hcell
    refine (garb_any (some x) len0 cap0 (z0.take len0) oid FA m fc w e5 hs (take_bd hwf) hlc (by unfold maxLen at hcm; omega) hf).mono fun e w' h => ⟨h.1, h.2.to_below⟩

set_option maxRecDepth 100000 in
theorem lifted (os : Go.Os) (started : os.Started) (H : Type) (enc : TypeId × Value → H) :
    ReturnsInHanded {} Try.checked os 5 .any (Rows.canonGarbageSpec.pre6 enc Try.prog Try.f5 Rows.canonGarbageRow.domain false) (Rows.canonGarbageSpec.post enc Try.prog Try.f5 false true false false) := by
  refine returnsInHanded_of_change (C := Try.checked) own started (by kernel_rfl) Try.func5
    (ChangeSpec.witness6 (enc := enc) (C := Try.checked) false ⟨#[], #[.slice none 0 0, .agg #[.int .i64 0, .slice none 0 0]], []⟩ 8 (by kernel_rfl) (by kernel_rfl) (by kernel_rfl) (by kernel_rfl)) ?_
  intro W base args ds gs before hval0 hW hcnd _
  have hval : ∀ (j : Nat) t v, Try.f5.params[j]? = some t → args[j]? = some v → Value.okWide Try.prog W .any base t v := hval0
  have hW' := hW
  obtain ⟨p, q, hA0, hV, rfl, hfz, hnd⟩ := hW
  have hA : DataW.TrodAll enc Try.prog W 0 (fun _ => true) true Try.f5.params.toList args.toList ds p := hA0
  rw [Try.params5] at hA hval
  obtain ⟨v0, vs0, d0, ds0, p0, q0, hargs, rfl, rfl, h0, r0⟩ := trodAll_cons hA
  obtain ⟨v1, vs1, d1, ds1, p1, q1, rfl, rfl, rfl, h1, r1⟩ := trodAll_cons r0
  obtain ⟨rfl, rfl, rfl⟩ := trodAll_nil r1
  obtain rfl : args = #[v0, v1] := by cases args; simp_all
  obtain ⟨rfl, rfl⟩ := trodVars_none hV
  obtain ⟨a0, len0, cap0, rfl⟩ := okWide_slice Try.underlying22 (hval 0 22 v0 rfl rfl)
  have k0 := h0
  have lt0 : ∀ x ∈ p0, x.block < W.heap.size := by obtain ⟨m, hm⟩ := k0; exact DataW.trod_lt m _ _ _ hm
  obtain ⟨z0, w0⟩ : ∃ zs, IsRow .u8 W a0 len0 cap0 zs := by
    obtain ⟨fuel, hf⟩ := h0
    rcases open_ints Try.underlying22 Try.underlying5 (by kernel_rfl) hf with ⟨hcs, _⟩ | ⟨x, l, c, zs, hcs, _, hl, hm, hz, _, hcell, hwz⟩
    · simp [Value.cells] at hcs
      obtain ⟨rfl, rfl, rfl⟩ := hcs
      exact ⟨[], .inl ⟨rfl, rfl, rfl, rfl⟩⟩
    · simp [Value.cells] at hcs
      obtain ⟨rfl, rfl, rfl⟩ := hcs
      exact ⟨zs, .inr ⟨_, rfl, hl, hm, by simpa using hz, hcell, hwz⟩⟩
  have k1 := h1
  have lt1 : ∀ x ∈ p1, x.block < W.heap.size := by obtain ⟨m, hm⟩ := k1; exact DataW.trod_lt m _ _ _ hm
  obtain ⟨c0, c1, y0, y1, mm, rfl, hd1, hp1, hy0, hy1⟩ := Go.Joins.open_agg2 Try.underlying43 (by kernel_rfl) (by kernel_rfl) (hval 1 43 v1 rfl rfl) h1
  obtain ⟨oid, hc0, _, _⟩ := DataW.trod_int Try.underlying2 hy0
  obtain rfl : c0 = .int .i64 oid := by simpa using hc0
  obtain ⟨FA, m, fc, rfl, hf⟩ : ∃ (FA : Option Addr) (m fc : Nat), c1 = .slice FA m fc ∧ (m ≤ 50 → ∃ (fs : List Vl) (e' : TypeId), fs.length = m ∧ Sl W e' 2 FA fs.length (vcells fs) ∧ VW fs) := by
    rcases Go.Deep.open_slice_pairs Try.underlying33 Try.underlying31 (by kernel_rfl) rfl rfl (by kernel_rfl) (by kernel_rfl) hy1 with ⟨hcs, _⟩ | ⟨a, len, cap, mx, n, V0, V1, D0, D1, P0, P1, hcs, _, hlc, hcm, hmx, _, hx⟩
    · obtain rfl : c1 = .slice none 0 0 := by simpa using hcs
      exact ⟨none, 0, 0, rfl, fun _ => ⟨[], 0, rfl, Sl.nil _ _ _ _, by intro v hv; simp at hv⟩⟩
    · obtain rfl : c1 = .slice (some a) len cap := by simpa using hcs
      refine ⟨some a, len, cap, rfl, fun _ => ?_⟩
      have hlm : len ≤ mx := by rw [hmx]; split <;> omega
      have each : ∀ i, ∃ v : Vl, i < mx → V0 i = .bool v.r ∧ V1 i = .int .i64 v.n ∧ wf64 v.n := by
        intro i
        by_cases hi : i < mx
        · obtain ⟨_, _, ht0, ht1⟩ := hx i hi
          obtain ⟨b, hb, _⟩ := DataW.trod_bool Try.underlying4 ht0
          obtain ⟨n', hn', _, hw⟩ := DataW.trod_int Try.underlying2 ht1
          exact ⟨⟨b, n'⟩, fun _ => ⟨by simpa using hb, by simpa using hn', hw⟩⟩
        · exact ⟨default, fun h => absurd h hi⟩
      obtain ⟨f, hff⟩ := Classical.axiomOfChoice each
      obtain ⟨e', hs⟩ := sl_of_pairs (w := W) (x := a) (len := len) (f := f) (fun i hi => by
        obtain ⟨hx0, hx1, _, _⟩ := hx i (by omega)
        obtain ⟨h0, h1, _⟩ := hff i (by omega)
        exact ⟨h0 ▸ hx0, h1 ▸ hx1⟩)
      refine ⟨(List.range len).map f, e', by simp, by simpa using hs, ?_⟩
      intro v hv
      obtain ⟨i, hi, rfl⟩ := List.mem_map.1 hv
      exact (hff i (by have := List.mem_range.1 hi; omega)).2.2
  clear hA0 hval0
  refine (walk a0 len0 cap0 z0 oid FA m fc W w0 hf).mono fun e W' ⟨he, bel⟩ => ?_
  subst he
  exact ⟨_, rfl, _, _, _, [], _, [], hW', trodAll_mk1 (shut_bool Try.underlying4 _), (trodAll_cons_mk (Below.trod laidOut (by kernel_rfl) (of_decide_eq_true (by kernel_rfl)) k0 bel lt0) (trodAll_cons_mk (Below.trod laidOut (by kernel_rfl) (of_decide_eq_true (by kernel_rfl)) k1 bel lt1) trodAll_mk0)), rfl, bel.frame _, fun h => by cases h⟩

theorem over : Rows.canonGarbageRow.holds Try.pinned (OpenSpec.ofChange Rows.canonGarbageSpec) :=
  OpenClaim.holds_of_wide 5 Try.f5 rfl rfl rfl rfl rfl rfl rfl ⟨rfl, rfl, rfl, rfl, rfl⟩ rfl rfl rfl rfl rfl (by kernel_rfl) Try.func5 (by kernel_rfl)
    (of_decide_eq_true (by kernel_rfl)) (by unfold Func.isWrapper; first | (rw [if_pos (by decide +kernel)]; kernel_rfl) | (rw [if_neg (by decide +kernel)]; exact ⟨rfl, rfl⟩))
    (fun os started H enc _ => lifted os started H enc)

theorem proved : Rows.CanonGarbageSaid := over
#print axioms proved
end Go.Proofs.Ytldabchaflnmdaa.canonGarbage
