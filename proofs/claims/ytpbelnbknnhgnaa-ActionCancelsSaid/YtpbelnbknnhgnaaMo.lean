/- A map of numbers of the call's own, as a partial function. -/
import Derived.Test.YtpbelnbknnhgnaaDice
import Derived.Maps.OwnSet
import Derived.Maps.Views
import Derived.Maps.RangeWalk
namespace Go.Proofs.Ytpbelnbknnhgnaa
open Go.RowKit Go.Maps

def wf64 (n : Int) : Prop := (Lit.int .i64 n).wf = true
theorem zeroI64 (w : World) : (zeroValue 2).run Try.prog w = .ok (.int .i64 0) w := by kernel_rfl
abbrev MK : Keyed Try.prog 2 := int_keyed Try.underlying2
/-- D answers as f does. -/
def Ans (D : DataW Unit) (f : Int → Option Int) : Prop := ∀ id : Int, wf64 id → has D (.int .i64 id) = (f id).isSome ∧ D.atKey (.int .i64 id) (.lit (.int .i64 0)) = .lit (.int .i64 ((f id).getD 0))
/-- Block b is a map of at most n entries that answers as f does. -/
def Mo (w : World) (b n : Nat) (f : Int → Option Int) : Prop :=
  ∃ D : DataW Unit, w.ownsMap Try.prog 2 (plainElem Try.prog 2) b n D ∧ Ans D f
section
variable {w w' : World} {b n : Nat} {f : Int → Option Int}
theorem Mo.made (w : World) : Mo (w.alloc (.map #[] 0)) w.heap.size 0 (fun _ => none) :=
  ⟨.map [], World.ownsMap_made w _ _ _, fun id _ => ⟨rfl, rfl⟩⟩
theorem Mo.lt (h : Mo w b n f) : b < w.heap.size := by obtain ⟨D, h1, _⟩ := h; exact h1.lt
theorem Mo.keep (h : Mo w b n f) (hb : w'.heap[b]? = w.heap[b]?) : Mo w' b n f := by
  obtain ⟨D, ⟨es, clock, h1, h2⟩, h3⟩ := h
  exact ⟨D, ⟨es, clock, hb.trans h1, h2⟩, h3⟩
theorem Mo.gr {M : List Nat} (h : Mo w b n f) (hg : Gr M w w') (hb : b ∉ M) : Mo w' b n f := h.keep (hg.block b h.lt hb)
theorem Mo.not_cells (h : Mo w b n f) : ∀ e cs fz, w.heap[b]? ≠ some (.cells cs e fz) := by
  obtain ⟨D, ⟨es, clock, h1, h2⟩, h3⟩ := h
  intro e cs fz he
  rw [he] at h1; cases h1
theorem Ans.put {D : DataW Unit} (h : Ans D f) (hD : IsMap D) (id v : Int) : Ans (D.put (.int .i64 id) (.lit (.int .i64 v))) (fun i => if i = id then some v else f i) := by
  intro i hi
  show _ = (if i = id then some v else f i).isSome ∧ _ = DataW.lit (.int .i64 ((if i = id then some v else f i).getD 0))
  by_cases he : i = id
  · subst he
    rw [if_pos rfl]
    exact ⟨has_put_same (k := .int .i64 i) hD trivial _, atKey_put_same (k := .int .i64 i) hD trivial _ _⟩
  · rw [if_neg he]
    have hne : (Lit.int .i64 i) ≠ (Lit.int .i64 id) := by intro e; injection e with _ e; exact he e
    rw [has_put_other hne, atKey_put_other hne]
    exact h i hi
theorem Ans.del {D : DataW Unit} (h : Ans D f) (id : Int) : Ans (D.del (.int .i64 id)) (fun i => if i = id then none else f i) := by
  intro i hi
  show _ = (if i = id then none else f i).isSome ∧ _ = DataW.lit (.int .i64 ((if i = id then none else f i).getD 0))
  by_cases he : i = id
  · subst he
    rw [if_pos rfl]
    exact ⟨has_del_same, atKey_del_same _⟩
  · rw [if_neg he]
    have hne : (Lit.int .i64 i) ≠ (Lit.int .i64 id) := by intro e; injection e with _ e; exact he e
    rw [has_del_other hne, atKey_del_other hne]
    exact h i hi
/-- 'v, ok := m[id]'. -/
theorem Mo.look (h : Mo w b n f) {id : Int} (hw : wf64 id) : (Instr.lookup 43 (.map (some b)) (.int .i64 id) true).run Try.prog w = .ok (.tuple #[.int .i64 ((f id).getD 0), .bool (f id).isSome]) w := by
  obtain ⟨D, h1, h2⟩ := h
  obtain ⟨v, ps, hrun, hv⟩ := h1.look_ok MK Try.underlying43 (zeroI64 w) (plainElem_int Try.underlying2 (a := 0) rfl) (keyOf_int_mk Try.underlying2 hw)
  obtain ⟨h3, h4⟩ := h2 id hw
  rw [h4] at hv
  obtain ⟨c, rfl, hc, _⟩ := plainElem_int_inv Try.underlying2 hv
  have hc := congrArg Prod.fst hc
  injection hc with hc
  injection hc with _ hc
  rw [hrun, h3, hc]
theorem Mo.update (h : Mo w b n f) (hn : n < maxLen) {id v : Int} (hw : wf64 id) (hv : wf64 v) :
    ∃ w', (Instr.mapUpdate 43 (.map (some b)) (.int .i64 id) (.int .i64 v)).run Try.prog w = .ok () w' ∧ Mo w' b (n + 1) (fun i => if i = id then some v else f i) ∧ w.grownBy w' (some b) := by
  obtain ⟨D, h1, h2⟩ := h
  obtain ⟨w', hrun, h4, h5⟩ := h1.update MK Try.underlying43 hn (keyOf_int_mk Try.underlying2 hw) (plainElem_int Try.underlying2 hv)
  exact ⟨w', hrun, ⟨_, h4, h2.put h1.isMap id v⟩, h5⟩
theorem Mo.drop (h : Mo w b n f) {id : Int} (hw : wf64 id) (ty : TypeId) :
    ∃ w', (Builtin.delete_ #[43, 2] ty #[.map (some b), .int .i64 id]).run Try.prog w = .ok (.tuple #[]) w' ∧ Mo w' b n (fun i => if i = id then none else f i) ∧ w.grownBy w' (some b) := by
  obtain ⟨D, h1, h2⟩ := h
  obtain ⟨w', hrun, h4, h5⟩ := h1.drop MK Try.underlying43 (keyOf_int_mk Try.underlying2 hw) ty
  exact ⟨w', hrun, ⟨_, h4, h2.del id⟩, h5.grown⟩
end
end Go.Proofs.Ytpbelnbknnhgnaa
