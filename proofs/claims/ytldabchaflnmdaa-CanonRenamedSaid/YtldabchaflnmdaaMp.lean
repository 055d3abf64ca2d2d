/- A map of numbers that a call has made: as a function. -/
import Derived.Test.YtldabchaflnmdaaDice
import Derived.Maps.Own
import Derived.Maps.Views
namespace Go.Proofs.Ytldabchaflnmdaa
open Go.RowKit Go.Maps

theorem zeroI64 (w : World) : (zeroValue 2).run Try.prog w = .ok (.int .i64 0) w := by kernel_rfl
/-- Block b is a map of at most n entries that answers as f does. -/
def Mp (w : World) (b n : Nat) (f : Int → Int) : Prop :=
  ∃ D : DataW Unit, w.ownsMap Try.prog 2 (plainElem Try.prog 2) b n D ∧ IsMap D ∧ ∀ id : Int, (Lit.int .i64 id).wf = true → D.atKey (.int .i64 id) (.lit (.int .i64 0)) = .lit (.int .i64 (f id))
section
variable {w w' : World} {b n : Nat} {f : Int → Int}
theorem Mp.made (w : World) : Mp (w.alloc (.map #[] 0)) w.heap.size 0 (fun _ => 0) :=
  ⟨.map [], World.ownsMap_made w _ _ _, ⟨[], rfl⟩, fun id _ => rfl⟩
theorem Mp.lt (h : Mp w b n f) : b < w.heap.size := by obtain ⟨D, h1, _⟩ := h; exact h1.lt
theorem Mp.keep (h : Mp w b n f) (hb : w'.heap[b]? = w.heap[b]?) : Mp w' b n f := by
  obtain ⟨D, ⟨es, clock, h1, h2⟩, h3⟩ := h
  exact ⟨D, ⟨es, clock, hb.trans h1, h2⟩, h3⟩
theorem Mp.gr {M : List Nat} (h : Mp w b n f) (hg : Gr M w w') (hb : b ∉ M) : Mp w' b n f := h.keep (hg.block b h.lt hb)
theorem Mp.app {base : Nat} {e : TypeId} (h : Mp w b n f) (k : App base e w w') : Mp w' b n f := by
  obtain ⟨D, ⟨es, clock, h1, h2⟩, h3⟩ := h
  exact ⟨D, ⟨es, clock, k.keep b _ h1 (.inr fun cs fz he => by cases he), h2⟩, h3⟩
theorem Mp.one {g : Nat} {t : TypeId} {cs : Array Value} (h : Mp w b n f) (hk : Bk w g t cs) (hg : Gr [g] w w') : Mp w' b n f := by
  refine h.gr hg ?_
  obtain ⟨D, ⟨es, clock, h1, h2⟩, h3⟩ := h
  intro hb
  have : b = g := by simpa using hb
  subst this
  unfold Bk at hk
  rw [hk] at h1; cases h1
theorem Mp.not_cells (h : Mp w b n f) : ∀ e cs fz, w.heap[b]? ≠ some (.cells cs e fz) := by
  obtain ⟨D, ⟨es, clock, h1, h2⟩, h3⟩ := h
  intro e cs fz he
  rw [he] at h1; cases h1
theorem Mp.ne_bk {g : Nat} {t : TypeId} {cs : Array Value} (h : Mp w b n f) (hk : Bk w g t cs) : g ≠ b := by
  rintro rfl
  exact h.not_cells _ _ _ hk
theorem own_map {base : Nat} {e : TypeId} {size : Nat} {v : Value} {k : Nat} {xs : List Value} (h : w.ownsRow base e size v k xs) (hm : Mp w b n f) (hg : Gr [b] w w') : w'.ownsRow base e size v k xs := by
  refine h.kept hg.to_grown ?_
  rcases h.2 with ⟨rfl, _⟩ | ⟨g', cap, cur, rfl, _, hh, _⟩
  · exact .inl rfl
  · right
    intro he
    have : g' = b := by simpa [Value.ownBlock] using he
    subst this
    exact hm.not_cells _ _ _ hh
theorem Mp.lookup (h : Mp w b n f) {id : Int} (hw : (Lit.int .i64 id).wf = true) : (Instr.lookup 54 (.map (some b)) (.int .i64 id) false).run Try.prog w = .ok (.int .i64 (f id)) w := by
  obtain ⟨D, h1, h2, h3⟩ := h
  obtain ⟨c, hrun, hat, _⟩ := h1.lookup_int (int_keyed Try.underlying2) Try.underlying54 Try.underlying2 (zeroI64 w) (keyOf_int_mk Try.underlying2 hw)
  rw [h3 id hw] at hat
  injection hat with hat
  injection hat with _ hat
  rw [hat]; exact hrun
theorem Mp.update (h : Mp w b n f) (hn : n < maxLen) {id v : Int} (hw : (Lit.int .i64 id).wf = true) (hv : (Lit.int .i64 v).wf = true) :
    ∃ w', (Instr.mapUpdate 54 (.map (some b)) (.int .i64 id) (.int .i64 v)).run Try.prog w = .ok () w' ∧ Mp w' b (n + 1) (fun i => if i = id then v else f i) ∧ w.grownBy w' (some b) := by
  obtain ⟨D, h1, h2, h3⟩ := h
  obtain ⟨w', hrun, h4, h5⟩ := h1.update (int_keyed Try.underlying2) Try.underlying54 hn (keyOf_int_mk Try.underlying2 hw) (plainElem_int Try.underlying2 hv)
  refine ⟨w', hrun, ⟨_, h4, h2.put _ _, fun i hi => ?_⟩, h5⟩
  by_cases he : i = id
  · subst he
    show _ = DataW.lit (.int .i64 (if i = i then v else f i))
    rw [if_pos rfl]
    exact atKey_put_same (k := .int .i64 i) h2 trivial _ _
  · show _ = DataW.lit (.int .i64 (if i = id then v else f i))
    rw [if_neg he, atKey_put_other (by intro e; injection e with _ e; exact he e)]
    exact h3 i hi
end
end Go.Proofs.Ytldabchaflnmdaa
