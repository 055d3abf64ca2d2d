/- Other names, and garbage: the normal form is the same. Plain Lean. -/
import Derived.Test.YtldabchaflnmdaaCn2
namespace Go.Proofs.Ytldabchaflnmdaa
open Go.RowKit

/-- The heaps and values that are made for the statements. -/
def VOk (v : Vl) : Prop := -9 ≤ v.n ∧ v.n ≤ 11 ∧ (v.r = true → 0 ≤ v.n)
structure HOk (h : List Ob) : Prop where
  size : h.length ≤ 5
  ids : ∀ o ∈ h, 1 ≤ o.id ∧ o.id ≤ 100
  fields : ∀ o ∈ h, o.fs.length ≤ 3 ∧ ∀ v ∈ o.fs, VOk v
  nodup : (h.map Ob.id).Nodup

def nm (add : Int) (turn : Bool) (id : Int) : Int := if turn then 1000 - 3 * id else 7 * id + add + 20
def nmV (add : Int) (turn : Bool) (v : Vl) : Vl := if v.r = true ∧ v.n ≠ 0 then ⟨true, nm add turn v.n⟩ else v
def nmO (add : Int) (turn : Bool) (o : Ob) : Ob := ⟨nm add turn o.id, o.fs.map (nmV add turn)⟩
def nmH (add : Int) (turn : Bool) (h : List Ob) : List Ob := h.foldl (fun x o => hput x (nmO add turn o)) []
theorem nm_inj {add : Int} {turn : Bool} {a b : Int} (h : nm add turn a = nm add turn b) : a = b := by
  unfold nm at h; split at h <;> omega
theorem nm_pos {add : Int} {turn : Bool} {a : Int} (h0 : 0 ≤ add) (h1 : 1 ≤ a) (h2 : a ≤ 100) : nm add turn a ≠ 0 := by
  unfold nm; split <;> omega
theorem hget_fold (add : Int) (turn : Bool) (i : Int) : ∀ (l : List Ob) (x0 : List Ob), (l.map Ob.id).Nodup →
    hget (l.foldl (fun x o => hput x (nmO add turn o)) x0) i = match l.find? (fun o => nm add turn o.id == i) with | some o => some (nmO add turn o) | none => hget x0 i
  | [], x0, _ => by simp
  | o :: l, x0, hn => by
    rw [List.map_cons, List.nodup_cons] at hn
    rw [List.foldl_cons, hget_fold add turn i l _ hn.2]
    by_cases e : nm add turn o.id = i
    · rw [List.find?_cons_of_pos (by simpa using e)]
      have hno : l.find? (fun o => nm add turn o.id == i) = none := by
        rw [List.find?_eq_none]
        intro y hy he
        have he' : nm add turn y.id = i := by simpa using he
        have := nm_inj (he'.trans e.symm)
        exact hn.1 (this ▸ List.mem_map_of_mem hy)
      rw [hno]
      simp only
      rw [hget_put]
      exact if_pos e
    · rw [List.find?_cons_of_neg (by simpa using e)]
      cases l.find? (fun o => nm add turn o.id == i) with
      | some y => rfl
      | none =>
        simp only
        rw [hget_put]
        exact if_neg e
theorem hget_nmH {add : Int} {turn : Bool} {h : List Ob} (hh : HOk h) (n : Int) : hget (nmH add turn h) (nm add turn n) = (hget h n).map (nmO add turn) := by
  unfold nmH
  rw [hget_fold add turn _ h [] hh.nodup]
  have e : (fun o : Ob => nm add turn o.id == nm add turn n) = fun o : Ob => o.id == n := by
    funext o
    rw [Bool.eq_iff_iff]
    simp only [beq_iff_eq]
    exact ⟨nm_inj, fun e => by rw [e]⟩
  rw [e]
  unfold hget
  cases h.find? (fun o => o.id == n) <;> simp
theorem hget_nmH_zero {add : Int} {turn : Bool} {h : List Ob} (hh : HOk h) (h0 : 0 ≤ add) : hget (nmH add turn h) 0 = none := by
  unfold nmH
  rw [hget_fold add turn _ h [] hh.nodup]
  have : h.find? (fun o => nm add turn o.id == 0) = none := by
    rw [List.find?_eq_none]
    intro o ho he
    have := hh.ids o ho
    exact nm_pos h0 this.1 this.2 (by simpa using he)
  rw [this]
  rfl
theorem reached_ok {h : List Ob} (hh : HOk h) {roots : List Vl} (hr : ∀ v ∈ roots, VOk v) {v : Vl} (hv : v ∈ roots ∨ ∃ o ∈ hfind h roots, v ∈ o.fs) : VOk v := by
  rcases hv with hv | ⟨o, ho, hv⟩
  · exact hr v hv
  · exact (hh.fields o (hget_mem ((Found.find h roots).get o ho))).2 v hv
theorem renamed_alike {add : Int} {turn : Bool} {h : List Ob} (hh : HOk h) (h0 : 0 ≤ add) {roots : List Vl} (hr : ∀ v ∈ roots, VOk v) : Alike h (nmH add turn h) roots (nmO add turn) (nmV add turn) := by
  refine ⟨fun v => ?_, fun v hf => ?_, fun o _ => rfl, fun v hv ht hg => ?_, fun v hv ht o hg => ?_, fun v hv ht o ho => ?_⟩
  · unfold nmV; split <;> simp_all
  · unfold nmV; rw [if_neg (by simp [hf])]
  · unfold nmV
    by_cases hz : v.n = 0
    · rw [if_neg (by simp [hz]), hz]; exact hget_nmH_zero hh h0
    · rw [if_pos ⟨ht, hz⟩]
      simp only
      rw [hget_nmH hh, hg]; rfl
  · have hid := hget_id hg
    have hb := hh.ids o (hget_mem hg)
    unfold nmV
    rw [if_pos ⟨ht, by omega⟩]
    simp only
    rw [hget_nmH hh, hg]; rfl
  · have hb := hh.ids o (hget_mem ((Found.find h roots).get o ho))
    unfold nmV nmO
    by_cases hz : v.n = 0
    · rw [if_neg (by simp [hz]), hz]
      have := nm_pos (add := add) (turn := turn) h0 hb.1 hb.2
      constructor
      · intro e; exact absurd e this
      · intro e; omega
    · rw [if_pos ⟨ht, hz⟩]
      exact ⟨fun e => nm_inj e, fun e => by simp only [e]⟩
/-- Other names do not matter. -/
theorem canon_renamed {add : Int} {turn : Bool} {h : List Ob} (hh : HOk h) (h0 : 0 ≤ add) {roots : List Vl} (hr : ∀ v ∈ roots, VOk v) : hcanon (nmH add turn h) (roots.map (nmV add turn)) = hcanon h roots :=
  (renamed_alike hh h0 hr).canon
/-- An object that nobody refers to does not matter. -/
theorem canon_garbage {h : List Ob} (hh : HOk h) {roots : List Vl} (hr : ∀ v ∈ roots, VOk v) (o : Ob) (ho : o.id = 5000) : hcanon (hput h o) roots = hcanon h roots := by
  have A : Alike h (hput h o) roots (fun o => o) (fun v => v) := by
    refine ⟨fun v => rfl, fun v _ => rfl, fun o _ => by simp, fun v hv ht hg => ?_, fun v hv ht p hg => ?_, fun v hv ht p hp => Iff.rfl⟩
    · have := reached_ok hh hr hv
      rw [hget_put, if_neg (by have := this.2.1; omega)]; exact hg
    · have := reached_ok hh hr hv
      rw [hget_put, if_neg (by have := this.2.1; omega)]; exact hg
  have := A.canon
  rwa [List.map_id'] at this
end Go.Proofs.Ytldabchaflnmdaa
