/- Workers as plain data: what each change of the workers gives, in plain Lean. No program is named here. -/
import Derived.Test.YtllhlmlghkiojaaMem
namespace Go.Proofs.Ytllhlmlghkiojaa
open Go.RowKit

structure Wk where
  s : Int
  r : Int
  b : Int
  deriving DecidableEq, Inhabited
def Wk.E (x : Wk) : List Value := [.int .i64 x.s, .int .i64 x.r, .int .i64 x.b]
def wcells (l : List Wk) : List Value := l.flatMap Wk.E
theorem wcells_length (l : List Wk) : (wcells l).length = l.length * 3 := by
  induction l with
  | nil => rfl
  | cons x l ih => simp only [wcells, List.flatMap_cons, List.length_append, List.length_cons] at ih ⊢; rw [ih]; simp [Wk.E]; omega
theorem wcells_get (l : List Wk) (i j : Nat) (hi : i < l.length) (hj : j < 3) : (wcells l)[i * 3 + j]? = (l[i].E)[j]? := by
  induction l generalizing i with
  | nil => simp at hi
  | cons x l ih =>
    cases i with
    | zero => simp only [wcells, List.flatMap_cons, Nat.zero_mul, Nat.zero_add, List.getElem_cons_zero]; rw [List.getElem?_append_left (by simp [Wk.E]; omega)]
    | succ i =>
      simp only [wcells, List.flatMap_cons, List.getElem_cons_succ]
      rw [List.getElem?_append_right (by simp [Wk.E]; omega)]
      have := ih i (by simpa using hi)
      simp only [wcells] at this
      rw [← this]
      congr 1
      simp [Wk.E]; omega
theorem wcells_set (l : List Wk) (i : Nat) (x : Wk) (hi : i < l.length) :
    wcells (l.set i x) = ((((wcells l).set (i * 3) (.int .i64 x.s)).set (i * 3 + 1) (.int .i64 x.r)).set (i * 3 + 2) (.int .i64 x.b)) := by
  induction l generalizing i with
  | nil => simp at hi
  | cons y l ih =>
    cases i with
    | zero => simp [wcells, Wk.E]
    | succ i =>
      have := ih i (by simpa using hi)
      simp only [wcells] at this
      have e : (i + 1) * 3 = i * 3 + 1 + 1 + 1 := by omega
      simp [wcells, Wk.E, e, this, List.set_cons_succ]
theorem set_same {α : Type} (l : List α) (i : Nat) (x : α) (h : l[i]? = some x) : l.set i x = l := by
  apply List.ext_getElem?
  intro j
  rw [List.getElem?_set]
  by_cases hij : i = j
  · subst hij; rw [if_pos rfl, h]; simp [(List.getElem?_eq_some_iff.1 h).1]
  · rw [if_neg hij]
theorem wcells_set2 (l : List Wk) (i : Nat) (s r : Int) (hi : i < l.length) :
    wcells (l.set i ⟨s, r, l[i].b⟩) = (((wcells l).set (i * 3) (.int .i64 s)).set (i * 3 + 1) (.int .i64 r)) := by
  rw [wcells_set l i _ hi]
  refine set_same _ _ _ ?_
  rw [List.getElem?_set_ne (by omega), List.getElem?_set_ne (by omega)]
  exact wcells_get l i 2 hi (by omega)
theorem wcells_set1 (l : List Wk) (i : Nat) (s : Int) (hi : i < l.length) : wcells (l.set i ⟨s, l[i].r, l[i].b⟩) = (wcells l).set (i * 3) (.int .i64 s) := by
  rw [wcells_set2 l i s _ hi]
  refine set_same _ _ _ ?_
  rw [List.getElem?_set_ne (by omega)]
  exact wcells_get l i 1 hi (by omega)
theorem wcells_append (l m : List Wk) : wcells (l ++ m) = wcells l ++ wcells m := by simp [wcells]
theorem wcells_one (l : List Wk) : ∀ u ∈ wcells l, u.oneCell' = true := by
  intro u hu
  simp only [wcells, List.mem_flatMap, Wk.E] at hu
  obtain ⟨x, _, hu⟩ := hu
  simp at hu
  rcases hu with rfl | rfl | rfl <;> rfl

def wfind (l : List Wk) (run : Int) : Int := if run < 0 then -1 else ixFrom (fun x => x.r == run) l 0
def wset (l : List Wk) (i : Int) (f : Wk → Wk) : List Wk := l.modify i.toNat f
def wis (l : List Wk) (i : Int) (from' : List Int) : Int := if i < 0 ∨ (l.length : Int) ≤ i then 2 else if (l.getD i.toNat default).s ∈ from' then 0 else 7
def wmade (from' : List Int) (to : Int) (l : List Wk) (i : Int) : Int × List Wk :=
  if wis l i from' = 0 then (0, wset l i fun x => ⟨to, if to = 0 ∨ to = 3 then -1 else x.r, x.b⟩) else (wis l i from', [])
def wassign (l : List Wk) (i run : Int) : Int × List Wk :=
  if run < 0 then (2, []) else if wis l i [0] = 0 then (if 0 ≤ wfind l run then (6, []) else (0, wset l i fun x => ⟨1, run, x.b⟩)) else (wis l i [0], [])
def wlose (l : List Wk) (i : Int) : Int × List Wk := wmade [0, 1, 2] 3 l i
def wrestart (l : List Wk) (i : Int) : Int × List Wk := if wis l i [3] = 0 then (0, wset l i fun x => ⟨0, -1, wrap64 (x.b + 1)⟩) else (wis l i [3], [])
def wdrop (l : List Wk) (run : Int) : List Wk := if wfind l run < 0 then l else wset l (wfind l run) fun x => ⟨0, -1, x.b⟩
def wnew (n : Int) : Int × List Wk := if n < 1 ∨ 8 < n then (2, []) else (0, List.replicate n.toNat ⟨0, -1, 1⟩)
end Go.Proofs.Ytllhlmlghkiojaa
