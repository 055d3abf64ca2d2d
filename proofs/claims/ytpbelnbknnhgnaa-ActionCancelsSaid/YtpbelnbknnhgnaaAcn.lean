/- What was done outside, as plain data: which tickets are open, what is valid. Plain Lean: no program is named here. -/
import Derived.Test.YtpbelnbknnhgnaaMem
namespace Go.Proofs.Ytpbelnbknnhgnaa
open Go.RowKit

structure Ac where
  ask : Bool
  value : Int
  answer : Int
  deriving DecidableEq, Inhabited
structure Dd where
  kind : Int
  ticket : Int
  value : Int
  act : Ac
  deriving DecidableEq, Inhabited
def plainA : Ac := ⟨false, 0, 0⟩
/-- The number of tickets given, and the open ones; none: a deed is not as it must be. -/
abbrev Sc := Option (Int × (Int → Option Int))
def stepD (s : Sc) (d : Dd) : Sc :=
  match s with
  | none => none
  | some (g, op) =>
    if d.kind = 1 then (if d.ticket ≠ g + 1 ∨ d.act ≠ plainA then none else some (g + 1, fun t => if t = d.ticket then some d.value else op t))
    else if d.kind = 2 ∨ d.kind = 3 then (if op d.ticket ≠ some d.value ∨ d.act ≠ plainA then none else some (g, fun t => if t = d.ticket then none else op t))
    else if d.kind = 4 then (if d.ticket ≠ 0 ∨ d.value ≠ 0 then none else some (g, op))
    else none
def scan (l : List Dd) : Sc := l.foldl stepD (some (0, fun _ => none))
theorem scan_nil : scan [] = some (0, fun _ => none) := rfl
theorem scan_snoc (l : List Dd) (d : Dd) : scan (l ++ [d]) = stepD (scan l) d := by unfold scan; rw [List.foldl_append]; rfl
theorem foldl_none (l : List Dd) : l.foldl stepD none = none := by
  induction l with
  | nil => rfl
  | cons d l ih => rw [List.foldl_cons]; exact ih

/-! The reference's words. -/
def rsv (l : List Dd) (t : Int) : Option Int := (l.find? fun d => d.kind == 1 && d.ticket == t).map Dd.value
def stl (l : List Dd) (t : Int) : Bool := l.any fun d => (d.kind == 2 || d.kind == 3) && d.ticket == t
theorem rsv_snoc (l : List Dd) (d : Dd) (t : Int) : rsv (l ++ [d]) t = (rsv l t).or (if d.kind = 1 ∧ d.ticket = t then some d.value else none) := by
  unfold rsv
  rw [List.find?_append]
  cases h : l.find? (fun d => d.kind == 1 && d.ticket == t) with
  | some x => simp
  | none =>
    by_cases hd : d.kind = 1 ∧ d.ticket = t
    · simp [hd.1, hd.2]
    · rw [if_neg hd]
      have : (d.kind == 1 && d.ticket == t) = false := by
        rcases Classical.em (d.kind = 1) with h1 | h1
        · have h2 : d.ticket ≠ t := fun e => hd ⟨h1, e⟩
          simp [h2]
        · simp [h1]
      simp [List.find?, this]
theorem stl_snoc (l : List Dd) (d : Dd) (t : Int) : stl (l ++ [d]) t = (stl l t || ((d.kind == 2 || d.kind == 3) && d.ticket == t)) := by
  unfold stl; rw [List.any_append]; simp
/-- What the scan knows. -/
structure Known (l : List Dd) (g : Int) (op : Int → Option Int) : Prop where
  nonneg : 0 ≤ g
  le : g ≤ l.length
  opens : ∀ t, op t = if stl l t then none else rsv l t
  given : ∀ t, (rsv l t).isSome = true ↔ 1 ≤ t ∧ t ≤ g
  settled : ∀ t, stl l t = true → 1 ≤ t ∧ t ≤ g
theorem Known.nil : Known [] 0 (fun _ => none) := ⟨by omega, by simp, fun t => by simp [stl, rsv], fun t => by simp [rsv]; omega, fun t h => by simp [stl] at h⟩
theorem step_known {l : List Dd} {g : Int} {op : Int → Option Int} (K : Known l g op) {d : Dd} {g' : Int} {op' : Int → Option Int} (h : stepD (some (g, op)) d = some (g', op')) : Known (l ++ [d]) g' op' := by
  unfold stepD at h
  simp only at h
  have hlen : (l ++ [d]).length = l.length + 1 := by simp
  have h0 := K.nonneg
  have h1 := K.le
  split at h
  · rename_i hk
    split at h
    · cases h
    · rename_i hn
      have ht : d.ticket = g + 1 := by
        rcases Classical.em (d.ticket = g + 1) with e | e
        · exact e
        · exact absurd (Or.inl e) hn
      injection h with h
      injection h with hg hop
      subst hg
      have hst : ∀ t, stl (l ++ [d]) t = stl l t := fun t => by rw [stl_snoc]; simp [hk]
      refine ⟨by omega, by rw [hlen]; omega, fun t => ?_, fun t => ?_, fun t hs => ?_⟩
      · rw [← hop, hst, rsv_snoc]
        show (if t = d.ticket then some d.value else op t) = _
        by_cases e : t = d.ticket
        · subst e
          have hr : rsv l d.ticket = none := by
            cases hx : rsv l d.ticket with
            | none => rfl
            | some x => have := (K.given d.ticket).1 (by rw [hx]; rfl); omega
          have hs : stl l d.ticket = false := by
            cases hx : stl l d.ticket with
            | false => rfl
            | true => have := K.settled _ hx; omega
          simp [hr, hs, hk]
        · have e' : ¬ (d.kind = 1 ∧ d.ticket = t) := fun x => e x.2.symm
          rw [if_neg e, if_neg e', K.opens t]
          simp
      · rw [rsv_snoc]
        by_cases e : d.ticket = t
        · rw [if_pos ⟨hk, e⟩]
          constructor
          · intro _; omega
          · intro _; cases rsv l t <;> rfl
        · have e' : ¬ (d.kind = 1 ∧ d.ticket = t) := fun x => e x.2
          rw [if_neg e', Option.or_none, K.given t]
          omega
      · rw [hst] at hs
        have := K.settled t hs
        omega
  · rename_i hk1
    have hrs : ∀ t, rsv (l ++ [d]) t = rsv l t := fun t => by
      have e' : ¬ (d.kind = 1 ∧ d.ticket = t) := fun x => hk1 x.1
      rw [rsv_snoc, if_neg e', Option.or_none]
    split at h
    · rename_i hk
      split at h
      · cases h
      · rename_i hn
        have ho : op d.ticket = some d.value := by
          rcases Classical.em (op d.ticket = some d.value) with e | e
          · exact e
          · exact absurd (Or.inl e) hn
        injection h with h
        injection h with hg hop
        subst hg
        have hkb : (d.kind == 2 || d.kind == 3) = true := by rcases hk with e | e <;> simp [e]
        have hst : ∀ t, stl (l ++ [d]) t = (stl l t || d.ticket == t) := fun t => by rw [stl_snoc, hkb]; simp
        refine ⟨h0, by rw [hlen]; omega, fun t => ?_, fun t => by rw [hrs]; exact K.given t, fun t hs => ?_⟩
        · rw [← hop, hst, hrs]
          show (if t = d.ticket then none else op t) = _
          by_cases e : t = d.ticket
          · subst e; simp
          · have e' : (d.ticket == t) = false := by simpa using fun x : d.ticket = t => e x.symm
            rw [if_neg e, e', K.opens t]; simp
        · rw [hst] at hs
          by_cases e : d.ticket = t
          · subst e
            have hx := K.opens d.ticket
            rw [ho] at hx
            split at hx
            · cases hx
            · exact (K.given d.ticket).1 (by rw [← hx]; rfl)
          · have : stl l t = true := by simpa [e] using hs
            exact K.settled t this
    · rename_i hk2
      have hkb : (d.kind == 2 || d.kind == 3) = false := by
        rw [Bool.or_eq_false_iff]
        exact ⟨by simpa using fun e => hk2 (Or.inl e), by simpa using fun e => hk2 (Or.inr e)⟩
      have hst : ∀ t, stl (l ++ [d]) t = stl l t := fun t => by rw [stl_snoc, hkb]; simp
      split at h
      · split at h
        · cases h
        · injection h with h
          injection h with hg hop
          subst hg; subst hop
          exact ⟨h0, by rw [hlen]; omega, fun t => by rw [hst, hrs]; exact K.opens t, fun t => by rw [hrs]; exact K.given t, fun t hs => K.settled t (by rw [← hst]; exact hs)⟩
      · cases h
theorem scan_known : ∀ (n : Nat) (l : List Dd), l.length = n → ∀ {g : Int} {op : Int → Option Int}, scan l = some (g, op) → Known l g op
  | 0, l, hn, g, op, h => by
    have : l = [] := List.eq_nil_of_length_eq_zero hn
    subst this
    rw [scan_nil] at h
    injection h with h
    injection h with hg hop
    subst hg; subst hop
    exact Known.nil
  | n + 1, l, hn, g, op, h => by
    have hne : l ≠ [] := by intro e; subst e; simp at hn
    obtain ⟨m, d, rfl⟩ : ∃ m d, l = m ++ [d] := ⟨l.dropLast, l.getLast hne, (List.dropLast_concat_getLast hne).symm⟩
    rw [scan_snoc] at h
    cases hs : scan m with
    | none => rw [hs] at h; cases h
    | some x =>
      obtain ⟨g0, op0⟩ := x
      rw [hs] at h
      exact step_known (scan_known n m (by simpa using hn) hs) h
end Go.Proofs.Ytpbelnbknnhgnaa
