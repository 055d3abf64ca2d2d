/- What was done outside: the reference's validity is the package's; what keeps it valid; what counts. Plain Lean. -/
import Derived.Test.YtpbelnbknnhgnaaAcn
namespace Go.Proofs.Ytpbelnbknnhgnaa
open Go.RowKit

/-- One deed behind some others, by the reference: the number of tickets, none: not valid. -/
def rok (pre : List Dd) (n : Int) (d : Dd) : Option Int :=
  if d.kind = 1 then (if d.ticket ≠ n + 1 ∨ d.act ≠ plainA then none else some (n + 1))
  else if d.kind = 2 ∨ d.kind = 3 then (if rsv pre d.ticket ≠ some d.value ∨ stl pre d.ticket = true ∨ d.act ≠ plainA then none else some n)
  else if d.kind = 4 then (if d.ticket ≠ 0 ∨ d.value ≠ 0 then none else some n)
  else none
def rv (pre : List Dd) (n : Int) : List Dd → Option Int
  | [] => some n
  | d :: l => match rok pre n d with
    | none => none
    | some n' => rv (pre ++ [d]) n' l
theorem rok_step {pre : List Dd} {g : Int} {op : Int → Option Int} (K : Known pre g op) (d : Dd) : rok pre g d = (stepD (some (g, op)) d).map Prod.fst := by
  unfold rok stepD
  simp only
  by_cases h1 : d.kind = 1
  · rw [if_pos h1, if_pos h1]
    split <;> rfl
  · rw [if_neg h1, if_neg h1]
    by_cases h2 : d.kind = 2 ∨ d.kind = 3
    · rw [if_pos h2, if_pos h2, K.opens d.ticket]
      cases hs : stl pre d.ticket with
      | true => simp
      | false =>
        by_cases h3 : rsv pre d.ticket ≠ some d.value ∨ d.act ≠ plainA
        · rw [if_pos (by rcases h3 with h | h; exact .inl h; exact .inr (.inr h)), if_pos (by simpa using h3)]; rfl
        · rw [if_neg (fun h => h3 (by rcases h with h | h | h; exact .inl h; cases h; exact .inr h)), if_neg (by simpa using h3)]; rfl
    · rw [if_neg h2, if_neg h2]
      by_cases h4 : d.kind = 4
      · rw [if_pos h4, if_pos h4]
        split <;> rfl
      · rw [if_neg h4, if_neg h4]; rfl
theorem scan_app (pre l : List Dd) : scan (pre ++ l) = l.foldl stepD (scan pre) := by unfold scan; rw [List.foldl_append]
theorem rv_scan : ∀ (l pre : List Dd) (g : Int) (op : Int → Option Int), scan pre = some (g, op) → rv pre g l = (scan (pre ++ l)).map Prod.fst
  | [], pre, g, op, h => by rw [List.append_nil, h]; rfl
  | d :: l, pre, g, op, h => by
    have K := scan_known pre.length pre rfl h
    have hr := rok_step K d
    rw [show pre ++ d :: l = (pre ++ [d]) ++ l by simp]
    cases hs : stepD (some (g, op)) d with
    | none =>
      rw [hs] at hr
      have hr' : rok pre g d = none := hr
      rw [scan_app, scan_snoc, h, hs, foldl_none]
      unfold rv
      rw [hr']; rfl
    | some x =>
      obtain ⟨g', op'⟩ := x
      rw [hs] at hr
      have hr' : rok pre g d = some g' := hr
      have := rv_scan l (pre ++ [d]) g' op' (by rw [scan_snoc, h, hs])
      rw [← this]
      conv => lhs; unfold rv
      rw [hr']
/-- The package's and the reference's word on what is valid. -/
theorem valid_eq (l : List Dd) : rv [] 0 l = (scan l).map Prod.fst := by
  have := rv_scan l [] 0 _ scan_nil
  simpa using this

/-! What keeps it valid. -/
theorem scan_reserve {l : List Dd} {g : Int} {op : Int → Option Int} (h : scan l = some (g, op)) (v : Int) : scan (l ++ [⟨1, g + 1, v, plainA⟩]) = some (g + 1, fun t => if t = g + 1 then some v else op t) := by
  rw [scan_snoc, h]; simp [stepD]
theorem scan_settle {l : List Dd} {g : Int} {op : Int → Option Int} (h : scan l = some (g, op)) {t v k : Int} (ht : op t = some v) (hk : k = 2 ∨ k = 3) : scan (l ++ [⟨k, t, v, plainA⟩]) = some (g, fun x => if x = t then none else op x) := by
  have hk1 : ¬ k = 1 := by omega
  rw [scan_snoc, h]
  simp only [stepD]
  rw [if_neg hk1, if_pos hk, if_neg (by rw [ht]; simp)]
theorem scan_do {l : List Dd} {g : Int} {op : Int → Option Int} (h : scan l = some (g, op)) (a : Ac) : scan (l ++ [⟨4, 0, 0, a⟩]) = some (g, op) := by
  rw [scan_snoc, h]; simp [stepD]
theorem scan_take {l : List Dd} {g : Int} {op : Int → Option Int} (h : scan l = some (g, op)) (k : Nat) : ∃ g' op', scan (l.take k) = some (g', op') := by
  rw [← List.take_append_drop k l, scan_app] at h
  cases hs : scan (l.take k) with
  | none => rw [hs, foldl_none] at h; cases h
  | some x => exact ⟨x.1, x.2, rfl⟩
/-- The tickets that were given, in their order. -/
def gives (l : List Dd) : List Int := (l.filter fun d => d.kind == 1).map Dd.ticket
theorem scan_gives : ∀ (n : Nat) (l : List Dd), l.length = n → ∀ {g : Int} {op : Int → Option Int}, scan l = some (g, op) → gives l = (List.range g.toNat).map fun (i : Nat) => (i : Int) + 1
  | 0, l, hn, g, op, h => by
    have : l = [] := List.eq_nil_of_length_eq_zero hn
    subst this
    rw [scan_nil] at h
    injection h with h
    injection h with hg _
    subst hg
    rfl
  | n + 1, l, hn, g, op, h => by
    have hne : l ≠ [] := by intro e; subst e; simp at hn
    obtain ⟨m, d, rfl⟩ : ∃ m d, l = m ++ [d] := ⟨l.dropLast, l.getLast hne, (List.dropLast_concat_getLast hne).symm⟩
    rw [scan_snoc] at h
    cases hs : scan m with
    | none => rw [hs] at h; cases h
    | some x =>
      obtain ⟨g0, op0⟩ := x
      have ih := scan_gives n m (by simpa using hn) hs
      have K := scan_known m.length m rfl hs
      have h0 := K.nonneg
      rw [hs] at h
      have e : gives (m ++ [d]) = gives m ++ (if d.kind = 1 then [d.ticket] else []) := by
        unfold gives
        rw [List.filter_append, List.map_append]
        by_cases hk : d.kind = 1
        · simp [List.filter, hk]
        · have hk' : (d.kind == 1) = false := by simpa using hk
          simp [List.filter, hk', hk]
      rw [e, ih]
      simp only [stepD] at h
      by_cases hk : d.kind = 1
      · rw [if_pos hk] at h
        rw [if_pos hk]
        split at h
        · cases h
        · rename_i hx
          have ht : d.ticket = g0 + 1 := by
            rcases Classical.em (d.ticket = g0 + 1) with e | e
            · exact e
            · exact absurd (Or.inl e) hx
          injection h with h
          injection h with hg _
          subst hg
          rw [show (g0 + 1).toNat = g0.toNat + 1 by omega, List.range_succ, List.map_append, ht]
          simp; omega
      · rw [if_neg hk] at h
        rw [if_neg hk]
        have hg : g0 = g := by
          split at h
          · split at h
            · cases h
            · injection h with h
              injection h
          · split at h
            · split at h
              · cases h
              · injection h with h
                injection h
            · cases h
        rw [hg]; simp
end Go.Proofs.Ytpbelnbknnhgnaa
