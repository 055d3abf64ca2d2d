/- What was done outside: the open tickets in order; what counts; the rounds of ActionCancels. Plain Lean. -/
import Derived.Test.YtpbelnbknnhgnaaAcm
namespace Go.Proofs.Ytpbelnbknnhgnaa
open Go.RowKit

/-- The open tickets, by the reference. -/
def refOpen (l : List Dd) : List Int := (l.filter fun d => d.kind == 1 && !stl l d.ticket).map Dd.ticket
theorem refOpen_gives (l : List Dd) : refOpen l = (gives l).filter fun t => !stl l t := by
  unfold refOpen gives
  rw [List.filter_map, List.filter_filter]
  congr 1
  apply List.filter_congr
  intro d _
  simp [Bool.and_comm]
theorem gives_sorted {l : List Dd} {g : Int} {op : Int → Option Int} (h : scan l = some (g, op)) : List.Pairwise (fun a b : Int => a < b) (gives l) := by
  rw [scan_gives l.length l rfl h]
  exact List.pairwise_lt_range.map _ (fun a b hab => by omega)
theorem refOpen_sorted {l : List Dd} {g : Int} {op : Int → Option Int} (h : scan l = some (g, op)) : List.Pairwise (fun a b : Int => a < b) (refOpen l) := by
  rw [refOpen_gives]; exact (gives_sorted h).filter _
theorem refOpen_mem {l : List Dd} {g : Int} {op : Int → Option Int} (h : scan l = some (g, op)) (t : Int) : t ∈ refOpen l ↔ (op t).isSome = true := by
  have K := scan_known l.length l rfl h
  rw [refOpen_gives, List.mem_filter, scan_gives l.length l rfl h, K.opens t]
  have hm : t ∈ (List.range g.toNat).map (fun (i : Nat) => (i : Int) + 1) ↔ 1 ≤ t ∧ t ≤ g := by
    rw [List.mem_map]
    constructor
    · rintro ⟨i, hi, rfl⟩
      have := List.mem_range.1 hi
      have := K.nonneg
      omega
    · rintro ⟨h1, h2⟩
      exact ⟨(t - 1).toNat, List.mem_range.2 (by omega), by omega⟩
  rw [hm, ← K.given t]
  cases hs : stl l t with
  | true => simp
  | false => simp
/-- Two ascending lists with the same elements are one. -/
theorem asc_eq {a b : List Int} (ha : List.Pairwise (fun x y : Int => x < y) a) (hb : List.Pairwise (fun x y : Int => x < y) b) (h : ∀ t, t ∈ a ↔ t ∈ b) : a = b := by
  have hna : a.Nodup := ha.imp (fun hxy => by omega)
  have hnb : b.Nodup := hb.imp (fun hxy => by omega)
  exact List.Perm.eq_of_pairwise (le := fun x y : Int => x < y) (fun x y _ _ h1 h2 => by omega) ha hb ((List.perm_ext_iff_of_nodup hna hnb).2 h)
/-- The sorted keys of the open tickets are the reference's list. -/
theorem keys_open {l : List Dd} {g : Int} {op : Int → Option Int} (h : scan l = some (g, op)) {ks : List Int} (hn : ks.Nodup) (hm : ∀ t, t ∈ ks ↔ (op t).isSome = true) : ks.mergeSort (fun x y => decide (x ≤ y)) = refOpen l := by
  have hp := List.mergeSort_perm ks (fun x y => decide (x ≤ y))
  have hs := List.pairwise_mergeSort (le := fun x y : Int => decide (x ≤ y)) (fun a b c h1 h2 => by simp at h1 h2 ⊢; omega) (fun a b => by simp; omega) ks
  have hn2 : (ks.mergeSort (fun x y => decide (x ≤ y))).Nodup := hp.nodup_iff.2 hn
  have hs2 : List.Pairwise (fun x y : Int => x < y) (ks.mergeSort (fun x y => decide (x ≤ y))) :=
    (hs.and hn2).imp (fun hxy => by
      obtain ⟨h1, h2⟩ := hxy
      have h1 : _ ≤ _ := of_decide_eq_true h1
      omega)
  refine asc_eq hs2 (refOpen_sorted h) (fun t => ?_)
  rw [hp.mem_iff, hm, refOpen_mem h]

/-! What counts. -/
def net1 (d : Dd) : List Ac := if d.kind = 4 then [d.act] else if d.kind = 2 then [⟨false, d.value, 0⟩] else []
def net (l : List Dd) : List Ac := l.flatMap net1
theorem net_app (a b : List Dd) : net (a ++ b) = net a ++ net b := by simp [net]
theorem net_take (l : List Dd) (k : Nat) : ∃ m, net l = net (l.take k) ++ m := ⟨net (l.drop k), by rw [← net_app, List.take_append_drop]⟩

/-- The state of ActionCancels: what was done, the open tickets in their order, what each holds, what is wanted. -/
structure Cst (l : List Dd) (g : Int) (opn : List Int) (held : Int → Int) (want : List Ac) : Prop where
  ok : ∃ op, scan l = some (g, op) ∧ (∀ t, t ∈ opn ↔ (op t).isSome = true) ∧ ∀ t, t ∈ opn → op t = some (held t)
  asc : List.Pairwise (fun a b : Int => a < b) opn
  counts : net l = want
theorem Cst.nil : Cst [] 0 [] (fun _ => 0) [] := ⟨⟨_, scan_nil, by simp, by simp⟩, List.Pairwise.nil, rfl⟩
theorem Cst.reserve {l : List Dd} {g : Int} {opn : List Int} {held : Int → Int} {want : List Ac} (C : Cst l g opn held want) (v : Int) :
    Cst (l ++ [⟨1, g + 1, v, plainA⟩]) (g + 1) (opn ++ [g + 1]) (fun t => if t = g + 1 then v else held t) want := by
  obtain ⟨op, hs, hm, hh⟩ := C.ok
  have K := scan_known l.length l rfl hs
  have hle : ∀ t, t ∈ opn → t ≤ g := fun t ht => by
    have h1 := (hm t).1 ht
    rw [K.opens t] at h1
    split at h1
    · cases h1
    · exact ((K.given t).1 h1).2
  refine ⟨⟨_, scan_reserve hs v, fun t => ?_, fun t ht => ?_⟩, ?_, ?_⟩
  · by_cases e : t = g + 1
    · subst e; simp
    · simp [e, hm]
  · by_cases e : t = g + 1
    · subst e; simp
    · have ht' : t ∈ opn := by simpa [e] using ht
      simp [e, hh t ht']
  · rw [List.pairwise_append]
    refine ⟨C.asc, by simp, fun a ha b hb => ?_⟩
    have : b = g + 1 := by simpa using hb
    have := hle a ha
    omega
  · rw [net_app, C.counts]; simp [net, net1]
theorem Cst.settle {l : List Dd} {g : Int} {opn : List Int} {held : Int → Int} {want : List Ac} (C : Cst l g opn held want) {i : Nat} (hi : i < opn.length) {k : Int} (hk : k = 2 ∨ k = 3) :
    Cst (l ++ [⟨k, opn[i], held opn[i], plainA⟩]) g (opn.eraseIdx i) held (want ++ if k = 2 then [⟨false, held opn[i], 0⟩] else []) := by
  obtain ⟨op, hs, hm, hh⟩ := C.ok
  have hmem := List.getElem_mem hi
  have herase : ∀ t, t ∈ opn.eraseIdx i ↔ t ∈ opn ∧ t ≠ opn[i] := fun t => by
    rw [List.mem_eraseIdx_iff_getElem]
    constructor
    · rintro ⟨j, hj, hne, rfl⟩
      refine ⟨List.getElem_mem hj, fun e => ?_⟩
      have hp := List.pairwise_iff_getElem.1 C.asc
      rcases Nat.lt_or_gt_of_ne hne with h | h
      · have := hp j i hj hi h; omega
      · have := hp i j hi hj h; omega
    · rintro ⟨ht, hne⟩
      obtain ⟨j, hj, rfl⟩ := List.getElem_of_mem ht
      exact ⟨j, hj, fun e => hne (by subst e; rfl), rfl⟩
  refine ⟨⟨_, scan_settle hs (hh _ hmem) hk, fun t => ?_, fun t ht => ?_⟩, ?_, ?_⟩
  · rw [herase]
    by_cases e : t = opn[i]
    · subst e; simp
    · simp [e, hm]
  · obtain ⟨h1, h2⟩ := (herase t).1 ht
    rw [if_neg h2]; exact hh t h1
  · exact C.asc.sublist (List.eraseIdx_sublist _ _)
  · rw [net_app, C.counts]
    rcases hk with rfl | rfl <;> simp [net, net1]
end Go.Proofs.Ytpbelnbknnhgnaa
