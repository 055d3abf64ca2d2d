/- The normal form: it is its own; other names and garbage do not matter: plain Lean. -/
import Derived.Test.YtiamdekgpombdaaCn
namespace Go.Proofs.Ytiamdekgpombdaa
open Go.RowKit

theorem nodup_get {l : List Ob} (h : (l.map Ob.id).Nodup) {i j : Nat} (hi : i < l.length) (hj : j < l.length) (e : l[i].id = l[j].id) : i = j := by
  have hi' : i < (l.map Ob.id).length := by simpa using hi
  have hj' : j < (l.map Ob.id).length := by simpa using hj
  have hp := List.pairwise_iff_getElem.1 h
  rcases Nat.lt_trichotomy i j with hlt | heq | hgt
  · exact absurd (by simpa using e) (hp i j hi' hj' hlt)
  · exact heq
  · exact absurd (by simpa using e.symm) (hp j i hj' hi' hgt)
theorem ixFrom_first {α : Type} (p : α → Bool) (l : List α) (b k : Nat) (hk : k < l.length) (hp : p l[k] = true) (hno : ∀ j, (hj : j < k) → p (l[j]'(by omega)) = false) : ixFrom p l b = (b + k : Nat) := by
  induction l generalizing b k with
  | nil => simp at hk
  | cons x l ih =>
    cases k with
    | zero => simp only [ixFrom]; rw [if_pos (by simpa using hp)]; simp
    | succ k =>
      have h0 := hno 0 (by omega)
      simp only [List.getElem_cons_zero] at h0
      simp only [ixFrom]
      rw [if_neg (by rw [h0]; simp)]
      rw [ih (b + 1) k (by simpa using hk) (by simpa using hp) (fun j hj => by have := hno (j + 1) (by omega); simpa using this)]
      congr 1; omega
theorem place_at {F : List Ob} (h : (F.map Ob.id).Nodup) {i : Nat} (hi : i < F.length) : place F F[i].id = (i : Int) + 1 := by
  unfold place
  rw [ixFrom_first _ F 0 i hi (by simp) fun j hj => by
    have hne : F[j].id ≠ F[i].id := fun e => by have := nodup_get h (by omega) hi e; omega
    simpa using hne]
  omega
theorem find_first {α : Type} (p : α → Bool) (l : List α) (k : Nat) (hk : k < l.length) (hp : p l[k] = true) (hno : ∀ j, (hj : j < k) → p (l[j]'(by omega)) = false) : l.find? p = some l[k] := by
  induction l generalizing k with
  | nil => simp at hk
  | cons x l ih =>
    cases k with
    | zero => simp only [List.getElem_cons_zero] at hp ⊢; rw [List.find?_cons_of_pos hp]
    | succ k =>
      have h0 := hno 0 (by omega)
      simp only [List.getElem_cons_zero] at h0
      rw [List.find?_cons_of_neg (by rw [h0]; simp)]
      simp only [List.getElem_cons_succ] at hp ⊢
      exact ih k (by simpa using hk) hp fun j hj => by have := hno (j + 1) (by omega); simpa using this
theorem hget_num (F : List Ob) (i : Nat) (hi : i < F.length) : hget (hnum F 0 F) ((i : Int) + 1) = some ⟨(i + 1 : Nat), hren F F[i].fs⟩ := by
  have hi' : i < (hnum F 0 F).length := by rw [hnum_length]; exact hi
  unfold hget
  rw [find_first _ (hnum F 0 F) i hi' (by rw [hnum_get F 0 F i hi]; simp) fun j hj => by
    rw [hnum_get F 0 F j (by omega)]
    have : ¬ ((0 + j + 1 : Nat) : Int) = (i : Int) + 1 := by omega
    simpa using this]
  rw [hnum_get F 0 F i hi]
  simp
theorem hget_num_zero (F : List Ob) : hget (hnum F 0 F) 0 = none := by
  unfold hget
  rw [List.find?_eq_none]
  intro o ho
  obtain ⟨i, hi, rfl⟩ := List.getElem_of_mem ho
  rw [hnum_get F 0 F i (by rwa [hnum_length] at hi)]
  have : ¬ ((0 + i + 1 : Nat) : Int) = 0 := by omega
  simpa using this
/-- What is at a place of the normal form. -/
def onceO (F : List Ob) (o : Ob) : Ob := ⟨place F o.id, hren F o.fs⟩
def onceV (F : List Ob) (v : Vl) : Vl := if v.r then ⟨true, place F v.n⟩ else v
theorem once_map {h : List Ob} {roots : List Vl} : (hfind h roots).map (onceO (hfind h roots)) = hnum (hfind h roots) 0 (hfind h roots) := by
  have hF := Found.find h roots
  apply List.ext_getElem
  · rw [List.length_map, hnum_length]
  · intro i h1 h2
    have hi : i < (hfind h roots).length := by simpa using h1
    rw [List.getElem_map, hnum_get _ _ _ i hi]
    unfold onceO
    rw [place_at hF.nodup hi]
    congr 1
    omega
theorem once_alike (h : List Ob) (roots : List Vl) : Alike h (hcanon h roots).1 roots (onceO (hfind h roots)) (onceV (hfind h roots)) := by
  have hF := Found.find h roots
  refine ⟨fun v => ?_, fun v hr => ?_, fun o _ => rfl, fun v hv hr hg => ?_, fun v hv hr o hg => ?_, fun v hv hr o ho => ?_⟩
  · unfold onceV; split <;> simp_all
  · unfold onceV; rw [if_neg (by simp [hr])]
  · unfold onceV
    rw [if_pos hr]
    have h0 : place (hfind h roots) v.n = 0 := by
      have hb := place_bd (hfind h roots) v.n
      rcases Int.lt_or_le 0 (place (hfind h roots) v.n) with hp | hp
      · obtain ⟨o, ho, e⟩ := (place_pos _ _).1 hp
        have := hF.get o ho
        rw [e, hg] at this
        cases this
      · omega
    simp only [h0]
    exact hget_num_zero _
  · have ho := hfind_closed hv hr hg
    obtain ⟨i, hi, rfl⟩ := List.getElem_of_mem ho
    have hid := hget_id hg
    unfold onceV
    rw [if_pos hr]
    simp only [← hid, place_at hF.nodup hi]
    unfold onceO
    rw [place_at hF.nodup hi]
    exact hget_num _ i hi
  · unfold onceV onceO
    rw [if_pos hr]
    obtain ⟨i, hi, rfl⟩ := List.getElem_of_mem ho
    simp only [place_at hF.nodup hi]
    constructor
    · intro e
      have hp : 0 < place (hfind h roots) v.n := by omega
      obtain ⟨x, hx, ex⟩ := (place_pos _ _).1 hp
      obtain ⟨j, hj, rfl⟩ := List.getElem_of_mem hx
      rw [← ex, place_at hF.nodup hj] at e
      have : i = j := by omega
      subst this
      exact ex
    · intro e
      rw [← e, place_at hF.nodup hi]
theorem once_roots (F : List Ob) (l : List Vl) : l.map (onceV F) = hren F l := by
  unfold hren onceV; rfl
/-- A normal form is its own normal form, and all of it is reached. -/
theorem canon_once (h : List Ob) (roots : List Vl) : hcanon (hcanon h roots).1 (hcanon h roots).2 = hcanon h roots := by
  have := (once_alike h roots).canon
  rwa [once_roots] at this
theorem canon_once_reach (h : List Ob) (roots : List Vl) : (hfind (hcanon h roots).1 (hcanon h roots).2).length = (hcanon h roots).1.length ∧ (hcanon h roots).1.length = (hfind h roots).length := by
  have := (once_alike h roots).find
  rw [once_roots] at this
  have e : (hcanon h roots).2 = hren (hfind h roots) roots := rfl
  have e1 : (hcanon h roots).1 = hnum (hfind h roots) 0 (hfind h roots) := rfl
  rw [e, this, List.length_map, e1, hnum_length]
  exact ⟨rfl, rfl⟩
theorem canon_ids (h : List Ob) (roots : List Vl) (i : Nat) (hi : i < (hcanon h roots).1.length) : ((hcanon h roots).1[i]).id = (i : Int) + 1 := by
  have e1 : (hcanon h roots).1 = hnum (hfind h roots) 0 (hfind h roots) := rfl
  have hi' : i < (hfind h roots).length := by rw [e1, hnum_length] at hi; exact hi
  have := hnum_get (hfind h roots) 0 (hfind h roots) i hi'
  rw [List.getElem_of_eq e1 hi, this]
  simp

/-! An object is put. -/
def hidx (h : List Ob) (id : Int) : Int := ixFrom (fun o : Ob => o.id == id) h 0
def hlow : List Ob → Int → Nat
  | [], _ => 0
  | o :: l, id => if o.id < id then hlow l id + 1 else 0
def hput (h : List Ob) (o : Ob) : List Ob :=
  if hidx h o.id < 0 then h.take (hlow h o.id) ++ [o] ++ h.drop (hlow h o.id) else h.take (hidx h o.id).toNat ++ [o] ++ h.drop ((hidx h o.id).toNat + 1)
theorem hget_append (a b : List Ob) (id : Int) : hget (a ++ b) id = (hget a id).or (hget b id) := by unfold hget; rw [List.find?_append]
theorem hget_put (h : List Ob) (o : Ob) (id : Int) : hget (hput h o) id = if o.id = id then some o else hget h id := by
  have hone : ∀ i, hget [o] i = if o.id = i then some o else none := by
    intro i
    unfold hget
    by_cases e : o.id = i
    · rw [if_pos e, List.find?_cons_of_pos (by simpa using e)]
    · rw [if_neg e, List.find?_cons_of_neg (by simpa using e)]; rfl
  unfold hput
  split
  · rename_i hx
    rw [List.append_assoc, hget_append, hget_append, hone]
    by_cases e : o.id = id
    · subst e
      have hno : hget (h.take (hlow h o.id)) o.id = none := by
        unfold hget
        rw [List.find?_eq_none]
        intro y hy
        have hm := List.mem_of_mem_take hy
        intro he
        have := (ixFrom_nonneg (fun z : Ob => z.id == o.id) h 0).2 ⟨y, hm, he⟩
        unfold hidx at hx
        omega
      rw [hno, if_pos rfl]
      simp
    · rw [if_neg e, if_neg e]
      have := hget_append (h.take (hlow h o.id)) (h.drop (hlow h o.id)) id
      rw [List.take_append_drop] at this
      rw [this]
      rfl
  · rename_i hx
    rw [List.append_assoc, hget_append, hget_append, hone]
    obtain ⟨k, hk⟩ : ∃ k : Nat, hidx h o.id = k := ⟨(hidx h o.id).toNat, by omega⟩
    have hkl : k < h.length := by have := (ixFrom_bd (fun z : Ob => z.id == o.id) h 0).2; unfold hidx at hk; omega
    rw [hk, Int.toNat_natCast]
    have hat : h[k].id = o.id ∧ ∀ j (hj : j < k), (h[j]'(by omega)).id ≠ o.id := by
      have aux : ∀ (l : List Ob) (b k : Nat) (hk : k < l.length), ixFrom (fun z : Ob => z.id == o.id) l b = ((b + k : Nat) : Int) → l[k].id = o.id ∧ ∀ j (hj : j < k), (l[j]'(by omega)).id ≠ o.id := by
        intro l
        induction l with
        | nil => intro b k hk; simp at hk
        | cons y l ih =>
          intro b k hk e
          simp only [ixFrom] at e
          split at e
          · rename_i hp
            have : k = 0 := by omega
            subst this
            exact ⟨by simpa using hp, fun j hj => absurd hj (by omega)⟩
          · rename_i hp
            have hbl := ixFrom_bd (fun z : Ob => z.id == o.id) l (b + 1)
            have hpos : 0 ≤ ixFrom (fun z : Ob => z.id == o.id) l (b + 1) := by omega
            have hge := ixFrom_ge (fun z : Ob => z.id == o.id) l (b + 1) hpos
            cases k with
            | zero => omega
            | succ k =>
              have := ih (b + 1) k (by simpa using hk) (by rw [e]; congr 1; omega)
              refine ⟨by simpa using this.1, fun j hj => ?_⟩
              cases j with
              | zero => simpa using hp
              | succ j => simpa using this.2 j (by omega)
      exact aux h 0 k hkl (by unfold hidx at hk; rw [hk]; congr 1; omega)
    by_cases e : o.id = id
    · subst e
      have hno : hget (h.take k) o.id = none := by
        unfold hget
        rw [List.find?_eq_none]
        intro y hy he
        obtain ⟨j, hj, rfl⟩ := List.getElem_of_mem hy
        have hjk : j < k := by simp at hj; omega
        rw [List.getElem_take] at he
        exact hat.2 j hjk (by simpa using he)
      rw [hno, if_pos rfl]
      simp
    · rw [if_neg e, if_neg e]
      have h1 := hget_append (h.take k) (h.drop k) id
      rw [List.take_append_drop, List.drop_eq_getElem_cons hkl] at h1
      have h2 : hget (h[k] :: h.drop (k + 1)) id = hget (h.drop (k + 1)) id := by
        unfold hget
        rw [List.find?_cons_of_neg]
        rw [hat.1]
        simpa using e
      rw [h1, h2]
      rfl
theorem hlow_le (h : List Ob) (id : Int) : hlow h id ≤ h.length := by
  induction h with
  | nil => simp [hlow]
  | cons o l ih => simp only [hlow, List.length_cons]; split <;> omega
theorem hput_length (h : List Ob) (o : Ob) : (hput h o).length ≤ h.length + 1 := by
  unfold hput
  split
  · have := hlow_le h o.id; simp; omega
  · simp; omega
end Go.Proofs.Ytiamdekgpombdaa
