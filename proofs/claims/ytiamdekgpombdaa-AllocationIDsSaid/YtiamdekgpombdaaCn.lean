/- Heaps as plain data, and their normal form: the law in plain Lean. No program is named here. -/
import Derived.Test.YtiamdekgpombdaaMem
namespace Go.Proofs.Ytiamdekgpombdaa
open Go.RowKit

structure Vl where
  r : Bool
  n : Int
  deriving DecidableEq, Inhabited
structure Ob where
  id : Int
  fs : List Vl
  deriving DecidableEq, Inhabited
def Vl.E (v : Vl) : List Value := [.bool v.r, .int .i64 v.n]
def vcells (l : List Vl) : List Value := l.flatMap Vl.E

/-- The first object with an identifier. -/
def hget (h : List Ob) (id : Int) : Option Ob := h.find? fun o => o.id == id
/-- Where an identifier stands among what was found, from 1 on; 0: nowhere. -/
def place (found : List Ob) (id : Int) : Int := ixFrom (fun o : Ob => o.id == id) found 0 + 1
def look1 (h found : List Ob) (v : Vl) : List Ob :=
  if v.r = false ∨ 0 < place found v.n then found else match hget h v.n with | some o => found ++ [o] | none => found
def look (h found : List Ob) (l : List Vl) : List Ob := l.foldl (look1 h) found
def findLoop (h : List Ob) : Nat → Nat → List Ob → List Ob
  | 0, _, found => found
  | f + 1, i, found => if hi : i < found.length then findLoop h f (i + 1) (look h found found[i].fs) else found
/-- Everything that can be reached. -/
def hfind (h : List Ob) (roots : List Vl) : List Ob := findLoop h (h.length + 1) 0 (look h [] roots)
def hren (found : List Ob) (l : List Vl) : List Vl := l.map fun v => if v.r then ⟨true, place found v.n⟩ else v
/-- Objects with other fields, numbered from 1 on. -/
def hnum (found : List Ob) : Nat → List Ob → List Ob
  | _, [] => []
  | k, o :: l => ⟨(k + 1 : Nat), hren found o.fs⟩ :: hnum found (k + 1) l
def hcanon (h : List Ob) (roots : List Vl) : List Ob × List Vl := (hnum (hfind h roots) 0 (hfind h roots), hren (hfind h roots) roots)

theorem place_bd (found : List Ob) (id : Int) : 0 ≤ place found id ∧ place found id ≤ found.length := by
  have := ixFrom_bd (fun o : Ob => o.id == id) found 0
  unfold place; omega
theorem place_pos (found : List Ob) (id : Int) : 0 < place found id ↔ ∃ o ∈ found, o.id = id := by
  have := ixFrom_nonneg (fun o : Ob => o.id == id) found 0
  unfold place
  constructor
  · intro h; obtain ⟨o, ho, e⟩ := this.1 (by omega); exact ⟨o, ho, by simpa using e⟩
  · rintro ⟨o, ho, e⟩; have := this.2 ⟨o, ho, by simpa using e⟩; omega
theorem ixFrom_append_hit {α : Type} (p : α → Bool) (l m : List α) (k : Nat) (h : 0 ≤ ixFrom p l k) : ixFrom p (l ++ m) k = ixFrom p l k := by
  induction l generalizing k with
  | nil => simp [ixFrom] at h
  | cons x l ih =>
    simp only [List.cons_append, ixFrom] at h ⊢
    split
    · rfl
    · rename_i hp; rw [if_neg hp] at h; exact ih _ h
theorem ixFrom_append_miss {α : Type} (p : α → Bool) (l m : List α) (k : Nat) (h : ixFrom p l k < 0) : ixFrom p (l ++ m) k = ixFrom p m (k + l.length) := by
  induction l generalizing k with
  | nil => rfl
  | cons x l ih =>
    simp only [List.cons_append, ixFrom, List.length_cons] at h ⊢
    split
    · rename_i hp; rw [if_pos hp] at h; omega
    · rename_i hp; rw [if_neg hp] at h; rw [ih _ h]; congr 1; omega
theorem place_append_old (found m : List Ob) (id : Int) (h : 0 < place found id) : place (found ++ m) id = place found id := by
  unfold place at h ⊢; rw [ixFrom_append_hit _ _ _ _ (by omega)]
theorem place_append_new (found : List Ob) (o : Ob) (h : ¬ 0 < place found o.id) : place (found ++ [o]) o.id = found.length + 1 := by
  unfold place at h ⊢
  rw [ixFrom_append_miss _ _ _ _ (by omega)]
  simp [ixFrom]
theorem place_append_other (found : List Ob) (o : Ob) (id : Int) (h : o.id ≠ id) : place (found ++ [o]) id = place found id := by
  by_cases hp : 0 < place found id
  · exact place_append_old _ _ _ hp
  · have hb := place_bd found id
    unfold place at hp hb ⊢
    rw [ixFrom_append_miss _ _ _ _ (by omega)]
    have : ixFrom (fun o : Ob => o.id == id) [o] (0 + found.length) = -1 := by simp [ixFrom, h]
    rw [this]; omega
theorem hget_id {h : List Ob} {id : Int} {o : Ob} (hg : hget h id = some o) : o.id = id := by
  have := List.find?_some hg; simpa using this
theorem hget_mem {h : List Ob} {id : Int} {o : Ob} (hg : hget h id = some o) : o ∈ h := List.mem_of_find?_eq_some hg
/-- What was found: each has another identifier, and is the heap's. -/
structure Found (h found : List Ob) : Prop where
  get : ∀ o ∈ found, hget h o.id = some o
  nodup : (found.map Ob.id).Nodup
theorem Found.nil (h : List Ob) : Found h [] := ⟨by simp, by simp⟩
theorem Found.look1 {h found : List Ob} (hf : Found h found) (v : Vl) : Found h (look1 h found v) := by
  unfold Proofs.Ytiamdekgpombdaa.look1
  split
  · exact hf
  · rename_i hv
    cases hg : hget h v.n with
    | none => exact hf
    | some o =>
      have hid := hget_id hg
      refine ⟨fun x hx => ?_, ?_⟩
      · rcases List.mem_append.1 hx with hx | hx
        · exact hf.get x hx
        · simp at hx; subst hx; rw [hid]; exact hg
      · rw [List.map_append, List.nodup_append]
        refine ⟨hf.nodup, by simp, fun a ha b hb => ?_⟩
        simp at hb
        subst hb
        rintro rfl
        apply hv
        right
        rw [place_pos]
        obtain ⟨x, hx, e⟩ := List.mem_map.1 ha
        exact ⟨x, hx, by rw [e, hid]⟩
theorem Found.look {h found : List Ob} (hf : Found h found) (l : List Vl) : Found h (look h found l) := by
  unfold Proofs.Ytiamdekgpombdaa.look
  induction l generalizing found with
  | nil => exact hf
  | cons v l ih => exact ih (hf.look1 v)
theorem nodup_length : ∀ (l m : List Int), l.Nodup → (∀ x ∈ l, x ∈ m) → l.length ≤ m.length
  | [], _, _, _ => by simp
  | x :: l, m, hn, hs => by
    have hx := hs x (by simp)
    have hn' := List.nodup_cons.1 hn
    have := nodup_length l (m.erase x) hn'.2 fun y hy => by
      have hne : y ≠ x := by rintro rfl; exact hn'.1 hy
      exact (List.mem_erase_of_ne hne).2 (hs y (by simp [hy]))
    rw [List.length_erase_of_mem hx] at this
    have hpos := List.length_pos_of_mem hx
    simp only [List.length_cons]
    omega
theorem Found.length {h found : List Ob} (hf : Found h found) : found.length ≤ h.length := by
  have := nodup_length (found.map Ob.id) (h.map Ob.id) hf.nodup fun x hx => by
    obtain ⟨o, ho, e⟩ := List.mem_map.1 hx
    exact List.mem_map.2 ⟨o, hget_mem (hf.get o ho), e⟩
  simpa using this
theorem look1_prefix (h found : List Ob) (v : Vl) : ∃ m, look1 h found v = found ++ m := by
  unfold look1
  split
  · exact ⟨[], by simp⟩
  · cases hget h v.n with
    | none => exact ⟨[], by simp⟩
    | some o => exact ⟨[o], rfl⟩
theorem look_prefix (h : List Ob) (l : List Vl) (found : List Ob) : ∃ m, look h found l = found ++ m := by
  unfold look
  induction l generalizing found with
  | nil => exact ⟨[], by simp⟩
  | cons v l ih =>
    obtain ⟨m, hm⟩ := look1_prefix h found v
    obtain ⟨m', hm'⟩ := ih (look1 h found v)
    exact ⟨m ++ m', by rw [List.foldl_cons, hm', hm, List.append_assoc]⟩
theorem findLoop_prefix (h : List Ob) (f i : Nat) (found : List Ob) : ∃ m, findLoop h f i found = found ++ m := by
  induction f generalizing i found with
  | zero => exact ⟨[], by simp [findLoop]⟩
  | succ f ih =>
    unfold findLoop
    split
    · rename_i hi
      obtain ⟨m, hm⟩ := look_prefix h found[i].fs found
      obtain ⟨m', hm'⟩ := ih (i + 1) (look h found found[i].fs)
      exact ⟨m ++ m', by rw [hm', hm, List.append_assoc]⟩
    · exact ⟨[], by simp⟩
theorem Found.loop {h found : List Ob} (hf : Found h found) (f i : Nat) : Found h (findLoop h f i found) := by
  induction f generalizing i found with
  | zero => exact hf
  | succ f ih =>
    unfold findLoop
    split
    · exact ih (hf.look _) (i + 1)
    · exact hf
theorem Found.find (h : List Ob) (roots : List Vl) : Found h (hfind h roots) := ((Found.nil h).look roots).loop _ _
theorem hnum_length (found : List Ob) (k : Nat) (l : List Ob) : (hnum found k l).length = l.length := by
  induction l generalizing k with
  | nil => rfl
  | cons o l ih => simp [hnum, ih]
theorem hnum_get (found : List Ob) (k : Nat) (l : List Ob) (i : Nat) (hi : i < l.length) : (hnum found k l)[i]'(by rw [hnum_length]; exact hi) = ⟨(k + i + 1 : Nat), hren found l[i].fs⟩ := by
  induction l generalizing k i with
  | nil => simp at hi
  | cons o l ih =>
    cases i with
    | zero => simp [hnum]
    | succ i => simp only [hnum, List.getElem_cons_succ]; rw [ih (k + 1) i (by simpa using hi)]; congr 2; omega

/-! What was found is closed. -/
theorem look_mem {h found : List Ob} (hf : Found h found) (l : List Vl) {v : Vl} {o : Ob} (hv : v ∈ l) (hr : v.r = true) (hg : hget h v.n = some o) : o ∈ look h found l := by
  induction l generalizing found with
  | nil => simp at hv
  | cons u l ih =>
    rcases List.mem_cons.1 hv with rfl | hv
    · have h1 : o ∈ look1 h found v := by
        unfold look1
        split
        · rename_i hs
          rcases hs with hs | hs
          · rw [hr] at hs; cases hs
          · obtain ⟨x, hx, e⟩ := (place_pos _ _).1 hs
            have := hf.get x hx
            rw [e, hg] at this
            injection this with this
            exact this ▸ hx
        · rw [hg]; simp
      obtain ⟨m, hm⟩ := look_prefix h l (look1 h found v)
      have : look h found (v :: l) = look h (look1 h found v) l := rfl
      rw [this, hm]
      exact List.mem_append_left _ h1
    · exact ih (hf.look1 u) hv
theorem loop_closed {h : List Ob} : ∀ (f i : Nat) (found : List Ob), Found h found → h.length + 1 ≤ f + i → i ≤ found.length →
    ∀ k (hk : k < (findLoop h f i found).length), i ≤ k → ∀ v ∈ ((findLoop h f i found)[k]).fs, v.r = true → ∀ o, hget h v.n = some o → o ∈ findLoop h f i found
  | 0, i, found, hf, hfu, hi, k, hk, hik, v, hv, hr, o, hg => by have := hf.length; omega
  | f + 1, i, found, hf, hfu, hi, k, hk, hik, v, hv, hr, o, hg => by
    by_cases hlt : i < found.length
    · have e : findLoop h (f + 1) i found = findLoop h f (i + 1) (look h found found[i].fs) := by rw [findLoop, dif_pos hlt]
      have hlen : found.length ≤ (look h found found[i].fs).length := by
        obtain ⟨m, hm⟩ := look_prefix h found[i].fs found
        rw [hm, List.length_append]; omega
      by_cases hki : k = i
      · subst hki
        have hfl := hf.look found[k].fs
        obtain ⟨m, hm⟩ := look_prefix h found[k].fs found
        obtain ⟨m', hm'⟩ := findLoop_prefix h f (k + 1) (look h found found[k].fs)
        have e' : findLoop h (f + 1) k found = found ++ (m ++ m') := by rw [e, hm', hm, List.append_assoc]
        have hx : (findLoop h (f + 1) k found)[k] = found[k] := by
          rw [List.getElem_of_eq e' hk, List.getElem_append_left hlt]
        rw [hx] at hv
        rw [e, hm']
        exact List.mem_append_left _ (look_mem hf _ hv hr hg)
      · have := loop_closed f (i + 1) (look h found found[i].fs) (hf.look _) (by omega) (by omega) k (by rw [← e]; exact hk) (by omega) v (by simpa only [e] using hv) hr o hg
        rw [e]; exact this
    · have e : findLoop h (f + 1) i found = found := by rw [findLoop, dif_neg hlt]
      have : k < found.length := by simpa only [e] using hk
      omega
theorem loop_fuel {h : List Ob} : ∀ (f i : Nat) (found : List Ob), Found h found → h.length + 1 ≤ f + i → i ≤ found.length → findLoop h (f + 1) i found = findLoop h f i found
  | 0, i, found, hf, hfu, hi => by have := hf.length; omega
  | f + 1, i, found, hf, hfu, hi => by
    by_cases hlt : i < found.length
    · have e1 : findLoop h (f + 1 + 1) i found = findLoop h (f + 1) (i + 1) (look h found found[i].fs) := by rw [findLoop, dif_pos hlt]
      have e2 : findLoop h (f + 1) i found = findLoop h f (i + 1) (look h found found[i].fs) := by rw [findLoop, dif_pos hlt]
      rw [e1, e2]
      refine loop_fuel f (i + 1) _ (hf.look _) (by omega) ?_
      obtain ⟨m, hm⟩ := look_prefix h found[i].fs found
      rw [hm, List.length_append]; omega
    · rw [findLoop, dif_neg hlt, findLoop, dif_neg hlt]
theorem hfind_fuel (h : List Ob) (roots : List Vl) (d : Nat) : findLoop h (h.length + 1 + d) 0 (look h [] roots) = hfind h roots := by
  induction d with
  | zero => rfl
  | succ d ih =>
    rw [← ih]
    have := loop_fuel (h.length + 1 + d) 0 (look h [] roots) ((Found.nil h).look _) (by omega) (by omega)
    exact this
theorem hfind_closed {h : List Ob} {roots : List Vl} {v : Vl} {o : Ob} (hv : v ∈ roots ∨ ∃ x ∈ hfind h roots, v ∈ x.fs) (hr : v.r = true) (hg : hget h v.n = some o) : o ∈ hfind h roots := by
  rcases hv with hv | ⟨x, hx, hv⟩
  · have h1 := look_mem (Found.nil h) roots hv hr hg
    obtain ⟨m, hm⟩ := findLoop_prefix h (h.length + 1) 0 (look h [] roots)
    unfold hfind
    rw [hm]
    exact List.mem_append_left _ h1
  · obtain ⟨k, hk, rfl⟩ := List.getElem_of_mem hx
    exact loop_closed (h.length + 1) 0 (look h [] roots) ((Found.nil h).look _) (by omega) (by omega) k hk (by omega) v hv hr o hg

/-! One heap and another that says the same by other identifiers. -/
structure Alike (h x : List Ob) (roots : List Vl) (ro : Ob → Ob) (rv : Vl → Vl) : Prop where
  kind : ∀ v, (rv v).r = v.r
  num : ∀ v, v.r = false → rv v = v
  fields : ∀ o ∈ hfind h roots, (ro o).fs = o.fs.map rv
  none_ : ∀ v, (v ∈ roots ∨ ∃ o ∈ hfind h roots, v ∈ o.fs) → v.r = true → hget h v.n = none → hget x (rv v).n = none
  some_ : ∀ v, (v ∈ roots ∨ ∃ o ∈ hfind h roots, v ∈ o.fs) → v.r = true → ∀ o, hget h v.n = some o → hget x (rv v).n = some (ro o)
  ids : ∀ v, (v ∈ roots ∨ ∃ o ∈ hfind h roots, v ∈ o.fs) → v.r = true → ∀ o ∈ hfind h roots, ((ro o).id = (rv v).n ↔ o.id = v.n)
theorem ixFrom_map {α β : Type} (f : α → β) (p : β → Bool) (q : α → Bool) (l : List α) (k : Nat) (h : ∀ a ∈ l, p (f a) = q a) : ixFrom p (l.map f) k = ixFrom q l k := by
  induction l generalizing k with
  | nil => rfl
  | cons a l ih => simp only [List.map_cons, ixFrom]; rw [h a (by simp), ih (k + 1) fun b hb => h b (by simp [hb])]
section
variable {h x : List Ob} {roots : List Vl} {ro : Ob → Ob} {rv : Vl → Vl}
theorem Alike.place (A : Alike h x roots ro rv) {v : Vl} (hv : v ∈ roots ∨ ∃ o ∈ hfind h roots, v ∈ o.fs) (hr : v.r = true) (found : List Ob) (hf : ∀ o ∈ found, o ∈ hfind h roots) :
    place (found.map ro) (rv v).n = place found v.n := by
  unfold Proofs.Ytiamdekgpombdaa.place
  rw [ixFrom_map ro _ (fun o : Ob => o.id == v.n)]
  intro o ho
  have := A.ids v hv hr o (hf o ho)
  rw [Bool.eq_iff_iff]
  simpa using this
theorem Alike.look1 (A : Alike h x roots ro rv) {v : Vl} (hv : v ∈ roots ∨ ∃ o ∈ hfind h roots, v ∈ o.fs) (found : List Ob) (hf : ∀ o ∈ found, o ∈ hfind h roots) :
    look1 x (found.map ro) (rv v) = (look1 h found v).map ro := by
  unfold Proofs.Ytiamdekgpombdaa.look1
  rw [A.kind v]
  by_cases hr : v.r = true
  · rw [A.place hv hr found hf]
    by_cases hs : v.r = false ∨ 0 < Proofs.Ytiamdekgpombdaa.place found v.n
    · rw [if_pos hs, if_pos hs]
    · rw [if_neg hs, if_neg hs]
      cases hg : hget h v.n with
      | none => rw [A.none_ v hv hr hg]
      | some o => rw [A.some_ v hv hr o hg]; simp
  · have hr' : v.r = false := by simpa using hr
    rw [if_pos (.inl hr'), if_pos (.inl hr')]
theorem Alike.look (A : Alike h x roots ro rv) : ∀ (l : List Vl) (found : List Ob), (∀ v ∈ l, v ∈ roots ∨ ∃ o ∈ hfind h roots, v ∈ o.fs) → (∀ o ∈ look h found l, o ∈ hfind h roots) →
    look x (found.map ro) (l.map rv) = (look h found l).map ro
  | [], _, _, _ => rfl
  | v :: l, found, hl, hf => by
    have e1 : Proofs.Ytiamdekgpombdaa.look h found (v :: l) = Proofs.Ytiamdekgpombdaa.look h (Proofs.Ytiamdekgpombdaa.look1 h found v) l := rfl
    have e2 : Proofs.Ytiamdekgpombdaa.look x (found.map ro) ((v :: l).map rv) = Proofs.Ytiamdekgpombdaa.look x (Proofs.Ytiamdekgpombdaa.look1 x (found.map ro) (rv v)) (l.map rv) := rfl
    have hsub : ∀ o ∈ found, o ∈ hfind h roots := fun o ho => by
      obtain ⟨m, hm⟩ := look_prefix h (v :: l) found
      exact hf o (by rw [hm]; exact List.mem_append_left _ ho)
    rw [e2, A.look1 (hl v (by simp)) found hsub, e1]
    exact Alike.look A l _ (fun u hu => hl u (by simp [hu])) (by rw [← e1]; exact hf)
theorem Alike.loop (A : Alike h x roots ro rv) : ∀ (f i : Nat) (found : List Ob), (∀ o ∈ findLoop h f i found, o ∈ hfind h roots) → findLoop x f i (found.map ro) = (findLoop h f i found).map ro
  | 0, _, _, _ => rfl
  | f + 1, i, found, hf => by
    by_cases hlt : i < found.length
    · have e1 : findLoop h (f + 1) i found = findLoop h f (i + 1) (Proofs.Ytiamdekgpombdaa.look h found found[i].fs) := by rw [findLoop, dif_pos hlt]
      have e2 : findLoop x (f + 1) i (found.map ro) = findLoop x f (i + 1) (Proofs.Ytiamdekgpombdaa.look x (found.map ro) (ro found[i]).fs) := by
        rw [findLoop, dif_pos (by simpa using hlt), List.getElem_map]
      rw [e1] at hf
      have hsub : ∀ o ∈ Proofs.Ytiamdekgpombdaa.look h found found[i].fs, o ∈ hfind h roots := fun o ho => by
        obtain ⟨m, hm⟩ := findLoop_prefix h f (i + 1) (Proofs.Ytiamdekgpombdaa.look h found found[i].fs)
        exact hf o (by rw [hm]; exact List.mem_append_left _ ho)
      have hi : found[i] ∈ hfind h roots := by
        obtain ⟨m, hm⟩ := look_prefix h found[i].fs found
        exact hsub _ (by rw [hm]; exact List.mem_append_left _ (List.getElem_mem hlt))
      rw [e2, e1, A.fields _ hi, A.look _ found (fun v hv => .inr ⟨_, hi, hv⟩) hsub]
      exact Alike.loop A f (i + 1) _ hf
    · rw [findLoop, dif_neg (by simpa using hlt), findLoop, dif_neg hlt]
theorem Alike.find (A : Alike h x roots ro rv) : hfind x (roots.map rv) = (hfind h roots).map ro := by
  have e1 := hfind_fuel x (roots.map rv) h.length
  have e2 := hfind_fuel h roots x.length
  have hl : Proofs.Ytiamdekgpombdaa.look x [] (roots.map rv) = (Proofs.Ytiamdekgpombdaa.look h [] roots).map ro := A.look roots [] (fun v hv => .inl hv) fun o ho => by
    obtain ⟨m, hm⟩ := findLoop_prefix h (h.length + 1) 0 (Proofs.Ytiamdekgpombdaa.look h [] roots)
    unfold hfind
    rw [hm]; exact List.mem_append_left _ ho
  have hc : x.length + 1 + h.length = h.length + 1 + x.length := by omega
  rw [← e1, hl, hc, ← e2]
  exact A.loop _ _ _ fun o ho => by rw [← e2]; exact ho
theorem Alike.ren (A : Alike h x roots ro rv) (l : List Vl) (hl : ∀ v ∈ l, v ∈ roots ∨ ∃ o ∈ hfind h roots, v ∈ o.fs) : hren ((hfind h roots).map ro) (l.map rv) = hren (hfind h roots) l := by
  unfold hren
  rw [List.map_map]
  apply List.map_congr_left
  intro v hv
  simp only [Function.comp_apply]
  rw [A.kind v]
  by_cases hr : v.r = true
  · rw [if_pos hr, if_pos hr, A.place (hl v hv) hr _ fun o ho => ho]
  · have hr' : v.r = false := by simpa using hr
    rw [if_neg hr, if_neg hr, A.num v hr']
theorem Alike.num_ (A : Alike h x roots ro rv) : ∀ (l : List Ob) (k : Nat), (∀ o ∈ l, o ∈ hfind h roots) → hnum ((hfind h roots).map ro) k (l.map ro) = hnum (hfind h roots) k l
  | [], _, _ => rfl
  | o :: l, k, hl => by
    simp only [List.map_cons, hnum]
    rw [A.fields o (hl o (by simp)), A.ren o.fs fun v hv => .inr ⟨o, hl o (by simp), hv⟩, Alike.num_ A l (k + 1) fun y hy => hl y (by simp [hy])]
/-- Two heaps that say the same have one normal form. -/
theorem Alike.canon (A : Alike h x roots ro rv) : hcanon x (roots.map rv) = hcanon h roots := by
  unfold hcanon
  rw [A.find, A.num_ _ 0 fun o ho => ho, A.ren roots fun v hv => .inl hv]
end
end Go.Proofs.Ytiamdekgpombdaa
