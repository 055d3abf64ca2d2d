/- Small laws on memory: how a world grows, blocks that are known whole, slices that read as a list of cells. No program is named here. -/
import Derived.WalkKit
import Derived.WalkSpells
import Derived.WalkLawsBesides
import Derived.Deep.AppendLies
import Derived.Deep.Draws
import Derived.Deep.QuietTactic
import Derived.BigQuiet
import Derived.Lib.Hide
namespace Go.Proofs.Ytpbelnbknnhgnaa
open Go.RowKit

theorem ret_int {k : IntKind} {a b : Int} (h : a = b) : Ending.returned (.int k a) = Ending.returned (.int k b) := by rw [h]
theorem ret_slice {A : Option Addr} {n n' c : Nat} (h : n = n') : Ending.returned (.slice A n c) = Ending.returned (.slice A n' c) := by rw [h]
theorem ret_slice_int {A : Option Addr} {n n' c : Nat} {x x' : Int} (h : n = n') (hx : x = x') : Ending.returned (.tuple #[.slice A n c, .int .i64 x]) = Ending.returned (.tuple #[.slice A n' c, .int .i64 x']) := by rw [h, hx]
theorem ret_slice_int_int {A : Option Addr} {n n' c : Nat} {x x' y y' : Int} (h : n = n') (hx : x = x') (hy : y = y') : Ending.returned (.tuple #[.slice A n c, .int .i64 x, .int .i64 y]) = Ending.returned (.tuple #[.slice A n' c, .int .i64 x', .int .i64 y']) := by rw [h, hx, hy]
theorem go_eq {k : IntKind} {a b : Int} (h : a = b) : Value.int k a = Value.int k b := by rw [h]
theorem ret_bool {a b : Bool} (h : a = b) : Ending.returned (.bool a) = Ending.returned (.bool b) := by rw [h]
theorem addr_block (a : Addr) (n : Nat) : (a.add n).block = a.block := by unfold Addr.add; split <;> rfl
theorem addr_add (a : Addr) (i j : Nat) : (a.add i).add j = a.add (i + j) := by
  unfold Addr.add
  by_cases hi : i = 0 <;> by_cases hj : j = 0 <;> simp [hi, hj, Nat.add_assoc]
theorem addr_lit (b o n : Nat) : (⟨b, o, none⟩ : Addr).add n = ⟨b, o + n, none⟩ := by unfold Addr.add; split <;> simp_all

/-- From a to w only the blocks of M, and new ones, have turned. -/
structure Gr (M : List Nat) (a w : World) : Prop where
  os : w.os = a.os
  tape : w.tape = a.tape
  output : w.output = a.output
  size : a.heap.size ≤ w.heap.size
  block : ∀ k, k < a.heap.size → k ∉ M → w.heap[k]? = a.heap[k]?

section
variable {M : List Nat} {a b w w' : World}
theorem Gr.refl (M : List Nat) (w : World) : Gr M w w := ⟨rfl, rfl, rfl, Nat.le_refl _, fun _ _ _ => rfl⟩
theorem Gr.trans (h : Gr M a b) (k : Gr M b w) : Gr M a w :=
  ⟨k.os.trans h.os, k.tape.trans h.tape, k.output.trans h.output, Nat.le_trans h.size k.size, fun i hi hm => (k.block i (Nat.lt_of_lt_of_le hi h.size) hm).trans (h.block i hi hm)⟩
theorem Gr.mono {M' : List Nat} (h : Gr M a w) (hm : ∀ x ∈ M, x ∈ M') : Gr M' a w := ⟨h.os, h.tape, h.output, h.size, fun i hi hn => h.block i hi fun hx => hn (hm i hx)⟩
theorem Gr.of_nil (h : Gr [] a w) (M : List Nat) : Gr M a w := h.mono (by simp)
/-- Blocks that were new since a may be counted as new. -/
theorem Gr.trans_new {M' : List Nat} (h : Gr M a b) (k : Gr M' b w) (hn : ∀ x ∈ M', x ∈ M ∨ a.heap.size ≤ x) : Gr M a w :=
  ⟨k.os.trans h.os, k.tape.trans h.tape, k.output.trans h.output, Nat.le_trans h.size k.size, fun i hi hm =>
    (k.block i (Nat.lt_of_lt_of_le hi h.size) (fun hx => by rcases hn i hx with e | e; exact hm e; omega)).trans (h.block i hi hm)⟩
theorem Gr.drew (h : Gr M a w) : Gr M a w.drew := ⟨h.os, h.tape, h.output, h.size, h.block⟩
theorem Gr.drewN (h : Gr M a w) (n : Nat) : Gr M a (w.drewN n) := ⟨h.os, h.tape, h.output, h.size, h.block⟩
theorem Gr.alloc (h : Gr M a w) (o : Obj) : Gr M a (w.alloc o) :=
  ⟨h.os, h.tape, h.output, by have := h.size; simp; omega, fun i hi hm => (Below.heap_alloc w o i (Nat.lt_of_lt_of_le hi h.size)).trans (h.block i hi hm)⟩
theorem Gr.setCell (h : Gr M a w) {p : Addr} (hp : p.block ∈ M ∨ a.heap.size ≤ p.block) (u : Value) : Gr M a (w.setCell p u) :=
  ⟨h.os, h.tape, h.output, by have := h.size; simpa [World.setCell] using this, fun i hi hm =>
    (Below.heap_setCell w p u i (fun e => by subst e; rcases hp with e | e; exact hm e; omega)).trans (h.block i hi hm)⟩
theorem Gr.below (h : Gr M a w) {B : Nat} (hs : a.heap.size ≤ B) (k : Below B w w') : Gr M a w' :=
  ⟨k.os.trans h.os, k.tape.trans h.tape, k.output.trans h.output, Nat.le_trans h.size k.size, fun i hi hm => (k.block i (by omega)).trans (h.block i hi hm)⟩
theorem Gr.of_below (h : Below a.heap.size a w) (M : List Nat) : Gr M a w := ⟨h.os, h.tape, h.output, h.size, fun i hi _ => h.block i hi⟩
theorem Gr.to_below (h : Gr [] a w) : Below a.heap.size a w := ⟨h.os, h.tape, h.output, h.size, fun i hi => h.block i hi (by simp)⟩
theorem Gr.grown (h : Gr M a w) {row : Option Nat} (hg : w.grownBy w' row) (hr : ∀ k, row = some k → k ∈ M ∨ a.heap.size ≤ k) : Gr M a w' :=
  ⟨hg.os.trans h.os, hg.tape.trans h.tape, hg.output.trans h.output, Nat.le_trans h.size hg.size, fun i hi hm =>
    (hg.block i (Nat.lt_of_lt_of_le hi h.size) (fun e => by rcases hr i e.symm with x | x; exact hm x; omega)).trans (h.block i hi hm)⟩
theorem Gr.to_grown {g : Nat} (h : Gr [g] a w) : a.grownBy w (some g) := ⟨h.os, h.tape, h.output, h.size, fun i hi hn => h.block i hi (by simpa using fun e => hn (by rw [e]))⟩
theorem Gr.to_grown0 (h : Gr [] a w) (row : Option Nat) : a.grownBy w row := ⟨h.os, h.tape, h.output, h.size, fun i hi _ => h.block i hi (by simp)⟩
theorem Gr.lt (h : Gr M a w) {g : Nat} (hg : g < a.heap.size) : g < w.heap.size := Nat.lt_of_lt_of_le hg h.size
end

theorem cell_lt {w : World} {p : Addr} {v : Value} (h : w.cell? p = some v) : p.block < w.heap.size := World.block_lt_of_cell? w p h
theorem Gr.cell {M : List Nat} {a w : World} (h : Gr M a w) {p : Addr} {v : Value} (hc : a.cell? p = some v) (hm : p.block ∉ M) : w.cell? p = some v :=
  (World.cell?_of_block (h.block p.block (cell_lt hc) hm)).trans hc
theorem cell_alloc {w : World} {p : Addr} {v : Value} (hc : w.cell? p = some v) (o : Obj) : (w.alloc o).cell? p = some v := ((Gr.refl [] w).alloc o).cell hc (by simp)

/-- Block g is just the cells cs of element type t, none frozen. -/
def Bk (w : World) (g : Nat) (t : TypeId) (cs : Array Value) : Prop := w.heap[g]? = some (.cells cs t (0, 0))
section
variable {M : List Nat} {a w w' : World} {g : Nat} {t : TypeId} {cs : Array Value}
theorem Bk.lt (h : Bk w g t cs) : g < w.heap.size := by
  rcases Nat.lt_or_ge g w.heap.size with hlt | hge
  · exact hlt
  · unfold Bk at h; rw [Array.getElem?_eq_none hge] at h; cases h
theorem Bk.cell (h : Bk w g t cs) (i : Nat) : w.cell? ⟨g, i, none⟩ = cs[i]? := cell_of_row w g i cs t (0, 0) h
theorem Bk.cells2 {x y : Value} (h : Bk w g t #[x, y]) : w.cell? ⟨g, 0, none⟩ = some x ∧ w.cell? ⟨g, 1, none⟩ = some y := ⟨h.cell 0, h.cell 1⟩
theorem Bk.cells3 {x y z : Value} (h : Bk w g t #[x, y, z]) : w.cell? ⟨g, 0, none⟩ = some x ∧ w.cell? ⟨g, 1, none⟩ = some y ∧ w.cell? ⟨g, 2, none⟩ = some z := ⟨h.cell 0, h.cell 1, h.cell 2⟩
theorem Bk.frozen (h : Bk w g t cs) (i : Nat) : w.frozen? ⟨g, i, none⟩ = false := by
  unfold Bk at h
  simp [World.frozen?, h]
theorem Bk.new (w : World) (t : TypeId) (cs : Array Value) : Bk (w.alloc (.cells cs t)) w.heap.size t cs := heap_alloc_new w _
theorem Bk.drew (h : Bk w g t cs) : Bk w.drew g t cs := h
theorem Bk.drewN (h : Bk w g t cs) (n : Nat) : Bk (w.drewN n) g t cs := h
theorem Bk.alloc (h : Bk w g t cs) (o : Obj) : Bk (w.alloc o) g t cs := (Below.heap_alloc w o g h.lt).trans h
theorem Bk.set_ (h : Bk w g t cs) (i : Nat) (u : Value) : Bk (w.setCell ⟨g, i, none⟩ u) g t (cs.setIfInBounds i u) := by
  unfold Bk at h ⊢
  simp [World.setCell, Array.getElem?_modify, h]
theorem Bk.far (h : Bk w g t cs) {p : Addr} (hp : g ≠ p.block) (u : Value) : Bk (w.setCell p u) g t cs := (Below.heap_setCell w p u g hp).trans h
theorem Bk.gr (h : Bk w g t cs) (hg : Gr M w w') (hn : g ∉ M) : Bk w' g t cs := (hg.block g h.lt hn).trans h
theorem Bk.ne_ {g' : Nat} {t' : TypeId} {cs' : Array Value} (h : Bk w g t cs) (h' : Bk w g' t' cs') (hne : t ≠ t') : g ≠ g' := by
  rintro rfl
  unfold Bk at h h'
  rw [h] at h'
  injection h' with h'
  injection h' with _ ht
  exact hne ht
end

/-- The slice at A of n elements of type e (size cells each) reads as xs. -/
def Sl (w : World) (e : TypeId) (size : Nat) (A : Option Addr) (n : Nat) (xs : List Value) : Prop :=
  xs.length = n * size ∧ (0 < n → ∃ b off cs fz, A = some ⟨b, off, none⟩ ∧ w.heap[b]? = some (.cells cs e fz) ∧ ∀ j u, xs[j]? = some u → cs[off + j]? = some u)
section
variable {M : List Nat} {w w' : World} {e : TypeId} {size : Nat} {A : Option Addr} {n : Nat} {xs : List Value}
theorem Sl.nil (w : World) (e : TypeId) (size : Nat) (A : Option Addr) : Sl w e size A 0 [] := ⟨by simp, fun h => absurd h (by omega)⟩
theorem Sl.drew (h : Sl w e size A n xs) : Sl w.drew e size A n xs := h
theorem Sl.drewN (h : Sl w e size A n xs) (k : Nat) : Sl (w.drewN k) e size A n xs := h
theorem Sl.keep (h : Sl w e size A n xs) (hk : ∀ b off, A = some ⟨b, off, none⟩ → b < w.heap.size → w'.heap[b]? = w.heap[b]?) : Sl w' e size A n xs :=
  ⟨h.1, fun hn => by
    obtain ⟨b, off, cs, fz, hA, hb, hc⟩ := h.2 hn
    have hlt : b < w.heap.size := by
      rcases Nat.lt_or_ge b w.heap.size with hlt | hge
      · exact hlt
      · rw [Array.getElem?_eq_none hge] at hb; cases hb
    exact ⟨b, off, cs, fz, hA, (hk b off hA hlt).trans hb, hc⟩⟩
theorem Sl.gr0 (h : Sl w e size A n xs) (hg : Gr [] w w') : Sl w' e size A n xs := h.keep fun b _ _ hb => hg.block b hb (by simp)
theorem Sl.alloc (h : Sl w e size A n xs) (o : Obj) : Sl (w.alloc o) e size A n xs := h.gr0 ((Gr.refl [] w).alloc o)
/-- A block of another type may turn. -/
theorem Sl.gr1 (h : Sl w e size A n xs) {g : Nat} {t : TypeId} {cs : Array Value} (hk : Bk w g t cs) (hne : e ≠ t) (hg : Gr [g] w w') : Sl w' e size A n xs :=
  ⟨h.1, fun hn => by
    obtain ⟨b, off, cs', fz, hA, hb, hc⟩ := h.2 hn
    have hbg : b ≠ g := by
      rintro rfl
      unfold Bk at hk
      rw [hb] at hk
      injection hk with hk
      injection hk with _ ht _
      exact hne ht
    have hlt : b < w.heap.size := by
      rcases Nat.lt_or_ge b w.heap.size with hlt | hge
      · exact hlt
      · rw [Array.getElem?_eq_none hge] at hb; cases hb
    exact ⟨b, off, cs', fz, hA, (hg.block b hlt (by simpa using hbg)).trans hb, hc⟩⟩
theorem Sl.cell (h : Sl w e size A n xs) (hn : 0 < n) : ∃ b off, A = some ⟨b, off, none⟩ ∧ ∀ j u, xs[j]? = some u → w.cell? ⟨b, off + j, none⟩ = some u := by
  obtain ⟨b, off, cs, fz, hA, hb, hc⟩ := h.2 hn
  exact ⟨b, off, hA, fun j u hu => by rw [cell_of_row w b _ cs e fz hb]; exact hc j u hu⟩
theorem Sl.ne_bk (h : Sl w e size A n xs) {g : Nat} {t : TypeId} {cs : Array Value} (hk : Bk w g t cs) (hne : e ≠ t) {b off : Nat} (hA : A = some ⟨b, off, none⟩) (hn : 0 < n) : b ≠ g := by
  obtain ⟨b', off', cs', fz, hA', hb, _⟩ := h.2 hn
  rw [hA] at hA'
  injection hA' with hA'
  injection hA' with hA' _
  subst hA'
  rintro rfl
  unfold Bk at hk
  rw [hb] at hk
  injection hk with hk
  injection hk with _ ht _
  exact hne ht
theorem Sl.cell_add (h : Sl w e size A n xs) (hn : 0 < n) : ∃ ad, A = some ad ∧ ∀ j u, xs[j]? = some u → w.cell? (ad.add j) = some u := by
  obtain ⟨b, off, hA, hc⟩ := h.cell hn
  exact ⟨_, hA, fun j u hu => by rw [addr_lit]; exact hc j u hu⟩
theorem Sl.of_own {base cap : Nat} (h : w.ownsRow base e size (.slice A n cap) n xs) : Sl w e size A n xs := by
  refine ⟨h.1, fun hn => ?_⟩
  rcases h.2 with ⟨hv, h0⟩ | ⟨g, cap', cur, hv, _, hg, _, _, _, ht⟩
  · omega
  · injection hv with hA _ _
    refine ⟨g, 0, cur, (0, 0), hA, hg, fun j u hu => ?_⟩
    rw [← ht, List.getElem?_take] at hu
    split at hu
    · simpa using hu
    · cases hu
end
/-- The place of the first element of which p is true, from k on; -1 if there is none. -/
def ixFrom {α : Type} (p : α → Bool) : List α → Nat → Int
  | [], _ => -1
  | x :: l, k => if p x then (k : Int) else ixFrom p l (k + 1)
theorem ixFrom_hit {α : Type} (p : α → Bool) (l : List α) (k j : Nat) (h : j < l.length) (hp : p l[j] = true) : ixFrom p (l.drop j) k = k := by
  rw [List.drop_eq_getElem_cons h]; simp [ixFrom, hp]
theorem ixFrom_miss {α : Type} (p : α → Bool) (l : List α) (k j : Nat) (h : j < l.length) (hp : p l[j] = false) : ixFrom p (l.drop j) k = ixFrom p (l.drop (j + 1)) (k + 1) := by
  rw [List.drop_eq_getElem_cons h]; simp [ixFrom, hp]
theorem ixFrom_end {α : Type} (p : α → Bool) (l : List α) (k j : Nat) (h : l.length ≤ j) : ixFrom p (l.drop j) k = -1 := by
  rw [List.drop_eq_nil_of_le h]; rfl
theorem ixFrom_bd {α : Type} (p : α → Bool) (l : List α) (k : Nat) : -1 ≤ ixFrom p l k ∧ ixFrom p l k < (k + l.length : Nat) := by
  induction l generalizing k with
  | nil => simp [ixFrom]; omega
  | cons x l ih => simp only [ixFrom, List.length_cons]; have := ih (k + 1); split <;> omega
theorem ixFrom_nonneg {α : Type} (p : α → Bool) (l : List α) (k : Nat) : 0 ≤ ixFrom p l k ↔ ∃ x ∈ l, p x = true := by
  induction l generalizing k with
  | nil => simp [ixFrom]
  | cons x l ih => simp only [ixFrom]; split <;> rename_i h <;> simp [h, ih]
theorem ixFrom_ge {α : Type} (p : α → Bool) (l : List α) (k : Nat) (h : 0 ≤ ixFrom p l k) : (k : Int) ≤ ixFrom p l k := by
  induction l generalizing k with
  | nil => simp [ixFrom] at h
  | cons x l ih =>
    simp only [ixFrom] at h ⊢
    split
    · omega
    · rename_i hp; rw [if_neg hp] at h; have := ih _ h; omega
theorem Sl.at_ {w : World} {e : TypeId} {A : Option Addr} {n : Nat} {xs : List Value} (h : Sl w e 1 A n xs) {k : Nat} (hk : k < n) : ∃ b off u, A = some ⟨b, off, none⟩ ∧ xs[k]? = some u ∧ w.cell? ⟨b, off + k, none⟩ = some u := by
  obtain ⟨b, off, hA, hc⟩ := h.cell (by omega)
  have hl : k < xs.length := by have := h.1; omega
  exact ⟨b, off, xs[k], hA, List.getElem?_eq_getElem hl, hc k _ (List.getElem?_eq_getElem hl)⟩
theorem own_gr0 {w w' : World} {base : Nat} {e : TypeId} {size : Nat} {v : Value} {n : Nat} {xs : List Value} (h : w.ownsRow base e size v n xs) (hg : Gr [] w w') : w'.ownsRow base e size v n xs :=
  h.kept (hg.to_grown0 none) (by cases v.ownBlock <;> simp)
theorem own_gr1 {w w' : World} {base : Nat} {e : TypeId} {size : Nat} {v : Value} {n : Nat} {xs : List Value} {g : Nat} {t : TypeId} {cs : Array Value} (h : w.ownsRow base e size v n xs) (hk : Bk w g t cs) (hne : e ≠ t) (hg : Gr [g] w w') : w'.ownsRow base e size v n xs := by
  refine h.kept hg.to_grown ?_
  rcases h.2 with ⟨rfl, _⟩ | ⟨g', cap, cur, rfl, _, hh, _⟩
  · exact .inl rfl
  · right
    intro he
    have : g' = g := by simpa [Value.ownBlock] using he
    subst this
    exact (Bk.ne_ (t := e) hh hk hne) rfl

theorem own_empty (w : World) (base : Nat) (e : TypeId) (size g : Nat) (hg : w.heap.size = g) (hb : base ≤ g) : (w.alloc (.cells #[] e)).ownsRow base e size (.slice (some ⟨g, 0, none⟩) 0 0) 0 [] := by
  subst hg
  exact World.ownsRow_lit w #[] 0 hb (by simp [maxLen]) (by simp)
theorem own_form {w : World} {base : Nat} {e : TypeId} {size : Nat} {A : Option Addr} {n c : Nat} {xs : List Value} (h : w.ownsRow base e size (.slice A n c) n xs) (hn : 0 < n) :
    ∃ g, A = some ⟨g, 0, none⟩ ∧ base ≤ g ∧ g < w.heap.size ∧ ∀ j, w.frozen? ⟨g, j, none⟩ = false := by
  obtain ⟨g, cap, hv, hb, hlt⟩ := h.form hn
  injection hv with hA _ hc
  subst hA; subst hc
  exact ⟨g, rfl, hb, hlt, fun j => h.frozenAt j⟩
theorem own_nil (w : World) (base : Nat) (e : TypeId) (size : Nat) : w.ownsRow base e size (.slice none 0 0) 0 [] := World.ownsRow_nil w base e size
theorem own_mono {w : World} {base base' : Nat} {e : TypeId} {size : Nat} {v : Value} {n : Nat} {xs : List Value} (h : w.ownsRow base e size v n xs) (hb : base' ≤ base) : w.ownsRow base' e size v n xs := by
  refine ⟨h.1, ?_⟩
  rcases h.2 with h | ⟨g, cap, cur, h1, h2, h3⟩
  · exact .inl h
  · exact .inr ⟨g, cap, cur, h1, by omega, h3⟩
/-- What an append leaves: w' is w but for one row of type e from base on, and new blocks. -/
structure App (base : Nat) (e : TypeId) (w w' : World) : Prop where
  gr : ∀ (M : List Nat) (a : World), a.heap.size ≤ base → Gr M a w → Gr M a w'
  keep : ∀ (k : Nat) (o : Obj), w.heap[k]? = some o → (k < base ∨ ∀ cs fz, o ≠ .cells cs e fz) → w'.heap[k]? = some o
  size : w.heap.size ≤ w'.heap.size
theorem App.of_grown {base : Nat} {e : TypeId} {size : Nat} {w w' : World} {v : Value} {n : Nat} {xs : List Value} (h : w.ownsRow base e size v n xs) (hg : w.grownBy w' v.ownBlock) : App base e w w' := by
  refine ⟨fun M a ha hM => hM.grown hg fun k hk => .inr (Nat.le_trans ha (h.lt k hk).1), fun k o ho hk => ?_, hg.size⟩
  have hlt : k < w.heap.size := by
    rcases Nat.lt_or_ge k w.heap.size with hlt | hge
    · exact hlt
    · rw [Array.getElem?_eq_none hge] at ho; cases ho
  refine (hg.block k hlt ?_).trans ho
  intro he
  rcases hk with hk | hk
  · have := (h.lt k he.symm).1; omega
  · rcases h.2 with ⟨rfl, _⟩ | ⟨g, cap, cur, rfl, _, hh, _⟩
    · simp [Value.ownBlock] at he
    · have : k = g := by simpa [Value.ownBlock] using he
      subst this
      rw [hh] at ho
      injection ho with ho
      exact hk _ _ ho.symm
theorem App.bk {base : Nat} {e t : TypeId} {w w' : World} {g : Nat} {cs : Array Value} (h : App base e w w') (hb : Bk w g t cs) (hne : t ≠ e) : Bk w' g t cs :=
  h.keep g _ hb (.inr fun cs' fz he => hne (by injection he))
theorem App.sl {base : Nat} {e e' : TypeId} {size : Nat} {w w' : World} {A : Option Addr} {n : Nat} {xs : List Value} (h : App base e w w') (hs : Sl w e' size A n xs) (hne : e' ≠ e) : Sl w' e' size A n xs :=
  ⟨hs.1, fun hn => by
    obtain ⟨b, off, cs, fz, hA, hb, hc⟩ := hs.2 hn
    exact ⟨b, off, cs, fz, hA, h.keep b _ hb (.inr fun cs' fz' he => hne (by injection he)), hc⟩⟩
theorem App.own {base base' : Nat} {e e' : TypeId} {size : Nat} {w w' : World} {v : Value} {n : Nat} {xs : List Value} (h : App base e w w') (hs : w.ownsRow base' e' size v n xs) (hne : e' ≠ e) : w'.ownsRow base' e' size v n xs := by
  refine ⟨hs.1, ?_⟩
  rcases hs.2 with hh | ⟨g, cap, cur, h1, h2, h3, h4⟩
  · exact .inl hh
  · exact .inr ⟨g, cap, cur, h1, h2, h.keep g _ h3 (.inr fun cs' fz' he => hne (by injection he)), h4⟩

section
variable {P : Program} (w : World)
theorem run_append_of_nil (base : Nat) (t ty e : TypeId) (i : TypeInfo) (size : Nat) (ht : P.underlying t = some (.slice e)) (hi : P.info? e = some i)
    (v : Value) (n : Nat) (xs : List Value) (hown : w.ownsRow base e size v n xs) (A : Option Addr) (c : Nat) : (Builtin.append_ #[t, t] ty #[v, .slice A 0 c]).run P w = .ok v w := by
  rcases hown.2 with ⟨rfl, rfl⟩ | ⟨g, cap, cur, rfl, _, _, hnc, _⟩
  · cases A <;> simp [Builtin.append_, run_underlying ht, sizeOf, typeInfo, hi, Builtin.lenOf, Builtin.firstCells, loadCells, loadCellsFrom]
  · cases A <;> simp [Builtin.append_, run_underlying ht, sizeOf, typeInfo, hi, Builtin.lenOf, Builtin.firstCells, hnc, storeCells, loadCells, loadCellsFrom]

theorem run_app (base : Nat) (t ty e : TypeId) (i : TypeInfo) (z : Value) (size bytes : Nat) (ht : P.underlying t = some (.slice e)) (hi : P.info? e = some i) (hz : i.zero = some z)
    (hsize : i.size = size) (hby : i.bytes = bytes) (hzs : z.cells.size = size) (hsz : 0 < size)
    (A0 : Option Addr) (c0 n : Nat) (xs : List Value) (hown : w.ownsRow base e size (.slice A0 n c0) n xs)
    (A : Option Addr) (m c : Nat) (news : List Value) (hr : Sl w e size A m news) (h1 : ∀ u ∈ news, u.oneCell' = true)
    (hbytes : (n + m) * bytes ≤ 140737488355328) (hpos : 0 < bytes) (hbase : base ≤ w.heap.size) :
    ∃ A' c' w', (Builtin.append_ #[t, t] ty #[.slice A0 n c0, .slice A m c]).run P w = .ok (.slice A' (n + m) c') w' ∧ w'.ownsRow base e size (.slice A' (n + m) c') (n + m) (xs ++ news) ∧ App base e w w' := by
  by_cases hm : m = 0
  · subst hm
    have hn : news = [] := List.eq_nil_of_length_eq_zero (by simpa using hr.1)
    subst hn
    exact ⟨A0, c0, w, by simpa using run_append_of_nil w base t ty e i size ht hi _ n xs hown A c, by simpa using hown, App.of_grown hown (World.grownBy.refl w _)⟩
  · obtain ⟨ad, rfl, hcells⟩ := hr.cell_add (by omega)
    have h63 : n + m ≤ maxLen := by
      have : n + m ≤ (n + m) * bytes := Nat.le_mul_of_pos_right _ hpos
      simp only [maxLen]; omega
    obtain ⟨v', w', hrun, h2, h3, _⟩ := run_append_own (P := P) w base t ty e i z size bytes ht hi hz hsize hby hzs hsz _ n xs hown ad m c news hr.1 hcells h1 h63 hbytes hbase
    have hf : ∃ A' c', v' = .slice A' (n + m) c' := by
      rcases h2.2 with ⟨rfl, h0⟩ | ⟨g, cap, cur, rfl, _⟩
      · exact ⟨none, 0, by rw [h0]⟩
      · exact ⟨_, _, rfl⟩
    obtain ⟨A', c', rfl⟩ := hf
    exact ⟨A', c', w', hrun, h2, App.of_grown hown h3⟩

theorem wp_app {o : Oper} {a : Act} {K : Act → World → Prop} {Q : Exit → Act → World → Prop} (s x : Operand) (t : TypeId)
    (ho : o.op = .call { callee := .builtin .append, args := #[s, x], argTypes := #[t, t] })
    (base : Nat) (e : TypeId) (i : TypeInfo) (z : Value) (size bytes : Nat) (ht : P.underlying t = some (.slice e)) (hi : P.info? e = some i) (hz : i.zero = some z)
    (hsize : i.size = size) (hby : i.bytes = bytes) (hzs : z.cells.size = size) (hsz : 0 < size) (hpos : 0 < bytes)
    (A0 : Option Addr) (n c0 : Nat) (xs : List Value) (hs : a.eval s = .slice A0 n c0) (hown : w.ownsRow base e size (.slice A0 n c0) n xs)
    (A : Option Addr) (m c : Nat) (news : List Value) (hx : a.eval x = .slice A m c) (hr : Sl w e size A m news) (h1 : ∀ u ∈ news, u.oneCell' = true)
    (hbytes : (n + m) * bytes ≤ 140737488355328) (hbase : base ≤ w.heap.size)
    (h : ∀ (A' : Option Addr) (c' : Nat) (w' : World), w'.ownsRow base e size (.slice A' (n + m) c') (n + m) (xs ++ news) → App base e w w' → K (a.put o.dst (.slice A' (n + m) c')) w') : o.wp P a w K Q := by
  obtain ⟨A', c', w', hrun, h2, h3⟩ := run_app (P := P) w base t o.type e i z size bytes ht hi hz hsize hby hzs hsz A0 c0 n xs hown A m c news hr h1 hbytes hpos hbase
  unfold Oper.wp execOp
  simp only [ho, resolve, invoke, builtin, Sem.run_bind, Sem.run_pure, Result.andThen_ok, List.map_toArray, List.map_cons, List.map_nil, hs, hx, hrun]
  exact h A' c' w' h2 h3

/-- append onto a row of the call's own; what is appended may be nil, empty or whatever. -/
theorem wpList_app {ops : Array Oper} {rest : List Oper} {o : Oper} {a : Act} {Q : Exit → Act → World → Prop} (hgd : o.guard = none) (s x : Operand) (t : TypeId)
    (ho : o.op = .call { callee := .builtin .append, args := #[s, x], argTypes := #[t, t] })
    (base : Nat) (e : TypeId) (i : TypeInfo) (z : Value) (size bytes : Nat) (ht : P.underlying t = some (.slice e)) (hi : P.info? e = some i) (hz : i.zero = some z)
    (hsize : i.size = size) (hby : i.bytes = bytes) (hzs : z.cells.size = size) (hsz : 0 < size) (hpos : 0 < bytes)
    (A0 : Option Addr) (n c0 : Nat) (xs : List Value) (hs : a.eval s = .slice A0 n c0) (hown : w.ownsRow base e size (.slice A0 n c0) n xs)
    (A : Option Addr) (m c : Nat) (news : List Value) (hx : a.eval x = .slice A m c) (hr : Sl w e size A m news) (h1 : ∀ u ∈ news, u.oneCell' = true)
    (hbytes : (n + m) * bytes ≤ 140737488355328) (hbase : base ≤ w.heap.size)
    (h : ∀ (A' : Option Addr) (c' : Nat) (w' : World), w'.ownsRow base e size (.slice A' (n + m) c') (n + m) (xs ++ news) → App base e w w' → wpList P ops Q rest (a.put o.dst (.slice A' (n + m) c')) w') : wpList P ops Q (o :: rest) a w :=
  wpList_plain hgd fun _ hK => wp_app w s x t ho base e i z size bytes ht hi hz hsize hby hzs hsz hpos A0 n c0 xs hs hown A m c news hx hr h1 hbytes hbase fun A' c' w' h2 h3 => hK _ _ (h A' c' w' h2 h3)
end
section
variable {P : Program} (w : World)
theorem run_copy_gen (dT sT ty elem : TypeId) (i : TypeInfo) (size : Nat) (g o dLen dCap : Nat) (a : Addr) (sLen sCap k : Nat) (cur : Array Value) (t : TypeId) (cs : List Value)
    (hu : P.underlying dT = some (.slice elem)) (hi : P.info? elem = some i) (hsize : i.size = size)
    (hg : Bk w g t cur) (hk : k = Nat.min sLen dLen) (hn : cs.length = k * size)
    (hsrc : ∀ j v, cs[j]? = some v → w.cell? (a.add j) = some v) (hfit : o + cs.length ≤ cur.size) (h1 : ∀ v ∈ cs, v.oneCell' = true) :
    (Builtin.copy_ #[dT, sT] ty #[.slice (some ⟨g, o, none⟩) dLen dCap, .slice (some a) sLen sCap]).run P w =
      .ok (.int .i64 k) (w.setRow g (cur.toList.take o ++ cs ++ cur.toList.drop (o + cs.length)).toArray) := by
  subst hsize
  have hl := run_firstCells_some (P := P) w i.size k a sLen sCap cs hn hsrc
  have hst := run_storeCells_at P g o t cs 0 cur w hg (by simpa using hfit) h1
  simp only [Nat.add_zero] at hst
  simp [Builtin.copy_, run_underlying hu, Builtin.lenOf, sizeOf, typeInfo, hi, ← hk, hl, hst, goInt]
theorem run_copy_ex (dT sT ty elem : TypeId) (i : TypeInfo) (size : Nat) (g o dLen dCap : Nat) (a : Addr) (sLen sCap k : Nat) (cur : Array Value) (t : TypeId) (cs : List Value)
    (hu : P.underlying dT = some (.slice elem)) (hi : P.info? elem = some i) (hsize : i.size = size)
    (hg : Bk w g t cur) (hk : k = Nat.min sLen dLen) (hn : cs.length = k * size)
    (hsrc : ∀ j v, cs[j]? = some v → w.cell? (a.add j) = some v) (hfit : o + cs.length ≤ cur.size) (h1 : ∀ v ∈ cs, v.oneCell' = true) :
    ∃ w', (Builtin.copy_ #[dT, sT] ty #[.slice (some ⟨g, o, none⟩) dLen dCap, .slice (some a) sLen sCap]).run P w = .ok (.int .i64 k) w' ∧
      Bk w' g t (cur.toList.take o ++ cs ++ cur.toList.drop (o + cs.length)).toArray ∧ (∀ (M : List Nat) (a0 : World), (g ∈ M ∨ a0.heap.size ≤ g) → Gr M a0 w → Gr M a0 w') := by
  refine ⟨_, run_copy_gen w dT sT ty elem i size g o dLen dCap a sLen sCap k cur t cs hu hi hsize hg hk hn hsrc hfit h1, setRow_heap w g cur _ t _ hg, fun M a0 hM hG => ?_⟩
  have hgr : w.grownBy (w.setRow g (cur.toList.take o ++ cs ++ cur.toList.drop (o + cs.length)).toArray) (some g) := ⟨rfl, rfl, rfl, by simp, fun j _ hj => setRow_other w g j _ (fun e => hj (by simp [e]))⟩
  exact hG.grown hgr (fun k hk => by injection hk with hk; subst hk; exact hM)
theorem wp_copy_gen {o : Oper} {a : Act} {K : Act → World → Prop} {Q : Exit → Act → World → Prop} (d s : Operand) (dT sT : TypeId)
    (ho : o.op = .call { callee := .builtin .copy, args := #[d, s], argTypes := #[dT, sT] })
    (elem : TypeId) (i : TypeInfo) (size : Nat) (hu : P.underlying dT = some (.slice elem)) (hi : P.info? elem = some i) (hsize : i.size = size)
    (g off dLen dCap : Nat) (ad : Addr) (sLen sCap k : Nat) (hd : a.eval d = .slice (some ⟨g, off, none⟩) dLen dCap) (hs : a.eval s = .slice (some ad) sLen sCap)
    (cur : Array Value) (t : TypeId) (hg : Bk w g t cur) (cs : List Value) (hk : k = Nat.min sLen dLen) (hn : cs.length = k * size)
    (hsrc : ∀ j v, cs[j]? = some v → w.cell? (ad.add j) = some v) (hfit : off + cs.length ≤ cur.size) (h1 : ∀ v ∈ cs, v.oneCell' = true)
    (h : ∀ w', Bk w' g t (cur.toList.take off ++ cs ++ cur.toList.drop (off + cs.length)).toArray → (∀ (M : List Nat) (a0 : World), (g ∈ M ∨ a0.heap.size ≤ g) → Gr M a0 w → Gr M a0 w') → K (a.put o.dst (.int .i64 k)) w') : o.wp P a w K Q := by
  have hrun := run_copy_gen (P := P) w dT sT o.type elem i size g off dLen dCap ad sLen sCap k cur t cs hu hi hsize hg hk hn hsrc hfit h1
  unfold Oper.wp execOp
  simp only [ho, resolve, invoke, builtin, Sem.run_bind, Sem.run_pure, Result.andThen_ok, List.map_toArray, List.map_cons, List.map_nil, hd, hs, hrun]
  refine h _ (setRow_heap w g cur _ t _ hg) fun M a0 hM hG => ?_
  have hgr : w.grownBy (w.setRow g (cur.toList.take off ++ cs ++ cur.toList.drop (off + cs.length)).toArray) (some g) := ⟨rfl, rfl, rfl, by simp, fun j _ hj => setRow_other w g j _ (fun e => hj (by simp [e]))⟩
  exact hG.grown hgr (fun k hk => by injection hk with hk; subst hk; exact hM)
theorem wpList_copy_gen {ops : Array Oper} {rest : List Oper} {o : Oper} {a : Act} {Q : Exit → Act → World → Prop} (hgd : o.guard = none) (d s : Operand) (dT sT : TypeId)
    (ho : o.op = .call { callee := .builtin .copy, args := #[d, s], argTypes := #[dT, sT] })
    (elem : TypeId) (i : TypeInfo) (size : Nat) (hu : P.underlying dT = some (.slice elem)) (hi : P.info? elem = some i) (hsize : i.size = size)
    (g off dLen dCap : Nat) (ad : Addr) (sLen sCap k : Nat) (hd : a.eval d = .slice (some ⟨g, off, none⟩) dLen dCap) (hs : a.eval s = .slice (some ad) sLen sCap)
    (cur : Array Value) (t : TypeId) (hg : Bk w g t cur) (cs : List Value) (hk : k = Nat.min sLen dLen) (hn : cs.length = k * size)
    (hsrc : ∀ j v, cs[j]? = some v → w.cell? (ad.add j) = some v) (hfit : off + cs.length ≤ cur.size) (h1 : ∀ v ∈ cs, v.oneCell' = true)
    (h : ∀ w', Bk w' g t (cur.toList.take off ++ cs ++ cur.toList.drop (off + cs.length)).toArray → (∀ (M : List Nat) (a0 : World), (g ∈ M ∨ a0.heap.size ≤ g) → Gr M a0 w → Gr M a0 w') → wpList P ops Q rest (a.put o.dst (.int .i64 k)) w') : wpList P ops Q (o :: rest) a w :=
  wpList_plain hgd fun _ hK => wp_copy_gen w d s dT sT ho elem i size hu hi hsize g off dLen dCap ad sLen sCap k hd hs cur t hg cs hk hn hsrc hfit h1 fun w' h2 h3 => hK _ _ (h w' h2 h3)
theorem step_copy_gen {ops : Array Oper} {o : Oper} {a : Act} {K : Act → World → Prop} {Q : Exit → Act → World → Prop} {E : Prop} (hgd : o.guard = none) (d s : Operand) (dT sT : TypeId)
    (ho : o.op = .call { callee := .builtin .copy, args := #[d, s], argTypes := #[dT, sT] })
    (elem : TypeId) (i : TypeInfo) (size : Nat) (hu : P.underlying dT = some (.slice elem)) (hi : P.info? elem = some i) (hsize : i.size = size)
    (g off dLen dCap : Nat) (ad : Addr) (sLen sCap k : Nat) (hd : a.eval d = .slice (some ⟨g, off, none⟩) dLen dCap) (hs : a.eval s = .slice (some ad) sLen sCap)
    (cur : Array Value) (t : TypeId) (hg : Bk w g t cur) (cs : List Value) (hk : k = Nat.min sLen dLen) (hn : cs.length = k * size)
    (hsrc : ∀ j v, cs[j]? = some v → w.cell? (ad.add j) = some v) (hfit : off + cs.length ≤ cur.size) (h1 : ∀ v ∈ cs, v.oneCell' = true)
    (h : ∀ w', Bk w' g t (cur.toList.take off ++ cs ++ cur.toList.drop (off + cs.length)).toArray → (∀ (M : List Nat) (a0 : World), (g ∈ M ∨ a0.heap.size ≤ g) → Gr M a0 w → Gr M a0 w') → K (a.put o.dst (.int .i64 k)) w') :
    if Region.wanted o (yielded ops a.tmps) = true then Oper.wp P o a w K Q else E := by
  have hw : Region.wanted o (yielded ops a.tmps) = true := by simp [Region.wanted, hgd]
  rw [if_pos hw]
  exact wp_copy_gen w d s dT sT ho elem i size hu hi hsize g off dLen dCap ad sLen sCap k hd hs cur t hg cs hk hn hsrc hfit h1 h
theorem run_make_rowN {P : Program} (t e : TypeId) (i : TypeInfo) (z : Value) (ht : P.underlying t = some (.slice e)) (hi : P.info? e = some i) (hz : i.zero = some z)
    (kl kc : IntKind) (n c : Nat) (hnc : n ≤ c) (hbytes : i.bytes * c ≤ 281474976710656) (h63 : c ≤ 9223372036854775807) (w : World) :
    (Instr.makeSlice t (.int kl (n : Int)) (.int kc (c : Int))).run P w = .ok (.slice (some ⟨w.heap.size, 0, none⟩) n c) (w.alloc (.cells (madeCells z.cells (c * i.size)) e)) := by
  have hb : (i.bytes : Int) * (c : Int) ≤ 281474976710656 := by
    have h : ((i.bytes * c : Nat) : Int) ≤ 281474976710656 := by omega
    rwa [Int.natCast_mul] at h
  have hr := run_make (P := P) w t e i z ht hi hz kl kc n c (by omega) (by omega) hb (by omega)
  simp only [Int.toNat_natCast] at hr
  exact hr
end
/-- A row that was just laid down reads as its cells. -/
theorem Sl.new (w : World) (e : TypeId) (size : Nat) (cs : Array Value) (n g : Nat) (hg : w.heap.size = g) (hs : cs.size = n * size) : Sl (w.alloc (.cells cs e)) e size (some ⟨g, 0, none⟩) n cs.toList := by
  subst hg
  exact ⟨by simpa using hs, fun _ => ⟨_, _, cs, (0, 0), rfl, heap_alloc_new w _, fun j u hu => by simpa using hu⟩⟩

theorem quiet_l {P : Program} {f : FuncId} {args : Array Value} {w : World} {v : Value} (h : Calls P f args w fun e w' => e = .returned v ∧ w = w') :
    Calls P f args w fun e w'' => e = .returned v ∧ ∃ m, w'' = w.drewN m := h.mono fun _ _ ⟨he, hm⟩ => ⟨he, 0, by rw [← hm]; rfl⟩
theorem quiet_ln {P : Program} {f : FuncId} {args : Array Value} {w : World} {n : Nat} {v : Value} (h : Calls P f args (w.drewN n) fun e w' => e = .returned v ∧ w.drewN n = w') :
    Calls P f args (w.drewN n) fun e w'' => e = .returned v ∧ ∃ m, w'' = w.drewN m := h.mono fun _ _ ⟨he, hm⟩ => ⟨he, n, hm.symm⟩
end Go.Proofs.Ytpbelnbknnhgnaa
