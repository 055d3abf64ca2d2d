/- append as a step of a region that draws. No program is named here. -/
import Derived.Test.YtpbelnbknnhgnaaMem
import Derived.Deep.RegionLaw
namespace Go.Proofs.Ytpbelnbknnhgnaa
open Go.RowKit

theorem step_app {P : Program} {w : World} {ops : Array Oper} {o : Oper} {a : Act} {K : Act → World → Prop} {Q : Exit → Act → World → Prop} {E : Prop} (hgd : o.guard = none) (s x : Operand) (t : TypeId)
    (ho : o.op = .call { callee := .builtin .append, args := #[s, x], argTypes := #[t, t] })
    (base : Nat) (e : TypeId) (i : TypeInfo) (z : Value) (size bytes : Nat) (ht : P.underlying t = some (.slice e)) (hi : P.info? e = some i) (hz : i.zero = some z)
    (hsize : i.size = size) (hby : i.bytes = bytes) (hzs : z.cells.size = size) (hsz : 0 < size) (hpos : 0 < bytes)
    (A0 : Option Addr) (n c0 : Nat) (xs : List Value) (hs : a.eval s = .slice A0 n c0) (hown : w.ownsRow base e size (.slice A0 n c0) n xs)
    (A : Option Addr) (m c : Nat) (news : List Value) (hx : a.eval x = .slice A m c) (hr : Sl w e size A m news) (h1 : ∀ u ∈ news, u.oneCell' = true)
    (hbytes : (n + m) * bytes ≤ 140737488355328) (hbase : base ≤ w.heap.size)
    (h : ∀ (A' : Option Addr) (c' : Nat) (w' : World), w'.ownsRow base e size (.slice A' (n + m) c') (n + m) (xs ++ news) → App base e w w' → K (a.put o.dst (.slice A' (n + m) c')) w') :
    if Region.wanted o (yielded ops a.tmps) = true then Oper.wp P o a w K Q else E := by
  have hw : Region.wanted o (yielded ops a.tmps) = true := by simp [Region.wanted, hgd]
  rw [if_pos hw]
  exact wp_app w s x t ho base e i z size bytes ht hi hz hsize hby hzs hsz hpos A0 n c0 xs hs hown A m c news hx hr h1 hbytes hbase h

theorem lt_of_get {w : World} {k : Nat} {o : Obj} (hk : w.heap[k]? = some o) : k < w.heap.size := by
  rcases Nat.lt_or_ge k w.heap.size with hlt | hge
  · exact hlt
  · rw [Array.getElem?_eq_none hge] at hk; cases hk
/-- From base on blocks may turn, but none of elements of type e (and none below base). -/
structure Lk (base : Nat) (e : TypeId) (w w' : World) : Prop where
  gr : ∀ (M : List Nat) (a : World), a.heap.size ≤ base → Gr M a w → Gr M a w'
  vals : ∀ (k : Nat) (cs : Array Value) (fz : Nat × Nat), w.heap[k]? = some (.cells cs e fz) → w'.heap[k]? = some (.cells cs e fz)
  size : w.heap.size ≤ w'.heap.size
section
variable {base : Nat} {e : TypeId} {w w1 w2 : World}
theorem Lk.refl (base : Nat) (e : TypeId) (w : World) : Lk base e w w := ⟨fun _ _ _ h => h, fun _ _ _ h => h, Nat.le_refl _⟩
theorem Lk.trans (h : Lk base e w w1) (k : Lk base e w1 w2) : Lk base e w w2 := ⟨fun M a ha hg => k.gr M a ha (h.gr M a ha hg), fun i cs fz hi => k.vals i cs fz (h.vals i cs fz hi), Nat.le_trans h.size k.size⟩
theorem Lk.of_gr (h : Gr [] w w1) : Lk base e w w1 := ⟨fun M a _ hg => hg.trans (h.of_nil M), fun _ _ _ hk => (h.block _ (lt_of_get hk) (by simp)).trans hk, h.size⟩
/-- One block from base on that is no cells of type e may turn. -/
theorem Lk.of_one {g : Nat} (h : Gr [g] w w1) (hg : base ≤ g) (hne : ∀ cs fz, w.heap[g]? ≠ some (.cells cs e fz)) : Lk base e w w1 :=
  ⟨fun M a ha hG => hG.trans_new h (fun x hx => .inr (by simp at hx; subst hx; omega)), fun k cs fz hk => by
    have hkg : k ≠ g := by rintro rfl; exact hne cs fz hk
    exact (h.block k (lt_of_get hk) (by simpa using hkg)).trans hk, h.size⟩
theorem Lk.of_app {t : TypeId} (h : App base t w w1) (hne : e ≠ t) : Lk base e w w1 :=
  ⟨h.gr, fun k cs fz hk => h.keep k _ hk (.inr fun cs' fz' he => hne (by injection he)), h.size⟩
theorem Lk.drew (base : Nat) (e : TypeId) (w : World) : Lk base e w w.drew := Lk.of_gr (Gr.refl [] w).drew
theorem Lk.sl {size : Nat} {A : Option Addr} {n : Nat} {xs : List Value} (h : Lk base e w w1) (hs : Sl w e size A n xs) : Sl w1 e size A n xs :=
  ⟨hs.1, fun hn => by
    obtain ⟨b, off, cs, fz, hA, hb, hc⟩ := hs.2 hn
    exact ⟨b, off, cs, fz, hA, h.vals b cs fz hb, hc⟩⟩
end
end Go.Proofs.Ytpbelnbknnhgnaa
