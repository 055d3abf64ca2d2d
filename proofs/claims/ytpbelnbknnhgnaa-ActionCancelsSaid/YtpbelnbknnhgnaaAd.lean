/- Deeds as they lie in memory; the reference's settled, reserved. -/
import Derived.Test.YtpbelnbknnhgnaaAco
import Derived.Test.YtpbelnbknnhgnaaMo
import Derived.WalkArith
import Derived.Laws.ResultCell
namespace Go.Proofs.Ytpbelnbknnhgnaa
open Go.RowKit

theorem cells_len {α : Type} (f : α → List Value) (s : Nat) (hf : ∀ a, (f a).length = s) (l : List α) : (l.flatMap f).length = l.length * s := by
  induction l with
  | nil => simp
  | cons x l ih => simp only [List.flatMap_cons, List.length_append, hf, ih, List.length_cons, Nat.add_mul, Nat.one_mul]; omega
theorem cells_get {α : Type} (f : α → List Value) (s : Nat) (hf : ∀ a, (f a).length = s) (l : List α) (k j : Nat) (hk : k < l.length) (hj : j < s) : (l.flatMap f)[k * s + j]? = (f l[k])[j]? := by
  induction l generalizing k with
  | nil => simp at hk
  | cons x l ih =>
    cases k with
    | zero => simp only [List.flatMap_cons, Nat.zero_mul, Nat.zero_add, List.getElem_cons_zero]; rw [List.getElem?_append_left (by rw [hf]; exact hj)]
    | succ k =>
      simp only [List.flatMap_cons, List.getElem_cons_succ]
      have e : (k + 1) * s + j = s + (k * s + j) := by rw [Nat.add_mul, Nat.one_mul]; omega
      rw [e, List.getElem?_append_right (by rw [hf]; omega), hf, Nat.add_sub_cancel_left]
      exact ih k (by simpa using hk)
def Dd.E (d : Dd) : List Value := [.int .i64 d.kind, .int .i64 d.ticket, .int .i64 d.value, .bool d.act.ask, .int .i64 d.act.value, .int .i64 d.act.answer]
def dcells (l : List Dd) : List Value := l.flatMap Dd.E
theorem dcells_len (l : List Dd) : (dcells l).length = l.length * 6 := cells_len Dd.E 6 (fun _ => rfl) l
theorem dcells_append (a b : List Dd) : dcells (a ++ b) = dcells a ++ dcells b := by simp [dcells]
theorem dcells_one (l : List Dd) : ∀ u ∈ dcells l, u.oneCell' = true := by
  intro u hu
  obtain ⟨v, _, hv⟩ := List.mem_flatMap.1 hu
  simp [Dd.E] at hv
  rcases hv with rfl | rfl | rfl | rfl | rfl | rfl <;> rfl
/-- The slice at A reads as these deeds (in memory of whatever element type). -/
def Ds (w : World) (A : Option Addr) (l : List Dd) : Prop := ∃ e, Sl w e 6 A l.length (dcells l)
theorem Ds.gr0 {w w' : World} {A : Option Addr} {l : List Dd} (h : Ds w A l) (hg : Gr [] w w') : Ds w' A l := by obtain ⟨e, h⟩ := h; exact ⟨e, Sl.gr0 h hg⟩
theorem Ds.at_ {w : World} {A : Option Addr} {l : List Dd} (h : Ds w A l) {k : Nat} (hk : k < l.length) :
    ∃ b off, A = some ⟨b, off, none⟩ ∧ w.cell? ⟨b, off + k * 6, none⟩ = some (.int .i64 l[k].kind) ∧ w.cell? ⟨b, off + k * 6 + 1, none⟩ = some (.int .i64 l[k].ticket) ∧ w.cell? ⟨b, off + k * 6 + 2, none⟩ = some (.int .i64 l[k].value) ∧
      w.cell? ⟨b, off + k * 6 + 3, none⟩ = some (.bool l[k].act.ask) ∧ w.cell? ⟨b, off + k * 6 + 4, none⟩ = some (.int .i64 l[k].act.value) ∧ w.cell? ⟨b, off + k * 6 + 5, none⟩ = some (.int .i64 l[k].act.answer) := by
  obtain ⟨e, h⟩ := h
  obtain ⟨b, off, hA, hc⟩ := Sl.cell h (by omega)
  have g := fun j hj => cells_get Dd.E 6 (fun _ => rfl) l k j hk hj
  exact ⟨b, off, hA, hc (k * 6 + 0) _ (g 0 (by omega)), hc (k * 6 + 1) _ (g 1 (by omega)), hc (k * 6 + 2) _ (g 2 (by omega)), hc (k * 6 + 3) _ (g 3 (by omega)), hc (k * 6 + 4) _ (g 4 (by omega)), hc (k * 6 + 5) _ (g 5 (by omega))⟩

theorem rsv_cons (d : Dd) (l : List Dd) (t : Int) : rsv (d :: l) t = if (d.kind == 1 && d.ticket == t) = true then some d.value else rsv l t := by
  unfold rsv
  rw [List.find?_cons]
  split <;> rename_i h <;> simp [h]
theorem stl_cons (d : Dd) (l : List Dd) (t : Int) : stl (d :: l) t = (((d.kind == 2 || d.kind == 3) && d.ticket == t) || stl l t) := rfl
theorem ret_int_bool {a b : Int} {x y : Bool} (h : a = b) (k : x = y) : Ending.returned (.tuple #[.int .i64 a, .bool x]) = Ending.returned (.tuple #[.int .i64 b, .bool y]) := by rw [h, k]

set_option maxHeartbeats 1000000 in
theorem rsv_any (A : Option Addr) (c : Nat) (l : List Dd) (t : Int) (w : World) (h : Ds w A l) (hn : l.length ≤ 1000000) :
    Calls Try.prog 37 #[.slice A l.length c, .int .i64 t] w fun e w' => e = .returned (.tuple #[.int .i64 ((rsv l t).getD 0), .bool (rsv l t).isSome]) ∧ Gr [] w w' := by
  have HL := Lib.hid (show rsv l t = rsv (l.drop 0) t by rw [List.drop_zero])
  go_enter Try.func37, Try.ntmps37
  go_wp2
  go_loopw [6] (fun i w' => ∃ k : Nat, k ≤ l.length ∧ i = .int .i64 k ∧ rsv l t = rsv (l.drop k) t ∧ Gr [] w w') (fun i _ => l.length - (intOf i).toNat)
  case atStart => exact ⟨0, Nat.zero_le _, rfl, HL.out, Gr.refl _ _⟩
  case round =>
    obtain ⟨k, hk, rfl, hix, hgr⟩ := hrel
    have HI := Lib.hid hix
    clear hix
    by_cases hlt : k < l.length
    · have HD := Lib.hid (show rsv l t = if (l[k].kind == 1 && l[k].ticket == t) = true then some l[k].value else rsv (l.drop (k + 1)) t by rw [HI.out, List.drop_eq_getElem_cons hlt, rsv_cons])
      obtain ⟨b, off, rfl, hc0, hc1, hc2, _, _, _⟩ := (h.gr0 hgr).at_ hlt
      generalize l[k] = d at *
      obtain ⟨dk, dt, dv, da⟩ := d
      simp only at hc0 hc1 hc2 HD
      have e2 : (k : Int) < (l.length : Int) := by omega
      by_cases h1 : dk = 1
      · subst h1
        by_cases h2 : dt = t
        · subst h2
          go_wp2
          go_ret2
          exact ⟨ret_int_bool (by rw [HD.out]; simp) (by rw [HD.out]; simp), hgr⟩
        · have h2' : (dt == t) = false := by simpa using h2
          go_wp2
          go_roundw
          case rel => exact ⟨k + 1, by omega, by go_num, by rw [HD.out, h2']; simp, hgr⟩
          case measure => simp [intOf]; omega
      · have h1' : (dk == 1) = false := by simpa using h1
        go_wp2
        go_roundw
        case rel => exact ⟨k + 1, by omega, by go_num, by rw [HD.out, h1']; simp, hgr⟩
        case measure => simp [intOf]; omega
    · go_wp2
      go_ret2
      have : rsv l t = none := by rw [HI.out, List.drop_eq_nil_of_le (by omega)]; rfl
      exact ⟨ret_int_bool (by rw [this]; rfl) (by rw [this]; rfl), hgr⟩
end Go.Proofs.Ytpbelnbknnhgnaa
