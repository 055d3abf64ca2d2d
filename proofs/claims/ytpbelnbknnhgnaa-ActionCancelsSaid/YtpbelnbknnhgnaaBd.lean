/- bad: one deed changed. -/
import Derived.Test.YtpbelnbknnhgnaaMd2
import Derived.StillTailTactics
namespace Go.Proofs.Ytpbelnbknnhgnaa
open Go.RowKit

theorem emod_of (v n : Int) (hn : 1 ≤ n) : v % n = if v.tmod n < 0 then v.tmod n + n else v.tmod n := by
  rcases Int.lt_or_le v 0 with hv | hv
  · have h1 : v.tmod n = -((-v) % n) := by rw [← Int.neg_neg v, Int.neg_tmod, Int.tmod_eq_emod_of_nonneg (by omega)]; simp
    have h2 : 0 ≤ (-v) % n := Int.emod_nonneg _ (by omega)
    have h3 : (-v) % n < n := Int.emod_lt_of_pos _ (by omega)
    have h4 : v % n = (-((-v) % n)) % n := by
      have := Int.emod_add_mul_ediv (-v) n
      have h5 : v = -((-v) % n) + n * (-((-v) / n)) := by rw [Int.mul_neg]; omega
      conv => lhs; rw [h5]
      rw [Int.add_mul_emod_self_left]
    rw [h1, h4]
    by_cases hz : (-v) % n = 0
    · rw [hz]; simp
    · rw [if_pos (by omega)]
      rw [← Int.add_emod_right, Int.emod_eq_of_lt (by omega) (by omega)]
  · rw [Int.tmod_eq_emod_of_nonneg hv, if_neg (by have := Int.emod_nonneg v (show n ≠ 0 by omega); omega)]

set_option maxHeartbeats 400000 in
theorem modq (v n : Int) (w : World) (hn : 1 ≤ n) (hn2 : n ≤ 1000000) :
    Calls Try.prog 9 #[.int .i64 v, .int .i64 n] w fun e w' => e = .returned (.int .i64 (v % n)) ∧ w = w' := by
  have h1 := Int.tmod_lt_of_pos v (show 0 < n by omega)
  have h2 : -n < v.tmod n := by have := Int.lt_tmod_of_pos v (show 0 < n by omega); omega
  have HE := Lib.hid (emod_of v n hn)
  go_enter Try.func9, Try.ntmps9
  go_wp2
  · go_ret
    exact ⟨ret_int (by rw [HE.out, if_pos (by assumption)]), rfl⟩
  · go_ret
    exact ⟨ret_int (by rw [HE.out, if_neg (by omega)]), rfl⟩

theorem dcells_set {d' : Dd} {j : Nat} {v : Value} (hj : j < 6) : ∀ (l : List Dd) (r : Nat) (hr : r < l.length), d'.E = l[r].E.set j v → dcells (l.set r d') = (dcells l).set (r * 6 + j) v
  | [], r, hr, _ => by simp at hr
  | x :: xs, 0, hr, h => by
    show d'.E ++ dcells xs = (x.E ++ dcells xs).set (0 * 6 + j) v
    rw [List.set_append_left _ _ (show 0 * 6 + j < x.E.length by simp [Dd.E]; omega), Nat.zero_mul, Nat.zero_add]
    rw [show d'.E = x.E.set j v from h]
  | x :: xs, r + 1, hr, h => by
    show x.E ++ dcells (xs.set r d') = (x.E ++ dcells xs).set ((r + 1) * 6 + j) v
    have hl : x.E.length = 6 := rfl
    rw [List.set_append_right _ _ (by rw [hl]; omega), hl, show (r + 1) * 6 + j - 6 = r * 6 + j by omega]
    rw [dcells_set hj xs r (by simpa using hr) (by simpa using h)]
/-- A row of the call's own, its cells known. -/
def Rw6 (w : World) (g : Nat) (l : List Dd) : Prop := ∃ cur : Array Value, Bk w g 32 cur ∧ ∀ (i : Nat) (u : Value), (dcells l)[i]? = some u → cur[i]? = some u
theorem Rw6.sl {w : World} {g : Nat} {l : List Dd} (h : Rw6 w g l) : Sl w 32 6 (some ⟨g, 0, none⟩) l.length (dcells l) := by
  obtain ⟨cur, h1, h2⟩ := h
  exact ⟨dcells_len l, fun _ => ⟨g, 0, cur, (0, 0), rfl, h1, fun j u hu => by rw [Nat.zero_add]; exact h2 j u hu⟩⟩
theorem Rw6.gr {M : List Nat} {w w' : World} {g : Nat} {l : List Dd} (h : Rw6 w g l) (hg : Gr M w w') (hn : g ∉ M) : Rw6 w' g l := by
  obtain ⟨cur, h1, h2⟩ := h
  exact ⟨cur, h1.gr hg hn, h2⟩
theorem Rw6.lt {w : World} {g : Nat} {l : List Dd} (h : Rw6 w g l) : g < w.heap.size := by
  obtain ⟨cur, h1, h2⟩ := h
  exact h1.lt
theorem Rw6.of_own {w : World} {base : Nat} {A : Option Addr} {c : Nat} {l : List Dd} (h : w.ownsRow base 32 6 (.slice A l.length c) l.length (dcells l)) (h0 : 0 < l.length) : ∃ g, A = some ⟨g, 0, none⟩ ∧ base ≤ g ∧ Rw6 w g l := by
  rcases h.2 with ⟨hv, hx⟩ | ⟨g, cap, cur, hv, hb, hg, _, _, _, ht⟩
  · omega
  · injection hv with hA _ _
    refine ⟨g, hA, hb, cur, hg, fun j u hu => ?_⟩
    rw [← ht, List.getElem?_take] at hu
    split at hu
    · simpa using hu
    · cases hu
theorem Rw6.cells {w : World} {g : Nat} {l : List Dd} (h : Rw6 w g l) {r : Nat} (hr : r < l.length) :
    w.cell? ⟨g, r * 6, none⟩ = some (.int .i64 l[r].kind) ∧ w.cell? ⟨g, r * 6 + 1, none⟩ = some (.int .i64 l[r].ticket) ∧ w.cell? ⟨g, r * 6 + 2, none⟩ = some (.int .i64 l[r].value) ∧ w.cell? ⟨g, r * 6 + 3, none⟩ = some (.bool l[r].act.ask) ∧ w.cell? ⟨g, r * 6 + 4, none⟩ = some (.int .i64 l[r].act.value) ∧ w.cell? ⟨g, r * 6 + 5, none⟩ = some (.int .i64 l[r].act.answer) ∧ ∀ j, w.frozen? ⟨g, j, none⟩ = false := by
  obtain ⟨cur, h1, h2⟩ := h
  have g := fun j hj => cells_get Dd.E 6 (fun _ => rfl) l r j hr hj
  exact ⟨(h1.cell _).trans (h2 (r * 6 + 0) _ (g 0 (by omega))), (h1.cell _).trans (h2 (r * 6 + 1) _ (g 1 (by omega))), (h1.cell _).trans (h2 (r * 6 + 2) _ (g 2 (by omega))), (h1.cell _).trans (h2 (r * 6 + 3) _ (g 3 (by omega))), (h1.cell _).trans (h2 (r * 6 + 4) _ (g 4 (by omega))), (h1.cell _).trans (h2 (r * 6 + 5) _ (g 5 (by omega))), fun j => h1.frozen j⟩
theorem Rw6.set_ {w : World} {g : Nat} {l : List Dd} (h : Rw6 w g l) {r j : Nat} (hr : r < l.length) (hj : j < 6) (d' : Dd) (v : Value) (hd : d'.E = l[r].E.set j v) : Rw6 (w.setCell ⟨g, r * 6 + j, none⟩ v) g (l.set r d') := by
  obtain ⟨cur, h1, h2⟩ := h
  refine ⟨_, h1.set_ (r * 6 + j) v, fun i u hu => ?_⟩
  rw [dcells_set hj l r hr hd, List.getElem?_set] at hu
  have hlen : r * 6 + j < (dcells l).length := by rw [dcells_len]; omega
  have hcs : r * 6 + j < cur.size := by
    have := h2 (r * 6 + j) _ (List.getElem?_eq_getElem hlen)
    rcases Nat.lt_or_ge (r * 6 + j) cur.size with h | h
    · exact h
    · rw [Array.getElem?_eq_none h] at this; cases this
  by_cases hi : r * 6 + j = i
  · subst hi
    rw [if_pos rfl, if_pos hlen] at hu
    injection hu with hu
    subst hu
    simp [hcs]
  · rw [if_neg hi] at hu
    rw [Array.getElem?_setIfInBounds, if_neg hi]
    exact h2 i u hu
theorem wfl_set {l : List Dd} (h : wfl l) (r : Nat) (d : Dd) (h1 : wf64 d.ticket) (h2 : wf64 d.value) : wfl (l.set r d) := fun x hx => by
  rcases List.mem_or_eq_of_mem_set hx with hx | rfl
  · exact h x hx
  · exact ⟨h1, h2⟩
theorem wf64_wrap (x : Int) : wf64 (wrap64 x) := WalkArith.wf_i64 (by unfold wrap64; omega)
end Go.Proofs.Ytpbelnbknnhgnaa
