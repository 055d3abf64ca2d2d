/- Identifiers: ID, Split of the package and of the reference. -/
import Derived.Test.YtiamdekgpombdaaRx
import Derived.WalkArith
import Derived.Laws.BitsLemmas
namespace Go.Proofs.Ytiamdekgpombdaa
open Go.RowKit

def idBad (run n : Int) : Prop := run < 0 ∨ 1099511627776 < run ∨ n < 0 ∨ 1048576 ≤ n
instance (run n : Int) : Decidable (idBad run n) := by unfold idBad; infer_instance
def idR (run n : Int) : Int := if idBad run n then 0 else (run + 1) * 1048576 + n
def idE (run n : Int) : Int := if idBad run n then 2 else 0
theorem and20 {x : Int} (h0 : 0 ≤ x) (h1 : x < 9223372036854775808) : bits .and .i64 x 1048575 = x % 1048576 :=
  bits_mask .i64 63 (by decide) (fun n h0 h1 => by rw [IntKind.wrap_i64]; omega) 20 (by decide) x h0 h1
theorem ret2 {a b c d : Int} (h : a = b) (k : c = d) : Ending.returned (.tuple #[.int .i64 a, .int .i64 c]) = Ending.returned (.tuple #[.int .i64 b, .int .i64 d]) := by rw [h, k]
theorem ret3 {a b c d : Int} {x y : Bool} (h : a = b) (k : c = d) (l : x = y) : Ending.returned (.tuple #[.int .i64 a, .int .i64 c, .bool x]) = Ending.returned (.tuple #[.int .i64 b, .int .i64 d, .bool y]) := by rw [h, k, l]

set_option maxHeartbeats 1000000 in
theorem id_any (run n : Int) (w : World) :
    Calls Try.prog 6 #[.int .i64 run, .int .i64 n] w fun e w' => e = .returned (.tuple #[.int .i64 (idR run n), .int .i64 (idE run n)]) ∧ w = w' := by
  have HR := Lib.hid (show idR run n = if idBad run n then 0 else (run + 1) * 1048576 + n from rfl)
  have HE := Lib.hid (show idE run n = if idBad run n then 2 else 0 from rfl)
  by_cases h : idBad run n
  · have HB := Lib.hid h
    unfold idBad at h
    go_enter Try.func6, Try.ntmps6
    rcases Classical.em (run < 0) with h1 | h1
    · go_wp2
      go_ret2
      exact ⟨ret2 (by rw [HR.out, if_pos HB.out]) (by rw [HE.out, if_pos HB.out]), rfl⟩
    · rcases Classical.em (1099511627776 < run) with h2 | h2
      · go_wp2
        go_ret2
        exact ⟨ret2 (by rw [HR.out, if_pos HB.out]) (by rw [HE.out, if_pos HB.out]), rfl⟩
      · rcases Classical.em (n < 0) with h3 | h3
        · go_wp2
          go_ret2
          exact ⟨ret2 (by rw [HR.out, if_pos HB.out]) (by rw [HE.out, if_pos HB.out]), rfl⟩
        · have h4 : 1048576 ≤ n := by omega
          clear h
          go_wp2
          go_ret2
          exact ⟨ret2 (by rw [HR.out, if_pos HB.out]) (by rw [HE.out, if_pos HB.out]), rfl⟩
  · have HB := Lib.hid h
    unfold idBad at h
    have h1 : ¬ run < 0 := by omega
    have h2 : ¬ 1099511627776 < run := by omega
    have h3 : ¬ n < 0 := by omega
    have h4 : ¬ 1048576 ≤ n := by omega
    clear h
    go_enter Try.func6, Try.ntmps6
    go_wp2
    go_ret2
    exact ⟨ret2 (by rw [HR.out, if_neg HB.out]) (by rw [HE.out, if_neg HB.out]), rfl⟩

def spR (id : Int) : Int := if id < 1048576 then 0 else id / 1048576 - 1
def spN (id : Int) : Int := if id < 1048576 then 0 else id % 1048576
set_option maxHeartbeats 1000000 in
theorem split_any (id : Int) (w : World) (hi : id ≤ 9223372036854775807) :
    Calls Try.prog 8 #[.int .i64 id] w fun e w' => e = .returned (.tuple #[.int .i64 (spR id), .int .i64 (spN id), .bool (decide (¬ id < 1048576))]) ∧ w = w' := by
  have HR := Lib.hid (show spR id = if id < 1048576 then 0 else id / 1048576 - 1 from rfl)
  have HE := Lib.hid (show spN id = if id < 1048576 then 0 else id % 1048576 from rfl)
  by_cases h : id < 1048576
  · go_enter Try.func8, Try.ntmps8
    go_wp2
    go_ret3
    exact ⟨ret3 (by rw [HR.out, if_pos h]) (by rw [HE.out, if_pos h]) (by simp [h]), rfl⟩
  · have ha := and20 (x := id) (by omega) (by omega)
    go_enter Try.func8, Try.ntmps8
    go_wp2
    go_ret3
    exact ⟨ret3 (by rw [HR.out, if_neg (by omega)]) (by rw [HE.out, if_neg (by omega)]) (by simp), rfl⟩
end Go.Proofs.Ytiamdekgpombdaa
