/- The reference's settled. -/
import Derived.Test.YtpbelnbknnhgnaaAd
namespace Go.Proofs.Ytpbelnbknnhgnaa
open Go.RowKit

set_option maxHeartbeats 1000000 in
theorem stl_any (A : Option Addr) (c : Nat) (l : List Dd) (t : Int) (w : World) (h : Ds w A l) (hn : l.length ≤ 1000000) :
    Calls Try.prog 38 #[.slice A l.length c, .int .i64 t] w fun e w' => e = .returned (.bool (stl l t)) ∧ Gr [] w w' := by
  have HL := Lib.hid (show stl l t = stl (l.drop 0) t by rw [List.drop_zero])
  go_enter Try.func38, Try.ntmps38
  go_wp2
  go_loopw [5] (fun i w' => ∃ k : Nat, k ≤ l.length ∧ i = .int .i64 k ∧ stl l t = stl (l.drop k) t ∧ Gr [] w w') (fun i _ => l.length - (intOf i).toNat)
  case atStart => exact ⟨0, Nat.zero_le _, rfl, HL.out, Gr.refl _ _⟩
  case round =>
    obtain ⟨k, hk, rfl, hix, hgr⟩ := hrel
    have HI := Lib.hid hix
    clear hix
    by_cases hlt : k < l.length
    · have HD := Lib.hid (show stl l t = (((l[k].kind == 2 || l[k].kind == 3) && l[k].ticket == t) || stl (l.drop (k + 1)) t) by rw [HI.out, List.drop_eq_getElem_cons hlt, stl_cons])
      obtain ⟨b, off, rfl, hc0, hc1, hc2, _, _, _⟩ := (h.gr0 hgr).at_ hlt
      generalize l[k] = d at *
      obtain ⟨dk, dt, dv, da⟩ := d
      simp only at hc0 hc1 hc2 HD
      have e2 : (k : Int) < (l.length : Int) := by omega
      by_cases h2 : dt = t
      · subst h2
        by_cases h1 : dk = 2
        · subst h1
          go_wp2
          go_ret
          exact ⟨ret_bool (by rw [HD.out]; simp), hgr⟩
        · have h1' : (dk == 2) = false := by simpa using h1
          by_cases h3 : dk = 3
          · subst h3
            go_wp2
            go_ret
            exact ⟨ret_bool (by rw [HD.out]; simp), hgr⟩
          · have h3' : (dk == 3) = false := by simpa using h3
            go_wp2
            go_roundw
            case rel => exact ⟨k + 1, by omega, by go_num, by rw [HD.out, h1', h3']; simp, hgr⟩
            case measure => simp [intOf]; omega
      · have h2' : (dt == t) = false := by simpa using h2
        by_cases h1 : dk = 2
        · subst h1
          go_wp2
          go_roundw
          case rel => exact ⟨k + 1, by omega, by go_num, by rw [HD.out, h2']; simp, hgr⟩
          case measure => simp [intOf]; omega
        · have h1' : (dk == 2) = false := by simpa using h1
          by_cases h3 : dk = 3
          · subst h3
            go_wp2
            go_roundw
            case rel => exact ⟨k + 1, by omega, by go_num, by rw [HD.out, h2']; simp, hgr⟩
            case measure => simp [intOf]; omega
          · have h3' : (dk == 3) = false := by simpa using h3
            go_wp2
            go_roundw
            case rel => exact ⟨k + 1, by omega, by go_num, by rw [HD.out, h1', h3']; simp, hgr⟩
            case measure => simp [intOf]; omega
    · go_wp2
      go_ret
      have : stl l t = false := by rw [HI.out, List.drop_eq_nil_of_le (by omega)]; rfl
      exact ⟨ret_bool (by rw [this]), hgr⟩
end Go.Proofs.Ytpbelnbknnhgnaa
