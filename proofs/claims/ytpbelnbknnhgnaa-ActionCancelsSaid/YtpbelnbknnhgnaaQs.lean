/- The reference's reserved, settled: the world stays as it is. -/
import Derived.Test.YtpbelnbknnhgnaaSr
namespace Go.Proofs.Ytpbelnbknnhgnaa
open Go.RowKit

set_option maxHeartbeats 1000000 in
theorem rsv_q (A : Option Addr) (c : Nat) (l : List Dd) (t : Int) (w : World) (h : Ds w A l) (hn : l.length ≤ 1000000) :
    Calls Try.prog 37 #[.slice A l.length c, .int .i64 t] w fun e w' => e = .returned (.tuple #[.int .i64 ((rsv l t).getD 0), .bool (rsv l t).isSome]) ∧ w = w' := by
  have HL := Lib.hid (show rsv l t = rsv (l.drop 0) t by rw [List.drop_zero])
  go_enter Try.func37, Try.ntmps37
  go_wp2
  go_loopw [6] (fun i w' => ∃ k : Nat, k ≤ l.length ∧ i = .int .i64 k ∧ rsv l t = rsv (l.drop k) t ∧ w = w') (fun i _ => l.length - (intOf i).toNat)
  case atStart => exact ⟨0, Nat.zero_le _, rfl, HL.out, rfl⟩
  case round =>
    obtain ⟨k, hk, rfl, hix, rfl⟩ := hrel
    have HI := Lib.hid hix
    clear hix
    by_cases hlt : k < l.length
    · have HD := Lib.hid (show rsv l t = if (l[k].kind == 1 && l[k].ticket == t) = true then some l[k].value else rsv (l.drop (k + 1)) t by rw [HI.out, List.drop_eq_getElem_cons hlt, rsv_cons])
      obtain ⟨b, off, rfl, hc0, hc1, hc2, _, _, _⟩ := h.at_ hlt
      generalize l[k] = d at *
      obtain ⟨dk, dt, dv, da⟩ := d
      simp only at hc0 hc1 hc2 HD
      have e2 : (k : Int) < (l.length : Int) := by omega
      by_cases h1 : dk = 1
      · subst h1
        by_cases h2 : dt = t
        · subst h2
          go_wp2
          go_ret2
          exact ⟨ret_int_bool (by rw [HD.out]; simp) (by rw [HD.out]; simp), by trivial⟩
        · have h2' : (dt == t) = false := by simpa using h2
          go_wp2
          go_roundw
          case rel => exact ⟨k + 1, by omega, by go_num, by rw [HD.out, h2']; simp, by trivial⟩
          case measure => simp [intOf]; omega
      · have h1' : (dk == 1) = false := by simpa using h1
        go_wp2
        go_roundw
        case rel => exact ⟨k + 1, by omega, by go_num, by rw [HD.out, h1']; simp, by trivial⟩
        case measure => simp [intOf]; omega
    · go_wp2
      go_ret2
      have : rsv l t = none := by rw [HI.out, List.drop_eq_nil_of_le (by omega)]; rfl
      exact ⟨ret_int_bool (by rw [this]; rfl) (by rw [this]; rfl), by trivial⟩

set_option maxHeartbeats 1000000 in
theorem stl_q (A : Option Addr) (c : Nat) (l : List Dd) (t : Int) (w : World) (h : Ds w A l) (hn : l.length ≤ 1000000) :
    Calls Try.prog 38 #[.slice A l.length c, .int .i64 t] w fun e w' => e = .returned (.bool (stl l t)) ∧ w = w' := by
  have HL := Lib.hid (show stl l t = stl (l.drop 0) t by rw [List.drop_zero])
  go_enter Try.func38, Try.ntmps38
  go_wp2
  go_loopw [5] (fun i w' => ∃ k : Nat, k ≤ l.length ∧ i = .int .i64 k ∧ stl l t = stl (l.drop k) t ∧ w = w') (fun i _ => l.length - (intOf i).toNat)
  case atStart => exact ⟨0, Nat.zero_le _, rfl, HL.out, rfl⟩
  case round =>
    obtain ⟨k, hk, rfl, hix, rfl⟩ := hrel
    have HI := Lib.hid hix
    clear hix
    by_cases hlt : k < l.length
    · have HD := Lib.hid (show stl l t = (((l[k].kind == 2 || l[k].kind == 3) && l[k].ticket == t) || stl (l.drop (k + 1)) t) by rw [HI.out, List.drop_eq_getElem_cons hlt, stl_cons])
      obtain ⟨b, off, rfl, hc0, hc1, hc2, _, _, _⟩ := h.at_ hlt
      generalize l[k] = d at *
      obtain ⟨dk, dt, dv, da⟩ := d
      simp only at hc0 hc1 hc2 HD
      have e2 : (k : Int) < (l.length : Int) := by omega
      by_cases h2 : dt = t
      · subst h2
        by_cases h1 : dk = 2
        · subst h1
          go_wp2
          go_ret
          exact ⟨ret_bool (by rw [HD.out]; simp), by trivial⟩
        · have h1' : (dk == 2) = false := by simpa using h1
          by_cases h3 : dk = 3
          · subst h3
            go_wp2
            go_ret
            exact ⟨ret_bool (by rw [HD.out]; simp), by trivial⟩
          · have h3' : (dk == 3) = false := by simpa using h3
            go_wp2
            go_roundw
            case rel => exact ⟨k + 1, by omega, by go_num, by rw [HD.out, h1', h3']; simp, by trivial⟩
            case measure => simp [intOf]; omega
      · have h2' : (dt == t) = false := by simpa using h2
        by_cases h1 : dk = 2
        · subst h1
          go_wp2
          go_roundw
          case rel => exact ⟨k + 1, by omega, by go_num, by rw [HD.out, h2']; simp, by trivial⟩
          case measure => simp [intOf]; omega
        · have h1' : (dk == 2) = false := by simpa using h1
          by_cases h3 : dk = 3
          · subst h3
            go_wp2
            go_roundw
            case rel => exact ⟨k + 1, by omega, by go_num, by rw [HD.out, h2']; simp, by trivial⟩
            case measure => simp [intOf]; omega
          · have h3' : (dk == 3) = false := by simpa using h3
            go_wp2
            go_roundw
            case rel => exact ⟨k + 1, by omega, by go_num, by rw [HD.out, h1', h3']; simp, by trivial⟩
            case measure => simp [intOf]; omega
    · go_wp2
      go_ret
      have : stl l t = false := by rw [HI.out, List.drop_eq_nil_of_le (by omega)]; rfl
      exact ⟨ret_bool (by rw [this]), by trivial⟩

theorem Ds.take {w : World} {A : Option Addr} {l : List Dd} (h : Ds w A l) (k : Nat) (hk : k ≤ l.length) : Ds w A (l.take k) := by
  obtain ⟨e, h1, h2⟩ := h
  have hl : (l.take k).length = k := by rw [List.length_take]; omega
  refine ⟨e, dcells_len _, fun h0 => ?_⟩
  rw [hl] at h0
  obtain ⟨b, off, cs, fz, hA, hb, hc⟩ := h2 (by omega)
  refine ⟨b, off, cs, fz, hA, hb, fun j u hu => hc j u ?_⟩
  rw [← List.take_append_drop k l, dcells_append, List.getElem?_append_left]
  · exact hu
  · rcases Nat.lt_or_ge j (dcells (l.take k)).length with h | h
    · exact h
    · rw [List.getElem?_eq_none h] at hu; cases hu
theorem rsv_tq (A : Option Addr) (c : Nat) (l : List Dd) (k : Nat) (t : Int) (w : World) (h : Ds w A (l.take k)) (hk : k ≤ l.length) (hn : l.length ≤ 1000000) :
    Calls Try.prog 37 #[.slice A k c, .int .i64 t] w fun e w' => e = .returned (.tuple #[.int .i64 ((rsv (l.take k) t).getD 0), .bool (rsv (l.take k) t).isSome]) ∧ w = w' := by
  have hl : (l.take k).length = k := by rw [List.length_take]; omega
  have := rsv_q A c (l.take k) t w h (by omega)
  rwa [hl] at this
theorem quiet_l2 {P : Program} {f : FuncId} {args : Array Value} {w : World} {a n : Nat} {v : Value} (h : Calls P f args (w.drewN (a + n)) fun e w' => e = .returned v ∧ w.drewN (a + n) = w') :
    Calls P f args (w.drewN (a + n)) fun e w'' => e = .returned v ∧ ∃ m, w'' = w.drewN (a + m) := h.mono fun _ _ ⟨he, hm⟩ => ⟨he, n, hm.symm⟩
theorem rsv_none (A : Option Addr) (c : Nat) (l : List Dd) (k : Nat) (t : Int) (w : World) (h : Ds w A (l.take k)) (hk : k ≤ l.length) (hn : l.length ≤ 1000000) (hr : rsv (l.take k) t = none) :
    Calls Try.prog 37 #[.slice A k c, .int .i64 t] w fun e w' => e = .returned (.tuple #[.int .i64 0, .bool false]) ∧ w = w' := by
  have := rsv_tq A c l k t w h hk hn
  rwa [hr] at this
theorem rsv_some (A : Option Addr) (c : Nat) (l : List Dd) (k : Nat) (t v : Int) (w : World) (h : Ds w A (l.take k)) (hk : k ≤ l.length) (hn : l.length ≤ 1000000) (hr : rsv (l.take k) t = some v) :
    Calls Try.prog 37 #[.slice A k c, .int .i64 t] w fun e w' => e = .returned (.tuple #[.int .i64 v, .bool true]) ∧ w = w' := by
  have := rsv_tq A c l k t w h hk hn
  rwa [hr] at this
theorem stl_tq (A : Option Addr) (c : Nat) (l : List Dd) (k : Nat) (t : Int) (w : World) (h : Ds w A (l.take k)) (hk : k ≤ l.length) (hn : l.length ≤ 1000000) :
    Calls Try.prog 38 #[.slice A k c, .int .i64 t] w fun e w' => e = .returned (.bool (stl (l.take k) t)) ∧ w = w' := by
  have hl : (l.take k).length = k := by rw [List.length_take]; omega
  have := stl_q A c (l.take k) t w h (by omega)
  rwa [hl] at this
theorem stl_is (A : Option Addr) (c : Nat) (l : List Dd) (k : Nat) (t : Int) (b : Bool) (w : World) (h : Ds w A (l.take k)) (hk : k ≤ l.length) (hn : l.length ≤ 1000000) (hs : stl (l.take k) t = b) :
    Calls Try.prog 38 #[.slice A k c, .int .i64 t] w fun e w' => e = .returned (.bool b) ∧ w = w' := by
  have := stl_tq A c l k t w h hk hn
  rwa [hs] at this
end Go.Proofs.Ytpbelnbknnhgnaa
