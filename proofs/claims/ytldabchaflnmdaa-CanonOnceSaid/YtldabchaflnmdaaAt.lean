/- The reference heap's at, object. -/
import Derived.Test.YtldabchaflnmdaaHp
namespace Go.Proofs.Ytldabchaflnmdaa
open Go.RowKit

set_option maxHeartbeats 400000 in
theorem at_any (A : Option Addr) (c : Nat) (l : List Rw) (id : Int) (w : World) (h : Os w A l) (hn : l.length ≤ 1000000) :
    Calls Try.prog 22 #[.agg #[.slice A l.length c], .int .i64 id] w fun e w' => e = .returned (.int .i64 (hidx (obs l) id)) ∧ Gr [] w w' := by
  have HL := Lib.hid (show hidx (obs l) id = ixFrom (fun r : Rw => r.o.id == id) l 0 by unfold hidx obs; exact ixFrom_map _ _ _ _ _ fun _ _ => rfl)
  generalize hL : l.length = n at *
  have hb1 : Bk (w.alloc (.cells #[.slice A n c] 28)) w.heap.size 28 #[.slice A n c] := Bk.new w _ _
  have h0 : (w.alloc (.cells #[.slice A n c] 28)).cell? ⟨w.heap.size, 0, none⟩ = some (.slice A n c) := hb1.cell 0
  go_enter Try.func22, Try.ntmps22
  go_wp2
  go_loopw [10] (fun i w' => ∃ k : Nat, k ≤ n ∧ i = .int .i64 k ∧ hidx (obs l) id = ixFrom (fun r : Rw => r.o.id == id) (l.drop k) k ∧ Gr [] w w') (fun i _ => n - (intOf i).toNat)
  case atStart => exact ⟨0, Nat.zero_le _, rfl, HL.out, (Gr.refl _ _).alloc _⟩
  case round =>
    obtain ⟨k, hk, rfl, hix, hgr⟩ := hrel
    have HI := Lib.hid hix
    clear hix
    by_cases hlt : k < n
    · have hkl : k < l.length := by omega
      obtain ⟨b, off, rfl, hc0, hc1⟩ := (h.gr0 hgr).at_ hkl
      by_cases hv : l[k].o.id = id
      · have hv' : (l[k].o.id == id) = true := by simp [hv]
        clear hv
        go_wp2
        go_ret
        exact ⟨ret_int (by rw [HI.out, ixFrom_hit _ _ _ _ (by omega) hv']), hgr.alloc _⟩
      · have hv' : (l[k].o.id == id) = false := by simp [hv]
        go_wp2
        go_roundw
        case rel => exact ⟨k + 1, by omega, by go_num, by rw [HI.out, ixFrom_miss _ _ _ _ (by omega) hv'], hgr.alloc _⟩
        case measure => simp [intOf]; omega
    · go_wp2
      go_ret
      exact ⟨ret_int (by rw [HI.out, ixFrom_end _ _ _ _ (by omega)]), hgr⟩

set_option maxHeartbeats 400000 in
theorem object_any (o : Ob) (A : Option Addr) (c : Nat) (w : World) (h : Vs w A o.fs) (hn : o.fs.length ≤ 1000000) :
    Calls Try.prog 23 #[.agg #[.int .i64 o.id, .slice A o.fs.length c]] w fun e w' => ∃ (A' : Option Addr) (c' : Nat),
      e = .returned (.agg #[.int .i64 o.id, .slice A' o.fs.length c']) ∧ Vs w' A' o.fs ∧ Gr [] w w' := by
  obtain ⟨i0, hi0, hz0, hz1, hz2⟩ := info_parts Try.infoVl
  obtain ⟨id, fs⟩ := o
  simp only at h hn ⊢
  have hb1 : Bk ((w.alloc (.cells #[.int .i64 id, .slice A fs.length c] 43)).alloc (.cells #[.int .i64 0, .slice none 0 0] 43)) w.heap.size 43 #[.int .i64 id, .slice A fs.length c] := (Bk.new w _ _).alloc _
  obtain ⟨h0, h1⟩ := hb1.cells2
  have hb2 : Bk ((w.alloc (.cells #[.int .i64 id, .slice A fs.length c] 43)).alloc (.cells #[.int .i64 0, .slice none 0 0] 43)) (w.heap.size + 1) 43 #[.int .i64 0, .slice none 0 0] := by simpa using Bk.new (w.alloc (.cells #[.int .i64 id, .slice A fs.length c] 43)) 43 #[.int .i64 0, .slice none 0 0]
  have hslA := (h.alloc (.cells #[.int .i64 id, .slice A fs.length c] 43)).alloc (.cells #[.int .i64 0, .slice none 0 0] 43)
  have hg0 := ((Gr.refl [] w).alloc (.cells #[.int .i64 id, .slice A fs.length c] 43)).alloc (.cells #[.int .i64 0, .slice none 0 0] 43)
  have hws : w.heap.size + 1 ≠ w.heap.size := by omega
  generalize hL : fs.length = n at *
  have HL := Lib.hid hL
  clear hL
  unfold Vs at hslA
  rw [HL.out] at hslA
  go_enter Try.func23, Try.ntmps23
  go_wp2_with (at_builtin; refine wpList_app _ rfl (.const (.slice none 0 0)) (.tmp 4) 33 rfl w.heap.size 31 i0 _ 2 16 Try.underlying33 hi0 hz0 hz1 hz2 rfl (by decide) (by decide) none 0 0 [] rfl (own_nil _ _ _ _) _ n c _ rfl hslA (vcells_one _) (by omega) (by simp; omega) ?_; intro A2 c2 w2 hown2 happ2; simp only [Nat.zero_add, List.nil_append] at hown2; have hbA := happ2.bk hb1 (by decide); have hbB := happ2.bk hb2 (by decide); obtain ⟨hx0, hx1⟩ := hbA.cells2; have hf1 := hbA.frozen 1; obtain ⟨hy0, hy1⟩ := hbB.cells2; have hk0 := hbB.frozen 0; have hk1 := hbB.frozen 1)
  have hbC := ((hbB.far (p := ⟨w.heap.size, 1, none⟩) hws (.slice A2 n c2)).set_ 0 (.int .i64 id)).set_ 1 (.slice A2 n c2)
  refine bodyPost_ret (v := .agg #[.int .i64 id, .slice A2 n c2]) (results_cell_row rfl _ _ _ _ _ _ _ rfl hbC Try.underlying43 rfl (by kernel_rfl)) rfl ⟨A2, c2, rfl, ?_, ?_⟩
  · unfold Vs
    rw [HL.out]
    have hbA1 := hbA.set_ 1 (.slice A2 n c2)
    have hs1 := Sl.gr1 (Sl.of_own hown2) hbA (by decide) ((Gr.refl [w.heap.size] w2).setCell (p := ⟨w.heap.size, 1, none⟩) (.inl (by simp)) (.slice A2 n c2))
    exact Sl.gr1 hs1 (hbB.far (p := ⟨w.heap.size, 1, none⟩) hws (.slice A2 n c2)) (by decide) (((Gr.refl [w.heap.size + 1] _).setCell (.inl (by simp)) _).setCell (.inl (by simp)) _)
  · exact (((happ2.gr [] w (Nat.le_refl _) hg0).setCell (.inr (by simp)) _).setCell (.inr (by simp)) _).setCell (.inr (by simp)) _
end Go.Proofs.Ytldabchaflnmdaa
