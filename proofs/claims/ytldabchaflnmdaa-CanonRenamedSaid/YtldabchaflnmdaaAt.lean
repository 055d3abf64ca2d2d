/- The reference heap's at, object. -/
import Derived.Test.YtldabchaflnmdaaHp
namespace Go.Proofs.Ytldabchaflnmdaa
open Go.RowKit

set_option maxHeartbeats 400000 in
theorem at_any (A : Option Addr) (c : Nat) (l : List Rw) (id : Int) (w : World) (h : Os w A l) (hn : l.length ≤ 1000000) :
    Calls Try.prog 22 #[.agg #[.slice A l.length c], .int .i64 id] w fun e w' => e = .returned (.int .i64 (hidx (obs l) id)) ∧ Gr [] w w' := by
  have HL := Lib.hid (show hidx (obs l) id = ixFrom (fun r : Rw => r.o.id == id) l 0 by unfold hidx obs; exact ixFrom_map _ _ _ _ _ fun _ _ => rfl)
  generalize hL : l.length = n at *
  have hb1 : Bk (w.alloc (.cells #[.slice A n c] 28)) w.heap.size 28 #[.slice A n c] := Bk.new w _ _
  have h0 : (w.alloc (.cells #[.slice A n c] 28)).cell? ⟨w.heap.size, 0, none⟩ = some (.slice A n c) := hb1.cell 0
  go_enter Try.func22, Try.ntmps22
  go_wp2
  go_loopw [10] (fun i w' => ∃ k : Nat, k ≤ n ∧ i = .int .i64 k ∧ hidx (obs l) id = ixFrom (fun r : Rw => r.o.id == id) (l.drop k) k ∧ Gr [] w w') (fun i _ => n - (intOf i).toNat)
  case atStart => exact ⟨0, Nat.zero_le _, rfl, HL.out, (Gr.refl _ _).alloc _⟩
  case round =>
    obtain ⟨k, hk, rfl, hix, hgr⟩ := hrel
    have HI := Lib.hid hix
    clear hix
    by_cases hlt : k < n
    · have hkl : k < l.length := by omega
      obtain ⟨b, off, rfl, hc0, hc1⟩ := (h.gr0 hgr).at_ hkl
      by_cases hv : l[k].o.id = id
      · have hv' : (l[k].o.id == id) = true := by simp [hv]
        clear hv
        go_wp2
        go_ret
        exact ⟨ret_int (by rw [HI.out, ixFrom_hit _ _ _ _ (by omega) hv']), hgr.alloc _⟩
      · have hv' : (l[k].o.id == id) = false := by simp [hv]
        go_wp2
        go_roundw
        case rel => exact ⟨k + 1, by omega, by go_num, by rw [HI.out, ixFrom_miss _ _ _ _ (by omega) hv'], hgr.alloc _⟩
        case measure => simp [intOf]; omega
    · go_wp2
      go_ret
      exact ⟨ret_int (by rw [HI.out, ixFrom_end _ _ _ _ (by omega)]), hgr⟩

/-! append of elements that lie in memory of whatever element type. -/
section
variable {P : Program} (w : World)
theorem run_app2 {e' : TypeId} (base : Nat) (t ty e : TypeId) (i : TypeInfo) (z : Value) (size bytes : Nat) (ht : P.underlying t = some (.slice e)) (hi : P.info? e = some i) (hz : i.zero = some z)
    (hsize : i.size = size) (hby : i.bytes = bytes) (hzs : z.cells.size = size) (hsz : 0 < size)
    (A0 : Option Addr) (c0 n : Nat) (xs : List Value) (hown : w.ownsRow base e size (.slice A0 n c0) n xs)
    (A : Option Addr) (m c : Nat) (news : List Value) (hr : Sl w e' size A m news) (h1 : ∀ u ∈ news, u.oneCell' = true)
    (hbytes : (n + m) * bytes ≤ 140737488355328) (hpos : 0 < bytes) (hbase : base ≤ w.heap.size) :
    ∃ A' c' w', (Builtin.append_ #[t, t] ty #[.slice A0 n c0, .slice A m c]).run P w = .ok (.slice A' (n + m) c') w' ∧ w'.ownsRow base e size (.slice A' (n + m) c') (n + m) (xs ++ news) ∧ App base e w w' := by
  by_cases hm : m = 0
  · subst hm
    have hn : news = [] := List.eq_nil_of_length_eq_zero (by simpa using hr.1)
    subst hn
    exact ⟨A0, c0, w, by simpa using run_append_of_nil w base t ty e i size ht hi _ n xs hown A c, by simpa using hown, App.of_grown hown (World.grownBy.refl w _)⟩
  · obtain ⟨ad, rfl, hcells⟩ := hr.cell_add (by omega)
    have h63 : n + m ≤ maxLen := by
      have : n + m ≤ (n + m) * bytes := Nat.le_mul_of_pos_right _ hpos
      simp only [maxLen]; omega
    obtain ⟨v', w', hrun, h2, h3, _⟩ := run_append_own (P := P) w base t ty e i z size bytes ht hi hz hsize hby hzs hsz _ n xs hown ad m c news hr.1 hcells h1 h63 hbytes hbase
    have hf : ∃ A' c', v' = .slice A' (n + m) c' := by
      rcases h2.2 with ⟨rfl, h0⟩ | ⟨g, cap, cur, rfl, _⟩
      · exact ⟨none, 0, by rw [h0]⟩
      · exact ⟨_, _, rfl⟩
    obtain ⟨A', c', rfl⟩ := hf
    exact ⟨A', c', w', hrun, h2, App.of_grown hown h3⟩

theorem wp_app2 {e' : TypeId} {o : Oper} {a : Act} {K : Act → World → Prop} {Q : Exit → Act → World → Prop} (s x : Operand) (t : TypeId)
    (ho : o.op = .call { callee := .builtin .append, args := #[s, x], argTypes := #[t, t] })
    (base : Nat) (e : TypeId) (i : TypeInfo) (z : Value) (size bytes : Nat) (ht : P.underlying t = some (.slice e)) (hi : P.info? e = some i) (hz : i.zero = some z)
    (hsize : i.size = size) (hby : i.bytes = bytes) (hzs : z.cells.size = size) (hsz : 0 < size) (hpos : 0 < bytes)
    (A0 : Option Addr) (n c0 : Nat) (xs : List Value) (hs : a.eval s = .slice A0 n c0) (hown : w.ownsRow base e size (.slice A0 n c0) n xs)
    (A : Option Addr) (m c : Nat) (news : List Value) (hx : a.eval x = .slice A m c) (hr : Sl w e' size A m news) (h1 : ∀ u ∈ news, u.oneCell' = true)
    (hbytes : (n + m) * bytes ≤ 140737488355328) (hbase : base ≤ w.heap.size)
    (h : ∀ (A' : Option Addr) (c' : Nat) (w' : World), w'.ownsRow base e size (.slice A' (n + m) c') (n + m) (xs ++ news) → App base e w w' → K (a.put o.dst (.slice A' (n + m) c')) w') : o.wp P a w K Q := by
  obtain ⟨A', c', w', hrun, h2, h3⟩ := run_app2 (P := P) w base t o.type e i z size bytes ht hi hz hsize hby hzs hsz A0 c0 n xs hown A m c news hr h1 hbytes hpos hbase
  unfold Oper.wp execOp
  simp only [ho, resolve, invoke, builtin, Sem.run_bind, Sem.run_pure, Result.andThen_ok, List.map_toArray, List.map_cons, List.map_nil, hs, hx, hrun]
  exact h A' c' w' h2 h3

theorem wpList_app2 {e' : TypeId} {ops : Array Oper} {rest : List Oper} {o : Oper} {a : Act} {Q : Exit → Act → World → Prop} (hgd : o.guard = none) (s x : Operand) (t : TypeId)
    (ho : o.op = .call { callee := .builtin .append, args := #[s, x], argTypes := #[t, t] })
    (base : Nat) (e : TypeId) (i : TypeInfo) (z : Value) (size bytes : Nat) (ht : P.underlying t = some (.slice e)) (hi : P.info? e = some i) (hz : i.zero = some z)
    (hsize : i.size = size) (hby : i.bytes = bytes) (hzs : z.cells.size = size) (hsz : 0 < size) (hpos : 0 < bytes)
    (A0 : Option Addr) (n c0 : Nat) (xs : List Value) (hs : a.eval s = .slice A0 n c0) (hown : w.ownsRow base e size (.slice A0 n c0) n xs)
    (A : Option Addr) (m c : Nat) (news : List Value) (hx : a.eval x = .slice A m c) (hr : Sl w e' size A m news) (h1 : ∀ u ∈ news, u.oneCell' = true)
    (hbytes : (n + m) * bytes ≤ 140737488355328) (hbase : base ≤ w.heap.size)
    (h : ∀ (A' : Option Addr) (c' : Nat) (w' : World), w'.ownsRow base e size (.slice A' (n + m) c') (n + m) (xs ++ news) → App base e w w' → wpList P ops Q rest (a.put o.dst (.slice A' (n + m) c')) w') : wpList P ops Q (o :: rest) a w :=
  wpList_plain hgd fun _ hK => wp_app2 w s x t ho base e i z size bytes ht hi hz hsize hby hzs hsz hpos A0 n c0 xs hs hown A m c news hx hr h1 hbytes hbase fun A' c' w' h2 h3 => hK _ _ (h A' c' w' h2 h3)
end

set_option maxHeartbeats 400000 in
theorem object_any {e' : TypeId} (o : Ob) (A : Option Addr) (c : Nat) (w : World) (h : Sl w e' 2 A o.fs.length (vcells o.fs)) (hn : o.fs.length ≤ 1000000) :
    Calls Try.prog 23 #[.agg #[.int .i64 o.id, .slice A o.fs.length c]] w fun e w' => ∃ (A' : Option Addr) (c' : Nat),
      e = .returned (.agg #[.int .i64 o.id, .slice A' o.fs.length c']) ∧ Vs w' A' o.fs ∧ Gr [] w w' := by
  obtain ⟨i0, hi0, hz0, hz1, hz2⟩ := info_parts Try.infoVl
  obtain ⟨id, fs⟩ := o
  simp only at h hn ⊢
  have hb1 : Bk ((w.alloc (.cells #[.int .i64 id, .slice A fs.length c] 43)).alloc (.cells #[.int .i64 0, .slice none 0 0] 43)) w.heap.size 43 #[.int .i64 id, .slice A fs.length c] := (Bk.new w _ _).alloc _
  obtain ⟨h0, h1⟩ := hb1.cells2
  have hb2 : Bk ((w.alloc (.cells #[.int .i64 id, .slice A fs.length c] 43)).alloc (.cells #[.int .i64 0, .slice none 0 0] 43)) (w.heap.size + 1) 43 #[.int .i64 0, .slice none 0 0] := by simpa using Bk.new (w.alloc (.cells #[.int .i64 id, .slice A fs.length c] 43)) 43 #[.int .i64 0, .slice none 0 0]
  have hslA := (h.alloc (.cells #[.int .i64 id, .slice A fs.length c] 43)).alloc (.cells #[.int .i64 0, .slice none 0 0] 43)
  have hg0 := ((Gr.refl [] w).alloc (.cells #[.int .i64 id, .slice A fs.length c] 43)).alloc (.cells #[.int .i64 0, .slice none 0 0] 43)
  have hws : w.heap.size + 1 ≠ w.heap.size := by omega
  generalize hL : fs.length = n at *
  have HL := Lib.hid hL
  clear hL
  go_enter Try.func23, Try.ntmps23
  go_wp2_with (at_builtin; refine wpList_app2 _ rfl (.const (.slice none 0 0)) (.tmp 4) 33 rfl w.heap.size 31 i0 _ 2 16 Try.underlying33 hi0 hz0 hz1 hz2 rfl (by decide) (by decide) none 0 0 [] rfl (own_nil _ _ _ _) _ n c _ rfl hslA (vcells_one _) (by omega) (by simp; omega) ?_; intro A2 c2 w2 hown2 happ2; simp only [Nat.zero_add, List.nil_append] at hown2; have hbA := happ2.bk hb1 (by decide); have hbB := happ2.bk hb2 (by decide); obtain ⟨hx0, hx1⟩ := hbA.cells2; have hf1 := hbA.frozen 1; obtain ⟨hy0, hy1⟩ := hbB.cells2; have hk0 := hbB.frozen 0; have hk1 := hbB.frozen 1)
  have hbC := ((hbB.far (p := ⟨w.heap.size, 1, none⟩) hws (.slice A2 n c2)).set_ 0 (.int .i64 id)).set_ 1 (.slice A2 n c2)
  refine bodyPost_ret (v := .agg #[.int .i64 id, .slice A2 n c2]) (results_cell_row rfl _ _ _ _ _ _ _ rfl hbC Try.underlying43 rfl (by kernel_rfl)) rfl ⟨A2, c2, rfl, ?_, ?_⟩
  · unfold Vs
    rw [HL.out]
    have hbA1 := hbA.set_ 1 (.slice A2 n c2)
    have hs1 := Sl.gr1 (Sl.of_own hown2) hbA (by decide) ((Gr.refl [w.heap.size] w2).setCell (p := ⟨w.heap.size, 1, none⟩) (.inl (by simp)) (.slice A2 n c2))
    exact Sl.gr1 hs1 (hbB.far (p := ⟨w.heap.size, 1, none⟩) hws (.slice A2 n c2)) (by decide) (((Gr.refl [w.heap.size + 1] _).setCell (.inl (by simp)) _).setCell (.inl (by simp)) _)
  · exact (((happ2.gr [] w (Nat.le_refl _) hg0).setCell (.inr (by simp)) _).setCell (.inr (by simp)) _).setCell (.inr (by simp)) _
end Go.Proofs.Ytldabchaflnmdaa
