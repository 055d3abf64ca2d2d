/- The reference's with. -/
import Derived.Test.YtpbelnbknnhgnaaRe
namespace Go.Proofs.Ytpbelnbknnhgnaa
open Go.RowKit

theorem run_app3 {P : Program} (w : World) {e' : TypeId} (base : Nat) (t ty e : TypeId) (i : TypeInfo) (z : Value) (size bytes : Nat) (ht : P.underlying t = some (.slice e)) (hi : P.info? e = some i) (hz : i.zero = some z)
    (hsize : i.size = size) (hby : i.bytes = bytes) (hzs : z.cells.size = size) (hsz : 0 < size)
    (A0 : Option Addr) (c0 n : Nat) (xs : List Value) (hown : w.ownsRow base e size (.slice A0 n c0) n xs)
    (A : Option Addr) (m c : Nat) (news : List Value) (hr : Sl w e' size A m news) (h1 : ∀ u ∈ news, u.oneCell' = true)
    (hbytes : (n + m) * bytes ≤ 140737488355328) (hpos : 0 < bytes) (hbase : base ≤ w.heap.size) :
    ∃ A' c' w', (Builtin.append_ #[t, t] ty #[.slice A0 n c0, .slice A m c]).run P w = .ok (.slice A' (n + m) c') w' ∧ w'.ownsRow base e size (.slice A' (n + m) c') (n + m) (xs ++ news) ∧ w.grownBy w' (Value.slice A0 n c0).ownBlock := by
  by_cases hm : m = 0
  · subst hm
    have hn : news = [] := List.eq_nil_of_length_eq_zero (by simpa using hr.1)
    subst hn
    exact ⟨A0, c0, w, by simpa using run_append_of_nil w base t ty e i size ht hi _ n xs hown A c, by simpa using hown, World.grownBy.refl w _⟩
  · obtain ⟨ad, rfl, hcells⟩ := hr.cell_add (by omega)
    have h63 : n + m ≤ maxLen := by
      have : n + m ≤ (n + m) * bytes := Nat.le_mul_of_pos_right _ hpos
      simp only [maxLen]; omega
    obtain ⟨v', w', hrun, h2, h3, _⟩ := run_append_own (P := P) w base t ty e i z size bytes ht hi hz hsize hby hzs hsz _ n xs hown ad m c news hr.1 hcells h1 h63 hbytes hbase
    have hf : ∃ A' c', v' = .slice A' (n + m) c' := by
      rcases h2.2 with ⟨rfl, h0⟩ | ⟨g, cap, cur, rfl, _⟩
      · exact ⟨none, 0, by rw [h0]⟩
      · exact ⟨_, _, rfl⟩
    obtain ⟨A', c', rfl⟩ := hf
    exact ⟨A', c', w', hrun, h2, h3⟩
theorem step_app3 {e' : TypeId} {P : Program} {w : World} {ops : Array Oper} {o : Oper} {a : Act} {K : Act → World → Prop} {Q : Exit → Act → World → Prop} {E : Prop} (hgd : o.guard = none) (s x : Operand) (t : TypeId)
    (ho : o.op = .call { callee := .builtin .append, args := #[s, x], argTypes := #[t, t] })
    (base : Nat) (e : TypeId) (i : TypeInfo) (z : Value) (size bytes : Nat) (ht : P.underlying t = some (.slice e)) (hi : P.info? e = some i) (hz : i.zero = some z)
    (hsize : i.size = size) (hby : i.bytes = bytes) (hzs : z.cells.size = size) (hsz : 0 < size) (hpos : 0 < bytes)
    (A0 : Option Addr) (n c0 : Nat) (xs : List Value) (hs : a.eval s = .slice A0 n c0) (hown : w.ownsRow base e size (.slice A0 n c0) n xs)
    (A : Option Addr) (m c : Nat) (news : List Value) (hx : a.eval x = .slice A m c) (hr : Sl w e' size A m news) (h1 : ∀ u ∈ news, u.oneCell' = true)
    (hbytes : (n + m) * bytes ≤ 140737488355328) (hbase : base ≤ w.heap.size)
    (h : ∀ (A' : Option Addr) (c' : Nat) (w' : World), w'.ownsRow base e size (.slice A' (n + m) c') (n + m) (xs ++ news) → w.grownBy w' (Value.slice A0 n c0).ownBlock → K (a.put o.dst (.slice A' (n + m) c')) w') :
    if Region.wanted o (yielded ops a.tmps) = true then Oper.wp P o a w K Q else E := by
  have hw : Region.wanted o (yielded ops a.tmps) = true := by simp [Region.wanted, hgd]
  rw [if_pos hw]
  obtain ⟨A', c', w', hrun, h2, h3⟩ := run_app3 (P := P) w base t o.type e i z size bytes ht hi hz hsize hby hzs hsz A0 c0 n xs hown A m c news hr h1 hbytes hpos hbase
  unfold Oper.wp execOp
  simp only [ho, resolve, invoke, builtin, Sem.run_bind, Sem.run_pure, Result.andThen_ok, List.map_toArray, List.map_cons, List.map_nil, hs, hx, hrun]
  exact h A' c' w' h2 h3
theorem Gr.own {M : List Nat} {a w w' : World} {g n c : Nat} (h : Gr M a w) (hg : w.grownBy w' (Value.slice (some ⟨g, 0, none⟩) n c).ownBlock) (hr : g ∈ M ∨ a.heap.size ≤ g) : Gr M a w' :=
  h.grown hg (fun k hk => by
    have : g = k := by simpa [Value.ownBlock] using hk
    subst this; exact hr)
theorem Bk.own {w w' : World} {g k n c : Nat} {t : TypeId} {cs : Array Value} (h : Bk w k t cs) (hg : w.grownBy w' (Value.slice (some ⟨g, 0, none⟩) n c).ownBlock) (hne : k ≠ g) : Bk w' k t cs :=
  (hg.block k h.lt (by simpa [Value.ownBlock] using hne)).trans h

set_option maxHeartbeats 4000000 in
theorem with_any (A : Option Addr) (c : Nat) (l : List Dd) (T dk dt dv : Int) (da : Bool) (db dc : Int) (w : World) (h : Ds w A l) (hn : l.length ≤ 999999) :
    Calls Try.prog 40 #[.agg #[.slice A l.length c, .int .i64 T], .agg #[.int .i64 dk, .int .i64 dt, .int .i64 dv, .bool da, .int .i64 db, .int .i64 dc]] w fun e w' => ∃ (A' : Option Addr) (c' : Nat),
      e = .returned (.agg #[.slice A' (l.length + 1) c', .int .i64 T]) ∧ l.length + 1 ≤ c' ∧ Sl w' 32 6 A' (l.length + 1) (dcells (l ++ [⟨dk, dt, dv, ⟨da, db, dc⟩⟩])) ∧ Gr [] w w' := by
  obtain ⟨i0, hi0, hz0, hz1, hz2⟩ := info_parts Try.infoDd
  have hG : Gr [] w (((w.alloc (.cells #[.slice A l.length c, .int .i64 T] 26)).alloc (.cells #[.int .i64 dk, .int .i64 dt, .int .i64 dv, .bool da, .int .i64 db, .int .i64 dc] 32)).alloc (.cells #[.slice none 0 0, .int .i64 0] 26)) := (((Gr.refl [] w).alloc _).alloc _).alloc _
  have hA0 : Bk (((w.alloc (.cells #[.slice A l.length c, .int .i64 T] 26)).alloc (.cells #[.int .i64 dk, .int .i64 dt, .int .i64 dv, .bool da, .int .i64 db, .int .i64 dc] 32)).alloc (.cells #[.slice none 0 0, .int .i64 0] 26)) w.heap.size 26 #[.slice A l.length c, .int .i64 T] := ((Bk.new w _ _).alloc _).alloc _
  have hA1 : Bk (((w.alloc (.cells #[.slice A l.length c, .int .i64 T] 26)).alloc (.cells #[.int .i64 dk, .int .i64 dt, .int .i64 dv, .bool da, .int .i64 db, .int .i64 dc] 32)).alloc (.cells #[.slice none 0 0, .int .i64 0] 26)) (w.heap.size + 1) 32 #[.int .i64 dk, .int .i64 dt, .int .i64 dv, .bool da, .int .i64 db, .int .i64 dc] := by simpa using (Bk.new (w.alloc (.cells #[.slice A l.length c, .int .i64 T] 26)) 32 #[.int .i64 dk, .int .i64 dt, .int .i64 dv, .bool da, .int .i64 db, .int .i64 dc]).alloc (.cells #[.slice none 0 0, .int .i64 0] 26)
  have hA2 : Bk (((w.alloc (.cells #[.slice A l.length c, .int .i64 T] 26)).alloc (.cells #[.int .i64 dk, .int .i64 dt, .int .i64 dv, .bool da, .int .i64 db, .int .i64 dc] 32)).alloc (.cells #[.slice none 0 0, .int .i64 0] 26)) (w.heap.size + 2) 26 #[.slice none 0 0, .int .i64 0] := by simpa using Bk.new ((w.alloc (.cells #[.slice A l.length c, .int .i64 T] 26)).alloc (.cells #[.int .i64 dk, .int .i64 dt, .int .i64 dv, .bool da, .int .i64 db, .int .i64 dc] 32)) 26 #[.slice none 0 0, .int .i64 0]
  go_enter Try.func40, Try.ntmps40
  go_wp2_with fail
  generalize (((w.alloc (.cells #[.slice A l.length c, .int .i64 T] 26)).alloc (.cells #[.int .i64 dk, .int .i64 dt, .int .i64 dv, .bool da, .int .i64 db, .int .i64 dc] 32)).alloc (.cells #[.slice none 0 0, .int .i64 0] 26)) = W at *
  have hg0 := hG.drew
  obtain ⟨x0, _⟩ := hA0.drew.cells2
  have y0 := hA1.drew.cell 0
  have y1 := hA1.drew.cell 1
  have y2 := hA1.drew.cell 2
  have y3 := hA1.drew.cell 3
  have y4 := hA1.drew.cell 4
  have y5 := hA1.drew.cell 5
  have hlt1 := hA1.lt
  have hlt0 := hA2.lt
  obtain ⟨e', hds⟩ := h.gr0 hG
  have hGs := hG.size
  go_upto_region 1 with fail
  go_cut [] (fun wx => ∃ (A' : Option Addr) (c' : Nat), Bk wx w.heap.size 26 #[.slice A' (l.length + 1) c', .int .i64 T] ∧ Bk wx (w.heap.size + 2) 26 #[.slice none 0 0, .int .i64 0] ∧ l.length + 1 ≤ c' ∧ Sl wx 32 6 A' (l.length + 1) (dcells (l ++ [⟨dk, dt, dv, ⟨da, db, dc⟩⟩])) ∧ Gr [] w wx)
  case first =>
    have hDe := bk_ds (d := ⟨dk, dt, dv, ⟨da, db, dc⟩⟩) (Bk.new W 32 #[.int .i64 dk, .int .i64 dt, .int .i64 dv, .bool da, .int .i64 db, .int .i64 dc])
    have hE := fun o => (hA0.alloc o).drew.cell 0
    have hF0 := (hA1.alloc (.cells #[] 32)).drew.cell 0
    have hF1 := (hA1.alloc (.cells #[] 32)).drew.cell 1
    have hF2 := (hA1.alloc (.cells #[] 32)).drew.cell 2
    have hF3 := (hA1.alloc (.cells #[] 32)).drew.cell 3
    have hF4 := (hA1.alloc (.cells #[] 32)).drew.cell 4
    have hF5 := (hA1.alloc (.cells #[] 32)).drew.cell 5
    have hE2 := ((hA0.alloc (.cells #[] 32)).alloc (.cells #[.int .i64 dk, .int .i64 dt, .int .i64 dv, .bool da, .int .i64 db, .int .i64 dc] 32)).drew.cell 0
    have hE3 := ((hA0.alloc (.cells #[.int .i64 dk, .int .i64 dt, .int .i64 dv, .bool da, .int .i64 db, .int .i64 dc] 32)).alloc (.cells #[] 32)).drew.cell 0
    go_region_law (first | (refine step_app3 rfl (.tmp 5) (.tmp 7) 24 rfl W.heap.size 32 i0 _ 6 48 Try.underlying24 hi0 hz0 hz1 hz2 rfl (by decide) (by decide) (some ⟨_, 0, none⟩) 0 0 [] rfl (by first | exact own_gr0 (own_empty W W.heap.size 32 6 W.heap.size rfl (Nat.le_refl _)) (by repeat' (first | exact Gr.refl _ _ | refine Gr.alloc ?_ _ | refine Gr.drew ?_)) | exact own_gr0 (own_empty (W.alloc (.cells #[.int .i64 dk, .int .i64 dt, .int .i64 dv, .bool da, .int .i64 db, .int .i64 dc] 32)) W.heap.size 32 6 (W.heap.size + 1) (by simp) (by omega)) (by repeat' (first | exact Gr.refl _ _ | refine Gr.alloc ?_ _ | refine Gr.drew ?_))) A l.length c _ rfl (hds.gr0 (by repeat' (first | exact Gr.refl _ _ | refine Gr.alloc ?_ _ | refine Gr.drew ?_))) (dcells_one _) (by omega) (Gr.size (M := []) (by repeat' (first | exact Gr.refl _ _ | refine Gr.alloc ?_ _ | refine Gr.drew ?_))) ?_; intro A2 c2 w2 hown2 hgb2; have hg2 : Gr [] W w2 := Gr.own (a := W) (by repeat' (first | exact Gr.refl _ _ | refine Gr.alloc ?_ _ | refine Gr.drew ?_)) hgb2 (.inr (by omega)); simp only [Nat.zero_add, List.nil_append] at hown2 ⊢; have hB1_2 := hA1.gr0 hg2; have u0 := hB1_2.cell 0; have u1 := hB1_2.cell 1; have u2 := hB1_2.cell 2; have u3 := hB1_2.cell 3; have u4 := hB1_2.cell 4; have u5 := hB1_2.cell 5; (first | (have hD2 : Sl w2 32 6 (some ⟨W.heap.size + 1, 0, none⟩) 1 (dcells [⟨dk, dt, dv, ⟨da, db, dc⟩⟩]) := bk_ds (d := ⟨dk, dt, dv, ⟨da, db, dc⟩⟩) (Bk.own (g := W.heap.size) (Bk.gr0 (by simpa using Bk.new (W.alloc (.cells #[] 32)) 32 #[.int .i64 dk, .int .i64 dt, .int .i64 dv, .bool da, .int .i64 db, .int .i64 dc] : Bk ((W.alloc (.cells #[] 32)).alloc (.cells #[.int .i64 dk, .int .i64 dt, .int .i64 dv, .bool da, .int .i64 db, .int .i64 dc] 32)) (W.heap.size + 1) 32 #[.int .i64 dk, .int .i64 dt, .int .i64 dv, .bool da, .int .i64 db, .int .i64 dc]) (Gr.drew (Gr.refl [] _))) hgb2 (by simp))) | (have hD2 : Sl w2 32 6 (some ⟨W.heap.size, 0, none⟩) 1 (dcells [⟨dk, dt, dv, ⟨da, db, dc⟩⟩]) := bk_ds (d := ⟨dk, dt, dv, ⟨da, db, dc⟩⟩) (Bk.own (g := W.heap.size + 1) (Bk.gr0 (Bk.new W 32 #[.int .i64 dk, .int .i64 dt, .int .i64 dv, .bool da, .int .i64 db, .int .i64 dc]) (Gr.drew ((Gr.refl [] _).alloc _))) hgb2 (by simp))) | skip)) | (refine step_app rfl (.tmp 8) (.tmp 10) 24 rfl W.heap.size 32 i0 _ 6 48 Try.underlying24 hi0 hz0 hz1 hz2 rfl (by decide) (by decide) A2 l.length c2 _ rfl (by first | exact hown2 | exact own_gr0 hown2 (by repeat' (first | exact Gr.refl _ _ | refine Gr.alloc ?_ _ | refine Gr.drew ?_))) _ 1 1 _ rfl (by first | exact hD2 | exact Sl.gr0 (bk_ds (d := ⟨dk, dt, dv, ⟨da, db, dc⟩⟩) (Bk.new w2 32 #[.int .i64 dk, .int .i64 dt, .int .i64 dv, .bool da, .int .i64 db, .int .i64 dc])) (by repeat' (first | exact Gr.refl _ _ | refine Gr.alloc ?_ _ | refine Gr.drew ?_))) (dcells_one _) (by omega) (Gr.size (M := []) (by repeat' (first | exact Gr.refl _ _ | exact hg2 | refine Gr.alloc ?_ _ | refine Gr.drew ?_))) ?_; intro A3 c3 w3 hown3 happ3; have hgK : Gr [] w w3 := happ3.gr [] w hG.size (hG.trans (by repeat' (first | exact Gr.refl _ _ | exact hg2 | refine Gr.alloc ?_ _ | refine Gr.drew ?_))); have hB0_3 := happ3.bk (hA0.gr0 (by repeat' (first | exact Gr.refl _ _ | exact hg2 | refine Gr.alloc ?_ _ | refine Gr.drew ?_))) (by decide); have hB2_3 := happ3.bk (hA2.gr0 (by repeat' (first | exact Gr.refl _ _ | exact hg2 | refine Gr.alloc ?_ _ | refine Gr.drew ?_))) (by decide); have hf3 := hB0_3.frozen 0; have hx3 := hB0_3.cell 0))
    all_goals
      go_wp2
      go_meet
      have hGO := (Gr.refl [w.heap.size] w3).setCell (p := ⟨w.heap.size, 0, none⟩) (.inl (by simp)) (.slice A3 (l.length + 1) c3)
      refine ⟨A3, c3, hB0_3.set_ 0 _, hB2_3.gr hGO (by simp), own_cap hown3, ?_, ?_⟩
      · rw [dcells_append]
        exact Sl.gr1 (Sl.of_own hown3) hB0_3 (by decide) hGO
      · exact hgK.setCell (.inr (Nat.le_refl _)) _
  case rest =>
    obtain ⟨A3, c3, hC0, hC2, hcap, hsl, hgc⟩ := hcut
    obtain ⟨v0, v1⟩ := hC0.cells2
    obtain ⟨v2, v3⟩ := hC2.cells2
    have hf0 := hC2.frozen 0
    have hf1 := hC2.frozen 1
    go_wp2
    have hC4 := (hC2.set_ 0 (.slice A3 (l.length + 1) c3)).set_ 1 (.int .i64 T)
    refine bodyPost_ret (results_cell_row rfl _ _ _ _ _ _ _ rfl hC4 Try.underlying26 rfl (by kernel_rfl)) rfl ⟨A3, c3, rfl, hcap, ?_, ?_⟩
    · exact Sl.gr1 hsl hC2 (by decide) (((Gr.refl [w.heap.size + 2] wc).setCell (.inl (by simp)) _).setCell (.inl (by simp)) _)
    · exact (hgc.setCell (.inr (show w.heap.size ≤ w.heap.size + 2 by omega)) _).setCell (.inr (show w.heap.size ≤ w.heap.size + 2 by omega)) _
end Go.Proofs.Ytpbelnbknnhgnaa
