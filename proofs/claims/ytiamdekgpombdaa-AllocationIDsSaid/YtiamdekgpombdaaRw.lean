/- Objects and values as they lie in memory; the small functions: Clone, copied, index, Get. -/
import Derived.Test.YtiamdekgpombdaaCn2
import Derived.Test.YtiamdekgpombdaaRows
import Derived.Deep.RegionWith
import Derived.Deep.RegionLaw
import Derived.StillTailTactics
import Derived.Laws.ResultCell
namespace Go.Proofs.Ytiamdekgpombdaa
open Go.RowKit

theorem Try.infoVl : (Try.prog.info? 36).map (fun i => (i.zero, i.size, i.bytes)) = some (some (.agg #[.bool false, .int .i64 0]), 2, 16) := by kernel_rfl
theorem Try.infoOb : (Try.prog.info? 39).map (fun i => (i.zero, i.size, i.bytes)) = some (some (.agg #[.int .i64 0, .slice none 0 0]), 2, 32) := by kernel_rfl
theorem info_parts {P : Program} {t : TypeId} {z : Value} {s b : Nat} (h : (P.info? t).map (fun i => (i.zero, i.size, i.bytes)) = some (some z, s, b)) : ∃ i, P.info? t = some i ∧ i.zero = some z ∧ i.size = s ∧ i.bytes = b := by
  cases hi : P.info? t with
  | none => rw [hi] at h; simp at h
  | some i => rw [hi] at h; simp at h; exact ⟨i, rfl, h.1, h.2.1, h.2.2⟩

theorem pair_len {α : Type} (f : α → List Value) (hf : ∀ a, (f a).length = 2) (l : List α) : (l.flatMap f).length = l.length * 2 := by
  induction l with
  | nil => rfl
  | cons x l ih => simp only [List.flatMap_cons, List.length_append, hf, ih, List.length_cons]; omega
theorem pair_get {α : Type} (f : α → List Value) (hf : ∀ a, (f a).length = 2) (l : List α) (k j : Nat) (hk : k < l.length) (hj : j < 2) : (l.flatMap f)[k * 2 + j]? = (f l[k])[j]? := by
  induction l generalizing k with
  | nil => simp at hk
  | cons x l ih =>
    cases k with
    | zero => simp only [List.flatMap_cons, Nat.zero_mul, Nat.zero_add, List.getElem_cons_zero]; rw [List.getElem?_append_left (by rw [hf]; exact hj)]
    | succ k =>
      simp only [List.flatMap_cons, List.getElem_cons_succ]
      rw [List.getElem?_append_right (by rw [hf]; omega), hf, show (k + 1) * 2 + j - 2 = k * 2 + j by omega]
      exact ih k (by simpa using hk)

/-- An object with the place of its fields. -/
structure Rw where
  o : Ob
  A : Option Addr
  c : Nat
def Rw.E (r : Rw) : List Value := [.int .i64 r.o.id, .slice r.A r.o.fs.length r.c]
def rcells (l : List Rw) : List Value := l.flatMap Rw.E
def obs (l : List Rw) : List Ob := l.map Rw.o

theorem vcells_len (l : List Vl) : (vcells l).length = l.length * 2 := pair_len Vl.E (fun _ => rfl) l
theorem rcells_len (l : List Rw) : (rcells l).length = l.length * 2 := pair_len Rw.E (fun _ => rfl) l
theorem vcells_append (a b : List Vl) : vcells (a ++ b) = vcells a ++ vcells b := by simp [vcells]
theorem rcells_append (a b : List Rw) : rcells (a ++ b) = rcells a ++ rcells b := by simp [rcells]
theorem vcells_one (l : List Vl) : ∀ u ∈ vcells l, u.oneCell' = true := by
  intro u hu
  obtain ⟨v, _, hv⟩ := List.mem_flatMap.1 hu
  simp [Vl.E] at hv
  rcases hv with rfl | rfl <;> rfl
theorem rcells_one (l : List Rw) : ∀ u ∈ rcells l, u.oneCell' = true := by
  intro u hu
  obtain ⟨v, _, hv⟩ := List.mem_flatMap.1 hu
  simp [Rw.E] at hv
  rcases hv with rfl | rfl <;> rfl
def wf64 (n : Int) : Prop := (Lit.int .i64 n).wf = true
def VW (l : List Vl) : Prop := ∀ v ∈ l, wf64 v.n
/-- The slice at A reads as these values. -/
def Vs (w : World) (A : Option Addr) (l : List Vl) : Prop := Sl w 36 2 A l.length (vcells l)
def Rok (w : World) (l : List Rw) : Prop := ∀ r ∈ l, Vs w r.A r.o.fs ∧ VW r.o.fs ∧ r.o.fs.length ≤ 1000000 ∧ wf64 r.o.id
def Os (w : World) (A : Option Addr) (l : List Rw) : Prop := Sl w 39 2 A l.length (rcells l)
/-- From base on rows of values and new blocks aside nothing of values turns. -/
theorem Vs.gr0 {w w' : World} {A : Option Addr} {l : List Vl} (h : Vs w A l) (hg : Gr [] w w') : Vs w' A l := Sl.gr0 h hg
theorem Os.gr0 {w w' : World} {A : Option Addr} {l : List Rw} (h : Os w A l) (hg : Gr [] w w') : Os w' A l := Sl.gr0 h hg
theorem Rok.gr0 {w w' : World} {l : List Rw} (h : Rok w l) (hg : Gr [] w w') : Rok w' l := fun r hr => ⟨(h r hr).1.gr0 hg, (h r hr).2⟩
theorem Vs.alloc {w : World} {A : Option Addr} {l : List Vl} (h : Vs w A l) (o : Obj) : Vs (w.alloc o) A l := Sl.alloc h o
theorem Os.alloc {w : World} {A : Option Addr} {l : List Rw} (h : Os w A l) (o : Obj) : Os (w.alloc o) A l := Sl.alloc h o
theorem Rok.alloc {w : World} {l : List Rw} (h : Rok w l) (o : Obj) : Rok (w.alloc o) l := h.gr0 ((Gr.refl [] w).alloc o)
theorem Vs.drew {w : World} {A : Option Addr} {l : List Vl} (h : Vs w A l) : Vs w.drew A l := h
theorem Os.drew {w : World} {A : Option Addr} {l : List Rw} (h : Os w A l) : Os w.drew A l := h
theorem Rok.drew {w : World} {l : List Rw} (h : Rok w l) : Rok w.drew l := h
theorem Vs.drewN {w : World} {A : Option Addr} {l : List Vl} (h : Vs w A l) (n : Nat) : Vs (w.drewN n) A l := h
theorem Os.drewN {w : World} {A : Option Addr} {l : List Rw} (h : Os w A l) (n : Nat) : Os (w.drewN n) A l := h
theorem Rok.drewN {w : World} {l : List Rw} (h : Rok w l) (n : Nat) : Rok (w.drewN n) l := h
theorem Vs.at_ {w : World} {A : Option Addr} {l : List Vl} (h : Vs w A l) {k : Nat} (hk : k < l.length) :
    ∃ b off, A = some ⟨b, off, none⟩ ∧ w.cell? ⟨b, off + k * 2, none⟩ = some (.bool l[k].r) ∧ w.cell? ⟨b, off + k * 2 + 1, none⟩ = some (.int .i64 l[k].n) := by
  obtain ⟨b, off, hA, hc⟩ := Sl.cell h (by omega)
  exact ⟨b, off, hA, hc (k * 2 + 0) _ (pair_get Vl.E (fun _ => rfl) l k 0 hk (by omega)), hc (k * 2 + 1) _ (pair_get Vl.E (fun _ => rfl) l k 1 hk (by omega))⟩
theorem Os.at_ {w : World} {A : Option Addr} {l : List Rw} (h : Os w A l) {k : Nat} (hk : k < l.length) :
    ∃ b off, A = some ⟨b, off, none⟩ ∧ w.cell? ⟨b, off + k * 2, none⟩ = some (.int .i64 l[k].o.id) ∧ w.cell? ⟨b, off + k * 2 + 1, none⟩ = some (.slice l[k].A l[k].o.fs.length l[k].c) := by
  obtain ⟨b, off, hA, hc⟩ := Sl.cell h (by omega)
  exact ⟨b, off, hA, hc (k * 2 + 0) _ (pair_get Rw.E (fun _ => rfl) l k 0 hk (by omega)), hc (k * 2 + 1) _ (pair_get Rw.E (fun _ => rfl) l k 1 hk (by omega))⟩
theorem bk_os {w : World} {g : Nat} {r : Rw} (h : Bk w g 39 #[.int .i64 r.o.id, .slice r.A r.o.fs.length r.c]) : Os w (some ⟨g, 0, none⟩) [r] :=
  ⟨rfl, fun _ => ⟨g, 0, _, _, rfl, h, fun j u hu => by
    have : j < 2 := by
      rcases Nat.lt_or_ge j 2 with h | h
      · exact h
      · rw [List.getElem?_eq_none (by simpa [rcells, Rw.E] using h)] at hu; cases hu
    rcases j with _ | _ | j
    · simpa [rcells, Rw.E] using hu
    · simpa [rcells, Rw.E] using hu
    · omega⟩⟩
theorem bk_vs {w : World} {g : Nat} {v : Vl} (h : Bk w g 36 #[.bool v.r, .int .i64 v.n]) : Vs w (some ⟨g, 0, none⟩) [v] :=
  ⟨rfl, fun _ => ⟨g, 0, _, _, rfl, h, fun j u hu => by
    have : j < 2 := by
      rcases Nat.lt_or_ge j 2 with h | h
      · exact h
      · rw [List.getElem?_eq_none (by simpa [vcells, Vl.E] using h)] at hu; cases hu
    rcases j with _ | _ | j
    · simpa [vcells, Vl.E] using hu
    · simpa [vcells, Vl.E] using hu
    · omega⟩⟩
theorem bk_vs2 {w : World} {g : Nat} {u v : Vl} (h : Bk w g 36 #[.bool u.r, .int .i64 u.n, .bool v.r, .int .i64 v.n]) : Vs w (some ⟨g, 0, none⟩) [u, v] :=
  ⟨rfl, fun _ => ⟨g, 0, _, _, rfl, h, fun j x hx => by
    have : j < 4 := by
      rcases Nat.lt_or_ge j 4 with h | h
      · exact h
      · rw [List.getElem?_eq_none (by simpa [vcells, Vl.E] using h)] at hx; cases hx
    rcases j with _ | _ | _ | _ | j
    · simpa [vcells, Vl.E] using hx
    · simpa [vcells, Vl.E] using hx
    · simpa [vcells, Vl.E] using hx
    · simpa [vcells, Vl.E] using hx
    · omega⟩⟩

theorem results_cell_tmp_row {P : Program} {fn : Func} {p u : Tmp} {ty : TypeId} (h : fn.results = #[.cell p ty, .tmp u]) (tmps : Array Value) (w : World) (g : Nat) (t : TypeId) (cs : Array Value) (fr : Nat × Nat) (d : TypeDesc)
    (hp : tmps.getD p undef = .pointer (some ⟨g, 0, none⟩)) (hg : w.heap[g]? = some (.cells cs t fr))
    (hu : P.underlying ty = some d) (hd : (match d with | .struct _ | .array _ _ => true | _ => false) = true) (hi : (P.info? ty).map (·.size) = some cs.size) :
    (results fn tmps).run P w = .ok (.tuple #[.agg cs, tmps.getD u undef]) w := by
  rw [results_cell_tmp h]
  have hp' : tmps[p]?.getD undef = .pointer (some ⟨g, 0, none⟩) := by simpa using hp
  simp [hp', asAddr, run_loadVar_row w g t ty cs fr d hg hu hd hi, Result.andThen]

set_option maxHeartbeats 400000 in
/-- slices.Clone at values. -/
theorem clone_any (A : Option Addr) (c : Nat) (l : List Vl) (w : World) (h : Vs w A l) (hn : l.length ≤ 1000000) :
    Calls Try.prog 20 #[.slice A l.length c] w fun e w' => ∃ (A' : Option Addr) (c' : Nat),
      e = .returned (.slice A' l.length c') ∧ Vs w' A' l ∧ Gr [] w w' := by
  obtain ⟨i0, hi0, hz0, hz1, hz2⟩ := info_parts Try.infoVl
  have hq := fun W => Lib.run_eql_slice_nil (P := Try.prog) W 37 36 A l.length c 0 0 Try.underlying37
  rcases A with _ | ad
  · have h0 : l.length = 0 := by
      rcases Nat.eq_zero_or_pos l.length with h0 | h0
      · exact h0
      · obtain ⟨b, off, hA, _⟩ := Sl.cell h h0; cases hA
    have h1 : l = [] := List.eq_nil_of_length_eq_zero h0
    subst h1
    simp only [List.length_nil] at hq ⊢
    go_enter Try.func20, Try.ntmps20
    go_wp2
    go_ret
    exact ⟨none, 0, rfl, Sl.nil _ _ _ _, Gr.refl _ _⟩
  · generalize hL : l.length = n at *
    go_enter Try.func20, Try.ntmps20
    go_wp2_with (at_builtin; refine wpList_app _ rfl (.tmp 5) (.tmp 6) 37 rfl w.heap.size 36 i0 _ 2 16 Try.underlying37 hi0 hz0 hz1 hz2 rfl (by decide) (by decide) _ 0 0 [] rfl (own_empty _ _ _ _ _ (by simp) (by simp)) (some ad) n c (vcells l) rfl (by subst hL; exact Sl.alloc h _) (vcells_one l) (by omega) (by simp) ?_; intro A1 c1 w1 hown1 happ1; simp only [Nat.zero_add, List.nil_append] at hown1)
    go_ret
    refine ⟨A1, c1, ret_slice (by omega), ?_, happ1.gr [] w (by omega) ((Gr.refl _ w).alloc _)⟩
    subst hL
    exact Sl.of_own hown1

set_option maxHeartbeats 400000 in
theorem copied_any (o : Ob) (A : Option Addr) (c : Nat) (w : World) (h : Vs w A o.fs) (hn : o.fs.length ≤ 1000000) :
    Calls Try.prog 17 #[.agg #[.int .i64 o.id, .slice A o.fs.length c]] w fun e w' => ∃ (A' : Option Addr) (c' : Nat),
      e = .returned (.agg #[.int .i64 o.id, .slice A' o.fs.length c']) ∧ Vs w' A' o.fs ∧ Gr [] w w' := by
  obtain ⟨id, fs⟩ := o
  simp only at h hn ⊢
  have hb1 : Bk ((w.alloc (.cells #[.int .i64 id, .slice A fs.length c] 39)).alloc (.cells #[.int .i64 0, .slice none 0 0] 39)) w.heap.size 39 #[.int .i64 id, .slice A fs.length c] := (Bk.new w _ _).alloc _
  obtain ⟨h0, h1⟩ := hb1.cells2
  have hb2 : Bk ((w.alloc (.cells #[.int .i64 id, .slice A fs.length c] 39)).alloc (.cells #[.int .i64 0, .slice none 0 0] 39)) (w.heap.size + 1) 39 #[.int .i64 0, .slice none 0 0] := by simpa using Bk.new (w.alloc (.cells #[.int .i64 id, .slice A fs.length c] 39)) 39 #[.int .i64 0, .slice none 0 0]
  go_enter Try.func17, Try.ntmps17
  go_wp2_with fail
  go_region_with (go_at_call 20; refine (clone_any A c fs _ ((h.alloc _).alloc _).drew hn).mono ?_; rintro e w1 ⟨A1, c1, rfl, hv1, hg1⟩; have hb3 := hb2.drew.gr hg1 (by simp); obtain ⟨hx0, hx1⟩ := hb3.cells2; have hf0 := hb3.frozen 0; have hf1 := hb3.frozen 1; obtain ⟨hy0, hy1⟩ := (hb1.drew.gr hg1 (by simp)).cells2)
  all_goals
    go_wp2
    (try simp only [Exit.inBlock, Exit.then])
    have hb4 := (hb3.set_ 0 (.int .i64 id)).set_ 1 (.slice A1 fs.length c1)
    refine bodyPost_ret (v := .agg #[.int .i64 id, .slice A1 fs.length c1]) (results_cell_row rfl _ _ _ _ _ _ _ rfl hb4 Try.underlying39 rfl (by kernel_rfl)) rfl ⟨A1, c1, rfl, ?_, ?_⟩
    · exact Sl.gr1 hv1 hb3 (by decide) (((Gr.refl [w.heap.size + 1] w1).setCell (.inl (by simp)) _).setCell (.inl (by simp)) _)
    · exact (((((Gr.refl [] w).alloc _).alloc _).drew.trans hg1).setCell (.inr (by simp)) _).setCell (.inr (by simp)) _
end Go.Proofs.Ytiamdekgpombdaa
