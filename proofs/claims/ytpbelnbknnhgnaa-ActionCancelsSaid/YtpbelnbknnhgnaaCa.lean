/- What the rounds of ActionCancels keep in memory. -/
import Derived.Test.YtpbelnbknnhgnaaStp
namespace Go.Proofs.Ytpbelnbknnhgnaa
open Go.RowKit Go.Maps

/-- 'm[id]', of a map that is there. -/
theorem Mo.look1 {w : World} {b n : Nat} {f : Int → Option Int} (h : Mo w b n f) {id : Int} (hw : wf64 id) : (Instr.lookup 43 (.map (some b)) (.int .i64 id) false).run Try.prog w = .ok (.int .i64 ((f id).getD 0)) w := by
  obtain ⟨D, h1, h2⟩ := h
  obtain ⟨v, ps, hrun, hv⟩ := h1.lookup MK Try.underlying43 (zeroI64 w) (plainElem_int Try.underlying2 (a := 0) rfl) (keyOf_int_mk Try.underlying2 hw)
  obtain ⟨h3, h4⟩ := h2 id hw
  rw [h4] at hv
  obtain ⟨c, rfl, hc, _⟩ := plainElem_int_inv Try.underlying2 hv
  have hc := congrArg Prod.fst hc
  injection hc with hc
  injection hc with _ hc
  rw [hrun, hc]

structure CI (w wr : World) (base g p6 p8 N : Nat) (l : List Dd) (T : Int) (A : Option Addr) (c : Nat) (opn : List Int) (A7 : Option Addr) (c7 : Nat) (want : List Ac) (A9 : Option Addr) (c9 : Nat) (f : Int → Option Int) : Prop where
  b6 : Bk wr p6 26 #[.slice A l.length c, .int .i64 T]
  sl : Sl wr 32 6 A l.length (dcells l)
  o7 : wr.ownsRow base 2 1 (.slice A7 opn.length c7) opn.length (opn.map (.int .i64))
  o9 : wr.ownsRow base 30 3 (.slice A9 want.length c9) want.length (acells want)
  mp : Mo wr p8 N f
  dc : Dice wr base g
  l6 : base ≤ p6
  l8 : base ≤ p8
  lb : w.heap.size ≤ base
  gr : Gr [] w wr
section
variable {w wr w' : World} {base g p6 p8 N : Nat} {l l' : List Dd} {T T' : Int} {A A' : Option Addr} {c c' : Nat} {opn opn' : List Int} {A7 A7' : Option Addr} {c7 c7' : Nat} {want want' : List Ac} {A9 A9' : Option Addr} {c9 c9' : Nat} {f f' : Int → Option Int}
theorem CI.gr0 (h : CI w wr base g p6 p8 N l T A c opn A7 c7 want A9 c9 f) (hg : Gr [] wr w') : CI w w' base g p6 p8 N l T A c opn A7 c7 want A9 c9 f :=
  ⟨h.b6.gr0 hg, Sl.gr0 h.sl hg, own_gr0 h.o7 hg, own_gr0 h.o9 hg, h.mp.gr hg (by simp), h.dc.gr0 hg, h.l6, h.l8, h.lb, h.gr.trans hg⟩
/-- One block of cells of some other type, from base on or the dice's own. -/
theorem CI.one (h : CI w wr base g p6 p8 N l T A c opn A7 c7 want A9 c9 f) {x : Nat} {t : TypeId} {cs : Array Value} (hx : Bk wr x t cs) (h1 : 32 ≠ t) (h2 : 2 ≠ t) (h3 : 30 ≠ t)
    (hg : Gr [x] wr w') (hb6 : Bk w' p6 26 #[.slice A l.length c, .int .i64 T]) (hd : Dice w' base g) (hxw : w.heap.size ≤ x) : CI w w' base g p6 p8 N l T A c opn A7 c7 want A9 c9 f := by
  have h8 : p8 ≠ x := by
    rintro rfl
    exact h.mp.not_cells _ _ _ hx
  exact ⟨hb6, Sl.gr1 h.sl hx h1 hg, own_gr1 h.o7 hx h2 hg, own_gr1 h.o9 hx h3 hg, h.mp.gr hg (by simpa using h8), hd, h.l6, h.l8, h.lb, h.gr.trans_new hg (by intro y hy; right; simp at hy; omega)⟩
theorem CI.pick (h : CI w wr base g p6 p8 N l T A c opn A7 c7 want A9 c9 f) (hd : Dice w' base g) (hg : Gr [g] wr w') (hgw : w.heap.size ≤ g) : CI w w' base g p6 p8 N l T A c opn A7 c7 want A9 c9 f := by
  obtain ⟨cs, hx⟩ := h.dc.bk
  have := h.dc.ltB
  have h6 := h.l6
  exact h.one hx (by decide) (by decide) (by decide) hg (h.b6.gr hg (by simp; omega)) hd hgw
theorem CI.put (h : CI w wr base g p6 p8 N l T A c opn A7 c7 want A9 c9 f) (hs : Sl wr 32 6 A' l'.length (dcells l')) : CI w ((wr.setCell ⟨p6, 0, none⟩ (.slice A' l'.length c')).setCell ⟨p6, 1, none⟩ (.int .i64 T')) base g p6 p8 N l' T' A' c' opn A7 c7 want A9 c9 f := by
  have hg := gr_two wr p6 (.slice A' l'.length c') (.int .i64 T')
  have h8 : p8 ≠ p6 := by
    rintro rfl
    exact h.mp.not_cells _ _ _ h.b6
  have h6 := h.l6
  have hlb := h.lb
  exact ⟨(h.b6.set_ 0 _).set_ 1 _, Sl.gr1 hs h.b6 (by decide) hg, own_gr1 h.o7 h.b6 (by decide) hg, own_gr1 h.o9 h.b6 (by decide) hg, h.mp.gr hg (by simpa using h8), h.dc.far hg (by intro x hx; simp at hx; omega), h.l6, h.l8, h.lb, h.gr.trans_new hg (by intro x hx; right; simp at hx; omega)⟩
theorem Mo.app {b n base : Nat} {e : TypeId} {ff : Int → Option Int} (h : Mo wr b n ff) (ha : App base e wr w') : Mo w' b n ff := by
  refine h.keep ?_
  have hlt := h.lt
  rw [ha.keep b wr.heap[b] (Array.getElem?_eq_getElem hlt) (.inr fun cs fz he => h.not_cells e cs fz (by rw [Array.getElem?_eq_getElem hlt, he])), Array.getElem?_eq_getElem hlt]
theorem CI.app7 (h : CI w wr base g p6 p8 N l T A c opn A7 c7 want A9 c9 f) (ha : App base 2 wr w') (ho : w'.ownsRow base 2 1 (.slice A7' opn'.length c7') opn'.length (opn'.map (.int .i64))) : CI w w' base g p6 p8 N l T A c opn' A7' c7' want A9 c9 f :=
  ⟨ha.bk h.b6 (by decide), ha.sl h.sl (by decide), ho, ha.own h.o9 (by decide), h.mp.app ha, h.dc.app ha (Nat.le_refl _), h.l6, h.l8, h.lb, ha.gr [] w h.lb h.gr⟩
theorem CI.app9 (h : CI w wr base g p6 p8 N l T A c opn A7 c7 want A9 c9 f) (ha : App base 30 wr w') (ho : w'.ownsRow base 30 3 (.slice A9' want'.length c9') want'.length (acells want')) : CI w w' base g p6 p8 N l T A c opn A7 c7 want' A9' c9' f :=
  ⟨ha.bk h.b6 (by decide), ha.sl h.sl (by decide), ha.own h.o7 (by decide), ho, h.mp.app ha, h.dc.app ha (Nat.le_refl _), h.l6, h.l8, h.lb, ha.gr [] w h.lb h.gr⟩
theorem own_far {e : TypeId} {size base x : Nat} {v : Value} {n : Nat} {xs : List Value} (h : wr.ownsRow base e size v n xs) (hx : ∀ cs fz, wr.heap[x]? ≠ some (.cells cs e fz)) (hg : Gr [x] wr w') : w'.ownsRow base e size v n xs := by
  refine h.kept hg.to_grown ?_
  rcases h.2 with ⟨rfl, _⟩ | ⟨g', cap, cur, rfl, _, hh, _⟩
  · exact .inl rfl
  · right
    intro he
    have : g' = x := by simpa [Value.ownBlock] using he
    subst this
    exact hx _ _ hh
theorem Sl.far_ {e : TypeId} {size x : Nat} {v : Option Addr} {n : Nat} {xs : List Value} (h : Sl wr e size v n xs) (hx : ∀ cs fz, wr.heap[x]? ≠ some (.cells cs e fz)) (hg : Gr [x] wr w') : Sl w' e size v n xs :=
  ⟨h.1, fun hn => by
    obtain ⟨b, off, cs, fz, hA, hb, hc⟩ := h.2 hn
    have hne : b ≠ x := by rintro rfl; exact hx _ _ hb
    exact ⟨b, off, cs, fz, hA, (hg.block b (lt_of_get hb) (by simpa using hne)).trans hb, hc⟩⟩
theorem CI.upd (h : CI w wr base g p6 p8 N l T A c opn A7 c7 want A9 c9 f) (hg : wr.grownBy w' (some p8)) (hm : Mo w' p8 (N + 1) f') : CI w w' base g p6 p8 (N + 1) l T A c opn A7 c7 want A9 c9 f' := by
  have hG : Gr [p8] wr w' := (Gr.refl [p8] wr).grown hg (fun k hk => by injection hk with hk; subst hk; exact .inl (by simp))
  have hn := h.mp.not_cells
  have h6 : p6 ≠ p8 := by
    rintro rfl
    exact hn _ _ _ h.b6
  have h8 := h.l8
  have hlb := h.lb
  exact ⟨h.b6.gr hG (by simpa using h6), Sl.far_ h.sl (fun cs fz => hn _ cs fz) hG, own_far h.o7 (fun cs fz => hn _ cs fz) hG, own_far h.o9 (fun cs fz => hn _ cs fz) hG, hm, h.dc.far hG (by intro x hx; simp at hx; omega), h.l6, h.l8, h.lb, h.gr.trans_new hG (by intro x hx; right; simp at hx; omega)⟩
end
end Go.Proofs.Ytpbelnbknnhgnaa
