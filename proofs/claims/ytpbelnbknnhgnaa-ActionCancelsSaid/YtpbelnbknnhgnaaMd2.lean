/- made, walked. -/
import Derived.Test.YtpbelnbknnhgnaaMk
namespace Go.Proofs.Ytpbelnbknnhgnaa
open Go.RowKit

theorem bk_far2 {w : World} {p q : Nat} {t : TypeId} {cs : Array Value} (h : Bk w p t cs) (hpq : p ≠ q) (a b : Value) : Bk ((w.setCell ⟨q, 0, none⟩ a).setCell ⟨q, 1, none⟩ b) p t cs := (h.far (p := ⟨q, 0, none⟩) hpq a).far (p := ⟨q, 1, none⟩) hpq b
theorem gr_two (w : World) (q : Nat) (a b : Value) : Gr [q] w ((w.setCell ⟨q, 0, none⟩ a).setCell ⟨q, 1, none⟩ b) := ((Gr.refl [q] w).setCell (.inl (by simp)) _).setCell (.inl (by simp)) _
/-- x is what comes next. -/
theorem rnd_ok {w w5 : World} {p2 p4 q g : Nat} {x y u v : Value} {m : List Dd} {A2 : Option Addr} {c2 : Nat} {U : Int} (hq : Bk w5 q 26 #[x, y]) (hp : Bk w5 p4 26 #[u, v])
    (hne : p4 ≠ q) (N : Nat) (hN : m.length = N) (hs : Sl w5 32 6 A2 N (dcells m)) (hcap : N ≤ c2) (hok : ∃ op, scan m = some (U, op)) (hwf : wfl m) (hd : Dice w5 p4 g) (hpq : p4 < q)
    (hP2 : Bk w5 p2 26 #[.slice none 0 0, .int .i64 0]) (hp2 : p2 < p4) (hw : w.heap.size ≤ p4) (hgr : Gr [] w w5) :
    ∀ W6, W6 = ((((w5.setCell ⟨q, 0, none⟩ (.slice A2 N c2)).setCell ⟨q, 1, none⟩ (.int .i64 U)).setCell ⟨p4, 0, none⟩ (.slice A2 N c2)).setCell ⟨p4, 1, none⟩ (.int .i64 U)) →
    Mo1 W6 p4 m A2 c2 U ∧ Dice W6 p4 g ∧ Bk W6 p2 26 #[.slice none 0 0, .int .i64 0] ∧ p4 < W6.heap.size ∧ Gr [] w W6 := by
  subst hN
  rintro W6 rfl
  have g1 := gr_two w5 q (.slice A2 m.length c2) (.int .i64 U)
  have hp1 := bk_far2 hp hne (.slice A2 m.length c2) (.int .i64 U)
  have g2 := gr_two ((w5.setCell ⟨q, 0, none⟩ (.slice A2 m.length c2)).setCell ⟨q, 1, none⟩ (.int .i64 U)) p4 (.slice A2 m.length c2) (.int .i64 U)
  refine ⟨⟨(hp1.set_ 0 _).set_ 1 _, Sl.gr1 (Sl.gr1 hs hq (by decide) g1) hp1 (by decide) g2, hcap, hok, hwf⟩, (hd.far g1 (by intro x hx; simp at hx; omega)).far g2 (by intro x hx; simp at hx; omega), (hP2.gr g1 (by simp; omega)).gr g2 (by simp; omega), ?_, (hgr.trans_new g1 (by intro x hx; right; simp at hx; omega)).trans_new g2 (by intro x hx; right; simp at hx; omega)⟩
  have := hp.lt
  have := g1.size
  have := g2.size
  omega
/-- x is thrown away. -/
theorem rnd_no {w w5 : World} {p2 p4 q g : Nat} {x y a b : Value} {l : List Dd} {A1 : Option Addr} {c1 : Nat} {T : Int} (hq : Bk w5 q 26 #[x, y]) (hm : Mo1 w5 p4 l A1 c1 T)
    (hne : p4 ≠ q) (hd : Dice w5 p4 g) (hpq : p4 < q) (hP2 : Bk w5 p2 26 #[.slice none 0 0, .int .i64 0]) (hp2 : p2 < p4) (hw : w.heap.size ≤ p4) (hgr : Gr [] w w5) :
    ∀ W6, W6 = ((w5.setCell ⟨q, 0, none⟩ a).setCell ⟨q, 1, none⟩ b) →
    Mo1 W6 p4 l A1 c1 T ∧ Dice W6 p4 g ∧ Bk W6 p2 26 #[.slice none 0 0, .int .i64 0] ∧ p4 < W6.heap.size ∧ Gr [] w W6 := by
  rintro W6 rfl
  have g1 := gr_two w5 q a b
  refine ⟨⟨bk_far2 hm.bk hne a b, Sl.gr1 hm.sl hq (by decide) g1, hm.cap, hm.ok, hm.wf⟩, hd.far g1 (by intro x hx; simp at hx; omega), hP2.gr g1 (by simp; omega), ?_, hgr.trans_new g1 (by intro x hx; right; simp at hx; omega)⟩
  have := hm.bk.lt
  have := g1.size
  omega

theorem rdo_ex (A : Option Addr) (c : Nat) (l : List Dd) (T : Int) (x : Bool) (y z : Int) (w : World) (h : Ds w A l) (hn : l.length ≤ 999999) :
    Calls Try.prog 26 #[.agg #[.slice A l.length c, .int .i64 T], .agg #[.bool x, .int .i64 y, .int .i64 z]] w fun e w' => ∃ (a : Ac) (A' : Option Addr) (c' : Nat),
      e = .returned (.agg #[.slice A' (l.length + 1) c', .int .i64 T]) ∧ l.length + 1 ≤ c' ∧ Sl w' 32 6 A' (l.length + 1) (dcells (l ++ [⟨4, 0, 0, a⟩])) ∧ Gr [] w w' :=
  (rdo_any A c l T ⟨x, y, z⟩ w h hn).mono fun _ _ h => ⟨_, h⟩
/-- What a settlement of the reference gives. -/
def SetRes (l : List Dd) (T kk t : Int) (w' : World) (A5 : Option Addr) (n5 c5 : Nat) (U5 e5 : Int) : Prop :=
  (opn l t = none ∧ A5 = none ∧ n5 = 0 ∧ c5 = 0 ∧ U5 = 0 ∧ e5 = 5) ∨ ∃ v, opn l t = some v ∧ n5 = l.length + 1 ∧ U5 = T ∧ e5 = 0 ∧ l.length + 1 ≤ c5 ∧ Sl w' 32 6 A5 (l.length + 1) (dcells (l ++ [⟨kk, t, v, plainA⟩]))
theorem rconf_res (A : Option Addr) (c : Nat) (l : List Dd) (T t : Int) (w : World) (h : Ds w A l) (hn : l.length ≤ 999999) :
    Calls Try.prog 27 #[.agg #[.slice A l.length c, .int .i64 T], .int .i64 t] w fun e w' => ∃ (A5 : Option Addr) (n5 c5 : Nat) (U5 e5 : Int), e = .returned (.tuple #[.agg #[.slice A5 n5 c5, .int .i64 U5], .int .i64 e5]) ∧ SetRes l T 2 t w' A5 n5 c5 U5 e5 ∧ Gr [] w w' := by
  refine (rconfirm_any A c l T t w h hn).mono ?_
  rintro e w' (⟨h1, rfl, h3⟩ | ⟨v, A', c', h1, rfl, h3, h4, h5⟩)
  · exact ⟨none, 0, 0, 0, 5, rfl, .inl ⟨h1, rfl, rfl, rfl, rfl, rfl⟩, h3⟩
  · exact ⟨A', l.length + 1, c', T, 0, rfl, .inr ⟨v, h1, rfl, rfl, rfl, h3, h4⟩, h5⟩
theorem rcanc_res (A : Option Addr) (c : Nat) (l : List Dd) (T t : Int) (w : World) (h : Ds w A l) (hn : l.length ≤ 999999) :
    Calls Try.prog 28 #[.agg #[.slice A l.length c, .int .i64 T], .int .i64 t] w fun e w' => ∃ (A5 : Option Addr) (n5 c5 : Nat) (U5 e5 : Int), e = .returned (.tuple #[.agg #[.slice A5 n5 c5, .int .i64 U5], .int .i64 e5]) ∧ SetRes l T 3 t w' A5 n5 c5 U5 e5 ∧ Gr [] w w' := by
  refine (rcancel_any A c l T t w h hn).mono ?_
  rintro e w' (⟨h1, rfl, h3⟩ | ⟨v, A', c', h1, rfl, h3, h4, h5⟩)
  · exact ⟨none, 0, 0, 0, 5, rfl, .inl ⟨h1, rfl, rfl, rfl, rfl, rfl⟩, h3⟩
  · exact ⟨A', l.length + 1, c', T, 0, rfl, .inr ⟨v, h1, rfl, rfl, rfl, h3, h4⟩, h5⟩

set_option maxRecDepth 100000 in
set_option maxHeartbeats 4000000 in
theorem made_any (A : Option Addr) (n c : Nat) (zs : List Int) (w : World) (e5 : TypeId) (h : Sl w e5 1 A n (zs.map (.int .u8))) (hz : ∀ j, 0 ≤ zs.getD j 0 ∧ zs.getD j 0 < 256) (hnc : n ≤ c) (hn : n ≤ 9223372036854775807) :
    Calls Try.prog 8 #[.slice A n c] w fun e w' => ∃ (l : List Dd) (A' : Option Addr) (c' : Nat) (T : Int), e = .returned (.agg #[.slice A' l.length c', .int .i64 T]) ∧ Sl w' 32 6 A' l.length (dcells l) ∧ l.length ≤ c' ∧ (∃ op, scan l = some (T, op)) ∧ wfl l ∧ l.length ≤ 24 ∧ Gr [] w w' := by
  go_enter Try.func8, Try.ntmps8
  go_wp2_with fail
  go_at_call 14
  refine (millnew_any A n c zs _ e5 (h.alloc _) hz hnc hn).mono ?_
  rintro e w1 ⟨g, rfl, hgg, hd, hg1⟩
  have hgr1 := ((Gr.refl [] w).alloc (.cells #[.slice none 0 0, .int .i64 0] 26)).trans hg1
  have hP2 := bk_last (p := w.heap.size) hg1 rfl
  have hw1 : w.heap.size + 1 ≤ g := by simpa using hgg
  clear hg1 hgg
  have hP4 := Bk.new w1 26 #[.slice none 0 0, .int .i64 0]
  have hgr2 := hgr1.alloc (.cells #[.slice none 0 0, .int .i64 0] 26)
  have hd2 : Dice (w1.alloc (.cells #[.slice none 0 0, .int .i64 0] 26)) w1.heap.size g := hd.gr0 ((Gr.refl [] _).alloc _)
  have hP2' := hP2.alloc (.cells #[.slice none 0 0, .int .i64 0] 26)
  have hB1 := hgr1.size
  have hgB := hd.ltB
  clear hP2 hd hgr1 h
  go_wp2_with fail
  generalize hp4 : w1.heap.size = p4 at *
  have HP4 := Lib.hid hp4
  clear hp4
  generalize w1.alloc (.cells #[.slice none 0 0, .int .i64 0] 26) = W at *
  go_at_call 16
  refine (pick_any p4 g 24 _ hd2 (by omega) (by omega)).mono ?_
  rintro e w2 ⟨r, rfl, hr0, hr1, hd3, hg3⟩
  have hP4' := hP4.gr hg3 (by simp; omega)
  have hP2'' := hP2'.gr hg3 (by simp; omega)
  have hgr3 : Gr [] w w2 := hgr2.trans_new hg3 (fun x hx => .inr (by simp at hx; omega))
  clear hP4 hP2' hd2 hgr2 hg3
  go_wp2_with fail
  go_loopw [5] (fun kv wr => ∃ (k : Nat) (l : List Dd) (A' : Option Addr) (c' : Nat) (T : Int), kv = .int .i64 k ∧ l.length + k ≤ 24 ∧ Mo1 wr p4 l A' c' T ∧ Dice wr p4 g ∧ Bk wr w.heap.size 26 #[.slice none 0 0, .int .i64 0] ∧ p4 < wr.heap.size ∧ Gr [] w wr) (fun kv _ => (intOf kv).toNat)
  case atStart => exact ⟨r.toNat, [], none, 0, 0, by rw [Int.toNat_of_nonneg hr0], by simp; omega, ⟨hP4', Sl.nil _ _ _ _, Nat.le_refl _, ⟨_, scan_nil⟩, wfl_nil⟩, hd3, hP2'', hP4'.lt, hgr3⟩
  case round =>
    obtain ⟨k, l, A1, c1, T, rfl, hlk, hm, hdr, hP2, hlt, hgr⟩ := hrel
    clear hP4' hP2'' hgr3 hd3
    obtain ⟨x0, x1⟩ := hm.bk.cells2
    by_cases hk : 0 < k
    · have hk' : (0 : Int) < (k : Int) := by omega
      obtain ⟨j, rfl⟩ : ∃ j, k = j + 1 := ⟨k - 1, by omega⟩
      obtain ⟨hT0, hT1⟩ := hm.bd
      have hX := Bk.new wr 26 #[.slice A1 l.length c1, .int .i64 T]
      have hm1 := hm.gr0 ((Gr.refl [] wr).alloc (.cells #[.slice A1 l.length c1, .int .i64 T] 26))
      have hd1 : Dice (wr.alloc (.cells #[.slice A1 l.length c1, .int .i64 T] 26)) p4 g := hdr.gr0 ((Gr.refl [] wr).alloc _)
      have hP1 := hP2.alloc (.cells #[.slice A1 l.length c1, .int .i64 T] 26)
      have hgr1 := hgr.alloc (.cells #[.slice A1 l.length c1, .int .i64 T] 26)
      clear hP2
      go_wp2_with fail
      clear x0 x1 hm hdr hgr
      generalize wr.heap.size = q at *
      generalize wr.alloc (.cells #[.slice A1 l.length c1, .int .i64 T] 26) = W1 at *
      go_at_call 16
      refine (pick_any p4 g 5 _ hd1 (by omega) (by omega)).mono ?_
      rintro e w3 ⟨r, rfl, hr0, hr1, hd3, hg3⟩
      obtain ⟨csg, hbg⟩ := hd1.bk
      have hm3 := hm1.far hbg (by omega) (by decide) hg3
      have hX3 := hX.gr hg3 (by simp; omega)
      have hP3 := hP1.gr hg3 (by simp; omega)
      have hgr3 : Gr [] w w3 := hgr1.trans_new hg3 (fun x hx => .inr (by simp at hx; omega))
      clear hm1 hX hP1 hgr1 hd1 hbg hg3
      have hne : ¬ p4 = q := by omega
      have hne' : ¬ q = p4 := by omega
      have k0 : w3.drew.cell? ⟨p4, 0, none⟩ = some (.slice A1 l.length c1) ∧ w3.drew.cell? ⟨p4, 1, none⟩ = some (.int .i64 T) := hm3.bk.drew.cells2
      obtain ⟨csg, hbg⟩ := hd3.bk
      have HBG := Lib.hid hbg
      clear hbg
      have hr5 : r = 0 ∨ r = 1 ∨ r = 2 ∨ r = 3 ∨ r = 4 := by omega
      clear hr0 hr1
      rcases hr5 with rfl | rfl | rfl | rfl | rfl
      · go_wp2_with fail
        go_region_held3 (fun w' => w'.cell? ⟨p4, 0, none⟩ = some (.slice A1 l.length c1) ∧ w'.cell? ⟨p4, 1, none⟩ = some (.int .i64 T)) (first | exact k0 | exact k1 | exact k2 | go_keep)
          (first | (go_at_call_of 16 (Value.int IntKind.i64 9); refine (pick_any p4 g 9 _ (hd3.gr0 (Gr.refl _ _).drew) (by omega) (by omega)).mono ?_; rintro e w4 ⟨v, rfl, hv0, hv1, hd4, hg4⟩; have hm4 := (hm3.gr0 (Gr.refl _ _).drew).far HBG.out.drew (by omega) (by decide) hg4; have hX4 := hX3.drew.gr hg4 (by simp; omega); have hP4 := hP3.drew.gr hg4 (by simp; omega); have hgr4 : Gr [] w w4 := hgr3.drew.trans_new hg4 (fun x hx => .inr (by simp at hx; omega)); have k1 := hm4.bk.cells2) | (go_at_call 24; refine (rreserve_any A1 c1 l T v _ ⟨_, hm4.sl⟩ (by omega) hT0 (by omega)).mono ?_; rintro e w5 ⟨A5, c5, rfl, hcap5, hsl5, hg5⟩; have hm5 := hm4.gr0 hg5; have hX5 := hX4.gr0 hg5; have hP5 := hP4.gr0 hg5; have hgr5 := hgr4.trans hg5; have hd5 : Dice w5 p4 g := hd4.gr0 hg5; have k2 := hm5.bk.cells2; obtain ⟨y0, y1⟩ := hX5.cells2; have hy0 := hX5.frozen 0; have hy1 := hX5.frozen 1))
        all_goals
          have HST := Lib.hid (Stp.ok (.res v hv0 hv1) hm5.ok (by omega) hm5.wf)
          have hz0 := hm5.bk.frozen 0
          have hz1 := hm5.bk.frozen 1
          obtain ⟨z0, z1⟩ := hm5.bk.cells2
          go_wp2
          go_roundw
          case rel =>
            obtain ⟨r1, r2, r3, r4, r5⟩ := rnd_ok (w := w) (p2 := w.heap.size) (m := l ++ [⟨1, T + 1, v, plainA⟩]) (U := T + 1) (A2 := A5) (c2 := c5) hX5 hm5.bk hne (l.length + 1) HST.out.2.2 hsl5 hcap5 HST.out.1 HST.out.2.1 hd5 (by omega) hP5 (by omega) hB1 hgr5 _ rfl
            exact ⟨j, _, A5, c5, _, by go_num, by rw [HST.out.2.2]; omega, r1, r2, r3, r4, r5⟩
          case measure => simp [intOf]
      · go_wp2_with fail
        go_region_held3 (fun w' => w'.cell? ⟨p4, 0, none⟩ = some (.slice A1 l.length c1) ∧ w'.cell? ⟨p4, 1, none⟩ = some (.int .i64 T)) (first | exact k0 | exact k1 | exact k2 | go_keep)
          (first | (go_at_call_of 16 (Value.int IntKind.i64 9); refine (pick_any p4 g 9 _ (hd3.gr0 (Gr.refl _ _).drew) (by omega) (by omega)).mono ?_; rintro e w4 ⟨v, rfl, hv0, hv1, hd4, hg4⟩; have hm4 := (hm3.gr0 (Gr.refl _ _).drew).far HBG.out.drew (by omega) (by decide) hg4; have hX4 := hX3.drew.gr hg4 (by simp; omega); have hP4 := hP3.drew.gr hg4 (by simp; omega); have hgr4 : Gr [] w w4 := hgr3.drew.trans_new hg4 (fun x hx => .inr (by simp at hx; omega)); have k1 := hm4.bk.cells2) | (go_at_call 24; refine (rreserve_any A1 c1 l T v _ ⟨_, hm4.sl⟩ (by omega) hT0 (by omega)).mono ?_; rintro e w5 ⟨A5, c5, rfl, hcap5, hsl5, hg5⟩; have hm5 := hm4.gr0 hg5; have hX5 := hX4.gr0 hg5; have hP5 := hP4.gr0 hg5; have hgr5 := hgr4.trans hg5; have hd5 : Dice w5 p4 g := hd4.gr0 hg5; have k2 := hm5.bk.cells2; obtain ⟨y0, y1⟩ := hX5.cells2; have hy0 := hX5.frozen 0; have hy1 := hX5.frozen 1))
        all_goals
          have HST := Lib.hid (Stp.ok (.res v hv0 hv1) hm5.ok (by omega) hm5.wf)
          have hz0 := hm5.bk.frozen 0
          have hz1 := hm5.bk.frozen 1
          obtain ⟨z0, z1⟩ := hm5.bk.cells2
          go_wp2
          go_roundw
          case rel =>
            obtain ⟨r1, r2, r3, r4, r5⟩ := rnd_ok (w := w) (p2 := w.heap.size) (m := l ++ [⟨1, T + 1, v, plainA⟩]) (U := T + 1) (A2 := A5) (c2 := c5) hX5 hm5.bk hne (l.length + 1) HST.out.2.2 hsl5 hcap5 HST.out.1 HST.out.2.1 hd5 (by omega) hP5 (by omega) hB1 hgr5 _ rfl
            exact ⟨j, _, A5, c5, _, by go_num, by rw [HST.out.2.2]; omega, r1, r2, r3, r4, r5⟩
          case measure => simp [intOf]
      · go_wp2_with fail
        go_region_held3 (fun w' => w'.cell? ⟨p4, 0, none⟩ = some (.slice A1 l.length c1) ∧ w'.cell? ⟨p4, 1, none⟩ = some (.int .i64 T)) (first | exact k0 | exact k1 | exact k2 | go_keep)
          (first | (go_at_call_of 16 (Value.int IntKind.i64 8); refine (pick_any p4 g 8 _ (hd3.gr0 (Gr.refl _ _).drew) (by omega) (by omega)).mono ?_; rintro e w4 ⟨v, rfl, hv0, hv1, hd4, hg4⟩; have hm4 := (hm3.gr0 (Gr.refl _ _).drew).far HBG.out.drew (by omega) (by decide) hg4; have hX4 := hX3.drew.gr hg4 (by simp; omega); have hP4 := hP3.drew.gr hg4 (by simp; omega); have hgr4 : Gr [] w w4 := hgr3.drew.trans_new hg4 (fun x hx => .inr (by simp at hx; omega)); have k1 := hm4.bk.cells2) | (go_at_call 27; refine (rconf_res A1 c1 l T v _ ⟨_, hm4.sl⟩ (by omega)).mono ?_; rintro e w5 ⟨A5, n5, c5, U5, e5, rfl, hS, hg5⟩; have hm5 := hm4.gr0 hg5; have hX5 := hX4.gr0 hg5; have hP5 := hP4.gr0 hg5; have hgr5 := hgr4.trans hg5; have hd5 : Dice w5 p4 g := hd4.gr0 hg5; have k2 := hm5.bk.cells2; obtain ⟨y0, y1⟩ := hX5.cells2; have hy0 := hX5.frozen 0; have hy1 := hX5.frozen 1))
        all_goals
          rcases hS with ⟨hop, rfl, rfl, rfl, rfl, rfl⟩ | ⟨x, hop, rfl, rfl, rfl, hcap5, hsl5⟩
          · clear hop
            go_wp2
            go_roundw
            case rel =>
              obtain ⟨r1, r2, r3, r4, r5⟩ := rnd_no (w := w) (p2 := w.heap.size) hX5 hm5 hne hd5 (by omega) hP5 (by omega) hB1 hgr5 _ rfl
              exact ⟨j, l, A1, c1, T, by go_num, by omega, r1, r2, r3, r4, r5⟩
            case measure => simp [intOf]
          · have HOP := Lib.hid hop
            clear hop
            have HST := Lib.hid (Stp.ok (.set 2 v x (by omega) HOP.out hv0 hv1) hm5.ok (by omega) hm5.wf)
            have hz0 := hm5.bk.frozen 0
            have hz1 := hm5.bk.frozen 1
            obtain ⟨z0, z1⟩ := hm5.bk.cells2
            go_wp2
            go_roundw
            case rel =>
              obtain ⟨r1, r2, r3, r4, r5⟩ := rnd_ok (w := w) (p2 := w.heap.size) (m := l ++ [⟨2, v, x, plainA⟩]) (U := U5) (A2 := A5) (c2 := c5) hX5 hm5.bk hne (l.length + 1) HST.out.2.2 hsl5 hcap5 HST.out.1 HST.out.2.1 hd5 (by omega) hP5 (by omega) hB1 hgr5 _ rfl
              exact ⟨j, _, A5, c5, _, by go_num, by rw [HST.out.2.2]; omega, r1, r2, r3, r4, r5⟩
            case measure => simp [intOf]
      · go_wp2_with fail
        go_region_held3 (fun w' => w'.cell? ⟨p4, 0, none⟩ = some (.slice A1 l.length c1) ∧ w'.cell? ⟨p4, 1, none⟩ = some (.int .i64 T)) (first | exact k0 | exact k1 | exact k2 | go_keep)
          (first | (go_at_call_of 16 (Value.int IntKind.i64 8); refine (pick_any p4 g 8 _ (hd3.gr0 (Gr.refl _ _).drew) (by omega) (by omega)).mono ?_; rintro e w4 ⟨v, rfl, hv0, hv1, hd4, hg4⟩; have hm4 := (hm3.gr0 (Gr.refl _ _).drew).far HBG.out.drew (by omega) (by decide) hg4; have hX4 := hX3.drew.gr hg4 (by simp; omega); have hP4 := hP3.drew.gr hg4 (by simp; omega); have hgr4 : Gr [] w w4 := hgr3.drew.trans_new hg4 (fun x hx => .inr (by simp at hx; omega)); have k1 := hm4.bk.cells2) | (go_at_call 28; refine (rcanc_res A1 c1 l T v _ ⟨_, hm4.sl⟩ (by omega)).mono ?_; rintro e w5 ⟨A5, n5, c5, U5, e5, rfl, hS, hg5⟩; have hm5 := hm4.gr0 hg5; have hX5 := hX4.gr0 hg5; have hP5 := hP4.gr0 hg5; have hgr5 := hgr4.trans hg5; have hd5 : Dice w5 p4 g := hd4.gr0 hg5; have k2 := hm5.bk.cells2; obtain ⟨y0, y1⟩ := hX5.cells2; have hy0 := hX5.frozen 0; have hy1 := hX5.frozen 1))
        all_goals
          rcases hS with ⟨hop, rfl, rfl, rfl, rfl, rfl⟩ | ⟨x, hop, rfl, rfl, rfl, hcap5, hsl5⟩
          · clear hop
            go_wp2
            go_roundw
            case rel =>
              obtain ⟨r1, r2, r3, r4, r5⟩ := rnd_no (w := w) (p2 := w.heap.size) hX5 hm5 hne hd5 (by omega) hP5 (by omega) hB1 hgr5 _ rfl
              exact ⟨j, l, A1, c1, T, by go_num, by omega, r1, r2, r3, r4, r5⟩
            case measure => simp [intOf]
          · have HOP := Lib.hid hop
            clear hop
            have HST := Lib.hid (Stp.ok (.set 3 v x (by omega) HOP.out hv0 hv1) hm5.ok (by omega) hm5.wf)
            have hz0 := hm5.bk.frozen 0
            have hz1 := hm5.bk.frozen 1
            obtain ⟨z0, z1⟩ := hm5.bk.cells2
            go_wp2
            go_roundw
            case rel =>
              obtain ⟨r1, r2, r3, r4, r5⟩ := rnd_ok (w := w) (p2 := w.heap.size) (m := l ++ [⟨3, v, x, plainA⟩]) (U := U5) (A2 := A5) (c2 := c5) hX5 hm5.bk hne (l.length + 1) HST.out.2.2 hsl5 hcap5 HST.out.1 HST.out.2.1 hd5 (by omega) hP5 (by omega) hB1 hgr5 _ rfl
              exact ⟨j, _, A5, c5, _, by go_num, by rw [HST.out.2.2]; omega, r1, r2, r3, r4, r5⟩
            case measure => simp [intOf]
      · go_wp2_with fail
        go_region_held3 (fun w' => w'.cell? ⟨p4, 0, none⟩ = some (.slice A1 l.length c1) ∧ w'.cell? ⟨p4, 1, none⟩ = some (.int .i64 T)) (first | exact k0 | exact k1 | exact k2 | exact k3 | go_keep)
          (first | (go_at_call_of 16 (Value.int IntKind.i64 2); refine (pick_any p4 g 2 _ (hd3.gr0 (Gr.refl _ _).drew) (by omega) (by omega)).mono ?_; rintro e w4 ⟨v, rfl, hv0, hv1, hd4, hg4⟩; have hm4 := (hm3.gr0 (Gr.refl _ _).drew).far HBG.out.drew (by omega) (by decide) hg4; have hX4 := hX3.drew.gr hg4 (by simp; omega); have hP4 := hP3.drew.gr hg4 (by simp; omega); have hgr4 : Gr [] w w4 := hgr3.drew.trans_new hg4 (fun x hx => .inr (by simp at hx; omega)); have k1 := hm4.bk.cells2) | (go_at_call_of 16 (Value.int IntKind.i64 9); refine (pick_any p4 g 9 _ hd4 (by omega) (by omega)).mono ?_; rintro e w4' ⟨v', rfl, hv0', hv1', hd4', hg4'⟩; obtain ⟨csg', hbg'⟩ := hd4.bk; have hm4' := hm4.far hbg' (by omega) (by decide) hg4'; have hX4' := hX4.gr hg4' (by simp; omega); have hP4' := hP4.gr hg4' (by simp; omega); have hgr4' : Gr [] w w4' := hgr4.trans_new hg4' (fun x hx => .inr (by simp at hx; omega)); have k2 := hm4'.bk.cells2; clear hbg') | (go_at_call 26; refine (rdo_ex A1 c1 l T _ _ _ _ ⟨_, hm4'.sl⟩ (by omega)).mono ?_; rintro e w5 ⟨a5, A5, c5, rfl, hcap5, hsl5, hg5⟩; have hm5 := hm4'.gr0 hg5; have hX5 := hX4'.gr0 hg5; have hP5 := hP4'.gr0 hg5; have hgr5 := hgr4'.trans hg5; have hd5 : Dice w5 p4 g := hd4'.gr0 hg5; have k3 := hm5.bk.cells2; obtain ⟨y0, y1⟩ := hX5.cells2; have hy0 := hX5.frozen 0; have hy1 := hX5.frozen 1))
        all_goals
          have HST := Lib.hid (Stp.ok (.plain a5) hm5.ok (by omega) hm5.wf)
          have hz0 := hm5.bk.frozen 0
          have hz1 := hm5.bk.frozen 1
          obtain ⟨z0, z1⟩ := hm5.bk.cells2
          go_wp2
          go_roundw
          case rel =>
            obtain ⟨r1, r2, r3, r4, r5⟩ := rnd_ok (w := w) (p2 := w.heap.size) (m := l ++ [⟨4, 0, 0, a5⟩]) (U := T) (A2 := A5) (c2 := c5) hX5 hm5.bk hne (l.length + 1) HST.out.2.2 hsl5 hcap5 HST.out.1 HST.out.2.1 hd5 (by omega) hP5 (by omega) hB1 hgr5 _ rfl
            exact ⟨j, _, A5, c5, _, by go_num, by rw [HST.out.2.2]; omega, r1, r2, r3, r4, r5⟩
          case measure => simp [intOf]
    · obtain ⟨z0, z1⟩ := hP2.cells2
      have hf0 := hP2.frozen 0
      have hf1 := hP2.frozen 1
      obtain rfl : k = 0 := by omega
      go_wp2
      have hC4 := (hP2.set_ 0 (.slice A1 l.length c1)).set_ 1 (.int .i64 T)
      have g1 := gr_two wr w.heap.size (.slice A1 l.length c1) (.int .i64 T)
      refine bodyPost_ret (results_cell_row rfl _ _ _ _ _ _ _ rfl hC4 Try.underlying26 rfl (by kernel_rfl)) rfl ⟨l, A1, c1, T, rfl, Sl.gr1 hm.sl hP2 (by decide) g1, hm.cap, hm.ok, hm.wf, by omega, hgr.trans_new g1 (by intro x hx; right; simp at hx; omega)⟩
end Go.Proofs.Ytpbelnbknnhgnaa
