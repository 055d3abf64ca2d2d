/- sorted, Dangling at the sanity heap. -/
import Derived.Test.YtiamdekgpombdaaRf
import Derived.Test.YtiamdekgpombdaaShelf
import Derived.Maps.RangeWalk
namespace Go.Proofs.Ytiamdekgpombdaa
open Go.RowKit Go.Maps Go.Sort Go.Shelf

/-- slices.Sort's two contracts at this dump, at the fence that asks nothing. -/
theorem Try.sortsA (m : Nat) : AnyZI.SortsIn Try.prog Try.sortedA_ren Fence.wide m :=
  ⟨fun blk off cap ss W hH hblk hsz => callsIn_wide.2 (AnyM.slices_Sort_int Try.sortA blk off cap ss W hH hblk hsz),
   fun p cap W => callsIn_wide.2 (AnyM.slices_Sort_int_none Try.sortA p cap W)⟩

set_option maxHeartbeats 1000000 in
theorem sorted_any (b nn : Nat) (D0 : DataW Unit) (R : Value → Option (DataW Unit × List MemPlace)) (w : World) (hown : w.ownsMap Try.prog 2 R b nn D0) (hmax : Maps.size D0 ≤ maxLen) (hbytes : Maps.size D0 * 8 ≤ 140737488355328) :
    Calls Try.prog 15 #[.map (some b)] w fun e w' => ∃ (v : Value) (ss : List Int), e = .returned v ∧ ss.Perm (intKeys D0) ∧
      w'.ownsRow w.heap.size 2 1 v ss.length ((ss.mergeSort (fun x y => decide (x ≤ y))).map encZ) ∧ (v = .slice none 0 0 ↔ ss = []) ∧ Below w.heap.size w w' := by
  refine (callsIn_wide (n := 6)).1 ?_
  have hbl := hown.lt
  have hseq : SeqGives Fence.wide 2 Try.prog 23 #[.pointer (some ⟨w.heap.size, 0, none⟩)] encZ (fun ss => ss.Perm (intKeys D0)) (Maps.size D0) (w.alloc (.cells #[.map (some b)] 45)) :=
    AnyZI.keys_gives (ρ := Try.keysA_ren) { Try.keysA with } Fence.wide _ trivial rfl (by omega) w.heap.size b nn D0 _ (by simp) (by simp) (by
      obtain ⟨es, clock, hb, Ft, hs, hD⟩ := hown
      exact ⟨es, clock, (Below.heap_alloc _ _ b hbl).trans hb, Ft, hs, hD⟩)
  have cK : ∀ mb W, CallsIn Fence.wide 5 Try.prog 19 #[.map mb] W fun e w' => e = .returned (.func (.func 23) #[] #[.pointer (some ⟨W.heap.size, 0, none⟩)]) ∧ w' = W.alloc (.cells #[.map mb] 45) := fun mb W => AnyZI.keys_in Try.keysA Fence.wide 5 trivial rfl mb W
  have cS := AnyZI.sorted_in Try.sortedA Fence.wide 5 trivial trivial trivial trivial rfl (by omega) (Try.sortsA _) (enters_of Try.func22 (by kernel_rfl) rfl) 23 #[.pointer (some ⟨w.heap.size, 0, none⟩)] trivial (enters_of Try.func23 (by kernel_rfl) rfl) _ _ hmax hbytes _ hseq
  change CallsIn _ _ Try.prog 18 _ _ _ at cS
  have hfK : Fence.wide.fn 19 := trivial
  have hfS : Fence.wide.fn 18 := trivial
  refine callsIn_of_wp Try.func15 rfl trivial ?_ rfl
  simp only [Try.ntmps15, List.size_toArray, List.length_cons, List.length_nil, Nat.reduceAdd, Nat.reduceSub, Array.replicate_succ, Array.replicate_zero, List.push_toArray, List.append_toArray, List.nil_append, List.cons_append]
  gi_wp2_with (first
    | (gi_at_call 19; refine (cK _ _).mono ?_; rintro e w' ⟨rfl, rfl⟩)
    | (gi_at_call 18; refine cS.mono ?_; rintro e w' ⟨v, ss, rfl, hS, hrow, hnil, hb⟩))
  go_ret
  exact ⟨v, ss, rfl, hS, ownsRow_base_a hrow (by simp), hnil, ((Below.refl _ w).alloc (Nat.le_refl _) _).trans (hb.mono (by simp))⟩

theorem law_key : Keyed Try.prog 2 := int_keyed Try.underlying2
def there (l : List Ob) (k : Lit) (_ : DataW Unit) : Bool := match k with
  | .int _ k => (hget l k).isSome
  | _ => false
theorem Gr.grown0 {w w' : World} (h : Gr [] w w') : w.grownBy w' none := h.to_grown0 none
theorem Gr.of_grown {w w' : World} {M : Nat} (h : w.grownBy w' (some M)) : Gr [M] w w' := (Gr.refl [M] w).grown h (fun k hk => by injection hk with hk; subst hk; exact .inl (by simp))

set_option maxHeartbeats 1000000 in
theorem dang_one (b off fc hc : Nat) (fA : Option Addr) (w : World) (hO : Os w (some ⟨b, off, none⟩) (oneH fA fc)) (hR : Rok w (oneH fA fc)) :
    Calls Try.prog 10 #[.agg #[.slice (some ⟨b, off, none⟩) 1 hc]] w fun e w' => ∃ (A : Option Addr) (c : Nat), e = .returned (.slice A 1 c) ∧ Sl w' 2 1 A 1 [.int .i64 9] ∧ Gr [] w w' := by
  have hB := Bk.new w 42 #[.slice (some ⟨b, off, none⟩) 1 hc]
  have hg0 := (Gr.refl [] w).alloc (.cells #[.slice (some ⟨b, off, none⟩) 1 hc] 42)
  have hb0 := hB.cell 0
  go_enter Try.func10, Try.ntmps10
  go_wp2_with fail
  go_at_call 11
  refine (refs_one b off fc hc fA _ (hO.gr0 hg0) (hR.gr0 hg0)).mono ?_
  rintro e w2 ⟨M, n, rfl, hMs, hn, hM, hg2⟩
  have hMw : w.heap.size < M := by simp at hMs; omega
  have eg : ∀ args w, (callFunc 13 args).run Try.prog w = .ok (.enter 13 args) w := enters_of Try.func13 (by kernel_rfl) rfl
  have hcon : Calls Try.prog 12 #[.map (some M), .func (.func 13) #[] #[.pointer (some ⟨w.heap.size, 0, none⟩)]] w2 (fun e w' => e = .returned (.tuple #[]) ∧ w'.ownsMap Try.prog 2 (plainElem Try.prog 4) M n (Lib.deleteFuncD (there (obs (oneH fA fc))) D1) ∧ w2.grownBy w' (some M)) :=
    AnyDf.maps_DeleteFunc Try.delN law_key (plainElem Try.prog 4) (there (obs (oneH fA fc))) 13 #[.pointer (some ⟨w.heap.size, 0, none⟩)] M n D1 w2 eg hM (fun W key val kl yd yp hgW hk _ => by
      obtain ⟨x, rfl, rfl, _⟩ := Maps.keyOf_int_inv Try.underlying2 hk
      have hgA : Gr [] (w.alloc (.cells #[.slice (some ⟨b, off, none⟩) 1 hc] 42)) W := hg2.trans_new (Gr.of_grown hgW) (by simpa using hMs)
      have hgB := hg0.trans hgA
      exact (closure_any (some ⟨b, off, none⟩) hc (oneH fA fc) x val w.heap.size W (hB.gr0 hgA) (hO.gr0 hgB) (hR.gr0 hgB) (Nat.le_of_ble_eq_true rfl)).mono fun e w' h => ⟨h.1, h.2.grown0⟩)
  have hD : Lib.deleteFuncD (there (obs (oneH fA fc))) D1 = D1 := by rfl
  rw [hD] at hcon
  clear hM hO hR hD
  go_wp2_with fail
  go_at_call 12
  refine hcon.mono ?_
  rintro e w3 ⟨rfl, hM3, hg3⟩
  have hgC : Gr [] w w3 := (hg0.trans hg2).trans_new (Gr.of_grown hg3) (by simp; omega)
  clear hcon
  go_wp2_with fail
  go_at_call 15
  refine (sorted_any M n D1 (plainElem Try.prog 4) w3 hM3 (by decide) (by decide)).mono ?_
  rintro e w4 ⟨v, ss, rfl, hS, hrow, _, hbe⟩
  have hss : ss = [9] := List.perm_singleton.1 hS
  subst hss
  rw [show ([9] : List Int).mergeSort (fun x y => decide (x ≤ y)) = [9] by simp] at hrow
  obtain ⟨A, c, rfl⟩ : ∃ A c, v = .slice A 1 c := by
    rcases hrow.2 with ⟨_, h0⟩ | ⟨g, cap, cur, hv, _⟩
    · simp at h0
    · exact ⟨_, _, hv⟩
  go_wp2
  go_ret
  exact ⟨A, c, rfl, Sl.of_own hrow, hgC.trans (Gr.of_below hbe [])⟩

set_option maxHeartbeats 1000000 in
theorem sane_any (w : World) : Calls Try.prog 5 #[] w fun e w' => e = .returned (.bool true) ∧ Gr [] w w' := by
  have hG : Gr [] w ((w.alloc (.cells #[.bool true, .int .i64 9] 36)).alloc (.cells #[.int .i64 1, .slice (some ⟨w.heap.size, 0, none⟩) 1 1] 39)) := ((Gr.refl [] w).alloc _).alloc _
  have hA0 : Bk ((w.alloc (.cells #[.bool true, .int .i64 9] 36)).alloc (.cells #[.int .i64 1, .slice (some ⟨w.heap.size, 0, none⟩) 1 1] 39)) w.heap.size 36 #[.bool true, .int .i64 9] := (Bk.new w _ _).alloc _
  have hA1 : Bk ((w.alloc (.cells #[.bool true, .int .i64 9] 36)).alloc (.cells #[.int .i64 1, .slice (some ⟨w.heap.size, 0, none⟩) 1 1] 39)) (w.heap.size + 1) 39 #[.int .i64 1, .slice (some ⟨w.heap.size, 0, none⟩) 1 1] := by simpa using Bk.new (w.alloc (.cells #[.bool true, .int .i64 9] 36)) 39 #[.int .i64 1, .slice (some ⟨w.heap.size, 0, none⟩) 1 1]
  have hO : Os ((w.alloc (.cells #[.bool true, .int .i64 9] 36)).alloc (.cells #[.int .i64 1, .slice (some ⟨w.heap.size, 0, none⟩) 1 1] 39)) (some ⟨w.heap.size + 1, 0, none⟩) (oneH (some ⟨w.heap.size, 0, none⟩) 1) := bk_os (r := ⟨⟨1, [⟨true, 9⟩]⟩, some ⟨w.heap.size, 0, none⟩, 1⟩) hA1
  have hR : Rok ((w.alloc (.cells #[.bool true, .int .i64 9] 36)).alloc (.cells #[.int .i64 1, .slice (some ⟨w.heap.size, 0, none⟩) 1 1] 39)) (oneH (some ⟨w.heap.size, 0, none⟩) 1) := by
    intro r hr
    have : r = ⟨⟨1, [⟨true, 9⟩]⟩, some ⟨w.heap.size, 0, none⟩, 1⟩ := by simpa [oneH] using hr
    subst this
    exact ⟨bk_vs (v := ⟨true, 9⟩) hA0, (by intro v hv; simp at hv; subst hv; rfl), Nat.le_of_ble_eq_true rfl, rfl⟩
  have hI := id_any 0 0 w
  rw [show idR 0 0 = 1048576 by decide, show idE 0 0 = 0 by decide] at hI
  have hS := split_any 1048579 w (by omega)
  rw [show spR 1048579 = 0 by decide, show spN 1048579 = 3 by decide, show decide (¬ (1048579 : Int) < 1048576) = true by decide] at hS
  go_enter Try.func5, Try.ntmps5
  go_wp2_with fail
  go_at_call 6
  refine hI.mono ?_
  rintro e w1 ⟨rfl, rfl⟩
  go_wp2_with fail
  go_at_call 8
  refine hS.mono ?_
  rintro e w1 ⟨rfl, rfl⟩
  clear hI hS
  go_wp2_with fail
  go_at_call 10
  refine (dang_one (w.heap.size + 1) 0 1 1 (some ⟨w.heap.size, 0, none⟩) _ hO hR).mono ?_
  rintro e w2 ⟨A, c, rfl, hsl, hg2⟩
  have hgF := hG.trans hg2
  obtain ⟨b4, off4, rfl, hi⟩ := hsl.cell (by omega)
  have hi0 := hi 0 _ rfl
  simp only [Nat.add_zero] at hi0
  clear hi hsl hO hR hA0 hA1
  go_wp2
  go_ret
  exact ⟨rfl, hgF⟩
end Go.Proofs.Ytiamdekgpombdaa
