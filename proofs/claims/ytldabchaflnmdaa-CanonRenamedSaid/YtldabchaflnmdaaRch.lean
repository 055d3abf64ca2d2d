/- Reach: the identifiers of what can be reached. -/
import Derived.Test.YtldabchaflnmdaaRen
namespace Go.Proofs.Ytldabchaflnmdaa
open Go.RowKit

theorem Try.infoId : (Try.prog.info? 2).map (fun i => (i.zero, i.size, i.bytes)) = some (some (.int .i64 0), 1, 8) := by kernel_rfl
def ids (l : List Ob) : List Value := l.map fun o => .int .i64 o.id
theorem ids_take {l : List Ob} {k : Nat} (hk : k < l.length) : ids (l.take (k + 1)) = ids (l.take k) ++ [.int .i64 l[k].id] := by
  unfold ids; rw [List.take_succ_eq_append_getElem hk, List.map_append]; rfl

set_option maxHeartbeats 1000000 in
theorem reach_any (hA : Option Addr) (hc : Nat) (h : List Rw) (A : Option Addr) (c : Nat) (l : List Vl) (w : World) (hOs : Os w hA h) (hR : Rok w h)
    (hl : Vs w A l) (hV : VW l) (hn1 : l.length ≤ 1000000) (hn2 : h.length ≤ 1000000) :
    Calls Try.prog 14 #[.agg #[.slice hA h.length hc], .slice A l.length c] w fun e w' => ∃ (A' : Option Addr) (c' : Nat), e = .returned (.slice A' (hfind (obs h) l).length c') ∧
      Sl w' 2 1 A' (hfind (obs h) l).length (ids (hfind (obs h) l)) ∧ Gr [] w w' := by
  obtain ⟨i0, hi0, hz0, hz1, hz2⟩ := info_parts Try.infoId
  have hfl : (hfind (obs h) l).length ≤ 1000000 := by have := (Found.find (obs h) l).length; have e : (obs h).length = h.length := List.length_map _; omega
  have hb1 : Bk (w.alloc (.cells #[.slice hA h.length hc] 28)) w.heap.size 28 #[.slice hA h.length hc] := Bk.new w _ _
  have h0 : (w.alloc (.cells #[.slice hA h.length hc] 28)).cell? ⟨w.heap.size, 0, none⟩ = some (.slice hA h.length hc) := hb1.cell 0
  generalize hfd : hfind (obs h) l = fd at *
  go_enter Try.func14, Try.ntmps14
  go_wp2_with (go_at_call 19; refine (find_any hA hc h A c l _ (hOs.alloc _) (hR.alloc _) (hl.alloc _) hV hn1 hn2).mono ?_; rintro e w1 ⟨F, rfl, hfi, hgr⟩; rw [hfd] at hfi; obtain ⟨Mb, rA, rc, rs, hb, hbF, hbM, hmp, hown, hrok, hobs⟩ := hfi; obtain ⟨hF0, hF1, hF2⟩ := hb.cells3)
  have hg1 := ((Gr.refl [] w).alloc (.cells #[.slice hA h.length hc] 28)).trans hgr
  have HRS := Lib.hid (show rs.length = fd.length by rw [← hobs]; simp [obs])
  have hrl : rs.length ≤ 1000000 := by rw [HRS.out]; omega
  go_loopw [5, 15] (fun o i w' => ∃ (k : Nat) (A' : Option Addr) (c' : Nat), k ≤ rs.length ∧ o = .slice A' k c' ∧ i = .int .i64 k ∧ w'.ownsRow w.heap.size 2 1 (.slice A' k c') k (ids (fd.take k)) ∧ Gr [] w w' ∧ Os w' rA rs) (fun _ i _ => rs.length - (intOf i).toNat)
  case atStart => exact ⟨0, none, 0, Nat.zero_le _, rfl, rfl, own_nil _ _ _ _, hg1, Sl.of_own hown⟩
  case round =>
    obtain ⟨k, A1, c1, hk, rfl, rfl, hownI, hgr1, hos⟩ := hrel
    by_cases hkr : k < rs.length
    · obtain ⟨b, off, rfl, hc0, hc1⟩ := hos.at_ hkr
      have HK := Lib.hid (ids_take (l := fd) (k := k) (by rw [← HRS.out]; exact hkr))
      have HO := Lib.hid (show rs[k].o = fd[k]'(by rw [← HRS.out]; exact hkr) by subst hobs; simp [obs])
      have HQ := Lib.hid (show ids (fd.take (k + 1)) = ids (fd.take k) ++ [.int .i64 rs[k].o.id] by rw [HK.out, HO.out])
      clear HK HO
      generalize rs[k] = r at *
      obtain ⟨⟨oid, ofs⟩, gA, gc⟩ := r
      simp only at hc0 hc1 HQ
      have hbs : w.heap.size ≤ wr.heap.size := hgr1.size
      have hownA := own_gr0 hownI (((Gr.refl [] wr).alloc (.cells #[.int .i64 oid, .slice gA ofs.length gc] 43)).alloc (.cells #[.int .i64 oid] 2))
      have hslA : Sl ((wr.alloc (.cells #[.int .i64 oid, .slice gA ofs.length gc] 43)).alloc (.cells #[.int .i64 oid] 2)) 2 1 (some ⟨wr.heap.size + 1, 0, none⟩) 1 [.int .i64 oid] := by
        simpa using Sl.new (wr.alloc (.cells #[.int .i64 oid, .slice gA ofs.length gc] 43)) 2 1 #[.int .i64 oid] 1 _ rfl rfl
      go_wp2_with (at_builtin; refine wpList_app _ rfl (.tmp 19) (.tmp 22) 39 rfl w.heap.size 2 i0 _ 1 8 Try.underlying39 hi0 hz0 hz1 hz2 rfl (by decide) (by decide) A1 k c1 _ rfl hownA _ 1 1 _ rfl hslA (by simp [Value.oneCell']) (by omega) (by simp; omega) ?_; intro A2 c2 w2 hown2 happ2)
      go_roundw
      case rel => exact ⟨k + 1, A2, c2, by omega, rfl, by go_num, by rw [HQ.out]; exact hown2, happ2.gr [] w (Nat.le_refl _) ((hgr1.alloc _).alloc _), happ2.sl ((hos.alloc _).alloc _) (by decide)⟩
      case measure => simp [intOf]; omega
    · have hkn : k = rs.length := by omega
      subst hkn
      have HT := Lib.hid (show fd.take rs.length = fd by rw [HRS.out, List.take_length])
      go_wp2
      go_ret
      refine ⟨A1, c1, ret_slice HRS.out, ?_, hgr1⟩
      rw [HT.out] at hownI
      rw [← HRS.out]
      exact Sl.of_own hownI
end Go.Proofs.Ytldabchaflnmdaa
