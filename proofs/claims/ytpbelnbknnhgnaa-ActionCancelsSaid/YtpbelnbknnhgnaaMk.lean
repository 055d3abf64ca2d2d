/- made. -/
import Derived.Test.YtpbelnbknnhgnaaSn
namespace Go.Proofs.Ytpbelnbknnhgnaa
open Go.RowKit

set_option maxHeartbeats 400000 in
theorem millnew_any (A : Option Addr) (n c : Nat) (zs : List Int) (w : World) (e5 : TypeId) (h : Sl w e5 1 A n (zs.map (.int .u8))) (hz : ∀ j, 0 ≤ zs.getD j 0 ∧ zs.getD j 0 < 256) (hnc : n ≤ c) (hn : n ≤ 9223372036854775807) :
    Calls Try.prog 14 #[.slice A n c] w fun e w' => ∃ g, e = .returned (.pointer (some ⟨g, 0, none⟩)) ∧ w.heap.size ≤ g ∧ Dice w' w'.heap.size g ∧ Gr [] w w' := by
  go_enter Try.func14, Try.ntmps14
  go_wp2_with (go_at_call 34; refine (new_any A n c zs _ e5 h hz hnc hn).mono ?_; rintro e w' ⟨g, rfl, hg, hd, hgr⟩)
  go_ret
  exact ⟨g, rfl, hg, hd, hgr⟩

def wfl (l : List Dd) : Prop := ∀ d ∈ l, wf64 d.ticket ∧ wf64 d.value
theorem wfl_nil : wfl [] := fun _ h => by cases h
theorem wfl_snoc {l : List Dd} (h : wfl l) (d : Dd) (h1 : wf64 d.ticket) (h2 : wf64 d.value) : wfl (l ++ [d]) := fun x hx => by
  rcases List.mem_append.1 hx with hx | hx
  · exact h x hx
  · have : x = d := by simpa using hx
    subst this
    exact ⟨h1, h2⟩
/-- What was done outside, valid, in block p (its ticket count too). -/
structure Mo1 (w : World) (p : Nat) (l : List Dd) (A : Option Addr) (c : Nat) (T : Int) : Prop where
  bk : Bk w p 26 #[.slice A l.length c, .int .i64 T]
  sl : Sl w 32 6 A l.length (dcells l)
  cap : l.length ≤ c
  ok : ∃ op, scan l = some (T, op)
  wf : wfl l
theorem Mo1.far {w w' : World} {p g : Nat} {t : TypeId} {cs : Array Value} {l : List Dd} {A : Option Addr} {c : Nat} {T : Int} (h : Mo1 w p l A c T) (hk : Bk w g t cs) (h1 : g ≠ p) (h2 : 32 ≠ t) (hg : Gr [g] w w') : Mo1 w' p l A c T :=
  ⟨h.bk.gr hg (by simpa using fun e => h1 e.symm), Sl.gr1 h.sl hk h2 hg, h.cap, h.ok, h.wf⟩
theorem Mo1.gr0 {w w' : World} {p : Nat} {l : List Dd} {A : Option Addr} {c : Nat} {T : Int} (h : Mo1 w p l A c T) (hg : Gr [] w w') : Mo1 w' p l A c T :=
  ⟨h.bk.gr0 hg, Sl.gr0 h.sl hg, h.cap, h.ok, h.wf⟩
theorem Mo1.bd {w : World} {p : Nat} {l : List Dd} {A : Option Addr} {c : Nat} {T : Int} (h : Mo1 w p l A c T) : 0 ≤ T ∧ T ≤ l.length := by
  obtain ⟨op, hs⟩ := h.ok
  have K := scan_known l.length l rfl hs
  exact ⟨K.nonneg, K.le⟩
/-- One step of made: what x may be. -/
inductive Stp (l : List Dd) (T : Int) : List Dd → Int → Prop
  | res (v : Int) (h : 0 ≤ v) (h2 : v < 9) : Stp l T (l ++ [⟨1, T + 1, v, plainA⟩]) (T + 1)
  | set (k t v : Int) (hk : k = 2 ∨ k = 3) (h : opn l t = some v) (h1 : 0 ≤ t) (h2 : t < 8) : Stp l T (l ++ [⟨k, t, v, plainA⟩]) T
  | plain (a : Ac) : Stp l T (l ++ [⟨4, 0, 0, a⟩]) T
theorem Stp.ok {l m : List Dd} {T U : Int} (h : Stp l T m U) (ho : ∃ op, scan l = some (T, op)) (hT : T ≤ 1000) (hw : wfl l) : (∃ op, scan m = some (U, op)) ∧ wfl m ∧ m.length = l.length + 1 := by
  obtain ⟨op, hs⟩ := ho
  have K := scan_known l.length l rfl hs
  have h0 := K.nonneg
  cases h with
  | res v h h2 => exact ⟨⟨_, scan_reserve hs v⟩, wfl_snoc hw _ (WalkArith.wf_i64 (by show _ ∧ _; constructor <;> (simp only []; omega))) (WalkArith.wf_i64 (by constructor <;> (simp only []; omega))), by simp⟩
  | set k t v hk h h1 h2 =>
    have ht : op t = some v := (opn_eq hs t).trans h
    refine ⟨⟨_, scan_settle hs ht hk⟩, wfl_snoc hw _ (WalkArith.wf_i64 (by constructor <;> (simp only []; omega))) ?_, by simp⟩
    have hr : rsv l t = some v := by
      unfold opn at h
      split at h
      · cases h
      · exact h
    unfold rsv at hr
    cases hf : l.find? (fun d => d.kind == 1 && d.ticket == t) with
    | none => rw [hf] at hr; cases hr
    | some d =>
      rw [hf] at hr
      have : d.value = v := by simpa using hr
      show wf64 v
      rw [← this]
      exact (hw d (List.mem_of_find?_eq_some hf)).2
  | plain a => exact ⟨⟨op, scan_do hs a⟩, wfl_snoc hw _ (WalkArith.wf_i64 (by simp)) (WalkArith.wf_i64 (by simp)), by simp⟩
end Go.Proofs.Ytpbelnbknnhgnaa
