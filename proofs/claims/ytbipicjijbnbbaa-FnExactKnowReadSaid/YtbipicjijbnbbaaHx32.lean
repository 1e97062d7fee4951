-- hp.py
import Derived.Test.YtbipicjijbnbbaaHx0
import Derived.Test.YtbipicjijbnbbaaHx8
namespace Go.Proofs.Ytbipicjijbnbbaa.Hp
open Go.RowKit Go.Proofs.YtbipicjijbnbbaaW.PrintWords Go.Proofs.YtbipicjijbnbbaaW.PrintLast Go.Proofs.YtbipicjijbnbbaaW.PrintMore
attribute [local go_sem] max2_int min2_int max_two min_two max_three min_three max_four min_four   -- for this text's walks alone
set_option linter.unusedVariables false
set_option linter.unusedSimpArgs false
-- squeezed by wip/tools/squeeze.py

/-! ### impl_ring_has: function 91 -/
/-- Block g is a ring: which keys one has. -/
structure Ring (w : World) (g : Nat) (bs : List Bool) : Prop where
  blk : w.heap[g]? = some (.cells (bs.map Value.bool).toArray 164 (0, 0))
  len : bs.length = 61
theorem Ring.below {w w' : World} {g : Nat} {bs : List Bool} (h : Ring w g bs) (hb : Below w.heap.size w w') : Ring w' g bs :=
  ⟨(hb.block g (Array.getElem?_eq_some_iff.1 h.blk).1).trans h.blk, h.len⟩
theorem Ring.cell {w : World} {g : Nat} {bs : List Bool} (h : Ring w g bs) (i : Nat) (hi : i < 61) : w.cell? ⟨g, i, none⟩ = some (.bool (bs.getD i false)) := by
  rw [blk_cell h.blk i]
  have hl : i < bs.length := by have := h.len; omega
  simp [List.getD_eq_getElem?_getD, List.getElem?_eq_getElem hl]
theorem Ring.frozen {w : World} {g : Nat} {bs : List Bool} (h : Ring w g bs) (i : Nat) : w.frozen? ⟨g, i, none⟩ = false := blk_frozen h.blk i
/-- Is a key there? -/
def ringHas (bs : List Bool) (key : Int) : Bool := decide (1 ≤ key ∧ key ≤ 60) && bs.getD key.toNat false
theorem within_is (n lo hi : Int) : impl_within.f n lo hi = some (decide (lo ≤ n ∧ n ≤ hi)) := by
  unfold impl_within.f
  split
  · simp; omega
  · simp; omega
set_option maxHeartbeats 8000000 in
set_option maxRecDepth 100000 in
theorem impl_ring_has.calls (g : Nat) (bs : List Bool) (key : Int) (w : World) (hR : Ring w g bs) :
    Calls Try.prog 91 #[.pointer (some ⟨g, 0, none⟩), .int .i64 key] w fun e w' => e = .returned (.bool (ringHas bs key)) ∧ Drawn0 w w' := by
  by_cases h : 1 ≤ key ∧ key ≤ 60
  · have HW := Aside0.mk ((within_is key 1 60).trans (by rw [decide_eq_true h]))
    have HH := Aside0.mk (show ringHas bs key = bs.getD key.toNat false by unfold ringHas; rw [decide_eq_true h]; rfl)
    have hc := hR.cell key.toNat (by omega)
    have h1 : 0 ≤ key := by omega
    have h2 : key < 61 := by omega
    clear hR h
    go_enter Try.func91, Try.ntmps91
    go_wp2_with (first | (go_at_call 72; refine (impl_within.calls _ _ _ true _ HW.out).mono ?_; rintro e w1 ⟨rfl, hd⟩; obtain ⟨m, rfl⟩ := hd.out; clear hd))
    go_ret
    exact ⟨by rw [HH.out]; simp, ⟨⟨m, rfl⟩⟩⟩
  · have HW := Aside0.mk ((within_is key 1 60).trans (by rw [decide_eq_false h]))
    have HH := Aside0.mk (show ringHas bs key = false by unfold ringHas; rw [decide_eq_false h]; rfl)
    clear hR h
    go_enter Try.func91, Try.ntmps91
    go_wp2_with (first | (go_at_call 72; refine (impl_within.calls _ _ _ false _ HW.out).mono ?_; rintro e w1 ⟨rfl, hd⟩))
    go_ret
    exact ⟨by rw [HH.out]; rfl, hd⟩

end Go.Proofs.Ytbipicjijbnbbaa.Hp
