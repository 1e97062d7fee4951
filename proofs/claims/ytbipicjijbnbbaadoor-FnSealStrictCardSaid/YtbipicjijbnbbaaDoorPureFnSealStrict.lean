/- The law FnSealStrict: a seal is written in one way. For every input. -/
import Derived.Test.YtbipicjijbnbbaaDoorHx26
import Derived.Test.YtbipicjijbnbbaaDoorHx25
import Derived.Test.YtbipicjijbnbbaaDoorHx24
import Derived.Test.YtbipicjijbnbbaaDoorDr
import Derived.Test.YtbipicjijbnbbaaDoorRs
set_option linter.unusedVariables false
set_option linter.unusedSimpArgs false
namespace Go.Proofs.YtbipicjijbnbbaaDoor.Pure
open Go.RowKit Go.Proofs.YtbipicjijbnbbaaDoor.Hp Go.Proofs.YtbipicjijbnbbaaDoorW.PrintWords Go.Proofs.YtbipicjijbnbbaaDoor.Dr
theorem FnSealStrict.txt_size (key kind a b c d e : Int) : (St.txt key kind a b c d e).size ≤ 60 := by
  unfold St.txt
  split
  · rename_i o
    exact Rw.size_text o
  · exact Nat.zero_le _
theorem FnSealStrict.of_ev {b : List Int} (hb : Bs b) {p : Int} (hp : 0 ≤ p) (hp' : p ≤ 1000000) : Evs (fun k => spec_l6Rd_of.f k b p [(⟨#[48]⟩ : ByteArray), (⟨#[32]⟩ : ByteArray), (⟨#[10]⟩ : ByteArray), (⟨#[57]⟩ : ByteArray), (⟨#[120]⟩ : ByteArray), (⟨#[32, 49]⟩ : ByteArray)]) (fun r => r.1.size ≤ 2) := by
  unfold spec_l6Rd_of.f
  refine (pick_ev hb hp hp' (by simp) (by simp)).bind ?_
  rintro ⟨i, q⟩ ⟨⟨h0, h1⟩, _⟩
  dsimp only at h0 h1 ⊢
  refine Evs.then_ h0 (Evs.then_ h1 (Evs.now ?_))
  have hc : i = 0 ∨ i = 1 ∨ i = 2 ∨ i = 3 ∨ i = 4 ∨ i = 5 := by simp at h1; omega
  show (rdOf ByteArray.empty _ i).size ≤ 2
  clear h0 h1
  rcases hc with rfl | rfl | rfl | rfl | rfl | rfl <;> decide
theorem FnSealStrict.draw {l : List Int} (h : ∀ x ∈ l, (Lit.int .u8 x).wf = true) : Evs (fun k => spec_DrawSealRead.f k l) (fun t => t.size ≤ 1048576) := by
  unfold spec_DrawSealRead.f
  obtain ⟨b, hb, hB⟩ := open_ev h
  rw [hb]
  simp only [Option.bind_some]
  refine (seal_ev hB (by omega) (by omega)).bind ?_
  rintro ⟨s1, s2, s3, s4, s5, s6, s7, p1⟩ hp
  have hp0 : 0 ≤ p1 ∧ p1 ≤ 100 := by have := hp; simp only [On] at this; omega
  refine (St.spec_text s1 s2 s3 s4 s5 s6 s7).bind ?_
  rintro _ rfl
  have hz := FnSealStrict.txt_size s1 s2 s3 s4 s5 s6 s7
  generalize St.txt s1 s2 s3 s4 s5 s6 s7 = t at hz
  dsimp only
  rw [w64 (x := (t.size : Int) + 1) (by omega) (by omega)]
  refine (pick_ev hB (by omega) (by omega) (by omega) (by omega)).bind ?_
  rintro ⟨x, q⟩ ⟨⟨h0, h1⟩, hq⟩
  dsimp only at h0 h1 hq ⊢
  refine (pick_ev hB (by omega) (by omega) (by omega) (by omega)).bind ?_
  rintro ⟨y, q2⟩ ⟨⟨g0, g1⟩, hq2⟩
  dsimp only at g0 g1 hq2 ⊢
  refine Evs.ite (fun _ => Evs.then_ h0 (Evs.then_ (by omega) (Evs.now ?_))) (fun _ => Evs.ite (fun _ => Evs.then_ h0 (Evs.then_ (by omega) ?_)) (fun _ => Evs.now (by omega)))
  · rw [ByteArray.size_extract]; omega
  · refine (FnSealStrict.of_ev hB (by omega) (by omega)).bind ?_
    rintro ⟨z, q3⟩ hz2
    dsimp only at hz2 ⊢
    refine Evs.then_ (by rw [ByteArray.size_extract]; omega) (Evs.then_ (by rw [ByteArray.size_append, ByteArray.size_extract, ByteArray.size_extract]; omega) (Evs.now ?_))
    rw [ByteArray.size_append, ByteArray.size_append, ByteArray.size_extract, ByteArray.size_extract]
    omega
theorem FnSealStrict : laws_FnSealStrict.Pure := by
  intro l0 _ _ w0
  refine Evs.rounds (g := fun k => laws_FnSealStrict.f k l0) ?_
  unfold laws_FnSealStrict.f
  refine Evs.ite (fun _ => Evs.now rfl) (fun _ => ?_)
  refine (FnSealStrict.draw w0).bind ?_
  intro t ht
  refine (Rw.spec_read t).bind ?_
  intro q hq
  obtain ⟨r, hr, hR⟩ := Rw.impl_read t ht
  obtain rfl := Rw.Rd.unique hR hq
  rw [hr]
  simp only [Option.bind_some, bne_self_eq_false, Bool.false_eq_true, if_false, beq_self_eq_true, Bool.not_true, Bool.or_self]
  refine Evs.step (fun k => by simp only [laws_FnSealStrict.j0]; rfl) ?_
  rcases hR with ⟨key, kind, a, b, c, d, e, o, rfl, rfl⟩ | ⟨_, rfl⟩
  · refine Evs.else_ (by simp) ?_
    simp only [Sl.impl_ok, o, Option.bind_some]
    refine Evs.then_ (by first | rfl | trivial) ?_
    simp only [St.impl_text, Option.bind_some]
    refine Evs.now ?_
    unfold St.txt
    rw [if_pos o]
    simp
  · exact Evs.then_ (by simp) (Evs.then_ (by simp) (Evs.now (by simp)))
end Go.Proofs.YtbipicjijbnbbaaDoor.Pure
