/- The law FnSealBack: a seal is read back from its text. For every input. -/
import Derived.Test.YtbipicjijbnbbaaDoorHx27
import Derived.Test.YtbipicjijbnbbaaDoorSd
set_option linter.unusedVariables false
set_option linter.unusedSimpArgs false
namespace Go.Proofs.YtbipicjijbnbbaaDoor.Pure
open Go.RowKit Go.Proofs.YtbipicjijbnbbaaDoor.Hp Go.Proofs.YtbipicjijbnbbaaDoorW.PrintWords Go.Proofs.YtbipicjijbnbbaaDoor.Dr
theorem FnSealBack : laws_FnSealBack.Pure := by
  intro l0 _ _ w0
  refine Evs.rounds (g := fun k => laws_FnSealBack.f k l0) ?_
  unfold laws_FnSealBack.f
  refine Evs.ite (fun _ => Evs.now rfl) (fun _ => ?_)
  refine (Sd.draw_ev w0).bind ?_
  rintro ⟨key, kind, a, b, c, d, e⟩ _
  simp only [St.impl_text, Option.bind_some]
  refine (St.spec_text key kind a b c d e).bind ?_
  rintro _ rfl
  refine Evs.then_ (by first | rfl | trivial) ?_
  refine Evs.step (fun k => by simp only [laws_FnSealBack.j0]; rfl) (Evs.ite (fun _ => ?_) (fun h => ?_))
  · refine (St.spec_text key kind a b c d e).bind ?_
    rintro _ rfl
    exact Evs.now (by simp)
  · obtain ⟨o, ht⟩ := Sd.ok_of (by simpa using h)
    rw [ht]
    obtain ⟨r, hr, hR⟩ := Rw.impl_read (sealText key kind a b c d e) (Nat.le_trans (Sd.text_size o) (by decide))
    obtain rfl := Rw.Rd.unique hR (.inl ⟨key, kind, a, b, c, d, e, o, rfl, rfl⟩)
    rw [hr]
    simp only [Option.bind_some, beq_self_eq_true, Bool.and_self, if_true, Sl.impl_ok, o]
    exact Evs.now rfl
end Go.Proofs.YtbipicjijbnbbaaDoor.Pure
