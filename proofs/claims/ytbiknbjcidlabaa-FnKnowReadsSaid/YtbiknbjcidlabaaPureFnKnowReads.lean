/- The law FnKnowReads: what is in a seal that one reads one comes to; and with those keys one reads the same. For every input. -/
import Derived.Test.YtbiknbjcidlabaaHx55
import Derived.Test.YtbiknbjcidlabaaDe
import Derived.Test.YtbiknbjcidlabaaRd
import Derived.Test.YtbiknbjcidlabaaLb
set_option linter.unusedVariables false
set_option linter.unusedSimpArgs false
namespace Go.Proofs.Ytbiknbjcidlabaa.Pure
open Go.RowKit Go.Proofs.Ytbiknbjcidlabaa.Hp Go.Proofs.YtbiknbjcidlabaaW.PrintWords Go.Proofs.Ytbiknbjcidlabaa.Dr Go.Proofs.Ytbiknbjcidlabaa.Kn Go.Proofs.Ytbiknbjcidlabaa.Rd
theorem FnKnowReads.loop (keys : List Int) (ss : List S) (hn : ss.length ≤ 20) : ∀ (d i : Nat), i + d = (readOf (ringF keys ss) ss).length →
    Evs (fun k => laws_FnKnowReads.l0 k ss (readOf (ringF keys ss) ss) (keysOf (ringF keys ss)) (i : Int)) (· = true) := by
  have hlen := keys_len keys ss
  have hrl := read_len (ringF keys ss) ss
  intro d
  induction d with
  | zero =>
    intro i hi
    refine Evs.step (fun k => by simp only [laws_FnKnowReads.l0, fun keys => knowRead_some keys ss (by omega), Option.bind_some]; rfl) (Evs.else_ (by omega) ?_)
    rw [can_again]
    refine (Lb.seals_ev _ (by omega)).bind ?_
    rintro _ rfl
    exact Evs.now rfl
  | succ d ih =>
    intro i hi
    have hlt : i < (readOf (ringF keys ss) ss).length := by omega
    refine Evs.step (fun k => by simp only [laws_FnKnowReads.l0]; rfl) (Evs.then_ (by omega) (Evs.then_ (by omega) ?_))
    rw [next_is hlt (by omega), rd_is _ i hlt, hold_is]
    have hm := List.getElem_mem hlt
    have ih' := ih (i + 1) (by omega)
    generalize (readOf (ringF keys ss) ss)[i] = s at hm ⊢
    simp only [Option.bind_some]
    refine Evs.ite (fun h0 => ?_) (fun _ => ih')
    refine (Lb.has_ev _ _ (by omega)).bind ?_
    rintro _ rfl
    refine Evs.then_ ?_ ih'
    unfold readOf at hm
    rw [List.mem_filter, Bool.and_eq_true] at hm
    rw [decide_eq_true_eq]
    exact mem_keysOf.2 (.got hm.1 (by omega) ((has_can _).1 hm.2.2))
theorem FnKnowReads : laws_FnKnowReads.Pure := by
  intro l0 _ _ w0
  refine Evs.rounds (g := fun k => laws_FnKnowReads.f k l0) ?_
  unfold laws_FnKnowReads.f
  refine Evs.ite (fun _ => Evs.now rfl) (fun _ => ?_)
  refine (Dm.drawKnowRead_ev w0).bind ?_
  rintro ⟨keys, ss⟩ ⟨h1, h2⟩
  dsimp only at h1 h2 ⊢
  have hlen := read_len (ringF keys ss) ss
  simp only [fun keys => knowRead_some keys ss (by omega), impl_KnowKeys.f, Option.bind_some]
  refine (knowRead_ev keys ss (by omega) (by omega)).bind ?_
  rintro _ rfl
  refine (Lb.seals_ev _ (by omega)).bind ?_
  rintro _ rfl
  exact Evs.then_ rfl (FnKnowReads.loop keys ss h2 (readOf (ringF keys ss) ss).length 0 (by omega))
end Go.Proofs.Ytbiknbjcidlabaa.Pure
