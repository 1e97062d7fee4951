/- Is a seal among seals? As the laws ask it. -/
import Derived.Test.YtpdeincniaiajaaHx67
import Derived.Test.YtpdeincniaiajaaCa
set_option linter.unusedVariables false
set_option linter.unusedSimpArgs false
namespace Go.Proofs.Ytpdeincniaiajaa.Am
open Go.RowKit Go.Proofs.Ytpdeincniaiajaa.Hp Go.Proofs.YtpdeincniaiajaaW.PrintWords Go.Proofs.Ytpdeincniaiajaa.Dr Go.Proofs.Ytpdeincniaiajaa.Ca

theorem loop (l : List S) (s : S) (hl : l.length ≤ 9223372036854775807) : ∀ d i : Nat, i + d = l.length → Evs (fun k => laws_lbAmong.l0 k l (i : Int) s.f0 s.f1 s.f2 s.f3 s.f4 s.f5 s.f6) (fun r => r = true ↔ s ∈ l.drop i) := by
  intro d
  induction d with
  | zero =>
    intro i hi
    refine Evs.step (fun k => by simp only [laws_lbAmong.l0]; rfl) (Evs.else_ (by omega) (Evs.now ?_))
    rw [List.drop_of_length_le (by omega)]; simp
  | succ d ih =>
    intro i hi
    have hlt : i < l.length := by omega
    refine Evs.step (fun k => by simp only [laws_lbAmong.l0]; rfl) (Evs.then_ (by omega) (Evs.then_ (by omega) ?_))
    rw [next_is hlt hl, rd_is l i hlt, List.drop_eq_getElem_cons hlt]
    refine Evs.ite (fun h => Evs.now ?_) (fun h => (ih (i + 1) (by omega)).imp fun r hr => ?_)
    · have e : l[i] = s := same_iff.1 h
      rw [e]; simp
    · have e : ¬ s = l[i] := fun e => h (same_iff.2 e.symm)
      rw [hr, List.mem_cons]
      exact ⟨.inr, fun h' => h'.resolve_left e⟩
theorem ev (l : List S) (s : S) (hl : l.length ≤ 9223372036854775807) : Evs (fun k => laws_lbAmong.f k l s.f0 s.f1 s.f2 s.f3 s.f4 s.f5 s.f6) (fun r => r = true ↔ s ∈ l) := by
  unfold laws_lbAmong.f
  exact loop l s hl l.length 0 (by omega)
end Go.Proofs.Ytpdeincniaiajaa.Am
