/- What one reads: the reference's answer as the program's. Plain lists. -/
import Derived.Test.YtbipicjijbnbbaaHx42
import Derived.Test.YtbipicjijbnbbaaHx43
import Derived.Test.YtbipicjijbnbbaaKc
set_option linter.unusedVariables false
set_option linter.unusedSimpArgs false
namespace Go.Proofs.Ytbipicjijbnbbaa.Rd
open Go.RowKit Go.Proofs.Ytbipicjijbnbbaa.Hp Go.Proofs.YtbipicjijbnbbaaW.PrintWords Go.Proofs.Ytbipicjijbnbbaa.Dr Go.Proofs.Ytbipicjijbnbbaa.Kn

theorem okSeal_key {s : S} (h : okSeal s = true) : 1 ≤ s.f0 ∧ s.f0 ≤ 60 := ok_key h
theorem read_yes {bs : List Bool} {s : S} {t : List S} (h : okSeal s = true) (h' : ringHas bs s.f0 = true) : readOf bs (s :: t) = s :: readOf bs t := by
  unfold readOf
  rw [List.filter_cons_of_pos (by rw [h, h']; rfl)]
theorem read_not {bs : List Bool} {s : S} {t : List S} (h : ¬ (okSeal s = true ∧ ringHas bs s.f0 = true)) : readOf bs (s :: t) = readOf bs t := by
  unfold readOf
  rw [List.filter_cons_of_neg (by rw [Bool.and_eq_true]; exact h)]
theorem readLoop_ev (bs : List Bool) (hb : bs.length = 61) (ss : List S) (hn : ss.length ≤ 2097152) : ∀ (d i : Nat) (acc : List S), i + d = ss.length → acc.length ≤ i → Evs (fun k => spec_KnowRead.l0 k ss bs acc (i : Int)) (· = acc ++ readOf bs (ss.drop i)) := by
  intro d
  induction d with
  | zero =>
    intro i acc hi ha
    exact Evs.step (fun k => by simp only [spec_KnowRead.l0]; rfl) (Evs.else_ (by omega) (Evs.now (by rw [List.drop_of_length_le (by omega)]; simp [readOf])))
  | succ d ih =>
    intro i acc hi ha
    have hlt : i < ss.length := by omega
    refine Evs.step (fun k => by simp only [spec_KnowRead.l0]; rfl) (Evs.then_ (by omega) (Evs.then_ (by omega) ?_))
    rw [next_is hlt (by omega), rd_is ss i hlt, Sl.spec_ok, List.drop_eq_getElem_cons hlt]
    have ih' := fun acc h => ih (i + 1) acc (by omega) h
    generalize ss[i] = s at ih' ⊢
    simp only [Option.bind_some]
    refine Evs.ite (fun h => ?_) (fun h => (ih' acc (by omega)).imp fun r hr => by rw [hr, read_not fun e => h e.1])
    obtain ⟨k1, k2⟩ := ok_key h
    refine Evs.then_ (by omega) (Evs.then_ (by omega) (Evs.ite (fun h' => ?_) (fun h' => (ih' acc (by omega)).imp fun r hr => ?_)))
    · refine Evs.then_ (by omega) ((ih' _ (by simp; omega)).imp fun r hr => ?_)
      rw [hr, read_yes h (by rw [has_is k1 k2, ← rdOf_is]; exact h'), List.append_assoc]
      rfl
    · rw [hr, read_not fun e => h' (by rw [rdOf_is, ← has_is k1 k2]; exact e.2)]
theorem knowRead_ev (keys : List Int) (ss : List S) (hk : keys.length ≤ 9223372036854775807) (hn : ss.length ≤ 2097152) : Evs (fun k => spec_KnowRead.f k keys ss) (· = readOf (ringF keys ss) ss) := by
  unfold spec_KnowRead.f
  refine (all_ev keys ss hk (by omega)).bind ?_
  rintro _ rfl
  exact readLoop_ev _ (ring_says keys ss).1 ss hn ss.length 0 [] (by omega) (by simp)

theorem read_len (bs : List Bool) (ss : List S) : (readOf bs ss).length ≤ ss.length := List.length_filter_le _ _
theorem read_nil (ss : List S) : readOf (ringF [] ss) ss = [] := by
  refine List.eq_nil_iff_forall_not_mem.2 fun s hs => ?_
  unfold readOf at hs
  rw [List.mem_filter, Bool.and_eq_true] at hs
  exact can_nil ((has_can _).1 hs.2.2)
theorem read_all (ss : List S) : readOf (ringF (allKeys 60) ss) ss = ss.filter okSeal := by
  unfold readOf
  refine List.filter_congr fun s _ => ?_
  cases h : okSeal s with
  | false => rfl
  | true => rw [all_has ss (okSeal_key h).1 (okSeal_key h).2]; rfl
end Go.Proofs.Ytbipicjijbnbbaa.Rd
