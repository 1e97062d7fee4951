/- How arguments that came in read as numbers, structs and slices of such: whatever reads as data of such a type is of the kind. Plain lemmas, over any program. -/
import Derived.Test.YtbipicjijbnbbaaV
import Derived.Deep.Slices
import Derived.ChangeArms
import Derived.DataReads
set_option linter.unusedVariables false
set_option linter.unusedSimpArgs false
namespace Go.Proofs.Ytbipicjijbnbbaa.Op
open Go.RowKit Go.Proofs.YtbipicjijbnbbaaW.PrintWords

/-- Whatever reads as data of type t is of the kind d. -/
def Opens {α : Type} (P : Program) (t : TypeId) (d : Kd α) : Prop :=
  P.cellsOf t = d.sz ∧ ∀ {H : Type} (enc : TypeId × Value → H) (w : World) (base : Nat) (spare : Nat → Bool) (held : Bool) (fuel : Nat) (cs : List Value) (x : DataW H × List MemPlace), DataW.trod enc P w base spare held fuel t cs = some x → ∃ v : α, d.K w v cs
/-- The fields from cell number 'off' on. -/
structure Fields {α : Type} (P : Program) (fs : List Field) (off : Nat) (d : Kd α) : Prop where
  get : ∀ {H : Type} (enc : TypeId × Value → H) (w : World) (base : Nat) (spare : Nat → Bool) (held : Bool) (cs : List Value), cs.length = off + d.sz →
    (∀ f ∈ fs, ∃ n y, DataW.trod enc P w base spare held n f.type ((cs.drop f.offset).take (P.cellsOf f.type)) = some y) → ∃ v : α, d.K w v (cs.drop off)

theorem opens_int {P : Program} {t : TypeId} {k : IntKind} (hu : P.underlying t = some (.int k)) (hc : P.cellsOf t = 1) : Opens P t (Kd.int k) :=
  ⟨hc, fun enc w base spare held fuel cs x h => by
    obtain ⟨n, rfl, _, _⟩ := DataW.trod_int hu h
    exact ⟨n, rfl⟩⟩

theorem cells_at {w : World} {base : Nat} {a : Addr} {n : Nat} {cs : List Value} (h : w.cells? base a n = some cs) : cs.length = n ∧ ∀ i u, cs[i]? = some u → w.cell? (a.add i) = some u := by
  obtain ⟨_, h1, h2⟩ := World.cells?_some h
  exact ⟨h1, fun i u hi => by rw [h2 i (by have := (List.getElem?_eq_some_iff.1 hi).1; omega), hi]⟩

theorem opens_slice {P : Program} {α : Type} {t e : TypeId} {d : Kd α} (hu : P.underlying t = some (.slice e)) (hc : P.cellsOf t = 1) (hd : Opens P e d) : Opens P t (Kd.slice e d) := by
  refine ⟨hc, fun enc w base spare held fuel cs x h => ?_⟩
  rcases Deep.open_slice hu h with ⟨rfl, _⟩ | ⟨a, len, cap, m, n, D, Pl, rfl, hb, hl, hm, hmm, _, hx⟩
  · exact ⟨[], none, 0, rfl, Nat.le_refl _, rfl, by simp, fun hp => absurd hp (by simp)⟩
  · have hlm : len ≤ m := by rw [hmm]; split <;> omega
    have key : ∀ i, i < len → ∃ v, ∃ c, c.length = d.sz ∧ d.K w v c ∧ ∀ j u, c[j]? = some u → w.cell? (a.add (i * d.sz + j)) = some u := by
      intro i hi
      obtain ⟨c, h1, h2⟩ := hx i (by omega)
      obtain ⟨v, hv⟩ := hd.2 enc w base spare held n c _ h2
      obtain ⟨h3, h4⟩ := cells_at h1
      refine ⟨v, c, by rw [h3, hd.1], hv, fun j u hj => ?_⟩
      have := h4 j u hj
      rwa [Addr.add_add, hd.1] at this
    have mk : ∀ k, k ≤ len → ∃ xs : List α, xs.length = k ∧ ∀ i v, xs[i]? = some v → ∃ c, c.length = d.sz ∧ d.K w v c ∧ ∀ j u, c[j]? = some u → w.cell? (a.add (i * d.sz + j)) = some u := by
      intro k
      induction k with
      | zero => exact fun _ => ⟨[], rfl, fun i v h => by simp at h⟩
      | succ k ih =>
        intro hk
        obtain ⟨xs, h1, h2⟩ := ih (by omega)
        obtain ⟨v, hv⟩ := key k (by omega)
        refine ⟨xs ++ [v], by simp [h1], fun i u hi => ?_⟩
        rcases Nat.lt_or_ge i xs.length with hlt | hge
        · rw [List.getElem?_append_left hlt] at hi
          exact h2 i u hi
        · have : i = k := by
            have := (List.getElem?_eq_some_iff.1 hi).1
            simp at this; omega
          subst this
          rw [← h1] at hi
          simp at hi
          subst hi
          exact hv
    obtain ⟨xs, h1, h2⟩ := mk len (Nat.le_refl _)
    subst h1
    exact ⟨xs, some a, cap, rfl, hl, rfl, by simp only [maxLen] at hm; omega, fun _ => ⟨a, rfl, fun j p hj => h2 j p hj⟩⟩

theorem fields_last {P : Program} {α : Type} {f : Field} {off : Nat} {d : Kd α} (ho : f.offset = off) (hd : Opens P f.type d) : Fields P [f] off d := by
  refine ⟨fun {H} enc w base spare held cs hl hf => ?_⟩
  obtain ⟨n, y, hy⟩ := hf f (List.mem_singleton.2 rfl)
  rw [ho, hd.1, List.take_of_length_le (by rw [List.length_drop]; omega)] at hy
  exact hd.2 enc w base spare held n _ y hy
theorem fields_cons {P : Program} {α β : Type} {f : Field} {fs : List Field} {off : Nat} {d : Kd α} {d' : Kd β} (ho : f.offset = off) (hd : Opens P f.type d) (hr : Fields P fs (off + d.sz) d') : Fields P (f :: fs) off (Kd.pair d d') := by
  refine ⟨fun {H} enc w base spare held cs hl hf => ?_⟩
  have hl' : cs.length = off + (d.sz + d'.sz) := hl
  obtain ⟨n, y, hy⟩ := hf f List.mem_cons_self
  rw [ho, hd.1] at hy
  obtain ⟨v, hv⟩ := hd.2 enc w base spare held n _ y hy
  obtain ⟨u, hu⟩ := hr.get enc w base spare held cs (by omega) (fun g hg => hf g (List.mem_cons_of_mem _ hg))
  refine ⟨(v, u), _, _, ?_, hv, hu⟩
  rw [← List.drop_drop, List.take_append_drop]
theorem opens_struct {P : Program} {α : Type} {t : TypeId} {fs : Array Field} {d : Kd α} (hu : P.underlying t = some (.struct fs)) (hc : P.cellsOf t = d.sz) (hf : Fields P fs.toList 0 d) : Opens P t d := by
  refine ⟨hc, fun enc w base spare held fuel cs x h => ?_⟩
  obtain ⟨xs, n, _, _, hl, hxs, hx⟩ := DataW.trod_struct hu h
  obtain ⟨v, hv⟩ := hf.get enc w base spare held cs (by rw [hl, hc]; omega) (fun f hfm => by
    obtain ⟨i, hi⟩ := List.mem_iff_getElem?.1 hfm
    have hi' : fs[i]? = some f := by simpa using hi
    have h1 := hx i f hi'
    have hlt : i < xs.length := by
      have := (Array.getElem?_eq_some_iff.1 hi').1
      omega
    rw [List.getElem?_eq_getElem hlt] at h1
    exact ⟨n, _, h1⟩)
  exact ⟨v, by simpa using hv⟩
theorem opens_iso {P : Program} {α β : Type} {t : TypeId} {d : Kd α} {f : β → α} {g : α → β} (hg : ∀ a, f (g a) = a) (h : Opens P t d) : Opens P t (Kd.iso d f) :=
  ⟨h.1, fun enc w base spare held fuel cs x hx => by
    obtain ⟨v, hv⟩ := h.2 enc w base spare held fuel cs x hx
    exact ⟨g v, by show d.K w (f (g v)) cs; rw [hg]; exact hv⟩⟩
end Go.Proofs.Ytbipicjijbnbbaa.Op
