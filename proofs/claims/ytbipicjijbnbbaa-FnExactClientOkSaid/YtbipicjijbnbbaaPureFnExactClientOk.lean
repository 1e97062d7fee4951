/- The law FnExactClientOk: at every user the program's ClientOk answers as the reference's, and writes nothing into it. No condition but that a list is no longer than a list can be. -/
import Derived.Test.YtbipicjijbnbbaaHx28
import Derived.Test.YtbipicjijbnbbaaEc
import Derived.Test.YtbipicjijbnbbaaEw
import Derived.Test.YtbipicjijbnbbaaEd
import Derived.Test.YtbipicjijbnbbaaSl
set_option linter.unusedVariables false
set_option linter.unusedSimpArgs false
namespace Go.Proofs.Ytbipicjijbnbbaa.Pure
open Go.RowKit Go.Proofs.Ytbipicjijbnbbaa.Hp Go.Proofs.YtbipicjijbnbbaaW.PrintWords Go.Proofs.Ytbipicjijbnbbaa.Dr
abbrev QW := S104
abbrev QC := S106
abbrev QA := S113
theorem in_is (n lo hi : Int) : spec_l6In.f n lo hi = some (rng n lo hi) := by rw [Sl.l6In]; rfl
theorem nx {n i : Nat} (h : i < n) (hn : n ≤ 9223372036854775807) : wrap64 ((i : Int) + 1) = ((i + 1 : Nat) : Int) := by rw [w64 (by omega) (by omega)]; rfl
theorem tick_is (s : S41) : spec_SealOk.f s.f0 s.f1 s.f2 s.f3 s.f4 s.f5 s.f6 = some (tickOk s) := by
  unfold spec_SealOk.f tickOk; rfl
/-- The rest of a list of tests, from i on. -/
def From (P : Int → Prop) (n i : Nat) : Prop := ∀ j : Nat, i ≤ j → (j : Int) < n → P j
theorem from_all {P : Int → Prop} {n : Nat} : From P n 0 ↔ ∀ j : Nat, (j : Int) < n → P j := ⟨fun h j hj => h j (Nat.zero_le _) hj, fun h j _ hj => h j hj⟩
theorem from_none {P : Int → Prop} {n i : Nat} (h : n ≤ i) : From P n i := fun j h1 h2 => by omega
theorem from_step {P : Int → Prop} {n i : Nat} (h : i < n) : From P n i ↔ P i ∧ From P n (i + 1) :=
  ⟨fun q => ⟨q i (Nat.le_refl _) (by omega), fun j h1 h2 => q j (by omega) h2⟩, fun q j h1 h2 => by
    rcases Nat.eq_or_lt_of_le h1 with rfl | h3
    · exact q.1
    · exact q.2 j h3 h2⟩
/- A loop that tests one behind the other, and goes on behind the last. -/
theorem tests {P : Int → Prop} {R : Prop} {n : Nat} {g : Nat → Nat → Option Bool} (hend : Evs (fun k => g n k) (fun r => r = true ↔ R))
    (hno : ∀ i, i < n → (∀ j : Nat, j < i → P j) → ¬ P i → Evs (fun k => g i k) (fun r => r = false)) (hyes : ∀ i, i < n → (∀ j : Nat, j < i → P j) → P i → (∀ Q, Evs (fun k => g (i + 1) k) Q → Evs (fun k => g i k) Q)) :
    ∀ d i : Nat, i + d = n → (∀ j : Nat, j < i → P j) → Evs (fun k => g i k) (fun r => r = true ↔ (From P n i ∧ R)) := by
  intro d
  induction d with
  | zero =>
    intro i hi _
    obtain rfl : i = n := by omega
    exact hend.imp fun r hr => hr.trans ⟨fun q => ⟨from_none (Nat.le_refl _), q⟩, fun q => q.2⟩
  | succ d ih =>
    intro i hi ha
    by_cases hp : P i
    · have ha2 : ∀ j : Nat, j < i + 1 → P j := fun j hj => by
        rcases Nat.eq_or_lt_of_le (Nat.lt_succ_iff.1 hj) with rfl | h2
        · exact hp
        · exact ha j h2
      exact (hyes i (by omega) ha hp _ (ih (i + 1) (by omega) ha2)).imp fun r hr => hr.trans ⟨fun q => ⟨(from_step (by omega)).2 ⟨hp, q.1⟩, q.2⟩, fun q => ⟨((from_step (by omega)).1 q.1).2, q.2⟩⟩
    · exact (hno i (by omega) ha hp).imp fun r hr => by
        subst hr
        exact ⟨fun e => (by cases e), fun q => absurd ((from_step (by omega)).1 q.1).1 hp⟩
theorem called_loop (l : List QA) (s : QA) (hl : l.length ≤ 9223372036854775807) : ∀ d i : Nat, i + d = l.length → Evs (fun k => spec_l12Called.l0 k l (i : Int) s.f0 s.f1 s.f2 s.f3) (fun r => r = true ↔ s ∈ l.drop i) := by
  intro d
  induction d with
  | zero =>
    intro i hi
    refine Evs.step (fun k => by simp only [spec_l12Called.l0]; rfl) (Evs.else_ (by omega) (Evs.now ?_))
    rw [List.drop_of_length_le (by omega)]; simp
  | succ d ih =>
    intro i hi
    have hlt : i < l.length := by omega
    refine Evs.step (fun k => by simp only [spec_l12Called.l0]; rfl) (Evs.then_ (by omega) (Evs.then_ (by omega) ?_))
    rw [nx hlt hl, rdC_is l i hlt, List.drop_eq_getElem_cons hlt]
    refine Evs.ite (fun h => Evs.now ?_) (fun h => (ih (i + 1) (by omega)).imp fun r hr => ?_)
    · have e : l[i] = s := sameC_iff.1 h
      rw [e]; simp
    · have e : ¬ s = l[i] := fun e => h (sameC_iff.2 e.symm)
      rw [hr, List.mem_cons]
      exact ⟨.inr, fun h' => h'.resolve_left e⟩
theorem called_ev (l : List QA) (s : QA) (hl : l.length ≤ 9223372036854775807) : Evs (fun k => spec_l12Called.f k l s.f0 s.f1 s.f2 s.f3) (fun r => r = true ↔ s ∈ l) := by
  unfold spec_l12Called.f
  exact called_loop l s hl l.length 0 (by omega)
theorem cred_loop (a b : Int) (W : List QW) (C : List QC) (S M : List QA) (s : Int) (hl : C.length ≤ 9223372036854775807) : ∀ d i : Nat, i + d = C.length → (∀ j : Nat, j < i → (rd_T106 C j).f0 ≠ s) → Evs (fun k => spec_l12Cred.l0 k s (i : Int) a b W C S M) (fun r => credFirst C s r) := by
  intro d
  induction d with
  | zero =>
    intro i hi hn
    refine Evs.step (fun k => by simp only [spec_l12Cred.l0]; rfl) (Evs.else_ (by omega) (Evs.now ?_))
    exact .inl ⟨rfl, fun j hj => hn j (by omega)⟩
  | succ d ih =>
    intro i hi hn
    have hlt : i < C.length := by omega
    refine Evs.step (fun k => by simp only [spec_l12Cred.l0]; rfl) (Evs.then_ (by omega) (Evs.then_ (by omega) ?_))
    rw [nx hlt hl]
    refine Evs.ite (fun h => Evs.now ?_) (fun h => ih (i + 1) (by omega) fun j hj => ?_)
    · exact .inr ⟨by omega, by omega, fun j hj => hn j (by omega), h⟩
    · rcases Nat.eq_or_lt_of_le (Nat.lt_succ_iff.1 hj) with rfl | h2
      · exact h
      · exact hn j h2
theorem cred_ev (a b : Int) (W : List QW) (C : List QC) (S M : List QA) (s : Int) (hl : C.length ≤ 9223372036854775807) : Evs (fun k => spec_l12Cred.f k a b W C S M s) (fun r => credFirst C s r) := by
  unfold spec_l12Cred.f
  exact cred_loop a b W C S M s hl C.length 0 (by omega) (fun j hj => by omega)
theorem call_is (c : QA) (num : Int) : spec_l12Call.f c.f0 c.f1 c.f2 c.f3 num = some (rng c.f0 4 5 && (rng c.f1 10 60 && (rng c.f2 0 100 && rng c.f3 1 num))) := by
  unfold spec_l12Call.f spec_l1Serv.f spec_l1Session.f spec_l1Time.f
  simp only [in_is, Option.bind_some]
  cases rng c.f0 4 5 <;> cases rng c.f1 10 60 <;> cases rng c.f2 0 100 <;> rfl
variable (id num : Int) (W : List QW) (C : List QC) (S M : List QA)
theorem l3_ev (hS : S.length ≤ 9223372036854775807) (hM : M.length ≤ 9223372036854775807) : Evs (fun k => spec_ClientOk.l3 k 0 id num W C S M) (fun r => r = true ↔ (From (fun x => metOk S M x) M.length 0 ∧ True)) := by
  refine tests (P := fun x => metOk S M x) (R := True) (n := M.length) (g := fun i k => spec_ClientOk.l3 k (i : Int) id num W C S M) ?_ ?_ ?_ M.length 0 (by omega) (fun j hj => by omega)
  · exact Evs.step (fun k => by simp only [spec_ClientOk.l3]; rfl) (Evs.else_ (by omega) (Evs.now (by simp)))
  · intro i hi _ hp
    refine Evs.step (fun k => by simp only [spec_ClientOk.l3]; rfl) (Evs.then_ (by omega) (Evs.then_ (by omega) ?_))
    refine (called_ev S (rd_T113 M i) hS).bind fun b hb => Evs.ite (fun h1 => Evs.then_ (by omega) ?_) (fun h1 => Evs.now rfl)
    refine (called_ev (M.take (i : Int).toNat) (rd_T113 M i) (by rw [List.length_take]; omega)).bind fun c hc => Evs.ite (fun h2 => Evs.now rfl) (fun h2 => ?_)
    exact absurd ⟨hb.1 h1, fun q => h2 (hc.2 q)⟩ hp
  · intro i hi _ hp Q hq
    refine Evs.step (fun k => by simp only [spec_ClientOk.l3]; rfl) (Evs.then_ (by omega) (Evs.then_ (by omega) ?_))
    refine (called_ev S (rd_T113 M i) hS).bind fun b hb => Evs.then_ (hb.2 hp.1) (Evs.then_ (by omega) ?_)
    refine (called_ev (M.take (i : Int).toNat) (rd_T113 M i) (by rw [List.length_take]; omega)).bind fun c hc => Evs.else_ (fun q => hp.2 (hc.1 q)) ?_
    rw [nx hi hM]
    exact hq
theorem sent0 : sentOk num S ((0 : Nat) : Int) ↔ (rng (rd_T113 S ((0 : Nat) : Int)).f0 4 5 && (rng (rd_T113 S ((0 : Nat) : Int)).f1 10 60 && (rng (rd_T113 S ((0 : Nat) : Int)).f2 0 100 && rng (rd_T113 S ((0 : Nat) : Int)).f3 1 num))) = true := by
  unfold sentOk lastS rng
  simp only [Bool.and_eq_true, decide_eq_true_eq]
  constructor
  · rintro ⟨h1, h2, h3, h4⟩; exact ⟨h1, h2, h3, by simp at h4 ⊢; omega⟩
  · rintro ⟨h1, h2, h3, h4⟩; exact ⟨h1, h2, h3, by simp at h4 ⊢; omega⟩
theorem sentPos {i : Nat} (h : ∀ j : Nat, j < i → sentOk num S (j : Int)) : ∀ j : Nat, j < i → 1 ≤ (rd_T113 S (j : Int)).f3 := by
  intro j
  induction j with
  | zero =>
    intro hj
    have q := h 0 hj
    unfold sentOk lastS rng at q
    simp only [decide_eq_true_eq] at q
    have q2 := q.2.2.2
    simp at q2 ⊢
    omega
  | succ j ih =>
    intro hj
    have q := h (j + 1) hj
    have q1 := ih (by omega)
    unfold sentOk lastS rng at q
    simp only [decide_eq_true_eq] at q
    have q2 := q.2.2.2
    rw [if_neg (by omega), show ((j + 1 : Nat) : Int) - 1 = (j : Int) by omega] at q2
    omega
theorem sentS {m : Nat} (hm : 1 ≤ (rd_T113 S (m : Int)).f3) : sentOk num S ((m + 1 : Nat) : Int) ↔ (rng (rd_T113 S ((m + 1 : Nat) : Int)).f0 4 5 && (rng (rd_T113 S ((m + 1 : Nat) : Int)).f1 10 60 && (rng (rd_T113 S ((m + 1 : Nat) : Int)).f2 0 100 && rng (rd_T113 S ((m + 1 : Nat) : Int)).f3 1 num))) = true ∧ (rd_T113 S (m : Int)).f3 < (rd_T113 S ((m + 1 : Nat) : Int)).f3 := by
  unfold sentOk lastS rng
  rw [if_neg (by omega), show ((m + 1 : Nat) : Int) - 1 = (m : Int) by omega]
  simp only [Bool.and_eq_true, decide_eq_true_eq]
  constructor
  · rintro ⟨h1, h2, h3, h4⟩; exact ⟨⟨h1, h2, h3, by omega⟩, by omega⟩
  · rintro ⟨⟨h1, h2, h3, h4⟩, h5⟩; exact ⟨h1, h2, h3, by omega⟩
theorem want0 : wantOk num W ((0 : Nat) : Int) ↔ (rng (rd_T104 W ((0 : Nat) : Int)).f0 4 6 && rng (rd_T104 W ((0 : Nat) : Int)).f1 1 num) = true := by
  unfold wantOk lastW rng
  simp only [Bool.and_eq_true, decide_eq_true_eq]
  constructor
  · rintro ⟨h1, h4⟩; exact ⟨h1, by simp at h4 ⊢; omega⟩
  · rintro ⟨h1, h4⟩; exact ⟨h1, by simp at h4 ⊢; omega⟩
theorem wantPos {i : Nat} (h : ∀ j : Nat, j < i → wantOk num W (j : Int)) : ∀ j : Nat, j < i → 1 ≤ (rd_T104 W (j : Int)).f1 := by
  intro j
  induction j with
  | zero =>
    intro hj
    have q := h 0 hj
    unfold wantOk lastW rng at q
    simp only [decide_eq_true_eq] at q
    have q2 := q.2
    simp at q2 ⊢
    omega
  | succ j ih =>
    intro hj
    have q := h (j + 1) hj
    have q1 := ih (by omega)
    unfold wantOk lastW rng at q
    simp only [decide_eq_true_eq] at q
    have q2 := q.2
    rw [if_neg (by omega), show ((j + 1 : Nat) : Int) - 1 = (j : Int) by omega] at q2
    omega
theorem wantS {m : Nat} (hm : 1 ≤ (rd_T104 W (m : Int)).f1) : wantOk num W ((m + 1 : Nat) : Int) ↔ (rng (rd_T104 W ((m + 1 : Nat) : Int)).f0 4 6 && rng (rd_T104 W ((m + 1 : Nat) : Int)).f1 1 num) = true ∧ (rd_T104 W (m : Int)).f1 < (rd_T104 W ((m + 1 : Nat) : Int)).f1 := by
  unfold wantOk lastW rng
  rw [if_neg (by omega), show ((m + 1 : Nat) : Int) - 1 = (m : Int) by omega]
  simp only [Bool.and_eq_true, decide_eq_true_eq]
  constructor
  · rintro ⟨h1, h4⟩; exact ⟨⟨h1, by omega⟩, by omega⟩
  · rintro ⟨⟨h1, h4⟩, h5⟩; exact ⟨h1, by omega⟩
theorem l2_ev (hS : S.length ≤ 9223372036854775807) (hM : M.length ≤ 9223372036854775807) : Evs (fun k => spec_ClientOk.l2 k 0 id num W C S M) (fun r => r = true ↔ (From (fun x => sentOk num S x) S.length 0 ∧ (From (fun x => metOk S M x) M.length 0 ∧ True))) := by
  refine tests (P := fun x => sentOk num S x) (n := S.length) (g := fun i k => spec_ClientOk.l2 k (i : Int) id num W C S M) ?_ ?_ ?_ S.length 0 (by omega) (fun j hj => by omega)
  · exact Evs.step (fun k => by simp only [spec_ClientOk.l2]; rfl) (Evs.else_ (by omega) (l3_ev id num W C S M hS hM))
  · intro i hi ha hp
    refine Evs.step (fun k => by simp only [spec_ClientOk.l2, call_is, Option.bind_some]; rfl) (Evs.then_ (by omega) (Evs.then_ (by omega) ?_))
    refine Evs.ite (fun h1 => ?_) (fun _ => Evs.now rfl)
    cases i with
    | zero => exact absurd ((sent0 num S).2 h1) hp
    | succ m =>
      have e : wrap64 (((m + 1 : Nat) : Int) - 1) = (m : Int) := by rw [w64 (by omega) (by omega)]; omega
      refine Evs.then_ (by omega) (Evs.then_ (by rw [e]; omega) (Evs.then_ (by rw [e]; omega) (Evs.ite (fun _ => Evs.now rfl) (fun h2 => ?_))))
      rw [e] at h2
      exact absurd ((sentS num S (sentPos num S ha m (by omega))).2 ⟨h1, by omega⟩) hp
  · intro i hi ha hp Q hq
    refine Evs.step (fun k => by simp only [spec_ClientOk.l2, call_is, Option.bind_some]; rfl) (Evs.then_ (by omega) (Evs.then_ (by omega) ?_))
    cases i with
    | zero =>
      refine Evs.then_ ((sent0 num S).1 hp) (Evs.else_ (by omega) ?_)
      rw [nx hi hS]
      exact hq
    | succ m =>
      have e : wrap64 (((m + 1 : Nat) : Int) - 1) = (m : Int) := by rw [w64 (by omega) (by omega)]; omega
      have h3 := (sentS num S (sentPos num S ha m (by omega))).1 hp
      refine Evs.then_ h3.1 (Evs.then_ (by omega) (Evs.then_ (by rw [e]; omega) (Evs.then_ (by rw [e]; omega) (Evs.else_ (by rw [e]; omega) ?_))))
      rw [nx hi hS]
      exact hq
theorem l1_ev (hC : C.length ≤ 9223372036854775807) (hS : S.length ≤ 9223372036854775807) (hM : M.length ≤ 9223372036854775807) : Evs (fun k => spec_ClientOk.l1 k 0 id num W C S M) (fun r => r = true ↔ (From (fun x => credOk C x) C.length 0 ∧ (From (fun x => sentOk num S x) S.length 0 ∧ (From (fun x => metOk S M x) M.length 0 ∧ True)))) := by
  refine tests (P := fun x => credOk C x) (n := C.length) (g := fun i k => spec_ClientOk.l1 k (i : Int) id num W C S M) ?_ ?_ ?_ C.length 0 (by omega) (fun j hj => by omega)
  · exact Evs.step (fun k => by simp only [spec_ClientOk.l1]; rfl) (Evs.else_ (by omega) (l2_ev id num W C S M hS hM))
  · intro i hi _ hp
    refine Evs.step (fun k => by simp only [spec_ClientOk.l1, in_is, spec_l1Session.f, spec_l1Time.f, tick_is, Option.bind_some]; rfl) (Evs.then_ (by omega) (Evs.then_ (by omega) ?_))
    refine Evs.ite (fun h1 => ?_) (fun _ => Evs.now rfl)
    refine (cred_ev id num W C S M _ hC).bind fun r hr => Evs.ite (fun h2 => ?_) (fun _ => Evs.now rfl)
    refine Evs.ite (fun h3 => Evs.ite (fun h4 => Evs.ite (fun h5 => ?_) (fun _ => Evs.now rfl)) (fun _ => Evs.now rfl)) (fun _ => Evs.now rfl)
    exact absurd ⟨h1, (credFirst_lone (by omega) (by omega) hr).1 h2, h3, h4, h5⟩ hp
  · intro i hi _ hp Q hq
    refine Evs.step (fun k => by simp only [spec_ClientOk.l1, in_is, spec_l1Session.f, spec_l1Time.f, tick_is, Option.bind_some]; rfl) (Evs.then_ (by omega) (Evs.then_ (by omega) ?_))
    refine Evs.then_ hp.1 ?_
    refine (cred_ev id num W C S M _ hC).bind fun r hr => Evs.then_ ((credFirst_lone (by omega) (by omega) hr).2 hp.2.1) ?_
    refine Evs.then_ hp.2.2.1 (Evs.then_ hp.2.2.2.1 (Evs.then_ hp.2.2.2.2 ?_))
    rw [nx hi hC]
    exact hq
theorem l0_ev (hW : W.length ≤ 9223372036854775807) (hC : C.length ≤ 9223372036854775807) (hS : S.length ≤ 9223372036854775807) (hM : M.length ≤ 9223372036854775807) : Evs (fun k => spec_ClientOk.l0 k 0 id num W C S M) (fun r => r = true ↔ (From (fun x => wantOk num W x) W.length 0 ∧ (From (fun x => credOk C x) C.length 0 ∧ (From (fun x => sentOk num S x) S.length 0 ∧ (From (fun x => metOk S M x) M.length 0 ∧ True))))) := by
  refine tests (P := fun x => wantOk num W x) (n := W.length) (g := fun i k => spec_ClientOk.l0 k (i : Int) id num W C S M) ?_ ?_ ?_ W.length 0 (by omega) (fun j hj => by omega)
  · exact Evs.step (fun k => by simp only [spec_ClientOk.l0]; rfl) (Evs.else_ (by omega) (l1_ev id num W C S M hC hS hM))
  · intro i hi ha hp
    refine Evs.step (fun k => by simp only [spec_ClientOk.l0, in_is, Option.bind_some]; rfl) (Evs.then_ (by omega) (Evs.then_ (by omega) ?_))
    refine Evs.ite (fun h1 => Evs.ite (fun h2 => ?_) (fun _ => Evs.now rfl)) (fun _ => Evs.now rfl)
    have h0 := Bool.and_eq_true_iff.2 ⟨h1, h2⟩
    cases i with
    | zero => exact absurd ((want0 num W).2 h0) hp
    | succ m =>
      have e : wrap64 (((m + 1 : Nat) : Int) - 1) = (m : Int) := by rw [w64 (by omega) (by omega)]; omega
      refine Evs.then_ (by omega) (Evs.then_ (by rw [e]; omega) (Evs.then_ (by rw [e]; omega) (Evs.ite (fun _ => Evs.now rfl) (fun h3 => ?_))))
      rw [e] at h3
      exact absurd ((wantS num W (wantPos num W ha m (by omega))).2 ⟨h0, by omega⟩) hp
  · intro i hi ha hp Q hq
    refine Evs.step (fun k => by simp only [spec_ClientOk.l0, in_is, Option.bind_some]; rfl) (Evs.then_ (by omega) (Evs.then_ (by omega) ?_))
    cases i with
    | zero =>
      have h0 := Bool.and_eq_true_iff.1 ((want0 num W).1 hp)
      refine Evs.then_ h0.1 (Evs.then_ h0.2 (Evs.else_ (by omega) ?_))
      rw [nx hi hW]
      exact hq
    | succ m =>
      have e : wrap64 (((m + 1 : Nat) : Int) - 1) = (m : Int) := by rw [w64 (by omega) (by omega)]; omega
      have h3 := (wantS num W (wantPos num W ha m (by omega))).1 hp
      have h0 := Bool.and_eq_true_iff.1 h3.1
      refine Evs.then_ h0.1 (Evs.then_ h0.2 (Evs.then_ (by omega) (Evs.then_ (by rw [e]; omega) (Evs.then_ (by rw [e]; omega) (Evs.else_ (by rw [e]; omega) ?_)))))
      rw [nx hi hW]
      exact hq
theorem specOk_ev (hW : W.length ≤ 9223372036854775807) (hC : C.length ≤ 9223372036854775807) (hS : S.length ≤ 9223372036854775807) (hM : M.length ≤ 9223372036854775807) : Evs (fun k => spec_ClientOk.f k id num W C S M) (· = clientB id num W C S M) := by
  have no : ¬ ClientP id num W C S M → Evs (fun k => spec_ClientOk.j0 k true id num W C S M) (· = clientB id num W C S M) := fun h => Evs.step (fun k => by simp only [spec_ClientOk.j0]; rfl) (Evs.then_ (c := true = true) rfl (Evs.now (clientB_no h)))
  unfold spec_ClientOk.f spec_l1User.f
  simp only [in_is, Option.bind_some]
  refine Evs.ite (fun h1 => ?_) (fun h1 => no fun q => h1 q.1)
  by_cases h2 : rng num 0 60 = true
  · rw [h2]
    refine Evs.step (fun k => by simp only [spec_ClientOk.j0]; rfl) (Evs.else_ (by simp) ?_)
    refine (l0_ev id num W C S M hW hC hS hM).imp fun r hr => ?_
    by_cases hp : ClientP id num W C S M
    · rw [← clientB_yes hp]
      exact hr.2 ⟨from_all.2 hp.2.2.1, from_all.2 hp.2.2.2.1, from_all.2 hp.2.2.2.2.1, from_all.2 hp.2.2.2.2.2, trivial⟩
    · rw [← clientB_no hp]
      cases r with
      | false => rfl
      | true =>
        have q := hr.1 rfl
        exact absurd ⟨h1, h2, from_all.1 q.1, from_all.1 q.2.1, from_all.1 q.2.2.1, from_all.1 q.2.2.2.1⟩ hp
  · rw [Bool.not_eq_true] at h2
    rw [h2]
    exact no fun q => by rw [q.2.1] at h2; cases h2
theorem FnExactClientOk (id num : Int) (W : List S174) (C : List S177) (S M : List S179) (hW : W.length ≤ 9223372036854775807) (hC : C.length ≤ 9223372036854775807) (hS : S.length ≤ 9223372036854775807) (hM : M.length ≤ 9223372036854775807) : ∃ k, laws_FnExactClientOk.f k id num W C S M = some true := by
  refine Evs.rounds (g := fun k => laws_FnExactClientOk.f k id num W C S M) ?_
  unfold laws_FnExactClientOk.f
  have hz : ∃ z, laws_szClient.f id num W C S M 1048576 = some z ∧ (z < 0 ∨ (0 ≤ z ∧ (W.length : Int) + C.length + S.length + M.length ≤ 1048576)) := by
    simp only [laws_szClient.f, Ew.sz_is W 1048576 (by omega) (by omega) hW, Option.bind_some]
    by_cases h1 : (1048576 : Int) < W.length
    · rw [if_pos h1]; exact ⟨-1, by simp, .inl (by omega)⟩
    rw [if_neg h1, if_neg (by omega), Ed.sz_is C _ (by omega) (by omega) hC]
    simp only [Option.bind_some]
    by_cases h2 : (1048576 - (W.length : Int)) < C.length
    · rw [if_pos h2]; exact ⟨-1, by simp, .inl (by omega)⟩
    rw [if_neg h2, if_neg (by omega), Ec.sz_is S _ (by omega) (by omega) hS]
    simp only [Option.bind_some]
    by_cases h3 : (1048576 - (W.length : Int) - (C.length : Int)) < S.length
    · rw [if_pos h3]; exact ⟨-1, by simp, .inl (by omega)⟩
    rw [if_neg h3, if_neg (by omega), Ec.sz_is M _ (by omega) (by omega) hM]
    simp only [Option.bind_some]
    by_cases h4 : (1048576 - (W.length : Int) - (C.length : Int) - (S.length : Int)) < M.length
    · rw [if_pos h4]; exact ⟨-1, by simp, .inl (by omega)⟩
    rw [if_neg h4, if_neg (by omega)]
    exact ⟨_, rfl, .inr ⟨by omega, by omega⟩⟩
  obtain ⟨z, hz, h⟩ := hz
  rw [hz]
  simp only [Option.bind_some]
  refine Evs.ite (fun _ => Evs.now rfl) (fun h0 => ?_)
  have hlen : (W.length : Int) + C.length + S.length + M.length ≤ 1048576 := by rcases h with h | h <;> omega
  have hto : Evs (fun k => laws_toClient.f k id num W C S M) (· = (id, num, W.map Ew.conv, C.map Ed.conv, S.map Ec.conv, M.map Ec.conv)) := by
    unfold laws_toClient.f
    refine (Ew.to_ev W (by omega)).bind ?_
    rintro _ rfl
    refine (Ed.to_ev C (by omega)).bind ?_
    rintro _ rfl
    refine (Ec.to_ev S (by omega)).bind ?_
    rintro _ rfl
    refine (Ec.to_ev M (by omega)).bind ?_
    rintro _ rfl
    exact Evs.now rfl
  have e1 : (W.map Ew.conv).length = W.length := by simp
  have e2 : (C.map Ed.conv).length = C.length := by simp
  have e3 : (S.map Ec.conv).length = S.length := by simp
  have e4 : (M.map Ec.conv).length = M.length := by simp
  generalize W.map Ew.conv = W' at hto e1
  generalize C.map Ed.conv = C' at hto e2
  generalize S.map Ec.conv = S' at hto e3
  generalize M.map Ec.conv = M' at hto e4
  refine hto.bind ?_
  rintro _ rfl
  refine (specOk_ev id num W' C' S' M' (by omega) (by omega) (by omega) (by omega)).bind ?_
  rintro _ rfl
  refine hto.bind ?_
  rintro _ rfl
  simp only [impl_ClientOk.f, Option.bind_some]
  refine Evs.else_ (by simp) ?_
  refine hto.bind ?_
  rintro _ rfl
  have heq : Evs (fun k => laws_eqClient.f k id num W' C' S' M' id num W' C' S' M') (· = true) := by
    unfold laws_eqClient.f
    simp only [if_true]
    refine (Ew.eq_ev W' (by omega)).bind ?_
    rintro _ rfl
    refine Evs.then_ rfl ((Ed.eq_ev C' (by omega)).bind ?_)
    rintro _ rfl
    refine Evs.then_ rfl ((Ec.eq_ev S' (by omega)).bind ?_)
    rintro _ rfl
    refine Evs.then_ rfl ((Ec.eq_ev M' (by omega)).bind ?_)
    rintro _ rfl
    exact Evs.then_ rfl (Evs.now rfl)
  refine heq.bind ?_
  rintro _ rfl
  exact Evs.then_ rfl (Evs.now rfl)
end Go.Proofs.Ytbipicjijbnbbaa.Pure
