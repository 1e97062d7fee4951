/- The law FnExactKdcAs: at every one who gives tickets, word and time the program's KdcAs answers as the reference's, writes nothing into what it is given, and its answer shares no memory with it or with another answer. No condition but that a list is no longer than a list can be. -/
import Derived.Test.YtbipicjijbnbbaaHx38
import Derived.Test.YtbipicjijbnbbaaEx
import Derived.Test.YtbipicjijbnbbaaMh2
import Derived.Test.YtbipicjijbnbbaaCa
import Derived.Test.YtbipicjijbnbbaaMs
set_option linter.unusedVariables false
set_option linter.unusedSimpArgs false
namespace Go.Proofs.Ytbipicjijbnbbaa.Pure
open Go.RowKit Go.Proofs.Ytbipicjijbnbbaa.Hp Go.Proofs.YtbipicjijbnbbaaW.PrintWords Go.Proofs.Ytbipicjijbnbbaa.Dr
theorem kdcOkImpl (n : Int) (l : List S41) (hl : l.length ≤ 9223372036854775807) : Evs (fun k => impl_KdcOk.f k n l) (fun r => r = true ↔ ((10 ≤ n ∧ n ≤ 61) ∧ Ca.CacheOk l)) := by
  unfold impl_KdcOk.f
  rw [Sl.within]
  simp only [Option.bind_some, decide_eq_true_eq]
  refine Evs.ite (fun h => ?_) (fun h => Evs.now ⟨fun e => (by cases e), fun e => absurd e.1 h⟩)
  refine (Ca.cacheOk_ev l hl).bind fun r hr => Evs.now ?_
  exact hr.trans ⟨fun e => ⟨h, e⟩, fun e => e.2⟩
theorem kdcOkSpec (n : Int) (l : List S41) (hl : l.length ≤ 9223372036854775807) : Evs (fun k => spec_KdcOk.f k n l) (fun r => r = true ↔ ((10 ≤ n ∧ n ≤ 61) ∧ Ca.CacheOk l)) := by
  unfold spec_KdcOk.f
  rw [Sl.l6In]
  simp only [Option.bind_some, decide_eq_true_eq]
  refine Evs.ite (fun h => ?_) (fun h => Evs.now ⟨fun e => (by cases e), fun e => absurd e.1 h⟩)
  refine (Ca.specCache_ev l hl).bind fun r hr => Evs.now ?_
  exact hr.trans ⟨fun e => ⟨h, e⟩, fun e => e.2⟩
abbrev R8 := Int × List S41 × Int × Int × Int × Int × List S41 × Bool
theorem kdcBoth (n : Int) (l : List S41) (a0 a1 a2 a3 : Int) (m : List S41) (now : Int) (hl : l.length ≤ 9223372036854775807) :
    ∃ R : R8, R.2.1.length ≤ 20 ∧ R.2.2.2.2.2.2.1.length ≤ 2 ∧ Ev (fun k => impl_KdcAs.f k n l a0 a1 a2 a3 m now) R ∧ Ev (fun k => spec_KdcAs.f k n l a0 a1 a2 a3 m now) R := by
  obtain ⟨b, hb, pb⟩ := kdcOkImpl n l hl
  obtain ⟨b2, hb2, pb2⟩ := kdcOkSpec n l hl
  obtain rfl : b = b2 := Bool.eq_iff_iff.2 (pb.trans pb2.symm)
  unfold impl_KdcAs.f spec_KdcAs.f
  have ht : impl_timeOk.f now = some (decide (0 ≤ now ∧ now ≤ 100)) := Sl.timeOk now
  have hs : spec_l1Time.f now = some (decide (0 ≤ now ∧ now ≤ 100)) := Sl.l1Time now
  cases b with
  | false =>
    refine ⟨(0, [], 0, 0, 0, 0, [], false), Nat.zero_le _, Nat.zero_le _, hb.bind (Ev.now _), hb2.bind ?_⟩
    exact (Ev.now _).step (fun k => by simp [spec_KdcAs.j0])
  | true =>
    have h20 : l.length ≤ 20 := (pb.1 rfl).2.2
    by_cases h : 0 ≤ now ∧ now ≤ 100
    · rw [decide_eq_true h] at ht hs
      have hg : impl_Kdc_as.f n l a0 a1 a2 a3 m now = some (if a0 = 1 ∧ Ms.msgOk a0 a1 a2 a3 m = true ∧ ¬ n > 60 then (2, a1, 0, 0, [⟨6, 1, a1, 6, n, now, mn (wrap64 (now + 12)) 100⟩, ⟨a1, 2, 6, n, a3, mn (wrap64 (now + 12)) 100, 0⟩], true, wrap64 (n + 1)) else (0, 0, 0, 0, [], false, n)) := by
        unfold impl_Kdc_as.f impl_Kdc_give.f
        rw [Ms.impl_is]
        by_cases h1 : a0 = 1
        · by_cases h2 : Ms.msgOk a0 a1 a2 a3 m = true
          · by_cases h3 : n > 60
            · simp [h1, h3] <;> (first | done | (subst h1; simp [h2]))
            · subst h1; simp [h2, h3]
          · subst h1; simp [h2]
        · simp [h1]
      have hp : spec_l11As.f n l a0 a1 a2 a3 m now = some (if a0 = 1 ∧ Ms.msgOk a0 a1 a2 a3 m = true ∧ ¬ n > 60 then (wrap64 (n + 1), l, 2, a1, 0, 0, [⟨6, 1, a1, 6, n, now, mn (wrap64 (now + 12)) 100⟩, ⟨a1, 2, 6, n, a3, mn (wrap64 (now + 12)) 100, 0⟩], true) else (n, l, 0, 0, 0, 0, [], false)) := by
        unfold spec_l11As.f spec_MsgOk.f
        rw [Ms.msgOkB_is]
        by_cases h1 : a0 = 1
        · by_cases h2 : Ms.msgOk a0 a1 a2 a3 m = true
          · by_cases h3 : n > 60
            · simp [h1, h3] <;> (first | done | (subst h1; simp [h2]))
            · subst h1; simp [h2, h3]
          · subst h1; simp [h2]
        · simp [h1]
      have hc : spec_l11Copy.f n l = some (n, l) := by
        unfold spec_l11Copy.f
        simp; omega
      by_cases hq : a0 = 1 ∧ Ms.msgOk a0 a1 a2 a3 m = true ∧ ¬ n > 60
      · rw [if_pos hq] at hg hp
        refine ⟨(wrap64 (n + 1), l, 2, a1, 0, 0, [⟨6, 1, a1, 6, n, now, mn (wrap64 (now + 12)) 100⟩, ⟨a1, 2, 6, n, a3, mn (wrap64 (now + 12)) 100, 0⟩], true), h20, by simp, hb.bind (Ev.now _ |>.congr fun k => ?_), hb2.bind ?_⟩
        · simp only [ht, hg, Option.bind_some, if_true]
          rw [if_pos (by omega)]
        · refine Ev.congr (f := fun k => spec_KdcAs.j0 k now (!true) n l a0 a1 a2 a3 m) ?_ ?_
          · intro k; simp [hs]
          · refine (Ev.now _).step (fun k => ?_)
            simp only [spec_KdcAs.j0, hc, hp, Option.bind_some, Bool.not_true, Bool.false_eq_true, if_false]
      · rw [if_neg hq] at hg hp
        refine ⟨(n, l, 0, 0, 0, 0, [], false), h20, by simp, hb.bind (Ev.now _ |>.congr fun k => ?_), hb2.bind ?_⟩
        · simp only [ht, hg, Option.bind_some, if_true]
          rw [if_pos (by omega)]
        · refine Ev.congr (f := fun k => spec_KdcAs.j0 k now (!true) n l a0 a1 a2 a3 m) ?_ ?_
          · intro k; simp [hs]
          · refine (Ev.now _).step (fun k => ?_)
            simp only [spec_KdcAs.j0, hc, hp, Option.bind_some, Bool.not_true, Bool.false_eq_true, if_false]
    · rw [decide_eq_false h] at ht hs
      refine ⟨(0, [], 0, 0, 0, 0, [], false), Nat.zero_le _, Nat.zero_le _, hb.bind (Ev.now _ |>.congr fun k => ?_), hb2.bind ?_⟩
      · simp [ht]
      · refine Ev.congr (f := fun k => spec_KdcAs.j0 k now (!false) n l a0 a1 a2 a3 m) ?_ ?_
        · intro k; simp [hs]
        · exact (Ev.now _).step (fun k => by simp [spec_KdcAs.j0])
theorem evOf {α : Type} {g : Nat → Option α} {r : α} (h : Evs g (· = r)) : Ev g r := by
  obtain ⟨_, hr, rfl⟩ := h
  exact hr
theorem FnExactKdcAs (n : Int) (l : List S58) (a0 a1 a2 a3 : Int) (m : List S58) (now : Int) (hl : l.length ≤ 9223372036854775807) (hm : m.length ≤ 9223372036854775807) (_hw : (Lit.int .i64 now).wf = true) : laws_FnExactKdcAs.f n l a0 a1 a2 a3 m now = some true := by
  refine laws_FnExactKdcAs.of n l a0 a1 a2 a3 m now ?_
  unfold kdcP
  by_cases h1 : (1048576 : Int) < l.length
  · refine ⟨0, -1, ?_, .inl (by omega)⟩
    simp only [laws_szKdc.f, Ex.sz_is l 1048576 (by omega) (by omega) hl, Option.bind_some, if_pos h1]
    simp
  have z1 : laws_szKdc.f n l 1048576 = some (1048576 - (l.length : Int)) := by
    simp only [laws_szKdc.f, Ex.sz_is l 1048576 (by omega) (by omega) hl, Option.bind_some, if_neg h1]
    rw [if_neg (by omega)]
  by_cases h2 : 1048576 - (l.length : Int) < (m.length : Int)
  · refine ⟨0, _, z1, .inr ⟨by omega, -1, ?_, .inl (by omega)⟩⟩
    simp only [laws_szMsg.f, Ex.sz_is m (1048576 - (l.length : Int)) (by omega) (by omega) hm, Option.bind_some, if_pos h2]
    simp
  have z2 : laws_szMsg.f a0 a1 a2 a3 m (1048576 - (l.length : Int)) = some (1048576 - (l.length : Int) - (m.length : Int)) := by
    simp only [laws_szMsg.f, Ex.sz_is m (1048576 - (l.length : Int)) (by omega) (by omega) hm, Option.bind_some, if_neg h2]
    rw [if_neg (by omega)]
  have e1 : (l.map Ex.conv).length = l.length := by simp
  have e2 : (m.map Ex.conv).length = m.length := by simp
  have t0 := evOf (r := (n, l.map Ex.conv)) (g := fun k => laws_toKdc.f k n l) (by
    unfold laws_toKdc.f
    refine (Ex.to_ev l (by omega)).bind ?_
    rintro _ rfl
    exact Evs.now rfl)
  have t1 := evOf (r := (a0, a1, a2, a3, m.map Ex.conv)) (g := fun k => laws_toMsg.f k a0 a1 a2 a3 m) (by
    unfold laws_toMsg.f
    refine (Ex.to_ev m (by omega)).bind ?_
    rintro _ rfl
    exact Evs.now rfl)
  generalize l.map Ex.conv = L0 at t0 e1
  generalize m.map Ex.conv = L1 at t1 e2
  obtain ⟨⟨n', C, m0, m1, m2, m3, SS, b⟩, hC, hSS, hI, hS⟩ := kdcBoth n L0 a0 a1 a2 a3 L1 now (by omega)
  dsimp only at hC hSS
  have eqk : ∀ (x : Int) (y : List S41), y.length ≤ 9223372036854775807 → Ev (fun k => laws_eqKdc.f k x y x y) true := fun x y hy => evOf (by
    unfold laws_eqKdc.f
    simp only [if_true]
    refine (Ex.eq_ev _ hy).bind ?_
    rintro _ rfl
    exact Evs.now rfl)
  have eqm : ∀ (x0 x1 x2 x3 : Int) (y : List S41), y.length ≤ 9223372036854775807 → Ev (fun k => laws_eqMsg.f k x0 x1 x2 x3 y x0 x1 x2 x3 y) true := fun x0 x1 x2 x3 y hy => evOf (by
    unfold laws_eqMsg.f
    simp only [if_true]
    refine (Ex.eq_ev _ hy).bind ?_
    rintro _ rfl
    exact Evs.now rfl)
  have mks : ∀ (y : List S41) (a : Int), 0 ≤ a → a ≤ 1000000000000 → y.length ≤ 4194304 → Ev (fun k => laws_markSealS.f k y a) (a + 7 * (y.length : Int), Ms2.marks a y.length) := fun y a h0 h1 hy => evOf (Ms2.mark_ev y a h0 h1 hy)
  have mkk : ∀ (x : Int) (y : List S41) (a : Int), 0 ≤ a → a ≤ 1000000000000 → y.length ≤ 4194304 → Ev (fun k => laws_markKdc.f k x y a) (a + 7 * (y.length : Int), Ms2.marks a y.length) := fun x y a h0 h1 hy => evOf (by
    unfold laws_markKdc.f
    refine (Ms2.mark_ev y a h0 h1 hy).bind ?_
    rintro _ rfl
    exact Evs.now rfl)
  have mkm : ∀ (x0 x1 x2 x3 : Int) (y : List S41) (a : Int), 0 ≤ a → a ≤ 1000000000000 → y.length ≤ 4194304 → Ev (fun k => laws_markMsg.f k x0 x1 x2 x3 y a) (a + 7 * (y.length : Int), Ms2.marks a y.length) := fun x0 x1 x2 x3 y a h0 h1 hy => evOf (by
    unfold laws_markMsg.f
    refine (Ms2.mark_ev y a h0 h1 hy).bind ?_
    rintro _ rfl
    exact Evs.now rfl)
  have hdk : ∀ (x : Int) (y : Nat) (a : Int), 0 ≤ a → a ≤ 1000000000000 → y ≤ 4194304 → Ev (fun k => laws_heldKdc.f k x (Ms2.marks a y) a) (a + 7 * (y : Int)) := fun x y a h0 h1 hy => evOf (by
    unfold laws_heldKdc.f
    refine (Ms2.held_ev y a h0 h1 hy).bind ?_
    rintro _ rfl
    exact Evs.else_ (by omega) (Evs.now rfl))
  have hdm : ∀ (x0 x1 x2 x3 : Int) (y : Nat) (a : Int), 0 ≤ a → a ≤ 1000000000000 → y ≤ 4194304 → Ev (fun k => laws_heldMsg.f k x0 x1 x2 x3 (Ms2.marks a y) a) (a + 7 * (y : Int)) := fun x0 x1 x2 x3 y a h0 h1 hy => evOf (by
    unfold laws_heldMsg.f
    refine (Ms2.held_ev y a h0 h1 hy).bind ?_
    rintro _ rfl
    exact Evs.else_ (by omega) (Evs.now rfl))
  obtain ⟨k1, r1⟩ := t0
  obtain ⟨k2, r2⟩ := t1
  obtain ⟨k3, r3⟩ := hS
  obtain ⟨k4, r4⟩ := hI
  obtain ⟨k5, r5⟩ := eqk n' C (by omega)
  obtain ⟨k6, r6⟩ := eqm m0 m1 m2 m3 SS (by omega)
  obtain ⟨k7, r7⟩ := eqk n L0 (by omega)
  obtain ⟨k8, r8⟩ := eqm a0 a1 a2 a3 L1 (by omega)
  obtain ⟨k9, r9⟩ := mkk n L0 1 (by omega) (by omega) (by omega)
  obtain ⟨k10, r10⟩ := mkm a0 a1 a2 a3 L1 (1 + 7 * (L0.length : Int)) (by omega) (by omega) (by omega)
  obtain ⟨k11, r11⟩ := mkk n' C 1 (by omega) (by omega) (by omega)
  obtain ⟨k12, r12⟩ := mkm m0 m1 m2 m3 SS (1 + 7 * (C.length : Int)) (by omega) (by omega) (by omega)
  obtain ⟨k13, r13⟩ := hdk n' C.length 1 (by omega) (by omega) (by omega)
  obtain ⟨k14, r14⟩ := hdm m0 m1 m2 m3 SS.length (1 + 7 * (C.length : Int)) (by omega) (by omega) (by omega)
  obtain ⟨k15, r15⟩ := mks C 1 (by omega) (by omega) (by omega)
  obtain ⟨K, hK⟩ : ∃ K, K = k1 + k2 + k3 + k4 + k5 + k6 + k7 + k8 + k9 + k10 + k11 + k12 + k13 + k14 + k15 := ⟨_, rfl⟩
  exact ⟨K, _, z1, .inr ⟨by omega, _, z2, .inr ⟨by omega, L0, L1, n', m0, m1, m2, m3, C, SS, b, _, _, _, _, _, _, _, _, r1 K (by omega), r2 K (by omega), r3 K (by omega), r4 K (by omega), r5 K (by omega), r6 K (by omega), r7 K (by omega), r8 K (by omega), r9 K (by omega), r10 K (by omega), r11 K (by omega), r12 K (by omega), r13 K (by omega), r14 K (by omega), r15 K (by omega), by omega, by omega, by omega⟩⟩⟩
end Go.Proofs.Ytbipicjijbnbbaa.Pure
