-- hp.py
import Derived.Test.YtgekmdfcbcacdaaHx0
import Derived.Test.YtgekmdfcbcacdaaHx28
import Derived.Test.YtgekmdfcbcacdaaHx29
import Derived.Test.YtgekmdfcbcacdaaHx30
import Derived.Test.YtgekmdfcbcacdaaHx31
import Derived.Test.YtgekmdfcbcacdaaHx34
import Derived.Test.YtgekmdfcbcacdaaHx35
import Derived.Deep.RegionHeld3
namespace Go.Proofs.Ytgekmdfcbcacdaa.Hp
open Go.RowKit Go.Proofs.YtgekmdfcbcacdaaW.PrintWords Go.Proofs.YtgekmdfcbcacdaaW.PrintLast Go.Proofs.YtgekmdfcbcacdaaW.PrintMore
attribute [local go_sem] max2_int min2_int max_two min_two max_three min_three max_four min_four   -- for this text's walks alone
set_option linter.unusedVariables false
set_option linter.unusedSimpArgs false
-- squeezed by wip/tools/squeeze.py
theorem z36x10 {P : Prop} (h : P := by repeat (first | (with_reducible first | exact HW.out | apply below_alloc | apply pw_below_drewN | apply below_drew1) | exact HW.out)) : P := h
theorem z36x9 {P : Prop} (h : P := by repeat (first | (with_reducible first | exact HV.out | apply below_alloc | apply pw_below_drewN | apply below_drew1) | exact HV.out)) : P := h
theorem z36x8 {P : Prop} (h : P := by repeat (first | (with_reducible first | exact HB.out | apply below_alloc | apply pw_below_drewN | apply below_drew1) | exact HB.out)) : P := h
theorem z36x7 {P : Prop} (h : P := by repeat (first | exact HSS.out.1 | (with_reducible refine Kd.C_alloc ?_ _) | (with_reducible refine Kd.C_drewN ?_ _) | (with_reducible refine Kd.C_drew ?_))) : P := h
theorem z36x6 {P : Prop} (h : P := by repeat (first | exact HR1.out.1 | (with_reducible refine Kd.C_alloc ?_ _) | (with_reducible refine Kd.C_drewN ?_ _) | (with_reducible refine Kd.C_drew ?_))) : P := h
theorem z36x5 {P : Prop} (h : P := by repeat (first | exact HKS.out.1 | (with_reducible refine Kd.C_alloc ?_ _) | (with_reducible refine Kd.C_drewN ?_ _) | (with_reducible refine Kd.C_drew ?_))) : P := h
theorem z36x4 {P : Prop} (h : P := by repeat (first | exact HAA.out.1 | (with_reducible refine Kd.C_alloc ?_ _) | (with_reducible refine Kd.C_drewN ?_ _) | (with_reducible refine Kd.C_drew ?_))) : P := h
theorem z36x3 {P : Prop} (h : P := by repeat (first | exact Kd.C_below HSS9.out.1 HV.out | (with_reducible refine Kd.C_alloc ?_ _) | (with_reducible refine Kd.C_drewN ?_ _) | (with_reducible refine Kd.C_drew ?_))) : P := h
theorem z36x2 {P : Prop} (h : P := by repeat (first | exact Kd.C_below HKS9.out.1 HV.out | (with_reducible refine Kd.C_alloc ?_ _) | (with_reducible refine Kd.C_drewN ?_ _) | (with_reducible refine Kd.C_drew ?_))) : P := h
theorem z36x1 {P : Prop} (h : P := by repeat (first | exact Kd.C_below HAA9.out.1 HV.out | (with_reducible refine Kd.C_alloc ?_ _) | (with_reducible refine Kd.C_drewN ?_ _) | (with_reducible refine Kd.C_drew ?_))) : P := h
theorem z36x0 {P : Prop} (h : P := by (first | exact blk_drew (blk_new _ _) | exact blk_new _ _ | exact blk_drew (blk_new1 _ _ _) | exact blk_new1 _ _ _ | exact blk_drew (blk_alloc (blk_new _ _) _) | exact blk_alloc (blk_new _ _) _)) : P := h

/-! ### laws_FnKnowStep: function 5 -/
-- IMPORT Derived.Deep.RegionHeld3
theorem oneRow {w : World} {Y : Nat} {x : Int} (h : w.heap[Y]? = some (.cells #[.int .i64 x] 3 (0, 0))) : Kd.C (Kd.int .i64) w (some ⟨Y, 0, none⟩) 1 [x] := by
  refine Kd.C_of_reads (d := (0 : Int)) (h1 := fun _ => rfl) ⟨rfl, by decide, fun _ => ⟨_, rfl, fun j hj => ?_⟩⟩
  obtain rfl : j = 0 := by omega
  exact (blk_cell h 0).trans rfl
theorem blk_new1 (w : World) (o o1 : Obj) : ((w.alloc o).alloc o1).heap[w.heap.size + 1]? = some o1 := by
  have h := blk_new (w.alloc o) o1
  rwa [show (w.alloc o).heap.size = w.heap.size + 1 from Array.size_push _] at h
theorem lt_two (w : World) (o o1 : Obj) : w.heap.size + 1 < ((w.alloc o).alloc o1).drew.heap.size := by
  show _ < ((w.heap.push o).push o1).size
  simp
theorem lt_one (w : World) (o o1 : Obj) : w.heap.size < ((w.alloc o).alloc o1).drew.heap.size := by
  show _ < ((w.heap.push o).push o1).size
  simp
  omega
theorem noRow {w : World} {X base : Nat} (h : w.heap[X]? = some (.cells #[] 3 (0, 0))) (hb : base ≤ X) : Kd.R (Kd.int .i64) 3 w base (fun _ => True) (.slice (some ⟨X, 0, none⟩) 0 0) [] :=
  ⟨fun _ _ => trivial, [], ⟨rfl, .inr ⟨X, 0, #[], rfl, hb, h, Nat.le_refl _, by decide, rfl, rfl⟩⟩, Reps.none _ _⟩
theorem gate_app {P : Program} {ops : Array Oper} {o : Oper} {a : Act} {W : World} {Kc : Act → World → Prop} {Q : Exit → Act → World → Prop} (s x : Operand) (t : TypeId) (_ho : o.op = .call { callee := .builtin .append, args := #[s, x], argTypes := #[t, t] })
    (h : if Region.wanted o (yielded ops a.tmps) = true then Oper.wp P o a W Kc Q else Kc (a.put o.dst undef) W) : if Region.wanted o (yielded ops a.tmps) = true then Oper.wp P o a W Kc Q else Kc (a.put o.dst undef) W := h
theorem keysAt (l0 : List Int) (l1 : List S41) (r : List Int) {A0 A1 : Option Addr} {n0 c0 n1 c1 : Nat} {w : World} (e0 : n0 = l0.length) (e1 : n1 = l1.length) (hr0 : Kd.C (Kd.int .i64) w A0 l0.length l0) (hc0 : l0.length ≤ c0) (hr1 : Kd.C k41 w A1 l1.length l1) (hc1 : l1.length ≤ c1) (h : impl_KnowKeys.f l0 l1 = some r) :
    Calls Try.prog 27 #[.slice A0 n0 c0, .slice A1 n1 c1] w fun e w' => ∃ v0_ : Value, e = .returned (v0_) ∧ Kd.V (Kd.int .i64) 3 w' w.heap.size (fun k_ => (w.heap.size ≤ k_)) v0_ r ∧ Below w.heap.size w w' := by
  subst e0; subst e1
  exact impl_KnowKeys.calls A0 c0 l0 A1 c1 l1 r w hr0 hc0 hr1 hc1 h
theorem intsAt (k : Nat) (l : List Int) (A B : Option Addr) {m n c d : Nat} {w : World} {R : Ending → World → Prop} (hI : laws_lbInts.f k l l = some true) (e0 : m = l.length) (e1 : n = l.length) (hr0 : Kd.C (Kd.int .i64) w A l.length l) (hc0 : l.length ≤ c) (hr1 : Kd.C (Kd.int .i64) w B l.length l) (hc1 : l.length ≤ d) (hR : ∀ e w', e = .returned (.bool true) ∧ Drawn0 w w' → R e w') :
    Calls Try.prog 28 #[.slice A m c, .slice B n d] w R := by
  subst e0; subst e1
  exact (laws_lbInts.calls k A c l B d l true w hr0 hc0 hr1 hc1 hI).mono hR
set_option maxHeartbeats 16000000 in
set_option maxRecDepth 100000 in
theorem knowStep (k : Nat) (ks a : List Int) (ss : List S41) (A0 : Option Addr) (c0 : Nat) (l0 : List Int) (A1 : Option Addr) (c1 : Nat) (l1 : List Int) (w : World) (hr0 : Kd.C (Kd.int .u8) w A0 l0.length l0) (hc0 : l0.length ≤ c0) (hr1 : Kd.C (Kd.int .u8) w A1 l1.length l1) (hc1 : l1.length ≤ c1)
    (hD : spec_DrawKnowKeys.f k l0 = some (ks, ss)) (hks : ks.length ≤ 100) (hss : ss.length ≤ 100) (ha : a.length ≤ 61) (hl1 : l1.length ≤ 9223372036854775807) (hA : impl_KnowKeys.f ks ss = some a) (hS : spec_KnowKeys.f k ks ss = some a) (hI : laws_lbInts.f k a a = some true)
    (hB1 : ∀ x ∈ a, impl_KnowKeys.f (ks ++ [x]) ss = some a) (hB2 : impl_KnowKeys.f ks (ss ++ readOf (ringF ks ss) ss) = some a) :
    Calls Try.prog 5 #[.slice A0 l0.length c0, .slice A1 l1.length c1] w fun e w' => e = .returned (.bool true) ∧ Below w.heap.size w w' := by
  have HR0 := Aside0.mk (And.intro hr0 hc0)
  have HR1 := Aside0.mk (And.intro hr1 hc1)
  have HD := Aside0.mk hD
  have HA1 := Aside0.mk hA
  have HS := Aside0.mk hS
  have HI := Aside0.mk hI
  have HB1 := Aside0.mk hB1
  have HB2 := Aside0.mk hB2
  have HL := Aside0.mk (And.intro hks (And.intro hss (And.intro ha hl1)))
  have HB := Aside0.mk (Below.refl w.heap.size w)
  clear hr0 hr1 hc0 hc1 hD hA hS hI hB1 hB2 hks hss ha hl1
  by_cases h0 : 1048576 < l0.length
  · have d0 : decide (1048576 < l0.length) = true := decide_eq_true h0
    have d1 : decide (1048576 < (l0.length : Int)) = true := decide_eq_true (by omega)
    clear h0
    go_enter Try.func5, Try.ntmps5
    go_wp2
    go_ret
    exact ⟨rfl, by repeat (first | (with_reducible first | exact HB.out | apply below_alloc | apply pw_below_drewN | apply below_drew1) | exact HB.out)⟩
  have d0 : decide (1048576 < l0.length) = false := decide_eq_false h0
  have d1 : decide (1048576 < (l0.length : Int)) = false := decide_eq_false (by omega)
  clear h0
  by_cases h1 : 1048576 < l1.length
  · have d2 : decide (1048576 < l1.length) = true := decide_eq_true h1
    have d3 : decide (1048576 < (l1.length : Int)) = true := decide_eq_true (by omega)
    clear h1
    go_enter Try.func5, Try.ntmps5
    go_wp2
    go_ret
    exact ⟨rfl, by repeat (first | (with_reducible first | exact HB.out | apply below_alloc | apply pw_below_drewN | apply below_drew1) | exact HB.out)⟩
  have d2 : decide (1048576 < l1.length) = false := decide_eq_false h1
  have d3 : decide (1048576 < (l1.length : Int)) = false := decide_eq_false (by omega)
  have HL1 := Aside0.mk (Nat.not_lt.1 h1)
  clear h1
  have hz : (a.length = 0 ∨ a.length ≠ 0) := by omega
  rcases hz with hz | hz
  · have d4 : ((a.length : Int) == 0) = true := by rw [beq_iff_eq]; omega
    have d5 : decide ((a.length : Int) = 0) = true := decide_eq_true (by omega)
    clear hz
    go_enter Try.func5, Try.ntmps5
    go_wp2_with (first | (go_at_call 26; refine (spec_DrawKnowKeys.calls k _ _ l0 ks ss _ (by repeat (first | exact HR0.out.1 | (with_reducible refine Kd.C_alloc ?_ _) | (with_reducible refine Kd.C_drewN ?_ _) | (with_reducible refine Kd.C_drew ?_))) HR0.out.2 HD.out).mono ?_; rintro e w3 ⟨v0, v1, rfl, hr, hs, hb⟩; obtain ⟨Ak, ck, ek, hlk, hCk⟩ := Kd.R_reads hr; obtain ⟨As, cs, es, hls, hCs⟩ := Kd.R_reads hs; subst ek; subst es; have HKS := Aside0.mk (And.intro hCk hlk); have HSS := Aside0.mk (And.intro hCs hls); have m_HR1 := Aside0.mk (And.intro (Kd.C_below z36x6 hb) HR1.out.2); have m_HB := Aside0.mk (below_step z36x8 hb); clear HR1 HB; have HR1 := m_HR1; clear m_HR1; have HB := m_HB; clear m_HB; clear hr hs hlk hCk hls hCs hb) | (go_at_call 27; refine (impl_KnowKeys.calls _ _ ks _ _ ss a _ z36x5 HKS.out.2 z36x7 HSS.out.2 HA1.out).mono ?_; rintro e w4 ⟨v2, rfl, hv, hb⟩; obtain ⟨Aa, ca, ev⟩ := Kd.V_slice hv; subst ev; have HAA := Aside0.mk (And.intro (Kd.V_reads' hv).2.2 (Kd.V_reads' hv).2.1); have m_HR1 := Aside0.mk (And.intro (Kd.C_below z36x6 hb) HR1.out.2); have m_HKS := Aside0.mk (And.intro (Kd.C_below z36x5 hb) HKS.out.2); have m_HSS := Aside0.mk (And.intro (Kd.C_below z36x7 hb) HSS.out.2); have m_HB := Aside0.mk (below_step z36x8 hb); clear HR1 HKS HSS HB; have HR1 := m_HR1; clear m_HR1; have HKS := m_HKS; clear m_HKS; have HSS := m_HSS; clear m_HSS; have HB := m_HB; clear m_HB; clear hv hb) | (go_at_call 29; refine (spec_KnowKeys.calls k _ _ ks _ _ ss a _ z36x5 HKS.out.2 z36x7 HSS.out.2 HS.out).mono ?_; rintro e w5 ⟨v3, rfl, hr, hb⟩; obtain ⟨Ag, cg, eg, hlg, hCg⟩ := Kd.R_reads hr; subst eg; (try clear HGG); have HGG := Aside0.mk (And.intro hCg hlg); have m_HR1 := Aside0.mk (And.intro (Kd.C_below z36x6 hb) HR1.out.2); have m_HKS := Aside0.mk (And.intro (Kd.C_below z36x5 hb) HKS.out.2); have m_HSS := Aside0.mk (And.intro (Kd.C_below z36x7 hb) HSS.out.2); have m_HAA := Aside0.mk (And.intro (Kd.C_below z36x4 hb) HAA.out.2); have m_HB := Aside0.mk (below_step z36x8 hb); clear HR1 HKS HSS HAA HB; have HR1 := m_HR1; clear m_HR1; have HKS := m_HKS; clear m_HKS; have HSS := m_HSS; clear m_HSS; have HAA := m_HAA; clear m_HAA; have HB := m_HB; clear m_HB; clear hr hlg hCg hb) | (go_at_call 28; refine (laws_lbInts.calls k _ _ a _ _ a true _ z36x4 HAA.out.2 (by repeat (first | exact HGG.out.1 | (with_reducible refine Kd.C_alloc ?_ _) | (with_reducible refine Kd.C_drewN ?_ _) | (with_reducible refine Kd.C_drew ?_))) HGG.out.2 HI.out).mono ?_; rintro e w6 ⟨rfl, hd⟩; have hb := hd.below; have m_HR1 := Aside0.mk (And.intro (Kd.C_below z36x6 hb) HR1.out.2); have m_HKS := Aside0.mk (And.intro (Kd.C_below z36x5 hb) HKS.out.2); have m_HSS := Aside0.mk (And.intro (Kd.C_below z36x7 hb) HSS.out.2); have m_HAA := Aside0.mk (And.intro (Kd.C_below z36x4 hb) HAA.out.2); have m_HB := Aside0.mk (below_step z36x8 hb); clear HR1 HKS HSS HAA HB; have HR1 := m_HR1; clear m_HR1; have HKS := m_HKS; clear m_HKS; have HSS := m_HSS; clear m_HSS; have HAA := m_HAA; clear m_HAA; have HB := m_HB; clear m_HB; clear hd hb))
    go_ret
    exact ⟨rfl, by repeat (first | (with_reducible first | exact HB.out | apply below_alloc | apply pw_below_drewN | apply below_drew1) | exact HB.out)⟩
  · have d4 : ((a.length : Int) == 0) = false := by rw [beq_eq_false_iff_ne]; omega
    have d5 : decide ((a.length : Int) = 0) = false := decide_eq_false (by omega)
    have d6 : ¬ (a.length : Int) = 0 := by omega
    have d7 : ¬ a = [] := fun h => hz (by rw [h]; rfl)
    have HP := Aside0.mk (Nat.pos_of_ne_zero hz)
    clear hz
    go_enter Try.func5, Try.ntmps5
    go_wp2_with (first | (go_at_call 26; refine (spec_DrawKnowKeys.calls k _ _ l0 ks ss _ (by repeat (first | exact HR0.out.1 | (with_reducible refine Kd.C_alloc ?_ _) | (with_reducible refine Kd.C_drewN ?_ _) | (with_reducible refine Kd.C_drew ?_))) HR0.out.2 HD.out).mono ?_; rintro e w3 ⟨v0, v1, rfl, hr, hs, hb⟩; obtain ⟨Ak, ck, ek, hlk, hCk⟩ := Kd.R_reads hr; obtain ⟨As, cs, es, hls, hCs⟩ := Kd.R_reads hs; subst ek; subst es; have HKS := Aside0.mk (And.intro hCk hlk); have HSS := Aside0.mk (And.intro hCs hls); have m_HR1 := Aside0.mk (And.intro (Kd.C_below z36x6 hb) HR1.out.2); have m_HB := Aside0.mk (below_step z36x8 hb); clear HR1 HB; have HR1 := m_HR1; clear m_HR1; have HB := m_HB; clear m_HB; clear hr hs hlk hCk hls hCs hb) | (go_at_call 27; refine (impl_KnowKeys.calls _ _ ks _ _ ss a _ z36x5 HKS.out.2 z36x7 HSS.out.2 HA1.out).mono ?_; rintro e w4 ⟨v2, rfl, hv, hb⟩; obtain ⟨Aa, ca, ev⟩ := Kd.V_slice hv; subst ev; have HAA := Aside0.mk (And.intro (Kd.V_reads' hv).2.2 (Kd.V_reads' hv).2.1); have m_HR1 := Aside0.mk (And.intro (Kd.C_below z36x6 hb) HR1.out.2); have m_HKS := Aside0.mk (And.intro (Kd.C_below z36x5 hb) HKS.out.2); have m_HSS := Aside0.mk (And.intro (Kd.C_below z36x7 hb) HSS.out.2); have m_HB := Aside0.mk (below_step z36x8 hb); clear HR1 HKS HSS HB; have HR1 := m_HR1; clear m_HR1; have HKS := m_HKS; clear m_HKS; have HSS := m_HSS; clear m_HSS; have HB := m_HB; clear m_HB; clear hv hb) | (go_at_call 29; refine (spec_KnowKeys.calls k _ _ ks _ _ ss a _ z36x5 HKS.out.2 z36x7 HSS.out.2 HS.out).mono ?_; rintro e w5 ⟨v3, rfl, hr, hb⟩; obtain ⟨Ag, cg, eg, hlg, hCg⟩ := Kd.R_reads hr; subst eg; (try clear HGG); have HGG := Aside0.mk (And.intro hCg hlg); have m_HR1 := Aside0.mk (And.intro (Kd.C_below z36x6 hb) HR1.out.2); have m_HKS := Aside0.mk (And.intro (Kd.C_below z36x5 hb) HKS.out.2); have m_HSS := Aside0.mk (And.intro (Kd.C_below z36x7 hb) HSS.out.2); have m_HAA := Aside0.mk (And.intro (Kd.C_below z36x4 hb) HAA.out.2); have m_HB := Aside0.mk (below_step z36x8 hb); clear HR1 HKS HSS HAA HB; have HR1 := m_HR1; clear m_HR1; have HKS := m_HKS; clear m_HKS; have HSS := m_HSS; clear m_HSS; have HAA := m_HAA; clear m_HAA; have HB := m_HB; clear m_HB; clear hr hlg hCg hb) | (go_at_call 28; refine (laws_lbInts.calls k _ _ a _ _ a true _ z36x4 HAA.out.2 (by repeat (first | exact HGG.out.1 | (with_reducible refine Kd.C_alloc ?_ _) | (with_reducible refine Kd.C_drewN ?_ _) | (with_reducible refine Kd.C_drew ?_))) HGG.out.2 HI.out).mono ?_; rintro e w6 ⟨rfl, hd⟩; have hb := hd.below; have m_HR1 := Aside0.mk (And.intro (Kd.C_below z36x6 hb) HR1.out.2); have m_HKS := Aside0.mk (And.intro (Kd.C_below z36x5 hb) HKS.out.2); have m_HSS := Aside0.mk (And.intro (Kd.C_below z36x7 hb) HSS.out.2); have m_HAA := Aside0.mk (And.intro (Kd.C_below z36x4 hb) HAA.out.2); have m_HB := Aside0.mk (below_step z36x8 hb); clear HR1 HKS HSS HAA HB; have HR1 := m_HR1; clear m_HR1; have HKS := m_HKS; clear m_HKS; have HSS := m_HSS; clear m_HSS; have HAA := m_HAA; clear m_HAA; have HB := m_HB; clear m_HB; clear hd hb))
    obtain ⟨j, hj⟩ : ∃ j, l1.length % a.length = j := ⟨_, rfl⟩
    have hj1 : j < a.length := hj ▸ Nat.mod_lt _ HP.out
    have HXA := Aside0.mk (show rd a (j : Int) ∈ a from by
      have : rd a (j : Int) = a[j] := by simp [rd, List.getD_eq_getElem?_getD, List.getElem?_eq_getElem hj1]
      rw [this]; exact List.getElem_mem hj1)
    have t0 : Int.tmod (l1.length : Int) (a.length : Int) = (j : Int) := by rw [Int.tmod_eq_emod_of_nonneg (by omega)]; omega
    have t1 : wrap64 (j : Int) = (j : Int) := by have := HL.out; unfold wrap64; omega
    have t2 : IntKind.i64.wrap (j : Int) = (j : Int) := (i64_w _).trans t1
    have t3 : (0 : Int) ≤ (j : Int) := by omega
    have t4 : (j : Int) < (a.length : Int) := by omega
    obtain ⟨ad, e0, hx⟩ := Kd.at_int HAA.out.1 (j : Int) t3 t4
    subst e0
    replace hx : w6.cell? (ad.add j) = some (.int .i64 (rd a (j : Int))) := hx
    have HX := Aside0.mk hx
    obtain ⟨x, hx0⟩ : ∃ x, rd a (j : Int) = x := ⟨_, rfl⟩
    rw [hx0] at hx HX HXA
    have HW := Aside0.mk (Below.refl w6.heap.size w6)
    have HRL := Aside0.mk (show (readOf (ringF ks ss) ss).length ≤ ss.length from List.length_filter_le _ _)
    clear hj hx0 hj1
    go_region_held3 (fun w' => w'.cell? (ad.add j) = some (.int .i64 x)) (first | exact ((show Below w6.heap.size w6 _ from by repeat (first | (with_reducible first | exact HW.out | apply below_alloc | apply pw_below_drewN | apply below_drew1) | exact HW.out)).cell (World.block_lt_of_cell? _ _ HX.out)).trans HX.out | go_keep) (first | (go_at_call 27; refine (keysAt (ks ++ [x]) ss a (by simp) rfl (by repeat (first | exact HZ.out.1 | (with_reducible refine Kd.C_alloc ?_ _) | (with_reducible refine Kd.C_drewN ?_ _) | (with_reducible refine Kd.C_drew ?_))) HZ.out.2 (by first | exact Kd.C_below HSS.out.1 HW.out | exact Kd.C_drew (Kd.C_below HSS.out.1 HW.out) | exact Kd.C_alloc (Kd.C_below HSS.out.1 HW.out) _) HSS.out.2 (HB1.out x HXA.out)).mono ?_; rintro e w9 ⟨v9, rfl, hv, hb⟩; obtain ⟨Ab, cb, ev⟩ := Kd.V_slice hv; subst ev; have HBB := Aside0.mk (And.intro (Kd.V_reads' hv).2.2 (Kd.V_reads' hv).2.1); have m_HW := Aside0.mk (below_step z36x10 hb); clear HW; have HW := m_HW; clear m_HW hv hb) | ((with_reducible refine gate_app (.tmp 42) (.tmp 43) 46 rfl ?_); refine Kd.R_append_rows_step (Kd.int .i64) (w0 := w6) w6.heap.size (by simp [Region.wanted]) (.tmp 42) (.tmp 43) 46 3 (.int .i64 0) 8 rfl Try.underlying46 info3 rfl (by decide) (by omega) _ [] ks _ ks.length ck (fun _ => True) (fun _ => False) rfl rfl (noRow z36x0 (by (first | exact Nat.le_refl _ | exact Nat.le_succ _ | (simp; done) | omega | exact below_size z36x10))) (by exact (show Kd.C (Kd.int .i64) _ _ ks.length ks from by repeat (first | exact HKS.out.1 | (with_reducible refine Kd.C_alloc ?_ _) | (with_reducible refine Kd.C_drewN ?_ _) | (with_reducible refine Kd.C_drew ?_)))) (fun _ _ h => h) (fun _ h => h.elim) (fun _ _ => trivial) z36x10 (below_size z36x10) (by have := HL.out; simp only [List.length_nil]; omega) ?_; intro v7 w7 ho hbn hg hat; rw [List.nil_append] at ho; (try first | have HLit := Aside0.mk ((hg.block (w6.heap.size + 1) (lt_two _ _ _) (show some (w6.heap.size + 1) ≠ some w6.heap.size from by simp)).trans (show _ = some (Obj.cells #[.int .i64 x] 3 (0, 0)) from blk_drew (blk_new1 _ _ _))) | have HLit := Aside0.mk ((hg.block w6.heap.size (lt_one _ _ _) (show some w6.heap.size ≠ some (w6.heap.size + 1) from by simp)).trans (show _ = some (Obj.cells #[.int .i64 x] 3 (0, 0)) from blk_drew (blk_alloc (blk_new _ _) _)))); clear HW; have HW := Aside0.mk hbn; obtain ⟨Ay, cy, ey⟩ := Kd.R_slice ho; subst ey; have HY := Aside0.mk ho; clear ho hbn hg hat) | ((with_reducible refine gate_app (.tmp 44) (.tmp 53) 46 rfl ?_); refine Kd.R_append_rows_step (Kd.int .i64) (w0 := w6) w6.heap.size (by simp [Region.wanted]) (.tmp 44) (.tmp 53) 46 3 (.int .i64 0) 8 rfl Try.underlying46 info3 rfl (by decide) (by omega) _ ks [x] _ 1 1 (fun _ => True) (fun _ => False) rfl rfl (by (with_reducible repeat (first | apply Kd.R_alloc | apply Kd.R_drewN | apply Kd.R_drew)); exact HY.out) (by first | exact oneRow z36x0 | exact oneRow HLit.out) (fun _ _ h => h) (fun _ h => h.elim) (fun _ _ => trivial) z36x10 (below_size z36x10) (by have := HL.out; omega) ?_; intro v8 w8 ho hbn hg hat; clear HW HY; have HW := Aside0.mk hbn; obtain ⟨Az, cz, hzz, hzl, hzC⟩ := Kd.R_reads ho; subst hzz; have HZ := Aside0.mk (And.intro hzC hzl); clear ho hbn hg hat))
    all_goals
      have HKS9 := Aside0.mk (And.intro (Kd.C_below HKS.out.1 HW.out) HKS.out.2)
      have HSS9 := Aside0.mk (And.intro (Kd.C_below HSS.out.1 HW.out) HSS.out.2)
      have HAA9 := Aside0.mk (And.intro (Kd.C_below HAA.out.1 HW.out) HAA.out.2)
      have HB9 := Aside0.mk (below_step HB.out HW.out)
      have HV := Aside0.mk (Below.refl w9.heap.size w9)
      clear HKS HSS HAA HB HW HX hx HXA HZ HR0 HR1
      (try clear HLit)
      go_wp2_with (first | ((with_reducible refine gate_dst (N := 58) rfl ?_); refine Kd.R_lit k41 (w0 := w9) w9.heap.size 41 ?hg (N := 58) ?hd (xs := ([] : List S41)) (inner := []) (ok := fun _ => True) (okp := fun _ => True) ?hr ?hp (fun _ hk => hk) trivial z36x9 (below_size z36x9) (by simp) ?_; (case hd => rfl); (case hg => rfl); (case hr => first | (go_simp; done) | (go_simp; rfl)); (case hp => exact (Reps.none _ _)); intro v10 w10 ho hbn hg_ hnew_; clear HV; have HV := Aside0.mk hbn; obtain ⟨Ap, cp, ep⟩ := Kd.R_slice ho; subst ep; have HQ := Aside0.mk ho; clear ho hbn hg_ hnew_) | ((with_reducible refine gate_builtin (b := .append) (xs := #[.tmp 58, .tmp 59]) rfl ?_); at_builtin; refine Kd.R_append_rows k41 (w0 := w9) w9.heap.size rfl (.tmp 58) (.tmp 59) 32 41 (.agg #[(.int .i64 0), (.int .i64 0), (.int .i64 0), (.int .i64 0), (.int .i64 0), (.int .i64 0), (.int .i64 0)]) 56 rfl Try.underlying32 info41 rfl (by decide) (by omega) _ [] ss _ _ _ (fun _ => True) (fun _ => False) rfl rfl ?aO ?aR (fun _ _ h => h) (fun _ h => h.elim) ?aF ?aB ?aS ?aL ?_; (case aR => exact z36x3); (case aB => exact z36x9); (case aF => exact (fun _ _ => trivial)); (case aO => (with_reducible repeat (first | apply Kd.R_alloc | apply Kd.R_drewN | apply Kd.R_drew)); exact HQ.out); (case aS => exact (below_size z36x9)); (case aL => have := HL.out; have := HRL.out; (try simp only [List.length_nil, List.nil_append]); omega); intro v11 w11 ho hbn hg hat; rw [List.nil_append] at ho; clear HV HQ; have HV := Aside0.mk hbn; obtain ⟨Aq, cq, eq_⟩ := Kd.R_slice ho; subst eq_; have HQ := Aside0.mk ho; clear ho hbn hg hat) | (go_at_call 30; refine (impl_KnowRead.calls _ _ ks _ _ ss (readOf (ringF ks ss) ss) _ z36x2 HKS9.out.2 z36x3 HSS9.out.2 (knowRead_some ks ss (by have := HL.out; omega))).mono ?_; rintro e w12 ⟨v12, rfl, hv, hb⟩; obtain ⟨At, ct, ev⟩ := Kd.V_slice hv; subst ev; have HRD := Aside0.mk (And.intro (Kd.V_reads' hv).2.2 (Kd.V_reads' hv).2.1); have m_HQ := Aside0.mk (Kd.R_below HQ.out hb); have m_HV := Aside0.mk (below_step z36x9 hb); clear HV HQ; have HV := m_HV; have HQ := m_HQ; clear m_HV m_HQ hv hb) | ((with_reducible refine gate_builtin (b := .append) (xs := #[.tmp 60, .tmp 63]) rfl ?_); at_builtin; refine Kd.R_append_rows k41 (w0 := w9) w9.heap.size rfl (.tmp 60) (.tmp 63) 32 41 (.agg #[(.int .i64 0), (.int .i64 0), (.int .i64 0), (.int .i64 0), (.int .i64 0), (.int .i64 0), (.int .i64 0)]) 56 rfl Try.underlying32 info41 rfl (by decide) (by omega) _ ss (readOf (ringF ks ss) ss) _ _ _ (fun _ => True) (fun _ => False) rfl rfl ?aO ?aR (fun _ _ h => h) (fun _ h => h.elim) ?aF ?aB ?aS ?aL ?_; (case aR => exact (by repeat (first | exact HRD.out.1 | (with_reducible refine Kd.C_alloc ?_ _) | (with_reducible refine Kd.C_drewN ?_ _) | (with_reducible refine Kd.C_drew ?_)))); (case aB => exact z36x9); (case aF => exact (fun _ _ => trivial)); (case aO => (with_reducible repeat (first | apply Kd.R_alloc | apply Kd.R_drewN | apply Kd.R_drew)); exact HQ.out); (case aS => exact (below_size z36x9)); (case aL => have := HL.out; have := HRL.out; (try simp only [List.length_nil, List.nil_append]); omega); intro v11 w11 ho hbn hg hat; clear HV HQ; have HV := Aside0.mk hbn; obtain ⟨Aq, cq, eq_⟩ := Kd.R_slice ho; subst eq_; have HQ := Aside0.mk ho; clear ho hbn hg hat) | (go_at_call 27; refine (keysAt ks (ss ++ readOf (ringF ks ss) ss) a rfl (by simp) z36x2 HKS9.out.2 (by repeat (first | exact (Kd.R_reads' HQ.out).2.2 | (with_reducible refine Kd.C_alloc ?_ _) | (with_reducible refine Kd.C_drewN ?_ _) | (with_reducible refine Kd.C_drew ?_))) (Kd.R_reads' HQ.out).2.1 HB2.out).mono ?_; rintro e w13 ⟨v13, rfl, hv, hb⟩; obtain ⟨Ac, cc, ev⟩ := Kd.V_slice hv; subst ev; have HCC := Aside0.mk (And.intro (Kd.V_reads' hv).2.2 (Kd.V_reads' hv).2.1); have m_HV := Aside0.mk (below_step z36x9 hb); clear HV; have HV := m_HV; clear m_HV hv hb) | (go_at_call 28; (with_reducible refine intsAt k a (some ad) Ab HI.out ?_ ?_ ?_ ?_ ?_ ?_ ?_); exact rfl; exact rfl; exact z36x1; exact HAA9.out.2; exact (by repeat (first | exact Kd.C_below HBB.out.1 HV.out | (with_reducible refine Kd.C_alloc ?_ _) | (with_reducible refine Kd.C_drewN ?_ _) | (with_reducible refine Kd.C_drew ?_))); exact HBB.out.2; rintro e w14 ⟨rfl, hd⟩; have hb := hd.below; have m_HV := Aside0.mk (below_step z36x9 hb); (try have m_HCC := Aside0.mk (And.intro (Kd.C_below HCC.out.1 hb) HCC.out.2)); clear HV; have HV := m_HV; (try (clear HCC; have HCC := m_HCC; clear m_HCC)); clear m_HV hd hb) | (go_at_call 28; (with_reducible refine intsAt k a (some ad) Ac HI.out ?_ ?_ ?_ ?_ ?_ ?_ ?_); exact rfl; exact rfl; exact z36x1; exact HAA9.out.2; exact (by repeat (first | exact HCC.out.1 | (with_reducible refine Kd.C_alloc ?_ _) | (with_reducible refine Kd.C_drewN ?_ _) | (with_reducible refine Kd.C_drew ?_))); exact HCC.out.2; rintro e w14 ⟨rfl, hd⟩; have hb := hd.below; have m_HV := Aside0.mk (below_step z36x9 hb); (try have m_HCC := Aside0.mk (And.intro (Kd.C_below HCC.out.1 hb) HCC.out.2)); clear HV; have HV := m_HV; (try (clear HCC; have HCC := m_HCC; clear m_HCC)); clear m_HV hd hb))
      go_ret
      exact ⟨rfl, below_step HB9.out z36x9⟩
/-- What is to be shown of the plain functions: what the law's walk asks for. -/
def laws_FnKnowStep.Pure : Prop := ∀ (l0 : List Int) (l1 : List Int), (∀ x ∈ l0, (Lit.int .u8 x).wf = true) → ∃ (k : Nat) (ks a : List Int) (ss : List S41), spec_DrawKnowKeys.f k l0 = some (ks, ss) ∧ ks.length ≤ 100 ∧ ss.length ≤ 100 ∧ a.length ≤ 61 ∧ impl_KnowKeys.f ks ss = some a ∧ spec_KnowKeys.f k ks ss = some a ∧ laws_lbInts.f k a a = some true ∧
  (∀ x ∈ a, impl_KnowKeys.f (ks ++ [x]) ss = some a) ∧ impl_KnowKeys.f ks (ss ++ readOf (ringF ks ss) ss) = some a
theorem laws_FnKnowStep.walk (P : laws_FnKnowStep.Pure) (a0 : Option Addr) (len0 cap0 : Nat) (z0 : List Int) (a1 : Option Addr) (len1 cap1 : Nat) (z1 : List Int) (w : World) (w0 : (a0 = none ∧ len0 = 0 ∧ cap0 = 0 ∧ z0 = []) ∨ ∃ x, a0 = some x ∧ len0 ≤ cap0 ∧ cap0 ≤ maxLen ∧ z0.length = cap0 ∧ (∀ i, i < z0.length → w.cell? (x.add i) = some (.int .u8 (z0.getD i 0))) ∧ ∀ n ∈ z0, (Lit.int .u8 n).wf = true) (_y0 : len0 * 1 ≤ 140737488351232) (w1 : (a1 = none ∧ len1 = 0 ∧ cap1 = 0 ∧ z1 = []) ∨ ∃ x, a1 = some x ∧ len1 ≤ cap1 ∧ cap1 ≤ maxLen ∧ z1.length = cap1 ∧ (∀ i, i < z1.length → w.cell? (x.add i) = some (.int .u8 (z1.getD i 0))) ∧ ∀ n ∈ z1, (Lit.int .u8 n).wf = true) (_y1 : len1 * 1 ≤ 140737488351232) :
    Calls Try.prog 5 #[.slice a0 len0 cap0, .slice a1 len1 cap1] w fun e w' => e = .returned (.bool true) ∧ Below w.heap.size w w' := by
  obtain ⟨l0, rfl, hr0, hm0, hw0, hc0⟩ := ReadsInt.ofRowC w0
  obtain ⟨l1, rfl, hr1, hm1, hw1, hc1⟩ := ReadsInt.ofRowC w1
  obtain ⟨k, ks, a, ss, hD, h1, h2, h3, hA, hS, hI, hB1, hB2⟩ := P l0 l1 hw0
  exact knowStep k ks a ss _ _ l0 _ _ l1 w (Kd.C_of_reads (d := (0 : Int)) (h1 := fun _ => rfl) hr0) hc0 (Kd.C_of_reads (d := (0 : Int)) (h1 := fun _ => rfl) hr1) hc1 hD h1 h2 h3 hm1 hA hS hI hB1 hB2

end Go.Proofs.Ytgekmdfcbcacdaa.Hp
