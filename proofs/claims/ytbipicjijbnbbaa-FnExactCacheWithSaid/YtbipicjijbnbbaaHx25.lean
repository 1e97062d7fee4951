-- hp.py
import Derived.Test.YtbipicjijbnbbaaHx0
import Derived.Test.YtbipicjijbnbbaaHx2
import Derived.Test.YtbipicjijbnbbaaHx3
import Derived.Test.YtbipicjijbnbbaaHx5
import Derived.Test.YtbipicjijbnbbaaHx6
import Derived.Test.YtbipicjijbnbbaaHx7
import Derived.Test.YtbipicjijbnbbaaHx15
import Derived.Test.YtbipicjijbnbbaaHx24
namespace Go.Proofs.Ytbipicjijbnbbaa.Hp
open Go.RowKit Go.Proofs.YtbipicjijbnbbaaW.PrintWords Go.Proofs.YtbipicjijbnbbaaW.PrintLast Go.Proofs.YtbipicjijbnbbaaW.PrintMore
attribute [local go_sem] max2_int min2_int max_two min_two max_three min_three max_four min_four   -- for this text's walks alone
set_option linter.unusedVariables false
set_option linter.unusedSimpArgs false
-- squeezed by wip/tools/squeeze.py
theorem z25x12 {P : Prop} (h : P := by (with_reducible repeat (first | apply Kd.R_alloc | apply Kd.R_drewN | apply Kd.R_drew)); exact HO_8.out) : P := h
theorem z25x11 {P : Prop} (h : P := by (with_reducible repeat (first | apply Kd.R_alloc | apply Kd.R_drewN | apply Kd.R_drew)); exact HO_11.out) : P := h
theorem z25x10 {P : Prop} (h : P := by (with_reducible repeat (first | apply Kd.R_alloc | apply Kd.R_drewN | apply Kd.R_drew)); exact HO_10.out) : P := h
theorem z25x9 {P : Prop} (h : P := by (with_reducible repeat (first | apply Kd.R_alloc | apply Kd.R_drewN | apply Kd.R_drew)); exact HO260.out) : P := h
theorem z25x8 {P : Prop} (h : P := by (with_reducible repeat (first | apply Kd.R_alloc | apply Kd.R_drewN | apply Kd.R_drew)); exact HO250.out) : P := h
theorem z25x7 {P : Prop} (h : P := by (with_reducible repeat (first | apply Kd.R_alloc | apply Kd.R_drewN | apply Kd.R_drew)); exact HO235.out) : P := h
theorem z25x6 {P : Prop} (h : P := by (with_reducible repeat (first | apply Kd.R_alloc | apply Kd.R_drewN | apply Kd.R_drew)); exact HO231.out) : P := h
theorem z25x5 {P : Prop} (h : P := by (with_reducible repeat (first | apply Kd.R_alloc | apply Kd.R_drewN | apply Kd.R_drew)); exact HO221.out) : P := h
theorem z25x4 {P : Prop} (h : P := by (with_reducible repeat (first | refine blk_drewN ?_ _ | refine blk_drew ?_ | refine blk_alloc ?_ _)); exact BK217.out) : P := h
theorem z25x3 {P : Prop} (h : P := by (try simp only [List.map_toArray, List.map_cons, List.map_nil]); first | done | rfl | (simp only [List.length_drop, List.length_take]; rfl)) : P := h
theorem z25x2 {P : Prop} (h : P := by rw [hg]; exact (below_size (by repeat (first | (with_reducible first | exact HB.out | apply below_alloc | apply pw_below_drewN | apply below_drew1) | exact HB.out)))) : P := h
theorem z25x1 {P : Prop} (h : P := by repeat (first | (with_reducible first | exact HB.out | apply below_alloc | apply pw_below_drewN | apply below_drew1 | refine below_set ?_ GE217.out) | exact HB.out)) : P := h
theorem z25x0 {P : Prop} (h : P := by (try simp only [List.map_toArray, List.map_cons, List.map_nil]); first | done | (rw [show t256.length = t243.length from (Kd.R_reads' HO_11.out).1.symm] <;> rfl) | rfl | (simp only [List.length_drop, List.length_take]; rfl)) : P := h

theorem clipOf (A : Option Addr) (n c c1 : Nat) : ∀ A' n' c', Value.slice A n c = .slice A' n' c' → ∃ c2, Value.slice A n c1 = .slice A' n' c2 := by
 intro A' n' c' h_
 cases h_
 exact ⟨_, rfl⟩
/-! ### laws_FnExactCacheWith: function 7 -/
mutual
def laws_FnExactCacheWith.j0 : Nat → List (S58) → Int → List (S41) → Bool → List (S41) → List (S41) → Bool → Bool → Int → Int → Int → Int → Int → Int → Int → Option (Bool)
 | 0, _, _, _, _, _, _, _, _, _, _, _, _, _, _, _ => none
 | k + 1, x0, x2, x8, x9, x10, x11, x12, x50, x218000, x218001, x218002, x218003, x218004, x218005, x218006 => if x50 = true then (some false) else ((laws_toSealS.f k x0).bind fun t248 => ((laws_eqSealS.f k x10 t248).bind fun t251 => (if t251 = true then ((laws_markSealS.f k x10 1).bind fun bt252 => (if bt252.1 < 0 then (laws_FnExactCacheWith.j1 k x0 x2 x8 x9 x11 true x218000 x218001 x218002 x218003 x218004 x218005 x218006) else ((laws_eqSealS.f k x11 x8).bind fun t254 => (if t254 = true then (laws_FnExactCacheWith.j1 k x0 x2 x8 x9 x11 (x12 != x9) x218000 x218001 x218002 x218003 x218004 x218005 x218006) else (laws_FnExactCacheWith.j1 k x0 x2 x8 x9 x11 true x218000 x218001 x218002 x218003 x218004 x218005 x218006))))) else (some false))))
def laws_FnExactCacheWith.j1 : Nat → List (S58) → Int → List (S41) → Bool → List (S41) → Bool → Int → Int → Int → Int → Int → Int → Int → Option (Bool)
 | 0, _, _, _, _, _, _, _, _, _, _, _, _, _ => none
 | k + 1, x0, x2, x8, x9, x11, x71, x218000, x218001, x218002, x218003, x218004, x218005, x218006 => if x71 = true then (some false) else ((laws_markSealS.f k x11 1).bind fun bt255 => ((laws_heldSealS.f k bt255.2 1).bind fun t257 => (if t257 < 0 then (some false) else (if t257 = bt255.1 then ((laws_toSealS.f k x0).bind fun t258 => ((laws_toSeal.f x218000 x218001 x218002 x218003 x218004 x218005 x218006).bind fun bt261 => ((impl_CacheWith.f k t258 bt261.1 bt261.2.1 bt261.2.2.1 bt261.2.2.2.1 bt261.2.2.2.2.1 bt261.2.2.2.2.2.1 bt261.2.2.2.2.2.2 x2).bind fun bt268 => ((laws_eqSealS.f k bt268.1 x8).bind fun t272 => (if t272 = true then (laws_FnExactCacheWith.j2 k bt255.2 bt255.1 (bt268.2 != x9)) else (laws_FnExactCacheWith.j2 k bt255.2 bt255.1 true)))))) else (some false)))))
def laws_FnExactCacheWith.j2 : Nat → List (S41) → Int → Bool → Option (Bool)
 | 0, _, _, _ => none
 | k + 1, x11, x14, x100 => if x100 = true then (some false) else ((laws_heldSealS.f k x11 1).bind fun t273 => (if t273 < 0 then (some false) else (if t273 = x14 then (some true) else (some false))))
end
def laws_FnExactCacheWith.f (k : Nat) (l0 : List (S58)) (a1_0 : Int) (a1_1 : Int) (a1_2 : Int) (a1_3 : Int) (a1_4 : Int) (a1_5 : Int) (a1_6 : Int) (a2 : Int) : Option (Bool) := (laws_szSealS.f l0 1048576).bind fun t218 => (if t218 < 0 then (some true) else ((laws_toSealS.f k l0).bind fun t219 => ((laws_toSeal.f a1_0 a1_1 a1_2 a1_3 a1_4 a1_5 a1_6).bind fun bt222 => ((spec_CacheWith.f k t219 bt222.1 bt222.2.1 bt222.2.2.1 bt222.2.2.2.1 bt222.2.2.2.2.1 bt222.2.2.2.2.2.1 bt222.2.2.2.2.2.2 a2).bind fun bt229 => ((laws_toSealS.f k l0).bind fun t233 => ((laws_toSeal.f a1_0 a1_1 a1_2 a1_3 a1_4 a1_5 a1_6).bind fun bt236 => ((impl_CacheWith.f k t233 bt236.1 bt236.2.1 bt236.2.2.1 bt236.2.2.2.1 bt236.2.2.2.2.1 bt236.2.2.2.2.2.1 bt236.2.2.2.2.2.2 a2).bind fun bt243 => ((laws_eqSealS.f k bt243.1 bt229.1).bind fun t247 => (if t247 = true then (laws_FnExactCacheWith.j0 k l0 a2 bt229.1 bt229.2 t233 bt243.1 bt243.2 (bt243.2 != bt229.2) a1_0 a1_1 a1_2 a1_3 a1_4 a1_5 a1_6) else (laws_FnExactCacheWith.j0 k l0 a2 bt229.1 bt229.2 t233 bt243.1 bt243.2 true a1_0 a1_1 a1_2 a1_3 a1_4 a1_5 a1_6))))))))))
theorem laws_FnExactCacheWith.mono_l : ∀ k, (∀ y0 y1 y2 y3 y4 y5 y6 y7 y8 y9 y10 y11 y12 y13 y14, LeO (laws_FnExactCacheWith.j0 k y0 y1 y2 y3 y4 y5 y6 y7 y8 y9 y10 y11 y12 y13 y14) (laws_FnExactCacheWith.j0 (k + 1) y0 y1 y2 y3 y4 y5 y6 y7 y8 y9 y10 y11 y12 y13 y14)) ∧ (∀ y0 y1 y2 y3 y4 y5 y6 y7 y8 y9 y10 y11 y12, LeO (laws_FnExactCacheWith.j1 k y0 y1 y2 y3 y4 y5 y6 y7 y8 y9 y10 y11 y12) (laws_FnExactCacheWith.j1 (k + 1) y0 y1 y2 y3 y4 y5 y6 y7 y8 y9 y10 y11 y12)) ∧ (∀ y0 y1 y2, LeO (laws_FnExactCacheWith.j2 k y0 y1 y2) (laws_FnExactCacheWith.j2 (k + 1) y0 y1 y2))
 | 0 => ⟨fun _ _ _ _ _ _ _ _ _ _ _ _ _ _ _ r h => by simp [laws_FnExactCacheWith.j0] at h, fun _ _ _ _ _ _ _ _ _ _ _ _ _ r h => by simp [laws_FnExactCacheWith.j1] at h, fun _ _ _ r h => by simp [laws_FnExactCacheWith.j2] at h⟩
 | k + 1 => by
  obtain ⟨ih0, ih1, ih2⟩ := laws_FnExactCacheWith.mono_l k
  refine ⟨?_, ?_, ?_⟩
  ·intro y0 y1 y2 y3 y4 y5 y6 y7 y8 y9 y10 y11 y12 y13 y14
   unfold laws_FnExactCacheWith.j0
   repeat' first
   | (with_reducible exact ih0 _ _ _ _ _ _ _ _ _ _ _ _ _ _ _)
   | (with_reducible exact ih1 _ _ _ _ _ _ _ _ _ _ _ _ _)
   | (with_reducible exact ih2 _ _ _)
   | (with_reducible exact impl_CacheWith.mono _ _ _ _ _ _ _ _ _ _)
   | (with_reducible exact laws_eqSealS.mono _ _ _)
   | (with_reducible exact laws_heldSealS.mono _ _ _)
   | (with_reducible exact laws_markSealS.mono _ _ _)
   | (with_reducible exact laws_toSealS.mono _ _)
   | (with_reducible exact spec_CacheWith.mono _ _ _ _ _ _ _ _ _ _)
   | (with_reducible exact LeO.refl _)
   | (with_reducible exact LeO.none _)
   | (with_reducible refine LeO.ite ?_ ?_)
   | (with_reducible refine LeO.bind ?_ (fun _ => ?_))
   | exact ih0 _ _ _ _ _ _ _ _ _ _ _ _ _ _ _
   | exact ih1 _ _ _ _ _ _ _ _ _ _ _ _ _
   | exact ih2 _ _ _
   | exact impl_CacheWith.mono _ _ _ _ _ _ _ _ _ _
   | exact laws_eqSealS.mono _ _ _
   | exact laws_heldSealS.mono _ _ _
   | exact laws_markSealS.mono _ _ _
   | exact laws_toSealS.mono _ _
   | exact spec_CacheWith.mono _ _ _ _ _ _ _ _ _ _
   | exact LeO.none _
   | refine LeO.ite ?_ ?_
   | refine LeO.bind ?_ (fun _ => ?_)
  ·intro y0 y1 y2 y3 y4 y5 y6 y7 y8 y9 y10 y11 y12
   unfold laws_FnExactCacheWith.j1
   repeat' first
   | (with_reducible exact ih0 _ _ _ _ _ _ _ _ _ _ _ _ _ _ _)
   | (with_reducible exact ih1 _ _ _ _ _ _ _ _ _ _ _ _ _)
   | (with_reducible exact ih2 _ _ _)
   | (with_reducible exact impl_CacheWith.mono _ _ _ _ _ _ _ _ _ _)
   | (with_reducible exact laws_eqSealS.mono _ _ _)
   | (with_reducible exact laws_heldSealS.mono _ _ _)
   | (with_reducible exact laws_markSealS.mono _ _ _)
   | (with_reducible exact laws_toSealS.mono _ _)
   | (with_reducible exact spec_CacheWith.mono _ _ _ _ _ _ _ _ _ _)
   | (with_reducible exact LeO.refl _)
   | (with_reducible exact LeO.none _)
   | (with_reducible refine LeO.ite ?_ ?_)
   | (with_reducible refine LeO.bind ?_ (fun _ => ?_))
   | exact ih0 _ _ _ _ _ _ _ _ _ _ _ _ _ _ _
   | exact ih1 _ _ _ _ _ _ _ _ _ _ _ _ _
   | exact ih2 _ _ _
   | exact impl_CacheWith.mono _ _ _ _ _ _ _ _ _ _
   | exact laws_eqSealS.mono _ _ _
   | exact laws_heldSealS.mono _ _ _
   | exact laws_markSealS.mono _ _ _
   | exact laws_toSealS.mono _ _
   | exact spec_CacheWith.mono _ _ _ _ _ _ _ _ _ _
   | exact LeO.none _
   | refine LeO.ite ?_ ?_
   | refine LeO.bind ?_ (fun _ => ?_)
  ·intro y0 y1 y2
   unfold laws_FnExactCacheWith.j2
   repeat' first
   | (with_reducible exact ih0 _ _ _ _ _ _ _ _ _ _ _ _ _ _ _)
   | (with_reducible exact ih1 _ _ _ _ _ _ _ _ _ _ _ _ _)
   | (with_reducible exact ih2 _ _ _)
   | (with_reducible exact impl_CacheWith.mono _ _ _ _ _ _ _ _ _ _)
   | (with_reducible exact laws_eqSealS.mono _ _ _)
   | (with_reducible exact laws_heldSealS.mono _ _ _)
   | (with_reducible exact laws_markSealS.mono _ _ _)
   | (with_reducible exact laws_toSealS.mono _ _)
   | (with_reducible exact spec_CacheWith.mono _ _ _ _ _ _ _ _ _ _)
   | (with_reducible exact LeO.refl _)
   | (with_reducible exact LeO.none _)
   | (with_reducible refine LeO.ite ?_ ?_)
   | (with_reducible refine LeO.bind ?_ (fun _ => ?_))
   | exact ih0 _ _ _ _ _ _ _ _ _ _ _ _ _ _ _
   | exact ih1 _ _ _ _ _ _ _ _ _ _ _ _ _
   | exact ih2 _ _ _
   | exact impl_CacheWith.mono _ _ _ _ _ _ _ _ _ _
   | exact laws_eqSealS.mono _ _ _
   | exact laws_heldSealS.mono _ _ _
   | exact laws_markSealS.mono _ _ _
   | exact laws_toSealS.mono _ _
   | exact spec_CacheWith.mono _ _ _ _ _ _ _ _ _ _
   | exact LeO.none _
   | refine LeO.ite ?_ ?_
   | refine LeO.bind ?_ (fun _ => ?_)
theorem laws_FnExactCacheWith.mono : ∀ a0 a1 a2 a3 a4 a5 a6 a7 a8 k, LeO (laws_FnExactCacheWith.f k a0 a1 a2 a3 a4 a5 a6 a7 a8) (laws_FnExactCacheWith.f (k + 1) a0 a1 a2 a3 a4 a5 a6 a7 a8) := by
 intro a0 a1 a2 a3 a4 a5 a6 a7 a8 k
 obtain ⟨ih0, ih1, ih2⟩ := laws_FnExactCacheWith.mono_l k
 unfold laws_FnExactCacheWith.f
 repeat' first
   | (with_reducible exact ih0 _ _ _ _ _ _ _ _ _ _ _ _ _ _ _)
   | (with_reducible exact ih1 _ _ _ _ _ _ _ _ _ _ _ _ _)
   | (with_reducible exact ih2 _ _ _)
   | (with_reducible exact impl_CacheWith.mono _ _ _ _ _ _ _ _ _ _)
   | (with_reducible exact laws_eqSealS.mono _ _ _)
   | (with_reducible exact laws_heldSealS.mono _ _ _)
   | (with_reducible exact laws_markSealS.mono _ _ _)
   | (with_reducible exact laws_toSealS.mono _ _)
   | (with_reducible exact spec_CacheWith.mono _ _ _ _ _ _ _ _ _ _)
   | (with_reducible exact LeO.refl _)
   | (with_reducible exact LeO.none _)
   | (with_reducible refine LeO.ite ?_ ?_)
   | (with_reducible refine LeO.bind ?_ (fun _ => ?_))
   | exact ih0 _ _ _ _ _ _ _ _ _ _ _ _ _ _ _
   | exact ih1 _ _ _ _ _ _ _ _ _ _ _ _ _
   | exact ih2 _ _ _
   | exact impl_CacheWith.mono _ _ _ _ _ _ _ _ _ _
   | exact laws_eqSealS.mono _ _ _
   | exact laws_heldSealS.mono _ _ _
   | exact laws_markSealS.mono _ _ _
   | exact laws_toSealS.mono _ _
   | exact spec_CacheWith.mono _ _ _ _ _ _ _ _ _ _
   | exact LeO.none _
   | refine LeO.ite ?_ ?_
   | refine LeO.bind ?_ (fun _ => ?_)
def laws_FnExactCacheWith.T5 : Bool × List (List Nat × List Nat) := (true, [([], []), ([0], [0]), ([], []), ([2, 1], [2]), ([], []), ([1, 3, 4, 3], [1, 3, 4]), ([5], [5]), ([6], [6]), ([6], [6]), ([7, 5, 0, 1, 2, 3, 4, 5, 6, 7], [7]), ([8, 9, 0, 1, 2, 3, 4, 5, 6, 7, 8, 9], [8])])
def laws_FnExactCacheWith.B5 : List Nat := [0, 1, 0, 7, 0, 31, 63, 127, 127, 255, 1023]
theorem laws_FnExactCacheWith.tab5 : rtab .any (opsOf Try.f7 5) = laws_FnExactCacheWith.T5 := by kernel_rfl
theorem laws_FnExactCacheWith.bits5 : waitsOk laws_FnExactCacheWith.T5.2 laws_FnExactCacheWith.B5 = true := by kernel_rfl
def laws_FnExactCacheWith.T24 : Bool × List (List Nat × List Nat) := (true, [([], []), ([0], [0]), ([], []), ([2, 1], [2]), ([], []), ([1, 3, 4, 3], [1, 3, 4]), ([5], [5]), ([6], [6]), ([6], [6]), ([7, 5, 0, 1, 2, 3, 4, 5, 6, 7], [7]), ([8, 9, 0, 1, 2, 3, 4, 5, 6, 7, 8, 9], [8])])
def laws_FnExactCacheWith.B24 : List Nat := [0, 1, 0, 7, 0, 31, 63, 127, 127, 255, 1023]
theorem laws_FnExactCacheWith.tab24 : rtab .any (opsOf Try.f7 24) = laws_FnExactCacheWith.T24 := by kernel_rfl
theorem laws_FnExactCacheWith.bits24 : waitsOk laws_FnExactCacheWith.T24.2 laws_FnExactCacheWith.B24 = true := by kernel_rfl
set_option maxHeartbeats 8000000 in
set_option maxRecDepth 100000 in
theorem laws_FnExactCacheWith.calls (k : Nat) (A0 : Option Addr) (c0 : Nat) (l0 : List (S58)) (a1_0 : Int) (a1_1 : Int) (a1_2 : Int) (a1_3 : Int) (a1_4 : Int) (a1_5 : Int) (a1_6 : Int) (a2 : Int) (r : Bool) (w : World) (hr0 : Kd.C k58 w A0 l0.length l0) (hc0 : l0.length ≤ c0) (h : laws_FnExactCacheWith.f k l0 a1_0 a1_1 a1_2 a1_3 a1_4 a1_5 a1_6 a2 = some r) :
  Calls Try.prog 7 #[.slice A0 l0.length c0, .agg #[.int .i64 a1_0, .int .i64 a1_1, .int .i64 a1_2, .int .i64 a1_3, .int .i64 a1_4, .int .i64 a1_5, .int .i64 a1_6], .int .i64 a2] w fun e w' => e = .returned (.bool r) ∧ Below w.heap.size w w' := by
 have hu58 := Try.underlying58
 have HR0 := Aside0.mk hr0
 have HC0 := Aside0.mk hc0
 clear hr0 hc0
 have HB := Aside0.mk (Below.refl w.heap.size w)
 have H : ((laws_szSealS.f l0 1048576).bind fun t218 => (if t218 < 0 then (some true) else ((laws_toSealS.f k l0).bind fun t219 => ((laws_toSeal.f a1_0 a1_1 a1_2 a1_3 a1_4 a1_5 a1_6).bind fun bt222 => ((spec_CacheWith.f k t219 bt222.1 bt222.2.1 bt222.2.2.1 bt222.2.2.2.1 bt222.2.2.2.2.1 bt222.2.2.2.2.2.1 bt222.2.2.2.2.2.2 a2).bind fun bt229 => ((laws_toSealS.f k l0).bind fun t233 => ((laws_toSeal.f a1_0 a1_1 a1_2 a1_3 a1_4 a1_5 a1_6).bind fun bt236 => ((impl_CacheWith.f k t233 bt236.1 bt236.2.1 bt236.2.2.1 bt236.2.2.2.1 bt236.2.2.2.2.1 bt236.2.2.2.2.2.1 bt236.2.2.2.2.2.2 a2).bind fun bt243 => ((laws_eqSealS.f k bt243.1 bt229.1).bind fun t247 => (if t247 = true then (laws_FnExactCacheWith.j0 k l0 a2 bt229.1 bt229.2 t233 bt243.1 bt243.2 (bt243.2 != bt229.2) a1_0 a1_1 a1_2 a1_3 a1_4 a1_5 a1_6) else (laws_FnExactCacheWith.j0 k l0 a2 bt229.1 bt229.2 t233 bt243.1 bt243.2 true a1_0 a1_1 a1_2 a1_3 a1_4 a1_5 a1_6))))))))))) = some r := h
 clear h
 replace H := Option.bind_eq_some_iff.mp H
 obtain ⟨t218, A40, H⟩ := H
 replace H : (if t218 < 0 then (some true) else ((laws_toSealS.f k l0).bind fun t219 => ((laws_toSeal.f a1_0 a1_1 a1_2 a1_3 a1_4 a1_5 a1_6).bind fun bt222 => ((spec_CacheWith.f k t219 bt222.1 bt222.2.1 bt222.2.2.1 bt222.2.2.2.1 bt222.2.2.2.2.1 bt222.2.2.2.2.2.1 bt222.2.2.2.2.2.2 a2).bind fun bt229 => ((laws_toSealS.f k l0).bind fun t233 => ((laws_toSeal.f a1_0 a1_1 a1_2 a1_3 a1_4 a1_5 a1_6).bind fun bt236 => ((impl_CacheWith.f k t233 bt236.1 bt236.2.1 bt236.2.2.1 bt236.2.2.2.1 bt236.2.2.2.2.1 bt236.2.2.2.2.2.1 bt236.2.2.2.2.2.2 a2).bind fun bt243 => ((laws_eqSealS.f k bt243.1 bt229.1).bind fun t247 => (if t247 = true then (laws_FnExactCacheWith.j0 k l0 a2 bt229.1 bt229.2 t233 bt243.1 bt243.2 (bt243.2 != bt229.2) a1_0 a1_1 a1_2 a1_3 a1_4 a1_5 a1_6) else (laws_FnExactCacheWith.j0 k l0 a2 bt229.1 bt229.2 t233 bt243.1 bt243.2 true a1_0 a1_1 a1_2 a1_3 a1_4 a1_5 a1_6)))))))))) = some r := H
 have A4 := Aside0.mk A40
 clear A40
 by_cases c5 : t218 < 0
 ·rw [if_pos c5] at H
  have c5b0 : decide (t218 < 0) = true := decide_eq_true c5
  clear c5
  obtain rfl := Option.some.inj H
  go_enter Try.func7, Try.ntmps7
  go_wp2_with (first | ((with_reducible refine gate_dst (N := 4) rfl ?_); refine box_event ?hg (N := 4) ?hd (cs := #[.int .i64 a1_0, .int .i64 a1_1, .int .i64 a1_2, .int .i64 a1_3, .int .i64 a1_4, .int .i64 a1_5, .int .i64 a1_6]) (t := 58) ?hr ?_; (case hd => rfl); (case hg => rfl); (case hr => first | (go_simp; done) | (go_simp; rfl)); intro gb217 hg w6 hbox hb; have n0_ := Aside0.mk (below_step (by repeat (first | (with_reducible first | exact HB.out | apply below_alloc | apply pw_below_drewN | apply below_drew1) | exact HB.out)) hb); have n1_ := Aside0.mk (hbox); have n2_ := Aside0.mk ((z25x2 : w.heap.size ≤ gb217)); have n3_ := Aside0.mk ((z25x2 : w.heap.size ≤ gb217)); clear HB; have HB := n0_; have BK217 := n1_; have GW217 := n2_; have GE217 := n3_; clear n0_ n1_ n2_ n3_; clear hb hbox hg) | ((with_reducible refine gate_callee (f := 23) rfl ?_); refine goesL_ (some 20) rfl rfl Try.func23 (by kernel_rfl) rfl #[.slice A0 l0.length c0, .int .i64 1048576] rfl z25x3 ?_; (with_reducible refine (laws_szSealS.calls _ _ l0 1048576 t218 _ ?side1 ?side2 A4.out).mono ?_); (case side1 => repeat (first | exact (Kd.C_below HR0.out HB.out) | (with_reducible refine Kd.C_alloc ?_ _) | (with_reducible refine Kd.C_drewN ?_ _) | (with_reducible refine Kd.C_drew ?_))); (case side2 => exact HC0.out); rintro e w' ⟨rfl, ⟨nd, rfl⟩⟩; refine ⟨_, rfl, ?_⟩))
  go_ret
  exact ⟨by first | rfl | (simp [errW_none, errW_some] <;> rfl) | (simp [*, errW_none, errW_some] <;> rfl), by repeat (first | (with_reducible first | exact HB.out | apply below_alloc | apply pw_below_drewN | apply below_drew1 | refine below_set ?_ GE217.out) | exact HB.out)⟩
 ·rw [if_neg c5] at H
  have c5b0 : decide (t218 < 0) = false := decide_eq_false c5
  clear c5
  replace H := Option.bind_eq_some_iff.mp H
  obtain ⟨t219, A70, H⟩ := H
  replace H : ((laws_toSeal.f a1_0 a1_1 a1_2 a1_3 a1_4 a1_5 a1_6).bind fun bt222 => ((spec_CacheWith.f k t219 bt222.1 bt222.2.1 bt222.2.2.1 bt222.2.2.2.1 bt222.2.2.2.2.1 bt222.2.2.2.2.2.1 bt222.2.2.2.2.2.2 a2).bind fun bt229 => ((laws_toSealS.f k l0).bind fun t233 => ((laws_toSeal.f a1_0 a1_1 a1_2 a1_3 a1_4 a1_5 a1_6).bind fun bt236 => ((impl_CacheWith.f k t233 bt236.1 bt236.2.1 bt236.2.2.1 bt236.2.2.2.1 bt236.2.2.2.2.1 bt236.2.2.2.2.2.1 bt236.2.2.2.2.2.2 a2).bind fun bt243 => ((laws_eqSealS.f k bt243.1 bt229.1).bind fun t247 => (if t247 = true then (laws_FnExactCacheWith.j0 k l0 a2 bt229.1 bt229.2 t233 bt243.1 bt243.2 (bt243.2 != bt229.2) a1_0 a1_1 a1_2 a1_3 a1_4 a1_5 a1_6) else (laws_FnExactCacheWith.j0 k l0 a2 bt229.1 bt229.2 t233 bt243.1 bt243.2 true a1_0 a1_1 a1_2 a1_3 a1_4 a1_5 a1_6)))))))) = some r := H
  have A7 := Aside0.mk A70
  clear A70
  replace H := Option.bind_eq_some_iff.mp H
  obtain ⟨⟨t222, t223, t224, t225, t226, t227, t228⟩, A80, H⟩ := H
  replace H : ((spec_CacheWith.f k t219 t222 t223 t224 t225 t226 t227 t228 a2).bind fun bt229 => ((laws_toSealS.f k l0).bind fun t233 => ((laws_toSeal.f a1_0 a1_1 a1_2 a1_3 a1_4 a1_5 a1_6).bind fun bt236 => ((impl_CacheWith.f k t233 bt236.1 bt236.2.1 bt236.2.2.1 bt236.2.2.2.1 bt236.2.2.2.2.1 bt236.2.2.2.2.2.1 bt236.2.2.2.2.2.2 a2).bind fun bt243 => ((laws_eqSealS.f k bt243.1 bt229.1).bind fun t247 => (if t247 = true then (laws_FnExactCacheWith.j0 k l0 a2 bt229.1 bt229.2 t233 bt243.1 bt243.2 (bt243.2 != bt229.2) a1_0 a1_1 a1_2 a1_3 a1_4 a1_5 a1_6) else (laws_FnExactCacheWith.j0 k l0 a2 bt229.1 bt229.2 t233 bt243.1 bt243.2 true a1_0 a1_1 a1_2 a1_3 a1_4 a1_5 a1_6))))))) = some r := H
  have A8 := Aside0.mk A80
  clear A80
  replace H := Option.bind_eq_some_iff.mp H
  obtain ⟨⟨t229, t232⟩, A90, H⟩ := H
  replace H : ((laws_toSealS.f k l0).bind fun t233 => ((laws_toSeal.f a1_0 a1_1 a1_2 a1_3 a1_4 a1_5 a1_6).bind fun bt236 => ((impl_CacheWith.f k t233 bt236.1 bt236.2.1 bt236.2.2.1 bt236.2.2.2.1 bt236.2.2.2.2.1 bt236.2.2.2.2.2.1 bt236.2.2.2.2.2.2 a2).bind fun bt243 => ((laws_eqSealS.f k bt243.1 t229).bind fun t247 => (if t247 = true then (laws_FnExactCacheWith.j0 k l0 a2 t229 t232 t233 bt243.1 bt243.2 (bt243.2 != t232) a1_0 a1_1 a1_2 a1_3 a1_4 a1_5 a1_6) else (laws_FnExactCacheWith.j0 k l0 a2 t229 t232 t233 bt243.1 bt243.2 true a1_0 a1_1 a1_2 a1_3 a1_4 a1_5 a1_6)))))) = some r := H
  have A9 := Aside0.mk A90
  clear A90
  replace H := Option.bind_eq_some_iff.mp H
  obtain ⟨t233, A100, H⟩ := H
  replace H : ((laws_toSeal.f a1_0 a1_1 a1_2 a1_3 a1_4 a1_5 a1_6).bind fun bt236 => ((impl_CacheWith.f k t233 bt236.1 bt236.2.1 bt236.2.2.1 bt236.2.2.2.1 bt236.2.2.2.2.1 bt236.2.2.2.2.2.1 bt236.2.2.2.2.2.2 a2).bind fun bt243 => ((laws_eqSealS.f k bt243.1 t229).bind fun t247 => (if t247 = true then (laws_FnExactCacheWith.j0 k l0 a2 t229 t232 t233 bt243.1 bt243.2 (bt243.2 != t232) a1_0 a1_1 a1_2 a1_3 a1_4 a1_5 a1_6) else (laws_FnExactCacheWith.j0 k l0 a2 t229 t232 t233 bt243.1 bt243.2 true a1_0 a1_1 a1_2 a1_3 a1_4 a1_5 a1_6))))) = some r := H
  have A10 := Aside0.mk A100
  clear A100
  replace H := Option.bind_eq_some_iff.mp H
  obtain ⟨⟨t236, t237, t238, t239, t240, t241, t242⟩, A110, H⟩ := H
  replace H : ((impl_CacheWith.f k t233 t236 t237 t238 t239 t240 t241 t242 a2).bind fun bt243 => ((laws_eqSealS.f k bt243.1 t229).bind fun t247 => (if t247 = true then (laws_FnExactCacheWith.j0 k l0 a2 t229 t232 t233 bt243.1 bt243.2 (bt243.2 != t232) a1_0 a1_1 a1_2 a1_3 a1_4 a1_5 a1_6) else (laws_FnExactCacheWith.j0 k l0 a2 t229 t232 t233 bt243.1 bt243.2 true a1_0 a1_1 a1_2 a1_3 a1_4 a1_5 a1_6)))) = some r := H
  have A11 := Aside0.mk A110
  clear A110
  replace H := Option.bind_eq_some_iff.mp H
  obtain ⟨⟨t243, t246⟩, A120, H⟩ := H
  replace H : ((laws_eqSealS.f k t243 t229).bind fun t247 => (if t247 = true then (laws_FnExactCacheWith.j0 k l0 a2 t229 t232 t233 t243 t246 (t246 != t232) a1_0 a1_1 a1_2 a1_3 a1_4 a1_5 a1_6) else (laws_FnExactCacheWith.j0 k l0 a2 t229 t232 t233 t243 t246 true a1_0 a1_1 a1_2 a1_3 a1_4 a1_5 a1_6))) = some r := H
  have A12 := Aside0.mk A120
  clear A120
  have HC13 := Aside0.mk H
  clear H
  go_enter Try.func7, Try.ntmps7
  try go_wp2_with (first | ((with_reducible refine gate_dst (N := 4) rfl ?_); refine box_event ?hg (N := 4) ?hd (cs := #[.int .i64 a1_0, .int .i64 a1_1, .int .i64 a1_2, .int .i64 a1_3, .int .i64 a1_4, .int .i64 a1_5, .int .i64 a1_6]) (t := 58) ?hr ?_; (case hd => rfl); (case hg => rfl); (case hr => first | (go_simp; done) | (go_simp; rfl)); intro gb217 hg w14 hbox hb; have n0_ := Aside0.mk (below_step (by repeat (first | (with_reducible first | exact HB.out | apply below_alloc | apply pw_below_drewN | apply below_drew1) | exact HB.out)) hb); have n1_ := Aside0.mk (hbox); have n2_ := Aside0.mk ((z25x2 : w.heap.size ≤ gb217)); have n3_ := Aside0.mk ((z25x2 : w.heap.size ≤ gb217)); clear HB; have HB := n0_; have BK217 := n1_; have GW217 := n2_; have GE217 := n3_; clear n0_ n1_ n2_ n3_; clear hb hbox hg) | ((with_reducible refine gate_callee (f := 23) rfl ?_); refine goesL_ (some 20) rfl rfl Try.func23 (by kernel_rfl) rfl #[.slice A0 l0.length c0, .int .i64 1048576] rfl z25x3 ?_; (with_reducible refine (laws_szSealS.calls _ _ l0 1048576 t218 _ ?side1 ?side2 A4.out).mono ?_); (case side1 => repeat (first | exact (Kd.C_below HR0.out HB.out) | (with_reducible refine Kd.C_alloc ?_ _) | (with_reducible refine Kd.C_drewN ?_ _) | (with_reducible refine Kd.C_drew ?_))); (case side2 => exact HC0.out); rintro e w' ⟨rfl, ⟨nd, rfl⟩⟩; refine ⟨_, rfl, ?_⟩))
  (try (rw [drewN_self w14]; generalize hq_ : World.drewN w14 _ = w14; have n0_ : Aside0 (w14.heap[gb217]? = some (.cells #[.int .i64 a1_0, .int .i64 a1_1, .int .i64 a1_2, .int .i64 a1_3, .int .i64 a1_4, .int .i64 a1_5, .int .i64 a1_6] 58 (0, 0))) := ⟨by rw [← hq_]; exact z25x4⟩; have n1_ : Aside0 (Below w.heap.size w w14) := ⟨by rw [← hq_]; exact z25x1⟩; clear BK217 HB hq_; have BK217 := n0_; have HB := n1_; clear n0_ n1_))
  have n0_ := Aside0.mk (blk_drew BK217.out)
  have n1_ := Aside0.mk (below_drew1 HB.out)
  clear BK217
  clear HB
  have BK217 := n0_
  have HB := n1_
  clear n0_ n1_
  refine start_ (n := 11) (S := fun w' => w'.cell? ⟨gb217, 0, none⟩ = some (.int .i64 a1_0) ∧ w'.cell? ⟨gb217, 1, none⟩ = some (.int .i64 a1_1) ∧ w'.cell? ⟨gb217, 2, none⟩ = some (.int .i64 a1_2) ∧ w'.cell? ⟨gb217, 3, none⟩ = some (.int .i64 a1_3) ∧ w'.cell? ⟨gb217, 4, none⟩ = some (.int .i64 a1_4) ∧ w'.cell? ⟨gb217, 5, none⟩ = some (.int .i64 a1_5) ∧ w'.cell? ⟨gb217, 6, none⟩ = some (.int .i64 a1_6)) (ds := []) #[false, false, false, false, false, false, false, false, false, false, false] (by kernel_rfl) rfl rfl ⟨(blk_cell BK217.out 0).trans rfl, (blk_cell BK217.out 1).trans rfl, (blk_cell BK217.out 2).trans rfl, (blk_cell BK217.out 3).trans rfl, (blk_cell BK217.out 4).trans rfl, (blk_cell BK217.out 5).trans rfl, (blk_cell BK217.out 6).trans rfl⟩ (fun hHeld => ?_); refine with_tabW laws_FnExactCacheWith.tab5 laws_FnExactCacheWith.bits5 (fun HT_ HW_ => ?_)
  generalize w14.drew = w15 at BK217 HB hHeld ⊢
  refine pure_ (i := 0) (N := some 24) (v := ?_) (a' := ?_) #[true, false, false, false, false, false, false, false, false, false, false] rfl rfl (any_of HT_.out (by kernel_rfl)) (fun _ _ _ h => h) (Or.inl ⟨by rfl, ?_⟩) ?_ ?_
  rotate_left
  ·intro w'
   go_simp
   with_reducible rfl
  rotate_left
  ·simp only [Act.put, List.setIfInBounds_toArray, List.set_cons_zero, List.set_cons_succ, i64_w, i32_w]
   rfl
  refine pure_ (i := 4) (N := some 28) (v := ?_) (a' := ?_) #[true, false, false, false, true, false, false, false, false, false, false] rfl rfl (any_of HT_.out (by kernel_rfl)) (fun _ _ _ h => h) (Or.inl ⟨by rfl, ?_⟩) ?_ ?_
  rotate_left
  ·intro w'
   go_simp
   with_reducible rfl
  rotate_left
  ·simp only [Act.put, List.setIfInBounds_toArray, List.set_cons_zero, List.set_cons_succ, i64_w, i32_w]
   rfl
  refine take_ (i := 2) (N := some 26) (v := ?_) (a' := ?_) #[true, false, true, false, true, false, false, false, false, false, false] rfl rfl (take_ofW HT_.out HW_.out (by kernel_rfl)) (fun _ _ _ h => h) (Or.inl ⟨by rfl, ?_⟩) hHeld ?_ ?_
  rotate_left
  ·rintro w' ⟨s0, s1, s2, s3, s4, s5, s6⟩
   go_simp
   with_reducible rfl
  rotate_left
  ·simp only [Act.put, List.setIfInBounds_toArray, List.set_cons_zero, List.set_cons_succ, i64_w, i32_w]
   rfl
  refine one_ (i := 1) (N := some 25) #[true, true, true, false, true, false, false, false, false, false, false] rfl rfl (one_of HT_.out (by kernel_rfl)) (by decide) (fun K hK => ?_)
  refine goes_ Try.func26 (by kernel_rfl) rfl #[.slice A0 l0.length c0] (by rfl) rfl rfl z25x3 ?_
  with_reducible refine (laws_toSealS.calls k _ _ l0 t219 _ ?side1 ?side2 A7.out).mono ?_
  (case side1 => repeat (first | exact (Kd.C_below HR0.out HB.out) | (with_reducible refine Kd.C_alloc ?_ _) | (with_reducible refine Kd.C_drewN ?_ _) | (with_reducible refine Kd.C_drew ?_)))
  (case side2 => exact HC0.out)
  rintro e w16 ⟨v220, rfl, ho0, hb⟩
  refine ⟨_, rfl, ?_⟩
  have n0_ := Aside0.mk (Kd.R_lower ho0 (below_size z25x1))
  have n1_ := Aside0.mk (blk_below (g := gb217) (o := .cells #[.int .i64 a1_0, .int .i64 a1_1, .int .i64 a1_2, .int .i64 a1_3, .int .i64 a1_4, .int .i64 a1_5, .int .i64 a1_6] 58 (0, 0)) z25x4 hb)
  have n2_ := Aside0.mk (below_step z25x1 hb)
  clear BK217
  clear HB
  have HO221 := n0_
  have BK217 := n1_
  have HB := n2_
  clear n0_ n1_ n2_
  (try clear hb)
  (try clear hb2)
  (try clear hk)
  (try clear hi)
  (try clear ho0)
  refine hK.out _ _ ⟨(blk_cell BK217.out 0).trans rfl, (blk_cell BK217.out 1).trans rfl, (blk_cell BK217.out 2).trans rfl, (blk_cell BK217.out 3).trans rfl, (blk_cell BK217.out 4).trans rfl, (blk_cell BK217.out 5).trans rfl, (blk_cell BK217.out 6).trans rfl⟩ (fun hHeld => ?_)
  clear hK K
  refine norm_ (a' := ?_) ?_ ?_
  rotate_left
  ·show Act.put _ (some 25) _ = _
   simp only [Act.put, List.setIfInBounds_toArray, List.set_cons_zero, List.set_cons_succ, i64_w, i32_w]
   rfl
  refine one_ (i := 3) (N := some 27) #[true, true, true, true, true, false, false, false, false, false, false] rfl rfl (one_of HT_.out (by kernel_rfl)) (by decide) (fun K hK => ?_)
  refine goes_ Try.func37 (by kernel_rfl) rfl #[.agg #[.int .i64 a1_0, .int .i64 a1_1, .int .i64 a1_2, .int .i64 a1_3, .int .i64 a1_4, .int .i64 a1_5, .int .i64 a1_6]] (by rfl) rfl rfl z25x3 ?_
  with_reducible refine (laws_toSeal.calls a1_0 a1_1 a1_2 a1_3 a1_4 a1_5 a1_6 t222 t223 t224 t225 t226 t227 t228 _ A8.out).mono ?_
  rintro e w17 ⟨rfl, hb⟩
  refine ⟨_, rfl, ?_⟩
  have n0_ := Aside0.mk (Kd.R_below z25x5 hb)
  have n1_ := Aside0.mk (blk_below (g := gb217) (o := .cells #[.int .i64 a1_0, .int .i64 a1_1, .int .i64 a1_2, .int .i64 a1_3, .int .i64 a1_4, .int .i64 a1_5, .int .i64 a1_6] 58 (0, 0)) z25x4 hb)
  have n2_ := Aside0.mk (below_step z25x1 hb)
  clear HO221
  clear BK217
  clear HB
  have HO221 := n0_
  have BK217 := n1_
  have HB := n2_
  clear n0_ n1_ n2_
  (try clear hb)
  (try clear hb2)
  (try clear hk)
  (try clear hi)
  obtain ⟨Ao18, co18, eo18⟩ := Kd.R_slice HO221.out
  (first | subst eo18 | (injection eo18 with f1_ f2_ f3_; have f4_ := f1_.symm; have f5_ := f3_.symm; clear f1_ f2_ f3_; subst f4_; subst f5_))
  refine hK.out _ _ ⟨(blk_cell BK217.out 0).trans rfl, (blk_cell BK217.out 1).trans rfl, (blk_cell BK217.out 2).trans rfl, (blk_cell BK217.out 3).trans rfl, (blk_cell BK217.out 4).trans rfl, (blk_cell BK217.out 5).trans rfl, (blk_cell BK217.out 6).trans rfl⟩ (fun hHeld => ?_)
  clear hK K
  refine norm_ (a' := ?_) ?_ ?_
  rotate_left
  ·show Act.put _ (some 27) _ = _
   simp only [Act.put, List.setIfInBounds_toArray, List.set_cons_zero, List.set_cons_succ, i64_w, i32_w]
   rfl
  refine one_ (i := 5) (N := some 29) #[true, true, true, true, true, true, false, false, false, false, false] rfl rfl (one_of HT_.out (by kernel_rfl)) (by decide) (fun K hK => ?_)
  refine goes_ Try.func36 (by kernel_rfl) rfl #[.slice Ao18 t219.length co18, .agg #[.int .i64 t222, .int .i64 t223, .int .i64 t224, .int .i64 t225, .int .i64 t226, .int .i64 t227, .int .i64 t228], .int .i64 a2] (by rfl) rfl rfl z25x3 ?_
  with_reducible refine (spec_CacheWith.calls k _ _ t219 t222 t223 t224 t225 t226 t227 t228 a2 t229 t232 _ ?side1 ?side2 A9.out).mono ?_
  (case side1 => repeat (first | exact (Kd.R_reads' HO221.out).2.2 | (with_reducible refine Kd.C_alloc ?_ _) | (with_reducible refine Kd.C_drewN ?_ _) | (with_reducible refine Kd.C_drew ?_)))
  (case side2 => first | exact (Kd.R_reads' HO221.out).2.1 | exact Nat.le_refl _)
  rintro e w19 ⟨v230, rfl, ho0, hb⟩
  refine ⟨_, rfl, ?_⟩
  have n0_ := Aside0.mk (Kd.R_elder' z25x5 (Kd.R_base ho0) hb)
  have n1_ := Aside0.mk (Kd.R_lower (Kd.R_new' ho0 (Kd.R_lt z25x5)) (below_size z25x1))
  have n2_ := Aside0.mk (blk_below (g := gb217) (o := .cells #[.int .i64 a1_0, .int .i64 a1_1, .int .i64 a1_2, .int .i64 a1_3, .int .i64 a1_4, .int .i64 a1_5, .int .i64 a1_6] 58 (0, 0)) z25x4 hb)
  have n3_ := Aside0.mk (below_step z25x1 hb)
  clear HO221
  clear BK217
  clear HB
  have HO221 := n0_
  have HO231 := n1_
  have BK217 := n2_
  have HB := n3_
  clear n0_ n1_ n2_ n3_
  (try clear hb)
  (try clear hb2)
  (try clear hk)
  (try clear hi)
  (try clear ho0)
  refine hK.out _ _ ⟨(blk_cell BK217.out 0).trans rfl, (blk_cell BK217.out 1).trans rfl, (blk_cell BK217.out 2).trans rfl, (blk_cell BK217.out 3).trans rfl, (blk_cell BK217.out 4).trans rfl, (blk_cell BK217.out 5).trans rfl, (blk_cell BK217.out 6).trans rfl⟩ (fun hHeld => ?_)
  clear hK K
  refine norm_ (a' := ?_) ?_ ?_
  rotate_left
  ·show Act.put _ (some 29) _ = _
   simp only [Act.put, List.setIfInBounds_toArray, List.set_cons_zero, List.set_cons_succ, i64_w, i32_w]
   rfl
  refine pure_ (i := 6) (N := some 23) (v := ?_) (a' := ?_) #[true, true, true, true, true, true, true, false, false, false, false] rfl rfl (any_of HT_.out (by kernel_rfl)) (fun _ _ _ h => h) (Or.inl ⟨by rfl, ?_⟩) ?_ ?_
  rotate_left
  ·intro w'
   go_simp
   with_reducible rfl
  rotate_left
  ·simp only [Act.put, List.setIfInBounds_toArray, List.set_cons_zero, List.set_cons_succ, i64_w, i32_w]
   rfl
  refine pure_ (i := 7) (N := some 30) (v := ?_) (a' := ?_) #[true, true, true, true, true, true, true, true, false, false, false] rfl rfl (any_of HT_.out (by kernel_rfl)) (fun _ _ _ h => h) (Or.inl ⟨by rfl, ?_⟩) ?_ ?_
  rotate_left
  ·intro w'
   go_simp
   with_reducible rfl
  rotate_left
  ·simp only [Act.put, List.setIfInBounds_toArray, List.set_cons_zero, List.set_cons_succ, i64_w, i32_w]
   rfl
  refine pure_ (i := 8) (N := some 31) (v := ?_) (a' := ?_) #[true, true, true, true, true, true, true, true, true, false, false] rfl rfl (any_of HT_.out (by kernel_rfl)) (fun _ _ _ h => h) (Or.inl ⟨by rfl, ?_⟩) ?_ ?_
  rotate_left
  ·intro w'
   go_simp
   with_reducible rfl
  rotate_left
  ·simp only [Act.put, List.setIfInBounds_toArray, List.set_cons_zero, List.set_cons_succ, i64_w, i32_w]
   rfl
  refine pure_ (i := 9) (N := some 8) (v := ?_) (a' := ?_) #[true, true, true, true, true, true, true, true, true, true, false] rfl rfl (any_of HT_.out (by kernel_rfl)) (fun _ _ _ h => h) (Or.inl ⟨by rfl, ?_⟩) ?_ ?_
  rotate_left
  ·intro w'
   go_simp
   with_reducible rfl
  rotate_left
  ·simp only [Act.put, List.setIfInBounds_toArray, List.set_cons_zero, List.set_cons_succ, i64_w, i32_w]
   rfl
  refine pure_ (i := 10) (N := some 9) (v := ?_) (a' := ?_) #[true, true, true, true, true, true, true, true, true, true, true] rfl rfl (any_of HT_.out (by kernel_rfl)) (fun _ _ _ h => h) (Or.inl ⟨by rfl, ?_⟩) ?_ ?_
  rotate_left
  ·intro w'
   go_simp
   with_reducible rfl
  rotate_left
  ·simp only [Act.put, List.setIfInBounds_toArray, List.set_cons_zero, List.set_cons_succ, i64_w, i32_w]
   rfl
  refine done_ (done_of HT_.out (by kernel_rfl)) ?_
  go_upto_region 8 with (first | ((with_reducible refine gate_callee (f := 26) rfl ?_); refine goesL_ (some 33) rfl rfl Try.func26 (by kernel_rfl) rfl #[.slice A0 l0.length c0] rfl z25x3 ?_; (with_reducible refine (laws_toSealS.calls k _ _ l0 t233 _ ?side1 ?side2 A10.out).mono ?_); (case side1 => repeat (first | exact (Kd.C_below HR0.out HB.out) | (with_reducible refine Kd.C_alloc ?_ _) | (with_reducible refine Kd.C_drewN ?_ _) | (with_reducible refine Kd.C_drew ?_))); (case side2 => exact HC0.out); rintro e w20 ⟨v234, rfl, ho0, hb⟩; refine ⟨_, rfl, ?_⟩; have n0_ := Aside0.mk (Kd.R_elder' z25x5 (Kd.R_base ho0) hb); have n1_ := Aside0.mk (Kd.R_elder' z25x6 (Kd.R_base ho0) hb); have n2_ := Aside0.mk (Kd.R_lower (Kd.R_new' (Kd.R_new' ho0 (Kd.R_lt z25x5)) (Kd.R_lt z25x6)) (below_size z25x1)); have n3_ := Aside0.mk (blk_below (g := gb217) (o := .cells #[.int .i64 a1_0, .int .i64 a1_1, .int .i64 a1_2, .int .i64 a1_3, .int .i64 a1_4, .int .i64 a1_5, .int .i64 a1_6] 58 (0, 0)) z25x4 hb); have n4_ := Aside0.mk (below_step z25x1 hb); clear HO221; clear HO231; clear BK217; clear HB; have HO221 := n0_; have HO231 := n1_; have HO235 := n2_; have BK217 := n3_; have HB := n4_; clear n0_ n1_ n2_ n3_ n4_; (try clear hb); (try clear hb2); (try clear hk); (try clear hi); (try clear ho0); have hcz21_0 : w20.cell? ⟨gb217, 0, none⟩ = some (.int .i64 a1_0) := (blk_cell BK217.out 0).trans rfl; have hcz21_1 : w20.cell? ⟨gb217, 1, none⟩ = some (.int .i64 a1_1) := (blk_cell BK217.out 1).trans rfl; have hcz21_2 : w20.cell? ⟨gb217, 2, none⟩ = some (.int .i64 a1_2) := (blk_cell BK217.out 2).trans rfl; have hcz21_3 : w20.cell? ⟨gb217, 3, none⟩ = some (.int .i64 a1_3) := (blk_cell BK217.out 3).trans rfl; have hcz21_4 : w20.cell? ⟨gb217, 4, none⟩ = some (.int .i64 a1_4) := (blk_cell BK217.out 4).trans rfl; have hcz21_5 : w20.cell? ⟨gb217, 5, none⟩ = some (.int .i64 a1_5) := (blk_cell BK217.out 5).trans rfl; have hcz21_6 : w20.cell? ⟨gb217, 6, none⟩ = some (.int .i64 a1_6) := (blk_cell BK217.out 6).trans rfl; have hfz21_0 := blk_frozen BK217.out 0; have hfz21_1 := blk_frozen BK217.out 1; have hfz21_2 := blk_frozen BK217.out 2; have hfz21_3 := blk_frozen BK217.out 3; have hfz21_4 := blk_frozen BK217.out 4; have hfz21_5 := blk_frozen BK217.out 5; have hfz21_6 := blk_frozen BK217.out 6) | ((with_reducible refine gate_callee (f := 37) rfl ?_); refine goesL_ (some 37) rfl rfl Try.func37 (by kernel_rfl) rfl #[.agg #[.int .i64 a1_0, .int .i64 a1_1, .int .i64 a1_2, .int .i64 a1_3, .int .i64 a1_4, .int .i64 a1_5, .int .i64 a1_6]] rfl z25x3 ?_; (with_reducible refine (laws_toSeal.calls a1_0 a1_1 a1_2 a1_3 a1_4 a1_5 a1_6 t236 t237 t238 t239 t240 t241 t242 _ A11.out).mono ?_); rintro e w22 ⟨rfl, hb⟩; refine ⟨_, rfl, ?_⟩; have n0_ := Aside0.mk (Kd.R_below z25x5 hb); have n1_ := Aside0.mk (Kd.R_below z25x6 hb); have n2_ := Aside0.mk (Kd.R_below z25x7 hb); have n3_ := Aside0.mk (blk_below (g := gb217) (o := .cells #[.int .i64 a1_0, .int .i64 a1_1, .int .i64 a1_2, .int .i64 a1_3, .int .i64 a1_4, .int .i64 a1_5, .int .i64 a1_6] 58 (0, 0)) z25x4 hb); have n4_ := Aside0.mk (below_step z25x1 hb); clear HO221; clear HO231; clear HO235; clear BK217; clear HB; have HO221 := n0_; have HO231 := n1_; have HO235 := n2_; have BK217 := n3_; have HB := n4_; clear n0_ n1_ n2_ n3_ n4_; (try clear hb); (try clear hb2); (try clear hk); (try clear hi); obtain ⟨Ao23, co23, eo23⟩ := Kd.R_slice HO235.out; subst eo23) | ((with_reducible refine gate_callee (f := 38) rfl ?_); refine goesL_ (some 39) rfl rfl Try.func38 (by kernel_rfl) rfl #[.slice Ao23 t233.length co23, .agg #[.int .i64 t236, .int .i64 t237, .int .i64 t238, .int .i64 t239, .int .i64 t240, .int .i64 t241, .int .i64 t242], .int .i64 a2] rfl z25x3 ?_; (with_reducible refine (impl_CacheWith.calls k _ _ t233 t236 t237 t238 t239 t240 t241 t242 a2 t243 t246 _ ?side1 ?side2 A12.out).mono ?_); (case side1 => repeat (first | exact (Kd.R_reads' HO235.out).2.2 | (with_reducible refine Kd.C_alloc ?_ _) | (with_reducible refine Kd.C_drewN ?_ _) | (with_reducible refine Kd.C_drew ?_))); (case side2 => first | exact (Kd.R_reads' HO235.out).2.1 | exact Nat.le_refl _); rintro e w24 ⟨v244, vcv244, rfl, hclv244, ho0, hb⟩; refine ⟨_, rfl, ?_⟩; have n0_ := Aside0.mk (Kd.R_elder' z25x5 (Kd.R_base ho0) hb); have n1_ := Aside0.mk (Kd.R_elder' z25x6 (Kd.R_base ho0) hb); have n2_ := Aside0.mk (Kd.R_elder' z25x7 (Kd.R_base ho0) hb); have n3_ := Aside0.mk (Kd.R_lower (Kd.R_new' (Kd.R_new' (Kd.R_new' ho0 (Kd.R_lt z25x5)) (Kd.R_lt z25x6)) (Kd.R_lt z25x7)) (below_size z25x1)); have n4_ := Aside0.mk (blk_below (g := gb217) (o := .cells #[.int .i64 a1_0, .int .i64 a1_1, .int .i64 a1_2, .int .i64 a1_3, .int .i64 a1_4, .int .i64 a1_5, .int .i64 a1_6] 58 (0, 0)) z25x4 hb); have n5_ := Aside0.mk (below_step z25x1 hb); clear HO221; clear HO231; clear HO235; clear BK217; clear HB; have HO221 := n0_; have HO231 := n1_; have HO235 := n2_; have HO245 := n3_; have BK217 := n4_; have HB := n5_; clear n0_ n1_ n2_ n3_ n4_ n5_; (try clear hb); (try clear hb2); (try clear hk); (try clear hi); (try clear ho0)))
  (try simp only [Act.put, List.setIfInBounds_toArray, List.set_cons_zero, List.set_cons_succ])
  go_cut [50] (fun v50 wc => ∃ (kq : Nat) (x50_12 : Bool), v50 = .bool x50_12 ∧ Aside0 (laws_FnExactCacheWith.j0 kq l0 a2 t229 t232 t233 t243 t246 x50_12 a1_0 a1_1 a1_2 a1_3 a1_4 a1_5 a1_6 = some r) ∧ Aside0 (kq ≤ k) ∧ Aside0 (Kd.R k41 41 wc w.heap.size (fun k_ => some k_ ≠ ((.slice Ao23 t233.length co23) : Value).ownBlock ∧ some k_ ≠ (v244 : Value).ownBlock) v230 t229) ∧ Aside0 (Kd.R k41 41 wc w.heap.size (fun k_ => some k_ ≠ (v230 : Value).ownBlock ∧ some k_ ≠ (v244 : Value).ownBlock) (.slice Ao23 t233.length co23) t233) ∧ Aside0 (Kd.R k41 41 wc w.heap.size (fun k_ => some k_ ≠ (v230 : Value).ownBlock ∧ some k_ ≠ ((.slice Ao23 t233.length co23) : Value).ownBlock) v244 t243) ∧ Aside0 (wc.heap[gb217]? = some (.cells #[.int .i64 a1_0, .int .i64 a1_1, .int .i64 a1_2, .int .i64 a1_3, .int .i64 a1_4, .int .i64 a1_5, .int .i64 a1_6] 58 (0, 0))) ∧ Aside0 (Below w.heap.size w wc))
  case first =>
   have H := HC13.out
   clear HC13
   replace H := Option.bind_eq_some_iff.mp H
   obtain ⟨t247, A250, H⟩ := H
   replace H : (if t247 = true then (laws_FnExactCacheWith.j0 k l0 a2 t229 t232 t233 t243 t246 (t246 != t232) a1_0 a1_1 a1_2 a1_3 a1_4 a1_5 a1_6) else (laws_FnExactCacheWith.j0 k l0 a2 t229 t232 t233 t243 t246 true a1_0 a1_1 a1_2 a1_3 a1_4 a1_5 a1_6)) = some r := H
   have A25 := Aside0.mk A250
   clear A250
   by_cases c26 : t247 = true
   ·subst c26
    rw [if_pos rfl] at H
    have H' := Aside0.mk H
    clear H
    obtain ⟨Ao27, co27, eo27⟩ := Kd.R_slice HO245.out
    subst eo27
    try obtain rfl := hclv244 _ _ _ rfl
    obtain ⟨Ao28, co28, eo28⟩ := Kd.R_slice HO231.out
    subst eo28
    try obtain rfl := hclv244 _ _ _ rfl
    go_wp2_with (first | ((with_reducible refine gate_callee (f := 29) rfl ?_); refine goesL_ (some 44) rfl rfl Try.func29 (by kernel_rfl) rfl #[.slice Ao27 t243.length t243.length, .slice Ao28 t229.length co28] rfl z25x3 ?_; (with_reducible refine (laws_eqSealS.calls k _ _ t243 _ _ t229 true _ ?side1 ?side2 ?side3 ?side4 A25.out).mono ?_); (case side1 => repeat (first | exact (Kd.R_reads' HO245.out).2.2 | (with_reducible refine Kd.C_alloc ?_ _) | (with_reducible refine Kd.C_drewN ?_ _) | (with_reducible refine Kd.C_drew ?_))); (case side2 => first | exact (Kd.R_reads' HO245.out).2.1 | exact Nat.le_refl _); (case side3 => repeat (first | exact (Kd.R_reads' HO231.out).2.2 | (with_reducible refine Kd.C_alloc ?_ _) | (with_reducible refine Kd.C_drewN ?_ _) | (with_reducible refine Kd.C_drew ?_))); (case side4 => first | exact (Kd.R_reads' HO231.out).2.1 | exact Nat.le_refl _); rintro e w29 ⟨rfl, hb⟩; refine ⟨_, rfl, ?_⟩; have n0_ := Aside0.mk (Kd.R_below z25x5 hb); have n1_ := Aside0.mk (Kd.R_below z25x6 hb); have n2_ := Aside0.mk (Kd.R_below z25x7 hb); have n3_ := Aside0.mk (Kd.R_below (by (with_reducible repeat (first | apply Kd.R_alloc | apply Kd.R_drewN | apply Kd.R_drew)); exact HO245.out) hb); have n4_ := Aside0.mk (blk_below (g := gb217) (o := .cells #[.int .i64 a1_0, .int .i64 a1_1, .int .i64 a1_2, .int .i64 a1_3, .int .i64 a1_4, .int .i64 a1_5, .int .i64 a1_6] 58 (0, 0)) z25x4 hb); have n5_ := Aside0.mk (below_step z25x1 hb); clear HO221; clear HO231; clear HO235; clear HO245; clear BK217; clear HB; have HO221 := n0_; have HO231 := n1_; have HO235 := n2_; have HO245 := n3_; have BK217 := n4_; have HB := n5_; clear n0_ n1_ n2_ n3_ n4_ n5_; (try clear hb); (try clear hb2); (try clear hk); (try clear hi)))
    go_meet
    case rel => exact ⟨_, ((t246 != t232)), (by first | rfl | (simp; done) | (simp [*]; done)), H', ⟨by first | omega | exact Nat.le_refl _⟩, ⟨by (with_reducible repeat (first | apply Kd.R_alloc | apply Kd.R_drewN | apply Kd.R_drew)); exact Kd.R_mono HO231.out (fun _ hk => ⟨hk.1.2, hk.2⟩)⟩, ⟨by (with_reducible repeat (first | apply Kd.R_alloc | apply Kd.R_drewN | apply Kd.R_drew)); exact Kd.R_mono HO235.out (fun _ hk => ⟨hk.1.2, hk.2⟩)⟩, ⟨by (with_reducible repeat (first | apply Kd.R_alloc | apply Kd.R_drewN | apply Kd.R_drew)); exact Kd.R_mono HO245.out (fun _ hk => ⟨hk.1.2, hk.2⟩)⟩, ⟨by (with_reducible repeat (first | refine blk_drewN ?_ _ | refine blk_drew ?_ | refine blk_alloc ?_ _)); exact BK217.out⟩, ⟨by repeat (first | (with_reducible first | exact HB.out | apply below_alloc | apply pw_below_drewN | apply below_drew1 | refine below_set ?_ GE217.out) | exact HB.out)⟩⟩
   ·replace c26 := Bool.eq_false_iff.mpr c26
    subst c26
    rw [if_neg (show ¬ (false = true) by decide)] at H
    have H' := Aside0.mk H
    clear H
    obtain ⟨Ao30, co30, eo30⟩ := Kd.R_slice HO245.out
    subst eo30
    try obtain rfl := hclv244 _ _ _ rfl
    obtain ⟨Ao31, co31, eo31⟩ := Kd.R_slice HO231.out
    subst eo31
    try obtain rfl := hclv244 _ _ _ rfl
    go_wp2_with (first | ((with_reducible refine gate_callee (f := 29) rfl ?_); refine goesL_ (some 44) rfl rfl Try.func29 (by kernel_rfl) rfl #[.slice Ao30 t243.length t243.length, .slice Ao31 t229.length co31] rfl z25x3 ?_; (with_reducible refine (laws_eqSealS.calls k _ _ t243 _ _ t229 false _ ?side1 ?side2 ?side3 ?side4 A25.out).mono ?_); (case side1 => repeat (first | exact (Kd.R_reads' HO245.out).2.2 | (with_reducible refine Kd.C_alloc ?_ _) | (with_reducible refine Kd.C_drewN ?_ _) | (with_reducible refine Kd.C_drew ?_))); (case side2 => first | exact (Kd.R_reads' HO245.out).2.1 | exact Nat.le_refl _); (case side3 => repeat (first | exact (Kd.R_reads' HO231.out).2.2 | (with_reducible refine Kd.C_alloc ?_ _) | (with_reducible refine Kd.C_drewN ?_ _) | (with_reducible refine Kd.C_drew ?_))); (case side4 => first | exact (Kd.R_reads' HO231.out).2.1 | exact Nat.le_refl _); rintro e w32 ⟨rfl, hb⟩; refine ⟨_, rfl, ?_⟩; have n0_ := Aside0.mk (Kd.R_below z25x5 hb); have n1_ := Aside0.mk (Kd.R_below z25x6 hb); have n2_ := Aside0.mk (Kd.R_below z25x7 hb); have n3_ := Aside0.mk (Kd.R_below (by (with_reducible repeat (first | apply Kd.R_alloc | apply Kd.R_drewN | apply Kd.R_drew)); exact HO245.out) hb); have n4_ := Aside0.mk (blk_below (g := gb217) (o := .cells #[.int .i64 a1_0, .int .i64 a1_1, .int .i64 a1_2, .int .i64 a1_3, .int .i64 a1_4, .int .i64 a1_5, .int .i64 a1_6] 58 (0, 0)) z25x4 hb); have n5_ := Aside0.mk (below_step z25x1 hb); clear HO221; clear HO231; clear HO235; clear HO245; clear BK217; clear HB; have HO221 := n0_; have HO231 := n1_; have HO235 := n2_; have HO245 := n3_; have BK217 := n4_; have HB := n5_; clear n0_ n1_ n2_ n3_ n4_ n5_; (try clear hb); (try clear hb2); (try clear hk); (try clear hi)))
    go_meet
    case rel => exact ⟨_, (true), (by first | rfl | (simp; done) | (simp [*]; done)), H', ⟨by first | omega | exact Nat.le_refl _⟩, ⟨by (with_reducible repeat (first | apply Kd.R_alloc | apply Kd.R_drewN | apply Kd.R_drew)); exact Kd.R_mono HO231.out (fun _ hk => ⟨hk.1.2, hk.2⟩)⟩, ⟨by (with_reducible repeat (first | apply Kd.R_alloc | apply Kd.R_drewN | apply Kd.R_drew)); exact Kd.R_mono HO235.out (fun _ hk => ⟨hk.1.2, hk.2⟩)⟩, ⟨by (with_reducible repeat (first | apply Kd.R_alloc | apply Kd.R_drewN | apply Kd.R_drew)); exact Kd.R_mono HO245.out (fun _ hk => ⟨hk.1.2, hk.2⟩)⟩, ⟨by (with_reducible repeat (first | refine blk_drewN ?_ _ | refine blk_drew ?_ | refine blk_alloc ?_ _)); exact BK217.out⟩, ⟨by repeat (first | (with_reducible first | exact HB.out | apply below_alloc | apply pw_below_drewN | apply below_drew1 | refine below_set ?_ GE217.out) | exact HB.out)⟩⟩
  case rest =>
   clear HC13
   try clear c2
   try clear p2
   try clear c3
   try clear c5
   try clear c5b0
   try clear c7
   try clear c23
   try clear c26
   try clear c29
   try clear hcz21_0
   try clear hcz21_1
   try clear hcz21_2
   try clear hcz21_3
   try clear hcz21_4
   try clear hcz21_5
   try clear hcz21_6
   try clear hfz21_0
   try clear hfz21_1
   try clear hfz21_2
   try clear hfz21_3
   try clear hfz21_4
   try clear hfz21_5
   try clear hfz21_6
   obtain ⟨kq, x50_12, rfl, HA, HJ12, HO_8, HO_10, HO_11, BK217, HB⟩ := hcut
   cases kq with
   | zero => exact absurd HA.out (by simp [laws_FnExactCacheWith.j0])
   | succ kj12 =>
    have H := HA.out
    clear HA
    simp only [laws_FnExactCacheWith.j0] at H
    by_cases c33 : x50_12 = true
    ·subst c33
     rw [if_pos rfl] at H
     obtain rfl := Option.some.inj H
     go_wp2
     go_ret
     exact ⟨by first | rfl | (simp [errW_none, errW_some] <;> rfl) | (simp [*, errW_none, errW_some] <;> rfl), by repeat (first | (with_reducible first | exact HB.out | apply below_alloc | apply pw_below_drewN | apply below_drew1 | refine below_set ?_ GE217.out) | exact HB.out)⟩
    ·replace c33 := Bool.eq_false_iff.mpr c33
     subst c33
     rw [if_neg (show ¬ (false = true) by decide)] at H
     replace H := Option.bind_eq_some_iff.mp H
     obtain ⟨t248, A340, H⟩ := H
     replace H : ((laws_eqSealS.f kj12 t233 t248).bind fun t251 => (if t251 = true then ((laws_markSealS.f kj12 t233 1).bind fun bt252 => (if bt252.1 < 0 then (laws_FnExactCacheWith.j1 kj12 l0 a2 t229 t232 t243 true a1_0 a1_1 a1_2 a1_3 a1_4 a1_5 a1_6) else ((laws_eqSealS.f kj12 t243 t229).bind fun t254 => (if t254 = true then (laws_FnExactCacheWith.j1 kj12 l0 a2 t229 t232 t243 (t246 != t232) a1_0 a1_1 a1_2 a1_3 a1_4 a1_5 a1_6) else (laws_FnExactCacheWith.j1 kj12 l0 a2 t229 t232 t243 true a1_0 a1_1 a1_2 a1_3 a1_4 a1_5 a1_6))))) else (some false))) = some r := H
     have A34 := Aside0.mk A340
     clear A340
     replace H := Option.bind_eq_some_iff.mp H
     obtain ⟨t251, A350, H⟩ := H
     replace H : (if t251 = true then ((laws_markSealS.f kj12 t233 1).bind fun bt252 => (if bt252.1 < 0 then (laws_FnExactCacheWith.j1 kj12 l0 a2 t229 t232 t243 true a1_0 a1_1 a1_2 a1_3 a1_4 a1_5 a1_6) else ((laws_eqSealS.f kj12 t243 t229).bind fun t254 => (if t254 = true then (laws_FnExactCacheWith.j1 kj12 l0 a2 t229 t232 t243 (t246 != t232) a1_0 a1_1 a1_2 a1_3 a1_4 a1_5 a1_6) else (laws_FnExactCacheWith.j1 kj12 l0 a2 t229 t232 t243 true a1_0 a1_1 a1_2 a1_3 a1_4 a1_5 a1_6))))) else (some false)) = some r := H
     have A35 := Aside0.mk A350
     clear A350
     by_cases c36 : t251 = true
     ·subst c36
      rw [if_pos rfl] at H
      replace H := Option.bind_eq_some_iff.mp H
      obtain ⟨⟨t252, t253⟩, A370, H⟩ := H
      replace H : (if t252 < 0 then (laws_FnExactCacheWith.j1 kj12 l0 a2 t229 t232 t243 true a1_0 a1_1 a1_2 a1_3 a1_4 a1_5 a1_6) else ((laws_eqSealS.f kj12 t243 t229).bind fun t254 => (if t254 = true then (laws_FnExactCacheWith.j1 kj12 l0 a2 t229 t232 t243 (t246 != t232) a1_0 a1_1 a1_2 a1_3 a1_4 a1_5 a1_6) else (laws_FnExactCacheWith.j1 kj12 l0 a2 t229 t232 t243 true a1_0 a1_1 a1_2 a1_3 a1_4 a1_5 a1_6)))) = some r := H
      have A37 := Aside0.mk A370
      clear A370
      have HC38 := Aside0.mk H
      clear H
      go_upto_region 14 with (first | ((with_reducible refine gate_callee (f := 26) rfl ?_); refine goesL_ (some 53) rfl rfl Try.func26 (by kernel_rfl) rfl #[.slice A0 l0.length c0] rfl z25x3 ?_; (with_reducible refine (laws_toSealS.calls kj12 _ _ l0 t248 _ ?side1 ?side2 A34.out).mono ?_); (case side1 => repeat (first | exact (Kd.C_below HR0.out HB.out) | (with_reducible refine Kd.C_alloc ?_ _) | (with_reducible refine Kd.C_drewN ?_ _) | (with_reducible refine Kd.C_drew ?_))); (case side2 => exact HC0.out); rintro e w39 ⟨v249, rfl, ho0, hb⟩; refine ⟨_, rfl, ?_⟩; have n0_ := Aside0.mk (Kd.R_elder' z25x12 (Kd.R_base ho0) hb); have n1_ := Aside0.mk (Kd.R_elder' z25x10 (Kd.R_base ho0) hb); have n2_ := Aside0.mk (Kd.R_elder' z25x11 (Kd.R_base ho0) hb); have n3_ := Aside0.mk (Kd.R_lower (Kd.R_new' (Kd.R_new' (Kd.R_new' ho0 (Kd.R_lt z25x12)) (Kd.R_lt z25x10)) (Kd.R_lt z25x11)) (below_size z25x1)); have n4_ := Aside0.mk (blk_below (g := gb217) (o := .cells #[.int .i64 a1_0, .int .i64 a1_1, .int .i64 a1_2, .int .i64 a1_3, .int .i64 a1_4, .int .i64 a1_5, .int .i64 a1_6] 58 (0, 0)) z25x4 hb); have n5_ := Aside0.mk (below_step z25x1 hb); clear HO_8; clear HO_10; clear HO_11; clear BK217; clear HB; have HO_8 := n0_; have HO_10 := n1_; have HO_11 := n2_; have HO250 := n3_; have BK217 := n4_; have HB := n5_; clear n0_ n1_ n2_ n3_ n4_ n5_; (try clear hb); (try clear hb2); (try clear hk); (try clear hi); (try clear ho0); obtain ⟨Ao40, co40, eo40⟩ := Kd.R_slice HO250.out; subst eo40; try obtain rfl := hclv244 _ _ _ rfl) | ((with_reducible refine gate_callee (f := 29) rfl ?_); refine goesL_ (some 54) rfl rfl Try.func29 (by kernel_rfl) rfl #[.slice Ao23 t233.length co23, .slice Ao40 t248.length co40] rfl z25x3 ?_; (with_reducible refine (laws_eqSealS.calls kj12 _ _ t233 _ _ t248 true _ ?side1 ?side2 ?side3 ?side4 A35.out).mono ?_); (case side1 => repeat (first | exact (Kd.R_reads' HO_10.out).2.2 | (with_reducible refine Kd.C_alloc ?_ _) | (with_reducible refine Kd.C_drewN ?_ _) | (with_reducible refine Kd.C_drew ?_))); (case side2 => first | exact (Kd.R_reads' HO_10.out).2.1 | exact Nat.le_refl _); (case side3 => repeat (first | exact (Kd.R_reads' HO250.out).2.2 | (with_reducible refine Kd.C_alloc ?_ _) | (with_reducible refine Kd.C_drewN ?_ _) | (with_reducible refine Kd.C_drew ?_))); (case side4 => first | exact (Kd.R_reads' HO250.out).2.1 | exact Nat.le_refl _); rintro e w41 ⟨rfl, hb⟩; refine ⟨_, rfl, ?_⟩; have n0_ := Aside0.mk (Kd.R_below z25x12 hb); have n1_ := Aside0.mk (Kd.R_below z25x10 hb); have n2_ := Aside0.mk (Kd.R_below z25x11 hb); have n3_ := Aside0.mk (Kd.R_below z25x8 hb); have n4_ := Aside0.mk (blk_below (g := gb217) (o := .cells #[.int .i64 a1_0, .int .i64 a1_1, .int .i64 a1_2, .int .i64 a1_3, .int .i64 a1_4, .int .i64 a1_5, .int .i64 a1_6] 58 (0, 0)) z25x4 hb); have n5_ := Aside0.mk (below_step z25x1 hb); clear HO_8; clear HO_10; clear HO_11; clear HO250; clear BK217; clear HB; have HO_8 := n0_; have HO_10 := n1_; have HO_11 := n2_; have HO250 := n3_; have BK217 := n4_; have HB := n5_; clear n0_ n1_ n2_ n3_ n4_ n5_; (try clear hb); (try clear hb2); (try clear hk); (try clear hi)) | ((with_reducible refine gate_callee (f := 31) rfl ?_); refine goesL_ (some 58) rfl rfl Try.func31 (by kernel_rfl) rfl #[.slice Ao23 t233.length co23, .int .i64 1] rfl z25x3 ?_; (with_reducible refine (laws_markSealS.calls kj12 (fun k_ => some k_ = (.slice Ao23 t233.length co23 : Value).ownBlock) (.slice Ao23 t233.length co23) t233 1 t252 t253 w _ ?side1 ?side2 A37.out).mono ?_); (case side1 => repeat (first | (with_reducible first | exact HB.out | apply below_alloc | apply pw_below_drewN | apply below_drew1 | refine below_set ?_ GE217.out) | exact HB.out)); (case side2 => exact Kd.R_tight rfl HO_10.out); rintro e w42 ⟨rfl, hy0, hb, hkp⟩; refine ⟨_, rfl, ?_⟩; have n0_ := Aside0.mk (Kd.R_mono (ok' := fun k_ => some k_ ≠ (.slice Ao23 t233.length co23 : Value).ownBlock ∧ some k_ ≠ (v244 : Value).ownBlock ∧ some k_ ≠ (.slice Ao40 t248.length co40 : Value).ownBlock) (Kd.R_keptB (HO_8.out) hkp (fun k_ hk_ hs_ => (hk_.1.1) hs_)) (fun k_ hk_ => ⟨hk_.1.1.1, hk_.1.1.2, hk_.1.2⟩)); have n1_ := Aside0.mk (Kd.R_reok rfl hy0 (fun k_ e_ => HO_10.out.1 k_ e_)); have n2_ := Aside0.mk (Kd.R_mono (ok' := fun k_ => some k_ ≠ (v230 : Value).ownBlock ∧ some k_ ≠ (.slice Ao23 t233.length co23 : Value).ownBlock ∧ some k_ ≠ (.slice Ao40 t248.length co40 : Value).ownBlock) (Kd.R_keptB (HO_11.out) hkp (fun k_ hk_ hs_ => (hk_.1.2) hs_)) (fun k_ hk_ => ⟨hk_.1.1.1, hk_.1.1.2, hk_.1.2⟩)); have n3_ := Aside0.mk (blk_kept z25x4 hkp (fun hs_ => (fun e_ => (Kd.R_ne HO_10.out BK217.out (by decide)) e_) hs_)); have n4_ := Aside0.mk (Kd.R_mono (ok' := fun k_ => some k_ ≠ (v230 : Value).ownBlock ∧ some k_ ≠ (.slice Ao23 t233.length co23 : Value).ownBlock ∧ some k_ ≠ (v244 : Value).ownBlock) (Kd.R_keptB (HO250.out) hkp (fun k_ hk_ hs_ => (hk_.1.2) hs_)) (fun k_ hk_ => ⟨hk_.1.1.1.2, hk_.1.1.2, hk_.1.2⟩)); have n5_ := Aside0.mk (hb); clear HO_8; clear HO_10; clear HO_11; clear BK217; clear HO250; clear HB; have HO_8 := n0_; have HO_10 := n1_; have HO_11 := n2_; have BK217 := n3_; have HO250 := n4_; have HB := n5_; clear n0_ n1_ n2_ n3_ n4_ n5_; (try clear hb); (try clear hkp); (try clear hy0)))
      (try simp only [Act.put, List.setIfInBounds_toArray, List.set_cons_zero, List.set_cons_succ])
      go_cut [71] (fun v71 wc => ∃ (kq : Nat) (x71_37 : Bool), v71 = .bool x71_37 ∧ Aside0 (laws_FnExactCacheWith.j1 kq l0 a2 t229 t232 t243 x71_37 a1_0 a1_1 a1_2 a1_3 a1_4 a1_5 a1_6 = some r) ∧ Aside0 (kq ≤ kj12) ∧ Aside0 (Kd.R k41 41 wc w.heap.size (fun k_ => some k_ ≠ (v244 : Value).ownBlock) v230 t229) ∧ Aside0 (Kd.R k41 41 wc w.heap.size (fun k_ => some k_ ≠ (v230 : Value).ownBlock) v244 t243) ∧ Aside0 (wc.heap[gb217]? = some (.cells #[.int .i64 a1_0, .int .i64 a1_1, .int .i64 a1_2, .int .i64 a1_3, .int .i64 a1_4, .int .i64 a1_5, .int .i64 a1_6] 58 (0, 0))) ∧ Aside0 (Below w.heap.size w wc))
      case first =>
       have H := HC38.out
       clear HC38
       by_cases c43 : t252 < 0
       ·rw [if_pos c43] at H
        have c43b0 : decide (t252 < 0) = true := decide_eq_true c43
        clear c43
        (first | rw [c43b0] | (simp only [i64_w, i32_w]; rw [c43b0]) | skip)
        have H' := Aside0.mk H
        clear H
        go_wp2
        go_meet
        case rel => exact ⟨_, (true), (by first | rfl | (simp; done) | (simp [*]; done)), H', ⟨by have := HJ12.out; first | omega | exact Nat.le_refl _⟩, ⟨by (with_reducible repeat (first | apply Kd.R_alloc | apply Kd.R_drewN | apply Kd.R_drew)); exact Kd.R_mono HO_8.out (fun _ hk => hk.2.1)⟩, ⟨by (with_reducible repeat (first | apply Kd.R_alloc | apply Kd.R_drewN | apply Kd.R_drew)); exact Kd.R_mono HO_11.out (fun _ hk => hk.1)⟩, ⟨by (with_reducible repeat (first | refine blk_drewN ?_ _ | refine blk_drew ?_ | refine blk_alloc ?_ _)); exact BK217.out⟩, ⟨by repeat (first | (with_reducible first | exact HB.out | apply below_alloc | apply pw_below_drewN | apply below_drew1 | refine below_set ?_ GE217.out) | exact HB.out)⟩⟩
       ·rw [if_neg c43] at H
        have c43b0 : decide (t252 < 0) = false := decide_eq_false c43
        clear c43
        (first | rw [c43b0] | (simp only [i64_w, i32_w]; rw [c43b0]) | skip)
        replace H := Option.bind_eq_some_iff.mp H
        obtain ⟨t254, A440, H⟩ := H
        replace H : (if t254 = true then (laws_FnExactCacheWith.j1 kj12 l0 a2 t229 t232 t243 (t246 != t232) a1_0 a1_1 a1_2 a1_3 a1_4 a1_5 a1_6) else (laws_FnExactCacheWith.j1 kj12 l0 a2 t229 t232 t243 true a1_0 a1_1 a1_2 a1_3 a1_4 a1_5 a1_6)) = some r := H
        have A44 := Aside0.mk A440
        clear A440
        by_cases c45 : t254 = true
        ·subst c45
         rw [if_pos rfl] at H
         have H' := Aside0.mk H
         clear H
         obtain ⟨Ao46, co46, eo46⟩ := Kd.R_slice HO_11.out
         subst eo46
         try obtain rfl := hclv244 _ _ _ rfl
         obtain ⟨Ao47, co47, eo47⟩ := Kd.R_slice HO_8.out
         subst eo47
         try obtain rfl := hclv244 _ _ _ rfl
         go_wp2_with (first | (go_at_call 29; (with_reducible refine (laws_eqSealS.calls kj12 _ _ t243 _ _ t229 true _ ?side1 ?side2 ?side3 ?side4 A44.out).mono ?_); (case side1 => repeat (first | exact (Kd.R_reads' HO_11.out).2.2 | (with_reducible refine Kd.C_alloc ?_ _) | (with_reducible refine Kd.C_drewN ?_ _) | (with_reducible refine Kd.C_drew ?_))); (case side2 => first | exact (Kd.R_reads' HO_11.out).2.1 | exact Nat.le_refl _); (case side3 => repeat (first | exact (Kd.R_reads' HO_8.out).2.2 | (with_reducible refine Kd.C_alloc ?_ _) | (with_reducible refine Kd.C_drewN ?_ _) | (with_reducible refine Kd.C_drew ?_))); (case side4 => first | exact (Kd.R_reads' HO_8.out).2.1 | exact Nat.le_refl _); rintro e w48 ⟨rfl, hb⟩; have n0_ := Aside0.mk (Kd.R_below z25x12 hb); have n1_ := Aside0.mk (Kd.R_below z25x10 hb); have n2_ := Aside0.mk (Kd.R_below z25x11 hb); have n3_ := Aside0.mk (Kd.R_below z25x8 hb); have n4_ := Aside0.mk (blk_below (g := gb217) (o := .cells #[.int .i64 a1_0, .int .i64 a1_1, .int .i64 a1_2, .int .i64 a1_3, .int .i64 a1_4, .int .i64 a1_5, .int .i64 a1_6] 58 (0, 0)) z25x4 hb); have n5_ := Aside0.mk (below_step z25x1 hb); clear HO_8; clear HO_10; clear HO_11; clear HO250; clear BK217; clear HB; have HO_8 := n0_; have HO_10 := n1_; have HO_11 := n2_; have HO250 := n3_; have BK217 := n4_; have HB := n5_; clear n0_ n1_ n2_ n3_ n4_ n5_; (try clear hb); (try clear hb2); (try clear hk); (try clear hi)))
         go_meet
         case rel => exact ⟨_, ((t246 != t232)), (by first | rfl | (simp; done) | (simp [*]; done)), H', ⟨by have := HJ12.out; first | omega | exact Nat.le_refl _⟩, ⟨by (with_reducible repeat (first | apply Kd.R_alloc | apply Kd.R_drewN | apply Kd.R_drew)); exact Kd.R_mono HO_8.out (fun _ hk => hk.2.1)⟩, ⟨by (with_reducible repeat (first | apply Kd.R_alloc | apply Kd.R_drewN | apply Kd.R_drew)); exact Kd.R_mono HO_11.out (fun _ hk => hk.1)⟩, ⟨by (with_reducible repeat (first | refine blk_drewN ?_ _ | refine blk_drew ?_ | refine blk_alloc ?_ _)); exact BK217.out⟩, ⟨by repeat (first | (with_reducible first | exact HB.out | apply below_alloc | apply pw_below_drewN | apply below_drew1 | refine below_set ?_ GE217.out) | exact HB.out)⟩⟩
        ·replace c45 := Bool.eq_false_iff.mpr c45
         subst c45
         rw [if_neg (show ¬ (false = true) by decide)] at H
         have H' := Aside0.mk H
         clear H
         obtain ⟨Ao49, co49, eo49⟩ := Kd.R_slice HO_11.out
         subst eo49
         try obtain rfl := hclv244 _ _ _ rfl
         obtain ⟨Ao50, co50, eo50⟩ := Kd.R_slice HO_8.out
         subst eo50
         try obtain rfl := hclv244 _ _ _ rfl
         go_wp2_with (first | (go_at_call 29; (with_reducible refine (laws_eqSealS.calls kj12 _ _ t243 _ _ t229 false _ ?side1 ?side2 ?side3 ?side4 A44.out).mono ?_); (case side1 => repeat (first | exact (Kd.R_reads' HO_11.out).2.2 | (with_reducible refine Kd.C_alloc ?_ _) | (with_reducible refine Kd.C_drewN ?_ _) | (with_reducible refine Kd.C_drew ?_))); (case side2 => first | exact (Kd.R_reads' HO_11.out).2.1 | exact Nat.le_refl _); (case side3 => repeat (first | exact (Kd.R_reads' HO_8.out).2.2 | (with_reducible refine Kd.C_alloc ?_ _) | (with_reducible refine Kd.C_drewN ?_ _) | (with_reducible refine Kd.C_drew ?_))); (case side4 => first | exact (Kd.R_reads' HO_8.out).2.1 | exact Nat.le_refl _); rintro e w51 ⟨rfl, hb⟩; have n0_ := Aside0.mk (Kd.R_below z25x12 hb); have n1_ := Aside0.mk (Kd.R_below z25x10 hb); have n2_ := Aside0.mk (Kd.R_below z25x11 hb); have n3_ := Aside0.mk (Kd.R_below z25x8 hb); have n4_ := Aside0.mk (blk_below (g := gb217) (o := .cells #[.int .i64 a1_0, .int .i64 a1_1, .int .i64 a1_2, .int .i64 a1_3, .int .i64 a1_4, .int .i64 a1_5, .int .i64 a1_6] 58 (0, 0)) z25x4 hb); have n5_ := Aside0.mk (below_step z25x1 hb); clear HO_8; clear HO_10; clear HO_11; clear HO250; clear BK217; clear HB; have HO_8 := n0_; have HO_10 := n1_; have HO_11 := n2_; have HO250 := n3_; have BK217 := n4_; have HB := n5_; clear n0_ n1_ n2_ n3_ n4_ n5_; (try clear hb); (try clear hb2); (try clear hk); (try clear hi)))
         go_meet
         case rel => exact ⟨_, (true), (by first | rfl | (simp; done) | (simp [*]; done)), H', ⟨by have := HJ12.out; first | omega | exact Nat.le_refl _⟩, ⟨by (with_reducible repeat (first | apply Kd.R_alloc | apply Kd.R_drewN | apply Kd.R_drew)); exact Kd.R_mono HO_8.out (fun _ hk => hk.2.1)⟩, ⟨by (with_reducible repeat (first | apply Kd.R_alloc | apply Kd.R_drewN | apply Kd.R_drew)); exact Kd.R_mono HO_11.out (fun _ hk => hk.1)⟩, ⟨by (with_reducible repeat (first | refine blk_drewN ?_ _ | refine blk_drew ?_ | refine blk_alloc ?_ _)); exact BK217.out⟩, ⟨by repeat (first | (with_reducible first | exact HB.out | apply below_alloc | apply pw_below_drewN | apply below_drew1 | refine below_set ?_ GE217.out) | exact HB.out)⟩⟩
      case rest =>
       clear HC38
       try clear c2
       try clear p2
       try clear c3
       try clear c4
       try clear c5
       try clear c5b0
       try clear c7
       try clear c23
       try clear c26
       try clear c29
       try clear c31
       try clear c33
       try clear c36
       try clear c37
       try clear c38
       try clear c43
       try clear c43b0
       try clear c45
       try clear hcz21_0
       try clear hcz21_1
       try clear hcz21_2
       try clear hcz21_3
       try clear hcz21_4
       try clear hcz21_5
       try clear hcz21_6
       try clear hfz21_0
       try clear hfz21_1
       try clear hfz21_2
       try clear hfz21_3
       try clear hfz21_4
       try clear hfz21_5
       try clear hfz21_6
       try clear p2
       obtain ⟨kq, x71_37, rfl, HA, HJ37, HO_8, HO_11, BK217, HB⟩ := hcut
       cases kq with
       | zero => exact absurd HA.out (by simp [laws_FnExactCacheWith.j1])
       | succ kj37 =>
        have H := HA.out
        clear HA
        simp only [laws_FnExactCacheWith.j1] at H
        by_cases c52 : x71_37 = true
        ·subst c52
         rw [if_pos rfl] at H
         obtain rfl := Option.some.inj H
         go_wp2
         go_ret
         exact ⟨by first | rfl | (simp [errW_none, errW_some] <;> rfl) | (simp [*, errW_none, errW_some] <;> rfl), by repeat (first | (with_reducible first | exact HB.out | apply below_alloc | apply pw_below_drewN | apply below_drew1 | refine below_set ?_ GE217.out) | exact HB.out)⟩
        ·replace c52 := Bool.eq_false_iff.mpr c52
         subst c52
         rw [if_neg (show ¬ (false = true) by decide)] at H
         replace H := Option.bind_eq_some_iff.mp H
         obtain ⟨⟨t255, t256⟩, A530, H⟩ := H
         replace H : ((laws_heldSealS.f kj37 t256 1).bind fun t257 => (if t257 < 0 then (some false) else (if t257 = t255 then ((laws_toSealS.f kj37 l0).bind fun t258 => ((laws_toSeal.f a1_0 a1_1 a1_2 a1_3 a1_4 a1_5 a1_6).bind fun bt261 => ((impl_CacheWith.f kj37 t258 bt261.1 bt261.2.1 bt261.2.2.1 bt261.2.2.2.1 bt261.2.2.2.2.1 bt261.2.2.2.2.2.1 bt261.2.2.2.2.2.2 a2).bind fun bt268 => ((laws_eqSealS.f kj37 bt268.1 t229).bind fun t272 => (if t272 = true then (laws_FnExactCacheWith.j2 kj37 t256 t255 (bt268.2 != t232)) else (laws_FnExactCacheWith.j2 kj37 t256 t255 true)))))) else (some false)))) = some r := H
         have A53 := Aside0.mk A530
         clear A530
         replace H := Option.bind_eq_some_iff.mp H
         obtain ⟨t257, A540, H⟩ := H
         replace H : (if t257 < 0 then (some false) else (if t257 = t255 then ((laws_toSealS.f kj37 l0).bind fun t258 => ((laws_toSeal.f a1_0 a1_1 a1_2 a1_3 a1_4 a1_5 a1_6).bind fun bt261 => ((impl_CacheWith.f kj37 t258 bt261.1 bt261.2.1 bt261.2.2.1 bt261.2.2.2.1 bt261.2.2.2.2.1 bt261.2.2.2.2.2.1 bt261.2.2.2.2.2.2 a2).bind fun bt268 => ((laws_eqSealS.f kj37 bt268.1 t229).bind fun t272 => (if t272 = true then (laws_FnExactCacheWith.j2 kj37 t256 t255 (bt268.2 != t232)) else (laws_FnExactCacheWith.j2 kj37 t256 t255 true)))))) else (some false))) = some r := H
         have A54 := Aside0.mk A540
         clear A540
         by_cases c55 : t257 < 0
         ·rw [if_pos c55] at H
          have c55b0 : decide (t257 < 0) = true := decide_eq_true c55
          clear c55
          obtain rfl := Option.some.inj H
          obtain ⟨Ao56, co56, eo56⟩ := Kd.R_slice HO_11.out
          subst eo56
          try obtain rfl := hclv244 _ _ _ rfl
          go_wp2_with (first | ((with_reducible refine gate_callee (f := 31) rfl ?_); refine goesL_ (some 74) rfl rfl Try.func31 (by kernel_rfl) rfl #[.slice Ao56 t243.length t243.length, .int .i64 1] rfl z25x3 ?_; (with_reducible refine (laws_markSealS.clip kj37 (fun k_ => some k_ = (.slice Ao56 t243.length co56 : Value).ownBlock) (.slice Ao56 t243.length co56) (.slice Ao56 t243.length t243.length) (clipOf _ _ _ _) t243 1 t255 t256 w _ ?side1 ?side2 A53.out).mono ?_); (case side1 => repeat (first | (with_reducible first | exact HB.out | apply below_alloc | apply pw_below_drewN | apply below_drew1 | refine below_set ?_ GE217.out) | exact HB.out)); (case side2 => exact Kd.R_tight rfl HO_11.out); rintro e w57 ⟨rfl, hy0, hb, hkp⟩; refine ⟨_, rfl, ?_⟩; have n0_ := Aside0.mk (Kd.R_mono (ok' := fun k_ => some k_ ≠ (.slice Ao56 t243.length co56 : Value).ownBlock) (Kd.R_keptB (HO_8.out) hkp (fun k_ hk_ hs_ => (hk_) hs_)) (fun k_ hk_ => hk_.1)); have n1_ := Aside0.mk (Kd.R_reok rfl hy0 (fun k_ e_ => HO_11.out.1 k_ e_)); have n2_ := Aside0.mk (blk_kept z25x4 hkp (fun hs_ => (fun e_ => (Kd.R_ne HO_11.out BK217.out (by decide)) e_) hs_)); have n3_ := Aside0.mk (hb); clear HO_8; clear HO_11; clear BK217; clear HB; have HO_8 := n0_; have HO_11 := n1_; have BK217 := n2_; have HB := n3_; clear n0_ n1_ n2_ n3_; (try clear hb); (try clear hkp); (try clear hy0)) | ((with_reducible refine gate_callee (f := 35) rfl ?_); refine goesL_ (some 77) rfl rfl Try.func35 (by kernel_rfl) rfl #[.slice Ao56 t256.length t256.length, .int .i64 1] rfl z25x0 ?_; (with_reducible refine (laws_heldSealS.calls kj37 _ _ t256 1 t257 _ ?side1 ?side2 A54.out).mono ?_); (case side1 => repeat (first | exact (Kd.R_reads' HO_11.out).2.2 | (with_reducible refine Kd.C_alloc ?_ _) | (with_reducible refine Kd.C_drewN ?_ _) | (with_reducible refine Kd.C_drew ?_))); (case side2 => first | exact Nat.le_refl _ | (rw [show t256.length = t243.length from (Kd.R_reads' HO_11.out).1.symm]; exact (Kd.R_reads' HO_11.out).2.1)); rintro e w' ⟨rfl, ⟨nd, rfl⟩⟩; refine ⟨_, rfl, ?_⟩))
          go_ret
          exact ⟨by first | rfl | (simp [errW_none, errW_some] <;> rfl) | (simp [*, errW_none, errW_some] <;> rfl), by repeat (first | (with_reducible first | exact HB.out | apply below_alloc | apply pw_below_drewN | apply below_drew1 | refine below_set ?_ GE217.out) | exact HB.out)⟩
         ·rw [if_neg c55] at H
          have c55b0 : decide (t257 < 0) = false := decide_eq_false c55
          clear c55
          by_cases c58 : t257 = t255
          ·rw [if_pos c58] at H
           have c58b0 : (t257 == t255) = true := beq_iff_eq.mpr c58
           have c58b1 : (t257 != t255) = false := bne_eq_false_iff_eq.mpr c58
           clear c58
           replace H := Option.bind_eq_some_iff.mp H
           obtain ⟨t258, A590, H⟩ := H
           replace H : ((laws_toSeal.f a1_0 a1_1 a1_2 a1_3 a1_4 a1_5 a1_6).bind fun bt261 => ((impl_CacheWith.f kj37 t258 bt261.1 bt261.2.1 bt261.2.2.1 bt261.2.2.2.1 bt261.2.2.2.2.1 bt261.2.2.2.2.2.1 bt261.2.2.2.2.2.2 a2).bind fun bt268 => ((laws_eqSealS.f kj37 bt268.1 t229).bind fun t272 => (if t272 = true then (laws_FnExactCacheWith.j2 kj37 t256 t255 (bt268.2 != t232)) else (laws_FnExactCacheWith.j2 kj37 t256 t255 true))))) = some r := H
           have A59 := Aside0.mk A590
           clear A590
           replace H := Option.bind_eq_some_iff.mp H
           obtain ⟨⟨t261, t262, t263, t264, t265, t266, t267⟩, A600, H⟩ := H
           replace H : ((impl_CacheWith.f kj37 t258 t261 t262 t263 t264 t265 t266 t267 a2).bind fun bt268 => ((laws_eqSealS.f kj37 bt268.1 t229).bind fun t272 => (if t272 = true then (laws_FnExactCacheWith.j2 kj37 t256 t255 (bt268.2 != t232)) else (laws_FnExactCacheWith.j2 kj37 t256 t255 true)))) = some r := H
           have A60 := Aside0.mk A600
           clear A600
           replace H := Option.bind_eq_some_iff.mp H
           obtain ⟨⟨t268, t271⟩, A610, H⟩ := H
           replace H : ((laws_eqSealS.f kj37 t268 t229).bind fun t272 => (if t272 = true then (laws_FnExactCacheWith.j2 kj37 t256 t255 (t271 != t232)) else (laws_FnExactCacheWith.j2 kj37 t256 t255 true))) = some r := H
           have A61 := Aside0.mk A610
           clear A610
           have HC62 := Aside0.mk H
           clear H
           obtain ⟨Ao63, co63, eo63⟩ := Kd.R_slice HO_11.out
           subst eo63
           try obtain rfl := hclv244 _ _ _ rfl
           try go_wp2_with (first | ((with_reducible refine gate_callee (f := 31) rfl ?_); refine goesL_ (some 74) rfl rfl Try.func31 (by kernel_rfl) rfl #[.slice Ao63 t243.length t243.length, .int .i64 1] rfl z25x3 ?_; (with_reducible refine (laws_markSealS.clip kj37 (fun k_ => some k_ = (.slice Ao63 t243.length co63 : Value).ownBlock) (.slice Ao63 t243.length co63) (.slice Ao63 t243.length t243.length) (clipOf _ _ _ _) t243 1 t255 t256 w _ ?side1 ?side2 A53.out).mono ?_); (case side1 => repeat (first | (with_reducible first | exact HB.out | apply below_alloc | apply pw_below_drewN | apply below_drew1 | refine below_set ?_ GE217.out) | exact HB.out)); (case side2 => exact Kd.R_tight rfl HO_11.out); rintro e w64 ⟨rfl, hy0, hb, hkp⟩; refine ⟨_, rfl, ?_⟩; have n0_ := Aside0.mk (Kd.R_mono (ok' := fun k_ => some k_ ≠ (.slice Ao63 t243.length co63 : Value).ownBlock) (Kd.R_keptB (HO_8.out) hkp (fun k_ hk_ hs_ => (hk_) hs_)) (fun k_ hk_ => hk_.1)); have n1_ := Aside0.mk (Kd.R_reok rfl hy0 (fun k_ e_ => HO_11.out.1 k_ e_)); have n2_ := Aside0.mk (blk_kept z25x4 hkp (fun hs_ => (fun e_ => (Kd.R_ne HO_11.out BK217.out (by decide)) e_) hs_)); have n3_ := Aside0.mk (hb); clear HO_8; clear HO_11; clear BK217; clear HB; have HO_8 := n0_; have HO_11 := n1_; have BK217 := n2_; have HB := n3_; clear n0_ n1_ n2_ n3_; (try clear hb); (try clear hkp); (try clear hy0)) | ((with_reducible refine gate_callee (f := 35) rfl ?_); refine goesL_ (some 77) rfl rfl Try.func35 (by kernel_rfl) rfl #[.slice Ao63 t256.length t256.length, .int .i64 1] rfl z25x0 ?_; (with_reducible refine (laws_heldSealS.calls kj37 _ _ t256 1 t257 _ ?side1 ?side2 A54.out).mono ?_); (case side1 => repeat (first | exact (Kd.R_reads' HO_11.out).2.2 | (with_reducible refine Kd.C_alloc ?_ _) | (with_reducible refine Kd.C_drewN ?_ _) | (with_reducible refine Kd.C_drew ?_))); (case side2 => first | exact Nat.le_refl _ | (rw [show t256.length = t243.length from (Kd.R_reads' HO_11.out).1.symm]; exact (Kd.R_reads' HO_11.out).2.1)); rintro e w' ⟨rfl, ⟨nd, rfl⟩⟩; refine ⟨_, rfl, ?_⟩))
           (try (rw [drewN_self w64]; generalize hq_ : World.drewN w64 _ = w64; have n0_ : Aside0 (Kd.R k41 41 w64 w.heap.size (fun k_ => some k_ ≠ (v230 : Value).ownBlock) (.slice Ao63 t243.length co63) t256) := ⟨by rw [← hq_]; exact z25x11⟩; have n1_ : Aside0 (Kd.R k41 41 w64 w.heap.size (fun k_ => some k_ ≠ (.slice Ao63 t243.length co63 : Value).ownBlock) v230 t229) := ⟨by rw [← hq_]; exact z25x12⟩; have n2_ : Aside0 (w64.heap[gb217]? = some (.cells #[.int .i64 a1_0, .int .i64 a1_1, .int .i64 a1_2, .int .i64 a1_3, .int .i64 a1_4, .int .i64 a1_5, .int .i64 a1_6] 58 (0, 0))) := ⟨by rw [← hq_]; exact z25x4⟩; have n3_ : Aside0 (Below w.heap.size w w64) := ⟨by rw [← hq_]; exact z25x1⟩; clear HO_11 HO_8 BK217 HB hq_; have HO_11 := n0_; have HO_8 := n1_; have BK217 := n2_; have HB := n3_; clear n0_ n1_ n2_ n3_))
           have n0_ := Aside0.mk (Kd.R_drew HO_8.out)
           have n1_ := Aside0.mk (Kd.R_drew HO_11.out)
           have n2_ := Aside0.mk (blk_drew BK217.out)
           have n3_ := Aside0.mk (below_drew1 HB.out)
           clear HO_8
           clear HO_11
           clear BK217
           clear HB
           have HO_8 := n0_
           have HO_11 := n1_
           have BK217 := n2_
           have HB := n3_
           clear n0_ n1_ n2_ n3_
           refine start_ (n := 11) (S := fun w' => w'.cell? ⟨gb217, 0, none⟩ = some (.int .i64 a1_0) ∧ w'.cell? ⟨gb217, 1, none⟩ = some (.int .i64 a1_1) ∧ w'.cell? ⟨gb217, 2, none⟩ = some (.int .i64 a1_2) ∧ w'.cell? ⟨gb217, 3, none⟩ = some (.int .i64 a1_3) ∧ w'.cell? ⟨gb217, 4, none⟩ = some (.int .i64 a1_4) ∧ w'.cell? ⟨gb217, 5, none⟩ = some (.int .i64 a1_5) ∧ w'.cell? ⟨gb217, 6, none⟩ = some (.int .i64 a1_6)) (ds := []) #[false, false, false, false, false, false, false, false, false, false, false] (by kernel_rfl) rfl rfl ⟨(blk_cell BK217.out 0).trans rfl, (blk_cell BK217.out 1).trans rfl, (blk_cell BK217.out 2).trans rfl, (blk_cell BK217.out 3).trans rfl, (blk_cell BK217.out 4).trans rfl, (blk_cell BK217.out 5).trans rfl, (blk_cell BK217.out 6).trans rfl⟩ (fun hHeld => ?_); refine with_tabW laws_FnExactCacheWith.tab24 laws_FnExactCacheWith.bits24 (fun HT_ HW_ => ?_)
           generalize w64.drew = w65 at HO_8 HO_11 BK217 HB hHeld ⊢
           refine pure_ (i := 0) (N := some 84) (v := ?_) (a' := ?_) #[true, false, false, false, false, false, false, false, false, false, false] rfl rfl (any_of HT_.out (by kernel_rfl)) (fun _ _ _ h => h) (Or.inl ⟨by rfl, ?_⟩) ?_ ?_
           rotate_left
           ·intro w'
            go_simp
            with_reducible rfl
           rotate_left
           ·simp only [Act.put, List.setIfInBounds_toArray, List.set_cons_zero, List.set_cons_succ, i64_w, i32_w]
            rfl
           refine pure_ (i := 4) (N := some 88) (v := ?_) (a' := ?_) #[true, false, false, false, true, false, false, false, false, false, false] rfl rfl (any_of HT_.out (by kernel_rfl)) (fun _ _ _ h => h) (Or.inl ⟨by rfl, ?_⟩) ?_ ?_
           rotate_left
           ·intro w'
            go_simp
            with_reducible rfl
           rotate_left
           ·simp only [Act.put, List.setIfInBounds_toArray, List.set_cons_zero, List.set_cons_succ, i64_w, i32_w]
            rfl
           refine take_ (i := 2) (N := some 86) (v := ?_) (a' := ?_) #[true, false, true, false, true, false, false, false, false, false, false] rfl rfl (take_ofW HT_.out HW_.out (by kernel_rfl)) (fun _ _ _ h => h) (Or.inl ⟨by rfl, ?_⟩) hHeld ?_ ?_
           rotate_left
           ·rintro w' ⟨s0, s1, s2, s3, s4, s5, s6⟩
            go_simp
            with_reducible rfl
           rotate_left
           ·simp only [Act.put, List.setIfInBounds_toArray, List.set_cons_zero, List.set_cons_succ, i64_w, i32_w]
            rfl
           refine one_ (i := 1) (N := some 85) #[true, true, true, false, true, false, false, false, false, false, false] rfl rfl (one_of HT_.out (by kernel_rfl)) (by decide) (fun K hK => ?_)
           refine goes_ Try.func26 (by kernel_rfl) rfl #[.slice A0 l0.length c0] (by rfl) rfl rfl z25x3 ?_
           with_reducible refine (laws_toSealS.calls kj37 _ _ l0 t258 _ ?side1 ?side2 A59.out).mono ?_
           (case side1 => repeat (first | exact (Kd.C_below HR0.out HB.out) | (with_reducible refine Kd.C_alloc ?_ _) | (with_reducible refine Kd.C_drewN ?_ _) | (with_reducible refine Kd.C_drew ?_)))
           (case side2 => exact HC0.out)
           rintro e w66 ⟨v259, rfl, ho0, hb⟩
           refine ⟨_, rfl, ?_⟩
           have n0_ := Aside0.mk (Kd.R_elder' z25x12 (Kd.R_base ho0) hb)
           have n1_ := Aside0.mk (Kd.R_elder' z25x11 (Kd.R_base ho0) hb)
           have n2_ := Aside0.mk (Kd.R_lower (Kd.R_new' (Kd.R_new' ho0 (Kd.R_lt z25x12)) (Kd.R_lt z25x11)) (below_size z25x1))
           have n3_ := Aside0.mk (blk_below (g := gb217) (o := .cells #[.int .i64 a1_0, .int .i64 a1_1, .int .i64 a1_2, .int .i64 a1_3, .int .i64 a1_4, .int .i64 a1_5, .int .i64 a1_6] 58 (0, 0)) z25x4 hb)
           have n4_ := Aside0.mk (below_step z25x1 hb)
           clear HO_8
           clear HO_11
           clear BK217
           clear HB
           have HO_8 := n0_
           have HO_11 := n1_
           have HO260 := n2_
           have BK217 := n3_
           have HB := n4_
           clear n0_ n1_ n2_ n3_ n4_
           (try clear hb)
           (try clear hb2)
           (try clear hk)
           (try clear hi)
           (try clear ho0)
           refine hK.out _ _ ⟨(blk_cell BK217.out 0).trans rfl, (blk_cell BK217.out 1).trans rfl, (blk_cell BK217.out 2).trans rfl, (blk_cell BK217.out 3).trans rfl, (blk_cell BK217.out 4).trans rfl, (blk_cell BK217.out 5).trans rfl, (blk_cell BK217.out 6).trans rfl⟩ (fun hHeld => ?_)
           clear hK K
           refine norm_ (a' := ?_) ?_ ?_
           rotate_left
           ·show Act.put _ (some 85) _ = _
            simp only [Act.put, List.setIfInBounds_toArray, List.set_cons_zero, List.set_cons_succ, i64_w, i32_w]
            rfl
           refine one_ (i := 3) (N := some 87) #[true, true, true, true, true, false, false, false, false, false, false] rfl rfl (one_of HT_.out (by kernel_rfl)) (by decide) (fun K hK => ?_)
           refine goes_ Try.func37 (by kernel_rfl) rfl #[.agg #[.int .i64 a1_0, .int .i64 a1_1, .int .i64 a1_2, .int .i64 a1_3, .int .i64 a1_4, .int .i64 a1_5, .int .i64 a1_6]] (by rfl) rfl rfl z25x3 ?_
           with_reducible refine (laws_toSeal.calls a1_0 a1_1 a1_2 a1_3 a1_4 a1_5 a1_6 t261 t262 t263 t264 t265 t266 t267 _ A60.out).mono ?_
           rintro e w67 ⟨rfl, hb⟩
           refine ⟨_, rfl, ?_⟩
           have n0_ := Aside0.mk (Kd.R_below z25x12 hb)
           have n1_ := Aside0.mk (Kd.R_below z25x11 hb)
           have n2_ := Aside0.mk (Kd.R_below z25x9 hb)
           have n3_ := Aside0.mk (blk_below (g := gb217) (o := .cells #[.int .i64 a1_0, .int .i64 a1_1, .int .i64 a1_2, .int .i64 a1_3, .int .i64 a1_4, .int .i64 a1_5, .int .i64 a1_6] 58 (0, 0)) z25x4 hb)
           have n4_ := Aside0.mk (below_step z25x1 hb)
           clear HO_8
           clear HO_11
           clear HO260
           clear BK217
           clear HB
           have HO_8 := n0_
           have HO_11 := n1_
           have HO260 := n2_
           have BK217 := n3_
           have HB := n4_
           clear n0_ n1_ n2_ n3_ n4_
           (try clear hb)
           (try clear hb2)
           (try clear hk)
           (try clear hi)
           obtain ⟨Ao68, co68, eo68⟩ := Kd.R_slice HO260.out
           (first | subst eo68 | (injection eo68 with f1_ f2_ f3_; have f4_ := f1_.symm; have f5_ := f3_.symm; clear f1_ f2_ f3_; subst f4_; subst f5_))
           refine hK.out _ _ ⟨(blk_cell BK217.out 0).trans rfl, (blk_cell BK217.out 1).trans rfl, (blk_cell BK217.out 2).trans rfl, (blk_cell BK217.out 3).trans rfl, (blk_cell BK217.out 4).trans rfl, (blk_cell BK217.out 5).trans rfl, (blk_cell BK217.out 6).trans rfl⟩ (fun hHeld => ?_)
           clear hK K
           refine norm_ (a' := ?_) ?_ ?_
           rotate_left
           ·show Act.put _ (some 87) _ = _
            simp only [Act.put, List.setIfInBounds_toArray, List.set_cons_zero, List.set_cons_succ, i64_w, i32_w]
            rfl
           refine one_ (i := 5) (N := some 89) #[true, true, true, true, true, true, false, false, false, false, false] rfl rfl (one_of HT_.out (by kernel_rfl)) (by decide) (fun K hK => ?_)
           refine goes_ Try.func38 (by kernel_rfl) rfl #[.slice Ao68 t258.length co68, .agg #[.int .i64 t261, .int .i64 t262, .int .i64 t263, .int .i64 t264, .int .i64 t265, .int .i64 t266, .int .i64 t267], .int .i64 a2] (by rfl) rfl rfl z25x3 ?_
           with_reducible refine (impl_CacheWith.calls kj37 _ _ t258 t261 t262 t263 t264 t265 t266 t267 a2 t268 t271 _ ?side1 ?side2 A61.out).mono ?_
           (case side1 => repeat (first | exact (Kd.R_reads' HO260.out).2.2 | (with_reducible refine Kd.C_alloc ?_ _) | (with_reducible refine Kd.C_drewN ?_ _) | (with_reducible refine Kd.C_drew ?_)))
           (case side2 => first | exact (Kd.R_reads' HO260.out).2.1 | exact Nat.le_refl _)
           rintro e w69 ⟨v269, vcv269, rfl, hclv269, ho0, hb⟩
           refine ⟨_, rfl, ?_⟩
           have n0_ := Aside0.mk (Kd.R_elder' z25x12 (Kd.R_base ho0) hb)
           have n1_ := Aside0.mk (Kd.R_elder' z25x11 (Kd.R_base ho0) hb)
           have n2_ := Aside0.mk (Kd.R_elder' z25x9 (Kd.R_base ho0) hb)
           have n3_ := Aside0.mk (Kd.R_lower (Kd.R_new' (Kd.R_new' (Kd.R_new' ho0 (Kd.R_lt z25x12)) (Kd.R_lt z25x11)) (Kd.R_lt z25x9)) (below_size z25x1))
           have n4_ := Aside0.mk (blk_below (g := gb217) (o := .cells #[.int .i64 a1_0, .int .i64 a1_1, .int .i64 a1_2, .int .i64 a1_3, .int .i64 a1_4, .int .i64 a1_5, .int .i64 a1_6] 58 (0, 0)) z25x4 hb)
           have n5_ := Aside0.mk (below_step z25x1 hb)
           clear HO_8
           clear HO_11
           clear HO260
           clear BK217
           clear HB
           have HO_8 := n0_
           have HO_11 := n1_
           have HO260 := n2_
           have HO270 := n3_
           have BK217 := n4_
           have HB := n5_
           clear n0_ n1_ n2_ n3_ n4_ n5_
           (try clear hb)
           (try clear hb2)
           (try clear hk)
           (try clear hi)
           (try clear ho0)
           refine hK.out _ _ ⟨(blk_cell BK217.out 0).trans rfl, (blk_cell BK217.out 1).trans rfl, (blk_cell BK217.out 2).trans rfl, (blk_cell BK217.out 3).trans rfl, (blk_cell BK217.out 4).trans rfl, (blk_cell BK217.out 5).trans rfl, (blk_cell BK217.out 6).trans rfl⟩ (fun hHeld => ?_)
           clear hK K
           refine norm_ (a' := ?_) ?_ ?_
           rotate_left
           ·show Act.put _ (some 89) _ = _
            simp only [Act.put, List.setIfInBounds_toArray, List.set_cons_zero, List.set_cons_succ, i64_w, i32_w]
            rfl
           refine pure_ (i := 6) (N := some 83) (v := ?_) (a' := ?_) #[true, true, true, true, true, true, true, false, false, false, false] rfl rfl (any_of HT_.out (by kernel_rfl)) (fun _ _ _ h => h) (Or.inl ⟨by rfl, ?_⟩) ?_ ?_
           rotate_left
           ·intro w'
            go_simp
            with_reducible rfl
           rotate_left
           ·simp only [Act.put, List.setIfInBounds_toArray, List.set_cons_zero, List.set_cons_succ, i64_w, i32_w]
            rfl
           refine pure_ (i := 7) (N := some 90) (v := ?_) (a' := ?_) #[true, true, true, true, true, true, true, true, false, false, false] rfl rfl (any_of HT_.out (by kernel_rfl)) (fun _ _ _ h => h) (Or.inl ⟨by rfl, ?_⟩) ?_ ?_
           rotate_left
           ·intro w'
            go_simp
            with_reducible rfl
           rotate_left
           ·simp only [Act.put, List.setIfInBounds_toArray, List.set_cons_zero, List.set_cons_succ, i64_w, i32_w]
            rfl
           refine pure_ (i := 8) (N := some 91) (v := ?_) (a' := ?_) #[true, true, true, true, true, true, true, true, true, false, false] rfl rfl (any_of HT_.out (by kernel_rfl)) (fun _ _ _ h => h) (Or.inl ⟨by rfl, ?_⟩) ?_ ?_
           rotate_left
           ·intro w'
            go_simp
            with_reducible rfl
           rotate_left
           ·simp only [Act.put, List.setIfInBounds_toArray, List.set_cons_zero, List.set_cons_succ, i64_w, i32_w]
            rfl
           refine pure_ (i := 9) (N := some 16) (v := ?_) (a' := ?_) #[true, true, true, true, true, true, true, true, true, true, false] rfl rfl (any_of HT_.out (by kernel_rfl)) (fun _ _ _ h => h) (Or.inl ⟨by rfl, ?_⟩) ?_ ?_
           rotate_left
           ·intro w'
            go_simp
            with_reducible rfl
           rotate_left
           ·simp only [Act.put, List.setIfInBounds_toArray, List.set_cons_zero, List.set_cons_succ, i64_w, i32_w]
            rfl
           refine pure_ (i := 10) (N := some 17) (v := ?_) (a' := ?_) #[true, true, true, true, true, true, true, true, true, true, true] rfl rfl (any_of HT_.out (by kernel_rfl)) (fun _ _ _ h => h) (Or.inl ⟨by rfl, ?_⟩) ?_ ?_
           rotate_left
           ·intro w'
            go_simp
            with_reducible rfl
           rotate_left
           ·simp only [Act.put, List.setIfInBounds_toArray, List.set_cons_zero, List.set_cons_succ, i64_w, i32_w]
            rfl
           refine done_ (done_of HT_.out (by kernel_rfl)) ?_
           go_upto_region 25 with (fail)
           go_cut [100] (fun v100 wc => ∃ (kq : Nat) (x100_61 : Bool), v100 = .bool x100_61 ∧ Aside0 (laws_FnExactCacheWith.j2 kq t256 t255 x100_61 = some r) ∧ Aside0 (kq ≤ kj37) ∧ Aside0 (Kd.R k41 41 wc w.heap.size (fun _ => True) (.slice Ao63 t243.length co63) t256) ∧ Aside0 (wc.heap[gb217]? = some (.cells #[.int .i64 a1_0, .int .i64 a1_1, .int .i64 a1_2, .int .i64 a1_3, .int .i64 a1_4, .int .i64 a1_5, .int .i64 a1_6] 58 (0, 0))) ∧ Aside0 (Below w.heap.size w wc))
           case first =>
            have H := HC62.out
            clear HC62
            replace H := Option.bind_eq_some_iff.mp H
            obtain ⟨t272, A700, H⟩ := H
            replace H : (if t272 = true then (laws_FnExactCacheWith.j2 kj37 t256 t255 (t271 != t232)) else (laws_FnExactCacheWith.j2 kj37 t256 t255 true)) = some r := H
            have A70 := Aside0.mk A700
            clear A700
            by_cases c71 : t272 = true
            ·subst c71
             rw [if_pos rfl] at H
             have H' := Aside0.mk H
             clear H
             obtain ⟨Ao72, co72, eo72⟩ := Kd.R_slice HO270.out
             subst eo72
             try obtain rfl := hclv244 _ _ _ rfl
             try obtain rfl := hclv269 _ _ _ rfl
             obtain ⟨Ao73, co73, eo73⟩ := Kd.R_slice HO_8.out
             subst eo73
             try obtain rfl := hclv244 _ _ _ rfl
             try obtain rfl := hclv269 _ _ _ rfl
             go_wp2_with (first | ((with_reducible refine gate_callee (f := 29) rfl ?_); refine goesL_ (some 94) rfl rfl Try.func29 (by kernel_rfl) rfl #[.slice Ao72 t268.length t268.length, .slice Ao73 t229.length co73] rfl z25x3 ?_; (with_reducible refine (laws_eqSealS.calls kj37 _ _ t268 _ _ t229 true _ ?side1 ?side2 ?side3 ?side4 A70.out).mono ?_); (case side1 => repeat (first | exact (Kd.R_reads' HO270.out).2.2 | (with_reducible refine Kd.C_alloc ?_ _) | (with_reducible refine Kd.C_drewN ?_ _) | (with_reducible refine Kd.C_drew ?_))); (case side2 => first | exact (Kd.R_reads' HO270.out).2.1 | exact Nat.le_refl _); (case side3 => repeat (first | exact (Kd.R_reads' HO_8.out).2.2 | (with_reducible refine Kd.C_alloc ?_ _) | (with_reducible refine Kd.C_drewN ?_ _) | (with_reducible refine Kd.C_drew ?_))); (case side4 => first | exact (Kd.R_reads' HO_8.out).2.1 | exact Nat.le_refl _); rintro e w74 ⟨rfl, hb⟩; refine ⟨_, rfl, ?_⟩; have n0_ := Aside0.mk (Kd.R_below z25x12 hb); have n1_ := Aside0.mk (Kd.R_below z25x11 hb); have n2_ := Aside0.mk (Kd.R_below z25x9 hb); have n3_ := Aside0.mk (Kd.R_below (by (with_reducible repeat (first | apply Kd.R_alloc | apply Kd.R_drewN | apply Kd.R_drew)); exact HO270.out) hb); have n4_ := Aside0.mk (blk_below (g := gb217) (o := .cells #[.int .i64 a1_0, .int .i64 a1_1, .int .i64 a1_2, .int .i64 a1_3, .int .i64 a1_4, .int .i64 a1_5, .int .i64 a1_6] 58 (0, 0)) z25x4 hb); have n5_ := Aside0.mk (below_step z25x1 hb); clear HO_8; clear HO_11; clear HO260; clear HO270; clear BK217; clear HB; have HO_8 := n0_; have HO_11 := n1_; have HO260 := n2_; have HO270 := n3_; have BK217 := n4_; have HB := n5_; clear n0_ n1_ n2_ n3_ n4_ n5_; (try clear hb); (try clear hb2); (try clear hk); (try clear hi)))
             go_meet
             case rel => exact ⟨_, ((t271 != t232)), (by first | rfl | (simp; done) | (simp [*]; done)), H', ⟨by have := HJ12.out; have := HJ37.out; first | omega | exact Nat.le_refl _⟩, ⟨by (with_reducible repeat (first | apply Kd.R_alloc | apply Kd.R_drewN | apply Kd.R_drew)); exact Kd.R_mono HO_11.out (fun _ hk => trivial)⟩, ⟨by (with_reducible repeat (first | refine blk_drewN ?_ _ | refine blk_drew ?_ | refine blk_alloc ?_ _)); exact BK217.out⟩, ⟨by repeat (first | (with_reducible first | exact HB.out | apply below_alloc | apply pw_below_drewN | apply below_drew1 | refine below_set ?_ GE217.out) | exact HB.out)⟩⟩
            ·replace c71 := Bool.eq_false_iff.mpr c71
             subst c71
             rw [if_neg (show ¬ (false = true) by decide)] at H
             have H' := Aside0.mk H
             clear H
             obtain ⟨Ao75, co75, eo75⟩ := Kd.R_slice HO270.out
             subst eo75
             try obtain rfl := hclv244 _ _ _ rfl
             try obtain rfl := hclv269 _ _ _ rfl
             obtain ⟨Ao76, co76, eo76⟩ := Kd.R_slice HO_8.out
             subst eo76
             try obtain rfl := hclv244 _ _ _ rfl
             try obtain rfl := hclv269 _ _ _ rfl
             go_wp2_with (first | ((with_reducible refine gate_callee (f := 29) rfl ?_); refine goesL_ (some 94) rfl rfl Try.func29 (by kernel_rfl) rfl #[.slice Ao75 t268.length t268.length, .slice Ao76 t229.length co76] rfl z25x3 ?_; (with_reducible refine (laws_eqSealS.calls kj37 _ _ t268 _ _ t229 false _ ?side1 ?side2 ?side3 ?side4 A70.out).mono ?_); (case side1 => repeat (first | exact (Kd.R_reads' HO270.out).2.2 | (with_reducible refine Kd.C_alloc ?_ _) | (with_reducible refine Kd.C_drewN ?_ _) | (with_reducible refine Kd.C_drew ?_))); (case side2 => first | exact (Kd.R_reads' HO270.out).2.1 | exact Nat.le_refl _); (case side3 => repeat (first | exact (Kd.R_reads' HO_8.out).2.2 | (with_reducible refine Kd.C_alloc ?_ _) | (with_reducible refine Kd.C_drewN ?_ _) | (with_reducible refine Kd.C_drew ?_))); (case side4 => first | exact (Kd.R_reads' HO_8.out).2.1 | exact Nat.le_refl _); rintro e w77 ⟨rfl, hb⟩; refine ⟨_, rfl, ?_⟩; have n0_ := Aside0.mk (Kd.R_below z25x12 hb); have n1_ := Aside0.mk (Kd.R_below z25x11 hb); have n2_ := Aside0.mk (Kd.R_below z25x9 hb); have n3_ := Aside0.mk (Kd.R_below (by (with_reducible repeat (first | apply Kd.R_alloc | apply Kd.R_drewN | apply Kd.R_drew)); exact HO270.out) hb); have n4_ := Aside0.mk (blk_below (g := gb217) (o := .cells #[.int .i64 a1_0, .int .i64 a1_1, .int .i64 a1_2, .int .i64 a1_3, .int .i64 a1_4, .int .i64 a1_5, .int .i64 a1_6] 58 (0, 0)) z25x4 hb); have n5_ := Aside0.mk (below_step z25x1 hb); clear HO_8; clear HO_11; clear HO260; clear HO270; clear BK217; clear HB; have HO_8 := n0_; have HO_11 := n1_; have HO260 := n2_; have HO270 := n3_; have BK217 := n4_; have HB := n5_; clear n0_ n1_ n2_ n3_ n4_ n5_; (try clear hb); (try clear hb2); (try clear hk); (try clear hi)))
             go_meet
             case rel => exact ⟨_, (true), (by first | rfl | (simp; done) | (simp [*]; done)), H', ⟨by have := HJ12.out; have := HJ37.out; first | omega | exact Nat.le_refl _⟩, ⟨by (with_reducible repeat (first | apply Kd.R_alloc | apply Kd.R_drewN | apply Kd.R_drew)); exact Kd.R_mono HO_11.out (fun _ hk => trivial)⟩, ⟨by (with_reducible repeat (first | refine blk_drewN ?_ _ | refine blk_drew ?_ | refine blk_alloc ?_ _)); exact BK217.out⟩, ⟨by repeat (first | (with_reducible first | exact HB.out | apply below_alloc | apply pw_below_drewN | apply below_drew1 | refine below_set ?_ GE217.out) | exact HB.out)⟩⟩
           case rest =>
            clear HC62
            try clear c2
            try clear p2
            try clear c3
            try clear c4
            try clear c5
            try clear c5b0
            try clear c7
            try clear c23
            try clear c26
            try clear c29
            try clear c31
            try clear c33
            try clear c35
            try clear c36
            try clear c37
            try clear c38
            try clear c43
            try clear c43b0
            try clear c45
            try clear c52
            try clear c55
            try clear c55b0
            try clear c58
            try clear c58b0
            try clear c58b1
            try clear c71
            try clear hcz21_0
            try clear hcz21_1
            try clear hcz21_2
            try clear hcz21_3
            try clear hcz21_4
            try clear hcz21_5
            try clear hcz21_6
            try clear hfz21_0
            try clear hfz21_1
            try clear hfz21_2
            try clear hfz21_3
            try clear hfz21_4
            try clear hfz21_5
            try clear hfz21_6
            try clear p2
            obtain ⟨kq, x100_61, rfl, HA, HJ61, HO_11, BK217, HB⟩ := hcut
            have hl11_61 := (Kd.R_reads' HO_11.out).1
            rw [hl11_61] at HO_11
            (try simp only [hl11_61])
            (try simp only [hl11_61] at BK217)
            cases kq with
            | zero => exact absurd HA.out (by simp [laws_FnExactCacheWith.j2])
            | succ kj61 =>
             have H := HA.out
             clear HA
             simp only [laws_FnExactCacheWith.j2] at H
             by_cases c78 : x100_61 = true
             ·subst c78
              rw [if_pos rfl] at H
              obtain rfl := Option.some.inj H
              go_wp2
              go_ret
              exact ⟨by first | rfl | (simp [errW_none, errW_some] <;> rfl) | (simp [*, errW_none, errW_some] <;> rfl), by repeat (first | (with_reducible first | exact HB.out | apply below_alloc | apply pw_below_drewN | apply below_drew1 | refine below_set ?_ GE217.out) | exact HB.out)⟩
             ·replace c78 := Bool.eq_false_iff.mpr c78
              subst c78
              rw [if_neg (show ¬ (false = true) by decide)] at H
              replace H := Option.bind_eq_some_iff.mp H
              obtain ⟨t273, A790, H⟩ := H
              replace H : (if t273 < 0 then (some false) else (if t273 = t255 then (some true) else (some false))) = some r := H
              have A79 := Aside0.mk A790
              clear A790
              by_cases c80 : t273 < 0
              ·rw [if_pos c80] at H
               have c80b0 : decide (t273 < 0) = true := decide_eq_true c80
               clear c80
               obtain rfl := Option.some.inj H
               go_wp2_with (first | ((with_reducible refine gate_callee (f := 35) rfl ?_); refine goesL_ (some 103) rfl rfl Try.func35 (by kernel_rfl) rfl #[.slice Ao63 t256.length t256.length, .int .i64 1] rfl z25x3 ?_; (with_reducible refine (laws_heldSealS.calls kj61 _ _ t256 1 t273 _ ?side1 ?side2 A79.out).mono ?_); (case side1 => repeat (first | exact (Kd.R_reads' HO_11.out).2.2 | (with_reducible refine Kd.C_alloc ?_ _) | (with_reducible refine Kd.C_drewN ?_ _) | (with_reducible refine Kd.C_drew ?_))); (case side2 => first | exact (Kd.R_reads' HO_11.out).2.1 | exact Nat.le_refl _); rintro e w' ⟨rfl, ⟨nd, rfl⟩⟩; refine ⟨_, rfl, ?_⟩))
               go_ret
               exact ⟨by first | rfl | (simp [errW_none, errW_some] <;> rfl) | (simp [*, errW_none, errW_some] <;> rfl), by repeat (first | (with_reducible first | exact HB.out | apply below_alloc | apply pw_below_drewN | apply below_drew1 | refine below_set ?_ GE217.out) | exact HB.out)⟩
              ·rw [if_neg c80] at H
               have c80b0 : decide (t273 < 0) = false := decide_eq_false c80
               clear c80
               by_cases c81 : t273 = t255
               ·rw [if_pos c81] at H
                have c81b0 : (t273 == t255) = true := beq_iff_eq.mpr c81
                have c81b1 : (t273 != t255) = false := bne_eq_false_iff_eq.mpr c81
                clear c81
                obtain rfl := Option.some.inj H
                go_wp2_with (first | ((with_reducible refine gate_callee (f := 35) rfl ?_); refine goesL_ (some 103) rfl rfl Try.func35 (by kernel_rfl) rfl #[.slice Ao63 t256.length t256.length, .int .i64 1] rfl z25x3 ?_; (with_reducible refine (laws_heldSealS.calls kj61 _ _ t256 1 t273 _ ?side1 ?side2 A79.out).mono ?_); (case side1 => repeat (first | exact (Kd.R_reads' HO_11.out).2.2 | (with_reducible refine Kd.C_alloc ?_ _) | (with_reducible refine Kd.C_drewN ?_ _) | (with_reducible refine Kd.C_drew ?_))); (case side2 => first | exact (Kd.R_reads' HO_11.out).2.1 | exact Nat.le_refl _); rintro e w' ⟨rfl, ⟨nd, rfl⟩⟩; refine ⟨_, rfl, ?_⟩))
                go_ret
                exact ⟨by first | rfl | (simp [errW_none, errW_some] <;> rfl) | (simp [*, errW_none, errW_some] <;> rfl), by repeat (first | (with_reducible first | exact HB.out | apply below_alloc | apply pw_below_drewN | apply below_drew1 | refine below_set ?_ GE217.out) | exact HB.out)⟩
               ·rw [if_neg c81] at H
                have c81b0 : (t273 == t255) = false := beq_eq_false_iff_ne.mpr c81
                have c81b1 : (t273 != t255) = true := bne_iff_ne.mpr c81
                obtain rfl := Option.some.inj H
                go_wp2_with (first | ((with_reducible refine gate_callee (f := 35) rfl ?_); refine goesL_ (some 103) rfl rfl Try.func35 (by kernel_rfl) rfl #[.slice Ao63 t256.length t256.length, .int .i64 1] rfl z25x3 ?_; (with_reducible refine (laws_heldSealS.calls kj61 _ _ t256 1 t273 _ ?side1 ?side2 A79.out).mono ?_); (case side1 => repeat (first | exact (Kd.R_reads' HO_11.out).2.2 | (with_reducible refine Kd.C_alloc ?_ _) | (with_reducible refine Kd.C_drewN ?_ _) | (with_reducible refine Kd.C_drew ?_))); (case side2 => first | exact (Kd.R_reads' HO_11.out).2.1 | exact Nat.le_refl _); rintro e w' ⟨rfl, ⟨nd, rfl⟩⟩; refine ⟨_, rfl, ?_⟩))
                go_ret
                exact ⟨by first | rfl | (simp [errW_none, errW_some] <;> rfl) | (simp [*, errW_none, errW_some] <;> rfl), by repeat (first | (with_reducible first | exact HB.out | apply below_alloc | apply pw_below_drewN | apply below_drew1 | refine below_set ?_ GE217.out) | exact HB.out)⟩
          ·rw [if_neg c58] at H
           have c58b0 : (t257 == t255) = false := beq_eq_false_iff_ne.mpr c58
           have c58b1 : (t257 != t255) = true := bne_iff_ne.mpr c58
           obtain rfl := Option.some.inj H
           obtain ⟨Ao82, co82, eo82⟩ := Kd.R_slice HO_11.out
           subst eo82
           try obtain rfl := hclv244 _ _ _ rfl
           try obtain rfl := hclv269 _ _ _ rfl
           go_wp2_with (first | ((with_reducible refine gate_callee (f := 31) rfl ?_); refine goesL_ (some 74) rfl rfl Try.func31 (by kernel_rfl) rfl #[.slice Ao82 t243.length t243.length, .int .i64 1] rfl z25x3 ?_; (with_reducible refine (laws_markSealS.clip kj37 (fun k_ => some k_ = (.slice Ao82 t243.length co82 : Value).ownBlock) (.slice Ao82 t243.length co82) (.slice Ao82 t243.length t243.length) (clipOf _ _ _ _) t243 1 t255 t256 w _ ?side1 ?side2 A53.out).mono ?_); (case side1 => repeat (first | (with_reducible first | exact HB.out | apply below_alloc | apply pw_below_drewN | apply below_drew1 | refine below_set ?_ GE217.out) | exact HB.out)); (case side2 => exact Kd.R_tight rfl HO_11.out); rintro e w83 ⟨rfl, hy0, hb, hkp⟩; refine ⟨_, rfl, ?_⟩; have n0_ := Aside0.mk (Kd.R_mono (ok' := fun k_ => some k_ ≠ (.slice Ao82 t243.length co82 : Value).ownBlock) (Kd.R_keptB (HO_8.out) hkp (fun k_ hk_ hs_ => (hk_) hs_)) (fun k_ hk_ => hk_.1)); have n1_ := Aside0.mk (Kd.R_reok rfl hy0 (fun k_ e_ => HO_11.out.1 k_ e_)); have n2_ := Aside0.mk (blk_kept z25x4 hkp (fun hs_ => (fun e_ => (Kd.R_ne HO_11.out BK217.out (by decide)) e_) hs_)); have n3_ := Aside0.mk (hb); clear HO_8; clear HO_11; clear BK217; clear HB; have HO_8 := n0_; have HO_11 := n1_; have BK217 := n2_; have HB := n3_; clear n0_ n1_ n2_ n3_; (try clear hb); (try clear hkp); (try clear hy0)) | ((with_reducible refine gate_callee (f := 35) rfl ?_); refine goesL_ (some 77) rfl rfl Try.func35 (by kernel_rfl) rfl #[.slice Ao82 t256.length t256.length, .int .i64 1] rfl z25x0 ?_; (with_reducible refine (laws_heldSealS.calls kj37 _ _ t256 1 t257 _ ?side1 ?side2 A54.out).mono ?_); (case side1 => repeat (first | exact (Kd.R_reads' HO_11.out).2.2 | (with_reducible refine Kd.C_alloc ?_ _) | (with_reducible refine Kd.C_drewN ?_ _) | (with_reducible refine Kd.C_drew ?_))); (case side2 => first | exact Nat.le_refl _ | (rw [show t256.length = t243.length from (Kd.R_reads' HO_11.out).1.symm]; exact (Kd.R_reads' HO_11.out).2.1)); rintro e w' ⟨rfl, ⟨nd, rfl⟩⟩; refine ⟨_, rfl, ?_⟩))
           go_ret
           exact ⟨by first | rfl | (simp [errW_none, errW_some] <;> rfl) | (simp [*, errW_none, errW_some] <;> rfl), by repeat (first | (with_reducible first | exact HB.out | apply below_alloc | apply pw_below_drewN | apply below_drew1 | refine below_set ?_ GE217.out) | exact HB.out)⟩
     ·replace c36 := Bool.eq_false_iff.mpr c36
      subst c36
      rw [if_neg (show ¬ (false = true) by decide)] at H
      obtain rfl := Option.some.inj H
      go_wp2_with (first | ((with_reducible refine gate_callee (f := 26) rfl ?_); refine goesL_ (some 53) rfl rfl Try.func26 (by kernel_rfl) rfl #[.slice A0 l0.length c0] rfl z25x3 ?_; (with_reducible refine (laws_toSealS.calls kj12 _ _ l0 t248 _ ?side1 ?side2 A34.out).mono ?_); (case side1 => repeat (first | exact (Kd.C_below HR0.out HB.out) | (with_reducible refine Kd.C_alloc ?_ _) | (with_reducible refine Kd.C_drewN ?_ _) | (with_reducible refine Kd.C_drew ?_))); (case side2 => exact HC0.out); rintro e w84 ⟨v249, rfl, ho0, hb⟩; refine ⟨_, rfl, ?_⟩; have n0_ := Aside0.mk (Kd.R_elder' z25x12 (Kd.R_base ho0) hb); have n1_ := Aside0.mk (Kd.R_elder' z25x10 (Kd.R_base ho0) hb); have n2_ := Aside0.mk (Kd.R_elder' z25x11 (Kd.R_base ho0) hb); have n3_ := Aside0.mk (Kd.R_lower (Kd.R_new' (Kd.R_new' (Kd.R_new' ho0 (Kd.R_lt z25x12)) (Kd.R_lt z25x10)) (Kd.R_lt z25x11)) (below_size z25x1)); have n4_ := Aside0.mk (blk_below (g := gb217) (o := .cells #[.int .i64 a1_0, .int .i64 a1_1, .int .i64 a1_2, .int .i64 a1_3, .int .i64 a1_4, .int .i64 a1_5, .int .i64 a1_6] 58 (0, 0)) z25x4 hb); have n5_ := Aside0.mk (below_step z25x1 hb); clear HO_8; clear HO_10; clear HO_11; clear BK217; clear HB; have HO_8 := n0_; have HO_10 := n1_; have HO_11 := n2_; have HO250 := n3_; have BK217 := n4_; have HB := n5_; clear n0_ n1_ n2_ n3_ n4_ n5_; (try clear hb); (try clear hb2); (try clear hk); (try clear hi); (try clear ho0); obtain ⟨Ao85, co85, eo85⟩ := Kd.R_slice HO250.out; subst eo85; try obtain rfl := hclv244 _ _ _ rfl; try obtain rfl := hclv269 _ _ _ rfl) | ((with_reducible refine gate_callee (f := 29) rfl ?_); refine goesL_ (some 54) rfl rfl Try.func29 (by kernel_rfl) rfl #[.slice Ao23 t233.length co23, .slice Ao85 t248.length co85] rfl z25x3 ?_; (with_reducible refine (laws_eqSealS.calls kj12 _ _ t233 _ _ t248 false _ ?side1 ?side2 ?side3 ?side4 A35.out).mono ?_); (case side1 => repeat (first | exact (Kd.R_reads' HO_10.out).2.2 | (with_reducible refine Kd.C_alloc ?_ _) | (with_reducible refine Kd.C_drewN ?_ _) | (with_reducible refine Kd.C_drew ?_))); (case side2 => first | exact (Kd.R_reads' HO_10.out).2.1 | exact Nat.le_refl _); (case side3 => repeat (first | exact (Kd.R_reads' HO250.out).2.2 | (with_reducible refine Kd.C_alloc ?_ _) | (with_reducible refine Kd.C_drewN ?_ _) | (with_reducible refine Kd.C_drew ?_))); (case side4 => first | exact (Kd.R_reads' HO250.out).2.1 | exact Nat.le_refl _); rintro e w86 ⟨rfl, hb⟩; refine ⟨_, rfl, ?_⟩; have n0_ := Aside0.mk (Kd.R_below z25x12 hb); have n1_ := Aside0.mk (Kd.R_below z25x10 hb); have n2_ := Aside0.mk (Kd.R_below z25x11 hb); have n3_ := Aside0.mk (Kd.R_below z25x8 hb); have n4_ := Aside0.mk (blk_below (g := gb217) (o := .cells #[.int .i64 a1_0, .int .i64 a1_1, .int .i64 a1_2, .int .i64 a1_3, .int .i64 a1_4, .int .i64 a1_5, .int .i64 a1_6] 58 (0, 0)) z25x4 hb); have n5_ := Aside0.mk (below_step z25x1 hb); clear HO_8; clear HO_10; clear HO_11; clear HO250; clear BK217; clear HB; have HO_8 := n0_; have HO_10 := n1_; have HO_11 := n2_; have HO250 := n3_; have BK217 := n4_; have HB := n5_; clear n0_ n1_ n2_ n3_ n4_ n5_; (try clear hb); (try clear hb2); (try clear hk); (try clear hi)))
      go_ret
      exact ⟨by first | rfl | (simp [errW_none, errW_some] <;> rfl) | (simp [*, errW_none, errW_some] <;> rfl), by repeat (first | (with_reducible first | exact HB.out | apply below_alloc | apply pw_below_drewN | apply below_drew1 | refine below_set ?_ GE217.out) | exact HB.out)⟩

end Go.Proofs.Ytbipicjijbnbbaa.Hp
