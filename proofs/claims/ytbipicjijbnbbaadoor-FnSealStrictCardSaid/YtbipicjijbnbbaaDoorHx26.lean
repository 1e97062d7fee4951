-- hp.py
import Derived.Test.YtbipicjijbnbbaaDoorHx0
import Derived.Test.YtbipicjijbnbbaaDoorHx1
import Derived.Test.YtbipicjijbnbbaaDoorHx8
import Derived.Test.YtbipicjijbnbbaaDoorHx12
import Derived.Test.YtbipicjijbnbbaaDoorHx17
import Derived.Test.YtbipicjijbnbbaaDoorHx21
import Derived.Test.YtbipicjijbnbbaaDoorHx25
namespace Go.Proofs.YtbipicjijbnbbaaDoor.Hp
open Go.RowKit Go.Proofs.YtbipicjijbnbbaaDoorW.PrintWords Go.Proofs.YtbipicjijbnbbaaDoorW.PrintLast Go.Proofs.YtbipicjijbnbbaaDoorW.PrintMore
attribute [local go_sem] max2_int min2_int max_two min_two max_three min_three max_four min_four   -- for this text's walks alone
set_option linter.unusedVariables false
set_option linter.unusedSimpArgs false

attribute [local go_sem high] eqA24
-- squeezed by wip/tools/squeeze.py
theorem z26x6 {P : Prop} (h : P := by (with_reducible repeat (first | refine blk_drewN ?_ _ | refine blk_drew ?_ | refine blk_alloc ?_ _)); exact BK338.out) : P := h
theorem z26x5 {P : Prop} (h : P := by (with_reducible repeat (first | refine blk_drewN ?_ _ | refine blk_drew ?_ | refine blk_alloc ?_ _)); exact BK329.out) : P := h
theorem z26x4 {P : Prop} (h : P := by repeat (first | (with_reducible first | exact HB.out | apply below_alloc | apply pw_below_drewN | apply below_drew1) | exact HB.out)) : P := h
theorem z26x3 {P : Prop} (h : P := by (try simp only [List.map_toArray, List.map_cons, List.map_nil]); first | done | rfl | (simp only [List.length_drop, List.length_take]; rfl)) : P := h
theorem z26x2 {P : Prop} (h : P := by repeat (first | (with_reducible first | exact HB.out | apply below_alloc | apply pw_below_drewN | apply below_drew1 | refine below_set ?_ GE329.out) | exact HB.out)) : P := h
theorem z26x1 {P : Prop} (h : P := by rw [hg]; exact (below_size (by repeat (first | (with_reducible first | exact HB.out | apply below_alloc | apply pw_below_drewN | apply below_drew1 | refine below_set ?_ GE329.out) | exact HB.out)))) : P := h
theorem z26x0 {P : Prop} (h : P := by repeat (first | (with_reducible first | exact HB.out | apply below_alloc | apply pw_below_drewN | apply below_drew1 | refine below_set ?_ GE329.out | refine below_set ?_ GE338.out) | exact HB.out)) : P := h
/-! ### laws_FnSealStrict: function 5 -/
def laws_FnSealStrict.j0 : Nat → ByteArray → Bool → Bool → Bool → Int → Int → Int → Int → Int → Int → Int → Int → Int → Int → Int → Int → Int → Int → Option (Bool)
 | 0, _, _, _, _, _, _, _, _, _, _, _, _, _, _, _, _, _, _ => none
 | k + 1, x3, x5, x7, x34, x330000, x330001, x330002, x330003, x330004, x330005, x330006, x339000, x339001, x339002, x339003, x339004, x339005, x339006 => if x34 = true then (if (x7 == x5) = true then (some (x339000 == x330000 && (x339001 == x330001 && (x339002 == x330002 && (x339003 == x330003 && (x339004 == x330004 && (x339005 == x330005 && (x339006 == x330006)))))))) else (some false)) else ((impl_SealOk.f x339000 x339001 x339002 x339003 x339004 x339005 x339006).bind fun t339 => (if t339 = true then ((impl_SealText.f x339000 x339001 x339002 x339003 x339004 x339005 x339006).bind fun t340 => (some (t340.toList == x3.toList))) else (some false)))
def laws_FnSealStrict.f (k : Nat) (l0 : List Int) : Option (Bool) := if (l0.length : Int) > 1048576 then (some true) else ((spec_DrawSealRead.f k l0).bind fun t320 => ((spec_SealRead.f k t320).bind fun bt321 => ((impl_SealRead.f t320).bind fun bt330 => (if (bt330.2.2.2.2.2.2.2 != bt321.2.2.2.2.2.2.2) = true then (laws_FnSealStrict.j0 k t320 bt321.2.2.2.2.2.2.2 bt330.2.2.2.2.2.2.2 true bt321.1 bt321.2.1 bt321.2.2.1 bt321.2.2.2.1 bt321.2.2.2.2.1 bt321.2.2.2.2.2.1 bt321.2.2.2.2.2.2.1 bt330.1 bt330.2.1 bt330.2.2.1 bt330.2.2.2.1 bt330.2.2.2.2.1 bt330.2.2.2.2.2.1 bt330.2.2.2.2.2.2.1) else (if (!(bt330.1 == bt321.1) || (!(bt330.2.1 == bt321.2.1) || (!(bt330.2.2.1 == bt321.2.2.1) || (!(bt330.2.2.2.1 == bt321.2.2.2.1) || (!(bt330.2.2.2.2.1 == bt321.2.2.2.2.1) || (!(bt330.2.2.2.2.2.1 == bt321.2.2.2.2.2.1) || (!(bt330.2.2.2.2.2.2.1 == bt321.2.2.2.2.2.2.1)))))))) = true then (laws_FnSealStrict.j0 k t320 bt321.2.2.2.2.2.2.2 bt330.2.2.2.2.2.2.2 true bt321.1 bt321.2.1 bt321.2.2.1 bt321.2.2.2.1 bt321.2.2.2.2.1 bt321.2.2.2.2.2.1 bt321.2.2.2.2.2.2.1 bt330.1 bt330.2.1 bt330.2.2.1 bt330.2.2.2.1 bt330.2.2.2.2.1 bt330.2.2.2.2.2.1 bt330.2.2.2.2.2.2.1) else (laws_FnSealStrict.j0 k t320 bt321.2.2.2.2.2.2.2 bt330.2.2.2.2.2.2.2 (!bt330.2.2.2.2.2.2.2) bt321.1 bt321.2.1 bt321.2.2.1 bt321.2.2.2.1 bt321.2.2.2.2.1 bt321.2.2.2.2.2.1 bt321.2.2.2.2.2.2.1 bt330.1 bt330.2.1 bt330.2.2.1 bt330.2.2.2.1 bt330.2.2.2.2.1 bt330.2.2.2.2.2.1 bt330.2.2.2.2.2.2.1))))))
theorem laws_FnSealStrict.mono_l : ∀ k, (∀ y0 y1 y2 y3 y4 y5 y6 y7 y8 y9 y10 y11 y12 y13 y14 y15 y16 y17, LeO (laws_FnSealStrict.j0 k y0 y1 y2 y3 y4 y5 y6 y7 y8 y9 y10 y11 y12 y13 y14 y15 y16 y17) (laws_FnSealStrict.j0 (k + 1) y0 y1 y2 y3 y4 y5 y6 y7 y8 y9 y10 y11 y12 y13 y14 y15 y16 y17))
 | 0 => fun _ _ _ _ _ _ _ _ _ _ _ _ _ _ _ _ _ _ r h => by simp [laws_FnSealStrict.j0] at h
 | k + 1 => by
  have ih0 := laws_FnSealStrict.mono_l k
  ·intro y0 y1 y2 y3 y4 y5 y6 y7 y8 y9 y10 y11 y12 y13 y14 y15 y16 y17
   unfold laws_FnSealStrict.j0
   repeat' first
   | (with_reducible exact ih0 _ _ _ _ _ _ _ _ _ _ _ _ _ _ _ _ _ _)
   | (with_reducible exact spec_DrawSealRead.mono _ _)
   | (with_reducible exact spec_SealRead.mono _ _)
   | (with_reducible exact LeO.refl _)
   | (with_reducible exact LeO.none _)
   | (with_reducible refine LeO.ite ?_ ?_)
   | (with_reducible refine LeO.bind ?_ (fun _ => ?_))
   | exact ih0 _ _ _ _ _ _ _ _ _ _ _ _ _ _ _ _ _ _
   | exact spec_DrawSealRead.mono _ _
   | exact spec_SealRead.mono _ _
   | exact LeO.none _
   | refine LeO.ite ?_ ?_
   | refine LeO.bind ?_ (fun _ => ?_)
theorem laws_FnSealStrict.mono : ∀ a0 k, LeO (laws_FnSealStrict.f k a0) (laws_FnSealStrict.f (k + 1) a0) := by
 intro a0 k
 have ih0 := laws_FnSealStrict.mono_l k
 unfold laws_FnSealStrict.f
 repeat' first
   | (with_reducible exact ih0 _ _ _ _ _ _ _ _ _ _ _ _ _ _ _ _ _ _)
   | (with_reducible exact spec_DrawSealRead.mono _ _)
   | (with_reducible exact spec_SealRead.mono _ _)
   | (with_reducible exact LeO.refl _)
   | (with_reducible exact LeO.none _)
   | (with_reducible refine LeO.ite ?_ ?_)
   | (with_reducible refine LeO.bind ?_ (fun _ => ?_))
   | exact ih0 _ _ _ _ _ _ _ _ _ _ _ _ _ _ _ _ _ _
   | exact spec_DrawSealRead.mono _ _
   | exact spec_SealRead.mono _ _
   | exact LeO.none _
   | refine LeO.ite ?_ ?_
   | refine LeO.bind ?_ (fun _ => ?_)
set_option maxHeartbeats 8000000 in
set_option maxRecDepth 100000 in
theorem laws_FnSealStrict.calls (k : Nat) (A0 : Option Addr) (c0 : Nat) (l0 : List Int) (r : Bool) (w : World) (hr0 : Kd.C (Kd.int .u8) w A0 l0.length l0) (hc0 : l0.length ≤ c0) (h : laws_FnSealStrict.f k l0 = some r) (ht : Door w) :
  Calls Tryd.prog 5 #[.slice A0 l0.length c0] w fun e w' => e = .returned (.bool r) ∧ Below w.heap.size w w' := by
 have HT := Aside0.mk ht
 clear ht
 have hu24 := Tryd.underlying24
 have HR0 := Aside0.mk hr0
 have HC0 := Aside0.mk hc0
 clear hr0 hc0
 have HB := Aside0.mk (Below.refl w.heap.size w)
 have H : (if (l0.length : Int) > 1048576 then (some true) else ((spec_DrawSealRead.f k l0).bind fun t320 => ((spec_SealRead.f k t320).bind fun bt321 => ((impl_SealRead.f t320).bind fun bt330 => (if (bt330.2.2.2.2.2.2.2 != bt321.2.2.2.2.2.2.2) = true then (laws_FnSealStrict.j0 k t320 bt321.2.2.2.2.2.2.2 bt330.2.2.2.2.2.2.2 true bt321.1 bt321.2.1 bt321.2.2.1 bt321.2.2.2.1 bt321.2.2.2.2.1 bt321.2.2.2.2.2.1 bt321.2.2.2.2.2.2.1 bt330.1 bt330.2.1 bt330.2.2.1 bt330.2.2.2.1 bt330.2.2.2.2.1 bt330.2.2.2.2.2.1 bt330.2.2.2.2.2.2.1) else (if (!(bt330.1 == bt321.1) || (!(bt330.2.1 == bt321.2.1) || (!(bt330.2.2.1 == bt321.2.2.1) || (!(bt330.2.2.2.1 == bt321.2.2.2.1) || (!(bt330.2.2.2.2.1 == bt321.2.2.2.2.1) || (!(bt330.2.2.2.2.2.1 == bt321.2.2.2.2.2.1) || (!(bt330.2.2.2.2.2.2.1 == bt321.2.2.2.2.2.2.1)))))))) = true then (laws_FnSealStrict.j0 k t320 bt321.2.2.2.2.2.2.2 bt330.2.2.2.2.2.2.2 true bt321.1 bt321.2.1 bt321.2.2.1 bt321.2.2.2.1 bt321.2.2.2.2.1 bt321.2.2.2.2.2.1 bt321.2.2.2.2.2.2.1 bt330.1 bt330.2.1 bt330.2.2.1 bt330.2.2.2.1 bt330.2.2.2.2.1 bt330.2.2.2.2.2.1 bt330.2.2.2.2.2.2.1) else (laws_FnSealStrict.j0 k t320 bt321.2.2.2.2.2.2.2 bt330.2.2.2.2.2.2.2 (!bt330.2.2.2.2.2.2.2) bt321.1 bt321.2.1 bt321.2.2.1 bt321.2.2.2.1 bt321.2.2.2.2.1 bt321.2.2.2.2.2.1 bt321.2.2.2.2.2.2.1 bt330.1 bt330.2.1 bt330.2.2.1 bt330.2.2.2.1 bt330.2.2.2.2.1 bt330.2.2.2.2.2.1 bt330.2.2.2.2.2.2.1))))))) = some r := h
 clear h
 by_cases c2 : (l0.length : Int) > 1048576
 ·rw [if_pos c2] at H
  have c2b0 : decide (1048576 < (l0.length : Int)) = true := decide_eq_true c2
  have c2b1 : decide (1048576 < l0.length) = true := decide_eq_true (by omega)
  clear c2
  obtain rfl := Option.some.inj H
  go_enter Tryd.func5, Tryd.ntmps5
  go_wp2
  go_ret
  exact ⟨by first | rfl | (simp [errW_none, errW_some] <;> rfl) | (simp [*, errW_none, errW_some] <;> rfl), by repeat (first | (with_reducible first | exact HB.out | apply below_alloc | apply pw_below_drewN | apply below_drew1) | exact HB.out)⟩
 ·rw [if_neg c2] at H
  have c2b0 : decide (1048576 < (l0.length : Int)) = false := decide_eq_false c2
  have c2b1 : decide (1048576 < l0.length) = false := decide_eq_false (by omega)
  clear c2
  replace H := Option.bind_eq_some_iff.mp H
  obtain ⟨t320, A30, H⟩ := H
  replace H : ((spec_SealRead.f k t320).bind fun bt321 => ((impl_SealRead.f t320).bind fun bt330 => (if (bt330.2.2.2.2.2.2.2 != bt321.2.2.2.2.2.2.2) = true then (laws_FnSealStrict.j0 k t320 bt321.2.2.2.2.2.2.2 bt330.2.2.2.2.2.2.2 true bt321.1 bt321.2.1 bt321.2.2.1 bt321.2.2.2.1 bt321.2.2.2.2.1 bt321.2.2.2.2.2.1 bt321.2.2.2.2.2.2.1 bt330.1 bt330.2.1 bt330.2.2.1 bt330.2.2.2.1 bt330.2.2.2.2.1 bt330.2.2.2.2.2.1 bt330.2.2.2.2.2.2.1) else (if (!(bt330.1 == bt321.1) || (!(bt330.2.1 == bt321.2.1) || (!(bt330.2.2.1 == bt321.2.2.1) || (!(bt330.2.2.2.1 == bt321.2.2.2.1) || (!(bt330.2.2.2.2.1 == bt321.2.2.2.2.1) || (!(bt330.2.2.2.2.2.1 == bt321.2.2.2.2.2.1) || (!(bt330.2.2.2.2.2.2.1 == bt321.2.2.2.2.2.2.1)))))))) = true then (laws_FnSealStrict.j0 k t320 bt321.2.2.2.2.2.2.2 bt330.2.2.2.2.2.2.2 true bt321.1 bt321.2.1 bt321.2.2.1 bt321.2.2.2.1 bt321.2.2.2.2.1 bt321.2.2.2.2.2.1 bt321.2.2.2.2.2.2.1 bt330.1 bt330.2.1 bt330.2.2.1 bt330.2.2.2.1 bt330.2.2.2.2.1 bt330.2.2.2.2.2.1 bt330.2.2.2.2.2.2.1) else (laws_FnSealStrict.j0 k t320 bt321.2.2.2.2.2.2.2 bt330.2.2.2.2.2.2.2 (!bt330.2.2.2.2.2.2.2) bt321.1 bt321.2.1 bt321.2.2.1 bt321.2.2.2.1 bt321.2.2.2.2.1 bt321.2.2.2.2.2.1 bt321.2.2.2.2.2.2.1 bt330.1 bt330.2.1 bt330.2.2.1 bt330.2.2.2.1 bt330.2.2.2.2.1 bt330.2.2.2.2.2.1 bt330.2.2.2.2.2.2.1))))) = some r := H
  have A3 := Aside0.mk A30
  clear A30
  replace H := Option.bind_eq_some_iff.mp H
  obtain ⟨⟨t321, t322, t323, t324, t325, t326, t327, t328⟩, A40, H⟩ := H
  replace H : ((impl_SealRead.f t320).bind fun bt330 => (if (bt330.2.2.2.2.2.2.2 != t328) = true then (laws_FnSealStrict.j0 k t320 t328 bt330.2.2.2.2.2.2.2 true t321 t322 t323 t324 t325 t326 t327 bt330.1 bt330.2.1 bt330.2.2.1 bt330.2.2.2.1 bt330.2.2.2.2.1 bt330.2.2.2.2.2.1 bt330.2.2.2.2.2.2.1) else (if (!(bt330.1 == t321) || (!(bt330.2.1 == t322) || (!(bt330.2.2.1 == t323) || (!(bt330.2.2.2.1 == t324) || (!(bt330.2.2.2.2.1 == t325) || (!(bt330.2.2.2.2.2.1 == t326) || (!(bt330.2.2.2.2.2.2.1 == t327)))))))) = true then (laws_FnSealStrict.j0 k t320 t328 bt330.2.2.2.2.2.2.2 true t321 t322 t323 t324 t325 t326 t327 bt330.1 bt330.2.1 bt330.2.2.1 bt330.2.2.2.1 bt330.2.2.2.2.1 bt330.2.2.2.2.2.1 bt330.2.2.2.2.2.2.1) else (laws_FnSealStrict.j0 k t320 t328 bt330.2.2.2.2.2.2.2 (!bt330.2.2.2.2.2.2.2) t321 t322 t323 t324 t325 t326 t327 bt330.1 bt330.2.1 bt330.2.2.1 bt330.2.2.2.1 bt330.2.2.2.2.1 bt330.2.2.2.2.2.1 bt330.2.2.2.2.2.2.1)))) = some r := H
  have A4 := Aside0.mk A40
  clear A40
  replace H := Option.bind_eq_some_iff.mp H
  obtain ⟨⟨t330, t331, t332, t333, t334, t335, t336, t337⟩, A50, H⟩ := H
  replace H : (if (t337 != t328) = true then (laws_FnSealStrict.j0 k t320 t328 t337 true t321 t322 t323 t324 t325 t326 t327 t330 t331 t332 t333 t334 t335 t336) else (if (!(t330 == t321) || (!(t331 == t322) || (!(t332 == t323) || (!(t333 == t324) || (!(t334 == t325) || (!(t335 == t326) || (!(t336 == t327)))))))) = true then (laws_FnSealStrict.j0 k t320 t328 t337 true t321 t322 t323 t324 t325 t326 t327 t330 t331 t332 t333 t334 t335 t336) else (laws_FnSealStrict.j0 k t320 t328 t337 (!t337) t321 t322 t323 t324 t325 t326 t327 t330 t331 t332 t333 t334 t335 t336))) = some r := H
  have A5 := Aside0.mk A50
  clear A50
  have HC6 := Aside0.mk H
  clear H
  go_enter Tryd.func5, Tryd.ntmps5
  go_upto_region 6 with (first | ((with_reducible refine gate_callee (f := 13) rfl ?_); refine goesL_ (some 12) rfl rfl Tryd.func13 (by kernel_rfl) rfl #[.slice A0 l0.length c0] rfl z26x3 ?_; (with_reducible refine (spec_DrawSealRead.calls k _ _ l0 t320 _ ?side1 ?side2 A3.out).mono ?_); (case side1 => repeat (first | exact HR0.out | (with_reducible refine Kd.C_alloc ?_ _) | (with_reducible refine Kd.C_drewN ?_ _) | (with_reducible refine Kd.C_drew ?_))); (case side2 => exact HC0.out); rintro e w7 ⟨rfl, hb⟩; refine ⟨_, rfl, ?_⟩; have n0_ := Aside0.mk (below_step z26x4 hb); clear HB; have HB := n0_; clear n0_; (try clear hb); (try clear hb2); (try clear hk); (try clear hi)) | ((with_reducible refine gate_callee (f := 11) rfl ?_); refine goesL_ (some 15) rfl rfl Tryd.func11 (by kernel_rfl) rfl #[.string t320] rfl z26x3 ?_; (with_reducible refine (spec_SealRead.calls k t320 t321 t322 t323 t324 t325 t326 t327 t328 _ A4.out).mono ?_); rintro e w8 ⟨rfl, hb⟩; refine ⟨_, rfl, ?_⟩; have n0_ := Aside0.mk (below_step z26x4 hb); clear HB; have HB := n0_; clear n0_; (try clear hb); (try clear hb2); (try clear hk); (try clear hi)) | ((with_reducible refine gate_dst (N := 4) rfl ?_); refine box_event ?hg (N := 4) ?hd (cs := #[.int .i64 0, .int .i64 0, .int .i64 0, .int .i64 0, .int .i64 0, .int .i64 0, .int .i64 0]) (t := 24) ?hr ?_; (case hd => rfl); (case hg => rfl); (case hr => first | (go_simp; done) | (go_simp; rfl)); intro gb329 hg w9 hbox hb; have n0_ := Aside0.mk (below_step z26x4 hb); have n1_ := Aside0.mk (hbox); have n2_ := Aside0.mk ((by rw [hg]; exact (below_size z26x4) : w.heap.size ≤ gb329)); have n3_ := Aside0.mk ((by rw [hg]; exact (below_size z26x4) : w.heap.size ≤ gb329)); clear HB; have HB := n0_; have BK329 := n1_; have GW329 := n2_; have GE329 := n3_; clear n0_ n1_ n2_ n3_; clear hb hbox hg; have hcz10_0 : w9.cell? ⟨gb329, 0, none⟩ = some (.int .i64 0) := (blk_cell BK329.out 0).trans rfl; have hcz10_1 : w9.cell? ⟨gb329, 1, none⟩ = some (.int .i64 0) := (blk_cell BK329.out 1).trans rfl; have hcz10_2 : w9.cell? ⟨gb329, 2, none⟩ = some (.int .i64 0) := (blk_cell BK329.out 2).trans rfl; have hcz10_3 : w9.cell? ⟨gb329, 3, none⟩ = some (.int .i64 0) := (blk_cell BK329.out 3).trans rfl; have hcz10_4 : w9.cell? ⟨gb329, 4, none⟩ = some (.int .i64 0) := (blk_cell BK329.out 4).trans rfl; have hcz10_5 : w9.cell? ⟨gb329, 5, none⟩ = some (.int .i64 0) := (blk_cell BK329.out 5).trans rfl; have hcz10_6 : w9.cell? ⟨gb329, 6, none⟩ = some (.int .i64 0) := (blk_cell BK329.out 6).trans rfl; have hfz10_0 := blk_frozen BK329.out 0; have hfz10_1 := blk_frozen BK329.out 1; have hfz10_2 := blk_frozen BK329.out 2; have hfz10_3 := blk_frozen BK329.out 3; have hfz10_4 := blk_frozen BK329.out 4; have hfz10_5 := blk_frozen BK329.out 5; have hfz10_6 := blk_frozen BK329.out 6) | ((with_reducible refine gate_callee (f := 10) rfl ?_); refine goesL_ (some 20) rfl rfl Tryd.func10 (by kernel_rfl) rfl #[.string t320] rfl z26x3 ?_; (with_reducible refine (impl_SealRead.calls t320 t330 t331 t332 t333 t334 t335 t336 t337 _ A5.out ?tens1).mono ?_); (case tens1 => exact Door.on HT.out z26x2); rintro e w11 ⟨rfl, hb⟩; refine ⟨_, rfl, ?_⟩; have n0_ := Aside0.mk (blk_below (g := gb329) (o := .cells #[.int .i64 t321, .int .i64 t322, .int .i64 t323, .int .i64 t324, .int .i64 t325, .int .i64 t326, .int .i64 t327] 24 (0, 0)) (by (with_reducible repeat (first | refine blk_drewN ?_ _ | refine blk_drew ?_ | refine blk_alloc ?_ _)); refine blk_put (cs := #[.int .i64 t321, .int .i64 t322, .int .i64 t323, .int .i64 t324, .int .i64 t325, .int .i64 t326, .int .i64 0]) ?_ 6 _ rfl; (with_reducible repeat (first | refine blk_drewN ?_ _ | refine blk_drew ?_ | refine blk_alloc ?_ _)); refine blk_put (cs := #[.int .i64 t321, .int .i64 t322, .int .i64 t323, .int .i64 t324, .int .i64 t325, .int .i64 0, .int .i64 0]) ?_ 5 _ rfl; (with_reducible repeat (first | refine blk_drewN ?_ _ | refine blk_drew ?_ | refine blk_alloc ?_ _)); refine blk_put (cs := #[.int .i64 t321, .int .i64 t322, .int .i64 t323, .int .i64 t324, .int .i64 0, .int .i64 0, .int .i64 0]) ?_ 4 _ rfl; (with_reducible repeat (first | refine blk_drewN ?_ _ | refine blk_drew ?_ | refine blk_alloc ?_ _)); refine blk_put (cs := #[.int .i64 t321, .int .i64 t322, .int .i64 t323, .int .i64 0, .int .i64 0, .int .i64 0, .int .i64 0]) ?_ 3 _ rfl; (with_reducible repeat (first | refine blk_drewN ?_ _ | refine blk_drew ?_ | refine blk_alloc ?_ _)); refine blk_put (cs := #[.int .i64 t321, .int .i64 t322, .int .i64 0, .int .i64 0, .int .i64 0, .int .i64 0, .int .i64 0]) ?_ 2 _ rfl; (with_reducible repeat (first | refine blk_drewN ?_ _ | refine blk_drew ?_ | refine blk_alloc ?_ _)); refine blk_put (cs := #[.int .i64 t321, .int .i64 0, .int .i64 0, .int .i64 0, .int .i64 0, .int .i64 0, .int .i64 0]) ?_ 1 _ rfl; (with_reducible repeat (first | refine blk_drewN ?_ _ | refine blk_drew ?_ | refine blk_alloc ?_ _)); refine blk_put (cs := #[.int .i64 0, .int .i64 0, .int .i64 0, .int .i64 0, .int .i64 0, .int .i64 0, .int .i64 0]) ?_ 0 _ rfl; (with_reducible repeat (first | refine blk_drewN ?_ _ | refine blk_drew ?_ | refine blk_alloc ?_ _)); exact BK329.out) hb); have n1_ := Aside0.mk (below_step z26x2 hb); clear BK329; clear HB; have BK329 := n0_; have HB := n1_; clear n0_ n1_; (try clear hb); (try clear hb2); (try clear hk); (try clear hi)) | ((with_reducible refine gate_dst (N := 6) rfl ?_); refine box_event ?hg (N := 6) ?hd (cs := #[.int .i64 0, .int .i64 0, .int .i64 0, .int .i64 0, .int .i64 0, .int .i64 0, .int .i64 0]) (t := 24) ?hr ?_; (case hd => rfl); (case hg => rfl); (case hr => first | (go_simp; done) | (go_simp; rfl)); intro gb338 hg w12 hbox hb; have n0_ := Aside0.mk (blk_below (g := gb329) (o := .cells #[.int .i64 t321, .int .i64 t322, .int .i64 t323, .int .i64 t324, .int .i64 t325, .int .i64 t326, .int .i64 t327] 24 (0, 0)) z26x5 hb); have n1_ := Aside0.mk (below_step z26x2 hb); have n2_ := Aside0.mk (hbox); have n3_ := Aside0.mk ((z26x1 : w.heap.size ≤ gb338)); have n4_ := Aside0.mk ((z26x1 : w.heap.size ≤ gb338)); have n5_ := Aside0.mk ((by rw [hg]; exact Nat.ne_of_lt (blk_lt (g := gb329) (o := .cells #[.int .i64 t321, .int .i64 t322, .int .i64 t323, .int .i64 t324, .int .i64 t325, .int .i64 t326, .int .i64 t327] 24 (0, 0)) z26x5) : gb329 ≠ gb338)); have n6_ := Aside0.mk ((by rw [hg]; exact Nat.ne_of_gt (blk_lt (g := gb329) (o := .cells #[.int .i64 t321, .int .i64 t322, .int .i64 t323, .int .i64 t324, .int .i64 t325, .int .i64 t326, .int .i64 t327] 24 (0, 0)) z26x5) : gb338 ≠ gb329)); clear BK329; clear HB; have BK329 := n0_; have HB := n1_; have BK338 := n2_; have GW338 := n3_; have GE338 := n4_; have NB329_338 := n5_; have NB338_329 := n6_; clear n0_ n1_ n2_ n3_ n4_ n5_ n6_; clear hb hbox hg; have hnb13 := NB338_329.out; have hnc13 := NB329_338.out; have hcz14_0 : w12.cell? ⟨gb338, 0, none⟩ = some (.int .i64 0) := (blk_cell BK338.out 0).trans rfl; have hcz14_1 : w12.cell? ⟨gb338, 1, none⟩ = some (.int .i64 0) := (blk_cell BK338.out 1).trans rfl; have hcz14_2 : w12.cell? ⟨gb338, 2, none⟩ = some (.int .i64 0) := (blk_cell BK338.out 2).trans rfl; have hcz14_3 : w12.cell? ⟨gb338, 3, none⟩ = some (.int .i64 0) := (blk_cell BK338.out 3).trans rfl; have hcz14_4 : w12.cell? ⟨gb338, 4, none⟩ = some (.int .i64 0) := (blk_cell BK338.out 4).trans rfl; have hcz14_5 : w12.cell? ⟨gb338, 5, none⟩ = some (.int .i64 0) := (blk_cell BK338.out 5).trans rfl; have hcz14_6 : w12.cell? ⟨gb338, 6, none⟩ = some (.int .i64 0) := (blk_cell BK338.out 6).trans rfl; have hfz14_0 := blk_frozen BK338.out 0; have hfz14_1 := blk_frozen BK338.out 1; have hfz14_2 := blk_frozen BK338.out 2; have hfz14_3 := blk_frozen BK338.out 3; have hfz14_4 := blk_frozen BK338.out 4; have hfz14_5 := blk_frozen BK338.out 5; have hfz14_6 := blk_frozen BK338.out 6))
  (try simp only [Act.put, List.setIfInBounds_toArray, List.set_cons_zero, List.set_cons_succ])
  go_cut [34] (fun v34 wc => ∃ (kq : Nat) (x34_5 : Bool), v34 = .bool x34_5 ∧ Aside0 (laws_FnSealStrict.j0 kq t320 t328 t337 x34_5 t321 t322 t323 t324 t325 t326 t327 t330 t331 t332 t333 t334 t335 t336 = some r) ∧ Aside0 (kq ≤ k) ∧ Aside0 (wc.heap[gb329]? = some (.cells #[.int .i64 t321, .int .i64 t322, .int .i64 t323, .int .i64 t324, .int .i64 t325, .int .i64 t326, .int .i64 t327] 24 (0, 0))) ∧ Aside0 (wc.heap[gb338]? = some (.cells #[.int .i64 t330, .int .i64 t331, .int .i64 t332, .int .i64 t333, .int .i64 t334, .int .i64 t335, .int .i64 t336] 24 (0, 0))) ∧ Aside0 (Below w.heap.size w wc))
  case first =>
   have H := HC6.out
   clear HC6
   by_cases c15 : (t337 != t328) = true
   ·rw [if_pos c15] at H
    have c15b0 : (t337 != t328) = true := c15
    (try (have c15b1 : decide (t337 = t328) = false := by simpa using c15))
    (try (have c15b2 : (t337 == t328) = false := by simpa using c15))
    (try (have c15b3 : ¬ (t337 = t328) := by simpa using c15))
    clear c15
    (first | rw [c15b0] | (simp only [i64_w, i32_w]; rw [c15b0]) | skip)
    have H' := Aside0.mk H
    clear H
    go_wp2
    go_meet
    case rel => exact ⟨_, (true), (by first | rfl | (simp; done) | (simp [*]; done)), H', ⟨by first | omega | exact Nat.le_refl _⟩, ⟨by (with_reducible repeat (first | refine blk_drewN ?_ _ | refine blk_drew ?_ | refine blk_alloc ?_ _)); refine blk_far ?_ NB329_338.out _; (with_reducible repeat (first | refine blk_drewN ?_ _ | refine blk_drew ?_ | refine blk_alloc ?_ _)); refine blk_far ?_ NB329_338.out _; (with_reducible repeat (first | refine blk_drewN ?_ _ | refine blk_drew ?_ | refine blk_alloc ?_ _)); refine blk_far ?_ NB329_338.out _; (with_reducible repeat (first | refine blk_drewN ?_ _ | refine blk_drew ?_ | refine blk_alloc ?_ _)); refine blk_far ?_ NB329_338.out _; (with_reducible repeat (first | refine blk_drewN ?_ _ | refine blk_drew ?_ | refine blk_alloc ?_ _)); refine blk_far ?_ NB329_338.out _; (with_reducible repeat (first | refine blk_drewN ?_ _ | refine blk_drew ?_ | refine blk_alloc ?_ _)); refine blk_far ?_ NB329_338.out _; (with_reducible repeat (first | refine blk_drewN ?_ _ | refine blk_drew ?_ | refine blk_alloc ?_ _)); refine blk_far ?_ NB329_338.out _; (with_reducible repeat (first | refine blk_drewN ?_ _ | refine blk_drew ?_ | refine blk_alloc ?_ _)); exact BK329.out⟩, ⟨by (with_reducible repeat (first | refine blk_drewN ?_ _ | refine blk_drew ?_ | refine blk_alloc ?_ _)); refine blk_put (cs := #[.int .i64 t330, .int .i64 t331, .int .i64 t332, .int .i64 t333, .int .i64 t334, .int .i64 t335, .int .i64 0]) ?_ 6 _ rfl; (with_reducible repeat (first | refine blk_drewN ?_ _ | refine blk_drew ?_ | refine blk_alloc ?_ _)); refine blk_put (cs := #[.int .i64 t330, .int .i64 t331, .int .i64 t332, .int .i64 t333, .int .i64 t334, .int .i64 0, .int .i64 0]) ?_ 5 _ rfl; (with_reducible repeat (first | refine blk_drewN ?_ _ | refine blk_drew ?_ | refine blk_alloc ?_ _)); refine blk_put (cs := #[.int .i64 t330, .int .i64 t331, .int .i64 t332, .int .i64 t333, .int .i64 0, .int .i64 0, .int .i64 0]) ?_ 4 _ rfl; (with_reducible repeat (first | refine blk_drewN ?_ _ | refine blk_drew ?_ | refine blk_alloc ?_ _)); refine blk_put (cs := #[.int .i64 t330, .int .i64 t331, .int .i64 t332, .int .i64 0, .int .i64 0, .int .i64 0, .int .i64 0]) ?_ 3 _ rfl; (with_reducible repeat (first | refine blk_drewN ?_ _ | refine blk_drew ?_ | refine blk_alloc ?_ _)); refine blk_put (cs := #[.int .i64 t330, .int .i64 t331, .int .i64 0, .int .i64 0, .int .i64 0, .int .i64 0, .int .i64 0]) ?_ 2 _ rfl; (with_reducible repeat (first | refine blk_drewN ?_ _ | refine blk_drew ?_ | refine blk_alloc ?_ _)); refine blk_put (cs := #[.int .i64 t330, .int .i64 0, .int .i64 0, .int .i64 0, .int .i64 0, .int .i64 0, .int .i64 0]) ?_ 1 _ rfl; (with_reducible repeat (first | refine blk_drewN ?_ _ | refine blk_drew ?_ | refine blk_alloc ?_ _)); refine blk_put (cs := #[.int .i64 0, .int .i64 0, .int .i64 0, .int .i64 0, .int .i64 0, .int .i64 0, .int .i64 0]) ?_ 0 _ rfl; (with_reducible repeat (first | refine blk_drewN ?_ _ | refine blk_drew ?_ | refine blk_alloc ?_ _)); exact BK338.out⟩, ⟨by repeat (first | (with_reducible first | exact HB.out | apply below_alloc | apply pw_below_drewN | apply below_drew1 | refine below_set ?_ GE329.out | refine below_set ?_ GE338.out) | exact HB.out)⟩⟩
   ·rw [if_neg c15] at H
    have c15b0 : (t337 != t328) = false := by simpa using c15
    (try (have c15b1 : decide (t337 = t328) = true := by simpa using c15))
    (try (have c15b2 : (t337 == t328) = true := by simpa using c15))
    clear c15
    (first | rw [c15b0] | (simp only [i64_w, i32_w]; rw [c15b0]) | skip)
    by_cases c16 : (!(t330 == t321) || (!(t331 == t322) || (!(t332 == t323) || (!(t333 == t324) || (!(t334 == t325) || (!(t335 == t326) || (!(t336 == t327)))))))) = true
    ·rw [if_pos c16] at H
     have c16b0 : (!(t330 == t321) || (!(t331 == t322) || (!(t332 == t323) || (!(t333 == t324) || (!(t334 == t325) || (!(t335 == t326) || (!(t336 == t327)))))))) = true := c16
     clear c16
     have H' := Aside0.mk H
     clear H
     have hnb17 := NB338_329.out
     have hnc17 := NB329_338.out
     have hcz18_0 : w12.cell? ⟨gb338, 0, none⟩ = some (.int .i64 0) := (blk_cell BK338.out 0).trans rfl
     have hcz18_1 : w12.cell? ⟨gb338, 1, none⟩ = some (.int .i64 0) := (blk_cell BK338.out 1).trans rfl
     have hcz18_2 : w12.cell? ⟨gb338, 2, none⟩ = some (.int .i64 0) := (blk_cell BK338.out 2).trans rfl
     have hcz18_3 : w12.cell? ⟨gb338, 3, none⟩ = some (.int .i64 0) := (blk_cell BK338.out 3).trans rfl
     have hcz18_4 : w12.cell? ⟨gb338, 4, none⟩ = some (.int .i64 0) := (blk_cell BK338.out 4).trans rfl
     have hcz18_5 : w12.cell? ⟨gb338, 5, none⟩ = some (.int .i64 0) := (blk_cell BK338.out 5).trans rfl
     have hcz18_6 : w12.cell? ⟨gb338, 6, none⟩ = some (.int .i64 0) := (blk_cell BK338.out 6).trans rfl
     have hfz18_0 := blk_frozen BK338.out 0
     have hfz18_1 := blk_frozen BK338.out 1
     have hfz18_2 := blk_frozen BK338.out 2
     have hfz18_3 := blk_frozen BK338.out 3
     have hfz18_4 := blk_frozen BK338.out 4
     have hfz18_5 := blk_frozen BK338.out 5
     have hfz18_6 := blk_frozen BK338.out 6
     have hcz19_0 : w12.cell? ⟨gb329, 0, none⟩ = some (.int .i64 t321) := (blk_cell BK329.out 0).trans rfl
     have hcz19_1 : w12.cell? ⟨gb329, 1, none⟩ = some (.int .i64 t322) := (blk_cell BK329.out 1).trans rfl
     have hcz19_2 : w12.cell? ⟨gb329, 2, none⟩ = some (.int .i64 t323) := (blk_cell BK329.out 2).trans rfl
     have hcz19_3 : w12.cell? ⟨gb329, 3, none⟩ = some (.int .i64 t324) := (blk_cell BK329.out 3).trans rfl
     have hcz19_4 : w12.cell? ⟨gb329, 4, none⟩ = some (.int .i64 t325) := (blk_cell BK329.out 4).trans rfl
     have hcz19_5 : w12.cell? ⟨gb329, 5, none⟩ = some (.int .i64 t326) := (blk_cell BK329.out 5).trans rfl
     have hcz19_6 : w12.cell? ⟨gb329, 6, none⟩ = some (.int .i64 t327) := (blk_cell BK329.out 6).trans rfl
     have hfz19_0 := blk_frozen BK329.out 0
     have hfz19_1 := blk_frozen BK329.out 1
     have hfz19_2 := blk_frozen BK329.out 2
     have hfz19_3 := blk_frozen BK329.out 3
     have hfz19_4 := blk_frozen BK329.out 4
     have hfz19_5 := blk_frozen BK329.out 5
     have hfz19_6 := blk_frozen BK329.out 6
     go_wp2
     go_meet
     case rel => exact ⟨_, (true), (by first | rfl | (simp; done) | (simp [*]; done)), H', ⟨by first | omega | exact Nat.le_refl _⟩, ⟨by (with_reducible repeat (first | refine blk_drewN ?_ _ | refine blk_drew ?_ | refine blk_alloc ?_ _)); refine blk_far ?_ NB329_338.out _; (with_reducible repeat (first | refine blk_drewN ?_ _ | refine blk_drew ?_ | refine blk_alloc ?_ _)); refine blk_far ?_ NB329_338.out _; (with_reducible repeat (first | refine blk_drewN ?_ _ | refine blk_drew ?_ | refine blk_alloc ?_ _)); refine blk_far ?_ NB329_338.out _; (with_reducible repeat (first | refine blk_drewN ?_ _ | refine blk_drew ?_ | refine blk_alloc ?_ _)); refine blk_far ?_ NB329_338.out _; (with_reducible repeat (first | refine blk_drewN ?_ _ | refine blk_drew ?_ | refine blk_alloc ?_ _)); refine blk_far ?_ NB329_338.out _; (with_reducible repeat (first | refine blk_drewN ?_ _ | refine blk_drew ?_ | refine blk_alloc ?_ _)); refine blk_far ?_ NB329_338.out _; (with_reducible repeat (first | refine blk_drewN ?_ _ | refine blk_drew ?_ | refine blk_alloc ?_ _)); refine blk_far ?_ NB329_338.out _; (with_reducible repeat (first | refine blk_drewN ?_ _ | refine blk_drew ?_ | refine blk_alloc ?_ _)); exact BK329.out⟩, ⟨by (with_reducible repeat (first | refine blk_drewN ?_ _ | refine blk_drew ?_ | refine blk_alloc ?_ _)); refine blk_put (cs := #[.int .i64 t330, .int .i64 t331, .int .i64 t332, .int .i64 t333, .int .i64 t334, .int .i64 t335, .int .i64 0]) ?_ 6 _ rfl; (with_reducible repeat (first | refine blk_drewN ?_ _ | refine blk_drew ?_ | refine blk_alloc ?_ _)); refine blk_put (cs := #[.int .i64 t330, .int .i64 t331, .int .i64 t332, .int .i64 t333, .int .i64 t334, .int .i64 0, .int .i64 0]) ?_ 5 _ rfl; (with_reducible repeat (first | refine blk_drewN ?_ _ | refine blk_drew ?_ | refine blk_alloc ?_ _)); refine blk_put (cs := #[.int .i64 t330, .int .i64 t331, .int .i64 t332, .int .i64 t333, .int .i64 0, .int .i64 0, .int .i64 0]) ?_ 4 _ rfl; (with_reducible repeat (first | refine blk_drewN ?_ _ | refine blk_drew ?_ | refine blk_alloc ?_ _)); refine blk_put (cs := #[.int .i64 t330, .int .i64 t331, .int .i64 t332, .int .i64 0, .int .i64 0, .int .i64 0, .int .i64 0]) ?_ 3 _ rfl; (with_reducible repeat (first | refine blk_drewN ?_ _ | refine blk_drew ?_ | refine blk_alloc ?_ _)); refine blk_put (cs := #[.int .i64 t330, .int .i64 t331, .int .i64 0, .int .i64 0, .int .i64 0, .int .i64 0, .int .i64 0]) ?_ 2 _ rfl; (with_reducible repeat (first | refine blk_drewN ?_ _ | refine blk_drew ?_ | refine blk_alloc ?_ _)); refine blk_put (cs := #[.int .i64 t330, .int .i64 0, .int .i64 0, .int .i64 0, .int .i64 0, .int .i64 0, .int .i64 0]) ?_ 1 _ rfl; (with_reducible repeat (first | refine blk_drewN ?_ _ | refine blk_drew ?_ | refine blk_alloc ?_ _)); refine blk_put (cs := #[.int .i64 0, .int .i64 0, .int .i64 0, .int .i64 0, .int .i64 0, .int .i64 0, .int .i64 0]) ?_ 0 _ rfl; (with_reducible repeat (first | refine blk_drewN ?_ _ | refine blk_drew ?_ | refine blk_alloc ?_ _)); exact BK338.out⟩, ⟨by repeat (first | (with_reducible first | exact HB.out | apply below_alloc | apply pw_below_drewN | apply below_drew1 | refine below_set ?_ GE329.out | refine below_set ?_ GE338.out) | exact HB.out)⟩⟩
    ·rw [if_neg c16] at H
     have c16b0 : (!(t330 == t321) || (!(t331 == t322) || (!(t332 == t323) || (!(t333 == t324) || (!(t334 == t325) || (!(t335 == t326) || (!(t336 == t327)))))))) = false := by simpa using c16
     clear c16
     have H' := Aside0.mk H
     clear H
     have hnb20 := NB338_329.out
     have hnc20 := NB329_338.out
     have hcz21_0 : w12.cell? ⟨gb338, 0, none⟩ = some (.int .i64 0) := (blk_cell BK338.out 0).trans rfl
     have hcz21_1 : w12.cell? ⟨gb338, 1, none⟩ = some (.int .i64 0) := (blk_cell BK338.out 1).trans rfl
     have hcz21_2 : w12.cell? ⟨gb338, 2, none⟩ = some (.int .i64 0) := (blk_cell BK338.out 2).trans rfl
     have hcz21_3 : w12.cell? ⟨gb338, 3, none⟩ = some (.int .i64 0) := (blk_cell BK338.out 3).trans rfl
     have hcz21_4 : w12.cell? ⟨gb338, 4, none⟩ = some (.int .i64 0) := (blk_cell BK338.out 4).trans rfl
     have hcz21_5 : w12.cell? ⟨gb338, 5, none⟩ = some (.int .i64 0) := (blk_cell BK338.out 5).trans rfl
     have hcz21_6 : w12.cell? ⟨gb338, 6, none⟩ = some (.int .i64 0) := (blk_cell BK338.out 6).trans rfl
     have hfz21_0 := blk_frozen BK338.out 0
     have hfz21_1 := blk_frozen BK338.out 1
     have hfz21_2 := blk_frozen BK338.out 2
     have hfz21_3 := blk_frozen BK338.out 3
     have hfz21_4 := blk_frozen BK338.out 4
     have hfz21_5 := blk_frozen BK338.out 5
     have hfz21_6 := blk_frozen BK338.out 6
     have hcz22_0 : w12.cell? ⟨gb329, 0, none⟩ = some (.int .i64 t321) := (blk_cell BK329.out 0).trans rfl
     have hcz22_1 : w12.cell? ⟨gb329, 1, none⟩ = some (.int .i64 t322) := (blk_cell BK329.out 1).trans rfl
     have hcz22_2 : w12.cell? ⟨gb329, 2, none⟩ = some (.int .i64 t323) := (blk_cell BK329.out 2).trans rfl
     have hcz22_3 : w12.cell? ⟨gb329, 3, none⟩ = some (.int .i64 t324) := (blk_cell BK329.out 3).trans rfl
     have hcz22_4 : w12.cell? ⟨gb329, 4, none⟩ = some (.int .i64 t325) := (blk_cell BK329.out 4).trans rfl
     have hcz22_5 : w12.cell? ⟨gb329, 5, none⟩ = some (.int .i64 t326) := (blk_cell BK329.out 5).trans rfl
     have hcz22_6 : w12.cell? ⟨gb329, 6, none⟩ = some (.int .i64 t327) := (blk_cell BK329.out 6).trans rfl
     have hfz22_0 := blk_frozen BK329.out 0
     have hfz22_1 := blk_frozen BK329.out 1
     have hfz22_2 := blk_frozen BK329.out 2
     have hfz22_3 := blk_frozen BK329.out 3
     have hfz22_4 := blk_frozen BK329.out 4
     have hfz22_5 := blk_frozen BK329.out 5
     have hfz22_6 := blk_frozen BK329.out 6
     go_wp2
     go_meet
     case rel => exact ⟨_, (!t337), (by first | rfl | (simp; done) | (simp [*]; done)), H', ⟨by first | omega | exact Nat.le_refl _⟩, ⟨by (with_reducible repeat (first | refine blk_drewN ?_ _ | refine blk_drew ?_ | refine blk_alloc ?_ _)); refine blk_far ?_ NB329_338.out _; (with_reducible repeat (first | refine blk_drewN ?_ _ | refine blk_drew ?_ | refine blk_alloc ?_ _)); refine blk_far ?_ NB329_338.out _; (with_reducible repeat (first | refine blk_drewN ?_ _ | refine blk_drew ?_ | refine blk_alloc ?_ _)); refine blk_far ?_ NB329_338.out _; (with_reducible repeat (first | refine blk_drewN ?_ _ | refine blk_drew ?_ | refine blk_alloc ?_ _)); refine blk_far ?_ NB329_338.out _; (with_reducible repeat (first | refine blk_drewN ?_ _ | refine blk_drew ?_ | refine blk_alloc ?_ _)); refine blk_far ?_ NB329_338.out _; (with_reducible repeat (first | refine blk_drewN ?_ _ | refine blk_drew ?_ | refine blk_alloc ?_ _)); refine blk_far ?_ NB329_338.out _; (with_reducible repeat (first | refine blk_drewN ?_ _ | refine blk_drew ?_ | refine blk_alloc ?_ _)); refine blk_far ?_ NB329_338.out _; (with_reducible repeat (first | refine blk_drewN ?_ _ | refine blk_drew ?_ | refine blk_alloc ?_ _)); exact BK329.out⟩, ⟨by (with_reducible repeat (first | refine blk_drewN ?_ _ | refine blk_drew ?_ | refine blk_alloc ?_ _)); refine blk_put (cs := #[.int .i64 t330, .int .i64 t331, .int .i64 t332, .int .i64 t333, .int .i64 t334, .int .i64 t335, .int .i64 0]) ?_ 6 _ rfl; (with_reducible repeat (first | refine blk_drewN ?_ _ | refine blk_drew ?_ | refine blk_alloc ?_ _)); refine blk_put (cs := #[.int .i64 t330, .int .i64 t331, .int .i64 t332, .int .i64 t333, .int .i64 t334, .int .i64 0, .int .i64 0]) ?_ 5 _ rfl; (with_reducible repeat (first | refine blk_drewN ?_ _ | refine blk_drew ?_ | refine blk_alloc ?_ _)); refine blk_put (cs := #[.int .i64 t330, .int .i64 t331, .int .i64 t332, .int .i64 t333, .int .i64 0, .int .i64 0, .int .i64 0]) ?_ 4 _ rfl; (with_reducible repeat (first | refine blk_drewN ?_ _ | refine blk_drew ?_ | refine blk_alloc ?_ _)); refine blk_put (cs := #[.int .i64 t330, .int .i64 t331, .int .i64 t332, .int .i64 0, .int .i64 0, .int .i64 0, .int .i64 0]) ?_ 3 _ rfl; (with_reducible repeat (first | refine blk_drewN ?_ _ | refine blk_drew ?_ | refine blk_alloc ?_ _)); refine blk_put (cs := #[.int .i64 t330, .int .i64 t331, .int .i64 0, .int .i64 0, .int .i64 0, .int .i64 0, .int .i64 0]) ?_ 2 _ rfl; (with_reducible repeat (first | refine blk_drewN ?_ _ | refine blk_drew ?_ | refine blk_alloc ?_ _)); refine blk_put (cs := #[.int .i64 t330, .int .i64 0, .int .i64 0, .int .i64 0, .int .i64 0, .int .i64 0, .int .i64 0]) ?_ 1 _ rfl; (with_reducible repeat (first | refine blk_drewN ?_ _ | refine blk_drew ?_ | refine blk_alloc ?_ _)); refine blk_put (cs := #[.int .i64 0, .int .i64 0, .int .i64 0, .int .i64 0, .int .i64 0, .int .i64 0, .int .i64 0]) ?_ 0 _ rfl; (with_reducible repeat (first | refine blk_drewN ?_ _ | refine blk_drew ?_ | refine blk_alloc ?_ _)); exact BK338.out⟩, ⟨by repeat (first | (with_reducible first | exact HB.out | apply below_alloc | apply pw_below_drewN | apply below_drew1 | refine below_set ?_ GE329.out | refine below_set ?_ GE338.out) | exact HB.out)⟩⟩
  case rest =>
   clear HC6
   try clear c1
   try clear c2
   try clear c2b0
   try clear c2b1
   try clear p2
   try clear c5
   try clear c10
   try clear c11
   try clear c13
   try clear c15
   try clear c15b0
   try clear c15b1
   try clear c15b2
   try clear c16
   try clear c16b0
   try clear c17
   try clear c20
   try clear hcz10_0
   try clear hcz10_1
   try clear hcz10_2
   try clear hcz10_3
   try clear hcz10_4
   try clear hcz10_5
   try clear hcz10_6
   try clear hcz14_0
   try clear hcz14_1
   try clear hcz14_2
   try clear hcz14_3
   try clear hcz14_4
   try clear hcz14_5
   try clear hcz14_6
   try clear hcz18_0
   try clear hcz18_1
   try clear hcz18_2
   try clear hcz18_3
   try clear hcz18_4
   try clear hcz18_5
   try clear hcz18_6
   try clear hcz19_0
   try clear hcz19_1
   try clear hcz19_2
   try clear hcz19_3
   try clear hcz19_4
   try clear hcz19_5
   try clear hcz19_6
   try clear hcz21_0
   try clear hcz21_1
   try clear hcz21_2
   try clear hcz21_3
   try clear hcz21_4
   try clear hcz21_5
   try clear hcz21_6
   try clear hcz22_0
   try clear hcz22_1
   try clear hcz22_2
   try clear hcz22_3
   try clear hcz22_4
   try clear hcz22_5
   try clear hcz22_6
   try clear hfz10_0
   try clear hfz10_1
   try clear hfz10_2
   try clear hfz10_3
   try clear hfz10_4
   try clear hfz10_5
   try clear hfz10_6
   try clear hfz14_0
   try clear hfz14_1
   try clear hfz14_2
   try clear hfz14_3
   try clear hfz14_4
   try clear hfz14_5
   try clear hfz14_6
   try clear hfz18_0
   try clear hfz18_1
   try clear hfz18_2
   try clear hfz18_3
   try clear hfz18_4
   try clear hfz18_5
   try clear hfz18_6
   try clear hfz19_0
   try clear hfz19_1
   try clear hfz19_2
   try clear hfz19_3
   try clear hfz19_4
   try clear hfz19_5
   try clear hfz19_6
   try clear hfz21_0
   try clear hfz21_1
   try clear hfz21_2
   try clear hfz21_3
   try clear hfz21_4
   try clear hfz21_5
   try clear hfz21_6
   try clear hfz22_0
   try clear hfz22_1
   try clear hfz22_2
   try clear hfz22_3
   try clear hfz22_4
   try clear hfz22_5
   try clear hfz22_6
   obtain ⟨kq, x34_5, rfl, HA, HJ5, BK329, BK338, HB⟩ := hcut
   cases kq with
   | zero => exact absurd HA.out (by simp [laws_FnSealStrict.j0])
   | succ kj5 =>
    have H := HA.out
    clear HA
    simp only [laws_FnSealStrict.j0] at H
    by_cases c23 : x34_5 = true
    ·subst c23
     rw [if_pos rfl] at H
     by_cases c24 : (t337 == t328) = true
     ·rw [if_pos c24] at H
      have c24b0 : (t337 == t328) = true := c24
      (try (have c24b1 : decide (t337 = t328) = true := by simpa using c24))
      (try (have c24b2 : (t337 == t328) = true := by simpa using c24))
      clear c24
      obtain rfl := Option.some.inj H
      have hnb25 := NB338_329.out
      have hnc25 := NB329_338.out
      have hcz26_0 : wc.cell? ⟨gb338, 0, none⟩ = some (.int .i64 t330) := (blk_cell BK338.out 0).trans rfl
      have hcz26_1 : wc.cell? ⟨gb338, 1, none⟩ = some (.int .i64 t331) := (blk_cell BK338.out 1).trans rfl
      have hcz26_2 : wc.cell? ⟨gb338, 2, none⟩ = some (.int .i64 t332) := (blk_cell BK338.out 2).trans rfl
      have hcz26_3 : wc.cell? ⟨gb338, 3, none⟩ = some (.int .i64 t333) := (blk_cell BK338.out 3).trans rfl
      have hcz26_4 : wc.cell? ⟨gb338, 4, none⟩ = some (.int .i64 t334) := (blk_cell BK338.out 4).trans rfl
      have hcz26_5 : wc.cell? ⟨gb338, 5, none⟩ = some (.int .i64 t335) := (blk_cell BK338.out 5).trans rfl
      have hcz26_6 : wc.cell? ⟨gb338, 6, none⟩ = some (.int .i64 t336) := (blk_cell BK338.out 6).trans rfl
      have hfz26_0 := blk_frozen BK338.out 0
      have hfz26_1 := blk_frozen BK338.out 1
      have hfz26_2 := blk_frozen BK338.out 2
      have hfz26_3 := blk_frozen BK338.out 3
      have hfz26_4 := blk_frozen BK338.out 4
      have hfz26_5 := blk_frozen BK338.out 5
      have hfz26_6 := blk_frozen BK338.out 6
      have hcz27_0 : wc.cell? ⟨gb329, 0, none⟩ = some (.int .i64 t321) := (blk_cell BK329.out 0).trans rfl
      have hcz27_1 : wc.cell? ⟨gb329, 1, none⟩ = some (.int .i64 t322) := (blk_cell BK329.out 1).trans rfl
      have hcz27_2 : wc.cell? ⟨gb329, 2, none⟩ = some (.int .i64 t323) := (blk_cell BK329.out 2).trans rfl
      have hcz27_3 : wc.cell? ⟨gb329, 3, none⟩ = some (.int .i64 t324) := (blk_cell BK329.out 3).trans rfl
      have hcz27_4 : wc.cell? ⟨gb329, 4, none⟩ = some (.int .i64 t325) := (blk_cell BK329.out 4).trans rfl
      have hcz27_5 : wc.cell? ⟨gb329, 5, none⟩ = some (.int .i64 t326) := (blk_cell BK329.out 5).trans rfl
      have hcz27_6 : wc.cell? ⟨gb329, 6, none⟩ = some (.int .i64 t327) := (blk_cell BK329.out 6).trans rfl
      have hfz27_0 := blk_frozen BK329.out 0
      have hfz27_1 := blk_frozen BK329.out 1
      have hfz27_2 := blk_frozen BK329.out 2
      have hfz27_3 := blk_frozen BK329.out 3
      have hfz27_4 := blk_frozen BK329.out 4
      have hfz27_5 := blk_frozen BK329.out 5
      have hfz27_6 := blk_frozen BK329.out 6
      go_wp2
      go_ret
      exact ⟨by first | rfl | (simp [errW_none, errW_some] <;> rfl) | (simp [*, errW_none, errW_some] <;> rfl), by repeat (first | (with_reducible first | exact HB.out | apply below_alloc | apply pw_below_drewN | apply below_drew1 | refine below_set ?_ GE329.out | refine below_set ?_ GE338.out) | exact HB.out)⟩
     ·rw [if_neg c24] at H
      have c24b0 : (t337 == t328) = false := by simpa using c24
      (try (have c24b1 : decide (t337 = t328) = false := by simpa using c24))
      (try (have c24b2 : (t337 == t328) = false := by simpa using c24))
      (try (have c24b3 : ¬ (t337 = t328) := by simpa using c24))
      clear c24
      obtain rfl := Option.some.inj H
      go_wp2
      go_ret
      exact ⟨by first | rfl | (simp [errW_none, errW_some] <;> rfl) | (simp [*, errW_none, errW_some] <;> rfl), by repeat (first | (with_reducible first | exact HB.out | apply below_alloc | apply pw_below_drewN | apply below_drew1 | refine below_set ?_ GE329.out | refine below_set ?_ GE338.out) | exact HB.out)⟩
    ·replace c23 := Bool.eq_false_iff.mpr c23
     subst c23
     rw [if_neg (show ¬ (false = true) by decide)] at H
     replace H := Option.bind_eq_some_iff.mp H
     obtain ⟨t339, A280, H⟩ := H
     replace H : (if t339 = true then ((impl_SealText.f t330 t331 t332 t333 t334 t335 t336).bind fun t340 => (some (t340.toList == t320.toList))) else (some false)) = some r := H
     have A28 := Aside0.mk A280
     clear A280
     by_cases c29 : t339 = true
     ·subst c29
      rw [if_pos rfl] at H
      replace H := Option.bind_eq_some_iff.mp H
      obtain ⟨t340, A300, H⟩ := H
      replace H : (some (t340.toList == t320.toList)) = some r := H
      have A30 := Aside0.mk A300
      clear A300
      obtain rfl := Option.some.inj H
      have hnb31 := NB338_329.out
      have hnc31 := NB329_338.out
      have hcz32_0 : wc.cell? ⟨gb338, 0, none⟩ = some (.int .i64 t330) := (blk_cell BK338.out 0).trans rfl
      have hcz32_1 : wc.cell? ⟨gb338, 1, none⟩ = some (.int .i64 t331) := (blk_cell BK338.out 1).trans rfl
      have hcz32_2 : wc.cell? ⟨gb338, 2, none⟩ = some (.int .i64 t332) := (blk_cell BK338.out 2).trans rfl
      have hcz32_3 : wc.cell? ⟨gb338, 3, none⟩ = some (.int .i64 t333) := (blk_cell BK338.out 3).trans rfl
      have hcz32_4 : wc.cell? ⟨gb338, 4, none⟩ = some (.int .i64 t334) := (blk_cell BK338.out 4).trans rfl
      have hcz32_5 : wc.cell? ⟨gb338, 5, none⟩ = some (.int .i64 t335) := (blk_cell BK338.out 5).trans rfl
      have hcz32_6 : wc.cell? ⟨gb338, 6, none⟩ = some (.int .i64 t336) := (blk_cell BK338.out 6).trans rfl
      have hfz32_0 := blk_frozen BK338.out 0
      have hfz32_1 := blk_frozen BK338.out 1
      have hfz32_2 := blk_frozen BK338.out 2
      have hfz32_3 := blk_frozen BK338.out 3
      have hfz32_4 := blk_frozen BK338.out 4
      have hfz32_5 := blk_frozen BK338.out 5
      have hfz32_6 := blk_frozen BK338.out 6
      go_wp2_with (first | ((with_reducible refine gate_callee (f := 14) rfl ?_); refine goesL_ (some 44) rfl rfl Tryd.func14 (by kernel_rfl) rfl #[.agg #[.int .i64 t330, .int .i64 t331, .int .i64 t332, .int .i64 t333, .int .i64 t334, .int .i64 t335, .int .i64 t336]] rfl z26x3 ?_; (with_reducible refine (impl_SealOk.calls t330 t331 t332 t333 t334 t335 t336 true _ A28.out).mono ?_); rintro e w33 ⟨rfl, hb⟩; refine ⟨_, rfl, ?_⟩; have n0_ := Aside0.mk (blk_below (g := gb329) (o := .cells #[.int .i64 t321, .int .i64 t322, .int .i64 t323, .int .i64 t324, .int .i64 t325, .int .i64 t326, .int .i64 t327] 24 (0, 0)) z26x5 hb); have n1_ := Aside0.mk (blk_below (g := gb338) (o := .cells #[.int .i64 t330, .int .i64 t331, .int .i64 t332, .int .i64 t333, .int .i64 t334, .int .i64 t335, .int .i64 t336] 24 (0, 0)) z26x6 hb); have n2_ := Aside0.mk (below_step z26x0 hb); clear BK329; clear BK338; clear HB; have BK329 := n0_; have BK338 := n1_; have HB := n2_; clear n0_ n1_ n2_; (try clear hb); (try clear hb2); (try clear hk); (try clear hi); have hcz34_0 : w33.cell? ⟨gb338, 0, none⟩ = some (.int .i64 t330) := (blk_cell BK338.out 0).trans rfl; have hcz34_1 : w33.cell? ⟨gb338, 1, none⟩ = some (.int .i64 t331) := (blk_cell BK338.out 1).trans rfl; have hcz34_2 : w33.cell? ⟨gb338, 2, none⟩ = some (.int .i64 t332) := (blk_cell BK338.out 2).trans rfl; have hcz34_3 : w33.cell? ⟨gb338, 3, none⟩ = some (.int .i64 t333) := (blk_cell BK338.out 3).trans rfl; have hcz34_4 : w33.cell? ⟨gb338, 4, none⟩ = some (.int .i64 t334) := (blk_cell BK338.out 4).trans rfl; have hcz34_5 : w33.cell? ⟨gb338, 5, none⟩ = some (.int .i64 t335) := (blk_cell BK338.out 5).trans rfl; have hcz34_6 : w33.cell? ⟨gb338, 6, none⟩ = some (.int .i64 t336) := (blk_cell BK338.out 6).trans rfl; have hfz34_0 := blk_frozen BK338.out 0; have hfz34_1 := blk_frozen BK338.out 1; have hfz34_2 := blk_frozen BK338.out 2; have hfz34_3 := blk_frozen BK338.out 3; have hfz34_4 := blk_frozen BK338.out 4; have hfz34_5 := blk_frozen BK338.out 5; have hfz34_6 := blk_frozen BK338.out 6) | (go_at_call 8; (with_reducible refine (impl_SealText.calls t330 t331 t332 t333 t334 t335 t336 t340 _ A30.out ?tens2).mono ?_); (case tens2 => exact (Door.on HT.out z26x0).tens); rintro e w35 ⟨rfl, hb⟩; have n0_ := Aside0.mk (blk_below (g := gb329) (o := .cells #[.int .i64 t321, .int .i64 t322, .int .i64 t323, .int .i64 t324, .int .i64 t325, .int .i64 t326, .int .i64 t327] 24 (0, 0)) z26x5 hb); have n1_ := Aside0.mk (blk_below (g := gb338) (o := .cells #[.int .i64 t330, .int .i64 t331, .int .i64 t332, .int .i64 t333, .int .i64 t334, .int .i64 t335, .int .i64 t336] 24 (0, 0)) z26x6 hb); have n2_ := Aside0.mk (below_step z26x0 hb); clear BK329; clear BK338; clear HB; have BK329 := n0_; have BK338 := n1_; have HB := n2_; clear n0_ n1_ n2_; (try clear hb); (try clear hb2); (try clear hk); (try clear hi)))
      go_ret
      exact ⟨by first | rfl | (simp [errW_none, errW_some] <;> rfl) | (simp [*, errW_none, errW_some] <;> rfl), by repeat (first | (with_reducible first | exact HB.out | apply below_alloc | apply pw_below_drewN | apply below_drew1 | refine below_set ?_ GE329.out | refine below_set ?_ GE338.out) | exact HB.out)⟩
     ·replace c29 := Bool.eq_false_iff.mpr c29
      subst c29
      rw [if_neg (show ¬ (false = true) by decide)] at H
      obtain rfl := Option.some.inj H
      have hnb36 := NB338_329.out
      have hnc36 := NB329_338.out
      have hcz37_0 : wc.cell? ⟨gb338, 0, none⟩ = some (.int .i64 t330) := (blk_cell BK338.out 0).trans rfl
      have hcz37_1 : wc.cell? ⟨gb338, 1, none⟩ = some (.int .i64 t331) := (blk_cell BK338.out 1).trans rfl
      have hcz37_2 : wc.cell? ⟨gb338, 2, none⟩ = some (.int .i64 t332) := (blk_cell BK338.out 2).trans rfl
      have hcz37_3 : wc.cell? ⟨gb338, 3, none⟩ = some (.int .i64 t333) := (blk_cell BK338.out 3).trans rfl
      have hcz37_4 : wc.cell? ⟨gb338, 4, none⟩ = some (.int .i64 t334) := (blk_cell BK338.out 4).trans rfl
      have hcz37_5 : wc.cell? ⟨gb338, 5, none⟩ = some (.int .i64 t335) := (blk_cell BK338.out 5).trans rfl
      have hcz37_6 : wc.cell? ⟨gb338, 6, none⟩ = some (.int .i64 t336) := (blk_cell BK338.out 6).trans rfl
      have hfz37_0 := blk_frozen BK338.out 0
      have hfz37_1 := blk_frozen BK338.out 1
      have hfz37_2 := blk_frozen BK338.out 2
      have hfz37_3 := blk_frozen BK338.out 3
      have hfz37_4 := blk_frozen BK338.out 4
      have hfz37_5 := blk_frozen BK338.out 5
      have hfz37_6 := blk_frozen BK338.out 6
      go_wp2_with (first | ((with_reducible refine gate_callee (f := 14) rfl ?_); refine goesL_ (some 44) rfl rfl Tryd.func14 (by kernel_rfl) rfl #[.agg #[.int .i64 t330, .int .i64 t331, .int .i64 t332, .int .i64 t333, .int .i64 t334, .int .i64 t335, .int .i64 t336]] rfl z26x3 ?_; (with_reducible refine (impl_SealOk.calls t330 t331 t332 t333 t334 t335 t336 false _ A28.out).mono ?_); rintro e w38 ⟨rfl, hb⟩; refine ⟨_, rfl, ?_⟩; have n0_ := Aside0.mk (blk_below (g := gb329) (o := .cells #[.int .i64 t321, .int .i64 t322, .int .i64 t323, .int .i64 t324, .int .i64 t325, .int .i64 t326, .int .i64 t327] 24 (0, 0)) z26x5 hb); have n1_ := Aside0.mk (blk_below (g := gb338) (o := .cells #[.int .i64 t330, .int .i64 t331, .int .i64 t332, .int .i64 t333, .int .i64 t334, .int .i64 t335, .int .i64 t336] 24 (0, 0)) z26x6 hb); have n2_ := Aside0.mk (below_step z26x0 hb); clear BK329; clear BK338; clear HB; have BK329 := n0_; have BK338 := n1_; have HB := n2_; clear n0_ n1_ n2_; (try clear hb); (try clear hb2); (try clear hk); (try clear hi)))
      go_ret
      exact ⟨by first | rfl | (simp [errW_none, errW_some] <;> rfl) | (simp [*, errW_none, errW_some] <;> rfl), by repeat (first | (with_reducible first | exact HB.out | apply below_alloc | apply pw_below_drewN | apply below_drew1 | refine below_set ?_ GE329.out | refine below_set ?_ GE338.out) | exact HB.out)⟩

/-- THE ONE PURE STATEMENT of laws_FnSealStrict: yours. -/
def laws_FnSealStrict.Pure : Prop := ∀ (l0 : List Int), l0.length ≤ maxLen → l0.length * 1 ≤ 140737488351232 → (∀ x ∈ l0, (Lit.int .u8 x).wf = true) → ∃ k, laws_FnSealStrict.f k l0 = some true
theorem laws_FnSealStrict.walk (P : laws_FnSealStrict.Pure) (a0 : Option Addr) (len0 cap0 : Nat) (z0 : List Int) (w : World) (w0 : (a0 = none ∧ len0 = 0 ∧ cap0 = 0 ∧ z0 = []) ∨ ∃ x, a0 = some x ∧ len0 ≤ cap0 ∧ cap0 ≤ maxLen ∧ z0.length = cap0 ∧ (∀ i, i < z0.length → w.cell? (x.add i) = some (.int .u8 (z0.getD i 0))) ∧ ∀ n ∈ z0, (Lit.int .u8 n).wf = true) (y0 : len0 * 1 ≤ 140737488351232) (ht : Door w) :
  Calls Tryd.prog 5 #[.slice a0 len0 cap0] w fun e w' => e = .returned (.bool true) ∧ Below w.heap.size w w' := by
 obtain ⟨l0, rfl, hr0, hm0, hw0, hc0⟩ := ReadsInt.ofRowC w0
 obtain ⟨k, h⟩ := P l0 hm0 y0 hw0
 refine (laws_FnSealStrict.calls k _ _ l0 true w (Kd.C_of_reads (d := (0 : Int)) (h1 := fun _ => rfl) hr0) hc0 h ht).mono ?_
 rintro e w' ⟨rfl, hd⟩
 exact ⟨rfl, hd⟩

end Go.Proofs.YtbipicjijbnbbaaDoor.Hp
