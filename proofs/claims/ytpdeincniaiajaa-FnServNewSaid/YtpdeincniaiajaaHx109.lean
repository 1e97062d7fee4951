-- hp.py
import Derived.Test.YtpdeincniaiajaaHx0
import Derived.Test.YtpdeincniaiajaaHx30
import Derived.Test.YtpdeincniaiajaaHx34
import Derived.Test.YtpdeincniaiajaaHx35
namespace Go.Proofs.Ytpdeincniaiajaa.Hp
open Go.RowKit Go.Proofs.YtpdeincniaiajaaW.PrintWords Go.Proofs.YtpdeincniaiajaaW.PrintLast Go.Proofs.YtpdeincniaiajaaW.PrintMore
attribute [local go_sem] max2_int min2_int max_two min_two max_three min_three max_four min_four   -- for this text's walks alone
set_option linter.unusedVariables false
set_option linter.unusedSimpArgs false
-- squeezed by wip/tools/squeeze.py
theorem z109x1 {P : Prop} (h : P := by (try simp only [List.map_toArray, List.map_cons, List.map_nil]); first | done | rfl | (simp only [List.length_drop, List.length_take]; rfl)) : P := h
theorem z109x0 {P : Prop} (h : P := by rw [hg]; exact (below_size (by repeat (first | (with_reducible first | exact HB.out | apply below_alloc | apply pw_below_drewN | apply below_drew1) | exact HB.out)))) : P := h

/-! ### laws_heldMsg: function 73 -/
def laws_heldMsg.f (k : Nat) (a0_0 : Int) (a0_1 : Int) (a0_2 : Int) (a0_3 : Int) (l0_4 : List (S57)) (a1 : Int) : Option (Int) := (laws_heldSealS.f k l0_4 a1).bind fun t1202 => (if t1202 < 0 then (some (-1)) else (some t1202))
theorem laws_heldMsg.mono : ∀ a0 a1 a2 a3 a4 a5 k, LeO (laws_heldMsg.f k a0 a1 a2 a3 a4 a5) (laws_heldMsg.f (k + 1) a0 a1 a2 a3 a4 a5) := by
 intro a0 a1 a2 a3 a4 a5 k
 unfold laws_heldMsg.f
 repeat' first
   | (with_reducible exact laws_heldSealS.mono _ _ _)
   | (with_reducible exact LeO.refl _)
   | (with_reducible exact LeO.none _)
   | (with_reducible refine LeO.ite ?_ ?_)
   | (with_reducible refine LeO.bind ?_ (fun _ => ?_))
   | exact laws_heldSealS.mono _ _ _
   | exact LeO.none _
   | refine LeO.ite ?_ ?_
   | refine LeO.bind ?_ (fun _ => ?_)
set_option maxHeartbeats 8000000 in
set_option maxRecDepth 100000 in
theorem laws_heldMsg.calls (k : Nat) (a0_0 : Int) (a0_1 : Int) (a0_2 : Int) (a0_3 : Int) (A0_4 : Option Addr) (c0_4 : Nat) (l0_4 : List (S57)) (a1 : Int) (r : Int) (w : World) (hr0_4 : Kd.C k57 w A0_4 l0_4.length l0_4) (hc0_4 : l0_4.length ≤ c0_4) (h : laws_heldMsg.f k a0_0 a0_1 a0_2 a0_3 l0_4 a1 = some r) :
  Calls Try.prog 73 #[.agg #[.int .i64 a0_0, .int .i64 a0_1, .int .i64 a0_2, .int .i64 a0_3, .slice A0_4 l0_4.length c0_4], .int .i64 a1] w fun e w' => e = .returned (.int .i64 r) ∧ Below w.heap.size w w' := by
 have hu51 := Try.underlying51
 have HR0_4 := Aside0.mk hr0_4
 have HC0_4 := Aside0.mk hc0_4
 clear hr0_4 hc0_4
 have HB := Aside0.mk (Below.refl w.heap.size w)
 have H : ((laws_heldSealS.f k l0_4 a1).bind fun t1202 => (if t1202 < 0 then (some (-1)) else (some t1202))) = some r := h
 clear h
 replace H := Option.bind_eq_some_iff.mp H
 obtain ⟨t1202, A30, H⟩ := H
 replace H : (if t1202 < 0 then (some (-1)) else (some t1202)) = some r := H
 have A3 := Aside0.mk A30
 clear A30
 by_cases c4 : t1202 < 0
 ·rw [if_pos c4] at H
  have c4b0 : decide (t1202 < 0) = true := decide_eq_true c4
  clear c4
  obtain rfl := Option.some.inj H
  go_enter Try.func73, Try.ntmps73
  go_wp2_with (first | ((with_reducible refine gate_dst (N := 2) rfl ?_); refine box_event ?hg (N := 2) ?hd (cs := #[.int .i64 a0_0, .int .i64 a0_1, .int .i64 a0_2, .int .i64 a0_3, .slice A0_4 l0_4.length c0_4]) (t := 51) ?hr ?_; (case hd => rfl); (case hg => rfl); (case hr => first | (go_simp; done) | (go_simp; rfl)); intro gb1201 hg w5 hbox hb; have n0_ := Aside0.mk (below_step (by repeat (first | (with_reducible first | exact HB.out | apply below_alloc | apply pw_below_drewN | apply below_drew1) | exact HB.out)) hb); have n1_ := Aside0.mk (hbox); have n2_ := Aside0.mk ((z109x0 : w.heap.size ≤ gb1201)); have n3_ := Aside0.mk ((z109x0 : w.heap.size ≤ gb1201)); clear HB; have HB := n0_; have BK1201 := n1_; have GW1201 := n2_; have GE1201 := n3_; clear n0_ n1_ n2_ n3_; clear hb hbox hg; have hcz6_0 : w5.cell? ⟨gb1201, 0, none⟩ = some (.int .i64 a0_0) := (blk_cell BK1201.out 0).trans rfl; have hcz6_1 : w5.cell? ⟨gb1201, 1, none⟩ = some (.int .i64 a0_1) := (blk_cell BK1201.out 1).trans rfl; have hcz6_2 : w5.cell? ⟨gb1201, 2, none⟩ = some (.int .i64 a0_2) := (blk_cell BK1201.out 2).trans rfl; have hcz6_3 : w5.cell? ⟨gb1201, 3, none⟩ = some (.int .i64 a0_3) := (blk_cell BK1201.out 3).trans rfl; have hcz6_4 : w5.cell? ⟨gb1201, 4, none⟩ = some (.slice A0_4 l0_4.length c0_4) := (blk_cell BK1201.out 4).trans rfl; have hfz6_0 := blk_frozen BK1201.out 0; have hfz6_1 := blk_frozen BK1201.out 1; have hfz6_2 := blk_frozen BK1201.out 2; have hfz6_3 := blk_frozen BK1201.out 3; have hfz6_4 := blk_frozen BK1201.out 4) | ((with_reducible refine gate_callee (f := 50) rfl ?_); refine goesL_ (some 8) rfl rfl Try.func50 (by kernel_rfl) rfl #[.slice A0_4 l0_4.length c0_4, .int .i64 a1] rfl z109x1 ?_; (with_reducible refine (laws_heldSealS.calls k _ _ l0_4 a1 t1202 _ ?side1 ?side2 A3.out).mono ?_); (case side1 => repeat (first | exact (Kd.C_below HR0_4.out HB.out) | (with_reducible refine Kd.C_alloc ?_ _) | (with_reducible refine Kd.C_drewN ?_ _) | (with_reducible refine Kd.C_drew ?_))); (case side2 => exact HC0_4.out); rintro e w' ⟨rfl, ⟨nd, rfl⟩⟩; refine ⟨_, rfl, ?_⟩))
  go_ret
  exact ⟨by first | rfl | (simp [errW_none, errW_some] <;> rfl) | (simp [*, errW_none, errW_some] <;> rfl), by repeat (first | (with_reducible first | exact HB.out | apply below_alloc | apply pw_below_drewN | apply below_drew1 | refine below_set ?_ GE1201.out) | exact HB.out)⟩
 ·rw [if_neg c4] at H
  have c4b0 : decide (t1202 < 0) = false := decide_eq_false c4
  clear c4
  obtain rfl := Option.some.inj H
  go_enter Try.func73, Try.ntmps73
  go_wp2_with (first | ((with_reducible refine gate_dst (N := 2) rfl ?_); refine box_event ?hg (N := 2) ?hd (cs := #[.int .i64 a0_0, .int .i64 a0_1, .int .i64 a0_2, .int .i64 a0_3, .slice A0_4 l0_4.length c0_4]) (t := 51) ?hr ?_; (case hd => rfl); (case hg => rfl); (case hr => first | (go_simp; done) | (go_simp; rfl)); intro gb1201 hg w7 hbox hb; have n0_ := Aside0.mk (below_step (by repeat (first | (with_reducible first | exact HB.out | apply below_alloc | apply pw_below_drewN | apply below_drew1) | exact HB.out)) hb); have n1_ := Aside0.mk (hbox); have n2_ := Aside0.mk ((z109x0 : w.heap.size ≤ gb1201)); have n3_ := Aside0.mk ((z109x0 : w.heap.size ≤ gb1201)); clear HB; have HB := n0_; have BK1201 := n1_; have GW1201 := n2_; have GE1201 := n3_; clear n0_ n1_ n2_ n3_; clear hb hbox hg; have hcz8_0 : w7.cell? ⟨gb1201, 0, none⟩ = some (.int .i64 a0_0) := (blk_cell BK1201.out 0).trans rfl; have hcz8_1 : w7.cell? ⟨gb1201, 1, none⟩ = some (.int .i64 a0_1) := (blk_cell BK1201.out 1).trans rfl; have hcz8_2 : w7.cell? ⟨gb1201, 2, none⟩ = some (.int .i64 a0_2) := (blk_cell BK1201.out 2).trans rfl; have hcz8_3 : w7.cell? ⟨gb1201, 3, none⟩ = some (.int .i64 a0_3) := (blk_cell BK1201.out 3).trans rfl; have hcz8_4 : w7.cell? ⟨gb1201, 4, none⟩ = some (.slice A0_4 l0_4.length c0_4) := (blk_cell BK1201.out 4).trans rfl; have hfz8_0 := blk_frozen BK1201.out 0; have hfz8_1 := blk_frozen BK1201.out 1; have hfz8_2 := blk_frozen BK1201.out 2; have hfz8_3 := blk_frozen BK1201.out 3; have hfz8_4 := blk_frozen BK1201.out 4) | ((with_reducible refine gate_callee (f := 50) rfl ?_); refine goesL_ (some 8) rfl rfl Try.func50 (by kernel_rfl) rfl #[.slice A0_4 l0_4.length c0_4, .int .i64 a1] rfl z109x1 ?_; (with_reducible refine (laws_heldSealS.calls k _ _ l0_4 a1 t1202 _ ?side1 ?side2 A3.out).mono ?_); (case side1 => repeat (first | exact (Kd.C_below HR0_4.out HB.out) | (with_reducible refine Kd.C_alloc ?_ _) | (with_reducible refine Kd.C_drewN ?_ _) | (with_reducible refine Kd.C_drew ?_))); (case side2 => exact HC0_4.out); rintro e w' ⟨rfl, ⟨nd, rfl⟩⟩; refine ⟨_, rfl, ?_⟩))
  go_ret
  exact ⟨by first | rfl | (simp [errW_none, errW_some] <;> rfl) | (simp [*, errW_none, errW_some] <;> rfl), by repeat (first | (with_reducible first | exact HB.out | apply below_alloc | apply pw_below_drewN | apply below_drew1 | refine below_set ?_ GE1201.out) | exact HB.out)⟩

-- NOT PRINTED: function 17 (laws_FnExactKdcAs)

/-! ### spec_DrawServNew: function 74 -/
def spec_DrawServNew.f (k : Nat) (l0 : List Int) : Option (Int) := (spec_l6Open.f l0).bind fun bt1245 => ((spec_l6Rd_pick.f k bt1245.1 bt1245.2 5).bind fun bt1248 => (some (wrap64 (bt1248.1 + 2))))
theorem spec_DrawServNew.mono : ∀ a0 k, LeO (spec_DrawServNew.f k a0) (spec_DrawServNew.f (k + 1) a0) := by
 intro a0 k
 unfold spec_DrawServNew.f
 repeat' first
   | (with_reducible exact spec_l6Rd_pick.mono _ _ _ _)
   | (with_reducible exact LeO.refl _)
   | (with_reducible exact LeO.none _)
   | (with_reducible refine LeO.ite ?_ ?_)
   | (with_reducible refine LeO.bind ?_ (fun _ => ?_))
   | exact spec_l6Rd_pick.mono _ _ _ _
   | exact LeO.none _
   | refine LeO.ite ?_ ?_
   | refine LeO.bind ?_ (fun _ => ?_)
set_option maxHeartbeats 8000000 in
set_option maxRecDepth 100000 in
theorem spec_DrawServNew.calls (k : Nat) (A0 : Option Addr) (c0 : Nat) (l0 : List Int) (r : Int) (w : World) (hr0 : Kd.C (Kd.int .u8) w A0 l0.length l0) (hc0 : l0.length ≤ c0) (h : spec_DrawServNew.f k l0 = some r) :
  Calls Try.prog 74 #[.slice A0 l0.length c0] w fun e w' => e = .returned (.int .i64 r) ∧ Below w.heap.size w w' := by
 have HR0 := Aside0.mk hr0
 have HC0 := Aside0.mk hc0
 clear hr0 hc0
 have HB := Aside0.mk (Below.refl w.heap.size w)
 have H : ((spec_l6Open.f l0).bind fun bt1245 => ((spec_l6Rd_pick.f k bt1245.1 bt1245.2 5).bind fun bt1248 => (some (wrap64 (bt1248.1 + 2))))) = some r := h
 clear h
 replace H := Option.bind_eq_some_iff.mp H
 obtain ⟨⟨t1245, t1246⟩, A20, H⟩ := H
 replace H : ((spec_l6Rd_pick.f k t1245 t1246 5).bind fun bt1248 => (some (wrap64 (bt1248.1 + 2)))) = some r := H
 have A2 := Aside0.mk A20
 clear A20
 replace H := Option.bind_eq_some_iff.mp H
 obtain ⟨⟨t1248, t1249⟩, A30, H⟩ := H
 replace H : (some (wrap64 (t1248 + 2))) = some r := H
 have A3 := Aside0.mk A30
 clear A30
 obtain rfl := Option.some.inj H
 go_enter Try.func74, Try.ntmps74
 go_wp2_with (first | ((with_reducible refine gate_callee (f := 85) rfl ?_); refine goesL_ (some 4) rfl rfl Try.func85 (by kernel_rfl) rfl #[.slice A0 l0.length c0] rfl z109x1 ?_; (with_reducible refine (spec_l6Open.calls _ _ l0 t1245 t1246 w _ ?side1 ?side2 ?side3 A2.out).mono ?_); (case side1 => repeat (first | (with_reducible first | exact HB.out | apply below_alloc | apply pw_below_drewN | apply below_drew1) | exact HB.out)); (case side2 => exact HR0.out); (case side3 => exact HC0.out); rintro e w4 ⟨g1247, rfl, hi, hb, hb2⟩; refine ⟨_, rfl, ?_⟩; have n0_ := Aside0.mk (hb); have n1_ := Aside0.mk (hi); clear HB; have HB := n0_; have HI1247 := n1_; clear n0_ n1_; (try clear hb); (try clear hb2); (try clear hk); (try clear hi)) | ((with_reducible refine gate_callee (f := 86) rfl ?_); refine goesL_ (some 5) rfl rfl Try.func86 (by kernel_rfl) rfl #[.pointer (some ⟨g1247, 0, none⟩), .int .i64 5] rfl z109x1 ?_; (with_reducible refine (spec_l6Rd_pick.calls k g1247 t1245 t1246 5 t1248 t1249 w _ ?side1 ?side2 A3.out).mono ?_); (case side1 => repeat (first | (with_reducible first | exact HI1247.out | apply IsS153.alloc | apply IsS153.drewN | apply IsS153.drew | apply IsS153.set_1) | exact HI1247.out)); (case side2 => repeat (first | (with_reducible first | exact HB.out | apply below_alloc | apply pw_below_drewN | apply below_drew1 | refine below_set ?_ (IsS153.ge HI1247.out)) | exact HB.out)); rintro e w5 ⟨rfl, hi, hb, hk⟩; refine ⟨_, rfl, ?_⟩; have n0_ := Aside0.mk (hb); have n1_ := Aside0.mk (hi); clear HB; clear HI1247; have HB := n0_; have HI1247 := n1_; clear n0_ n1_; (try clear hb); (try clear hb2); (try clear hk); (try clear hi)))
 go_ret
 exact ⟨by first | rfl | (simp [errW_none, errW_some] <;> rfl) | (simp [*, errW_none, errW_some] <;> rfl), by repeat (first | (with_reducible first | exact HB.out | apply below_alloc | apply pw_below_drewN | apply below_drew1 | refine below_set ?_ (IsS153.ge HI1247.out)) | exact HB.out)⟩

end Go.Proofs.Ytpdeincniaiajaa.Hp
