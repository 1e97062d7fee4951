-- hp.py
import Derived.Test.YtbiknbjcidlabaaHx0
import Derived.Test.YtbiknbjcidlabaaHx5
import Derived.Test.YtbiknbjcidlabaaHx6
import Derived.Test.YtbiknbjcidlabaaHx7
import Derived.Test.YtbiknbjcidlabaaHx26
import Derived.Test.YtbiknbjcidlabaaHx31
import Derived.Test.YtbiknbjcidlabaaHx32
namespace Go.Proofs.Ytbiknbjcidlabaa.Hp
open Go.RowKit Go.Proofs.YtbiknbjcidlabaaW.PrintWords Go.Proofs.YtbiknbjcidlabaaW.PrintLast Go.Proofs.YtbiknbjcidlabaaW.PrintMore
attribute [local go_sem] max2_int min2_int max_two min_two max_three min_three max_four min_four
set_option linter.all false
-- squeezed by wip/tools/squeeze.py
theorem z62x15 {P : Prop} (h : P := by have h_ := Kd.R_ne HO_960004.out BK959.out (by decide); intro e_; exact h_ (by rw [e_]; rfl)) : P := h
theorem z62x14 {P : Prop} (h : P := by have h_ := Kd.R_ne HO_960004.out BK939.out (by decide); intro e_; exact h_ (by rw [e_]; rfl)) : P := h
theorem z62x13 {P : Prop} (h : P := by (with_reducible repeat (first | apply Kd.R_alloc | apply Kd.R_drewN | apply Kd.R_drew)); exact HO_7.out) : P := h
theorem z62x12 {P : Prop} (h : P := by (with_reducible repeat (first | apply Kd.R_alloc | apply Kd.R_drewN | apply Kd.R_drew)); exact HO_6.out) : P := h
theorem z62x11 {P : Prop} (h : P := by (with_reducible repeat (first | apply Kd.R_alloc | apply Kd.R_drewN | apply Kd.R_drew)); exact HO949.out) : P := h
theorem z62x10 {P : Prop} (h : P := by (with_reducible repeat (first | apply Kd.R_alloc | apply Kd.R_drewN | apply Kd.R_drew)); exact HO945.out) : P := h
theorem z62x9 {P : Prop} (h : P := by (with_reducible repeat (first | apply Kd.R_alloc | apply Kd.R_drewN | apply Kd.R_drew)); exact HO_960004.out) : P := h
theorem z62x8 {P : Prop} (h : P := by (with_reducible repeat (first | refine blk_drewN ?_ _ | refine blk_drew ?_ | refine blk_alloc ?_ _)); exact BK959.out) : P := h
theorem z62x7 {P : Prop} (h : P := by (with_reducible repeat (first | refine blk_drewN ?_ _ | refine blk_drew ?_ | refine blk_alloc ?_ _)); exact BK939.out) : P := h
theorem z62x6 {P : Prop} (h : P := by repeat (first | (with_reducible first | exact HB.out | apply below_alloc | apply pw_below_drewN | apply below_drew1) | exact HB.out)) : P := h
theorem z62x5 {P : Prop} (h : P := by (try simp only [List.map_toArray, List.map_cons, List.map_nil]); first | done | rfl | (simp only [List.length_drop, List.length_take]; rfl)) : P := h
theorem z62x4 {P : Prop} (h : P := by repeat (first | (with_reducible first | exact HB.out | apply below_alloc | apply pw_below_drewN | apply below_drew1 | refine below_set ?_ (IsS80.ge HI942.out) | refine below_set ?_ GE939.out) | exact HB.out)) : P := h
theorem z62x3 {P : Prop} (h : P := by repeat (first | (with_reducible first | exact HI942.out | apply IsS80.alloc | apply IsS80.drewN | apply IsS80.drew | apply IsS80.set_1 | refine IsS80.far ?_ NB942_939.out _ | refine IsS80.far ?_ NB942_959.out _) | exact HI942.out)) : P := h
theorem z62x2 {P : Prop} (h : P := by rw [hg]; exact (below_size (by repeat (first | (with_reducible first | exact HB.out | apply below_alloc | apply pw_below_drewN | apply below_drew1 | refine below_set ?_ (IsS80.ge HI942.out) | refine below_set ?_ GE939.out) | exact HB.out)))) : P := h
theorem z62x1 {P : Prop} (h : P := by repeat (first | (with_reducible first | exact HB.out | apply below_alloc | apply pw_below_drewN | apply below_drew1 | refine below_set ?_ (IsS80.ge HI942.out) | refine below_set ?_ GE939.out | refine below_set ?_ GE959.out) | exact HB.out)) : P := h
theorem z62x0 {P : Prop} (h : P := by first | (rw [add_block]; exact Kd.own_blk (IsS80.own_ne HI942.out HO_7.out (by decide))) | (show (Addr.add _ _).block ≠ _; rw [add_block]; exact Kd.own_blk (IsS80.own_ne HI942.out HO_7.out (by decide))) | exact Kd.own_blk (IsS80.own_ne HI942.out HO_7.out (by decide))) : P := h

/-! ### spec_DrawKnowBuild: function 53 -/
mutual
def spec_DrawKnowBuild.l0 : Nat → List Int → List (S24) → Int → List Int → Int → Int → Int → Int → Int → List (S24) → Option (List Int × (List (S24)) × Int × Int × Int × Int × (List (S24)))
 | 0, _, _, _, _, _, _, _, _, _, _ => none
 | k + 1, x6, x7, x9, x943000, x943001, x960000, x960001, x960002, x960003, x960004 => if x9 < (x960004.length : Int) then (if (x7.length : Int) > 0 then ((spec_l6Rd_pick.f k x943000 x943001 3).bind fun bt960 => (spec_DrawKnowBuild.j1 k x6 x7 x9 (decide (bt960.1 > 0)) x943000 bt960.2 x960000 x960001 x960002 x960003 x960004)) else (spec_DrawKnowBuild.j1 k x6 x7 x9 false x943000 x943001 x960000 x960001 x960002 x960003 x960004)) else (some (x6, x7, x960000, x960001, x960002, x960003, x960004))
def spec_DrawKnowBuild.j1 : Nat → List Int → List (S24) → Int → Bool → List Int → Int → Int → Int → Int → Int → List (S24) → Option (List Int × (List (S24)) × Int × Int × Int × Int × (List (S24)))
 | 0, _, _, _, _, _, _, _, _, _, _, _ => none
 | k + 1, x6, x7, x9, x32, x943000, x943001, x960000, x960001, x960002, x960003, x960004 => if x32 = true then ((spec_l6Rd_pick.f k x943000 x943001 (x7.length : Int)).bind fun bt962 => (if 0 ≤ bt962.1 then (if bt962.1 < (x7.length : Int) then (if 0 ≤ x9 then (if x9 < (x960004.length : Int) then (spec_DrawKnowBuild.l0 k x6 x7 (wrap64 (x9 + 1)) x943000 bt962.2 x960000 x960001 x960002 x960003 (x960004.set (x9 : Int).toNat (⟨(rd_T24 x7 bt962.1).f0, (rd_T24 x7 bt962.1).f1, (rd_T24 x7 bt962.1).f2, (rd_T24 x7 bt962.1).f3, (rd_T24 x7 bt962.1).f4, (rd_T24 x7 bt962.1).f5, (rd_T24 x7 bt962.1).f6⟩ : S24))) else (none)) else (none)) else (none)) else (none))) else ((spec_l6Rd_pick.f k x943000 x943001 2).bind fun bt966 => (if bt966.1 = 0 then (if 0 ≤ x9 then (if x9 < (x960004.length : Int) then ((spec_l1Holds.f ((rd_T24 x960004 x9).f0) ((rd_T24 x960004 x9).f1) ((rd_T24 x960004 x9).f2) ((rd_T24 x960004 x9).f3) ((rd_T24 x960004 x9).f4) ((rd_T24 x960004 x9).f5) ((rd_T24 x960004 x9).f6)).bind fun t970 => ((some (([(rd_T24 x960004 x9).f0, mx t970 1] : List Int) : List Int)).bind fun y971 => (if x6.length + y971.length < 17592186044416 then (spec_DrawKnowBuild.l0 k (x6 ++ y971) x7 (wrap64 (x9 + 1)) x943000 bt966.2 x960000 x960001 x960002 x960003 x960004) else (none)))) else (none)) else (none)) else (spec_DrawKnowBuild.l0 k x6 x7 (wrap64 (x9 + 1)) x943000 bt966.2 x960000 x960001 x960002 x960003 x960004)))
end
def spec_DrawKnowBuild.f (k : Nat) (l0 : List Int) : Option (List Int × (List (S24)) × Int × Int × Int × Int × (List (S24))) := (spec_l6Open.f l0).bind fun bt940 => ((spec_l71Keys.f k bt940.1 bt940.2).bind fun bt943 => ((spec_l71Seals.f k bt940.1 bt943.2).bind fun bt947 => ((spec_l71Msg.f k bt940.1 bt947.2).bind fun bt951 => (spec_DrawKnowBuild.l0 k bt943.1 bt947.1 0 bt940.1 bt951.2.2.2.2.2 bt951.1 bt951.2.1 bt951.2.2.1 bt951.2.2.2.1 bt951.2.2.2.2.1))))
theorem spec_DrawKnowBuild.mono_l : ∀ k, (∀ y0 y1 y2 y3 y4 y5 y6 y7 y8 y9, LeO (spec_DrawKnowBuild.l0 k y0 y1 y2 y3 y4 y5 y6 y7 y8 y9) (spec_DrawKnowBuild.l0 (k + 1) y0 y1 y2 y3 y4 y5 y6 y7 y8 y9)) ∧ (∀ y0 y1 y2 y3 y4 y5 y6 y7 y8 y9 y10, LeO (spec_DrawKnowBuild.j1 k y0 y1 y2 y3 y4 y5 y6 y7 y8 y9 y10) (spec_DrawKnowBuild.j1 (k + 1) y0 y1 y2 y3 y4 y5 y6 y7 y8 y9 y10))
 | 0 => ⟨fun _ _ _ _ _ _ _ _ _ _ r h => by simp [spec_DrawKnowBuild.l0] at h, fun _ _ _ _ _ _ _ _ _ _ _ r h => by simp [spec_DrawKnowBuild.j1] at h⟩
 | k + 1 => by
  obtain ⟨ih0, ih1⟩ := spec_DrawKnowBuild.mono_l k
  refine ⟨?_, ?_⟩
  ·intro y0 y1 y2 y3 y4 y5 y6 y7 y8 y9
   unfold spec_DrawKnowBuild.l0
   repeat' first
   | (with_reducible exact ih0 _ _ _ _ _ _ _ _ _ _)
   | (with_reducible exact ih1 _ _ _ _ _ _ _ _ _ _ _)
   | (with_reducible exact spec_l6Rd_pick.mono _ _ _ _)
   | (with_reducible exact spec_l71Keys.mono _ _ _)
   | (with_reducible exact spec_l71Msg.mono _ _ _)
   | (with_reducible exact spec_l71Seals.mono _ _ _)
   | (with_reducible exact LeO.refl _)
   | (with_reducible exact LeO.none _)
   | (with_reducible refine LeO.ite ?_ ?_)
   | (with_reducible refine LeO.bind ?_ (fun _ => ?_))
   | exact ih0 _ _ _ _ _ _ _ _ _ _
   | exact ih1 _ _ _ _ _ _ _ _ _ _ _
   | exact spec_l6Rd_pick.mono _ _ _ _
   | exact spec_l71Keys.mono _ _ _
   | exact spec_l71Msg.mono _ _ _
   | exact spec_l71Seals.mono _ _ _
   | exact LeO.none _
   | refine LeO.ite ?_ ?_
   | refine LeO.bind ?_ (fun _ => ?_)
  ·intro y0 y1 y2 y3 y4 y5 y6 y7 y8 y9 y10
   unfold spec_DrawKnowBuild.j1
   repeat' first
   | (with_reducible exact ih0 _ _ _ _ _ _ _ _ _ _)
   | (with_reducible exact ih1 _ _ _ _ _ _ _ _ _ _ _)
   | (with_reducible exact spec_l6Rd_pick.mono _ _ _ _)
   | (with_reducible exact spec_l71Keys.mono _ _ _)
   | (with_reducible exact spec_l71Msg.mono _ _ _)
   | (with_reducible exact spec_l71Seals.mono _ _ _)
   | (with_reducible exact LeO.refl _)
   | (with_reducible exact LeO.none _)
   | (with_reducible refine LeO.ite ?_ ?_)
   | (with_reducible refine LeO.bind ?_ (fun _ => ?_))
   | exact ih0 _ _ _ _ _ _ _ _ _ _
   | exact ih1 _ _ _ _ _ _ _ _ _ _ _
   | exact spec_l6Rd_pick.mono _ _ _ _
   | exact spec_l71Keys.mono _ _ _
   | exact spec_l71Msg.mono _ _ _
   | exact spec_l71Seals.mono _ _ _
   | exact LeO.none _
   | refine LeO.ite ?_ ?_
   | refine LeO.bind ?_ (fun _ => ?_)
theorem spec_DrawKnowBuild.mono : ∀ a0 k, LeO (spec_DrawKnowBuild.f k a0) (spec_DrawKnowBuild.f (k + 1) a0) := by
 intro a0 k
 obtain ⟨ih0, ih1⟩ := spec_DrawKnowBuild.mono_l k
 unfold spec_DrawKnowBuild.f
 repeat' first
   | (with_reducible exact ih0 _ _ _ _ _ _ _ _ _ _)
   | (with_reducible exact ih1 _ _ _ _ _ _ _ _ _ _ _)
   | (with_reducible exact spec_l6Rd_pick.mono _ _ _ _)
   | (with_reducible exact spec_l71Keys.mono _ _ _)
   | (with_reducible exact spec_l71Msg.mono _ _ _)
   | (with_reducible exact spec_l71Seals.mono _ _ _)
   | (with_reducible exact LeO.refl _)
   | (with_reducible exact LeO.none _)
   | (with_reducible refine LeO.ite ?_ ?_)
   | (with_reducible refine LeO.bind ?_ (fun _ => ?_))
   | exact ih0 _ _ _ _ _ _ _ _ _ _
   | exact ih1 _ _ _ _ _ _ _ _ _ _ _
   | exact spec_l6Rd_pick.mono _ _ _ _
   | exact spec_l71Keys.mono _ _ _
   | exact spec_l71Msg.mono _ _ _
   | exact spec_l71Seals.mono _ _ _
   | exact LeO.none _
   | refine LeO.ite ?_ ?_
   | refine LeO.bind ?_ (fun _ => ?_)
def spec_DrawKnowBuild.T9 : Bool × List (List Nat × List Nat) := (true, [([], []), ([0], [0]), ([], []), ([], []), ([], []), ([], []), ([5], [5]), ([4, 6], [4, 6]), ([3, 7], [3, 7]), ([8], [8]), ([1, 2, 0, 1, 2, 3, 4, 5, 6, 7, 8, 9], [1, 2]), ([10, 9, 7, 0, 1, 2, 3, 4, 5, 6, 7, 8, 9], [9, 10])])
def spec_DrawKnowBuild.B9 : List Nat := [0, 1, 0, 0, 0, 0, 32, 112, 248, 504, 1023, 2047]
theorem spec_DrawKnowBuild.tab9 : rtab .any (opsOf Try.f53 9) = spec_DrawKnowBuild.T9 := by kernel_rfl
theorem spec_DrawKnowBuild.bits9 : waitsOk spec_DrawKnowBuild.T9.2 spec_DrawKnowBuild.B9 = true := by kernel_rfl
def spec_DrawKnowBuild.T11 : Bool × List (List Nat × List Nat) := (true, [([], []), ([], []), ([1], [1]), ([], []), ([2, 3], [2, 3]), ([4], [4]), ([5], [5]), ([], []), ([7], [7]), ([], []), ([8, 9], [8, 9]), ([10], [10]), ([11], [11]), ([12], [12]), ([6, 13], [6, 13]), ([0, 14, 12], [0, 14]), ([15, 15, 0, 1, 2, 3, 4, 5, 6, 7, 8, 9, 10, 11, 12, 13, 14, 15], [0, 15])])
def spec_DrawKnowBuild.B11 : List Nat := [0, 0, 2, 0, 14, 30, 62, 0, 128, 0, 896, 1920, 3968, 8064, 16382, 32767, 65535]
theorem spec_DrawKnowBuild.tab11 : rtab .any (opsOf Try.f53 11) = spec_DrawKnowBuild.T11 := by kernel_rfl
theorem spec_DrawKnowBuild.bits11 : waitsOk spec_DrawKnowBuild.T11.2 spec_DrawKnowBuild.B11 = true := by kernel_rfl
set_option maxHeartbeats 8000000 in
set_option maxRecDepth 100000 in
theorem spec_DrawKnowBuild.calls (k : Nat) (A0 : Option Addr) (c0 : Nat) (l0 : List Int) (r1 : List Int) (r2 : List (S24)) (r3 : Int) (r4 : Int) (r5 : Int) (r6 : Int) (r7 : List (S24)) (w : World) (hr0 : Kd.C (Kd.int .u8) w A0 l0.length l0) (hc0 : l0.length ≤ c0) (h : spec_DrawKnowBuild.f k l0 = some (r1, r2, r3, r4, r5, r6, r7)) :
  Calls Try.prog 53 #[.slice A0 l0.length c0] w fun e w' => ∃ v0_ v1_ v6_ : Value, e = .returned (.tuple #[v0_, v1_, .agg #[.int .i64 r3, .int .i64 r4, .int .i64 r5, .int .i64 r6, v6_]]) ∧ Kd.R (Kd.int .i64) 3 w' w.heap.size (fun _ => True) v0_ r1 ∧ Kd.R k24 24 w' w.heap.size (fun k_ => some k_ ≠ (v6_ : Value).ownBlock) v1_ r2 ∧ Kd.R k24 24 w' w.heap.size (fun k_ => some k_ ≠ (v1_ : Value).ownBlock) v6_ r7 ∧ Below w.heap.size w w' := by
 have hu36 := Try.underlying36
 have hu24 := Try.underlying24
 have HR0 := Aside0.mk hr0
 have HC0 := Aside0.mk hc0
 clear hr0 hc0
 have HB := Aside0.mk (Below.refl w.heap.size w)
 have H : ((spec_l6Open.f l0).bind fun bt940 => ((spec_l71Keys.f k bt940.1 bt940.2).bind fun bt943 => ((spec_l71Seals.f k bt940.1 bt943.2).bind fun bt947 => ((spec_l71Msg.f k bt940.1 bt947.2).bind fun bt951 => (spec_DrawKnowBuild.l0 k bt943.1 bt947.1 0 bt940.1 bt951.2.2.2.2.2 bt951.1 bt951.2.1 bt951.2.2.1 bt951.2.2.2.1 bt951.2.2.2.2.1))))) = some (r1, r2, r3, r4, r5, r6, r7) := h
 clear h
 replace H := Option.bind_eq_some_iff.mp H
 obtain ⟨⟨t940, t941⟩, A20, H⟩ := H
 replace H : ((spec_l71Keys.f k t940 t941).bind fun bt943 => ((spec_l71Seals.f k t940 bt943.2).bind fun bt947 => ((spec_l71Msg.f k t940 bt947.2).bind fun bt951 => (spec_DrawKnowBuild.l0 k bt943.1 bt947.1 0 t940 bt951.2.2.2.2.2 bt951.1 bt951.2.1 bt951.2.2.1 bt951.2.2.2.1 bt951.2.2.2.2.1)))) = some (r1, r2, r3, r4, r5, r6, r7) := H
 have A2 := Aside0.mk A20
 clear A20
 replace H := Option.bind_eq_some_iff.mp H
 obtain ⟨⟨t943, t946⟩, A30, H⟩ := H
 replace H : ((spec_l71Seals.f k t940 t946).bind fun bt947 => ((spec_l71Msg.f k t940 bt947.2).bind fun bt951 => (spec_DrawKnowBuild.l0 k t943 bt947.1 0 t940 bt951.2.2.2.2.2 bt951.1 bt951.2.1 bt951.2.2.1 bt951.2.2.2.1 bt951.2.2.2.2.1))) = some (r1, r2, r3, r4, r5, r6, r7) := H
 have A3 := Aside0.mk A30
 clear A30
 replace H := Option.bind_eq_some_iff.mp H
 obtain ⟨⟨t947, t950⟩, A40, H⟩ := H
 replace H : ((spec_l71Msg.f k t940 t950).bind fun bt951 => (spec_DrawKnowBuild.l0 k t943 t947 0 t940 bt951.2.2.2.2.2 bt951.1 bt951.2.1 bt951.2.2.1 bt951.2.2.2.1 bt951.2.2.2.2.1)) = some (r1, r2, r3, r4, r5, r6, r7) := H
 have A4 := Aside0.mk A40
 clear A40
 replace H := Option.bind_eq_some_iff.mp H
 obtain ⟨⟨t951, t952, t953, t954, t955, t958⟩, A50, H⟩ := H
 replace H : (spec_DrawKnowBuild.l0 k t943 t947 0 t940 t958 t951 t952 t953 t954 t955) = some (r1, r2, r3, r4, r5, r6, r7) := H
 have A5 := Aside0.mk A50
 clear A50
 have H' := Aside0.mk H
 clear H
 go_enter Try.func53, Try.ntmps53
 go_wp2_with (first | ((with_reducible refine gate_dst (N := 4) rfl ?_); refine box_event ?hg (N := 4) ?hd (cs := #[.int .i64 0, .int .i64 0, .int .i64 0, .int .i64 0, .slice none 0 0]) (t := 36) ?hr ?_; (case hd => rfl); (case hg => rfl); (case hr => first | (go_simp; done) | (go_simp; rfl)); intro gb939 hg w6 hbox hb; have n0_ := Aside0.mk (below_step z62x6 hb); have n1_ := Aside0.mk (hbox); have n2_ := Aside0.mk ((by rw [hg]; exact (below_size z62x6) : w.heap.size ≤ gb939)); have n3_ := Aside0.mk ((by rw [hg]; exact (below_size z62x6) : w.heap.size ≤ gb939)); clear HB; have HB := n0_; have BK939 := n1_; have GW939 := n2_; have GE939 := n3_; clear n0_ n1_ n2_ n3_; clear hb hbox hg) | ((with_reducible refine gate_callee (f := 55) rfl ?_); refine goesL_ (some 11) rfl rfl Try.func55 (by kernel_rfl) rfl #[.slice A0 l0.length c0] rfl z62x5 ?_; (with_reducible refine (spec_l6Open.calls _ _ l0 t940 t941 w _ ?side1 ?side2 ?side3 A2.out).mono ?_); (case side1 => repeat (first | (with_reducible first | exact HB.out | apply below_alloc | apply pw_below_drewN | apply below_drew1 | refine below_set ?_ GE939.out) | exact HB.out)); (case side2 => exact HR0.out); (case side3 => exact HC0.out); rintro e w7 ⟨g942, rfl, hi, hb, hb2⟩; refine ⟨_, rfl, ?_⟩; have n0_ := Aside0.mk (blk_below (g := gb939) (o := .cells #[.int .i64 0, .int .i64 0, .int .i64 0, .int .i64 0, .slice none 0 0] 36 (0, 0)) z62x7 hb2); have n1_ := Aside0.mk (hb); have n2_ := Aside0.mk (hi); have n3_ := Aside0.mk (IsS80.ne_blk hi (blk_below (g := gb939) (o := .cells #[.int .i64 0, .int .i64 0, .int .i64 0, .int .i64 0, .slice none 0 0] 36 (0, 0)) z62x7 hb2) (by decide)); have n4_ := Aside0.mk (Ne.symm (IsS80.ne_blk hi (blk_below (g := gb939) (o := .cells #[.int .i64 0, .int .i64 0, .int .i64 0, .int .i64 0, .slice none 0 0] 36 (0, 0)) z62x7 hb2) (by decide))); clear BK939; clear HB; have BK939 := n0_; have HB := n1_; have HI942 := n2_; have NB942_939 := n3_; have NB939_942 := n4_; clear n0_ n1_ n2_ n3_ n4_; (try clear hb); (try clear hb2); (try clear hk); (try clear hi)) | ((with_reducible refine gate_callee (f := 73) rfl ?_); refine goesL_ (some 13) rfl rfl Try.func73 (by kernel_rfl) rfl #[.pointer (some ⟨g942, 0, none⟩)] rfl z62x5 ?_; (with_reducible refine (spec_l71Keys.calls k g942 t940 t941 t943 t946 w _ ?side1 ?side2 A3.out).mono ?_); (case side1 => repeat (first | (with_reducible first | exact HI942.out | apply IsS80.alloc | apply IsS80.drewN | apply IsS80.drew | apply IsS80.set_1 | refine IsS80.far ?_ NB942_939.out _) | exact HI942.out)); (case side2 => repeat (first | (with_reducible first | exact HB.out | apply below_alloc | apply pw_below_drewN | apply below_drew1 | refine below_set ?_ (IsS80.ge HI942.out) | refine below_set ?_ GE939.out) | exact HB.out)); rintro e w8 ⟨v944, rfl, ho0, hi, hb, hk⟩; refine ⟨_, rfl, ?_⟩; have n0_ := Aside0.mk (KeepBut.blk hk (g' := gb939) (o := .cells #[.int .i64 0, .int .i64 0, .int .i64 0, .int .i64 0, .slice none 0 0] 36 (0, 0)) z62x7 NB939_942.out (by simp)); have n1_ := Aside0.mk (Kd.R_lower ho0 (below_size z62x4)); have n2_ := Aside0.mk (hb); have n3_ := Aside0.mk (hi); clear BK939; clear HB; clear HI942; have BK939 := n0_; have HO945 := n1_; have HB := n2_; have HI942 := n3_; clear n0_ n1_ n2_ n3_; (try clear hb); (try clear hb2); (try clear hk); (try clear hi); (try clear ho0)) | ((with_reducible refine gate_callee (f := 74) rfl ?_); refine goesL_ (some 15) rfl rfl Try.func74 (by kernel_rfl) rfl #[.pointer (some ⟨g942, 0, none⟩)] rfl z62x5 ?_; (with_reducible refine (spec_l71Seals.calls k g942 t940 t946 t947 t950 w _ ?side1 ?side2 A4.out).mono ?_); (case side1 => repeat (first | (with_reducible first | exact HI942.out | apply IsS80.alloc | apply IsS80.drewN | apply IsS80.drew | apply IsS80.set_1 | refine IsS80.far ?_ NB942_939.out _) | exact HI942.out)); (case side2 => repeat (first | (with_reducible first | exact HB.out | apply below_alloc | apply pw_below_drewN | apply below_drew1 | refine below_set ?_ (IsS80.ge HI942.out) | refine below_set ?_ GE939.out) | exact HB.out)); rintro e w9 ⟨v948, rfl, ho0, hi, hb, hk⟩; refine ⟨_, rfl, ?_⟩; have n0_ := Aside0.mk (KeepBut.blk hk (g' := gb939) (o := .cells #[.int .i64 0, .int .i64 0, .int .i64 0, .int .i64 0, .slice none 0 0] 36 (0, 0)) z62x7 NB939_942.out (by simp)); have n1_ := Aside0.mk (Kd.R_mono (Kd.R_keep (IsS80.apart (show IsS80 w _ g942 t940 t946 from by repeat (first | (with_reducible first | exact HI942.out | apply IsS80.alloc | apply IsS80.drewN | apply IsS80.drew | apply IsS80.set_1 | refine IsS80.far ?_ NB942_939.out _) | exact HI942.out)) z62x10 (by decide)) hk (fun _ h => h.2)) (fun _ h => h.1)); have n2_ := Aside0.mk (Kd.R_lower ho0 (below_size z62x4)); have n3_ := Aside0.mk (hb); have n4_ := Aside0.mk (hi); clear BK939; clear HO945; clear HB; clear HI942; have BK939 := n0_; have HO945 := n1_; have HO949 := n2_; have HB := n3_; have HI942 := n4_; clear n0_ n1_ n2_ n3_ n4_; (try clear hb); (try clear hb2); (try clear hk); (try clear hi); (try clear ho0)) | ((with_reducible refine gate_callee (f := 72) rfl ?_); refine goesL_ (some 17) rfl rfl Try.func72 (by kernel_rfl) rfl #[.pointer (some ⟨g942, 0, none⟩)] rfl z62x5 ?_; (with_reducible refine (spec_l71Msg.calls k g942 t940 t950 t951 t952 t953 t954 t955 t958 w _ ?side1 ?side2 A5.out).mono ?_); (case side1 => repeat (first | (with_reducible first | exact HI942.out | apply IsS80.alloc | apply IsS80.drewN | apply IsS80.drew | apply IsS80.set_1 | refine IsS80.far ?_ NB942_939.out _) | exact HI942.out)); (case side2 => repeat (first | (with_reducible first | exact HB.out | apply below_alloc | apply pw_below_drewN | apply below_drew1 | refine below_set ?_ (IsS80.ge HI942.out) | refine below_set ?_ GE939.out) | exact HB.out)); rintro e w10 ⟨v956, rfl, ho0, hi, hb, hk⟩; refine ⟨_, rfl, ?_⟩; have n0_ := Aside0.mk (KeepBut.blk hk (g' := gb939) (o := .cells #[.int .i64 0, .int .i64 0, .int .i64 0, .int .i64 0, .slice none 0 0] 36 (0, 0)) z62x7 NB939_942.out (by simp)); have n1_ := Aside0.mk (Kd.R_mono (Kd.R_keep (IsS80.apart (show IsS80 w _ g942 t940 t950 from by repeat (first | (with_reducible first | exact HI942.out | apply IsS80.alloc | apply IsS80.drewN | apply IsS80.drew | apply IsS80.set_1 | refine IsS80.far ?_ NB942_939.out _) | exact HI942.out)) z62x10 (by decide)) hk (fun _ h => h.2)) (fun _ h => h.1)); have n2_ := Aside0.mk (Kd.R_mono (Kd.R_told (Kd.R_oldK (IsS80.apart (show IsS80 w _ g942 t940 t950 from by repeat (first | (with_reducible first | exact HI942.out | apply IsS80.alloc | apply IsS80.drewN | apply IsS80.drew | apply IsS80.set_1 | refine IsS80.far ?_ NB942_939.out _) | exact HI942.out)) z62x11 (by decide)) hk) (Kd.R_base ho0)) (fun _ h_ => h_.1)); have n3_ := Aside0.mk (Kd.R_lower (Kd.R_new' ho0 (Kd.R_lt z62x11)) (below_size z62x4)); have n4_ := Aside0.mk (hb); have n5_ := Aside0.mk (hi); clear BK939; clear HO945; clear HO949; clear HB; clear HI942; have BK939 := n0_; have HO945 := n1_; have HO949 := n2_; have HO957 := n3_; have HB := n4_; have HI942 := n5_; clear n0_ n1_ n2_ n3_ n4_ n5_; (try clear hb); (try clear hb2); (try clear hk); (try clear hi); (try clear ho0)) | ((with_reducible refine gate_dst (N := 8) rfl ?_); refine box_event ?hg (N := 8) ?hd (cs := #[.int .i64 0, .int .i64 0, .int .i64 0, .int .i64 0, .slice none 0 0]) (t := 36) ?hr ?_; (case hd => rfl); (case hg => rfl); (case hr => first | (go_simp; done) | (go_simp; rfl)); intro gb959 hg w11 hbox hb; have n0_ := Aside0.mk (Kd.R_below z62x10 hb); have n1_ := Aside0.mk (Kd.R_below z62x11 hb); have n2_ := Aside0.mk (Kd.R_below (by (with_reducible repeat (first | apply Kd.R_alloc | apply Kd.R_drewN | apply Kd.R_drew)); exact HO957.out) hb); have n3_ := Aside0.mk (blk_below (g := gb939) (o := .cells #[.int .i64 0, .int .i64 0, .int .i64 0, .int .i64 0, .slice none 0 0] 36 (0, 0)) z62x7 hb); have n4_ := Aside0.mk (IsS80.below (by repeat (first | (with_reducible first | exact HI942.out | apply IsS80.alloc | apply IsS80.drewN | apply IsS80.drew | apply IsS80.set_1 | refine IsS80.far ?_ NB942_939.out _) | exact HI942.out)) hb); have n5_ := Aside0.mk (below_step z62x4 hb); have n6_ := Aside0.mk (hbox); have n7_ := Aside0.mk ((z62x2 : w.heap.size ≤ gb959)); have n8_ := Aside0.mk ((z62x2 : w.heap.size ≤ gb959)); have n9_ := Aside0.mk ((by rw [hg]; exact Nat.ne_of_lt (blk_lt (g := gb939) (o := .cells #[.int .i64 0, .int .i64 0, .int .i64 0, .int .i64 0, .slice none 0 0] 36 (0, 0)) z62x7) : gb939 ≠ gb959)); have n10_ := Aside0.mk ((by rw [hg]; exact Nat.ne_of_gt (blk_lt (g := gb939) (o := .cells #[.int .i64 0, .int .i64 0, .int .i64 0, .int .i64 0, .slice none 0 0] 36 (0, 0)) z62x7) : gb959 ≠ gb939)); have n11_ := Aside0.mk ((by rw [hg]; exact Nat.ne_of_lt (IsS80.lt (show IsS80 w _ g942 t940 t958 from by repeat (first | (with_reducible first | exact HI942.out | apply IsS80.alloc | apply IsS80.drewN | apply IsS80.drew | apply IsS80.set_1 | refine IsS80.far ?_ NB942_939.out _) | exact HI942.out))) : g942 ≠ gb959)); have n12_ := Aside0.mk ((by rw [hg]; exact Nat.ne_of_gt (IsS80.lt (show IsS80 w _ g942 t940 t958 from by repeat (first | (with_reducible first | exact HI942.out | apply IsS80.alloc | apply IsS80.drewN | apply IsS80.drew | apply IsS80.set_1 | refine IsS80.far ?_ NB942_939.out _) | exact HI942.out))) : gb959 ≠ g942)); clear HO945; clear HO949; clear HO957; clear BK939; clear HI942; clear HB; have HO945 := n0_; have HO949 := n1_; have HO957 := n2_; have BK939 := n3_; have HI942 := n4_; have HB := n5_; have BK959 := n6_; have GW959 := n7_; have GE959 := n8_; have NB939_959 := n9_; have NB959_939 := n10_; have NB942_959 := n11_; have NB959_942 := n12_; clear n0_ n1_ n2_ n3_ n4_ n5_ n6_ n7_ n8_ n9_ n10_ n11_ n12_; clear hb hbox hg; have hnb12 := NB959_939.out; have hnc12 := NB939_959.out; have hnb13 := NB959_942.out; have hnc13 := NB942_959.out; have hcz14_0 : w11.cell? ⟨gb959, 0, none⟩ = some (.int .i64 0) := (blk_cell BK959.out 0).trans rfl; have hcz14_1 : w11.cell? ⟨gb959, 1, none⟩ = some (.int .i64 0) := (blk_cell BK959.out 1).trans rfl; have hcz14_2 : w11.cell? ⟨gb959, 2, none⟩ = some (.int .i64 0) := (blk_cell BK959.out 2).trans rfl; have hcz14_3 : w11.cell? ⟨gb959, 3, none⟩ = some (.int .i64 0) := (blk_cell BK959.out 3).trans rfl; have hcz14_4 : w11.cell? ⟨gb959, 4, none⟩ = some (.slice none 0 0) := (blk_cell BK959.out 4).trans rfl; have hfz14_0 := blk_frozen BK959.out 0; have hfz14_1 := blk_frozen BK959.out 1; have hfz14_2 := blk_frozen BK959.out 2; have hfz14_3 := blk_frozen BK959.out 3; have hfz14_4 := blk_frozen BK959.out 4; obtain ⟨Ao15, co15, eo15⟩ := Kd.R_slice HO957.out; subst eo15))
 go_loopg [6, 9] k (fun kq v6 v9 w' => ∃ (x6_1 : List Int) (x7_1 : List (S24)) (x9_1 : Int) (x943001_1 : Int) (x960004_1 : List (S24)) (u960004 : Value), v9 = .int .i64 x9_1 ∧ Aside0 (spec_DrawKnowBuild.l0 kq x6_1 x7_1 x9_1 t940 x943001_1 t951 t952 t953 t954 x960004_1 = some (r1, r2, r3, r4, r5, r6, r7)) ∧ Aside0 (kq ≤ k) ∧ Aside0 (Kd.R (Kd.int .i64) 3 w' w.heap.size (fun _ => True) v6 x6_1) ∧ Aside0 (Kd.R k24 24 w' w.heap.size (fun k_ => some k_ ≠ (u960004 : Value).ownBlock) v948 x7_1) ∧ Aside0 (Kd.R k24 24 w' w.heap.size (fun k_ => some k_ ≠ (v948 : Value).ownBlock) u960004 x960004_1) ∧ Aside0 (w'.heap[gb939]? = some (.cells #[.int .i64 0, .int .i64 0, .int .i64 0, .int .i64 0, (.slice none 0 0)] 36 (0, 0))) ∧ Aside0 (w'.heap[gb959]? = some (.cells #[.int .i64 t951, .int .i64 t952, .int .i64 t953, .int .i64 t954, u960004] 36 (0, 0))) ∧ Aside0 (IsS80 w w' g942 t940 x943001_1) ∧ Aside0 (Below w.heap.size w w'))
 case atStart => exact ⟨(t943), (t947), (0), (t958), (t955), (.slice Ao15 t955.length co15), (by first | rfl | (simp; done) | (simp [*]; done)), H', ⟨Nat.le_refl _⟩, ⟨by (with_reducible repeat (first | apply Kd.R_alloc | apply Kd.R_drewN | apply Kd.R_drew)); exact Kd.R_mono (Kd.R_far (p := ⟨gb959, 4, none⟩) (Kd.R_far (p := ⟨gb959, 3, none⟩) (Kd.R_far (p := ⟨gb959, 2, none⟩) (Kd.R_far (p := ⟨gb959, 1, none⟩) (Kd.R_far (p := ⟨gb959, 0, none⟩) (Kd.R_types HO945.out BK959.out (by decide)) (fun _ hk => hk.2) (.int .i64 t951)) (fun _ hk => hk.2) (.int .i64 t952)) (fun _ hk => hk.2) (.int .i64 t953)) (fun _ hk => hk.2) (.int .i64 t954)) (fun _ hk => hk.2) (.slice Ao15 t955.length co15)) (fun _ hk => trivial)⟩, ⟨by (with_reducible repeat (first | apply Kd.R_alloc | apply Kd.R_drewN | apply Kd.R_drew)); exact Kd.R_mono (Kd.R_far (p := ⟨gb959, 4, none⟩) (Kd.R_far (p := ⟨gb959, 3, none⟩) (Kd.R_far (p := ⟨gb959, 2, none⟩) (Kd.R_far (p := ⟨gb959, 1, none⟩) (Kd.R_far (p := ⟨gb959, 0, none⟩) (Kd.R_types HO949.out BK959.out (by decide)) (fun _ hk => hk.2) (.int .i64 t951)) (fun _ hk => hk.2) (.int .i64 t952)) (fun _ hk => hk.2) (.int .i64 t953)) (fun _ hk => hk.2) (.int .i64 t954)) (fun _ hk => hk.2) (.slice Ao15 t955.length co15)) (fun _ hk => hk.1.2)⟩, ⟨by (with_reducible repeat (first | apply Kd.R_alloc | apply Kd.R_drewN | apply Kd.R_drew)); exact Kd.R_mono (Kd.R_far (p := ⟨gb959, 4, none⟩) (Kd.R_far (p := ⟨gb959, 3, none⟩) (Kd.R_far (p := ⟨gb959, 2, none⟩) (Kd.R_far (p := ⟨gb959, 1, none⟩) (Kd.R_far (p := ⟨gb959, 0, none⟩) (Kd.R_types HO957.out BK959.out (by decide)) (fun _ hk => hk.2) (.int .i64 t951)) (fun _ hk => hk.2) (.int .i64 t952)) (fun _ hk => hk.2) (.int .i64 t953)) (fun _ hk => hk.2) (.int .i64 t954)) (fun _ hk => hk.2) (.slice Ao15 t955.length co15)) (fun _ hk => hk.1.2)⟩, ⟨by (with_reducible repeat (first | refine blk_drewN ?_ _ | refine blk_drew ?_ | refine blk_alloc ?_ _)); refine blk_far ?_ NB939_959.out _; (with_reducible repeat (first | refine blk_drewN ?_ _ | refine blk_drew ?_ | refine blk_alloc ?_ _)); refine blk_far ?_ NB939_959.out _; (with_reducible repeat (first | refine blk_drewN ?_ _ | refine blk_drew ?_ | refine blk_alloc ?_ _)); refine blk_far ?_ NB939_959.out _; (with_reducible repeat (first | refine blk_drewN ?_ _ | refine blk_drew ?_ | refine blk_alloc ?_ _)); refine blk_far ?_ NB939_959.out _; (with_reducible repeat (first | refine blk_drewN ?_ _ | refine blk_drew ?_ | refine blk_alloc ?_ _)); refine blk_far ?_ NB939_959.out _; (with_reducible repeat (first | refine blk_drewN ?_ _ | refine blk_drew ?_ | refine blk_alloc ?_ _)); exact BK939.out⟩, ⟨by (with_reducible repeat (first | refine blk_drewN ?_ _ | refine blk_drew ?_ | refine blk_alloc ?_ _)); refine blk_put (cs := #[.int .i64 t951, .int .i64 t952, .int .i64 t953, .int .i64 t954, .slice none 0 0]) ?_ 4 _ rfl; (with_reducible repeat (first | refine blk_drewN ?_ _ | refine blk_drew ?_ | refine blk_alloc ?_ _)); refine blk_put (cs := #[.int .i64 t951, .int .i64 t952, .int .i64 t953, .int .i64 0, .slice none 0 0]) ?_ 3 _ rfl; (with_reducible repeat (first | refine blk_drewN ?_ _ | refine blk_drew ?_ | refine blk_alloc ?_ _)); refine blk_put (cs := #[.int .i64 t951, .int .i64 t952, .int .i64 0, .int .i64 0, .slice none 0 0]) ?_ 2 _ rfl; (with_reducible repeat (first | refine blk_drewN ?_ _ | refine blk_drew ?_ | refine blk_alloc ?_ _)); refine blk_put (cs := #[.int .i64 t951, .int .i64 0, .int .i64 0, .int .i64 0, .slice none 0 0]) ?_ 1 _ rfl; (with_reducible repeat (first | refine blk_drewN ?_ _ | refine blk_drew ?_ | refine blk_alloc ?_ _)); refine blk_put (cs := #[.int .i64 0, .int .i64 0, .int .i64 0, .int .i64 0, .slice none 0 0]) ?_ 0 _ rfl; (with_reducible repeat (first | refine blk_drewN ?_ _ | refine blk_drew ?_ | refine blk_alloc ?_ _)); exact BK959.out⟩, ⟨by repeat (first | (with_reducible first | exact HI942.out | apply IsS80.alloc | apply IsS80.drewN | apply IsS80.drew | apply IsS80.set_1 | refine IsS80.far ?_ NB942_939.out _ | refine IsS80.far ?_ NB942_959.out _) | exact HI942.out)⟩, ⟨by repeat (first | (with_reducible first | exact HB.out | apply below_alloc | apply pw_below_drewN | apply below_drew1 | refine below_set ?_ (IsS80.ge HI942.out) | refine below_set ?_ GE939.out | refine below_set ?_ GE959.out) | exact HB.out)⟩⟩
 case round =>
  clear H'
  try clear c1
  try clear p2
  try clear c5
  try clear c7
  try clear c12
  try clear c13
  try clear hcz14_0
  try clear hcz14_1
  try clear hcz14_2
  try clear hcz14_3
  try clear hcz14_4
  try clear hfz14_0
  try clear hfz14_1
  try clear hfz14_2
  try clear hfz14_3
  try clear hfz14_4
  obtain ⟨x6_1, x7_1, x9_1, x943001_1, x960004_1, u960004, rfl, HA, HK1, HO_6, HO_7, HO_960004, BK939, BK959, HI942, HB⟩ := hrel
  cases gk with
  | zero => exact absurd HA.out (by simp [spec_DrawKnowBuild.l0])
  | succ k1 =>
   have H := HA.out
   clear HA
   simp only [spec_DrawKnowBuild.l0] at H
   by_cases c16 : x9_1 < (x960004_1.length : Int)
   ·rw [if_pos c16] at H
    have c16b0 : decide (x9_1 < (x960004_1.length : Int)) = true := decide_eq_true c16
    clear c16
    have HC17 := Aside0.mk H
    clear H
    have hnb18 := NB959_939.out
    have hnc18 := NB939_959.out
    have hnb19 := NB959_942.out
    have hnc19 := NB942_959.out
    have hcz20_0 : wr.cell? ⟨gb959, 0, none⟩ = some (.int .i64 t951) := (blk_cell BK959.out 0).trans rfl
    have hcz20_1 : wr.cell? ⟨gb959, 1, none⟩ = some (.int .i64 t952) := (blk_cell BK959.out 1).trans rfl
    have hcz20_2 : wr.cell? ⟨gb959, 2, none⟩ = some (.int .i64 t953) := (blk_cell BK959.out 2).trans rfl
    have hcz20_3 : wr.cell? ⟨gb959, 3, none⟩ = some (.int .i64 t954) := (blk_cell BK959.out 3).trans rfl
    have hcz20_4 : wr.cell? ⟨gb959, 4, none⟩ = some (u960004) := (blk_cell BK959.out 4).trans rfl
    have hfz20_0 := blk_frozen BK959.out 0
    have hfz20_1 := blk_frozen BK959.out 1
    have hfz20_2 := blk_frozen BK959.out 2
    have hfz20_3 := blk_frozen BK959.out 3
    have hfz20_4 := blk_frozen BK959.out 4
    obtain ⟨Ao21, co21, eo21⟩ := Kd.R_slice HO_960004.out
    subst eo21
    go_upto_region 8 with (fail)
    go_cut [32] (fun v32 wc => ∃ (kq : Nat) (x32_16 : Bool) (x943001_16 : Int), v32 = .bool x32_16 ∧ Aside0 (spec_DrawKnowBuild.j1 kq x6_1 x7_1 x9_1 x32_16 t940 x943001_16 t951 t952 t953 t954 x960004_1 = some (r1, r2, r3, r4, r5, r6, r7)) ∧ Aside0 (kq ≤ k1) ∧ Aside0 (Kd.R (Kd.int .i64) 3 wc w.heap.size (fun _ => True) u6 x6_1) ∧ Aside0 (Kd.R k24 24 wc w.heap.size (fun k_ => some k_ ≠ ((.slice Ao21 x960004_1.length co21) : Value).ownBlock) v948 x7_1) ∧ Aside0 (Kd.R k24 24 wc w.heap.size (fun k_ => some k_ ≠ (v948 : Value).ownBlock) (.slice Ao21 x960004_1.length co21) x960004_1) ∧ Aside0 (wc.heap[gb939]? = some (.cells #[.int .i64 0, .int .i64 0, .int .i64 0, .int .i64 0, (.slice none 0 0)] 36 (0, 0))) ∧ Aside0 (wc.heap[gb959]? = some (.cells #[.int .i64 t951, .int .i64 t952, .int .i64 t953, .int .i64 t954, (.slice Ao21 x960004_1.length co21)] 36 (0, 0))) ∧ Aside0 (IsS80 w wc g942 t940 x943001_16) ∧ Aside0 (Below w.heap.size w wc))
    case first =>
     have H := HC17.out
     clear HC17
     by_cases c22 : (x7_1.length : Int) > 0
     ·rw [if_pos c22] at H
      have c22b0 : decide (0 < (x7_1.length : Int)) = true := decide_eq_true c22
      have c22b1 : decide (0 < x7_1.length) = true := decide_eq_true (by omega)
      clear c22
      (first | rw [c22b0] | (simp only [i64_w, i32_w]; rw [c22b0]) | skip)
      replace H := Option.bind_eq_some_iff.mp H
      obtain ⟨⟨t960, t961⟩, A230, H⟩ := H
      replace H : (spec_DrawKnowBuild.j1 k1 x6_1 x7_1 x9_1 (decide (t960 > 0)) t940 t961 t951 t952 t953 t954 x960004_1) = some (r1, r2, r3, r4, r5, r6, r7) := H
      have A23 := Aside0.mk A230
      clear A230
      have H' := Aside0.mk H
      clear H
      obtain ⟨Ao24, co24, eo24⟩ := Kd.R_slice HO_7.out
      subst eo24
      go_wp2_with (first | (go_at_call 57; (with_reducible refine (spec_l6Rd_pick.calls k1 g942 t940 x943001_1 3 t960 t961 w _ ?side1 ?side2 A23.out).mono ?_); (case side1 => repeat (first | (with_reducible first | exact HI942.out | apply IsS80.alloc | apply IsS80.drewN | apply IsS80.drew | apply IsS80.set_1 | refine IsS80.far ?_ NB942_939.out _ | refine IsS80.far ?_ NB942_959.out _) | exact HI942.out)); (case side2 => repeat (first | (with_reducible first | exact HB.out | apply below_alloc | apply pw_below_drewN | apply below_drew1 | refine below_set ?_ (IsS80.ge HI942.out) | refine below_set ?_ GE939.out | refine below_set ?_ GE959.out) | exact HB.out)); rintro e w25 ⟨rfl, hi, hb, hk⟩; have n0_ := Aside0.mk (Kd.R_mono (Kd.R_keep (IsS80.apart (show IsS80 w _ g942 t940 x943001_1 from by repeat (first | (with_reducible first | exact HI942.out | apply IsS80.alloc | apply IsS80.drewN | apply IsS80.drew | apply IsS80.set_1 | refine IsS80.far ?_ NB942_939.out _ | refine IsS80.far ?_ NB942_959.out _) | exact HI942.out)) z62x12 (by decide)) hk (fun _ h => h.2)) (fun _ h => h.1)); have n1_ := Aside0.mk (Kd.R_mono (Kd.R_keep (IsS80.apart (show IsS80 w _ g942 t940 x943001_1 from by repeat (first | (with_reducible first | exact HI942.out | apply IsS80.alloc | apply IsS80.drewN | apply IsS80.drew | apply IsS80.set_1 | refine IsS80.far ?_ NB942_939.out _ | refine IsS80.far ?_ NB942_959.out _) | exact HI942.out)) z62x13 (by decide)) hk (fun _ h => h.2)) (fun _ h => h.1)); have n2_ := Aside0.mk (Kd.R_mono (Kd.R_keep (IsS80.apart (show IsS80 w _ g942 t940 x943001_1 from by repeat (first | (with_reducible first | exact HI942.out | apply IsS80.alloc | apply IsS80.drewN | apply IsS80.drew | apply IsS80.set_1 | refine IsS80.far ?_ NB942_939.out _ | refine IsS80.far ?_ NB942_959.out _) | exact HI942.out)) z62x9 (by decide)) hk (fun _ h => h.2)) (fun _ h => h.1)); have n3_ := Aside0.mk (KeepBut.blk hk (g' := gb939) (o := .cells #[.int .i64 0, .int .i64 0, .int .i64 0, .int .i64 0, .slice none 0 0] 36 (0, 0)) z62x7 NB939_942.out (by simp)); have n4_ := Aside0.mk (KeepBut.blk hk (g' := gb959) (o := .cells #[.int .i64 t951, .int .i64 t952, .int .i64 t953, .int .i64 t954, .slice Ao21 x960004_1.length co21] 36 (0, 0)) z62x8 NB959_942.out (by simp)); have n5_ := Aside0.mk (hb); have n6_ := Aside0.mk (hi); clear HO_6; clear HO_7; clear HO_960004; clear BK939; clear BK959; clear HB; clear HI942; have HO_6 := n0_; have HO_7 := n1_; have HO_960004 := n2_; have BK939 := n3_; have BK959 := n4_; have HB := n5_; have HI942 := n6_; clear n0_ n1_ n2_ n3_ n4_ n5_ n6_; (try clear hb); (try clear hb2); (try clear hk); (try clear hi)))
      go_meet
      case rel => exact ⟨_, (decide (t960 > 0)), (t961), (by first | rfl | (simp; done) | (simp [*]; done)), H', ⟨by have := HK1.out; first | omega | exact Nat.le_refl _⟩, ⟨by (with_reducible repeat (first | apply Kd.R_alloc | apply Kd.R_drewN | apply Kd.R_drew)); exact HO_6.out⟩, ⟨by (with_reducible repeat (first | apply Kd.R_alloc | apply Kd.R_drewN | apply Kd.R_drew)); exact HO_7.out⟩, ⟨by (with_reducible repeat (first | apply Kd.R_alloc | apply Kd.R_drewN | apply Kd.R_drew)); exact HO_960004.out⟩, ⟨by (with_reducible repeat (first | refine blk_drewN ?_ _ | refine blk_drew ?_ | refine blk_alloc ?_ _)); exact BK939.out⟩, ⟨by (with_reducible repeat (first | refine blk_drewN ?_ _ | refine blk_drew ?_ | refine blk_alloc ?_ _)); exact BK959.out⟩, ⟨by repeat (first | (with_reducible first | exact HI942.out | apply IsS80.alloc | apply IsS80.drewN | apply IsS80.drew | apply IsS80.set_1 | refine IsS80.far ?_ NB942_939.out _ | refine IsS80.far ?_ NB942_959.out _) | exact HI942.out)⟩, ⟨by repeat (first | (with_reducible first | exact HB.out | apply below_alloc | apply pw_below_drewN | apply below_drew1 | refine below_set ?_ (IsS80.ge HI942.out) | refine below_set ?_ GE939.out | refine below_set ?_ GE959.out) | exact HB.out)⟩⟩
     ·rw [if_neg c22] at H
      have c22b0 : decide (0 < (x7_1.length : Int)) = false := decide_eq_false c22
      have c22b1 : decide (0 < x7_1.length) = false := decide_eq_false (by omega)
      clear c22
      (first | rw [c22b0] | (simp only [i64_w, i32_w]; rw [c22b0]) | skip)
      have H' := Aside0.mk H
      clear H
      obtain ⟨Ao26, co26, eo26⟩ := Kd.R_slice HO_7.out
      subst eo26
      go_wp2
      go_meet
      case rel => exact ⟨_, (false), (x943001_1), (by first | rfl | (simp; done) | (simp [*]; done)), H', ⟨by have := HK1.out; first | omega | exact Nat.le_refl _⟩, ⟨by (with_reducible repeat (first | apply Kd.R_alloc | apply Kd.R_drewN | apply Kd.R_drew)); exact HO_6.out⟩, ⟨by (with_reducible repeat (first | apply Kd.R_alloc | apply Kd.R_drewN | apply Kd.R_drew)); exact HO_7.out⟩, ⟨by (with_reducible repeat (first | apply Kd.R_alloc | apply Kd.R_drewN | apply Kd.R_drew)); exact HO_960004.out⟩, ⟨by (with_reducible repeat (first | refine blk_drewN ?_ _ | refine blk_drew ?_ | refine blk_alloc ?_ _)); exact BK939.out⟩, ⟨by (with_reducible repeat (first | refine blk_drewN ?_ _ | refine blk_drew ?_ | refine blk_alloc ?_ _)); exact BK959.out⟩, ⟨by repeat (first | (with_reducible first | exact HI942.out | apply IsS80.alloc | apply IsS80.drewN | apply IsS80.drew | apply IsS80.set_1 | refine IsS80.far ?_ NB942_939.out _ | refine IsS80.far ?_ NB942_959.out _) | exact HI942.out)⟩, ⟨by repeat (first | (with_reducible first | exact HB.out | apply below_alloc | apply pw_below_drewN | apply below_drew1 | refine below_set ?_ (IsS80.ge HI942.out) | refine below_set ?_ GE939.out | refine below_set ?_ GE959.out) | exact HB.out)⟩⟩
    case rest =>
     clear HC17
     try clear c1
     try clear c2
     try clear p2
     try clear c5
     try clear c7
     try clear c12
     try clear c13
     try clear c16
     try clear c16b0
     try clear c18
     try clear c19
     try clear c22
     try clear c22b0
     try clear c22b1
     try clear hcz14_0
     try clear hcz14_1
     try clear hcz14_2
     try clear hcz14_3
     try clear hcz14_4
     try clear hcz20_0
     try clear hcz20_1
     try clear hcz20_2
     try clear hcz20_3
     try clear hcz20_4
     try clear hfz14_0
     try clear hfz14_1
     try clear hfz14_2
     try clear hfz14_3
     try clear hfz14_4
     try clear hfz20_0
     try clear hfz20_1
     try clear hfz20_2
     try clear hfz20_3
     try clear hfz20_4
     try clear p2
     obtain ⟨kq, x32_16, x943001_16, rfl, HA, HJ16, HO_6, HO_7, HO_960004, BK939, BK959, HI942, HB⟩ := hcut
     cases kq with
     | zero => exact absurd HA.out (by simp [spec_DrawKnowBuild.j1])
     | succ kj16 =>
      have H := HA.out
      clear HA
      simp only [spec_DrawKnowBuild.j1] at H
      by_cases c27 : x32_16 = true
      ·subst c27
       rw [if_pos rfl] at H
       replace H := Option.bind_eq_some_iff.mp H
       obtain ⟨⟨t962, t963⟩, A280, H⟩ := H
       replace H : (if 0 ≤ t962 then (if t962 < (x7_1.length : Int) then (if 0 ≤ x9_1 then (if x9_1 < (x960004_1.length : Int) then (spec_DrawKnowBuild.l0 kj16 x6_1 x7_1 (wrap64 (x9_1 + 1)) t940 t963 t951 t952 t953 t954 (x960004_1.set (x9_1 : Int).toNat (⟨(rd_T24 x7_1 t962).f0, (rd_T24 x7_1 t962).f1, (rd_T24 x7_1 t962).f2, (rd_T24 x7_1 t962).f3, (rd_T24 x7_1 t962).f4, (rd_T24 x7_1 t962).f5, (rd_T24 x7_1 t962).f6⟩ : S24))) else (none)) else (none)) else (none)) else (none)) = some (r1, r2, r3, r4, r5, r6, r7) := H
       have A28 := Aside0.mk A280
       clear A280
       by_cases c29 : 0 ≤ t962
       ·rw [if_pos c29] at H
        have c29b0 : decide (0 ≤ t962) = true := decide_eq_true c29
        clear c29
        by_cases c30 : t962 < (x7_1.length : Int)
        ·rw [if_pos c30] at H
         have c30b0 : decide (t962 < (x7_1.length : Int)) = true := decide_eq_true c30
         clear c30
         by_cases c31 : 0 ≤ x9_1
         ·rw [if_pos c31] at H
          have c31b0 : decide (0 ≤ x9_1) = true := decide_eq_true c31
          clear c31
          by_cases c32 : x9_1 < (x960004_1.length : Int)
          ·rw [if_pos c32] at H
           have c32b0 : decide (x9_1 < (x960004_1.length : Int)) = true := decide_eq_true c32
           clear c32
           obtain ⟨y965, hy965⟩ : ∃ y_ : List (S24), y_ = (x960004_1.set (x9_1 : Int).toNat (⟨(rd_T24 x7_1 t962).f0, (rd_T24 x7_1 t962).f1, (rd_T24 x7_1 t962).f2, (rd_T24 x7_1 t962).f3, (rd_T24 x7_1 t962).f4, (rd_T24 x7_1 t962).f5, (rd_T24 x7_1 t962).f6⟩ : S24)) := ⟨_, rfl⟩
           replace H : (spec_DrawKnowBuild.l0 kj16 x6_1 x7_1 (wrap64 (x9_1 + 1)) t940 t963 t951 t952 t953 t954 y965) = some (r1, r2, r3, r4, r5, r6, r7) := by first | (rw [hy965]; with_reducible exact H) | (have H2_ := (Option.bind_some _ _).symm.trans H; rw [hy965]; with_reducible exact H2_) | (have H2_ := (Option.bind_some _ _).symm.trans H; with_reducible exact H2_) | with_reducible exact H | (rw [hy965]; exact H) | exact H
           have Ny965 := Aside0.mk hy965
           clear hy965
           have H' := Aside0.mk H
           clear H
           try go_wp2
           have n0_ := Aside0.mk (Kd.R_drew HO_6.out)
           have n1_ := Aside0.mk (Kd.R_drew HO_7.out)
           have n2_ := Aside0.mk (Kd.R_drew HO_960004.out)
           have n3_ := Aside0.mk (blk_drew BK939.out)
           have n4_ := Aside0.mk (blk_drew BK959.out)
           have n5_ := Aside0.mk (IsS80.drew HI942.out)
           have n6_ := Aside0.mk (below_drew1 HB.out)
           clear HO_6
           clear HO_7
           clear HO_960004
           clear BK939
           clear BK959
           clear HI942
           clear HB
           have HO_6 := n0_
           have HO_7 := n1_
           have HO_960004 := n2_
           have BK939 := n3_
           have BK959 := n4_
           have HI942 := n5_
           have HB := n6_
           clear n0_ n1_ n2_ n3_ n4_ n5_ n6_
           obtain ⟨Ao35, co35, eo35⟩ := Kd.R_slice HO_7.out
           (first | subst eo35 | (injection eo35 with f1_ f2_ f3_; have f4_ := f1_.symm; have f5_ := f3_.symm; clear f1_ f2_ f3_; subst f4_; subst f5_))
           have p964 : 0 ≤ (t962 : Int) := of_decide_eq_true (by first | (with_reducible assumption) | assumption)
           have q964 : t962 < (x7_1.length : Int) := of_decide_eq_true (by first | (with_reducible assumption) | assumption)
           obtain ⟨ad964, e964, hx964_0, hx964_1, hx964_2, hx964_3, hx964_4, hx964_5, hx964_6⟩ := at_T24 (Kd.R_reads' HO_7.out).2.2 t962 p964 q964
           cases e964
           replace p964 := eq_true p964
           replace q964 := eq_true q964
           refine start_ (n := 12) (S := fun w' => w'.cell? ⟨gb959, 0, none⟩ = some (.int .i64 t951) ∧ w'.cell? ⟨gb959, 1, none⟩ = some (.int .i64 t952) ∧ w'.cell? ⟨gb959, 2, none⟩ = some (.int .i64 t953) ∧ w'.cell? ⟨gb959, 3, none⟩ = some (.int .i64 t954) ∧ w'.cell? ⟨gb959, 4, none⟩ = some (.slice Ao21 x960004_1.length co21) ∧ w'.cell? (ad964.add ((t962).toNat * 7)) = some (.int .i64 ((rd_T24 x7_1 t962).f0)) ∧ w'.cell? ⟨(ad964.add ((t962).toNat * 7)).block, (ad964.add ((t962).toNat * 7)).off + 1, none⟩ = some (.int .i64 ((rd_T24 x7_1 t962).f1)) ∧ w'.cell? ⟨(ad964.add ((t962).toNat * 7)).block, (ad964.add ((t962).toNat * 7)).off + 2, none⟩ = some (.int .i64 ((rd_T24 x7_1 t962).f2)) ∧ w'.cell? ⟨(ad964.add ((t962).toNat * 7)).block, (ad964.add ((t962).toNat * 7)).off + 3, none⟩ = some (.int .i64 ((rd_T24 x7_1 t962).f3)) ∧ w'.cell? ⟨(ad964.add ((t962).toNat * 7)).block, (ad964.add ((t962).toNat * 7)).off + 4, none⟩ = some (.int .i64 ((rd_T24 x7_1 t962).f4)) ∧ w'.cell? ⟨(ad964.add ((t962).toNat * 7)).block, (ad964.add ((t962).toNat * 7)).off + 5, none⟩ = some (.int .i64 ((rd_T24 x7_1 t962).f5)) ∧ w'.cell? ⟨(ad964.add ((t962).toNat * 7)).block, (ad964.add ((t962).toNat * 7)).off + 6, none⟩ = some (.int .i64 ((rd_T24 x7_1 t962).f6))) (ds := [11]) #[false, false, false, false, false, false, false, false, false, false, false, false] (by kernel_rfl) rfl rfl ⟨(blk_cell BK959.out 0).trans rfl, (blk_cell BK959.out 1).trans rfl, (blk_cell BK959.out 2).trans rfl, (blk_cell BK959.out 3).trans rfl, (blk_cell BK959.out 4).trans rfl, hx964_0, hx964_1, hx964_2, hx964_3, hx964_4, hx964_5, hx964_6⟩ (fun hHeld => ?_); refine with_tabW spec_DrawKnowBuild.tab9 spec_DrawKnowBuild.bits9 (fun HT_ HW_ => ?_)
           generalize wc.drew = w34 at HO_6 HO_7 HO_960004 BK939 BK959 HI942 HB hx964_0 hx964_1 hx964_2 hx964_3 hx964_4 hx964_5 hx964_6 hHeld ⊢
           refine pure_ (i := 0) (N := some 33) (v := ?_) (a' := ?_) #[true, false, false, false, false, false, false, false, false, false, false, false] rfl rfl (any_of HT_.out (by kernel_rfl)) (fun _ _ _ h => h) (Or.inl ⟨by rfl, ?_⟩) ?_ ?_
           rotate_left
           ·intro w'
            go_simp
            with_reducible rfl
           rotate_left
           ·simp only [Act.put, List.setIfInBounds_toArray, List.set_cons_zero, List.set_cons_succ, i64_w, i32_w]
            rfl
           refine pure_ (i := 2) (N := some 35) (v := ?_) (a' := ?_) #[true, false, true, false, false, false, false, false, false, false, false, false] rfl rfl (any_of HT_.out (by kernel_rfl)) (fun _ _ _ h => h) (Or.inl ⟨by rfl, ?_⟩) ?_ ?_
           rotate_left
           ·intro w'
            go_simp
            with_reducible rfl
           rotate_left
           ·simp only [Act.put, List.setIfInBounds_toArray, List.set_cons_zero, List.set_cons_succ, i64_w, i32_w]
            rfl
           refine pure_ (i := 3) (N := some 36) (v := ?_) (a' := ?_) #[true, false, true, true, false, false, false, false, false, false, false, false] rfl rfl (any_of HT_.out (by kernel_rfl)) (fun _ _ _ h => h) (Or.inl ⟨by rfl, ?_⟩) ?_ ?_
           rotate_left
           ·intro w'
            go_simp
            with_reducible rfl
           rotate_left
           ·simp only [Act.put, List.setIfInBounds_toArray, List.set_cons_zero, List.set_cons_succ, i64_w, i32_w]
            rfl
           refine pure_ (i := 4) (N := some 37) (v := ?_) (a' := ?_) #[true, false, true, true, true, false, false, false, false, false, false, false] rfl rfl (any_of HT_.out (by kernel_rfl)) (fun _ _ _ h => h) (Or.inl ⟨by rfl, ?_⟩) ?_ ?_
           rotate_left
           ·intro w'
            go_simp
            with_reducible rfl
           rotate_left
           ·simp only [Act.put, List.setIfInBounds_toArray, List.set_cons_zero, List.set_cons_succ, i64_w, i32_w]
            rfl
           refine pure_ (i := 5) (N := some 38) (v := ?_) (a' := ?_) #[true, false, true, true, true, true, false, false, false, false, false, false] rfl rfl (any_of HT_.out (by kernel_rfl)) (fun _ _ _ h => h) (Or.inl ⟨by rfl, ?_⟩) ?_ ?_
           rotate_left
           ·intro w'
            go_simp
            with_reducible rfl
           rotate_left
           ·simp only [Act.put, List.setIfInBounds_toArray, List.set_cons_zero, List.set_cons_succ, i64_w, i32_w]
            rfl
           refine pure_ (i := 6) (N := some 39) (v := ?_) (a' := ?_) #[true, false, true, true, true, true, true, false, false, false, false, false] rfl rfl (any_of HT_.out (by kernel_rfl)) (fun _ _ _ h => h) (Or.inl ⟨by rfl, ?_⟩) ?_ ?_
           rotate_left
           ·intro w'
            go_simp
            with_reducible rfl
           rotate_left
           ·simp only [Act.put, List.setIfInBounds_toArray, List.set_cons_zero, List.set_cons_succ, i64_w, i32_w]
            rfl
           refine take_ (i := 1) (N := some 34) (v := ?_) (a' := ?_) #[true, true, true, true, true, true, true, false, false, false, false, false] rfl rfl (take_ofW HT_.out HW_.out (by kernel_rfl)) (fun _ _ _ h => h) (Or.inl ⟨by rfl, ?_⟩) hHeld ?_ ?_
           rotate_left
           ·rintro w' ⟨s0, s1, s2, s3, s4, s5, s6, s7, s8, s9, s10, s11⟩
            go_simp
            with_reducible rfl
           rotate_left
           ·simp only [Act.put, List.setIfInBounds_toArray, List.set_cons_zero, List.set_cons_succ, i64_w, i32_w]
            rfl
           refine one_ (i := 7) (N := some 40) #[true, true, true, true, true, true, true, true, false, false, false, false] rfl rfl (one_of HT_.out (by kernel_rfl)) (by decide) (fun K hK => ?_)
           refine goes_ Try.func57 (by kernel_rfl) rfl #[.pointer (some ⟨g942, 0, none⟩), .int .i64 (x7_1.length : Int)] (by rfl) rfl rfl z62x5 ?_
           with_reducible refine (spec_l6Rd_pick.calls kj16 g942 t940 x943001_16 (x7_1.length : Int) t962 t963 w _ ?side1 ?side2 A28.out).mono ?_
           (case side1 => repeat (first | (with_reducible first | exact HI942.out | apply IsS80.alloc | apply IsS80.drewN | apply IsS80.drew | apply IsS80.set_1 | refine IsS80.far ?_ NB942_939.out _ | refine IsS80.far ?_ NB942_959.out _) | exact HI942.out))
           (case side2 => repeat (first | (with_reducible first | exact HB.out | apply below_alloc | apply pw_below_drewN | apply below_drew1 | refine below_set ?_ (IsS80.ge HI942.out) | refine below_set ?_ GE939.out | refine below_set ?_ GE959.out) | exact HB.out))
           rintro e w36 ⟨rfl, hi, hb, hk⟩
           have HS5_ := keep_cell hk (hHeld.2.2.2.2.2.1) z62x0
           have HS6_ := keep_cell hk (hHeld.2.2.2.2.2.2.1) z62x0
           have HS7_ := keep_cell hk (hHeld.2.2.2.2.2.2.2.1) z62x0
           have HS8_ := keep_cell hk (hHeld.2.2.2.2.2.2.2.2.1) z62x0
           have HS9_ := keep_cell hk (hHeld.2.2.2.2.2.2.2.2.2.1) z62x0
           have HS10_ := keep_cell hk (hHeld.2.2.2.2.2.2.2.2.2.2.1) z62x0
           have HS11_ := keep_cell hk (hHeld.2.2.2.2.2.2.2.2.2.2.2) z62x0
           refine ⟨_, rfl, ?_⟩
           have n0_ := Aside0.mk (Kd.R_mono (Kd.R_keep (IsS80.apart (show IsS80 w _ g942 t940 x943001_16 from by repeat (first | (with_reducible first | exact HI942.out | apply IsS80.alloc | apply IsS80.drewN | apply IsS80.drew | apply IsS80.set_1 | refine IsS80.far ?_ NB942_939.out _ | refine IsS80.far ?_ NB942_959.out _) | exact HI942.out)) z62x12 (by decide)) hk (fun _ h => h.2)) (fun _ h => h.1))
           have n1_ := Aside0.mk (Kd.R_mono (Kd.R_keep (IsS80.apart (show IsS80 w _ g942 t940 x943001_16 from by repeat (first | (with_reducible first | exact HI942.out | apply IsS80.alloc | apply IsS80.drewN | apply IsS80.drew | apply IsS80.set_1 | refine IsS80.far ?_ NB942_939.out _ | refine IsS80.far ?_ NB942_959.out _) | exact HI942.out)) z62x13 (by decide)) hk (fun _ h => h.2)) (fun _ h => h.1))
           have n2_ := Aside0.mk (Kd.R_mono (Kd.R_keep (IsS80.apart (show IsS80 w _ g942 t940 x943001_16 from by repeat (first | (with_reducible first | exact HI942.out | apply IsS80.alloc | apply IsS80.drewN | apply IsS80.drew | apply IsS80.set_1 | refine IsS80.far ?_ NB942_939.out _ | refine IsS80.far ?_ NB942_959.out _) | exact HI942.out)) z62x9 (by decide)) hk (fun _ h => h.2)) (fun _ h => h.1))
           have n3_ := Aside0.mk (KeepBut.blk hk (g' := gb939) (o := .cells #[.int .i64 0, .int .i64 0, .int .i64 0, .int .i64 0, .slice none 0 0] 36 (0, 0)) z62x7 NB939_942.out (by simp))
           have n4_ := Aside0.mk (KeepBut.blk hk (g' := gb959) (o := .cells #[.int .i64 t951, .int .i64 t952, .int .i64 t953, .int .i64 t954, .slice Ao21 x960004_1.length co21] 36 (0, 0)) z62x8 NB959_942.out (by simp))
           have n5_ := Aside0.mk (hb)
           have n6_ := Aside0.mk (hi)
           clear HO_6
           clear HO_7
           clear HO_960004
           clear BK939
           clear BK959
           clear HB
           clear HI942
           have HO_6 := n0_
           have HO_7 := n1_
           have HO_960004 := n2_
           have BK939 := n3_
           have BK959 := n4_
           have HB := n5_
           have HI942 := n6_
           clear n0_ n1_ n2_ n3_ n4_ n5_ n6_
           (try clear hb)
           (try clear hb2)
           (try clear hk)
           (try clear hi)
           have p33 : 0 ≤ (x9_1 : Int) := of_decide_eq_true (by first | (with_reducible assumption) | assumption)
           have q33 : (x9_1 : Int) < ((x960004_1.length : Int) : Int) := of_decide_eq_true (by first | (with_reducible assumption) | assumption)
           obtain ⟨go33, co33, eo33, gb33, gl33, cl33, HG33⟩ := Kd.R_form HO_960004.out (by omega)
           (first | cases eo33 | (injection eo33 with ea_ en_ ec_; (first | subst ea_ | (injection ea_ with ea_; subst ea_)); subst ec_; clear en_))
           have GB33 := Aside0.mk gb33
           have GG33 := Aside0.mk HG33
           clear gb33 gl33 HG33
           obtain ⟨ce33, hcl33, hM33, hcc33, hfr33⟩ := Kd.R_elem HO_960004.out z24 (x9_1 : Int) p33 q33
           obtain rfl := k24_openM hM33
           have hx33_0 : World.cell? _ ⟨go33, (x9_1 : Int).toNat * 7, none⟩ = some (.int .i64 ((rd_T24 x960004_1 x9_1).f0)) := hcc33 0 _ rfl
           have hx33_1 : World.cell? _ ⟨go33, (x9_1 : Int).toNat * 7 + 1, none⟩ = some (.int .i64 ((rd_T24 x960004_1 x9_1).f1)) := hcc33 1 _ rfl
           have hx33_2 : World.cell? _ ⟨go33, (x9_1 : Int).toNat * 7 + 2, none⟩ = some (.int .i64 ((rd_T24 x960004_1 x9_1).f2)) := hcc33 2 _ rfl
           have hx33_3 : World.cell? _ ⟨go33, (x9_1 : Int).toNat * 7 + 3, none⟩ = some (.int .i64 ((rd_T24 x960004_1 x9_1).f3)) := hcc33 3 _ rfl
           have hx33_4 : World.cell? _ ⟨go33, (x9_1 : Int).toNat * 7 + 4, none⟩ = some (.int .i64 ((rd_T24 x960004_1 x9_1).f4)) := hcc33 4 _ rfl
           have hx33_5 : World.cell? _ ⟨go33, (x9_1 : Int).toNat * 7 + 5, none⟩ = some (.int .i64 ((rd_T24 x960004_1 x9_1).f5)) := hcc33 5 _ rfl
           have hx33_6 : World.cell? _ ⟨go33, (x9_1 : Int).toNat * 7 + 6, none⟩ = some (.int .i64 ((rd_T24 x960004_1 x9_1).f6)) := hcc33 6 _ rfl
           have hf33_0 : World.frozen? _ ⟨go33, (x9_1 : Int).toNat * 7, none⟩ = false := hfr33 0
           have hf33_1 : World.frozen? _ ⟨go33, (x9_1 : Int).toNat * 7 + 1, none⟩ = false := hfr33 1
           have hf33_2 : World.frozen? _ ⟨go33, (x9_1 : Int).toNat * 7 + 2, none⟩ = false := hfr33 2
           have hf33_3 : World.frozen? _ ⟨go33, (x9_1 : Int).toNat * 7 + 3, none⟩ = false := hfr33 3
           have hf33_4 : World.frozen? _ ⟨go33, (x9_1 : Int).toNat * 7 + 4, none⟩ = false := hfr33 4
           have hf33_5 : World.frozen? _ ⟨go33, (x9_1 : Int).toNat * 7 + 5, none⟩ = false := hfr33 5
           have hf33_6 : World.frozen? _ ⟨go33, (x9_1 : Int).toNat * 7 + 6, none⟩ = false := hfr33 6
           clear hcl33 hcc33 hfr33 hM33
           replace p33 := eq_true p33
           replace q33 := eq_true q33
           have HN942_go33 := Aside0.mk (show g942 ≠ go33 from by have h_ := IsS80.own_ne HI942.out HO_960004.out (by decide); intro e_; exact h_ (by rw [e_]; rfl))
           obtain ⟨ce37, hcl37, hM37, hcc37, hfr37⟩ := Kd.R_elem HO_960004.out z24 (x9_1 : Int) (of_decide_eq_true (by first | (with_reducible assumption) | assumption)) (by have h_ : (x9_1 : Int) < ((x960004_1.length : Int) : Int) := of_decide_eq_true (by first | (with_reducible assumption) | assumption); first | exact h_ | (have e_ := (Kd.R_reads' HO_960004.out).1; omega) | simpa using h_)
           obtain rfl := k24_openM hM37
           have HP37 := (Kd.R_seg HO_960004.out (x9_1 : Int) (of_decide_eq_true (by first | (with_reducible assumption) | assumption)) (by have h_ : (x9_1 : Int) < ((x960004_1.length : Int) : Int) := of_decide_eq_true (by first | (with_reducible assumption) | assumption); first | exact h_ | (have e_ := (Kd.R_reads' HO_960004.out).1; omega) | simpa using h_) (seg := [.int .i64 ((rd_T24 x7_1 t962).f0), .int .i64 ((rd_T24 x7_1 t962).f1), .int .i64 ((rd_T24 x7_1 t962).f2), .int .i64 ((rd_T24 x7_1 t962).f3), .int .i64 ((rd_T24 x7_1 t962).f4), .int .i64 ((rd_T24 x7_1 t962).f5), .int .i64 ((rd_T24 x7_1 t962).f6)]) (j := 0) hcl37 hcc37 (show 7 ≤ 7 from by decide) (x' := (⟨(rd_T24 x7_1 t962).f0, (rd_T24 x7_1 t962).f1, (rd_T24 x7_1 t962).f2, (rd_T24 x7_1 t962).f3, (rd_T24 x7_1 t962).f4, (rd_T24 x7_1 t962).f5, (rd_T24 x7_1 t962).f6⟩ : S24)) (k24_mkM _ _ _ (⟨(rd_T24 x7_1 t962).f0, (rd_T24 x7_1 t962).f1, (rd_T24 x7_1 t962).f2, (rd_T24 x7_1 t962).f3, (rd_T24 x7_1 t962).f4, (rd_T24 x7_1 t962).f5, (rd_T24 x7_1 t962).f6⟩ : S24) ) (fun _ hk => hk)).1
           rw [← Ny965.out] at HP37
           have HQ37 := Aside0.mk HP37
           clear hcl37 hcc37 hfr37 hM37 HP37
           refine hK.out _ _ ⟨(blk_cell BK959.out 0).trans rfl, (blk_cell BK959.out 1).trans rfl, (blk_cell BK959.out 2).trans rfl, (blk_cell BK959.out 3).trans rfl, (blk_cell BK959.out 4).trans rfl, HS5_, HS6_, HS7_, HS8_, HS9_, HS10_, HS11_⟩ (fun hHeld => ?_)
           clear hK K
           refine norm_ (a' := ?_) ?_ ?_
           rotate_left
           ·show Act.put _ (some 40) _ = _
            simp only [Act.put, List.setIfInBounds_toArray, List.set_cons_zero, List.set_cons_succ, i64_w, i32_w]
            rfl
           refine pure_ (i := 8) (N := some 41) (v := ?_) (a' := ?_) #[true, true, true, true, true, true, true, true, true, false, false, false] rfl rfl (any_of HT_.out (by kernel_rfl)) (fun _ _ _ h => h) (Or.inl ⟨by rfl, ?_⟩) ?_ ?_
           rotate_left
           ·intro w'
            go_simp
            with_reducible rfl
           rotate_left
           ·simp only [Act.put, List.setIfInBounds_toArray, List.set_cons_zero, List.set_cons_succ, i64_w, i32_w]
            rfl
           refine take_ (i := 9) (N := some 42) (v := ?_) (a' := ?_) #[true, true, true, true, true, true, true, true, true, true, false, false] rfl rfl (take_ofW HT_.out HW_.out (by kernel_rfl)) (fun _ _ _ h => h) (Or.inl ⟨by rfl, ?_⟩) hHeld ?_ ?_
           rotate_left
           ·rintro w' ⟨s0, s1, s2, s3, s4, s5, s6, s7, s8, s9, s10, s11⟩
            go_simp
            with_reducible rfl
           rotate_left
           ·simp only [Act.put, List.setIfInBounds_toArray, List.set_cons_zero, List.set_cons_succ, i64_w, i32_w]
            rfl
           refine pure_ (i := 10) (N := some 43) (v := ?_) (a' := ?_) #[true, true, true, true, true, true, true, true, true, true, true, false] rfl rfl (any_of HT_.out (by kernel_rfl)) (fun _ _ _ h => h) (Or.inl ⟨by rfl, ?_⟩) ?_ ?_
           rotate_left
           ·intro w'
            go_simp
            with_reducible rfl
           rotate_left
           ·simp only [Act.put, List.setIfInBounds_toArray, List.set_cons_zero, List.set_cons_succ, i64_w, i32_w]
            rfl
           refine last_ (i := 11) (N := none) #[true, true, true, true, true, true, true, true, true, true, true, true] rfl rfl (one_of HT_.out (by kernel_rfl)) (by decide) (fun K hK => ?_)
           refine skip_ (w1 := ?_) (by rfl) rfl ?_ ?_
           rotate_left
           ·go_simp
            rfl
           refine hK.out _ _ ?_
           clear hK K
           refine done_ (done_of HT_.out (by kernel_rfl)) ?_
           try go_wp2
           go_roundg kj16
           case measure => have := HK1.out; have := HJ16.out; omega
           case rel => exact ⟨(x6_1), (x7_1), (wrap64 (x9_1 + 1)), (t963), (y965), (.slice (some ⟨go33, 0, none⟩) x960004_1.length co21), (by first | rfl | (simp; done) | (simp [*]; done)), H', ⟨by have := HK1.out; have := HJ16.out; omega⟩, ⟨by (with_reducible repeat (first | apply Kd.R_alloc | apply Kd.R_drewN | apply Kd.R_drew)); exact Kd.R_mono (Kd.R_far (p := ⟨go33, (x9_1 : Int).toNat * 7 + 6, none⟩) (Kd.R_far (p := ⟨go33, (x9_1 : Int).toNat * 7 + 5, none⟩) (Kd.R_far (p := ⟨go33, (x9_1 : Int).toNat * 7 + 4, none⟩) (Kd.R_far (p := ⟨go33, (x9_1 : Int).toNat * 7 + 3, none⟩) (Kd.R_far (p := ⟨go33, (x9_1 : Int).toNat * 7 + 2, none⟩) (Kd.R_far (p := ⟨go33, (x9_1 : Int).toNat * 7 + 1, none⟩) (Kd.R_far (p := ⟨go33, (x9_1 : Int).toNat * 7, none⟩) (Kd.R_types HO_6.out GG33.out (by decide)) (fun _ hk => hk.2) (.int .i64 ((rd_T24 x7_1 t962).f0))) (fun _ hk => hk.2) (.int .i64 ((rd_T24 x7_1 t962).f1))) (fun _ hk => hk.2) (.int .i64 ((rd_T24 x7_1 t962).f2))) (fun _ hk => hk.2) (.int .i64 ((rd_T24 x7_1 t962).f3))) (fun _ hk => hk.2) (.int .i64 ((rd_T24 x7_1 t962).f4))) (fun _ hk => hk.2) (.int .i64 ((rd_T24 x7_1 t962).f5))) (fun _ hk => hk.2) (.int .i64 ((rd_T24 x7_1 t962).f6))) (fun _ hk => trivial)⟩, ⟨by (with_reducible repeat (first | apply Kd.R_alloc | apply Kd.R_drewN | apply Kd.R_drew)); exact Kd.R_mono (Kd.R_far (p := ⟨go33, (x9_1 : Int).toNat * 7 + 6, none⟩) (Kd.R_far (p := ⟨go33, (x9_1 : Int).toNat * 7 + 5, none⟩) (Kd.R_far (p := ⟨go33, (x9_1 : Int).toNat * 7 + 4, none⟩) (Kd.R_far (p := ⟨go33, (x9_1 : Int).toNat * 7 + 3, none⟩) (Kd.R_far (p := ⟨go33, (x9_1 : Int).toNat * 7 + 2, none⟩) (Kd.R_far (p := ⟨go33, (x9_1 : Int).toNat * 7 + 1, none⟩) (Kd.R_far (p := ⟨go33, (x9_1 : Int).toNat * 7, none⟩) (Kd.R_mono HO_7.out (fun k_ hk => (⟨hk, fun e_ => hk (by rw [e_]; rfl)⟩ : _ ∧ k_ ≠ go33))) (fun _ hk => hk.2) (.int .i64 ((rd_T24 x7_1 t962).f0))) (fun _ hk => hk.2) (.int .i64 ((rd_T24 x7_1 t962).f1))) (fun _ hk => hk.2) (.int .i64 ((rd_T24 x7_1 t962).f2))) (fun _ hk => hk.2) (.int .i64 ((rd_T24 x7_1 t962).f3))) (fun _ hk => hk.2) (.int .i64 ((rd_T24 x7_1 t962).f4))) (fun _ hk => hk.2) (.int .i64 ((rd_T24 x7_1 t962).f5))) (fun _ hk => hk.2) (.int .i64 ((rd_T24 x7_1 t962).f6))) (fun _ hk => hk.1)⟩, ⟨by (with_reducible repeat (first | apply Kd.R_alloc | apply Kd.R_drewN | apply Kd.R_drew)); exact HQ37.out⟩, ⟨by (with_reducible repeat (first | refine blk_drewN ?_ _ | refine blk_drew ?_ | refine blk_alloc ?_ _)); refine blk_far ?_ z62x14 _; (with_reducible repeat (first | refine blk_drewN ?_ _ | refine blk_drew ?_ | refine blk_alloc ?_ _)); refine blk_far ?_ z62x14 _; (with_reducible repeat (first | refine blk_drewN ?_ _ | refine blk_drew ?_ | refine blk_alloc ?_ _)); refine blk_far ?_ z62x14 _; (with_reducible repeat (first | refine blk_drewN ?_ _ | refine blk_drew ?_ | refine blk_alloc ?_ _)); refine blk_far ?_ z62x14 _; (with_reducible repeat (first | refine blk_drewN ?_ _ | refine blk_drew ?_ | refine blk_alloc ?_ _)); refine blk_far ?_ z62x14 _; (with_reducible repeat (first | refine blk_drewN ?_ _ | refine blk_drew ?_ | refine blk_alloc ?_ _)); refine blk_far ?_ z62x14 _; (with_reducible repeat (first | refine blk_drewN ?_ _ | refine blk_drew ?_ | refine blk_alloc ?_ _)); refine blk_far ?_ z62x14 _; (with_reducible repeat (first | refine blk_drewN ?_ _ | refine blk_drew ?_ | refine blk_alloc ?_ _)); exact BK939.out⟩, ⟨by (with_reducible repeat (first | refine blk_drewN ?_ _ | refine blk_drew ?_ | refine blk_alloc ?_ _)); refine blk_far ?_ z62x15 _; (with_reducible repeat (first | refine blk_drewN ?_ _ | refine blk_drew ?_ | refine blk_alloc ?_ _)); refine blk_far ?_ z62x15 _; (with_reducible repeat (first | refine blk_drewN ?_ _ | refine blk_drew ?_ | refine blk_alloc ?_ _)); refine blk_far ?_ z62x15 _; (with_reducible repeat (first | refine blk_drewN ?_ _ | refine blk_drew ?_ | refine blk_alloc ?_ _)); refine blk_far ?_ z62x15 _; (with_reducible repeat (first | refine blk_drewN ?_ _ | refine blk_drew ?_ | refine blk_alloc ?_ _)); refine blk_far ?_ z62x15 _; (with_reducible repeat (first | refine blk_drewN ?_ _ | refine blk_drew ?_ | refine blk_alloc ?_ _)); refine blk_far ?_ z62x15 _; (with_reducible repeat (first | refine blk_drewN ?_ _ | refine blk_drew ?_ | refine blk_alloc ?_ _)); refine blk_far ?_ z62x15 _; (with_reducible repeat (first | refine blk_drewN ?_ _ | refine blk_drew ?_ | refine blk_alloc ?_ _)); exact BK959.out⟩, ⟨by repeat (first | (with_reducible first | exact HI942.out | apply IsS80.alloc | apply IsS80.drewN | apply IsS80.drew | apply IsS80.set_1 | refine IsS80.far ?_ HN942_go33.out _ | refine IsS80.far ?_ HN942_go33.out _ | refine IsS80.far ?_ HN942_go33.out _ | refine IsS80.far ?_ HN942_go33.out _ | refine IsS80.far ?_ HN942_go33.out _ | refine IsS80.far ?_ HN942_go33.out _ | refine IsS80.far ?_ HN942_go33.out _ | refine IsS80.far ?_ NB942_939.out _ | refine IsS80.far ?_ NB942_959.out _) | exact HI942.out)⟩, ⟨by repeat (first | (with_reducible first | exact HB.out | apply below_alloc | apply pw_below_drewN | apply below_drew1 | refine below_set ?_ GB33.out | refine below_set ?_ GB33.out | refine below_set ?_ GB33.out | refine below_set ?_ GB33.out | refine below_set ?_ GB33.out | refine below_set ?_ GB33.out | refine below_set ?_ GB33.out | refine below_set ?_ (IsS80.ge HI942.out) | refine below_set ?_ GE939.out | refine below_set ?_ GE959.out) | exact HB.out)⟩⟩
          ·rw [if_neg c32] at H
           exact absurd H (by simp)
         ·rw [if_neg c31] at H
          exact absurd H (by simp)
        ·rw [if_neg c30] at H
         exact absurd H (by simp)
       ·rw [if_neg c29] at H
        exact absurd H (by simp)
      ·replace c27 := Bool.eq_false_iff.mpr c27
       subst c27
       rw [if_neg (show ¬ (false = true) by decide)] at H
       replace H := Option.bind_eq_some_iff.mp H
       obtain ⟨⟨t966, t967⟩, A380, H⟩ := H
       replace H : (if t966 = 0 then (if 0 ≤ x9_1 then (if x9_1 < (x960004_1.length : Int) then ((spec_l1Holds.f ((rd_T24 x960004_1 x9_1).f0) ((rd_T24 x960004_1 x9_1).f1) ((rd_T24 x960004_1 x9_1).f2) ((rd_T24 x960004_1 x9_1).f3) ((rd_T24 x960004_1 x9_1).f4) ((rd_T24 x960004_1 x9_1).f5) ((rd_T24 x960004_1 x9_1).f6)).bind fun t970 => ((some (([(rd_T24 x960004_1 x9_1).f0, mx t970 1] : List Int) : List Int)).bind fun y971 => (if x6_1.length + y971.length < 17592186044416 then (spec_DrawKnowBuild.l0 kj16 (x6_1 ++ y971) x7_1 (wrap64 (x9_1 + 1)) t940 t967 t951 t952 t953 t954 x960004_1) else (none)))) else (none)) else (none)) else (spec_DrawKnowBuild.l0 kj16 x6_1 x7_1 (wrap64 (x9_1 + 1)) t940 t967 t951 t952 t953 t954 x960004_1)) = some (r1, r2, r3, r4, r5, r6, r7) := H
       have A38 := Aside0.mk A380
       clear A380
       by_cases c39 : t966 = 0
       ·rw [if_pos c39] at H
        have c39b0 : (t966 == 0) = true := beq_iff_eq.mpr c39
        have c39b1 : (t966 != 0) = false := bne_eq_false_iff_eq.mpr c39
        clear c39
        by_cases c40 : 0 ≤ x9_1
        ·rw [if_pos c40] at H
         have c40b0 : decide (0 ≤ x9_1) = true := decide_eq_true c40
         clear c40
         by_cases c41 : x9_1 < (x960004_1.length : Int)
         ·rw [if_pos c41] at H
          have c41b0 : decide (x9_1 < (x960004_1.length : Int)) = true := decide_eq_true c41
          clear c41
          replace H := Option.bind_eq_some_iff.mp H
          obtain ⟨t970, A420, H⟩ := H
          replace H : ((some (([(rd_T24 x960004_1 x9_1).f0, mx t970 1] : List Int) : List Int)).bind fun y971 => (if x6_1.length + y971.length < 17592186044416 then (spec_DrawKnowBuild.l0 kj16 (x6_1 ++ y971) x7_1 (wrap64 (x9_1 + 1)) t940 t967 t951 t952 t953 t954 x960004_1) else (none))) = some (r1, r2, r3, r4, r5, r6, r7) := H
          have A42 := Aside0.mk A420
          clear A420
          obtain ⟨ji43, hji43⟩ : ∃ j_ : Int, (mx t970 1) = j_ := ⟨_, rfl⟩
          replace H : ((some (([(rd_T24 x960004_1 x9_1).f0, ji43] : List Int) : List Int)).bind fun y971 => (if x6_1.length + y971.length < 17592186044416 then (spec_DrawKnowBuild.l0 kj16 (x6_1 ++ y971) x7_1 (wrap64 (x9_1 + 1)) t940 t967 t951 t952 t953 t954 x960004_1) else (none))) = some (r1, r2, r3, r4, r5, r6, r7) := by first | (rw [hji43] at H; exact H) | (simp only [hji43] at H ⊢; exact H)
          (try rw [hji43] at A38)
          (try rw [hji43] at A42)
          (try (have hji43l : 1 ≤ ji43 := by (rw [← hji43]; unfold mx; (repeat' split) <;> omega)))
          (try (have hji43m : 0 ≤ ji43 := by omega))
          have hji43_ : (if t970 < 1 then 1 else t970) = ji43 := hji43
          obtain ⟨y971, hy971⟩ : ∃ y_ : List Int, y_ = (([(rd_T24 x960004_1 x9_1).f0, ji43] : List Int)) := ⟨_, rfl⟩
          replace H : (if x6_1.length + y971.length < 17592186044416 then (spec_DrawKnowBuild.l0 kj16 (x6_1 ++ y971) x7_1 (wrap64 (x9_1 + 1)) t940 t967 t951 t952 t953 t954 x960004_1) else (none)) = some (r1, r2, r3, r4, r5, r6, r7) := by first | (rw [hy971]; with_reducible exact H) | (have H2_ := (Option.bind_some _ _).symm.trans H; rw [hy971]; with_reducible exact H2_) | (have H2_ := (Option.bind_some _ _).symm.trans H; with_reducible exact H2_) | with_reducible exact H | (rw [hy971]; exact H) | exact H
          have Ny971 := Aside0.mk hy971
          clear hy971
          by_cases c44 : x6_1.length + y971.length < 17592186044416
          ·rw [if_pos c44] at H
           have LMc44 := Aside0.mk c44
           clear c44
           obtain ⟨y974, hy974⟩ : ∃ y_ : List Int, y_ = (x6_1 ++ y971) := ⟨_, rfl⟩
           replace H : (spec_DrawKnowBuild.l0 kj16 y974 x7_1 (wrap64 (x9_1 + 1)) t940 t967 t951 t952 t953 t954 x960004_1) = some (r1, r2, r3, r4, r5, r6, r7) := by first | (rw [hy974]; with_reducible exact H) | (have H2_ := (Option.bind_some _ _).symm.trans H; rw [hy974]; with_reducible exact H2_) | (have H2_ := (Option.bind_some _ _).symm.trans H; with_reducible exact H2_) | with_reducible exact H | (rw [hy974]; exact H) | exact H
           have Ny974 := Aside0.mk hy974
           clear hy974
           have H' := Aside0.mk H
           clear H
           try go_wp2_with (first | ((with_reducible refine gate_callee (f := 57) rfl ?_); refine goesL_ (some 45) rfl rfl Try.func57 (by kernel_rfl) rfl #[.pointer (some ⟨g942, 0, none⟩), .int .i64 2] rfl z62x5 ?_; (with_reducible refine (spec_l6Rd_pick.calls kj16 g942 t940 x943001_16 2 t966 t967 w _ ?side1 ?side2 A38.out).mono ?_); (case side1 => repeat (first | (with_reducible first | exact HI942.out | apply IsS80.alloc | apply IsS80.drewN | apply IsS80.drew | apply IsS80.set_1 | refine IsS80.far ?_ NB942_939.out _ | refine IsS80.far ?_ NB942_959.out _) | exact HI942.out)); (case side2 => repeat (first | (with_reducible first | exact HB.out | apply below_alloc | apply pw_below_drewN | apply below_drew1 | refine below_set ?_ (IsS80.ge HI942.out) | refine below_set ?_ GE939.out | refine below_set ?_ GE959.out) | exact HB.out)); rintro e w45 ⟨rfl, hi, hb, hk⟩; refine ⟨_, rfl, ?_⟩; have n0_ := Aside0.mk (Kd.R_mono (Kd.R_keep (IsS80.apart (show IsS80 w _ g942 t940 x943001_16 from by repeat (first | (with_reducible first | exact HI942.out | apply IsS80.alloc | apply IsS80.drewN | apply IsS80.drew | apply IsS80.set_1 | refine IsS80.far ?_ NB942_939.out _ | refine IsS80.far ?_ NB942_959.out _) | exact HI942.out)) z62x12 (by decide)) hk (fun _ h => h.2)) (fun _ h => h.1)); have n1_ := Aside0.mk (Kd.R_mono (Kd.R_keep (IsS80.apart (show IsS80 w _ g942 t940 x943001_16 from by repeat (first | (with_reducible first | exact HI942.out | apply IsS80.alloc | apply IsS80.drewN | apply IsS80.drew | apply IsS80.set_1 | refine IsS80.far ?_ NB942_939.out _ | refine IsS80.far ?_ NB942_959.out _) | exact HI942.out)) z62x13 (by decide)) hk (fun _ h => h.2)) (fun _ h => h.1)); have n2_ := Aside0.mk (Kd.R_mono (Kd.R_keep (IsS80.apart (show IsS80 w _ g942 t940 x943001_16 from by repeat (first | (with_reducible first | exact HI942.out | apply IsS80.alloc | apply IsS80.drewN | apply IsS80.drew | apply IsS80.set_1 | refine IsS80.far ?_ NB942_939.out _ | refine IsS80.far ?_ NB942_959.out _) | exact HI942.out)) z62x9 (by decide)) hk (fun _ h => h.2)) (fun _ h => h.1)); have n3_ := Aside0.mk (KeepBut.blk hk (g' := gb939) (o := .cells #[.int .i64 0, .int .i64 0, .int .i64 0, .int .i64 0, .slice none 0 0] 36 (0, 0)) z62x7 NB939_942.out (by simp)); have n4_ := Aside0.mk (KeepBut.blk hk (g' := gb959) (o := .cells #[.int .i64 t951, .int .i64 t952, .int .i64 t953, .int .i64 t954, .slice Ao21 x960004_1.length co21] 36 (0, 0)) z62x8 NB959_942.out (by simp)); have n5_ := Aside0.mk (hb); have n6_ := Aside0.mk (hi); clear HO_6; clear HO_7; clear HO_960004; clear BK939; clear BK959; clear HB; clear HI942; have HO_6 := n0_; have HO_7 := n1_; have HO_960004 := n2_; have BK939 := n3_; have BK959 := n4_; have HB := n5_; have HI942 := n6_; clear n0_ n1_ n2_ n3_ n4_ n5_ n6_; (try clear hb); (try clear hb2); (try clear hk); (try clear hi)))
           have n0_ := Aside0.mk (Kd.R_drew HO_6.out)
           have n1_ := Aside0.mk (Kd.R_drew HO_7.out)
           have n2_ := Aside0.mk (Kd.R_drew HO_960004.out)
           have n3_ := Aside0.mk (blk_drew BK939.out)
           have n4_ := Aside0.mk (blk_drew BK959.out)
           have n5_ := Aside0.mk (IsS80.drew HI942.out)
           have n6_ := Aside0.mk (below_drew1 HB.out)
           clear HO_6
           clear HO_7
           clear HO_960004
           clear BK939
           clear BK959
           clear HI942
           clear HB
           have HO_6 := n0_
           have HO_7 := n1_
           have HO_960004 := n2_
           have BK939 := n3_
           have BK959 := n4_
           have HI942 := n5_
           have HB := n6_
           clear n0_ n1_ n2_ n3_ n4_ n5_ n6_
           have p968 : 0 ≤ (x9_1 : Int) := of_decide_eq_true (by first | (with_reducible assumption) | assumption)
           have q968 : x9_1 < (x960004_1.length : Int) := of_decide_eq_true (by first | (with_reducible assumption) | assumption)
           obtain ⟨ad968, e968, hx968_0, hx968_1, hx968_2, hx968_3, hx968_4, hx968_5, hx968_6⟩ := at_T24 (Kd.R_reads' HO_960004.out).2.2 x9_1 p968 q968
           cases e968
           replace p968 := eq_true p968
           replace q968 := eq_true q968
           have p969 : 0 ≤ (x9_1 : Int) := of_decide_eq_true (by first | (with_reducible assumption) | assumption)
           have q969 : x9_1 < (x960004_1.length : Int) := of_decide_eq_true (by first | (with_reducible assumption) | assumption)
           obtain ⟨ad969, e969, hx969_0, hx969_1, hx969_2, hx969_3, hx969_4, hx969_5, hx969_6⟩ := at_T24 (Kd.R_reads' HO_960004.out).2.2 x9_1 p969 q969
           obtain rfl : ad968 = ad969 := (by injection e969)
           replace p969 := eq_true p969
           replace q969 := eq_true q969
           refine start_ (n := 17) (S := fun w' => w'.cell? ⟨gb959, 0, none⟩ = some (.int .i64 t951) ∧ w'.cell? ⟨gb959, 1, none⟩ = some (.int .i64 t952) ∧ w'.cell? ⟨gb959, 2, none⟩ = some (.int .i64 t953) ∧ w'.cell? ⟨gb959, 3, none⟩ = some (.int .i64 t954) ∧ w'.cell? ⟨gb959, 4, none⟩ = some (.slice (some ad968) x960004_1.length co21) ∧ w'.cell? (ad968.add ((x9_1).toNat * 7)) = some (.int .i64 ((rd_T24 x960004_1 x9_1).f0)) ∧ w'.cell? ⟨(ad968.add ((x9_1).toNat * 7)).block, (ad968.add ((x9_1).toNat * 7)).off + 1, none⟩ = some (.int .i64 ((rd_T24 x960004_1 x9_1).f1)) ∧ w'.cell? ⟨(ad968.add ((x9_1).toNat * 7)).block, (ad968.add ((x9_1).toNat * 7)).off + 2, none⟩ = some (.int .i64 ((rd_T24 x960004_1 x9_1).f2)) ∧ w'.cell? ⟨(ad968.add ((x9_1).toNat * 7)).block, (ad968.add ((x9_1).toNat * 7)).off + 3, none⟩ = some (.int .i64 ((rd_T24 x960004_1 x9_1).f3)) ∧ w'.cell? ⟨(ad968.add ((x9_1).toNat * 7)).block, (ad968.add ((x9_1).toNat * 7)).off + 4, none⟩ = some (.int .i64 ((rd_T24 x960004_1 x9_1).f4)) ∧ w'.cell? ⟨(ad968.add ((x9_1).toNat * 7)).block, (ad968.add ((x9_1).toNat * 7)).off + 5, none⟩ = some (.int .i64 ((rd_T24 x960004_1 x9_1).f5)) ∧ w'.cell? ⟨(ad968.add ((x9_1).toNat * 7)).block, (ad968.add ((x9_1).toNat * 7)).off + 6, none⟩ = some (.int .i64 ((rd_T24 x960004_1 x9_1).f6)) ∧ w'.cell? (ad968.add ((x9_1).toNat * 7)) = some (.int .i64 ((rd_T24 x960004_1 x9_1).f0)) ∧ w'.cell? ⟨(ad968.add ((x9_1).toNat * 7)).block, (ad968.add ((x9_1).toNat * 7)).off + 1, none⟩ = some (.int .i64 ((rd_T24 x960004_1 x9_1).f1)) ∧ w'.cell? ⟨(ad968.add ((x9_1).toNat * 7)).block, (ad968.add ((x9_1).toNat * 7)).off + 2, none⟩ = some (.int .i64 ((rd_T24 x960004_1 x9_1).f2)) ∧ w'.cell? ⟨(ad968.add ((x9_1).toNat * 7)).block, (ad968.add ((x9_1).toNat * 7)).off + 3, none⟩ = some (.int .i64 ((rd_T24 x960004_1 x9_1).f3)) ∧ w'.cell? ⟨(ad968.add ((x9_1).toNat * 7)).block, (ad968.add ((x9_1).toNat * 7)).off + 4, none⟩ = some (.int .i64 ((rd_T24 x960004_1 x9_1).f4)) ∧ w'.cell? ⟨(ad968.add ((x9_1).toNat * 7)).block, (ad968.add ((x9_1).toNat * 7)).off + 5, none⟩ = some (.int .i64 ((rd_T24 x960004_1 x9_1).f5)) ∧ w'.cell? ⟨(ad968.add ((x9_1).toNat * 7)).block, (ad968.add ((x9_1).toNat * 7)).off + 6, none⟩ = some (.int .i64 ((rd_T24 x960004_1 x9_1).f6))) (ds := [15]) #[false, false, false, false, false, false, false, false, false, false, false, false, false, false, false, false, false] (by kernel_rfl) rfl rfl ⟨(blk_cell BK959.out 0).trans rfl, (blk_cell BK959.out 1).trans rfl, (blk_cell BK959.out 2).trans rfl, (blk_cell BK959.out 3).trans rfl, (blk_cell BK959.out 4).trans rfl, hx968_0, hx968_1, hx968_2, hx968_3, hx968_4, hx968_5, hx968_6, hx969_0, hx969_1, hx969_2, hx969_3, hx969_4, hx969_5, hx969_6⟩ (fun hHeld => ?_); refine with_tabW spec_DrawKnowBuild.tab11 spec_DrawKnowBuild.bits11 (fun HT_ HW_ => ?_)
           generalize w45.drew = w46 at HO_6 HO_7 HO_960004 BK939 BK959 HI942 HB hx968_0 hx968_1 hx968_2 hx968_3 hx968_4 hx968_5 hx968_6 hx969_0 hx969_1 hx969_2 hx969_3 hx969_4 hx969_5 hx969_6 hHeld ⊢
           refine pure_ (i := 0) (N := some 47) (v := ?_) (a' := ?_) #[true, false, false, false, false, false, false, false, false, false, false, false, false, false, false, false, false] rfl rfl (any_of HT_.out (by kernel_rfl)) (fun _ _ _ h => h) (Or.inl ⟨by rfl, ?_⟩) ?_ ?_
           rotate_left
           ·intro w'
            go_simp
            with_reducible rfl
           rotate_left
           ·simp only [Act.put, List.setIfInBounds_toArray, List.set_cons_zero, List.set_cons_succ, i64_w, i32_w]
            rfl
           refine pure_ (i := 1) (N := some 48) (v := ?_) (a' := ?_) #[true, true, false, false, false, false, false, false, false, false, false, false, false, false, false, false, false] rfl rfl (any_of HT_.out (by kernel_rfl)) (fun _ _ _ h => h) (Or.inl ⟨by rfl, ?_⟩) ?_ ?_
           rotate_left
           ·intro w'
            go_simp
            with_reducible rfl
           rotate_left
           ·simp only [Act.put, List.setIfInBounds_toArray, List.set_cons_zero, List.set_cons_succ, i64_w, i32_w]
            rfl
           refine pure_ (i := 3) (N := some 50) (v := ?_) (a' := ?_) #[true, true, false, true, false, false, false, false, false, false, false, false, false, false, false, false, false] rfl rfl (any_of HT_.out (by kernel_rfl)) (fun _ _ _ h => h) (Or.inl ⟨by rfl, ?_⟩) ?_ ?_
           rotate_left
           ·intro w'
            go_simp
            with_reducible rfl
           rotate_left
           ·simp only [Act.put, List.setIfInBounds_toArray, List.set_cons_zero, List.set_cons_succ, i64_w, i32_w]
            rfl
           refine pure_ (i := 7) (N := some 54) (v := ?_) (a' := ?_) #[true, true, false, true, false, false, false, true, false, false, false, false, false, false, false, false, false] rfl rfl (any_of HT_.out (by kernel_rfl)) (fun _ _ _ h => h) (Or.inl ⟨by rfl, ?_⟩) ?_ ?_
           rotate_left
           ·intro w'
            go_simp
            with_reducible rfl
           rotate_left
           ·simp only [Act.put, List.setIfInBounds_toArray, List.set_cons_zero, List.set_cons_succ, i64_w, i32_w]
            rfl
           refine pure_ (i := 9) (N := some 56) (v := ?_) (a' := ?_) #[true, true, false, true, false, false, false, true, false, true, false, false, false, false, false, false, false] rfl rfl (any_of HT_.out (by kernel_rfl)) (fun _ _ _ h => h) (Or.inl ⟨by rfl, ?_⟩) ?_ ?_
           rotate_left
           ·intro w'
            go_simp
            with_reducible rfl
           rotate_left
           ·simp only [Act.put, List.setIfInBounds_toArray, List.set_cons_zero, List.set_cons_succ, i64_w, i32_w]
            rfl
           refine take_ (i := 2) (N := some 49) (v := ?_) (a' := ?_) #[true, true, true, true, false, false, false, true, false, true, false, false, false, false, false, false, false] rfl rfl (take_ofW HT_.out HW_.out (by kernel_rfl)) (fun _ _ _ h => h) (Or.inl ⟨by rfl, ?_⟩) hHeld ?_ ?_
           rotate_left
           ·rintro w' ⟨s0, s1, s2, s3, s4, s5, s6, s7, s8, s9, s10, s11, s12, s13, s14, s15, s16, s17, s18⟩
            go_simp
            with_reducible rfl
           rotate_left
           ·simp only [Act.put, List.setIfInBounds_toArray, List.set_cons_zero, List.set_cons_succ, i64_w, i32_w]
            rfl
           refine pure_ (i := 4) (N := some 51) (v := ?_) (a' := ?_) #[true, true, true, true, true, false, false, true, false, true, false, false, false, false, false, false, false] rfl rfl (any_of HT_.out (by kernel_rfl)) (fun _ _ _ h => h) (Or.inl ⟨by rfl, ?_⟩) ?_ ?_
           rotate_left
           ·intro w'
            go_simp
            with_reducible rfl
           rotate_left
           ·simp only [Act.put, List.setIfInBounds_toArray, List.set_cons_zero, List.set_cons_succ, i64_w, i32_w]
            rfl
           refine pure_ (i := 5) (N := some 52) (v := ?_) (a' := ?_) #[true, true, true, true, true, true, false, true, false, true, false, false, false, false, false, false, false] rfl rfl (any_of HT_.out (by kernel_rfl)) (fun _ _ _ h => h) (Or.inl ⟨by rfl, ?_⟩) ?_ ?_
           rotate_left
           ·intro w'
            go_simp
            with_reducible rfl
           rotate_left
           ·simp only [Act.put, List.setIfInBounds_toArray, List.set_cons_zero, List.set_cons_succ, i64_w, i32_w]
            rfl
           refine take_ (i := 6) (N := some 53) (v := ?_) (a' := ?_) #[true, true, true, true, true, true, true, true, false, true, false, false, false, false, false, false, false] rfl rfl (take_ofW HT_.out HW_.out (by kernel_rfl)) (fun _ _ _ h => h) (Or.inl ⟨by rfl, ?_⟩) hHeld ?_ ?_
           rotate_left
           ·rintro w' ⟨s0, s1, s2, s3, s4, s5, s6, s7, s8, s9, s10, s11, s12, s13, s14, s15, s16, s17, s18⟩
            go_simp
            with_reducible rfl
           rotate_left
           ·simp only [Act.put, List.setIfInBounds_toArray, List.set_cons_zero, List.set_cons_succ, i64_w, i32_w]
            rfl
           refine take_ (i := 8) (N := some 55) (v := ?_) (a' := ?_) #[true, true, true, true, true, true, true, true, true, true, false, false, false, false, false, false, false] rfl rfl (take_ofW HT_.out HW_.out (by kernel_rfl)) (fun _ _ _ h => h) (Or.inl ⟨by rfl, ?_⟩) hHeld ?_ ?_
           rotate_left
           ·rintro w' ⟨s0, s1, s2, s3, s4, s5, s6, s7, s8, s9, s10, s11, s12, s13, s14, s15, s16, s17, s18⟩
            go_simp
            with_reducible rfl
           rotate_left
           ·simp only [Act.put, List.setIfInBounds_toArray, List.set_cons_zero, List.set_cons_succ, i64_w, i32_w]
            rfl
           refine pure_ (i := 10) (N := some 57) (v := ?_) (a' := ?_) #[true, true, true, true, true, true, true, true, true, true, true, false, false, false, false, false, false] rfl rfl (any_of HT_.out (by kernel_rfl)) (fun _ _ _ h => h) (Or.inl ⟨by rfl, ?_⟩) ?_ ?_
           rotate_left
           ·intro w'
            go_simp
            with_reducible rfl
           rotate_left
           ·simp only [Act.put, List.setIfInBounds_toArray, List.set_cons_zero, List.set_cons_succ, i64_w, i32_w]
            rfl
           refine take_ (i := 11) (N := some 58) (v := ?_) (a' := ?_) #[true, true, true, true, true, true, true, true, true, true, true, true, false, false, false, false, false] rfl rfl (take_ofW HT_.out HW_.out (by kernel_rfl)) (fun _ _ _ h => h) (Or.inl ⟨by rfl, ?_⟩) hHeld ?_ ?_
           rotate_left
           ·rintro w' ⟨s0, s1, s2, s3, s4, s5, s6, s7, s8, s9, s10, s11, s12, s13, s14, s15, s16, s17, s18⟩
            go_simp
            with_reducible rfl
           rotate_left
           ·simp only [Act.put, List.setIfInBounds_toArray, List.set_cons_zero, List.set_cons_succ, i64_w, i32_w]
            rfl
           refine one_ (i := 12) (N := some 59) #[true, true, true, true, true, true, true, true, true, true, true, true, true, false, false, false, false] rfl rfl (one_of HT_.out (by kernel_rfl)) (by decide) (fun K hK => ?_)
           refine goes_ Try.func59 (by kernel_rfl) rfl #[.agg #[.int .i64 ((rd_T24 x960004_1 x9_1).f0), .int .i64 ((rd_T24 x960004_1 x9_1).f1), .int .i64 ((rd_T24 x960004_1 x9_1).f2), .int .i64 ((rd_T24 x960004_1 x9_1).f3), .int .i64 ((rd_T24 x960004_1 x9_1).f4), .int .i64 ((rd_T24 x960004_1 x9_1).f5), .int .i64 ((rd_T24 x960004_1 x9_1).f6)]] (by rfl) rfl rfl z62x5 ?_
           with_reducible refine (spec_l1Holds.calls ((rd_T24 x960004_1 x9_1).f0) ((rd_T24 x960004_1 x9_1).f1) ((rd_T24 x960004_1 x9_1).f2) ((rd_T24 x960004_1 x9_1).f3) ((rd_T24 x960004_1 x9_1).f4) ((rd_T24 x960004_1 x9_1).f5) ((rd_T24 x960004_1 x9_1).f6) t970 _ A42.out).mono ?_
           rintro e w47 ⟨rfl, hb⟩
           have HS5_ := (hb.cell (World.block_lt_of_cell? _ _ (hHeld.2.2.2.2.2.1))).trans (hHeld.2.2.2.2.2.1)
           have HS6_ := (hb.cell (World.block_lt_of_cell? _ _ (hHeld.2.2.2.2.2.2.1))).trans (hHeld.2.2.2.2.2.2.1)
           have HS7_ := (hb.cell (World.block_lt_of_cell? _ _ (hHeld.2.2.2.2.2.2.2.1))).trans (hHeld.2.2.2.2.2.2.2.1)
           have HS8_ := (hb.cell (World.block_lt_of_cell? _ _ (hHeld.2.2.2.2.2.2.2.2.1))).trans (hHeld.2.2.2.2.2.2.2.2.1)
           have HS9_ := (hb.cell (World.block_lt_of_cell? _ _ (hHeld.2.2.2.2.2.2.2.2.2.1))).trans (hHeld.2.2.2.2.2.2.2.2.2.1)
           have HS10_ := (hb.cell (World.block_lt_of_cell? _ _ (hHeld.2.2.2.2.2.2.2.2.2.2.1))).trans (hHeld.2.2.2.2.2.2.2.2.2.2.1)
           have HS11_ := (hb.cell (World.block_lt_of_cell? _ _ (hHeld.2.2.2.2.2.2.2.2.2.2.2.1))).trans (hHeld.2.2.2.2.2.2.2.2.2.2.2.1)
           have HS12_ := (hb.cell (World.block_lt_of_cell? _ _ (hHeld.2.2.2.2.2.2.2.2.2.2.2.2.1))).trans (hHeld.2.2.2.2.2.2.2.2.2.2.2.2.1)
           have HS13_ := (hb.cell (World.block_lt_of_cell? _ _ (hHeld.2.2.2.2.2.2.2.2.2.2.2.2.2.1))).trans (hHeld.2.2.2.2.2.2.2.2.2.2.2.2.2.1)
           have HS14_ := (hb.cell (World.block_lt_of_cell? _ _ (hHeld.2.2.2.2.2.2.2.2.2.2.2.2.2.2.1))).trans (hHeld.2.2.2.2.2.2.2.2.2.2.2.2.2.2.1)
           have HS15_ := (hb.cell (World.block_lt_of_cell? _ _ (hHeld.2.2.2.2.2.2.2.2.2.2.2.2.2.2.2.1))).trans (hHeld.2.2.2.2.2.2.2.2.2.2.2.2.2.2.2.1)
           have HS16_ := (hb.cell (World.block_lt_of_cell? _ _ (hHeld.2.2.2.2.2.2.2.2.2.2.2.2.2.2.2.2.1))).trans (hHeld.2.2.2.2.2.2.2.2.2.2.2.2.2.2.2.2.1)
           have HS17_ := (hb.cell (World.block_lt_of_cell? _ _ (hHeld.2.2.2.2.2.2.2.2.2.2.2.2.2.2.2.2.2.1))).trans (hHeld.2.2.2.2.2.2.2.2.2.2.2.2.2.2.2.2.2.1)
           have HS18_ := (hb.cell (World.block_lt_of_cell? _ _ (hHeld.2.2.2.2.2.2.2.2.2.2.2.2.2.2.2.2.2.2))).trans (hHeld.2.2.2.2.2.2.2.2.2.2.2.2.2.2.2.2.2.2)
           refine ⟨_, rfl, ?_⟩
           have n0_ := Aside0.mk (Kd.R_below z62x12 hb)
           have n1_ := Aside0.mk (Kd.R_below z62x13 hb)
           have n2_ := Aside0.mk (Kd.R_below z62x9 hb)
           have n3_ := Aside0.mk (blk_below (g := gb939) (o := .cells #[.int .i64 0, .int .i64 0, .int .i64 0, .int .i64 0, .slice none 0 0] 36 (0, 0)) z62x7 hb)
           have n4_ := Aside0.mk (blk_below (g := gb959) (o := .cells #[.int .i64 t951, .int .i64 t952, .int .i64 t953, .int .i64 t954, .slice (some ad968) x960004_1.length co21] 36 (0, 0)) z62x8 hb)
           have n5_ := Aside0.mk (IsS80.below z62x3 hb)
           have n6_ := Aside0.mk (below_step z62x1 hb)
           clear HO_6
           clear HO_7
           clear HO_960004
           clear BK939
           clear BK959
           clear HI942
           clear HB
           have HO_6 := n0_
           have HO_7 := n1_
           have HO_960004 := n2_
           have BK939 := n3_
           have BK959 := n4_
           have HI942 := n5_
           have HB := n6_
           clear n0_ n1_ n2_ n3_ n4_ n5_ n6_
           (try clear hb)
           (try clear hb2)
           (try clear hk)
           (try clear hi)
           refine hK.out _ _ ⟨(blk_cell BK959.out 0).trans rfl, (blk_cell BK959.out 1).trans rfl, (blk_cell BK959.out 2).trans rfl, (blk_cell BK959.out 3).trans rfl, (blk_cell BK959.out 4).trans rfl, HS5_, HS6_, HS7_, HS8_, HS9_, HS10_, HS11_, HS12_, HS13_, HS14_, HS15_, HS16_, HS17_, HS18_⟩ (fun hHeld => ?_)
           clear hK K
           refine norm_ (a' := ?_) ?_ ?_
           rotate_left
           ·show Act.put _ (some 59) _ = _
            simp only [Act.put, List.setIfInBounds_toArray, List.set_cons_zero, List.set_cons_succ, i64_w, i32_w]
            rfl
           refine pure_ (i := 13) (N := some 60) (v := ?_) (a' := ?_) #[true, true, true, true, true, true, true, true, true, true, true, true, true, true, false, false, false] rfl rfl (any_of HT_.out (by kernel_rfl)) (fun _ _ _ h => h) (Or.inl ⟨by rfl, ?_⟩) ?_ ?_
           rotate_left
           ·intro w'
            go_simp
            with_reducible rfl
           rotate_left
           ·simp only [Act.put, List.setIfInBounds_toArray, List.set_cons_zero, List.set_cons_succ, i64_w, i32_w]
            rfl
           refine one_ (i := 14) (N := some 61) #[true, true, true, true, true, true, true, true, true, true, true, true, true, true, true, false, false] rfl rfl (one_of HT_.out (by kernel_rfl)) (by decide) (fun K hK => ?_)
           refine Kd.R_lit_step (Kd.int .i64) _ 3 ?hg (N := 61) ?hd (xs := ([(rd_T24 x960004_1 x9_1).f0, ji43] : List Int)) (inner := [.int .i64 ((rd_T24 x960004_1 x9_1).f0), .int .i64 ji43]) (ok := fun _ => True) (okp := fun _ => True) ?hr ?hp (fun _ hk => hk) trivial (Below.refl _ _) (Nat.le_refl _) (by simp) ?_; (case hd => rfl); (case hg => rfl); (case hr => first | (go_simp; done) | (go_simp; rfl)); (case hp => exact (Reps.one (show Kd.M (Kd.int .i64) _ _ _ ((rd_T24 x960004_1 x9_1).f0) [.int .i64 ((rd_T24 x960004_1 x9_1).f0)] from rfl) (Reps.one (show Kd.M (Kd.int .i64) _ _ _ ji43 [.int .i64 ji43] from rfl) (Reps.none _ _))))
           intro v972 w48 ho49 hb hg_ hnew_
           have HS5_ := (hb.cell (World.block_lt_of_cell? _ _ (hHeld.2.2.2.2.2.1))).trans (hHeld.2.2.2.2.2.1)
           have HS6_ := (hb.cell (World.block_lt_of_cell? _ _ (hHeld.2.2.2.2.2.2.1))).trans (hHeld.2.2.2.2.2.2.1)
           have HS7_ := (hb.cell (World.block_lt_of_cell? _ _ (hHeld.2.2.2.2.2.2.2.1))).trans (hHeld.2.2.2.2.2.2.2.1)
           have HS8_ := (hb.cell (World.block_lt_of_cell? _ _ (hHeld.2.2.2.2.2.2.2.2.1))).trans (hHeld.2.2.2.2.2.2.2.2.1)
           have HS9_ := (hb.cell (World.block_lt_of_cell? _ _ (hHeld.2.2.2.2.2.2.2.2.2.1))).trans (hHeld.2.2.2.2.2.2.2.2.2.1)
           have HS10_ := (hb.cell (World.block_lt_of_cell? _ _ (hHeld.2.2.2.2.2.2.2.2.2.2.1))).trans (hHeld.2.2.2.2.2.2.2.2.2.2.1)
           have HS11_ := (hb.cell (World.block_lt_of_cell? _ _ (hHeld.2.2.2.2.2.2.2.2.2.2.2.1))).trans (hHeld.2.2.2.2.2.2.2.2.2.2.2.1)
           have HS12_ := (hb.cell (World.block_lt_of_cell? _ _ (hHeld.2.2.2.2.2.2.2.2.2.2.2.2.1))).trans (hHeld.2.2.2.2.2.2.2.2.2.2.2.2.1)
           have HS13_ := (hb.cell (World.block_lt_of_cell? _ _ (hHeld.2.2.2.2.2.2.2.2.2.2.2.2.2.1))).trans (hHeld.2.2.2.2.2.2.2.2.2.2.2.2.2.1)
           have HS14_ := (hb.cell (World.block_lt_of_cell? _ _ (hHeld.2.2.2.2.2.2.2.2.2.2.2.2.2.2.1))).trans (hHeld.2.2.2.2.2.2.2.2.2.2.2.2.2.2.1)
           have HS15_ := (hb.cell (World.block_lt_of_cell? _ _ (hHeld.2.2.2.2.2.2.2.2.2.2.2.2.2.2.2.1))).trans (hHeld.2.2.2.2.2.2.2.2.2.2.2.2.2.2.2.1)
           have HS16_ := (hb.cell (World.block_lt_of_cell? _ _ (hHeld.2.2.2.2.2.2.2.2.2.2.2.2.2.2.2.2.1))).trans (hHeld.2.2.2.2.2.2.2.2.2.2.2.2.2.2.2.2.1)
           have HS17_ := (hb.cell (World.block_lt_of_cell? _ _ (hHeld.2.2.2.2.2.2.2.2.2.2.2.2.2.2.2.2.2.1))).trans (hHeld.2.2.2.2.2.2.2.2.2.2.2.2.2.2.2.2.2.1)
           have HS18_ := (hb.cell (World.block_lt_of_cell? _ _ (hHeld.2.2.2.2.2.2.2.2.2.2.2.2.2.2.2.2.2.2))).trans (hHeld.2.2.2.2.2.2.2.2.2.2.2.2.2.2.2.2.2.2)
           clear hg_ hnew_
           (first | rw [← Ny971.out] at ho49 | (simp only [Int.reduceToNat] at ho49; rw [← Ny971.out] at ho49))
           have n0_ := Aside0.mk (Kd.R_elder' z62x12 (Kd.R_base ho49) hb)
           have n1_ := Aside0.mk (Kd.R_below z62x13 hb)
           have n2_ := Aside0.mk (Kd.R_below z62x9 hb)
           have n3_ := Aside0.mk (Kd.R_lower (Kd.R_new' ho49 (Kd.R_lt z62x12)) (below_size z62x1))
           have n4_ := Aside0.mk (blk_below (g := gb939) (o := .cells #[.int .i64 0, .int .i64 0, .int .i64 0, .int .i64 0, .slice none 0 0] 36 (0, 0)) z62x7 hb)
           have n5_ := Aside0.mk (blk_below (g := gb959) (o := .cells #[.int .i64 t951, .int .i64 t952, .int .i64 t953, .int .i64 t954, .slice (some ad968) x960004_1.length co21] 36 (0, 0)) z62x8 hb)
           have n6_ := Aside0.mk (IsS80.below z62x3 hb)
           have n7_ := Aside0.mk (below_step z62x1 hb)
           clear HO_6
           clear HO_7
           clear HO_960004
           clear BK939
           clear BK959
           clear HI942
           clear HB
           have HO_6 := n0_
           have HO_7 := n1_
           have HO_960004 := n2_
           have HO973 := n3_
           have BK939 := n4_
           have BK959 := n5_
           have HI942 := n6_
           have HB := n7_
           clear n0_ n1_ n2_ n3_ n4_ n5_ n6_ n7_
           clear hb ho49
           obtain ⟨Ao51, co51, eo51⟩ := Kd.R_slice HO973.out
           (first | subst eo51 | (injection eo51 with f1_ f2_ f3_; have f4_ := f1_.symm; have f5_ := f3_.symm; clear f1_ f2_ f3_; subst f4_; subst f5_))
           refine hK.out _ _ ⟨(blk_cell BK959.out 0).trans rfl, (blk_cell BK959.out 1).trans rfl, (blk_cell BK959.out 2).trans rfl, (blk_cell BK959.out 3).trans rfl, (blk_cell BK959.out 4).trans rfl, HS5_, HS6_, HS7_, HS8_, HS9_, HS10_, HS11_, HS12_, HS13_, HS14_, HS15_, HS16_, HS17_, HS18_⟩ (fun hHeld => ?_)
           clear hK K
           refine norm_ (a' := ?_) ?_ ?_
           rotate_left
           ·show Act.put _ (some 61) _ = _
            simp only [Act.put, List.setIfInBounds_toArray, List.set_cons_zero, List.set_cons_succ, i64_w, i32_w]
            rfl
           refine last_ (i := 15) (N := some 62) #[true, true, true, true, true, true, true, true, true, true, true, true, true, true, true, true, false] rfl rfl (one_of HT_.out (by kernel_rfl)) (by decide) (fun K hK => ?_)
           refine Kd.R_append_rows_step (Kd.int .i64) (w0 := w) w.heap.size (by rfl) (.tmp 47) (.tmp 61) 41 3 (.int .i64 0) 8 rfl Try.underlying41 info3 rfl (by decide) (by omega) u6 x6_1 y971 _ _ _ (fun k_ => some k_ ≠ (.slice Ao51 y971.length co51 : Value).ownBlock) (fun _ => False) rfl rfl ?aO ?aR (fun _ _ h => h) (fun _ h => h.elim) ?aF ?aB ?aS ?aL ?_
           (case aR => repeat (first | exact (Kd.R_reads' HO973.out).2.2 | (with_reducible refine Kd.C_alloc ?_ _) | (with_reducible refine Kd.C_drewN ?_ _) | (with_reducible refine Kd.C_drew ?_)))
           (case aB => exact z62x1)
           (case aF => exact (fun k_ hk => Kd.fresh' (Kd.R_lt (by (with_reducible repeat (first | apply Kd.R_alloc | apply Kd.R_drewN | apply Kd.R_drew)); exact HO973.out)) k_ hk))
           (case aO => exact (by (with_reducible repeat (first | apply Kd.R_alloc | apply Kd.R_drewN | apply Kd.R_drew)); exact Kd.R_mono HO_6.out (fun _ hk => hk.2)))
           (case aS => exact (below_size z62x1))
           (case aL => have := LMc44.out; omega)
           intro v975 w50 ho hb hg hat
           rw [← Ny974.out] at ho
           have n0_ := Aside0.mk (Kd.R_over' z62x13 (Kd.R_typed z62x12) (by decide) hg)
           have n1_ := Aside0.mk (Kd.R_over' z62x9 (Kd.R_typed z62x12) (by decide) hg)
           have n2_ := Aside0.mk (blk_grown (g := gb939) (o := .cells #[.int .i64 0, .int .i64 0, .int .i64 0, .int .i64 0, .slice none 0 0] 36 (0, 0)) z62x7 hg (Kd.R_ne HO_6.out BK939.out (by decide)))
           have n3_ := Aside0.mk (blk_grown (g := gb959) (o := .cells #[.int .i64 t951, .int .i64 t952, .int .i64 t953, .int .i64 t954, .slice (some ad968) x960004_1.length co21] 36 (0, 0)) z62x8 hg (Kd.R_ne HO_6.out BK959.out (by decide)))
           have n4_ := Aside0.mk (IsS80.grown z62x3 hg (IsS80.own_ne HI942.out HO_6.out (by decide)))
           have n5_ := Aside0.mk (Kd.R_after (ok := (fun _ => True)) (by (with_reducible repeat (first | apply Kd.R_alloc | apply Kd.R_drewN | apply Kd.R_drew)); exact HO973.out) hg hat)
           have n6_ := Aside0.mk (hb)
           have n7_ := Aside0.mk (ho)
           clear HO_7
           clear HO_960004
           clear BK939
           clear BK959
           clear HI942
           clear HO973
           clear HB
           clear HO_6
           have HO_7 := n0_
           have HO_960004 := n1_
           have BK939 := n2_
           have BK959 := n3_
           have HI942 := n4_
           have HO973 := n5_
           have HB := n6_
           have HO976 := n7_
           clear n0_ n1_ n2_ n3_ n4_ n5_ n6_ n7_
           clear ho hb hg hat
           refine hK.out _ _ ?_
           clear hK K
           refine norm_ (a' := ?_) ?_ ?_
           rotate_left
           ·show Act.put _ (some 62) _ = _
            simp only [Act.put, List.setIfInBounds_toArray, List.set_cons_zero, List.set_cons_succ, i64_w, i32_w]
            rfl
           refine pure_ (i := 16) (N := some 6) (v := ?_) (a' := ?_) #[true, true, true, true, true, true, true, true, true, true, true, true, true, true, true, true, true] rfl rfl (any_of HT_.out (by kernel_rfl)) (fun _ _ _ h => h) (Or.inl ⟨by rfl, ?_⟩) ?_ ?_
           rotate_left
           ·intro w'
            go_simp
            with_reducible rfl
           rotate_left
           ·simp only [Act.put, List.setIfInBounds_toArray, List.set_cons_zero, List.set_cons_succ, i64_w, i32_w]
            rfl
           refine done_ (done_of HT_.out (by kernel_rfl)) ?_
           try go_wp2
           go_roundg kj16
           case measure => have := HK1.out; have := HJ16.out; omega
           case rel => exact ⟨(y974), (x7_1), (wrap64 (x9_1 + 1)), (t967), (x960004_1), (.slice (some ad968) x960004_1.length co21), (by first | rfl | (simp; done) | (simp [*]; done)), H', ⟨by have := HK1.out; have := HJ16.out; omega⟩, ⟨by (with_reducible repeat (first | apply Kd.R_alloc | apply Kd.R_drewN | apply Kd.R_drew)); exact Kd.R_mono HO976.out (fun _ hk => trivial)⟩, ⟨by (with_reducible repeat (first | apply Kd.R_alloc | apply Kd.R_drewN | apply Kd.R_drew)); exact HO_7.out⟩, ⟨by (with_reducible repeat (first | apply Kd.R_alloc | apply Kd.R_drewN | apply Kd.R_drew)); exact HO_960004.out⟩, ⟨by (with_reducible repeat (first | refine blk_drewN ?_ _ | refine blk_drew ?_ | refine blk_alloc ?_ _)); exact BK939.out⟩, ⟨by (with_reducible repeat (first | refine blk_drewN ?_ _ | refine blk_drew ?_ | refine blk_alloc ?_ _)); exact BK959.out⟩, ⟨by repeat (first | (with_reducible first | exact HI942.out | apply IsS80.alloc | apply IsS80.drewN | apply IsS80.drew | apply IsS80.set_1 | refine IsS80.far ?_ NB942_939.out _ | refine IsS80.far ?_ NB942_959.out _) | exact HI942.out)⟩, ⟨by repeat (first | (with_reducible first | exact HB.out | apply below_alloc | apply pw_below_drewN | apply below_drew1 | refine below_set ?_ (IsS80.ge HI942.out) | refine below_set ?_ GE939.out | refine below_set ?_ GE959.out) | exact HB.out)⟩⟩
          ·rw [if_neg c44] at H
           exact absurd H (by simp)
         ·rw [if_neg c41] at H
          exact absurd H (by simp)
        ·rw [if_neg c40] at H
         exact absurd H (by simp)
       ·rw [if_neg c39] at H
        have c39b0 : (t966 == 0) = false := beq_eq_false_iff_ne.mpr c39
        have c39b1 : (t966 != 0) = true := bne_iff_ne.mpr c39
        have H' := Aside0.mk H
        clear H
        go_wp2_with (first | ((with_reducible refine gate_callee (f := 57) rfl ?_); refine goesL_ (some 45) rfl rfl Try.func57 (by kernel_rfl) rfl #[.pointer (some ⟨g942, 0, none⟩), .int .i64 2] rfl z62x5 ?_; (with_reducible refine (spec_l6Rd_pick.calls kj16 g942 t940 x943001_16 2 t966 t967 w _ ?side1 ?side2 A38.out).mono ?_); (case side1 => repeat (first | (with_reducible first | exact HI942.out | apply IsS80.alloc | apply IsS80.drewN | apply IsS80.drew | apply IsS80.set_1 | refine IsS80.far ?_ NB942_939.out _ | refine IsS80.far ?_ NB942_959.out _) | exact HI942.out)); (case side2 => repeat (first | (with_reducible first | exact HB.out | apply below_alloc | apply pw_below_drewN | apply below_drew1 | refine below_set ?_ (IsS80.ge HI942.out) | refine below_set ?_ GE939.out | refine below_set ?_ GE959.out) | exact HB.out)); rintro e w52 ⟨rfl, hi, hb, hk⟩; refine ⟨_, rfl, ?_⟩; have n0_ := Aside0.mk (Kd.R_mono (Kd.R_keep (IsS80.apart (show IsS80 w _ g942 t940 x943001_16 from by repeat (first | (with_reducible first | exact HI942.out | apply IsS80.alloc | apply IsS80.drewN | apply IsS80.drew | apply IsS80.set_1 | refine IsS80.far ?_ NB942_939.out _ | refine IsS80.far ?_ NB942_959.out _) | exact HI942.out)) z62x12 (by decide)) hk (fun _ h => h.2)) (fun _ h => h.1)); have n1_ := Aside0.mk (Kd.R_mono (Kd.R_keep (IsS80.apart (show IsS80 w _ g942 t940 x943001_16 from by repeat (first | (with_reducible first | exact HI942.out | apply IsS80.alloc | apply IsS80.drewN | apply IsS80.drew | apply IsS80.set_1 | refine IsS80.far ?_ NB942_939.out _ | refine IsS80.far ?_ NB942_959.out _) | exact HI942.out)) z62x13 (by decide)) hk (fun _ h => h.2)) (fun _ h => h.1)); have n2_ := Aside0.mk (Kd.R_mono (Kd.R_keep (IsS80.apart (show IsS80 w _ g942 t940 x943001_16 from by repeat (first | (with_reducible first | exact HI942.out | apply IsS80.alloc | apply IsS80.drewN | apply IsS80.drew | apply IsS80.set_1 | refine IsS80.far ?_ NB942_939.out _ | refine IsS80.far ?_ NB942_959.out _) | exact HI942.out)) z62x9 (by decide)) hk (fun _ h => h.2)) (fun _ h => h.1)); have n3_ := Aside0.mk (KeepBut.blk hk (g' := gb939) (o := .cells #[.int .i64 0, .int .i64 0, .int .i64 0, .int .i64 0, .slice none 0 0] 36 (0, 0)) z62x7 NB939_942.out (by simp)); have n4_ := Aside0.mk (KeepBut.blk hk (g' := gb959) (o := .cells #[.int .i64 t951, .int .i64 t952, .int .i64 t953, .int .i64 t954, .slice Ao21 x960004_1.length co21] 36 (0, 0)) z62x8 NB959_942.out (by simp)); have n5_ := Aside0.mk (hb); have n6_ := Aside0.mk (hi); clear HO_6; clear HO_7; clear HO_960004; clear BK939; clear BK959; clear HB; clear HI942; have HO_6 := n0_; have HO_7 := n1_; have HO_960004 := n2_; have BK939 := n3_; have BK959 := n4_; have HB := n5_; have HI942 := n6_; clear n0_ n1_ n2_ n3_ n4_ n5_ n6_; (try clear hb); (try clear hb2); (try clear hk); (try clear hi)))
        go_roundg kj16
        case measure => have := HK1.out; have := HJ16.out; omega
        case rel => exact ⟨(x6_1), (x7_1), (wrap64 (x9_1 + 1)), (t967), (x960004_1), (.slice Ao21 x960004_1.length co21), (by first | rfl | (simp; done) | (simp [*]; done)), H', ⟨by have := HK1.out; have := HJ16.out; omega⟩, ⟨by (with_reducible repeat (first | apply Kd.R_alloc | apply Kd.R_drewN | apply Kd.R_drew)); exact HO_6.out⟩, ⟨by (with_reducible repeat (first | apply Kd.R_alloc | apply Kd.R_drewN | apply Kd.R_drew)); exact HO_7.out⟩, ⟨by (with_reducible repeat (first | apply Kd.R_alloc | apply Kd.R_drewN | apply Kd.R_drew)); exact HO_960004.out⟩, ⟨by (with_reducible repeat (first | refine blk_drewN ?_ _ | refine blk_drew ?_ | refine blk_alloc ?_ _)); exact BK939.out⟩, ⟨by (with_reducible repeat (first | refine blk_drewN ?_ _ | refine blk_drew ?_ | refine blk_alloc ?_ _)); exact BK959.out⟩, ⟨by repeat (first | (with_reducible first | exact HI942.out | apply IsS80.alloc | apply IsS80.drewN | apply IsS80.drew | apply IsS80.set_1 | refine IsS80.far ?_ NB942_939.out _ | refine IsS80.far ?_ NB942_959.out _) | exact HI942.out)⟩, ⟨by repeat (first | (with_reducible first | exact HB.out | apply below_alloc | apply pw_below_drewN | apply below_drew1 | refine below_set ?_ (IsS80.ge HI942.out) | refine below_set ?_ GE939.out | refine below_set ?_ GE959.out) | exact HB.out)⟩⟩
   ·rw [if_neg c16] at H
    have c16b0 : decide (x9_1 < (x960004_1.length : Int)) = false := decide_eq_false c16
    clear c16
    simp only [Option.some.injEq, Prod.mk.injEq] at H
    obtain ⟨rfl, rfl, rfl, rfl, rfl, rfl, rfl⟩ := H
    have hnb53 := NB959_939.out
    have hnc53 := NB939_959.out
    have hnb54 := NB959_942.out
    have hnc54 := NB942_959.out
    have hcz55_0 : wr.cell? ⟨gb959, 0, none⟩ = some (.int .i64 t951) := (blk_cell BK959.out 0).trans rfl
    have hcz55_1 : wr.cell? ⟨gb959, 1, none⟩ = some (.int .i64 t952) := (blk_cell BK959.out 1).trans rfl
    have hcz55_2 : wr.cell? ⟨gb959, 2, none⟩ = some (.int .i64 t953) := (blk_cell BK959.out 2).trans rfl
    have hcz55_3 : wr.cell? ⟨gb959, 3, none⟩ = some (.int .i64 t954) := (blk_cell BK959.out 3).trans rfl
    have hcz55_4 : wr.cell? ⟨gb959, 4, none⟩ = some (u960004) := (blk_cell BK959.out 4).trans rfl
    have hfz55_0 := blk_frozen BK959.out 0
    have hfz55_1 := blk_frozen BK959.out 1
    have hfz55_2 := blk_frozen BK959.out 2
    have hfz55_3 := blk_frozen BK959.out 3
    have hfz55_4 := blk_frozen BK959.out 4
    obtain ⟨Ao56, co56, eo56⟩ := Kd.R_slice HO_960004.out
    subst eo56
    try go_wp2
    have n0_ := Aside0.mk (Kd.R_drew HO_6.out)
    have n1_ := Aside0.mk (Kd.R_drew HO_7.out)
    have n2_ := Aside0.mk (Kd.R_drew HO_960004.out)
    have n3_ := Aside0.mk (blk_drew BK939.out)
    have n4_ := Aside0.mk (blk_drew BK959.out)
    have n5_ := Aside0.mk (IsS80.drew HI942.out)
    have n6_ := Aside0.mk (below_drew1 HB.out)
    clear HO_6
    clear HO_7
    clear HO_960004
    clear BK939
    clear BK959
    clear HI942
    clear HB
    have HO_6 := n0_
    have HO_7 := n1_
    have HO_960004 := n2_
    have BK939 := n3_
    have BK959 := n4_
    have HI942 := n5_
    have HB := n6_
    clear n0_ n1_ n2_ n3_ n4_ n5_ n6_
    refine start_ (n := 6) (S := fun w' => w'.cell? ⟨gb959, 0, none⟩ = some (.int .i64 t951) ∧ w'.cell? ⟨gb959, 1, none⟩ = some (.int .i64 t952) ∧ w'.cell? ⟨gb959, 2, none⟩ = some (.int .i64 t953) ∧ w'.cell? ⟨gb959, 3, none⟩ = some (.int .i64 t954) ∧ w'.cell? ⟨gb959, 4, none⟩ = some (.slice Ao56 x960004_1.length co56)) (ds := []) #[false, false, false, false, false, false] (by kernel_rfl) rfl rfl ⟨(blk_cell BK959.out 0).trans rfl, (blk_cell BK959.out 1).trans rfl, (blk_cell BK959.out 2).trans rfl, (blk_cell BK959.out 3).trans rfl, (blk_cell BK959.out 4).trans rfl⟩ (fun hHeld => ?_)
    generalize wr.drew = w57 at HO_6 HO_7 HO_960004 BK939 BK959 HI942 HB hHeld ⊢
    refine pure_ (i := 0) (N := some 63) (v := ?_) (a' := ?_) #[true, false, false, false, false, false] rfl rfl (by kernel_rfl) (fun _ _ _ h => h) (Or.inl ⟨by rfl, ?_⟩) ?_ ?_
    rotate_left
    ·intro w'
     go_simp
     with_reducible rfl
    rotate_left
    ·simp only [Act.put, List.setIfInBounds_toArray, List.set_cons_zero, List.set_cons_succ, i64_w, i32_w]
     rfl
    refine pure_ (i := 1) (N := some 64) (v := ?_) (a' := ?_) #[true, true, false, false, false, false] rfl rfl (by kernel_rfl) (fun _ _ _ h => h) (Or.inl ⟨by rfl, ?_⟩) ?_ ?_
    rotate_left
    ·intro w'
     go_simp
     with_reducible rfl
    rotate_left
    ·simp only [Act.put, List.setIfInBounds_toArray, List.set_cons_zero, List.set_cons_succ, i64_w, i32_w]
     rfl
    refine pure_ (i := 3) (N := some 2) (v := ?_) (a' := ?_) #[true, true, false, true, false, false] rfl rfl (by kernel_rfl) (fun _ _ _ h => h) (Or.inl ⟨by rfl, ?_⟩) ?_ ?_
    rotate_left
    ·intro w'
     go_simp
     with_reducible rfl
    rotate_left
    ·simp only [Act.put, List.setIfInBounds_toArray, List.set_cons_zero, List.set_cons_succ, i64_w, i32_w]
     rfl
    refine pure_ (i := 4) (N := some 3) (v := ?_) (a' := ?_) #[true, true, false, true, true, false] rfl rfl (by kernel_rfl) (fun _ _ _ h => h) (Or.inl ⟨by rfl, ?_⟩) ?_ ?_
    rotate_left
    ·intro w'
     go_simp
     with_reducible rfl
    rotate_left
    ·simp only [Act.put, List.setIfInBounds_toArray, List.set_cons_zero, List.set_cons_succ, i64_w, i32_w]
     rfl
    refine take_ (i := 2) (N := some 65) (v := ?_) (a' := ?_) #[true, true, true, true, true, false] rfl rfl (by kernel_rfl) (fun _ _ _ h => h) (Or.inl ⟨by rfl, ?_⟩) hHeld ?_ ?_
    rotate_left
    ·rintro w' ⟨s0, s1, s2, s3, s4⟩
     go_simp
     with_reducible rfl
    rotate_left
    ·simp only [Act.put, List.setIfInBounds_toArray, List.set_cons_zero, List.set_cons_succ, i64_w, i32_w]
     rfl
    refine one_ (i := 5) (N := none) #[true, true, true, true, true, true] rfl rfl (by kernel_rfl) (by decide) (fun K hK => ?_)
    have hs58 : w57.cell? ⟨gb939, 0, none⟩ = some (.int .i64 0) := (blk_cell BK939.out 0).trans rfl
    have hfs58 := blk_frozen BK939.out 0
    have hns58_1 := NB959_939.out
    have hms58_1 := NB939_959.out
    have hs59 : w57.cell? ⟨gb939, 1, none⟩ = some (.int .i64 0) := (blk_cell BK939.out 1).trans rfl
    have hfs59 := blk_frozen BK939.out 1
    have hns59_1 := NB959_939.out
    have hms59_1 := NB939_959.out
    have hs60 : w57.cell? ⟨gb939, 2, none⟩ = some (.int .i64 0) := (blk_cell BK939.out 2).trans rfl
    have hfs60 := blk_frozen BK939.out 2
    have hns60_1 := NB959_939.out
    have hms60_1 := NB939_959.out
    have hs61 : w57.cell? ⟨gb939, 3, none⟩ = some (.int .i64 0) := (blk_cell BK939.out 3).trans rfl
    have hfs61 := blk_frozen BK939.out 3
    have hns61_1 := NB959_939.out
    have hms61_1 := NB939_959.out
    have hs62 : w57.cell? ⟨gb939, 4, none⟩ = some (.slice none 0 0) := (blk_cell BK939.out 4).trans rfl
    have hfs62 := blk_frozen BK939.out 4
    have hns62_1 := NB959_939.out
    have hms62_1 := NB939_959.out
    refine skip_ (w1 := ?_) (by rfl) rfl ?_ ?_
    rotate_left
    ·go_simp
     rfl
    refine hK.out _ _ ⟨((cell_far (p := ⟨gb939, _, none⟩) NB959_939.out _).trans (((cell_far (p := ⟨gb939, _, none⟩) NB959_939.out _).trans (((cell_far (p := ⟨gb939, _, none⟩) NB959_939.out _).trans (((cell_far (p := ⟨gb939, _, none⟩) NB959_939.out _).trans (((cell_far (p := ⟨gb939, _, none⟩) NB959_939.out _).trans (hHeld.1)))))))))), ((cell_far (p := ⟨gb939, _, none⟩) NB959_939.out _).trans (((cell_far (p := ⟨gb939, _, none⟩) NB959_939.out _).trans (((cell_far (p := ⟨gb939, _, none⟩) NB959_939.out _).trans (((cell_far (p := ⟨gb939, _, none⟩) NB959_939.out _).trans (((cell_far (p := ⟨gb939, _, none⟩) NB959_939.out _).trans (hHeld.2.1)))))))))), ((cell_far (p := ⟨gb939, _, none⟩) NB959_939.out _).trans (((cell_far (p := ⟨gb939, _, none⟩) NB959_939.out _).trans (((cell_far (p := ⟨gb939, _, none⟩) NB959_939.out _).trans (((cell_far (p := ⟨gb939, _, none⟩) NB959_939.out _).trans (((cell_far (p := ⟨gb939, _, none⟩) NB959_939.out _).trans (hHeld.2.2.1)))))))))), ((cell_far (p := ⟨gb939, _, none⟩) NB959_939.out _).trans (((cell_far (p := ⟨gb939, _, none⟩) NB959_939.out _).trans (((cell_far (p := ⟨gb939, _, none⟩) NB959_939.out _).trans (((cell_far (p := ⟨gb939, _, none⟩) NB959_939.out _).trans (((cell_far (p := ⟨gb939, _, none⟩) NB959_939.out _).trans (hHeld.2.2.2.1)))))))))), ((cell_far (p := ⟨gb939, _, none⟩) NB959_939.out _).trans (((cell_far (p := ⟨gb939, _, none⟩) NB959_939.out _).trans (((cell_far (p := ⟨gb939, _, none⟩) NB959_939.out _).trans (((cell_far (p := ⟨gb939, _, none⟩) NB959_939.out _).trans (((cell_far (p := ⟨gb939, _, none⟩) NB959_939.out _).trans (hHeld.2.2.2.2))))))))))⟩ (fun hHeld => ?_)
    clear hK K
    refine done_ (by kernel_rfl) ?_
    try go_wp2
    refine bodyPost_ret (results_list (rs := [.tmp 2, .tmp 3, .cell 4 36]) rfl (by simp) (.tmp (.tmp (.cell gb939 36 #[.int .i64 t951, .int .i64 t952, .int .i64 t953, .int .i64 t954, .slice Ao56 x960004_1.length co56] (0, 0) _ rfl (by (with_reducible repeat (first | refine blk_drewN ?_ _ | refine blk_drew ?_ | refine blk_alloc ?_ _)); refine blk_put (cs := #[.int .i64 t951, .int .i64 t952, .int .i64 t953, .int .i64 t954, .slice none 0 0]) ?_ 4 _ rfl; (with_reducible repeat (first | refine blk_drewN ?_ _ | refine blk_drew ?_ | refine blk_alloc ?_ _)); refine blk_put (cs := #[.int .i64 t951, .int .i64 t952, .int .i64 t953, .int .i64 0, .slice none 0 0]) ?_ 3 _ rfl; (with_reducible repeat (first | refine blk_drewN ?_ _ | refine blk_drew ?_ | refine blk_alloc ?_ _)); refine blk_put (cs := #[.int .i64 t951, .int .i64 t952, .int .i64 0, .int .i64 0, .slice none 0 0]) ?_ 2 _ rfl; (with_reducible repeat (first | refine blk_drewN ?_ _ | refine blk_drew ?_ | refine blk_alloc ?_ _)); refine blk_put (cs := #[.int .i64 t951, .int .i64 0, .int .i64 0, .int .i64 0, .slice none 0 0]) ?_ 1 _ rfl; (with_reducible repeat (first | refine blk_drewN ?_ _ | refine blk_drew ?_ | refine blk_alloc ?_ _)); refine blk_put (cs := #[.int .i64 0, .int .i64 0, .int .i64 0, .int .i64 0, .slice none 0 0]) ?_ 0 _ rfl; (with_reducible repeat (first | refine blk_drewN ?_ _ | refine blk_drew ?_ | refine blk_alloc ?_ _)); exact BK939.out) Try.underlying36 rfl (by kernel_rfl) .nil)))) rfl ?_
    exact ⟨_, _, _, by first | rfl | (simp [errW_none, errW_some] <;> rfl) | (simp [*, errW_none, errW_some] <;> rfl), by (with_reducible repeat (first | apply Kd.R_alloc | apply Kd.R_drewN | apply Kd.R_drew)); exact Kd.R_mono (Kd.R_far (p := ⟨gb939, 4, none⟩) (Kd.R_far (p := ⟨gb939, 3, none⟩) (Kd.R_far (p := ⟨gb939, 2, none⟩) (Kd.R_far (p := ⟨gb939, 1, none⟩) (Kd.R_far (p := ⟨gb939, 0, none⟩) (Kd.R_types HO_6.out BK939.out (by decide)) (fun _ hk => hk.2) (.int .i64 t951)) (fun _ hk => hk.2) (.int .i64 t952)) (fun _ hk => hk.2) (.int .i64 t953)) (fun _ hk => hk.2) (.int .i64 t954)) (fun _ hk => hk.2) (.slice Ao56 x960004_1.length co56)) (fun _ hk => trivial), by (with_reducible repeat (first | apply Kd.R_alloc | apply Kd.R_drewN | apply Kd.R_drew)); exact Kd.R_mono (Kd.R_far (p := ⟨gb939, 4, none⟩) (Kd.R_far (p := ⟨gb939, 3, none⟩) (Kd.R_far (p := ⟨gb939, 2, none⟩) (Kd.R_far (p := ⟨gb939, 1, none⟩) (Kd.R_far (p := ⟨gb939, 0, none⟩) (Kd.R_types HO_7.out BK939.out (by decide)) (fun _ hk => hk.2) (.int .i64 t951)) (fun _ hk => hk.2) (.int .i64 t952)) (fun _ hk => hk.2) (.int .i64 t953)) (fun _ hk => hk.2) (.int .i64 t954)) (fun _ hk => hk.2) (.slice Ao56 x960004_1.length co56)) (fun _ hk => hk.1), by (with_reducible repeat (first | apply Kd.R_alloc | apply Kd.R_drewN | apply Kd.R_drew)); exact Kd.R_mono (Kd.R_far (p := ⟨gb939, 4, none⟩) (Kd.R_far (p := ⟨gb939, 3, none⟩) (Kd.R_far (p := ⟨gb939, 2, none⟩) (Kd.R_far (p := ⟨gb939, 1, none⟩) (Kd.R_far (p := ⟨gb939, 0, none⟩) (Kd.R_types HO_960004.out BK939.out (by decide)) (fun _ hk => hk.2) (.int .i64 t951)) (fun _ hk => hk.2) (.int .i64 t952)) (fun _ hk => hk.2) (.int .i64 t953)) (fun _ hk => hk.2) (.int .i64 t954)) (fun _ hk => hk.2) (.slice Ao56 x960004_1.length co56)) (fun _ hk => hk.1), by repeat (first | (with_reducible first | exact HB.out | apply below_alloc | apply pw_below_drewN | apply below_drew1 | refine below_set ?_ (IsS80.ge HI942.out) | refine below_set ?_ GE939.out | refine below_set ?_ GE959.out) | exact HB.out)⟩

end Go.Proofs.Ytbiknbjcidlabaa.Hp
