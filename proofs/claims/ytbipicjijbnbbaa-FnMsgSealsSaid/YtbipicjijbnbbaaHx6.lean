-- hp.py
import Derived.Test.YtbipicjijbnbbaaHx0
import Derived.Test.YtbipicjijbnbbaaHx1
import Derived.Test.YtbipicjijbnbbaaHx2
import Derived.Test.YtbipicjijbnbbaaHx4
import Derived.Test.YtbipicjijbnbbaaHx5
namespace Go.Proofs.Ytbipicjijbnbbaa.Hp
open Go.RowKit Go.Proofs.YtbipicjijbnbbaaW.PrintWords Go.Proofs.YtbipicjijbnbbaaW.PrintLast Go.Proofs.YtbipicjijbnbbaaW.PrintMore
attribute [local go_sem] max2_int min2_int max_two min_two max_three min_three max_four min_four   -- for this text's walks alone
set_option linter.unusedVariables false
set_option linter.unusedSimpArgs false
-- squeezed by wip/tools/squeeze.py
theorem z6x15 {P : Prop} (h : P := by (with_reducible repeat (first | apply Kd.R_alloc | apply Kd.R_drewN | apply Kd.R_drew)); exact HO_175004.out) : P := h
theorem z6x14 {P : Prop} (h : P := by (with_reducible repeat (first | refine blk_drewN ?_ _ | refine blk_drew ?_ | refine blk_alloc ?_ _)); exact BK174.out) : P := h
theorem z6x13 {P : Prop} (h : P := by (with_reducible repeat (first | refine blk_drewN ?_ _ | refine blk_drew ?_ | refine blk_alloc ?_ _)); exact BK168.out) : P := h
theorem z6x12 {P : Prop} (h : P := by (try simp only [List.map_toArray, List.map_cons, List.map_nil]); first | done | rfl | (simp only [List.length_drop, List.length_take]; rfl)) : P := h
theorem z6x11 {P : Prop} (h : P := by repeat (first | (with_reducible first | exact HK.out | apply KeepBut.set_ | apply keep_drewN | apply keep_drew | apply keep_alloc | refine keep_far ?_ GW168.out _) | exact HK.out)) : P := h
theorem z6x10 {P : Prop} (h : P := by repeat (first | (with_reducible first | exact HI0.out | apply IsS150.alloc | apply IsS150.drewN | apply IsS150.drew | apply IsS150.set_1 | refine IsS150.far ?_ NB0_168.out _) | exact HI0.out)) : P := h
theorem z6x9 {P : Prop} (h : P := by repeat (first | (with_reducible first | exact HB.out | apply below_alloc | apply pw_below_drewN | apply below_drew1 | refine below_set ?_ (IsS150.ge HI0.out) | refine below_set ?_ GE168.out) | exact HB.out)) : P := h
theorem z6x8 {P : Prop} (h : P := by rw [hg]; exact (keep_size (w := w) (g := g) (row := none) (by repeat (first | (with_reducible first | exact HK.out | apply KeepBut.set_ | apply keep_drewN | apply keep_drew | apply keep_alloc) | exact HK.out)))) : P := h
theorem z6x7 {P : Prop} (h : P := by repeat (first | (with_reducible first | exact HK.out | apply KeepBut.set_ | apply keep_drewN | apply keep_drew | apply keep_alloc | refine keep_far ?_ GW168.out _ | refine keep_far ?_ GW174.out _) | exact HK.out)) : P := h
theorem z6x6 {P : Prop} (h : P := by repeat (first | (with_reducible first | exact HI0.out | apply IsS150.alloc | apply IsS150.drewN | apply IsS150.drew | apply IsS150.set_1 | refine IsS150.far ?_ NB0_168.out _ | refine IsS150.far ?_ NB0_174.out _) | exact HI0.out)) : P := h
theorem z6x5 {P : Prop} (h : P := by repeat (first | (with_reducible first | exact HB.out | apply below_alloc | apply pw_below_drewN | apply below_drew1 | refine below_set ?_ (IsS150.ge HI0.out) | refine below_set ?_ GE168.out | refine below_set ?_ GE174.out) | exact HB.out)) : P := h
theorem z6x4 {P : Prop} (h : P := by rw [hg]; exact (keep_size (w := w) (g := g) (row := none) (by repeat (first | (with_reducible first | exact HK.out | apply KeepBut.set_ | apply keep_drewN | apply keep_drew | apply keep_alloc | refine keep_far ?_ GW168.out _) | exact HK.out)))) : P := h
theorem z6x3 {P : Prop} (h : P := by (with_reducible repeat (first | refine blk_drewN ?_ _ | refine blk_drew ?_ | refine blk_alloc ?_ _)); refine blk_far ?_ NB168_174.out _; (with_reducible repeat (first | refine blk_drewN ?_ _ | refine blk_drew ?_ | refine blk_alloc ?_ _)); exact BK168.out) : P := h
theorem z6x2 {P : Prop} (h : P := by (with_reducible repeat (first | apply Kd.R_alloc | apply Kd.R_drewN | apply Kd.R_drew)); exact (Kd.R_mono (Kd.R_far (p := ⟨gb174, 4, none⟩) (Kd.R_far (p := ⟨gb174, 3, none⟩) (Kd.R_far (p := ⟨gb174, 2, none⟩) (Kd.R_far (p := ⟨gb174, 1, none⟩) (Kd.R_far (p := ⟨gb174, 0, none⟩) (Kd.R_types HO173.out BK174.out (by decide)) (fun _ hk => hk.2) (.int .i64 (wrap64 (1 + t169)))) (fun _ hk => hk.2) (.int .i64 0)) (fun _ hk => hk.2) (.int .i64 0)) (fun _ hk => hk.2) (.int .i64 0)) (fun _ hk => hk.2) (.slice Ao8 y171.length co8)) (fun _ h_ => h_.1))) : P := h
theorem z6x1 {P : Prop} (h : P := by (with_reducible repeat (first | refine blk_drewN ?_ _ | refine blk_drew ?_ | refine blk_alloc ?_ _)); refine blk_far ?_ NB168_174.out _; (with_reducible repeat (first | refine blk_drewN ?_ _ | refine blk_drew ?_ | refine blk_alloc ?_ _)); refine blk_far ?_ NB168_174.out _; (with_reducible repeat (first | refine blk_drewN ?_ _ | refine blk_drew ?_ | refine blk_alloc ?_ _)); refine blk_far ?_ NB168_174.out _; (with_reducible repeat (first | refine blk_drewN ?_ _ | refine blk_drew ?_ | refine blk_alloc ?_ _)); refine blk_far ?_ NB168_174.out _; (with_reducible repeat (first | refine blk_drewN ?_ _ | refine blk_drew ?_ | refine blk_alloc ?_ _)); refine blk_far ?_ NB168_174.out _; (with_reducible repeat (first | refine blk_drewN ?_ _ | refine blk_drew ?_ | refine blk_alloc ?_ _)); exact BK168.out) : P := h
theorem z6x0 {P : Prop} (h : P := by (with_reducible repeat (first | refine blk_drewN ?_ _ | refine blk_drew ?_ | refine blk_alloc ?_ _)); refine blk_put (cs := #[.int .i64 (wrap64 (1 + t169)), .int .i64 0, .int .i64 0, .int .i64 0, .slice none 0 0]) ?_ 4 _ rfl; (with_reducible repeat (first | refine blk_drewN ?_ _ | refine blk_drew ?_ | refine blk_alloc ?_ _)); refine blk_put (cs := #[.int .i64 (wrap64 (1 + t169)), .int .i64 0, .int .i64 0, .int .i64 0, .slice none 0 0]) ?_ 3 _ rfl; (with_reducible repeat (first | refine blk_drewN ?_ _ | refine blk_drew ?_ | refine blk_alloc ?_ _)); refine blk_put (cs := #[.int .i64 (wrap64 (1 + t169)), .int .i64 0, .int .i64 0, .int .i64 0, .slice none 0 0]) ?_ 2 _ rfl; (with_reducible repeat (first | refine blk_drewN ?_ _ | refine blk_drew ?_ | refine blk_alloc ?_ _)); refine blk_put (cs := #[.int .i64 (wrap64 (1 + t169)), .int .i64 0, .int .i64 0, .int .i64 0, .slice none 0 0]) ?_ 1 _ rfl; (with_reducible repeat (first | refine blk_drewN ?_ _ | refine blk_drew ?_ | refine blk_alloc ?_ _)); refine blk_put (cs := #[.int .i64 0, .int .i64 0, .int .i64 0, .int .i64 0, .slice none 0 0]) ?_ 0 _ rfl; (with_reducible repeat (first | refine blk_drewN ?_ _ | refine blk_drew ?_ | refine blk_alloc ?_ _)); exact BK174.out) : P := h

/-! ### spec_l71Msg: function 78 -/
mutual
def spec_l71Msg.j0 : Nat → Int → List Int → Int → Int → Int → Int → Int → List (S41) → Option (Int × Int × Int × Int × (List (S41)) × Int)
 | 0, _, _, _, _, _, _, _, _ => none
 | k + 1, x4, x1000, x1001, x175000, x175001, x175002, x175003, x175004 => spec_l71Msg.l0 k x4 0 x1000 x1001 x175000 x175001 x175002 x175003 x175004
def spec_l71Msg.l0 : Nat → Int → Int → List Int → Int → Int → Int → Int → Int → List (S41) → Option (Int × Int × Int × Int × (List (S41)) × Int)
 | 0, _, _, _, _, _, _, _, _, _ => none
 | k + 1, x4, x5, x1000, x1001, x175000, x175001, x175002, x175003, x175004 => if x5 < x4 then ((spec_l71Fine.f k x1000 x1001).bind fun bt189 => (if x175004.length < 2513169434916 then (spec_l71Msg.l0 k x4 (wrap64 (x5 + 1)) x1000 bt189.2.2.2.2.2.2.2 x175000 x175001 x175002 x175003 (x175004 ++ [(⟨bt189.1, bt189.2.1, bt189.2.2.1, bt189.2.2.2.1, bt189.2.2.2.2.1, bt189.2.2.2.2.2.1, bt189.2.2.2.2.2.2.1⟩ : S41)])) else (none))) else ((spec_l6Rd_pick.f k x1000 x1001 20).bind fun bt200 => (if bt200.1 = 0 then ((spec_l6Rd_pick.f k x1000 bt200.2 8).bind fun bt202 => (some (bt202.1, x175001, x175002, x175003, x175004, bt202.2))) else (if bt200.1 = 1 then ((spec_l6Rd_pick.f k x1000 bt200.2 5).bind fun bt204 => (some (x175000, bt204.1, x175002, x175003, x175004, bt204.2))) else (if bt200.1 = 2 then ((spec_l6Rd_pick.f k x1000 bt200.2 7).bind fun bt206 => (some (x175000, x175001, bt206.1, x175003, x175004, bt206.2))) else (if bt200.1 = 3 then ((some (([0, 5, 61] : List Int) : List Int)).bind fun y208 => ((spec_l6Rd_pick.f k x1000 bt200.2 3).bind fun bt211 => (if 0 ≤ bt211.1 then (if bt211.1 < (y208.length : Int) then (some (x175000, x175001, x175002, rd y208 bt211.1, x175004, bt211.2)) else (none)) else (none)))) else (if bt200.1 = 4 then ((spec_l71Seal.f k x1000 bt200.2).bind fun bt214 => (if x175004.length < 2513169434916 then (some (x175000, x175001, x175002, x175003, (x175004 ++ [(⟨bt214.1, bt214.2.1, bt214.2.2.1, bt214.2.2.2.1, bt214.2.2.2.2.1, bt214.2.2.2.2.2.1, bt214.2.2.2.2.2.2.1⟩ : S41)]), bt214.2.2.2.2.2.2.2)) else (none))) else (some (x175000, x175001, x175002, x175003, x175004, bt200.2))))))))
end
def spec_l71Msg.f (k : Nat) (s0_0 : List Int) (s0_1 : Int) : Option (Int × Int × Int × Int × (List (S41)) × Int) := (spec_l6Rd_pick.f k s0_0 s0_1 6).bind fun bt169 => ((some (([] : List (S41)) : List (S41))).bind fun y171 => (if (wrap64 (1 + bt169.1)) = 1 then ((spec_l6Rd_pick.f k s0_0 bt169.2 3).bind fun bt175 => ((spec_l6Rd_pick.f k s0_0 bt175.2 9).bind fun bt177 => (spec_l71Msg.j0 k 0 s0_0 bt177.2 (wrap64 (1 + bt169.1)) (wrap64 (1 + bt175.1)) 0 (wrap64 (1 + bt177.1)) y171))) else (if (wrap64 (1 + bt169.1)) = 3 then ((spec_l6Rd_pick.f k s0_0 bt169.2 2).bind fun bt179 => ((spec_l6Rd_pick.f k s0_0 bt179.2 9).bind fun bt181 => (spec_l71Msg.j0 k 2 s0_0 bt181.2 (wrap64 (1 + bt169.1)) 0 (wrap64 (4 + bt179.1)) (wrap64 (1 + bt181.1)) y171))) else (if (wrap64 (1 + bt169.1)) = 5 then ((spec_l6Rd_pick.f k s0_0 bt169.2 2).bind fun bt183 => (spec_l71Msg.j0 k 2 s0_0 bt183.2 (wrap64 (1 + bt169.1)) 0 (wrap64 (4 + bt183.1)) 0 y171)) else (if (wrap64 (1 + bt169.1)) = 6 then ((spec_l6Rd_pick.f k s0_0 bt169.2 3).bind fun bt185 => (spec_l71Msg.j0 k 1 s0_0 bt185.2 (wrap64 (1 + bt169.1)) (wrap64 (1 + bt185.1)) 0 0 y171)) else ((spec_l6Rd_pick.f k s0_0 bt169.2 3).bind fun bt187 => (spec_l71Msg.j0 k 2 s0_0 bt187.2 (wrap64 (1 + bt169.1)) (wrap64 (1 + bt187.1)) 0 0 y171)))))))
theorem spec_l71Msg.mono_l : ∀ k, (∀ y0 y1 y2 y3 y4 y5 y6 y7, LeO (spec_l71Msg.j0 k y0 y1 y2 y3 y4 y5 y6 y7) (spec_l71Msg.j0 (k + 1) y0 y1 y2 y3 y4 y5 y6 y7)) ∧ (∀ y0 y1 y2 y3 y4 y5 y6 y7 y8, LeO (spec_l71Msg.l0 k y0 y1 y2 y3 y4 y5 y6 y7 y8) (spec_l71Msg.l0 (k + 1) y0 y1 y2 y3 y4 y5 y6 y7 y8))
 | 0 => ⟨fun _ _ _ _ _ _ _ _ r h => by simp [spec_l71Msg.j0] at h, fun _ _ _ _ _ _ _ _ _ r h => by simp [spec_l71Msg.l0] at h⟩
 | k + 1 => by
  obtain ⟨ih0, ih1⟩ := spec_l71Msg.mono_l k
  refine ⟨?_, ?_⟩
  ·intro y0 y1 y2 y3 y4 y5 y6 y7
   unfold spec_l71Msg.j0
   repeat' first
   | (with_reducible exact ih0 _ _ _ _ _ _ _ _)
   | (with_reducible exact ih1 _ _ _ _ _ _ _ _ _)
   | (with_reducible exact spec_l6Rd_pick.mono _ _ _ _)
   | (with_reducible exact spec_l71Fine.mono _ _ _)
   | (with_reducible exact spec_l71Seal.mono _ _ _)
   | (with_reducible exact LeO.refl _)
   | (with_reducible exact LeO.none _)
   | (with_reducible refine LeO.ite ?_ ?_)
   | (with_reducible refine LeO.bind ?_ (fun _ => ?_))
   | exact ih0 _ _ _ _ _ _ _ _
   | exact ih1 _ _ _ _ _ _ _ _ _
   | exact spec_l6Rd_pick.mono _ _ _ _
   | exact spec_l71Fine.mono _ _ _
   | exact spec_l71Seal.mono _ _ _
   | exact LeO.none _
   | refine LeO.ite ?_ ?_
   | refine LeO.bind ?_ (fun _ => ?_)
  ·intro y0 y1 y2 y3 y4 y5 y6 y7 y8
   unfold spec_l71Msg.l0
   repeat' first
   | (with_reducible exact ih0 _ _ _ _ _ _ _ _)
   | (with_reducible exact ih1 _ _ _ _ _ _ _ _ _)
   | (with_reducible exact spec_l6Rd_pick.mono _ _ _ _)
   | (with_reducible exact spec_l71Fine.mono _ _ _)
   | (with_reducible exact spec_l71Seal.mono _ _ _)
   | (with_reducible exact LeO.refl _)
   | (with_reducible exact LeO.none _)
   | (with_reducible refine LeO.ite ?_ ?_)
   | (with_reducible refine LeO.bind ?_ (fun _ => ?_))
   | exact ih0 _ _ _ _ _ _ _ _
   | exact ih1 _ _ _ _ _ _ _ _ _
   | exact spec_l6Rd_pick.mono _ _ _ _
   | exact spec_l71Fine.mono _ _ _
   | exact spec_l71Seal.mono _ _ _
   | exact LeO.none _
   | refine LeO.ite ?_ ?_
   | refine LeO.bind ?_ (fun _ => ?_)
theorem spec_l71Msg.mono : ∀ a0 a1 k, LeO (spec_l71Msg.f k a0 a1) (spec_l71Msg.f (k + 1) a0 a1) := by
 intro a0 a1 k
 obtain ⟨ih0, ih1⟩ := spec_l71Msg.mono_l k
 unfold spec_l71Msg.f
 repeat' first
   | (with_reducible exact ih0 _ _ _ _ _ _ _ _)
   | (with_reducible exact ih1 _ _ _ _ _ _ _ _ _)
   | (with_reducible exact spec_l6Rd_pick.mono _ _ _ _)
   | (with_reducible exact spec_l71Fine.mono _ _ _)
   | (with_reducible exact spec_l71Seal.mono _ _ _)
   | (with_reducible exact LeO.refl _)
   | (with_reducible exact LeO.none _)
   | (with_reducible refine LeO.ite ?_ ?_)
   | (with_reducible refine LeO.bind ?_ (fun _ => ?_))
   | exact ih0 _ _ _ _ _ _ _ _
   | exact ih1 _ _ _ _ _ _ _ _ _
   | exact spec_l6Rd_pick.mono _ _ _ _
   | exact spec_l71Fine.mono _ _ _
   | exact spec_l71Seal.mono _ _ _
   | exact LeO.none _
   | refine LeO.ite ?_ ?_
   | refine LeO.bind ?_ (fun _ => ?_)
def spec_l71Msg.T20 : Bool × List (List Nat × List Nat) := (true, [([], []), ([0], [0]), ([], []), ([2], [2]), ([3], [3]), ([1, 4, 3], [1, 4]), ([0, 1, 2, 3, 4, 5], []), ([6, 5, 5, 0, 1, 2, 3, 4, 5], [5, 6])])
def spec_l71Msg.B20 : List Nat := [0, 1, 0, 4, 12, 31, 63, 127]
theorem spec_l71Msg.tab20 : rtab .any (opsOf Try.f78 20) = spec_l71Msg.T20 := by kernel_rfl
theorem spec_l71Msg.bits20 : waitsOk spec_l71Msg.T20.2 spec_l71Msg.B20 = true := by kernel_rfl
def spec_l71Msg.T31 : Bool × List (List Nat × List Nat) := (true, [([], []), ([0], [0]), ([], []), ([2], [2]), ([3], [3]), ([1, 4, 3], [1, 4]), ([0, 1, 2, 3, 4, 5], []), ([6, 5, 5, 0, 1, 2, 3, 4, 5], [5, 6])])
def spec_l71Msg.B31 : List Nat := [0, 1, 0, 4, 12, 31, 63, 127]
theorem spec_l71Msg.tab31 : rtab .any (opsOf Try.f78 31) = spec_l71Msg.T31 := by kernel_rfl
theorem spec_l71Msg.bits31 : waitsOk spec_l71Msg.T31.2 spec_l71Msg.B31 = true := by kernel_rfl
set_option maxHeartbeats 8000000 in
set_option maxRecDepth 100000 in
theorem spec_l71Msg.calls (k : Nat) (g : Nat) (s0_0 : List Int) (s0_1 : Int) (r1 : Int) (r2 : Int) (r3 : Int) (r4 : Int) (r5 : List (S41)) (r6 : Int) (w0 w : World) (hI : IsS150 w0 w g s0_0 s0_1) (hB : Below w0.heap.size w0 w) (h : spec_l71Msg.f k s0_0 s0_1 = some (r1, r2, r3, r4, r5, r6)) :
  Calls Try.prog 78 #[.pointer (some ⟨g, 0, none⟩)] w fun e w' => ∃ v4_ : Value, e = .returned (.agg #[.int .i64 r1, .int .i64 r2, .int .i64 r3, .int .i64 r4, v4_]) ∧ Kd.R k41 41 w' w.heap.size (fun _ => True) v4_ r5 ∧ IsS150 w0 w' g s0_0 r6 ∧ Below w0.heap.size w0 w' ∧ KeepBut w w' g none := by
 have hu34 := Try.underlying34
 have HI0 := Aside0.mk hI
 have HK := Aside0.mk (KeepBut.refl w g none)
 have HL := Aside0.mk hB.size
 clear hI
 have HW0 := Aside0.mk hB.size
 have HB := Aside0.mk hB
 clear hB
 have H : ((spec_l6Rd_pick.f k s0_0 s0_1 6).bind fun bt169 => ((some (([] : List (S41)) : List (S41))).bind fun y171 => (if (wrap64 (1 + bt169.1)) = 1 then ((spec_l6Rd_pick.f k s0_0 bt169.2 3).bind fun bt175 => ((spec_l6Rd_pick.f k s0_0 bt175.2 9).bind fun bt177 => (spec_l71Msg.j0 k 0 s0_0 bt177.2 (wrap64 (1 + bt169.1)) (wrap64 (1 + bt175.1)) 0 (wrap64 (1 + bt177.1)) y171))) else (if (wrap64 (1 + bt169.1)) = 3 then ((spec_l6Rd_pick.f k s0_0 bt169.2 2).bind fun bt179 => ((spec_l6Rd_pick.f k s0_0 bt179.2 9).bind fun bt181 => (spec_l71Msg.j0 k 2 s0_0 bt181.2 (wrap64 (1 + bt169.1)) 0 (wrap64 (4 + bt179.1)) (wrap64 (1 + bt181.1)) y171))) else (if (wrap64 (1 + bt169.1)) = 5 then ((spec_l6Rd_pick.f k s0_0 bt169.2 2).bind fun bt183 => (spec_l71Msg.j0 k 2 s0_0 bt183.2 (wrap64 (1 + bt169.1)) 0 (wrap64 (4 + bt183.1)) 0 y171)) else (if (wrap64 (1 + bt169.1)) = 6 then ((spec_l6Rd_pick.f k s0_0 bt169.2 3).bind fun bt185 => (spec_l71Msg.j0 k 1 s0_0 bt185.2 (wrap64 (1 + bt169.1)) (wrap64 (1 + bt185.1)) 0 0 y171)) else ((spec_l6Rd_pick.f k s0_0 bt169.2 3).bind fun bt187 => (spec_l71Msg.j0 k 2 s0_0 bt187.2 (wrap64 (1 + bt169.1)) (wrap64 (1 + bt187.1)) 0 0 y171)))))))) = some (r1, r2, r3, r4, r5, r6) := h
 clear h
 replace H := Option.bind_eq_some_iff.mp H
 obtain ⟨⟨t169, t170⟩, A20, H⟩ := H
 replace H : ((some (([] : List (S41)) : List (S41))).bind fun y171 => (if (wrap64 (1 + t169)) = 1 then ((spec_l6Rd_pick.f k s0_0 t170 3).bind fun bt175 => ((spec_l6Rd_pick.f k s0_0 bt175.2 9).bind fun bt177 => (spec_l71Msg.j0 k 0 s0_0 bt177.2 (wrap64 (1 + t169)) (wrap64 (1 + bt175.1)) 0 (wrap64 (1 + bt177.1)) y171))) else (if (wrap64 (1 + t169)) = 3 then ((spec_l6Rd_pick.f k s0_0 t170 2).bind fun bt179 => ((spec_l6Rd_pick.f k s0_0 bt179.2 9).bind fun bt181 => (spec_l71Msg.j0 k 2 s0_0 bt181.2 (wrap64 (1 + t169)) 0 (wrap64 (4 + bt179.1)) (wrap64 (1 + bt181.1)) y171))) else (if (wrap64 (1 + t169)) = 5 then ((spec_l6Rd_pick.f k s0_0 t170 2).bind fun bt183 => (spec_l71Msg.j0 k 2 s0_0 bt183.2 (wrap64 (1 + t169)) 0 (wrap64 (4 + bt183.1)) 0 y171)) else (if (wrap64 (1 + t169)) = 6 then ((spec_l6Rd_pick.f k s0_0 t170 3).bind fun bt185 => (spec_l71Msg.j0 k 1 s0_0 bt185.2 (wrap64 (1 + t169)) (wrap64 (1 + bt185.1)) 0 0 y171)) else ((spec_l6Rd_pick.f k s0_0 t170 3).bind fun bt187 => (spec_l71Msg.j0 k 2 s0_0 bt187.2 (wrap64 (1 + t169)) (wrap64 (1 + bt187.1)) 0 0 y171))))))) = some (r1, r2, r3, r4, r5, r6) := H
 have A2 := Aside0.mk A20
 clear A20
 obtain ⟨y171, hy171⟩ : ∃ y_ : List (S41), y_ = (([] : List (S41))) := ⟨_, rfl⟩
 replace H : (if (wrap64 (1 + t169)) = 1 then ((spec_l6Rd_pick.f k s0_0 t170 3).bind fun bt175 => ((spec_l6Rd_pick.f k s0_0 bt175.2 9).bind fun bt177 => (spec_l71Msg.j0 k 0 s0_0 bt177.2 (wrap64 (1 + t169)) (wrap64 (1 + bt175.1)) 0 (wrap64 (1 + bt177.1)) y171))) else (if (wrap64 (1 + t169)) = 3 then ((spec_l6Rd_pick.f k s0_0 t170 2).bind fun bt179 => ((spec_l6Rd_pick.f k s0_0 bt179.2 9).bind fun bt181 => (spec_l71Msg.j0 k 2 s0_0 bt181.2 (wrap64 (1 + t169)) 0 (wrap64 (4 + bt179.1)) (wrap64 (1 + bt181.1)) y171))) else (if (wrap64 (1 + t169)) = 5 then ((spec_l6Rd_pick.f k s0_0 t170 2).bind fun bt183 => (spec_l71Msg.j0 k 2 s0_0 bt183.2 (wrap64 (1 + t169)) 0 (wrap64 (4 + bt183.1)) 0 y171)) else (if (wrap64 (1 + t169)) = 6 then ((spec_l6Rd_pick.f k s0_0 t170 3).bind fun bt185 => (spec_l71Msg.j0 k 1 s0_0 bt185.2 (wrap64 (1 + t169)) (wrap64 (1 + bt185.1)) 0 0 y171)) else ((spec_l6Rd_pick.f k s0_0 t170 3).bind fun bt187 => (spec_l71Msg.j0 k 2 s0_0 bt187.2 (wrap64 (1 + t169)) (wrap64 (1 + bt187.1)) 0 0 y171)))))) = some (r1, r2, r3, r4, r5, r6) := by first | (rw [hy171]; with_reducible exact H) | (have H2_ := (Option.bind_some _ _).symm.trans H; rw [hy171]; with_reducible exact H2_) | (have H2_ := (Option.bind_some _ _).symm.trans H; with_reducible exact H2_) | with_reducible exact H | (rw [hy171]; exact H) | exact H
 have Ny171 := Aside0.mk hy171
 clear hy171
 have HC3 := Aside0.mk H
 clear H
 go_enter Try.func78, Try.ntmps78
 go_upto_block 0 with (first | ((with_reducible refine gate_dst (N := 2) rfl ?_); refine box_event ?hg (N := 2) ?hd (cs := #[.int .i64 0, .int .i64 0, .int .i64 0, .int .i64 0, .slice none 0 0]) (t := 34) ?hr ?_; (case hd => rfl); (case hg => rfl); (case hr => first | (go_simp; done) | (go_simp; rfl)); intro gb168 hg w4 hbox hb; have n0_ := Aside0.mk (IsS150.below (by repeat (first | (with_reducible first | exact HI0.out | apply IsS150.alloc | apply IsS150.drewN | apply IsS150.drew | apply IsS150.set_1) | exact HI0.out)) hb); have n1_ := Aside0.mk (KeepBut.trans (by repeat (first | (with_reducible first | exact HK.out | apply KeepBut.set_ | apply keep_drewN | apply keep_drew | apply keep_alloc) | exact HK.out)) (KeepBut.of_below hb g none) (.inl rfl)); have n2_ := Aside0.mk (below_step (by repeat (first | (with_reducible first | exact HB.out | apply below_alloc | apply pw_below_drewN | apply below_drew1 | refine below_set ?_ (IsS150.ge HI0.out)) | exact HB.out)) hb); have n3_ := Aside0.mk (hbox); have n4_ := Aside0.mk ((z6x8 : w.heap.size ≤ gb168)); have n5_ := Aside0.mk ((Nat.le_trans HW0.out (z6x8 : w.heap.size ≤ gb168) : w0.heap.size ≤ gb168)); have n6_ := Aside0.mk ((by rw [hg]; exact Nat.ne_of_lt (IsS150.lt (show IsS150 w0 _ g s0_0 s0_1 from by repeat (first | (with_reducible first | exact HI0.out | apply IsS150.alloc | apply IsS150.drewN | apply IsS150.drew | apply IsS150.set_1) | exact HI0.out))) : g ≠ gb168)); have n7_ := Aside0.mk ((by rw [hg]; exact Nat.ne_of_gt (IsS150.lt (show IsS150 w0 _ g s0_0 s0_1 from by repeat (first | (with_reducible first | exact HI0.out | apply IsS150.alloc | apply IsS150.drewN | apply IsS150.drew | apply IsS150.set_1) | exact HI0.out))) : gb168 ≠ g)); clear HI0; clear HK; clear HB; have HI0 := n0_; have HK := n1_; have HB := n2_; have BK168 := n3_; have GW168 := n4_; have GE168 := n5_; have NB0_168 := n6_; have NB168_0 := n7_; clear n0_ n1_ n2_ n3_ n4_ n5_ n6_ n7_; clear hb hbox hg) | ((with_reducible refine gate_callee (f := 64) rfl ?_); refine goesL_ (some 7) rfl rfl Try.func64 (by kernel_rfl) rfl #[.pointer (some ⟨g, 0, none⟩), .int .i64 6] rfl z6x12 ?_; (with_reducible refine (spec_l6Rd_pick.calls k g s0_0 s0_1 6 t169 t170 w0 _ ?side1 ?side2 A2.out).mono ?_); (case side1 => repeat (first | (with_reducible first | exact HI0.out | apply IsS150.alloc | apply IsS150.drewN | apply IsS150.drew | apply IsS150.set_1 | refine IsS150.far ?_ NB0_168.out _) | exact HI0.out)); (case side2 => repeat (first | (with_reducible first | exact HB.out | apply below_alloc | apply pw_below_drewN | apply below_drew1 | refine below_set ?_ (IsS150.ge HI0.out) | refine below_set ?_ GE168.out) | exact HB.out)); rintro e w5 ⟨rfl, hi, hb, hk⟩; refine ⟨_, rfl, ?_⟩; have n0_ := Aside0.mk (KeepBut.blk hk (g' := gb168) (o := .cells #[.int .i64 0, .int .i64 0, .int .i64 0, .int .i64 0, .slice none 0 0] 34 (0, 0)) z6x13 NB168_0.out (by simp)); have n1_ := Aside0.mk (KeepBut.trans z6x11 hk (.inl rfl)); have n2_ := Aside0.mk (hb); have n3_ := Aside0.mk (hi); clear BK168; clear HK; clear HB; clear HI0; have BK168 := n0_; have HK := n1_; have HB := n2_; have HI0 := n3_; clear n0_ n1_ n2_ n3_; (try clear hb); (try clear hb2); (try clear hk); (try clear hi)) | ((with_reducible refine gate_dst (N := 9) rfl ?_); refine Kd.R_lit k41 _ 41 ?hg (N := 9) ?hd (xs := ([] : List (S41))) (inner := []) (ok := fun _ => True) (okp := fun _ => True) ?hr ?hp (fun _ hk => hk) trivial (Below.refl _ _) (Nat.le_refl _) (by simp) ?_; (case hd => rfl); (case hg => rfl); (case hr => first | (go_simp; done) | (go_simp; rfl)); (case hp => exact (Reps.none _ _)); intro v172 w6 ho7 hb hg_ hnew_; clear hg_ hnew_; (first | rw [← Ny171.out] at ho7 | (simp only [Int.reduceToNat] at ho7; rw [← Ny171.out] at ho7)); have n0_ := Aside0.mk (Kd.R_lower ho7 (keep_size (w := w) (g := g) (row := none) z6x11)); have n1_ := Aside0.mk (IsS150.below z6x10 hb); have n2_ := Aside0.mk (blk_below (g := gb168) (o := .cells #[.int .i64 0, .int .i64 0, .int .i64 0, .int .i64 0, .slice none 0 0] 34 (0, 0)) z6x13 hb); have n3_ := Aside0.mk (KeepBut.trans z6x11 (KeepBut.of_below hb g none) (.inl rfl)); have n4_ := Aside0.mk (below_step z6x9 hb); clear HI0; clear BK168; clear HK; clear HB; have HO173 := n0_; have HI0 := n1_; have BK168 := n2_; have HK := n3_; have HB := n4_; clear n0_ n1_ n2_ n3_ n4_; clear hb ho7; obtain ⟨Ao8, co8, eo8⟩ := Kd.R_slice HO173.out; subst eo8) | ((with_reducible refine gate_dst (N := 3) rfl ?_); refine box_event ?hg (N := 3) ?hd (cs := #[.int .i64 0, .int .i64 0, .int .i64 0, .int .i64 0, .slice none 0 0]) (t := 34) ?hr ?_; (case hd => rfl); (case hg => rfl); (case hr => first | (go_simp; done) | (go_simp; rfl)); intro gb174 hg w9 hbox hb; have n0_ := Aside0.mk (Kd.R_below (by (with_reducible repeat (first | apply Kd.R_alloc | apply Kd.R_drewN | apply Kd.R_drew)); exact HO173.out) hb); have n1_ := Aside0.mk (IsS150.below z6x10 hb); have n2_ := Aside0.mk (blk_below (g := gb168) (o := .cells #[.int .i64 0, .int .i64 0, .int .i64 0, .int .i64 0, .slice none 0 0] 34 (0, 0)) z6x13 hb); have n3_ := Aside0.mk (KeepBut.trans z6x11 (KeepBut.of_below hb g none) (.inl rfl)); have n4_ := Aside0.mk (below_step z6x9 hb); have n5_ := Aside0.mk (hbox); have n6_ := Aside0.mk ((z6x4 : w.heap.size ≤ gb174)); have n7_ := Aside0.mk ((Nat.le_trans HW0.out (z6x4 : w.heap.size ≤ gb174) : w0.heap.size ≤ gb174)); have n8_ := Aside0.mk ((by rw [hg]; exact Nat.ne_of_lt (blk_lt (g := gb168) (o := .cells #[.int .i64 0, .int .i64 0, .int .i64 0, .int .i64 0, .slice none 0 0] 34 (0, 0)) z6x13) : gb168 ≠ gb174)); have n9_ := Aside0.mk ((by rw [hg]; exact Nat.ne_of_gt (blk_lt (g := gb168) (o := .cells #[.int .i64 0, .int .i64 0, .int .i64 0, .int .i64 0, .slice none 0 0] 34 (0, 0)) z6x13) : gb174 ≠ gb168)); have n10_ := Aside0.mk ((by rw [hg]; exact Nat.ne_of_lt (IsS150.lt (show IsS150 w0 _ g s0_0 t170 from by repeat (first | (with_reducible first | exact HI0.out | apply IsS150.alloc | apply IsS150.drewN | apply IsS150.drew | apply IsS150.set_1 | refine IsS150.far ?_ NB0_168.out _) | exact HI0.out))) : g ≠ gb174)); have n11_ := Aside0.mk ((by rw [hg]; exact Nat.ne_of_gt (IsS150.lt (show IsS150 w0 _ g s0_0 t170 from by repeat (first | (with_reducible first | exact HI0.out | apply IsS150.alloc | apply IsS150.drewN | apply IsS150.drew | apply IsS150.set_1 | refine IsS150.far ?_ NB0_168.out _) | exact HI0.out))) : gb174 ≠ g)); clear HO173; clear HI0; clear BK168; clear HK; clear HB; have HO173 := n0_; have HI0 := n1_; have BK168 := n2_; have HK := n3_; have HB := n4_; have BK174 := n5_; have GW174 := n6_; have GE174 := n7_; have NB168_174 := n8_; have NB174_168 := n9_; have NB0_174 := n10_; have NB174_0 := n11_; clear n0_ n1_ n2_ n3_ n4_ n5_ n6_ n7_ n8_ n9_ n10_ n11_; clear hb hbox hg; have hnb10 := NB174_168.out; have hnc10 := NB168_174.out; have hnb11 := NB174_0.out; have hnc11 := NB0_174.out; have hcz12_0 : w9.cell? ⟨gb174, 0, none⟩ = some (.int .i64 0) := (blk_cell BK174.out 0).trans rfl; have hcz12_1 : w9.cell? ⟨gb174, 1, none⟩ = some (.int .i64 0) := (blk_cell BK174.out 1).trans rfl; have hcz12_2 : w9.cell? ⟨gb174, 2, none⟩ = some (.int .i64 0) := (blk_cell BK174.out 2).trans rfl; have hcz12_3 : w9.cell? ⟨gb174, 3, none⟩ = some (.int .i64 0) := (blk_cell BK174.out 3).trans rfl; have hcz12_4 : w9.cell? ⟨gb174, 4, none⟩ = some (.slice none 0 0) := (blk_cell BK174.out 4).trans rfl; have hfz12_0 := blk_frozen BK174.out 0; have hfz12_1 := blk_frozen BK174.out 1; have hfz12_2 := blk_frozen BK174.out 2; have hfz12_3 := blk_frozen BK174.out 3; have hfz12_4 := blk_frozen BK174.out 4))
 (try simp only [Act.put, List.setIfInBounds_toArray, List.set_cons_zero, List.set_cons_succ])
 go_cut [4] (fun v4 wc => ∃ (kq : Nat) (x4_2 : Int) (x1001_2 : Int) (x175001_2 : Int) (x175002_2 : Int) (x175003_2 : Int), v4 = .int .i64 x4_2 ∧ Aside0 (spec_l71Msg.j0 kq x4_2 s0_0 x1001_2 (wrap64 (1 + t169)) x175001_2 x175002_2 x175003_2 y171 = some (r1, r2, r3, r4, r5, r6)) ∧ Aside0 (kq ≤ k) ∧ Aside0 (Kd.R k41 41 wc w.heap.size (fun _ => True) (.slice Ao8 y171.length co8) y171) ∧ Aside0 (wc.heap[gb168]? = some (.cells #[.int .i64 0, .int .i64 0, .int .i64 0, .int .i64 0, (.slice none 0 0)] 34 (0, 0))) ∧ Aside0 (wc.heap[gb174]? = some (.cells #[.int .i64 (wrap64 (1 + t169)), .int .i64 x175001_2, .int .i64 x175002_2, .int .i64 x175003_2, (.slice Ao8 y171.length co8)] 34 (0, 0))) ∧ Aside0 (IsS150 w0 wc g s0_0 x1001_2) ∧ Aside0 (KeepBut w wc g none) ∧ Aside0 (Below w0.heap.size w0 wc))
 case first =>
  have H := HC3.out
  clear HC3
  by_cases c13 : (wrap64 (1 + t169)) = 1
  ·rw [if_pos c13] at H
   have c13b0 : ((wrap64 (1 + t169)) == 1) = true := beq_iff_eq.mpr c13
   have c13b1 : ((wrap64 (1 + t169)) != 1) = false := bne_eq_false_iff_eq.mpr c13
   clear c13
   (first | rw [c13b0] | (simp only [i64_w, i32_w]; rw [c13b0]) | skip)
   replace H := Option.bind_eq_some_iff.mp H
   obtain ⟨⟨t175, t176⟩, A140, H⟩ := H
   replace H : ((spec_l6Rd_pick.f k s0_0 t176 9).bind fun bt177 => (spec_l71Msg.j0 k 0 s0_0 bt177.2 (wrap64 (1 + t169)) (wrap64 (1 + t175)) 0 (wrap64 (1 + bt177.1)) y171)) = some (r1, r2, r3, r4, r5, r6) := H
   have A14 := Aside0.mk A140
   clear A140
   replace H := Option.bind_eq_some_iff.mp H
   obtain ⟨⟨t177, t178⟩, A150, H⟩ := H
   replace H : (spec_l71Msg.j0 k 0 s0_0 t178 (wrap64 (1 + t169)) (wrap64 (1 + t175)) 0 (wrap64 (1 + t177)) y171) = some (r1, r2, r3, r4, r5, r6) := H
   have A15 := Aside0.mk A150
   clear A150
   have H' := Aside0.mk H
   clear H
   go_wp2_with (first | ((with_reducible refine gate_callee (f := 64) rfl ?_); refine goesL_ (some 20) rfl rfl Try.func64 (by kernel_rfl) rfl #[.pointer (some ⟨g, 0, none⟩), .int .i64 3] rfl z6x12 ?_; (with_reducible refine (spec_l6Rd_pick.calls k g s0_0 t170 3 t175 t176 w0 _ ?side1 ?side2 A14.out).mono ?_); (case side1 => repeat (first | (with_reducible first | exact HI0.out | apply IsS150.alloc | apply IsS150.drewN | apply IsS150.drew | apply IsS150.set_1 | refine IsS150.far ?_ NB0_168.out _ | refine IsS150.far ?_ NB0_174.out _) | exact HI0.out)); (case side2 => repeat (first | (with_reducible first | exact HB.out | apply below_alloc | apply pw_below_drewN | apply below_drew1 | refine below_set ?_ (IsS150.ge HI0.out) | refine below_set ?_ GE168.out | refine below_set ?_ GE174.out) | exact HB.out)); rintro e w16 ⟨rfl, hi, hb, hk⟩; refine ⟨_, rfl, ?_⟩; have n0_ := Aside0.mk (KeepBut.blk hk (g' := gb168) (o := .cells #[.int .i64 0, .int .i64 0, .int .i64 0, .int .i64 0, .slice none 0 0] 34 (0, 0)) z6x1 NB168_0.out (by simp)); have n1_ := Aside0.mk (Kd.R_mono (Kd.R_keep (IsS150.apart (show IsS150 w0 _ g s0_0 t170 from by repeat (first | (with_reducible first | exact HI0.out | apply IsS150.alloc | apply IsS150.drewN | apply IsS150.drew | apply IsS150.set_1 | refine IsS150.far ?_ NB0_168.out _ | refine IsS150.far ?_ NB0_174.out _) | exact HI0.out)) z6x2 (by decide)) hk (fun _ h => h.2)) (fun _ h => h.1)); have n2_ := Aside0.mk (KeepBut.blk hk (g' := gb174) (o := .cells #[.int .i64 (wrap64 (1 + t169)), .int .i64 0, .int .i64 0, .int .i64 0, .slice Ao8 y171.length co8] 34 (0, 0)) z6x0 NB174_0.out (by simp)); have n3_ := Aside0.mk (KeepBut.trans z6x7 hk (.inl rfl)); have n4_ := Aside0.mk (hb); have n5_ := Aside0.mk (hi); clear BK168; clear HO173; clear BK174; clear HK; clear HB; clear HI0; have BK168 := n0_; have HO173 := n1_; have BK174 := n2_; have HK := n3_; have HB := n4_; have HI0 := n5_; clear n0_ n1_ n2_ n3_ n4_ n5_; (try clear hb); (try clear hb2); (try clear hk); (try clear hi); have hnb17 := NB174_168.out; have hnc17 := NB168_174.out; have hnb18 := NB174_0.out; have hnc18 := NB0_174.out; have hcz19_0 : w16.cell? ⟨gb174, 0, none⟩ = some (.int .i64 (wrap64 (1 + t169))) := (blk_cell BK174.out 0).trans rfl; have hcz19_1 : w16.cell? ⟨gb174, 1, none⟩ = some (.int .i64 0) := (blk_cell BK174.out 1).trans rfl; have hcz19_2 : w16.cell? ⟨gb174, 2, none⟩ = some (.int .i64 0) := (blk_cell BK174.out 2).trans rfl; have hcz19_3 : w16.cell? ⟨gb174, 3, none⟩ = some (.int .i64 0) := (blk_cell BK174.out 3).trans rfl; have hcz19_4 : w16.cell? ⟨gb174, 4, none⟩ = some (.slice Ao8 y171.length co8) := (blk_cell BK174.out 4).trans rfl; have hfz19_0 := blk_frozen BK174.out 0; have hfz19_1 := blk_frozen BK174.out 1; have hfz19_2 := blk_frozen BK174.out 2; have hfz19_3 := blk_frozen BK174.out 3; have hfz19_4 := blk_frozen BK174.out 4) | ((with_reducible refine gate_callee (f := 64) rfl ?_); refine goesL_ (some 24) rfl rfl Try.func64 (by kernel_rfl) rfl #[.pointer (some ⟨g, 0, none⟩), .int .i64 9] rfl z6x12 ?_; (with_reducible refine (spec_l6Rd_pick.calls k g s0_0 t176 9 t177 t178 w0 _ ?side1 ?side2 A15.out).mono ?_); (case side1 => repeat (first | (with_reducible first | exact HI0.out | apply IsS150.alloc | apply IsS150.drewN | apply IsS150.drew | apply IsS150.set_1 | refine IsS150.far ?_ NB0_168.out _ | refine IsS150.far ?_ NB0_174.out _) | exact HI0.out)); (case side2 => repeat (first | (with_reducible first | exact HB.out | apply below_alloc | apply pw_below_drewN | apply below_drew1 | refine below_set ?_ (IsS150.ge HI0.out) | refine below_set ?_ GE168.out | refine below_set ?_ GE174.out) | exact HB.out)); rintro e w20 ⟨rfl, hi, hb, hk⟩; refine ⟨_, rfl, ?_⟩; have n0_ := Aside0.mk (KeepBut.blk hk (g' := gb168) (o := .cells #[.int .i64 0, .int .i64 0, .int .i64 0, .int .i64 0, .slice none 0 0] 34 (0, 0)) z6x3 NB168_0.out (by simp)); have n1_ := Aside0.mk (Kd.R_mono (Kd.R_keep (IsS150.apart (show IsS150 w0 _ g s0_0 t176 from by repeat (first | (with_reducible first | exact HI0.out | apply IsS150.alloc | apply IsS150.drewN | apply IsS150.drew | apply IsS150.set_1 | refine IsS150.far ?_ NB0_168.out _ | refine IsS150.far ?_ NB0_174.out _) | exact HI0.out)) (by (with_reducible repeat (first | apply Kd.R_alloc | apply Kd.R_drewN | apply Kd.R_drew)); exact (Kd.R_mono (Kd.R_far (p := ⟨gb174, 1, none⟩) (Kd.R_types HO173.out BK174.out (by decide)) (fun _ hk => hk.2) (.int .i64 (wrap64 (1 + t175)))) (fun _ h_ => h_.1))) (by decide)) hk (fun _ h => h.2)) (fun _ h => h.1)); have n2_ := Aside0.mk (KeepBut.blk hk (g' := gb174) (o := .cells #[.int .i64 (wrap64 (1 + t169)), .int .i64 (wrap64 (1 + t175)), .int .i64 0, .int .i64 0, .slice Ao8 y171.length co8] 34 (0, 0)) (by (with_reducible repeat (first | refine blk_drewN ?_ _ | refine blk_drew ?_ | refine blk_alloc ?_ _)); refine blk_put (cs := #[.int .i64 (wrap64 (1 + t169)), .int .i64 0, .int .i64 0, .int .i64 0, .slice Ao8 y171.length co8]) ?_ 1 _ rfl; (with_reducible repeat (first | refine blk_drewN ?_ _ | refine blk_drew ?_ | refine blk_alloc ?_ _)); exact BK174.out) NB174_0.out (by simp)); have n3_ := Aside0.mk (KeepBut.trans z6x7 hk (.inl rfl)); have n4_ := Aside0.mk (hb); have n5_ := Aside0.mk (hi); clear BK168; clear HO173; clear BK174; clear HK; clear HB; clear HI0; have BK168 := n0_; have HO173 := n1_; have BK174 := n2_; have HK := n3_; have HB := n4_; have HI0 := n5_; clear n0_ n1_ n2_ n3_ n4_ n5_; (try clear hb); (try clear hb2); (try clear hk); (try clear hi); have hcz21_0 : w20.cell? ⟨gb174, 0, none⟩ = some (.int .i64 (wrap64 (1 + t169))) := (blk_cell BK174.out 0).trans rfl; have hcz21_1 : w20.cell? ⟨gb174, 1, none⟩ = some (.int .i64 (wrap64 (1 + t175))) := (blk_cell BK174.out 1).trans rfl; have hcz21_2 : w20.cell? ⟨gb174, 2, none⟩ = some (.int .i64 0) := (blk_cell BK174.out 2).trans rfl; have hcz21_3 : w20.cell? ⟨gb174, 3, none⟩ = some (.int .i64 0) := (blk_cell BK174.out 3).trans rfl; have hcz21_4 : w20.cell? ⟨gb174, 4, none⟩ = some (.slice Ao8 y171.length co8) := (blk_cell BK174.out 4).trans rfl; have hfz21_0 := blk_frozen BK174.out 0; have hfz21_1 := blk_frozen BK174.out 1; have hfz21_2 := blk_frozen BK174.out 2; have hfz21_3 := blk_frozen BK174.out 3; have hfz21_4 := blk_frozen BK174.out 4))
   go_meet
   case rel => exact ⟨_, (0), (t178), (wrap64 (1 + t175)), (0), (wrap64 (1 + t177)), (by first | rfl | (simp; done) | (simp [*]; done)), H', ⟨by first | omega | exact Nat.le_refl _⟩, ⟨by (with_reducible repeat (first | apply Kd.R_alloc | apply Kd.R_drewN | apply Kd.R_drew)); exact Kd.R_mono (Kd.R_far (p := ⟨gb174, 3, none⟩) (Kd.R_types HO173.out BK174.out (by decide)) (fun _ hk => hk.2) (.int .i64 (wrap64 (1 + t177)))) (fun _ hk => trivial)⟩, ⟨by (with_reducible repeat (first | refine blk_drewN ?_ _ | refine blk_drew ?_ | refine blk_alloc ?_ _)); refine blk_far ?_ NB168_174.out _; (with_reducible repeat (first | refine blk_drewN ?_ _ | refine blk_drew ?_ | refine blk_alloc ?_ _)); exact BK168.out⟩, ⟨by (with_reducible repeat (first | refine blk_drewN ?_ _ | refine blk_drew ?_ | refine blk_alloc ?_ _)); refine blk_put (cs := #[.int .i64 (wrap64 (1 + t169)), .int .i64 (wrap64 (1 + t175)), .int .i64 0, .int .i64 0, .slice Ao8 y171.length co8]) ?_ 3 _ rfl; (with_reducible repeat (first | refine blk_drewN ?_ _ | refine blk_drew ?_ | refine blk_alloc ?_ _)); exact BK174.out⟩, ⟨by repeat (first | (with_reducible first | exact HI0.out | apply IsS150.alloc | apply IsS150.drewN | apply IsS150.drew | apply IsS150.set_1 | refine IsS150.far ?_ NB0_168.out _ | refine IsS150.far ?_ NB0_174.out _) | exact HI0.out)⟩, ⟨by repeat (first | (with_reducible first | exact HK.out | apply KeepBut.set_ | apply keep_drewN | apply keep_drew | apply keep_alloc | refine keep_far ?_ GW168.out _ | refine keep_far ?_ GW174.out _) | exact HK.out)⟩, ⟨by repeat (first | (with_reducible first | exact HB.out | apply below_alloc | apply pw_below_drewN | apply below_drew1 | refine below_set ?_ (IsS150.ge HI0.out) | refine below_set ?_ GE168.out | refine below_set ?_ GE174.out) | exact HB.out)⟩⟩
  ·rw [if_neg c13] at H
   have c13b0 : ((wrap64 (1 + t169)) == 1) = false := beq_eq_false_iff_ne.mpr c13
   have c13b1 : ((wrap64 (1 + t169)) != 1) = true := bne_iff_ne.mpr c13
   (first | rw [c13b0] | (simp only [i64_w, i32_w]; rw [c13b0]) | skip)
   by_cases c22 : (wrap64 (1 + t169)) = 3
   ·rw [if_pos c22] at H
    have c22b0 : ((wrap64 (1 + t169)) == 3) = true := beq_iff_eq.mpr c22
    have c22b1 : ((wrap64 (1 + t169)) != 3) = false := bne_eq_false_iff_eq.mpr c22
    clear c22
    replace H := Option.bind_eq_some_iff.mp H
    obtain ⟨⟨t179, t180⟩, A230, H⟩ := H
    replace H : ((spec_l6Rd_pick.f k s0_0 t180 9).bind fun bt181 => (spec_l71Msg.j0 k 2 s0_0 bt181.2 (wrap64 (1 + t169)) 0 (wrap64 (4 + t179)) (wrap64 (1 + bt181.1)) y171)) = some (r1, r2, r3, r4, r5, r6) := H
    have A23 := Aside0.mk A230
    clear A230
    replace H := Option.bind_eq_some_iff.mp H
    obtain ⟨⟨t181, t182⟩, A240, H⟩ := H
    replace H : (spec_l71Msg.j0 k 2 s0_0 t182 (wrap64 (1 + t169)) 0 (wrap64 (4 + t179)) (wrap64 (1 + t181)) y171) = some (r1, r2, r3, r4, r5, r6) := H
    have A24 := Aside0.mk A240
    clear A240
    have H' := Aside0.mk H
    clear H
    go_wp2_with (first | ((with_reducible refine gate_callee (f := 64) rfl ?_); refine goesL_ (some 30) rfl rfl Try.func64 (by kernel_rfl) rfl #[.pointer (some ⟨g, 0, none⟩), .int .i64 2] rfl z6x12 ?_; (with_reducible refine (spec_l6Rd_pick.calls k g s0_0 t170 2 t179 t180 w0 _ ?side1 ?side2 A23.out).mono ?_); (case side1 => repeat (first | (with_reducible first | exact HI0.out | apply IsS150.alloc | apply IsS150.drewN | apply IsS150.drew | apply IsS150.set_1 | refine IsS150.far ?_ NB0_168.out _ | refine IsS150.far ?_ NB0_174.out _) | exact HI0.out)); (case side2 => repeat (first | (with_reducible first | exact HB.out | apply below_alloc | apply pw_below_drewN | apply below_drew1 | refine below_set ?_ (IsS150.ge HI0.out) | refine below_set ?_ GE168.out | refine below_set ?_ GE174.out) | exact HB.out)); rintro e w25 ⟨rfl, hi, hb, hk⟩; refine ⟨_, rfl, ?_⟩; have n0_ := Aside0.mk (KeepBut.blk hk (g' := gb168) (o := .cells #[.int .i64 0, .int .i64 0, .int .i64 0, .int .i64 0, .slice none 0 0] 34 (0, 0)) z6x1 NB168_0.out (by simp)); have n1_ := Aside0.mk (Kd.R_mono (Kd.R_keep (IsS150.apart (show IsS150 w0 _ g s0_0 t170 from by repeat (first | (with_reducible first | exact HI0.out | apply IsS150.alloc | apply IsS150.drewN | apply IsS150.drew | apply IsS150.set_1 | refine IsS150.far ?_ NB0_168.out _ | refine IsS150.far ?_ NB0_174.out _) | exact HI0.out)) z6x2 (by decide)) hk (fun _ h => h.2)) (fun _ h => h.1)); have n2_ := Aside0.mk (KeepBut.blk hk (g' := gb174) (o := .cells #[.int .i64 (wrap64 (1 + t169)), .int .i64 0, .int .i64 0, .int .i64 0, .slice Ao8 y171.length co8] 34 (0, 0)) z6x0 NB174_0.out (by simp)); have n3_ := Aside0.mk (KeepBut.trans z6x7 hk (.inl rfl)); have n4_ := Aside0.mk (hb); have n5_ := Aside0.mk (hi); clear BK168; clear HO173; clear BK174; clear HK; clear HB; clear HI0; have BK168 := n0_; have HO173 := n1_; have BK174 := n2_; have HK := n3_; have HB := n4_; have HI0 := n5_; clear n0_ n1_ n2_ n3_ n4_ n5_; (try clear hb); (try clear hb2); (try clear hk); (try clear hi); have hnb26 := NB174_168.out; have hnc26 := NB168_174.out; have hnb27 := NB174_0.out; have hnc27 := NB0_174.out; have hcz28_0 : w25.cell? ⟨gb174, 0, none⟩ = some (.int .i64 (wrap64 (1 + t169))) := (blk_cell BK174.out 0).trans rfl; have hcz28_1 : w25.cell? ⟨gb174, 1, none⟩ = some (.int .i64 0) := (blk_cell BK174.out 1).trans rfl; have hcz28_2 : w25.cell? ⟨gb174, 2, none⟩ = some (.int .i64 0) := (blk_cell BK174.out 2).trans rfl; have hcz28_3 : w25.cell? ⟨gb174, 3, none⟩ = some (.int .i64 0) := (blk_cell BK174.out 3).trans rfl; have hcz28_4 : w25.cell? ⟨gb174, 4, none⟩ = some (.slice Ao8 y171.length co8) := (blk_cell BK174.out 4).trans rfl; have hfz28_0 := blk_frozen BK174.out 0; have hfz28_1 := blk_frozen BK174.out 1; have hfz28_2 := blk_frozen BK174.out 2; have hfz28_3 := blk_frozen BK174.out 3; have hfz28_4 := blk_frozen BK174.out 4) | ((with_reducible refine gate_callee (f := 64) rfl ?_); refine goesL_ (some 34) rfl rfl Try.func64 (by kernel_rfl) rfl #[.pointer (some ⟨g, 0, none⟩), .int .i64 9] rfl z6x12 ?_; (with_reducible refine (spec_l6Rd_pick.calls k g s0_0 t180 9 t181 t182 w0 _ ?side1 ?side2 A24.out).mono ?_); (case side1 => repeat (first | (with_reducible first | exact HI0.out | apply IsS150.alloc | apply IsS150.drewN | apply IsS150.drew | apply IsS150.set_1 | refine IsS150.far ?_ NB0_168.out _ | refine IsS150.far ?_ NB0_174.out _) | exact HI0.out)); (case side2 => repeat (first | (with_reducible first | exact HB.out | apply below_alloc | apply pw_below_drewN | apply below_drew1 | refine below_set ?_ (IsS150.ge HI0.out) | refine below_set ?_ GE168.out | refine below_set ?_ GE174.out) | exact HB.out)); rintro e w29 ⟨rfl, hi, hb, hk⟩; refine ⟨_, rfl, ?_⟩; have n0_ := Aside0.mk (KeepBut.blk hk (g' := gb168) (o := .cells #[.int .i64 0, .int .i64 0, .int .i64 0, .int .i64 0, .slice none 0 0] 34 (0, 0)) z6x3 NB168_0.out (by simp)); have n1_ := Aside0.mk (Kd.R_mono (Kd.R_keep (IsS150.apart (show IsS150 w0 _ g s0_0 t180 from by repeat (first | (with_reducible first | exact HI0.out | apply IsS150.alloc | apply IsS150.drewN | apply IsS150.drew | apply IsS150.set_1 | refine IsS150.far ?_ NB0_168.out _ | refine IsS150.far ?_ NB0_174.out _) | exact HI0.out)) (by (with_reducible repeat (first | apply Kd.R_alloc | apply Kd.R_drewN | apply Kd.R_drew)); exact (Kd.R_mono (Kd.R_far (p := ⟨gb174, 2, none⟩) (Kd.R_types HO173.out BK174.out (by decide)) (fun _ hk => hk.2) (.int .i64 (wrap64 (4 + t179)))) (fun _ h_ => h_.1))) (by decide)) hk (fun _ h => h.2)) (fun _ h => h.1)); have n2_ := Aside0.mk (KeepBut.blk hk (g' := gb174) (o := .cells #[.int .i64 (wrap64 (1 + t169)), .int .i64 0, .int .i64 (wrap64 (4 + t179)), .int .i64 0, .slice Ao8 y171.length co8] 34 (0, 0)) (by (with_reducible repeat (first | refine blk_drewN ?_ _ | refine blk_drew ?_ | refine blk_alloc ?_ _)); refine blk_put (cs := #[.int .i64 (wrap64 (1 + t169)), .int .i64 0, .int .i64 0, .int .i64 0, .slice Ao8 y171.length co8]) ?_ 2 _ rfl; (with_reducible repeat (first | refine blk_drewN ?_ _ | refine blk_drew ?_ | refine blk_alloc ?_ _)); exact BK174.out) NB174_0.out (by simp)); have n3_ := Aside0.mk (KeepBut.trans z6x7 hk (.inl rfl)); have n4_ := Aside0.mk (hb); have n5_ := Aside0.mk (hi); clear BK168; clear HO173; clear BK174; clear HK; clear HB; clear HI0; have BK168 := n0_; have HO173 := n1_; have BK174 := n2_; have HK := n3_; have HB := n4_; have HI0 := n5_; clear n0_ n1_ n2_ n3_ n4_ n5_; (try clear hb); (try clear hb2); (try clear hk); (try clear hi); have hcz30_0 : w29.cell? ⟨gb174, 0, none⟩ = some (.int .i64 (wrap64 (1 + t169))) := (blk_cell BK174.out 0).trans rfl; have hcz30_1 : w29.cell? ⟨gb174, 1, none⟩ = some (.int .i64 0) := (blk_cell BK174.out 1).trans rfl; have hcz30_2 : w29.cell? ⟨gb174, 2, none⟩ = some (.int .i64 (wrap64 (4 + t179))) := (blk_cell BK174.out 2).trans rfl; have hcz30_3 : w29.cell? ⟨gb174, 3, none⟩ = some (.int .i64 0) := (blk_cell BK174.out 3).trans rfl; have hcz30_4 : w29.cell? ⟨gb174, 4, none⟩ = some (.slice Ao8 y171.length co8) := (blk_cell BK174.out 4).trans rfl; have hfz30_0 := blk_frozen BK174.out 0; have hfz30_1 := blk_frozen BK174.out 1; have hfz30_2 := blk_frozen BK174.out 2; have hfz30_3 := blk_frozen BK174.out 3; have hfz30_4 := blk_frozen BK174.out 4))
    go_meet
    case rel => exact ⟨_, (2), (t182), (0), (wrap64 (4 + t179)), (wrap64 (1 + t181)), (by first | rfl | (simp; done) | (simp [*]; done)), H', ⟨by first | omega | exact Nat.le_refl _⟩, ⟨by (with_reducible repeat (first | apply Kd.R_alloc | apply Kd.R_drewN | apply Kd.R_drew)); exact Kd.R_mono (Kd.R_far (p := ⟨gb174, 3, none⟩) (Kd.R_types HO173.out BK174.out (by decide)) (fun _ hk => hk.2) (.int .i64 (wrap64 (1 + t181)))) (fun _ hk => trivial)⟩, ⟨by (with_reducible repeat (first | refine blk_drewN ?_ _ | refine blk_drew ?_ | refine blk_alloc ?_ _)); refine blk_far ?_ NB168_174.out _; (with_reducible repeat (first | refine blk_drewN ?_ _ | refine blk_drew ?_ | refine blk_alloc ?_ _)); exact BK168.out⟩, ⟨by (with_reducible repeat (first | refine blk_drewN ?_ _ | refine blk_drew ?_ | refine blk_alloc ?_ _)); refine blk_put (cs := #[.int .i64 (wrap64 (1 + t169)), .int .i64 0, .int .i64 (wrap64 (4 + t179)), .int .i64 0, .slice Ao8 y171.length co8]) ?_ 3 _ rfl; (with_reducible repeat (first | refine blk_drewN ?_ _ | refine blk_drew ?_ | refine blk_alloc ?_ _)); exact BK174.out⟩, ⟨by repeat (first | (with_reducible first | exact HI0.out | apply IsS150.alloc | apply IsS150.drewN | apply IsS150.drew | apply IsS150.set_1 | refine IsS150.far ?_ NB0_168.out _ | refine IsS150.far ?_ NB0_174.out _) | exact HI0.out)⟩, ⟨by repeat (first | (with_reducible first | exact HK.out | apply KeepBut.set_ | apply keep_drewN | apply keep_drew | apply keep_alloc | refine keep_far ?_ GW168.out _ | refine keep_far ?_ GW174.out _) | exact HK.out)⟩, ⟨by repeat (first | (with_reducible first | exact HB.out | apply below_alloc | apply pw_below_drewN | apply below_drew1 | refine below_set ?_ (IsS150.ge HI0.out) | refine below_set ?_ GE168.out | refine below_set ?_ GE174.out) | exact HB.out)⟩⟩
   ·rw [if_neg c22] at H
    have c22b0 : ((wrap64 (1 + t169)) == 3) = false := beq_eq_false_iff_ne.mpr c22
    have c22b1 : ((wrap64 (1 + t169)) != 3) = true := bne_iff_ne.mpr c22
    by_cases c31 : (wrap64 (1 + t169)) = 5
    ·rw [if_pos c31] at H
     have c31b0 : ((wrap64 (1 + t169)) == 5) = true := beq_iff_eq.mpr c31
     have c31b1 : ((wrap64 (1 + t169)) != 5) = false := bne_eq_false_iff_eq.mpr c31
     clear c31
     replace H := Option.bind_eq_some_iff.mp H
     obtain ⟨⟨t183, t184⟩, A320, H⟩ := H
     replace H : (spec_l71Msg.j0 k 2 s0_0 t184 (wrap64 (1 + t169)) 0 (wrap64 (4 + t183)) 0 y171) = some (r1, r2, r3, r4, r5, r6) := H
     have A32 := Aside0.mk A320
     clear A320
     have H' := Aside0.mk H
     clear H
     go_wp2_with (first | ((with_reducible refine gate_callee (f := 64) rfl ?_); refine goesL_ (some 40) rfl rfl Try.func64 (by kernel_rfl) rfl #[.pointer (some ⟨g, 0, none⟩), .int .i64 2] rfl z6x12 ?_; (with_reducible refine (spec_l6Rd_pick.calls k g s0_0 t170 2 t183 t184 w0 _ ?side1 ?side2 A32.out).mono ?_); (case side1 => repeat (first | (with_reducible first | exact HI0.out | apply IsS150.alloc | apply IsS150.drewN | apply IsS150.drew | apply IsS150.set_1 | refine IsS150.far ?_ NB0_168.out _ | refine IsS150.far ?_ NB0_174.out _) | exact HI0.out)); (case side2 => repeat (first | (with_reducible first | exact HB.out | apply below_alloc | apply pw_below_drewN | apply below_drew1 | refine below_set ?_ (IsS150.ge HI0.out) | refine below_set ?_ GE168.out | refine below_set ?_ GE174.out) | exact HB.out)); rintro e w33 ⟨rfl, hi, hb, hk⟩; refine ⟨_, rfl, ?_⟩; have n0_ := Aside0.mk (KeepBut.blk hk (g' := gb168) (o := .cells #[.int .i64 0, .int .i64 0, .int .i64 0, .int .i64 0, .slice none 0 0] 34 (0, 0)) z6x1 NB168_0.out (by simp)); have n1_ := Aside0.mk (Kd.R_mono (Kd.R_keep (IsS150.apart (show IsS150 w0 _ g s0_0 t170 from by repeat (first | (with_reducible first | exact HI0.out | apply IsS150.alloc | apply IsS150.drewN | apply IsS150.drew | apply IsS150.set_1 | refine IsS150.far ?_ NB0_168.out _ | refine IsS150.far ?_ NB0_174.out _) | exact HI0.out)) z6x2 (by decide)) hk (fun _ h => h.2)) (fun _ h => h.1)); have n2_ := Aside0.mk (KeepBut.blk hk (g' := gb174) (o := .cells #[.int .i64 (wrap64 (1 + t169)), .int .i64 0, .int .i64 0, .int .i64 0, .slice Ao8 y171.length co8] 34 (0, 0)) z6x0 NB174_0.out (by simp)); have n3_ := Aside0.mk (KeepBut.trans z6x7 hk (.inl rfl)); have n4_ := Aside0.mk (hb); have n5_ := Aside0.mk (hi); clear BK168; clear HO173; clear BK174; clear HK; clear HB; clear HI0; have BK168 := n0_; have HO173 := n1_; have BK174 := n2_; have HK := n3_; have HB := n4_; have HI0 := n5_; clear n0_ n1_ n2_ n3_ n4_ n5_; (try clear hb); (try clear hb2); (try clear hk); (try clear hi); have hnb34 := NB174_168.out; have hnc34 := NB168_174.out; have hnb35 := NB174_0.out; have hnc35 := NB0_174.out; have hcz36_0 : w33.cell? ⟨gb174, 0, none⟩ = some (.int .i64 (wrap64 (1 + t169))) := (blk_cell BK174.out 0).trans rfl; have hcz36_1 : w33.cell? ⟨gb174, 1, none⟩ = some (.int .i64 0) := (blk_cell BK174.out 1).trans rfl; have hcz36_2 : w33.cell? ⟨gb174, 2, none⟩ = some (.int .i64 0) := (blk_cell BK174.out 2).trans rfl; have hcz36_3 : w33.cell? ⟨gb174, 3, none⟩ = some (.int .i64 0) := (blk_cell BK174.out 3).trans rfl; have hcz36_4 : w33.cell? ⟨gb174, 4, none⟩ = some (.slice Ao8 y171.length co8) := (blk_cell BK174.out 4).trans rfl; have hfz36_0 := blk_frozen BK174.out 0; have hfz36_1 := blk_frozen BK174.out 1; have hfz36_2 := blk_frozen BK174.out 2; have hfz36_3 := blk_frozen BK174.out 3; have hfz36_4 := blk_frozen BK174.out 4))
     go_meet
     case rel => exact ⟨_, (2), (t184), (0), (wrap64 (4 + t183)), (0), (by first | rfl | (simp; done) | (simp [*]; done)), H', ⟨by first | omega | exact Nat.le_refl _⟩, ⟨by (with_reducible repeat (first | apply Kd.R_alloc | apply Kd.R_drewN | apply Kd.R_drew)); exact Kd.R_mono (Kd.R_far (p := ⟨gb174, 2, none⟩) (Kd.R_types HO173.out BK174.out (by decide)) (fun _ hk => hk.2) (.int .i64 (wrap64 (4 + t183)))) (fun _ hk => trivial)⟩, ⟨by (with_reducible repeat (first | refine blk_drewN ?_ _ | refine blk_drew ?_ | refine blk_alloc ?_ _)); refine blk_far ?_ NB168_174.out _; (with_reducible repeat (first | refine blk_drewN ?_ _ | refine blk_drew ?_ | refine blk_alloc ?_ _)); exact BK168.out⟩, ⟨by (with_reducible repeat (first | refine blk_drewN ?_ _ | refine blk_drew ?_ | refine blk_alloc ?_ _)); refine blk_put (cs := #[.int .i64 (wrap64 (1 + t169)), .int .i64 0, .int .i64 0, .int .i64 0, .slice Ao8 y171.length co8]) ?_ 2 _ rfl; (with_reducible repeat (first | refine blk_drewN ?_ _ | refine blk_drew ?_ | refine blk_alloc ?_ _)); exact BK174.out⟩, ⟨by repeat (first | (with_reducible first | exact HI0.out | apply IsS150.alloc | apply IsS150.drewN | apply IsS150.drew | apply IsS150.set_1 | refine IsS150.far ?_ NB0_168.out _ | refine IsS150.far ?_ NB0_174.out _) | exact HI0.out)⟩, ⟨by repeat (first | (with_reducible first | exact HK.out | apply KeepBut.set_ | apply keep_drewN | apply keep_drew | apply keep_alloc | refine keep_far ?_ GW168.out _ | refine keep_far ?_ GW174.out _) | exact HK.out)⟩, ⟨by repeat (first | (with_reducible first | exact HB.out | apply below_alloc | apply pw_below_drewN | apply below_drew1 | refine below_set ?_ (IsS150.ge HI0.out) | refine below_set ?_ GE168.out | refine below_set ?_ GE174.out) | exact HB.out)⟩⟩
    ·rw [if_neg c31] at H
     have c31b0 : ((wrap64 (1 + t169)) == 5) = false := beq_eq_false_iff_ne.mpr c31
     have c31b1 : ((wrap64 (1 + t169)) != 5) = true := bne_iff_ne.mpr c31
     by_cases c37 : (wrap64 (1 + t169)) = 6
     ·rw [if_pos c37] at H
      have c37b0 : ((wrap64 (1 + t169)) == 6) = true := beq_iff_eq.mpr c37
      have c37b1 : ((wrap64 (1 + t169)) != 6) = false := bne_eq_false_iff_eq.mpr c37
      clear c37
      replace H := Option.bind_eq_some_iff.mp H
      obtain ⟨⟨t185, t186⟩, A380, H⟩ := H
      replace H : (spec_l71Msg.j0 k 1 s0_0 t186 (wrap64 (1 + t169)) (wrap64 (1 + t185)) 0 0 y171) = some (r1, r2, r3, r4, r5, r6) := H
      have A38 := Aside0.mk A380
      clear A380
      have H' := Aside0.mk H
      clear H
      go_wp2_with (first | ((with_reducible refine gate_callee (f := 64) rfl ?_); refine goesL_ (some 46) rfl rfl Try.func64 (by kernel_rfl) rfl #[.pointer (some ⟨g, 0, none⟩), .int .i64 3] rfl z6x12 ?_; (with_reducible refine (spec_l6Rd_pick.calls k g s0_0 t170 3 t185 t186 w0 _ ?side1 ?side2 A38.out).mono ?_); (case side1 => repeat (first | (with_reducible first | exact HI0.out | apply IsS150.alloc | apply IsS150.drewN | apply IsS150.drew | apply IsS150.set_1 | refine IsS150.far ?_ NB0_168.out _ | refine IsS150.far ?_ NB0_174.out _) | exact HI0.out)); (case side2 => repeat (first | (with_reducible first | exact HB.out | apply below_alloc | apply pw_below_drewN | apply below_drew1 | refine below_set ?_ (IsS150.ge HI0.out) | refine below_set ?_ GE168.out | refine below_set ?_ GE174.out) | exact HB.out)); rintro e w39 ⟨rfl, hi, hb, hk⟩; refine ⟨_, rfl, ?_⟩; have n0_ := Aside0.mk (KeepBut.blk hk (g' := gb168) (o := .cells #[.int .i64 0, .int .i64 0, .int .i64 0, .int .i64 0, .slice none 0 0] 34 (0, 0)) z6x1 NB168_0.out (by simp)); have n1_ := Aside0.mk (Kd.R_mono (Kd.R_keep (IsS150.apart (show IsS150 w0 _ g s0_0 t170 from by repeat (first | (with_reducible first | exact HI0.out | apply IsS150.alloc | apply IsS150.drewN | apply IsS150.drew | apply IsS150.set_1 | refine IsS150.far ?_ NB0_168.out _ | refine IsS150.far ?_ NB0_174.out _) | exact HI0.out)) z6x2 (by decide)) hk (fun _ h => h.2)) (fun _ h => h.1)); have n2_ := Aside0.mk (KeepBut.blk hk (g' := gb174) (o := .cells #[.int .i64 (wrap64 (1 + t169)), .int .i64 0, .int .i64 0, .int .i64 0, .slice Ao8 y171.length co8] 34 (0, 0)) z6x0 NB174_0.out (by simp)); have n3_ := Aside0.mk (KeepBut.trans z6x7 hk (.inl rfl)); have n4_ := Aside0.mk (hb); have n5_ := Aside0.mk (hi); clear BK168; clear HO173; clear BK174; clear HK; clear HB; clear HI0; have BK168 := n0_; have HO173 := n1_; have BK174 := n2_; have HK := n3_; have HB := n4_; have HI0 := n5_; clear n0_ n1_ n2_ n3_ n4_ n5_; (try clear hb); (try clear hb2); (try clear hk); (try clear hi); have hnb40 := NB174_168.out; have hnc40 := NB168_174.out; have hnb41 := NB174_0.out; have hnc41 := NB0_174.out; have hcz42_0 : w39.cell? ⟨gb174, 0, none⟩ = some (.int .i64 (wrap64 (1 + t169))) := (blk_cell BK174.out 0).trans rfl; have hcz42_1 : w39.cell? ⟨gb174, 1, none⟩ = some (.int .i64 0) := (blk_cell BK174.out 1).trans rfl; have hcz42_2 : w39.cell? ⟨gb174, 2, none⟩ = some (.int .i64 0) := (blk_cell BK174.out 2).trans rfl; have hcz42_3 : w39.cell? ⟨gb174, 3, none⟩ = some (.int .i64 0) := (blk_cell BK174.out 3).trans rfl; have hcz42_4 : w39.cell? ⟨gb174, 4, none⟩ = some (.slice Ao8 y171.length co8) := (blk_cell BK174.out 4).trans rfl; have hfz42_0 := blk_frozen BK174.out 0; have hfz42_1 := blk_frozen BK174.out 1; have hfz42_2 := blk_frozen BK174.out 2; have hfz42_3 := blk_frozen BK174.out 3; have hfz42_4 := blk_frozen BK174.out 4))
      go_meet
      case rel => exact ⟨_, (1), (t186), (wrap64 (1 + t185)), (0), (0), (by first | rfl | (simp; done) | (simp [*]; done)), H', ⟨by first | omega | exact Nat.le_refl _⟩, ⟨by (with_reducible repeat (first | apply Kd.R_alloc | apply Kd.R_drewN | apply Kd.R_drew)); exact Kd.R_mono (Kd.R_far (p := ⟨gb174, 1, none⟩) (Kd.R_types HO173.out BK174.out (by decide)) (fun _ hk => hk.2) (.int .i64 (wrap64 (1 + t185)))) (fun _ hk => trivial)⟩, ⟨by (with_reducible repeat (first | refine blk_drewN ?_ _ | refine blk_drew ?_ | refine blk_alloc ?_ _)); refine blk_far ?_ NB168_174.out _; (with_reducible repeat (first | refine blk_drewN ?_ _ | refine blk_drew ?_ | refine blk_alloc ?_ _)); exact BK168.out⟩, ⟨by (with_reducible repeat (first | refine blk_drewN ?_ _ | refine blk_drew ?_ | refine blk_alloc ?_ _)); refine blk_put (cs := #[.int .i64 (wrap64 (1 + t169)), .int .i64 0, .int .i64 0, .int .i64 0, .slice Ao8 y171.length co8]) ?_ 1 _ rfl; (with_reducible repeat (first | refine blk_drewN ?_ _ | refine blk_drew ?_ | refine blk_alloc ?_ _)); exact BK174.out⟩, ⟨by repeat (first | (with_reducible first | exact HI0.out | apply IsS150.alloc | apply IsS150.drewN | apply IsS150.drew | apply IsS150.set_1 | refine IsS150.far ?_ NB0_168.out _ | refine IsS150.far ?_ NB0_174.out _) | exact HI0.out)⟩, ⟨by repeat (first | (with_reducible first | exact HK.out | apply KeepBut.set_ | apply keep_drewN | apply keep_drew | apply keep_alloc | refine keep_far ?_ GW168.out _ | refine keep_far ?_ GW174.out _) | exact HK.out)⟩, ⟨by repeat (first | (with_reducible first | exact HB.out | apply below_alloc | apply pw_below_drewN | apply below_drew1 | refine below_set ?_ (IsS150.ge HI0.out) | refine below_set ?_ GE168.out | refine below_set ?_ GE174.out) | exact HB.out)⟩⟩
     ·rw [if_neg c37] at H
      have c37b0 : ((wrap64 (1 + t169)) == 6) = false := beq_eq_false_iff_ne.mpr c37
      have c37b1 : ((wrap64 (1 + t169)) != 6) = true := bne_iff_ne.mpr c37
      replace H := Option.bind_eq_some_iff.mp H
      obtain ⟨⟨t187, t188⟩, A430, H⟩ := H
      replace H : (spec_l71Msg.j0 k 2 s0_0 t188 (wrap64 (1 + t169)) (wrap64 (1 + t187)) 0 0 y171) = some (r1, r2, r3, r4, r5, r6) := H
      have A43 := Aside0.mk A430
      clear A430
      have H' := Aside0.mk H
      clear H
      go_wp2_with (first | ((with_reducible refine gate_callee (f := 64) rfl ?_); refine goesL_ (some 14) rfl rfl Try.func64 (by kernel_rfl) rfl #[.pointer (some ⟨g, 0, none⟩), .int .i64 3] rfl z6x12 ?_; (with_reducible refine (spec_l6Rd_pick.calls k g s0_0 t170 3 t187 t188 w0 _ ?side1 ?side2 A43.out).mono ?_); (case side1 => repeat (first | (with_reducible first | exact HI0.out | apply IsS150.alloc | apply IsS150.drewN | apply IsS150.drew | apply IsS150.set_1 | refine IsS150.far ?_ NB0_168.out _ | refine IsS150.far ?_ NB0_174.out _) | exact HI0.out)); (case side2 => repeat (first | (with_reducible first | exact HB.out | apply below_alloc | apply pw_below_drewN | apply below_drew1 | refine below_set ?_ (IsS150.ge HI0.out) | refine below_set ?_ GE168.out | refine below_set ?_ GE174.out) | exact HB.out)); rintro e w44 ⟨rfl, hi, hb, hk⟩; refine ⟨_, rfl, ?_⟩; have n0_ := Aside0.mk (KeepBut.blk hk (g' := gb168) (o := .cells #[.int .i64 0, .int .i64 0, .int .i64 0, .int .i64 0, .slice none 0 0] 34 (0, 0)) z6x1 NB168_0.out (by simp)); have n1_ := Aside0.mk (Kd.R_mono (Kd.R_keep (IsS150.apart (show IsS150 w0 _ g s0_0 t170 from by repeat (first | (with_reducible first | exact HI0.out | apply IsS150.alloc | apply IsS150.drewN | apply IsS150.drew | apply IsS150.set_1 | refine IsS150.far ?_ NB0_168.out _ | refine IsS150.far ?_ NB0_174.out _) | exact HI0.out)) z6x2 (by decide)) hk (fun _ h => h.2)) (fun _ h => h.1)); have n2_ := Aside0.mk (KeepBut.blk hk (g' := gb174) (o := .cells #[.int .i64 (wrap64 (1 + t169)), .int .i64 0, .int .i64 0, .int .i64 0, .slice Ao8 y171.length co8] 34 (0, 0)) z6x0 NB174_0.out (by simp)); have n3_ := Aside0.mk (KeepBut.trans z6x7 hk (.inl rfl)); have n4_ := Aside0.mk (hb); have n5_ := Aside0.mk (hi); clear BK168; clear HO173; clear BK174; clear HK; clear HB; clear HI0; have BK168 := n0_; have HO173 := n1_; have BK174 := n2_; have HK := n3_; have HB := n4_; have HI0 := n5_; clear n0_ n1_ n2_ n3_ n4_ n5_; (try clear hb); (try clear hb2); (try clear hk); (try clear hi); have hnb45 := NB174_168.out; have hnc45 := NB168_174.out; have hnb46 := NB174_0.out; have hnc46 := NB0_174.out; have hcz47_0 : w44.cell? ⟨gb174, 0, none⟩ = some (.int .i64 (wrap64 (1 + t169))) := (blk_cell BK174.out 0).trans rfl; have hcz47_1 : w44.cell? ⟨gb174, 1, none⟩ = some (.int .i64 0) := (blk_cell BK174.out 1).trans rfl; have hcz47_2 : w44.cell? ⟨gb174, 2, none⟩ = some (.int .i64 0) := (blk_cell BK174.out 2).trans rfl; have hcz47_3 : w44.cell? ⟨gb174, 3, none⟩ = some (.int .i64 0) := (blk_cell BK174.out 3).trans rfl; have hcz47_4 : w44.cell? ⟨gb174, 4, none⟩ = some (.slice Ao8 y171.length co8) := (blk_cell BK174.out 4).trans rfl; have hfz47_0 := blk_frozen BK174.out 0; have hfz47_1 := blk_frozen BK174.out 1; have hfz47_2 := blk_frozen BK174.out 2; have hfz47_3 := blk_frozen BK174.out 3; have hfz47_4 := blk_frozen BK174.out 4))
      go_meet
      case rel => exact ⟨_, (2), (t188), (wrap64 (1 + t187)), (0), (0), (by first | rfl | (simp; done) | (simp [*]; done)), H', ⟨by first | omega | exact Nat.le_refl _⟩, ⟨by (with_reducible repeat (first | apply Kd.R_alloc | apply Kd.R_drewN | apply Kd.R_drew)); exact Kd.R_mono (Kd.R_far (p := ⟨gb174, 1, none⟩) (Kd.R_types HO173.out BK174.out (by decide)) (fun _ hk => hk.2) (.int .i64 (wrap64 (1 + t187)))) (fun _ hk => trivial)⟩, ⟨by (with_reducible repeat (first | refine blk_drewN ?_ _ | refine blk_drew ?_ | refine blk_alloc ?_ _)); refine blk_far ?_ NB168_174.out _; (with_reducible repeat (first | refine blk_drewN ?_ _ | refine blk_drew ?_ | refine blk_alloc ?_ _)); exact BK168.out⟩, ⟨by (with_reducible repeat (first | refine blk_drewN ?_ _ | refine blk_drew ?_ | refine blk_alloc ?_ _)); refine blk_put (cs := #[.int .i64 (wrap64 (1 + t169)), .int .i64 0, .int .i64 0, .int .i64 0, .slice Ao8 y171.length co8]) ?_ 1 _ rfl; (with_reducible repeat (first | refine blk_drewN ?_ _ | refine blk_drew ?_ | refine blk_alloc ?_ _)); exact BK174.out⟩, ⟨by repeat (first | (with_reducible first | exact HI0.out | apply IsS150.alloc | apply IsS150.drewN | apply IsS150.drew | apply IsS150.set_1 | refine IsS150.far ?_ NB0_168.out _ | refine IsS150.far ?_ NB0_174.out _) | exact HI0.out)⟩, ⟨by repeat (first | (with_reducible first | exact HK.out | apply KeepBut.set_ | apply keep_drewN | apply keep_drew | apply keep_alloc | refine keep_far ?_ GW168.out _ | refine keep_far ?_ GW174.out _) | exact HK.out)⟩, ⟨by repeat (first | (with_reducible first | exact HB.out | apply below_alloc | apply pw_below_drewN | apply below_drew1 | refine below_set ?_ (IsS150.ge HI0.out) | refine below_set ?_ GE168.out | refine below_set ?_ GE174.out) | exact HB.out)⟩⟩
 case rest =>
  clear HC3
  try clear c1
  try clear c2
  try clear p2
  try clear c3
  try clear c4
  try clear c6
  try clear p6
  try clear c7
  try clear c10
  try clear c11
  try clear c13
  try clear c13b0
  try clear c13b1
  try clear c17
  try clear c18
  try clear c22
  try clear c22b0
  try clear c22b1
  try clear c26
  try clear c27
  try clear c31
  try clear c31b0
  try clear c31b1
  try clear c34
  try clear c35
  try clear c37
  try clear c37b0
  try clear c37b1
  try clear c40
  try clear c41
  try clear c45
  try clear c46
  try clear hcz12_0
  try clear hcz12_1
  try clear hcz12_2
  try clear hcz12_3
  try clear hcz12_4
  try clear hcz19_0
  try clear hcz19_1
  try clear hcz19_2
  try clear hcz19_3
  try clear hcz19_4
  try clear hcz21_0
  try clear hcz21_1
  try clear hcz21_2
  try clear hcz21_3
  try clear hcz21_4
  try clear hcz28_0
  try clear hcz28_1
  try clear hcz28_2
  try clear hcz28_3
  try clear hcz28_4
  try clear hcz30_0
  try clear hcz30_1
  try clear hcz30_2
  try clear hcz30_3
  try clear hcz30_4
  try clear hcz36_0
  try clear hcz36_1
  try clear hcz36_2
  try clear hcz36_3
  try clear hcz36_4
  try clear hcz42_0
  try clear hcz42_1
  try clear hcz42_2
  try clear hcz42_3
  try clear hcz42_4
  try clear hcz47_0
  try clear hcz47_1
  try clear hcz47_2
  try clear hcz47_3
  try clear hcz47_4
  try clear hfz12_0
  try clear hfz12_1
  try clear hfz12_2
  try clear hfz12_3
  try clear hfz12_4
  try clear hfz19_0
  try clear hfz19_1
  try clear hfz19_2
  try clear hfz19_3
  try clear hfz19_4
  try clear hfz21_0
  try clear hfz21_1
  try clear hfz21_2
  try clear hfz21_3
  try clear hfz21_4
  try clear hfz28_0
  try clear hfz28_1
  try clear hfz28_2
  try clear hfz28_3
  try clear hfz28_4
  try clear hfz30_0
  try clear hfz30_1
  try clear hfz30_2
  try clear hfz30_3
  try clear hfz30_4
  try clear hfz36_0
  try clear hfz36_1
  try clear hfz36_2
  try clear hfz36_3
  try clear hfz36_4
  try clear hfz42_0
  try clear hfz42_1
  try clear hfz42_2
  try clear hfz42_3
  try clear hfz42_4
  try clear hfz47_0
  try clear hfz47_1
  try clear hfz47_2
  try clear hfz47_3
  try clear hfz47_4
  obtain ⟨kq, x4_2, x1001_2, x175001_2, x175002_2, x175003_2, rfl, HA, HJ2, HO_175004, BK168, BK174, HI0, HK, HB⟩ := hcut
  cases kq with
  | zero => exact absurd HA.out (by simp [spec_l71Msg.j0])
  | succ kj2 =>
   have H := HA.out
   clear HA
   simp only [spec_l71Msg.j0] at H
   have H' := Aside0.mk H
   clear H
   go_wp2
   go_loopg [5] kj2 (fun kq v5 w' => ∃ (x5_2 : Int) (x1001_2 : Int) (x175004_2 : List (S41)) (u175004 : Value), v5 = .int .i64 x5_2 ∧ Aside0 (spec_l71Msg.l0 kq x4_2 x5_2 s0_0 x1001_2 (wrap64 (1 + t169)) x175001_2 x175002_2 x175003_2 x175004_2 = some (r1, r2, r3, r4, r5, r6)) ∧ Aside0 (kq ≤ kj2) ∧ Aside0 (Kd.R k41 41 w' w.heap.size (fun _ => True) u175004 x175004_2) ∧ Aside0 (w'.heap[gb168]? = some (.cells #[.int .i64 0, .int .i64 0, .int .i64 0, .int .i64 0, (.slice none 0 0)] 34 (0, 0))) ∧ Aside0 (w'.heap[gb174]? = some (.cells #[.int .i64 (wrap64 (1 + t169)), .int .i64 x175001_2, .int .i64 x175002_2, .int .i64 x175003_2, u175004] 34 (0, 0))) ∧ Aside0 (IsS150 w0 w' g s0_0 x1001_2) ∧ Aside0 (KeepBut w w' g none) ∧ Aside0 (Below w0.heap.size w0 w'))
   case atStart => exact ⟨(0), (x1001_2), (y171), (.slice Ao8 y171.length co8), (by first | rfl | (simp; done) | (simp [*]; done)), H', ⟨Nat.le_refl _⟩, ⟨by (with_reducible repeat (first | apply Kd.R_alloc | apply Kd.R_drewN | apply Kd.R_drew)); exact HO_175004.out⟩, ⟨by (with_reducible repeat (first | refine blk_drewN ?_ _ | refine blk_drew ?_ | refine blk_alloc ?_ _)); exact BK168.out⟩, ⟨by (with_reducible repeat (first | refine blk_drewN ?_ _ | refine blk_drew ?_ | refine blk_alloc ?_ _)); exact BK174.out⟩, ⟨by repeat (first | (with_reducible first | exact HI0.out | apply IsS150.alloc | apply IsS150.drewN | apply IsS150.drew | apply IsS150.set_1 | refine IsS150.far ?_ NB0_168.out _ | refine IsS150.far ?_ NB0_174.out _) | exact HI0.out)⟩, ⟨by repeat (first | (with_reducible first | exact HK.out | apply KeepBut.set_ | apply keep_drewN | apply keep_drew | apply keep_alloc | refine keep_far ?_ GW168.out _ | refine keep_far ?_ GW174.out _) | exact HK.out)⟩, ⟨by repeat (first | (with_reducible first | exact HB.out | apply below_alloc | apply pw_below_drewN | apply below_drew1 | refine below_set ?_ (IsS150.ge HI0.out) | refine below_set ?_ GE168.out | refine below_set ?_ GE174.out) | exact HB.out)⟩⟩
   case round =>
    clear H'
    try clear c1
    try clear c2
    try clear p2
    try clear c3
    try clear c4
    try clear c6
    try clear p6
    try clear c7
    try clear c10
    try clear c11
    try clear c13
    try clear c13b0
    try clear c13b1
    try clear c17
    try clear c18
    try clear c22
    try clear c22b0
    try clear c22b1
    try clear c26
    try clear c27
    try clear c31
    try clear c31b0
    try clear c31b1
    try clear c34
    try clear c35
    try clear c37
    try clear c37b0
    try clear c37b1
    try clear c40
    try clear c41
    try clear c45
    try clear c46
    try clear hcz12_0
    try clear hcz12_1
    try clear hcz12_2
    try clear hcz12_3
    try clear hcz12_4
    try clear hcz19_0
    try clear hcz19_1
    try clear hcz19_2
    try clear hcz19_3
    try clear hcz19_4
    try clear hcz21_0
    try clear hcz21_1
    try clear hcz21_2
    try clear hcz21_3
    try clear hcz21_4
    try clear hcz28_0
    try clear hcz28_1
    try clear hcz28_2
    try clear hcz28_3
    try clear hcz28_4
    try clear hcz30_0
    try clear hcz30_1
    try clear hcz30_2
    try clear hcz30_3
    try clear hcz30_4
    try clear hcz36_0
    try clear hcz36_1
    try clear hcz36_2
    try clear hcz36_3
    try clear hcz36_4
    try clear hcz42_0
    try clear hcz42_1
    try clear hcz42_2
    try clear hcz42_3
    try clear hcz42_4
    try clear hcz47_0
    try clear hcz47_1
    try clear hcz47_2
    try clear hcz47_3
    try clear hcz47_4
    try clear hfz12_0
    try clear hfz12_1
    try clear hfz12_2
    try clear hfz12_3
    try clear hfz12_4
    try clear hfz19_0
    try clear hfz19_1
    try clear hfz19_2
    try clear hfz19_3
    try clear hfz19_4
    try clear hfz21_0
    try clear hfz21_1
    try clear hfz21_2
    try clear hfz21_3
    try clear hfz21_4
    try clear hfz28_0
    try clear hfz28_1
    try clear hfz28_2
    try clear hfz28_3
    try clear hfz28_4
    try clear hfz30_0
    try clear hfz30_1
    try clear hfz30_2
    try clear hfz30_3
    try clear hfz30_4
    try clear hfz36_0
    try clear hfz36_1
    try clear hfz36_2
    try clear hfz36_3
    try clear hfz36_4
    try clear hfz42_0
    try clear hfz42_1
    try clear hfz42_2
    try clear hfz42_3
    try clear hfz42_4
    try clear hfz47_0
    try clear hfz47_1
    try clear hfz47_2
    try clear hfz47_3
    try clear hfz47_4
    try clear p2
    try clear p6
    obtain ⟨x5_2, x1001_2, x175004_2, u175004, rfl, HA, HK2, HO_175004, BK168, BK174, HI0, HK, HB⟩ := hrel
    cases gk with
    | zero => exact absurd HA.out (by simp [spec_l71Msg.l0])
    | succ k2 =>
     have H := HA.out
     clear HA
     simp only [spec_l71Msg.l0] at H
     by_cases c48 : x5_2 < x4_2
     ·rw [if_pos c48] at H
      have c48b0 : decide (x5_2 < x4_2) = true := decide_eq_true c48
      clear c48
      replace H := Option.bind_eq_some_iff.mp H
      obtain ⟨⟨t189, t190, t191, t192, t193, t194, t195, t196⟩, A490, H⟩ := H
      replace H : (if x175004_2.length < 2513169434916 then (spec_l71Msg.l0 k2 x4_2 (wrap64 (x5_2 + 1)) s0_0 t196 (wrap64 (1 + t169)) x175001_2 x175002_2 x175003_2 (x175004_2 ++ [(⟨t189, t190, t191, t192, t193, t194, t195⟩ : S41)])) else (none)) = some (r1, r2, r3, r4, r5, r6) := H
      have A49 := Aside0.mk A490
      clear A490
      by_cases c50 : x175004_2.length < 2513169434916
      ·rw [if_pos c50] at H
       have LMc50 := Aside0.mk c50
       clear c50
       obtain ⟨y197, hy197⟩ : ∃ y_ : List (S41), y_ = (x175004_2 ++ [(⟨t189, t190, t191, t192, t193, t194, t195⟩ : S41)]) := ⟨_, rfl⟩
       replace H : (spec_l71Msg.l0 k2 x4_2 (wrap64 (x5_2 + 1)) s0_0 t196 (wrap64 (1 + t169)) x175001_2 x175002_2 x175003_2 y197) = some (r1, r2, r3, r4, r5, r6) := by first | (rw [hy197]; with_reducible exact H) | (have H2_ := (Option.bind_some _ _).symm.trans H; rw [hy197]; with_reducible exact H2_) | (have H2_ := (Option.bind_some _ _).symm.trans H; with_reducible exact H2_) | with_reducible exact H | (rw [hy197]; exact H) | exact H
       have Ny197 := Aside0.mk hy197
       clear hy197
       have H' := Aside0.mk H
       clear H
       try go_wp2
       have n0_ := Aside0.mk (Kd.R_drew HO_175004.out)
       have n1_ := Aside0.mk (blk_drew BK168.out)
       have n2_ := Aside0.mk (blk_drew BK174.out)
       have n3_ := Aside0.mk (IsS150.drew HI0.out)
       have n4_ := Aside0.mk (keep_drew HK.out)
       have n5_ := Aside0.mk (below_drew1 HB.out)
       clear HO_175004
       clear BK168
       clear BK174
       clear HI0
       clear HK
       clear HB
       have HO_175004 := n0_
       have BK168 := n1_
       have BK174 := n2_
       have HI0 := n3_
       have HK := n4_
       have HB := n5_
       clear n0_ n1_ n2_ n3_ n4_ n5_
       refine start_ (n := 8) (S := fun w' => w'.cell? ⟨gb174, 0, none⟩ = some (.int .i64 (wrap64 (1 + t169))) ∧ w'.cell? ⟨gb174, 1, none⟩ = some (.int .i64 x175001_2) ∧ w'.cell? ⟨gb174, 2, none⟩ = some (.int .i64 x175002_2) ∧ w'.cell? ⟨gb174, 3, none⟩ = some (.int .i64 x175003_2) ∧ w'.cell? ⟨gb174, 4, none⟩ = some (u175004)) (ds := [7]) #[false, false, false, false, false, false, false, false] (by kernel_rfl) rfl rfl ⟨(blk_cell BK174.out 0).trans rfl, (blk_cell BK174.out 1).trans rfl, (blk_cell BK174.out 2).trans rfl, (blk_cell BK174.out 3).trans rfl, (blk_cell BK174.out 4).trans rfl⟩ (fun hHeld => ?_); refine with_tabW spec_l71Msg.tab20 spec_l71Msg.bits20 (fun HT_ HW_ => ?_)
       generalize wr.drew = w51 at HO_175004 BK168 BK174 HI0 HK HB hHeld ⊢
       refine pure_ (i := 0) (N := some 54) (v := ?_) (a' := ?_) #[true, false, false, false, false, false, false, false] rfl rfl (any_of HT_.out (by kernel_rfl)) (fun _ _ _ h => h) (Or.inl ⟨by rfl, ?_⟩) ?_ ?_
       rotate_left
       ·intro w'
        go_simp
        with_reducible rfl
       rotate_left
       ·simp only [Act.put, List.setIfInBounds_toArray, List.set_cons_zero, List.set_cons_succ, i64_w, i32_w]
        rfl
       refine pure_ (i := 2) (N := some 56) (v := ?_) (a' := ?_) #[true, false, true, false, false, false, false, false] rfl rfl (any_of HT_.out (by kernel_rfl)) (fun _ _ _ h => h) (Or.inl ⟨by rfl, ?_⟩) ?_ ?_
       rotate_left
       ·intro w'
        go_simp
        with_reducible rfl
       rotate_left
       ·simp only [Act.put, List.setIfInBounds_toArray, List.set_cons_zero, List.set_cons_succ, i64_w, i32_w]
        rfl
       refine take_ (i := 1) (N := some 55) (v := ?_) (a' := ?_) #[true, true, true, false, false, false, false, false] rfl rfl (take_ofW HT_.out HW_.out (by kernel_rfl)) (fun _ _ _ h => h) (Or.inl ⟨by rfl, ?_⟩) hHeld ?_ ?_
       rotate_left
       ·rintro w' ⟨s0, s1, s2, s3, s4⟩
        go_simp
        with_reducible rfl
       rotate_left
       ·simp only [Act.put, List.setIfInBounds_toArray, List.set_cons_zero, List.set_cons_succ, i64_w, i32_w]
        rfl
       refine one_ (i := 3) (N := some 57) #[true, true, true, true, false, false, false, false] rfl rfl (one_of HT_.out (by kernel_rfl)) (by decide) (fun K hK => ?_)
       refine goes_ Try.func140 (by kernel_rfl) rfl #[.pointer (some ⟨g, 0, none⟩)] (by rfl) rfl rfl z6x12 ?_
       with_reducible refine (spec_l71Fine.calls k2 g s0_0 x1001_2 t189 t190 t191 t192 t193 t194 t195 t196 w0 _ ?side1 ?side2 A49.out).mono ?_
       (case side1 => repeat (first | (with_reducible first | exact HI0.out | apply IsS150.alloc | apply IsS150.drewN | apply IsS150.drew | apply IsS150.set_1 | refine IsS150.far ?_ NB0_168.out _ | refine IsS150.far ?_ NB0_174.out _) | exact HI0.out))
       (case side2 => repeat (first | (with_reducible first | exact HB.out | apply below_alloc | apply pw_below_drewN | apply below_drew1 | refine below_set ?_ (IsS150.ge HI0.out) | refine below_set ?_ GE168.out | refine below_set ?_ GE174.out) | exact HB.out))
       rintro e w52 ⟨rfl, hi, hb, hk⟩
       refine ⟨_, rfl, ?_⟩
       have n0_ := Aside0.mk (Kd.R_mono (Kd.R_keep (IsS150.apart (show IsS150 w0 _ g s0_0 x1001_2 from by repeat (first | (with_reducible first | exact HI0.out | apply IsS150.alloc | apply IsS150.drewN | apply IsS150.drew | apply IsS150.set_1 | refine IsS150.far ?_ NB0_168.out _ | refine IsS150.far ?_ NB0_174.out _) | exact HI0.out)) z6x15 (by decide)) hk (fun _ h => h.2)) (fun _ h => h.1))
       have n1_ := Aside0.mk (KeepBut.blk hk (g' := gb168) (o := .cells #[.int .i64 0, .int .i64 0, .int .i64 0, .int .i64 0, .slice none 0 0] 34 (0, 0)) z6x13 NB168_0.out (by simp))
       have n2_ := Aside0.mk (KeepBut.blk hk (g' := gb174) (o := .cells #[.int .i64 (wrap64 (1 + t169)), .int .i64 x175001_2, .int .i64 x175002_2, .int .i64 x175003_2, u175004] 34 (0, 0)) z6x14 NB174_0.out (by simp))
       have n3_ := Aside0.mk (KeepBut.trans z6x7 hk (.inl rfl))
       have n4_ := Aside0.mk (hb)
       have n5_ := Aside0.mk (hi)
       clear HO_175004
       clear BK168
       clear BK174
       clear HK
       clear HB
       clear HI0
       have HO_175004 := n0_
       have BK168 := n1_
       have BK174 := n2_
       have HK := n3_
       have HB := n4_
       have HI0 := n5_
       clear n0_ n1_ n2_ n3_ n4_ n5_
       (try clear hb)
       (try clear hb2)
       (try clear hk)
       (try clear hi)
       refine hK.out _ _ ⟨(blk_cell BK174.out 0).trans rfl, (blk_cell BK174.out 1).trans rfl, (blk_cell BK174.out 2).trans rfl, (blk_cell BK174.out 3).trans rfl, (blk_cell BK174.out 4).trans rfl⟩ (fun hHeld => ?_)
       clear hK K
       refine norm_ (a' := ?_) ?_ ?_
       rotate_left
       ·show Act.put _ (some 57) _ = _
        simp only [Act.put, List.setIfInBounds_toArray, List.set_cons_zero, List.set_cons_succ, i64_w, i32_w]
        rfl
       refine one_ (i := 4) (N := some 58) #[true, true, true, true, true, false, false, false] rfl rfl (one_of HT_.out (by kernel_rfl)) (by decide) (fun K hK => ?_)
       refine value_ (w1 := ?_) (v := ?_) (by rfl) rfl ?_ ?_
       rotate_left 2
       ·go_simp
        constructor
        ·rfl
        ·rfl
       refine hK.out _ _ ⟨(blk_cell (blk_alloc BK174.out _) 0).trans rfl, (blk_cell (blk_alloc BK174.out _) 1).trans rfl, (blk_cell (blk_alloc BK174.out _) 2).trans rfl, (blk_cell (blk_alloc BK174.out _) 3).trans rfl, (blk_cell (blk_alloc BK174.out _) 4).trans rfl⟩ (fun hHeld => ?_)
       clear hK K
       refine norm_ (a' := ?_) ?_ ?_
       rotate_left
       ·show Act.put _ (some 58) _ = _
        simp only [Act.put, List.setIfInBounds_toArray, List.set_cons_zero, List.set_cons_succ, i64_w, i32_w]
        rfl
       refine one_ (i := 5) (N := some 59) #[true, true, true, true, true, true, false, false] rfl rfl (one_of HT_.out (by kernel_rfl)) (by decide) (fun K hK => ?_)
       refine Kd.R_append_step k41 w.heap.size (by rfl) (.tmp 55) (.tmp 58) 32 41 (.agg #[(.int .i64 0), (.int .i64 0), (.int .i64 0), (.int .i64 0), (.int .i64 0), (.int .i64 0), (.int .i64 0)]) 56 rfl Try.underlying32 info41 rfl (by decide) (by omega) u175004 x175004_2 (⟨t189, t190, t191, t192, t193, t194, t195⟩ : S41) [.int .i64 t189, .int .i64 t190, .int .i64 t191, .int .i64 t192, .int .i64 t193, .int .i64 t194, .int .i64 t195] (fun _ => True) (fun _ => False) rfl rfl ?aP (fun _ hk => hk.elim) ?aF ?aO (Below.refl _ _) ?aS ?aL ?_
       (case aP => exact k41_mkM _ _ _ (⟨t189, t190, t191, t192, t193, t194, t195⟩ : S41))
       (case aF => exact (fun _ _ => trivial))
       (case aO => exact z6x15)
       (case aS => exact (keep_size (w := w) (g := g) (row := none) z6x7))
       (case aL => have := LMc50.out; omega)
       intro v198 w53 ho hb hg hat
       rw [← Ny197.out] at ho
       have n0_ := Aside0.mk (blk_grown (g := gb168) (o := .cells #[.int .i64 0, .int .i64 0, .int .i64 0, .int .i64 0, .slice none 0 0] 34 (0, 0)) z6x13 hg (Kd.R_ne HO_175004.out BK168.out (by decide)))
       have n1_ := Aside0.mk (blk_grown (g := gb174) (o := .cells #[.int .i64 (wrap64 (1 + t169)), .int .i64 x175001_2, .int .i64 x175002_2, .int .i64 x175003_2, u175004] 34 (0, 0)) z6x14 hg (Kd.R_ne HO_175004.out BK174.out (by decide)))
       have n2_ := Aside0.mk (IsS150.grown z6x6 hg (IsS150.own_ne HI0.out HO_175004.out (by decide)))
       have n3_ := Aside0.mk (below_weaken z6x5 HL.out hb)
       have n4_ := Aside0.mk (KeepBut.trans z6x7 (KeepBut.of_grown hg g) (Kd.R_base2 HO_175004.out))
       have n5_ := Aside0.mk (ho)
       clear BK168
       clear BK174
       clear HI0
       clear HB
       clear HK
       clear HO_175004
       have BK168 := n0_
       have BK174 := n1_
       have HI0 := n2_
       have HB := n3_
       have HK := n4_
       have HO199 := n5_
       clear n0_ n1_ n2_ n3_ n4_ n5_
       clear ho hb hg hat
       obtain ⟨Ao54, co54, eo54⟩ := Kd.R_slice HO199.out
       (first | subst eo54 | (injection eo54 with f1_ f2_ f3_; have f4_ := f1_.symm; have f5_ := f3_.symm; clear f1_ f2_ f3_; subst f4_; subst f5_))
       refine hK.out _ _ ⟨(blk_cell BK174.out 0).trans rfl, (blk_cell BK174.out 1).trans rfl, (blk_cell BK174.out 2).trans rfl, (blk_cell BK174.out 3).trans rfl, (blk_cell BK174.out 4).trans rfl⟩ (fun hHeld => ?_)
       clear hK K
       refine norm_ (a' := ?_) ?_ ?_
       rotate_left
       ·show Act.put _ (some 59) _ = _
        simp only [Act.put, List.setIfInBounds_toArray, List.set_cons_zero, List.set_cons_succ, i64_w, i32_w]
        rfl
       refine pure_ (i := 6) (N := some 60) (v := ?_) (a' := ?_) #[true, true, true, true, true, true, true, false] rfl rfl (any_of HT_.out (by kernel_rfl)) (fun _ _ _ h => h) (Or.inl ⟨by rfl, ?_⟩) ?_ ?_
       rotate_left
       ·intro w'
        go_simp
        with_reducible rfl
       rotate_left
       ·simp only [Act.put, List.setIfInBounds_toArray, List.set_cons_zero, List.set_cons_succ, i64_w, i32_w]
        rfl
       refine last_ (i := 7) (N := none) #[true, true, true, true, true, true, true, true] rfl rfl (one_of HT_.out (by kernel_rfl)) (by decide) (fun K hK => ?_)
       have hs55 : w53.cell? ⟨gb174, 4, none⟩ = some (u175004) := (blk_cell BK174.out 4).trans rfl
       have hfs55 := blk_frozen BK174.out 4
       have hns55_0 := NB168_174.out
       have hms55_0 := NB174_168.out
       refine skip_ (w1 := ?_) (by rfl) rfl ?_ ?_
       rotate_left
       ·go_simp
        rfl
       refine hK.out _ _ ?_
       clear hK K
       refine done_ (done_of HT_.out (by kernel_rfl)) ?_
       try go_wp2
       go_roundg k2
       case measure => have := HJ2.out; have := HK2.out; omega
       case rel => exact ⟨(wrap64 (x5_2 + 1)), (t196), (y197), (.slice Ao54 y197.length co54), (by first | rfl | (simp; done) | (simp [*]; done)), H', ⟨by have := HJ2.out; have := HK2.out; omega⟩, ⟨by (with_reducible repeat (first | apply Kd.R_alloc | apply Kd.R_drewN | apply Kd.R_drew)); exact Kd.R_mono (Kd.R_far (p := ⟨gb174, 4, none⟩) (Kd.R_types HO199.out BK174.out (by decide)) (fun _ hk => hk.2) (.slice Ao54 y197.length co54)) (fun _ hk => trivial)⟩, ⟨by (with_reducible repeat (first | refine blk_drewN ?_ _ | refine blk_drew ?_ | refine blk_alloc ?_ _)); refine blk_far ?_ NB168_174.out _; (with_reducible repeat (first | refine blk_drewN ?_ _ | refine blk_drew ?_ | refine blk_alloc ?_ _)); exact BK168.out⟩, ⟨by (with_reducible repeat (first | refine blk_drewN ?_ _ | refine blk_drew ?_ | refine blk_alloc ?_ _)); refine blk_put (cs := #[.int .i64 (wrap64 (1 + t169)), .int .i64 x175001_2, .int .i64 x175002_2, .int .i64 x175003_2, u175004]) ?_ 4 _ rfl; (with_reducible repeat (first | refine blk_drewN ?_ _ | refine blk_drew ?_ | refine blk_alloc ?_ _)); exact BK174.out⟩, ⟨by repeat (first | (with_reducible first | exact HI0.out | apply IsS150.alloc | apply IsS150.drewN | apply IsS150.drew | apply IsS150.set_1 | refine IsS150.far ?_ NB0_168.out _ | refine IsS150.far ?_ NB0_174.out _) | exact HI0.out)⟩, ⟨by repeat (first | (with_reducible first | exact HK.out | apply KeepBut.set_ | apply keep_drewN | apply keep_drew | apply keep_alloc | refine keep_far ?_ GW168.out _ | refine keep_far ?_ GW174.out _) | exact HK.out)⟩, ⟨by repeat (first | (with_reducible first | exact HB.out | apply below_alloc | apply pw_below_drewN | apply below_drew1 | refine below_set ?_ (IsS150.ge HI0.out) | refine below_set ?_ GE168.out | refine below_set ?_ GE174.out) | exact HB.out)⟩⟩
      ·rw [if_neg c50] at H
       exact absurd H (by simp)
     ·rw [if_neg c48] at H
      have c48b0 : decide (x5_2 < x4_2) = false := decide_eq_false c48
      clear c48
      replace H := Option.bind_eq_some_iff.mp H
      obtain ⟨⟨t200, t201⟩, A560, H⟩ := H
      replace H : (if t200 = 0 then ((spec_l6Rd_pick.f k2 s0_0 t201 8).bind fun bt202 => (some (bt202.1, x175001_2, x175002_2, x175003_2, x175004_2, bt202.2))) else (if t200 = 1 then ((spec_l6Rd_pick.f k2 s0_0 t201 5).bind fun bt204 => (some ((wrap64 (1 + t169)), bt204.1, x175002_2, x175003_2, x175004_2, bt204.2))) else (if t200 = 2 then ((spec_l6Rd_pick.f k2 s0_0 t201 7).bind fun bt206 => (some ((wrap64 (1 + t169)), x175001_2, bt206.1, x175003_2, x175004_2, bt206.2))) else (if t200 = 3 then ((some (([0, 5, 61] : List Int) : List Int)).bind fun y208 => ((spec_l6Rd_pick.f k2 s0_0 t201 3).bind fun bt211 => (if 0 ≤ bt211.1 then (if bt211.1 < (y208.length : Int) then (some ((wrap64 (1 + t169)), x175001_2, x175002_2, rd y208 bt211.1, x175004_2, bt211.2)) else (none)) else (none)))) else (if t200 = 4 then ((spec_l71Seal.f k2 s0_0 t201).bind fun bt214 => (if x175004_2.length < 2513169434916 then (some ((wrap64 (1 + t169)), x175001_2, x175002_2, x175003_2, (x175004_2 ++ [(⟨bt214.1, bt214.2.1, bt214.2.2.1, bt214.2.2.2.1, bt214.2.2.2.2.1, bt214.2.2.2.2.2.1, bt214.2.2.2.2.2.2.1⟩ : S41)]), bt214.2.2.2.2.2.2.2)) else (none))) else (some ((wrap64 (1 + t169)), x175001_2, x175002_2, x175003_2, x175004_2, t201))))))) = some (r1, r2, r3, r4, r5, r6) := H
      have A56 := Aside0.mk A560
      clear A560
      by_cases c57 : t200 = 0
      ·rw [if_pos c57] at H
       have c57b0 : (t200 == 0) = true := beq_iff_eq.mpr c57
       have c57b1 : (t200 != 0) = false := bne_eq_false_iff_eq.mpr c57
       clear c57
       replace H := Option.bind_eq_some_iff.mp H
       obtain ⟨⟨t202, t203⟩, A580, H⟩ := H
       replace H : (some (t202, x175001_2, x175002_2, x175003_2, x175004_2, t203)) = some (r1, r2, r3, r4, r5, r6) := H
       have A58 := Aside0.mk A580
       clear A580
       simp only [Option.some.injEq, Prod.mk.injEq] at H
       obtain ⟨rfl, rfl, rfl, rfl, rfl, rfl⟩ := H
       go_wp2_with (first | ((with_reducible refine gate_callee (f := 64) rfl ?_); refine goesL_ (some 62) rfl rfl Try.func64 (by kernel_rfl) rfl #[.pointer (some ⟨g, 0, none⟩), .int .i64 20] rfl z6x12 ?_; (with_reducible refine (spec_l6Rd_pick.calls k2 g s0_0 x1001_2 20 t200 t201 w0 _ ?side1 ?side2 A56.out).mono ?_); (case side1 => repeat (first | (with_reducible first | exact HI0.out | apply IsS150.alloc | apply IsS150.drewN | apply IsS150.drew | apply IsS150.set_1 | refine IsS150.far ?_ NB0_168.out _ | refine IsS150.far ?_ NB0_174.out _) | exact HI0.out)); (case side2 => repeat (first | (with_reducible first | exact HB.out | apply below_alloc | apply pw_below_drewN | apply below_drew1 | refine below_set ?_ (IsS150.ge HI0.out) | refine below_set ?_ GE168.out | refine below_set ?_ GE174.out) | exact HB.out)); rintro e w59 ⟨rfl, hi, hb, hk⟩; refine ⟨_, rfl, ?_⟩; have n0_ := Aside0.mk (Kd.R_mono (Kd.R_keep (IsS150.apart (show IsS150 w0 _ g s0_0 x1001_2 from by repeat (first | (with_reducible first | exact HI0.out | apply IsS150.alloc | apply IsS150.drewN | apply IsS150.drew | apply IsS150.set_1 | refine IsS150.far ?_ NB0_168.out _ | refine IsS150.far ?_ NB0_174.out _) | exact HI0.out)) z6x15 (by decide)) hk (fun _ h => h.2)) (fun _ h => h.1)); have n1_ := Aside0.mk (KeepBut.blk hk (g' := gb168) (o := .cells #[.int .i64 0, .int .i64 0, .int .i64 0, .int .i64 0, .slice none 0 0] 34 (0, 0)) z6x13 NB168_0.out (by simp)); have n2_ := Aside0.mk (KeepBut.blk hk (g' := gb174) (o := .cells #[.int .i64 (wrap64 (1 + t169)), .int .i64 x175001_2, .int .i64 x175002_2, .int .i64 x175003_2, u175004] 34 (0, 0)) z6x14 NB174_0.out (by simp)); have n3_ := Aside0.mk (KeepBut.trans z6x7 hk (.inl rfl)); have n4_ := Aside0.mk (hb); have n5_ := Aside0.mk (hi); clear HO_175004; clear BK168; clear BK174; clear HK; clear HB; clear HI0; have HO_175004 := n0_; have BK168 := n1_; have BK174 := n2_; have HK := n3_; have HB := n4_; have HI0 := n5_; clear n0_ n1_ n2_ n3_ n4_ n5_; (try clear hb); (try clear hb2); (try clear hk); (try clear hi)) | ((with_reducible refine gate_callee (f := 64) rfl ?_); refine goesL_ (some 66) rfl rfl Try.func64 (by kernel_rfl) rfl #[.pointer (some ⟨g, 0, none⟩), .int .i64 8] rfl z6x12 ?_; (with_reducible refine (spec_l6Rd_pick.calls k2 g s0_0 t201 8 t202 t203 w0 _ ?side1 ?side2 A58.out).mono ?_); (case side1 => repeat (first | (with_reducible first | exact HI0.out | apply IsS150.alloc | apply IsS150.drewN | apply IsS150.drew | apply IsS150.set_1 | refine IsS150.far ?_ NB0_168.out _ | refine IsS150.far ?_ NB0_174.out _) | exact HI0.out)); (case side2 => repeat (first | (with_reducible first | exact HB.out | apply below_alloc | apply pw_below_drewN | apply below_drew1 | refine below_set ?_ (IsS150.ge HI0.out) | refine below_set ?_ GE168.out | refine below_set ?_ GE174.out) | exact HB.out)); rintro e w60 ⟨rfl, hi, hb, hk⟩; refine ⟨_, rfl, ?_⟩; have n0_ := Aside0.mk (Kd.R_mono (Kd.R_keep (IsS150.apart (show IsS150 w0 _ g s0_0 t201 from by repeat (first | (with_reducible first | exact HI0.out | apply IsS150.alloc | apply IsS150.drewN | apply IsS150.drew | apply IsS150.set_1 | refine IsS150.far ?_ NB0_168.out _ | refine IsS150.far ?_ NB0_174.out _) | exact HI0.out)) z6x15 (by decide)) hk (fun _ h => h.2)) (fun _ h => h.1)); have n1_ := Aside0.mk (KeepBut.blk hk (g' := gb168) (o := .cells #[.int .i64 0, .int .i64 0, .int .i64 0, .int .i64 0, .slice none 0 0] 34 (0, 0)) z6x13 NB168_0.out (by simp)); have n2_ := Aside0.mk (KeepBut.blk hk (g' := gb174) (o := .cells #[.int .i64 (wrap64 (1 + t169)), .int .i64 x175001_2, .int .i64 x175002_2, .int .i64 x175003_2, u175004] 34 (0, 0)) z6x14 NB174_0.out (by simp)); have n3_ := Aside0.mk (KeepBut.trans z6x7 hk (.inl rfl)); have n4_ := Aside0.mk (hb); have n5_ := Aside0.mk (hi); clear HO_175004; clear BK168; clear BK174; clear HK; clear HB; clear HI0; have HO_175004 := n0_; have BK168 := n1_; have BK174 := n2_; have HK := n3_; have HB := n4_; have HI0 := n5_; clear n0_ n1_ n2_ n3_ n4_ n5_; (try clear hb); (try clear hb2); (try clear hk); (try clear hi); have hnb61 := NB174_168.out; have hnc61 := NB168_174.out; have hnb62 := NB174_0.out; have hnc62 := NB0_174.out; have hcz63_0 : w60.cell? ⟨gb174, 0, none⟩ = some (.int .i64 (wrap64 (1 + t169))) := (blk_cell BK174.out 0).trans rfl; have hcz63_1 : w60.cell? ⟨gb174, 1, none⟩ = some (.int .i64 x175001_2) := (blk_cell BK174.out 1).trans rfl; have hcz63_2 : w60.cell? ⟨gb174, 2, none⟩ = some (.int .i64 x175002_2) := (blk_cell BK174.out 2).trans rfl; have hcz63_3 : w60.cell? ⟨gb174, 3, none⟩ = some (.int .i64 x175003_2) := (blk_cell BK174.out 3).trans rfl; have hcz63_4 : w60.cell? ⟨gb174, 4, none⟩ = some (u175004) := (blk_cell BK174.out 4).trans rfl; have hfz63_0 := blk_frozen BK174.out 0; have hfz63_1 := blk_frozen BK174.out 1; have hfz63_2 := blk_frozen BK174.out 2; have hfz63_3 := blk_frozen BK174.out 3; have hfz63_4 := blk_frozen BK174.out 4; have hnb64 := NB168_0.out; have hnc64 := NB0_168.out; have hcz65_0 : w60.cell? ⟨gb168, 0, none⟩ = some (.int .i64 0) := (blk_cell BK168.out 0).trans rfl; have hcz65_1 : w60.cell? ⟨gb168, 1, none⟩ = some (.int .i64 0) := (blk_cell BK168.out 1).trans rfl; have hcz65_2 : w60.cell? ⟨gb168, 2, none⟩ = some (.int .i64 0) := (blk_cell BK168.out 2).trans rfl; have hcz65_3 : w60.cell? ⟨gb168, 3, none⟩ = some (.int .i64 0) := (blk_cell BK168.out 3).trans rfl; have hcz65_4 : w60.cell? ⟨gb168, 4, none⟩ = some (.slice none 0 0) := (blk_cell BK168.out 4).trans rfl; have hfz65_0 := blk_frozen BK168.out 0; have hfz65_1 := blk_frozen BK168.out 1; have hfz65_2 := blk_frozen BK168.out 2; have hfz65_3 := blk_frozen BK168.out 3; have hfz65_4 := blk_frozen BK168.out 4; obtain ⟨Ao66, co66, eo66⟩ := Kd.R_slice HO_175004.out; subst eo66))
       refine bodyPost_ret (results_cell_row rfl _ _ gb168 34 #[.int .i64 t202, .int .i64 x175001_2, .int .i64 x175002_2, .int .i64 x175003_2, .slice Ao66 x175004_2.length co66] (0, 0) _ rfl (by (with_reducible repeat (first | refine blk_drewN ?_ _ | refine blk_drew ?_ | refine blk_alloc ?_ _)); refine blk_put (cs := #[.int .i64 t202, .int .i64 x175001_2, .int .i64 x175002_2, .int .i64 x175003_2, .slice none 0 0]) ?_ 4 _ rfl; (with_reducible repeat (first | refine blk_drewN ?_ _ | refine blk_drew ?_ | refine blk_alloc ?_ _)); refine blk_put (cs := #[.int .i64 t202, .int .i64 x175001_2, .int .i64 x175002_2, .int .i64 0, .slice none 0 0]) ?_ 3 _ rfl; (with_reducible repeat (first | refine blk_drewN ?_ _ | refine blk_drew ?_ | refine blk_alloc ?_ _)); refine blk_put (cs := #[.int .i64 t202, .int .i64 x175001_2, .int .i64 0, .int .i64 0, .slice none 0 0]) ?_ 2 _ rfl; (with_reducible repeat (first | refine blk_drewN ?_ _ | refine blk_drew ?_ | refine blk_alloc ?_ _)); refine blk_put (cs := #[.int .i64 t202, .int .i64 0, .int .i64 0, .int .i64 0, .slice none 0 0]) ?_ 1 _ rfl; (with_reducible repeat (first | refine blk_drewN ?_ _ | refine blk_drew ?_ | refine blk_alloc ?_ _)); refine blk_put (cs := #[.int .i64 0, .int .i64 0, .int .i64 0, .int .i64 0, .slice none 0 0]) ?_ 0 _ rfl; (with_reducible repeat (first | refine blk_drewN ?_ _ | refine blk_drew ?_ | refine blk_alloc ?_ _)); refine blk_far ?_ NB168_174.out _; (with_reducible repeat (first | refine blk_drewN ?_ _ | refine blk_drew ?_ | refine blk_alloc ?_ _)); exact BK168.out) Try.underlying34 rfl (by kernel_rfl)) rfl ?_
       exact ⟨_, by first | rfl | (simp [errW_none, errW_some] <;> rfl) | (simp [*, errW_none, errW_some] <;> rfl), by (with_reducible repeat (first | apply Kd.R_alloc | apply Kd.R_drewN | apply Kd.R_drew)); exact Kd.R_mono (Kd.R_far (p := ⟨gb168, 4, none⟩) (Kd.R_far (p := ⟨gb168, 3, none⟩) (Kd.R_far (p := ⟨gb168, 2, none⟩) (Kd.R_far (p := ⟨gb168, 1, none⟩) (Kd.R_far (p := ⟨gb168, 0, none⟩) (Kd.R_far (p := ⟨gb174, 0, none⟩) (Kd.R_types (Kd.R_types HO_175004.out BK174.out (by decide)) BK168.out (by decide)) (fun _ hk => hk.1.2) (.int .i64 t202)) (fun _ hk => hk.2) (.int .i64 t202)) (fun _ hk => hk.2) (.int .i64 x175001_2)) (fun _ hk => hk.2) (.int .i64 x175002_2)) (fun _ hk => hk.2) (.int .i64 x175003_2)) (fun _ hk => hk.2) (.slice Ao66 x175004_2.length co66)) (fun _ hk => trivial), by repeat (first | (with_reducible first | exact HI0.out | apply IsS150.alloc | apply IsS150.drewN | apply IsS150.drew | apply IsS150.set_1 | refine IsS150.far ?_ NB0_168.out _ | refine IsS150.far ?_ NB0_174.out _) | exact HI0.out), by repeat (first | (with_reducible first | exact HB.out | apply below_alloc | apply pw_below_drewN | apply below_drew1 | refine below_set ?_ (IsS150.ge HI0.out) | refine below_set ?_ GE168.out | refine below_set ?_ GE174.out) | exact HB.out), by repeat (first | (with_reducible first | exact HK.out | apply KeepBut.set_ | apply keep_drewN | apply keep_drew | apply keep_alloc | refine keep_far ?_ GW168.out _ | refine keep_far ?_ GW174.out _) | exact HK.out)⟩
      ·rw [if_neg c57] at H
       have c57b0 : (t200 == 0) = false := beq_eq_false_iff_ne.mpr c57
       have c57b1 : (t200 != 0) = true := bne_iff_ne.mpr c57
       by_cases c67 : t200 = 1
       ·rw [if_pos c67] at H
        have c67b0 : (t200 == 1) = true := beq_iff_eq.mpr c67
        have c67b1 : (t200 != 1) = false := bne_eq_false_iff_eq.mpr c67
        clear c67
        replace H := Option.bind_eq_some_iff.mp H
        obtain ⟨⟨t204, t205⟩, A680, H⟩ := H
        replace H : (some ((wrap64 (1 + t169)), t204, x175002_2, x175003_2, x175004_2, t205)) = some (r1, r2, r3, r4, r5, r6) := H
        have A68 := Aside0.mk A680
        clear A680
        simp only [Option.some.injEq, Prod.mk.injEq] at H
        obtain ⟨rfl, rfl, rfl, rfl, rfl, rfl⟩ := H
        go_wp2_with (first | ((with_reducible refine gate_callee (f := 64) rfl ?_); refine goesL_ (some 62) rfl rfl Try.func64 (by kernel_rfl) rfl #[.pointer (some ⟨g, 0, none⟩), .int .i64 20] rfl z6x12 ?_; (with_reducible refine (spec_l6Rd_pick.calls k2 g s0_0 x1001_2 20 t200 t201 w0 _ ?side1 ?side2 A56.out).mono ?_); (case side1 => repeat (first | (with_reducible first | exact HI0.out | apply IsS150.alloc | apply IsS150.drewN | apply IsS150.drew | apply IsS150.set_1 | refine IsS150.far ?_ NB0_168.out _ | refine IsS150.far ?_ NB0_174.out _) | exact HI0.out)); (case side2 => repeat (first | (with_reducible first | exact HB.out | apply below_alloc | apply pw_below_drewN | apply below_drew1 | refine below_set ?_ (IsS150.ge HI0.out) | refine below_set ?_ GE168.out | refine below_set ?_ GE174.out) | exact HB.out)); rintro e w69 ⟨rfl, hi, hb, hk⟩; refine ⟨_, rfl, ?_⟩; have n0_ := Aside0.mk (Kd.R_mono (Kd.R_keep (IsS150.apart (show IsS150 w0 _ g s0_0 x1001_2 from by repeat (first | (with_reducible first | exact HI0.out | apply IsS150.alloc | apply IsS150.drewN | apply IsS150.drew | apply IsS150.set_1 | refine IsS150.far ?_ NB0_168.out _ | refine IsS150.far ?_ NB0_174.out _) | exact HI0.out)) z6x15 (by decide)) hk (fun _ h => h.2)) (fun _ h => h.1)); have n1_ := Aside0.mk (KeepBut.blk hk (g' := gb168) (o := .cells #[.int .i64 0, .int .i64 0, .int .i64 0, .int .i64 0, .slice none 0 0] 34 (0, 0)) z6x13 NB168_0.out (by simp)); have n2_ := Aside0.mk (KeepBut.blk hk (g' := gb174) (o := .cells #[.int .i64 (wrap64 (1 + t169)), .int .i64 x175001_2, .int .i64 x175002_2, .int .i64 x175003_2, u175004] 34 (0, 0)) z6x14 NB174_0.out (by simp)); have n3_ := Aside0.mk (KeepBut.trans z6x7 hk (.inl rfl)); have n4_ := Aside0.mk (hb); have n5_ := Aside0.mk (hi); clear HO_175004; clear BK168; clear BK174; clear HK; clear HB; clear HI0; have HO_175004 := n0_; have BK168 := n1_; have BK174 := n2_; have HK := n3_; have HB := n4_; have HI0 := n5_; clear n0_ n1_ n2_ n3_ n4_ n5_; (try clear hb); (try clear hb2); (try clear hk); (try clear hi)) | ((with_reducible refine gate_callee (f := 64) rfl ?_); refine goesL_ (some 71) rfl rfl Try.func64 (by kernel_rfl) rfl #[.pointer (some ⟨g, 0, none⟩), .int .i64 5] rfl z6x12 ?_; (with_reducible refine (spec_l6Rd_pick.calls k2 g s0_0 t201 5 t204 t205 w0 _ ?side1 ?side2 A68.out).mono ?_); (case side1 => repeat (first | (with_reducible first | exact HI0.out | apply IsS150.alloc | apply IsS150.drewN | apply IsS150.drew | apply IsS150.set_1 | refine IsS150.far ?_ NB0_168.out _ | refine IsS150.far ?_ NB0_174.out _) | exact HI0.out)); (case side2 => repeat (first | (with_reducible first | exact HB.out | apply below_alloc | apply pw_below_drewN | apply below_drew1 | refine below_set ?_ (IsS150.ge HI0.out) | refine below_set ?_ GE168.out | refine below_set ?_ GE174.out) | exact HB.out)); rintro e w70 ⟨rfl, hi, hb, hk⟩; refine ⟨_, rfl, ?_⟩; have n0_ := Aside0.mk (Kd.R_mono (Kd.R_keep (IsS150.apart (show IsS150 w0 _ g s0_0 t201 from by repeat (first | (with_reducible first | exact HI0.out | apply IsS150.alloc | apply IsS150.drewN | apply IsS150.drew | apply IsS150.set_1 | refine IsS150.far ?_ NB0_168.out _ | refine IsS150.far ?_ NB0_174.out _) | exact HI0.out)) z6x15 (by decide)) hk (fun _ h => h.2)) (fun _ h => h.1)); have n1_ := Aside0.mk (KeepBut.blk hk (g' := gb168) (o := .cells #[.int .i64 0, .int .i64 0, .int .i64 0, .int .i64 0, .slice none 0 0] 34 (0, 0)) z6x13 NB168_0.out (by simp)); have n2_ := Aside0.mk (KeepBut.blk hk (g' := gb174) (o := .cells #[.int .i64 (wrap64 (1 + t169)), .int .i64 x175001_2, .int .i64 x175002_2, .int .i64 x175003_2, u175004] 34 (0, 0)) z6x14 NB174_0.out (by simp)); have n3_ := Aside0.mk (KeepBut.trans z6x7 hk (.inl rfl)); have n4_ := Aside0.mk (hb); have n5_ := Aside0.mk (hi); clear HO_175004; clear BK168; clear BK174; clear HK; clear HB; clear HI0; have HO_175004 := n0_; have BK168 := n1_; have BK174 := n2_; have HK := n3_; have HB := n4_; have HI0 := n5_; clear n0_ n1_ n2_ n3_ n4_ n5_; (try clear hb); (try clear hb2); (try clear hk); (try clear hi); have hnb71 := NB174_168.out; have hnc71 := NB168_174.out; have hnb72 := NB174_0.out; have hnc72 := NB0_174.out; have hcz73_0 : w70.cell? ⟨gb174, 0, none⟩ = some (.int .i64 (wrap64 (1 + t169))) := (blk_cell BK174.out 0).trans rfl; have hcz73_1 : w70.cell? ⟨gb174, 1, none⟩ = some (.int .i64 x175001_2) := (blk_cell BK174.out 1).trans rfl; have hcz73_2 : w70.cell? ⟨gb174, 2, none⟩ = some (.int .i64 x175002_2) := (blk_cell BK174.out 2).trans rfl; have hcz73_3 : w70.cell? ⟨gb174, 3, none⟩ = some (.int .i64 x175003_2) := (blk_cell BK174.out 3).trans rfl; have hcz73_4 : w70.cell? ⟨gb174, 4, none⟩ = some (u175004) := (blk_cell BK174.out 4).trans rfl; have hfz73_0 := blk_frozen BK174.out 0; have hfz73_1 := blk_frozen BK174.out 1; have hfz73_2 := blk_frozen BK174.out 2; have hfz73_3 := blk_frozen BK174.out 3; have hfz73_4 := blk_frozen BK174.out 4; have hnb74 := NB168_0.out; have hnc74 := NB0_168.out; have hcz75_0 : w70.cell? ⟨gb168, 0, none⟩ = some (.int .i64 0) := (blk_cell BK168.out 0).trans rfl; have hcz75_1 : w70.cell? ⟨gb168, 1, none⟩ = some (.int .i64 0) := (blk_cell BK168.out 1).trans rfl; have hcz75_2 : w70.cell? ⟨gb168, 2, none⟩ = some (.int .i64 0) := (blk_cell BK168.out 2).trans rfl; have hcz75_3 : w70.cell? ⟨gb168, 3, none⟩ = some (.int .i64 0) := (blk_cell BK168.out 3).trans rfl; have hcz75_4 : w70.cell? ⟨gb168, 4, none⟩ = some (.slice none 0 0) := (blk_cell BK168.out 4).trans rfl; have hfz75_0 := blk_frozen BK168.out 0; have hfz75_1 := blk_frozen BK168.out 1; have hfz75_2 := blk_frozen BK168.out 2; have hfz75_3 := blk_frozen BK168.out 3; have hfz75_4 := blk_frozen BK168.out 4; obtain ⟨Ao76, co76, eo76⟩ := Kd.R_slice HO_175004.out; subst eo76))
        refine bodyPost_ret (results_cell_row rfl _ _ gb168 34 #[.int .i64 (wrap64 (1 + t169)), .int .i64 t204, .int .i64 x175002_2, .int .i64 x175003_2, .slice Ao76 x175004_2.length co76] (0, 0) _ rfl (by (with_reducible repeat (first | refine blk_drewN ?_ _ | refine blk_drew ?_ | refine blk_alloc ?_ _)); refine blk_put (cs := #[.int .i64 (wrap64 (1 + t169)), .int .i64 t204, .int .i64 x175002_2, .int .i64 x175003_2, .slice none 0 0]) ?_ 4 _ rfl; (with_reducible repeat (first | refine blk_drewN ?_ _ | refine blk_drew ?_ | refine blk_alloc ?_ _)); refine blk_put (cs := #[.int .i64 (wrap64 (1 + t169)), .int .i64 t204, .int .i64 x175002_2, .int .i64 0, .slice none 0 0]) ?_ 3 _ rfl; (with_reducible repeat (first | refine blk_drewN ?_ _ | refine blk_drew ?_ | refine blk_alloc ?_ _)); refine blk_put (cs := #[.int .i64 (wrap64 (1 + t169)), .int .i64 t204, .int .i64 0, .int .i64 0, .slice none 0 0]) ?_ 2 _ rfl; (with_reducible repeat (first | refine blk_drewN ?_ _ | refine blk_drew ?_ | refine blk_alloc ?_ _)); refine blk_put (cs := #[.int .i64 (wrap64 (1 + t169)), .int .i64 0, .int .i64 0, .int .i64 0, .slice none 0 0]) ?_ 1 _ rfl; (with_reducible repeat (first | refine blk_drewN ?_ _ | refine blk_drew ?_ | refine blk_alloc ?_ _)); refine blk_put (cs := #[.int .i64 0, .int .i64 0, .int .i64 0, .int .i64 0, .slice none 0 0]) ?_ 0 _ rfl; (with_reducible repeat (first | refine blk_drewN ?_ _ | refine blk_drew ?_ | refine blk_alloc ?_ _)); refine blk_far ?_ NB168_174.out _; (with_reducible repeat (first | refine blk_drewN ?_ _ | refine blk_drew ?_ | refine blk_alloc ?_ _)); exact BK168.out) Try.underlying34 rfl (by kernel_rfl)) rfl ?_
        exact ⟨_, by first | rfl | (simp [errW_none, errW_some] <;> rfl) | (simp [*, errW_none, errW_some] <;> rfl), by (with_reducible repeat (first | apply Kd.R_alloc | apply Kd.R_drewN | apply Kd.R_drew)); exact Kd.R_mono (Kd.R_far (p := ⟨gb168, 4, none⟩) (Kd.R_far (p := ⟨gb168, 3, none⟩) (Kd.R_far (p := ⟨gb168, 2, none⟩) (Kd.R_far (p := ⟨gb168, 1, none⟩) (Kd.R_far (p := ⟨gb168, 0, none⟩) (Kd.R_far (p := ⟨gb174, 1, none⟩) (Kd.R_types (Kd.R_types HO_175004.out BK174.out (by decide)) BK168.out (by decide)) (fun _ hk => hk.1.2) (.int .i64 t204)) (fun _ hk => hk.2) (.int .i64 (wrap64 (1 + t169)))) (fun _ hk => hk.2) (.int .i64 t204)) (fun _ hk => hk.2) (.int .i64 x175002_2)) (fun _ hk => hk.2) (.int .i64 x175003_2)) (fun _ hk => hk.2) (.slice Ao76 x175004_2.length co76)) (fun _ hk => trivial), by repeat (first | (with_reducible first | exact HI0.out | apply IsS150.alloc | apply IsS150.drewN | apply IsS150.drew | apply IsS150.set_1 | refine IsS150.far ?_ NB0_168.out _ | refine IsS150.far ?_ NB0_174.out _) | exact HI0.out), by repeat (first | (with_reducible first | exact HB.out | apply below_alloc | apply pw_below_drewN | apply below_drew1 | refine below_set ?_ (IsS150.ge HI0.out) | refine below_set ?_ GE168.out | refine below_set ?_ GE174.out) | exact HB.out), by repeat (first | (with_reducible first | exact HK.out | apply KeepBut.set_ | apply keep_drewN | apply keep_drew | apply keep_alloc | refine keep_far ?_ GW168.out _ | refine keep_far ?_ GW174.out _) | exact HK.out)⟩
       ·rw [if_neg c67] at H
        have c67b0 : (t200 == 1) = false := beq_eq_false_iff_ne.mpr c67
        have c67b1 : (t200 != 1) = true := bne_iff_ne.mpr c67
        by_cases c77 : t200 = 2
        ·rw [if_pos c77] at H
         have c77b0 : (t200 == 2) = true := beq_iff_eq.mpr c77
         have c77b1 : (t200 != 2) = false := bne_eq_false_iff_eq.mpr c77
         clear c77
         replace H := Option.bind_eq_some_iff.mp H
         obtain ⟨⟨t206, t207⟩, A780, H⟩ := H
         replace H : (some ((wrap64 (1 + t169)), x175001_2, t206, x175003_2, x175004_2, t207)) = some (r1, r2, r3, r4, r5, r6) := H
         have A78 := Aside0.mk A780
         clear A780
         simp only [Option.some.injEq, Prod.mk.injEq] at H
         obtain ⟨rfl, rfl, rfl, rfl, rfl, rfl⟩ := H
         go_wp2_with (first | ((with_reducible refine gate_callee (f := 64) rfl ?_); refine goesL_ (some 62) rfl rfl Try.func64 (by kernel_rfl) rfl #[.pointer (some ⟨g, 0, none⟩), .int .i64 20] rfl z6x12 ?_; (with_reducible refine (spec_l6Rd_pick.calls k2 g s0_0 x1001_2 20 t200 t201 w0 _ ?side1 ?side2 A56.out).mono ?_); (case side1 => repeat (first | (with_reducible first | exact HI0.out | apply IsS150.alloc | apply IsS150.drewN | apply IsS150.drew | apply IsS150.set_1 | refine IsS150.far ?_ NB0_168.out _ | refine IsS150.far ?_ NB0_174.out _) | exact HI0.out)); (case side2 => repeat (first | (with_reducible first | exact HB.out | apply below_alloc | apply pw_below_drewN | apply below_drew1 | refine below_set ?_ (IsS150.ge HI0.out) | refine below_set ?_ GE168.out | refine below_set ?_ GE174.out) | exact HB.out)); rintro e w79 ⟨rfl, hi, hb, hk⟩; refine ⟨_, rfl, ?_⟩; have n0_ := Aside0.mk (Kd.R_mono (Kd.R_keep (IsS150.apart (show IsS150 w0 _ g s0_0 x1001_2 from by repeat (first | (with_reducible first | exact HI0.out | apply IsS150.alloc | apply IsS150.drewN | apply IsS150.drew | apply IsS150.set_1 | refine IsS150.far ?_ NB0_168.out _ | refine IsS150.far ?_ NB0_174.out _) | exact HI0.out)) z6x15 (by decide)) hk (fun _ h => h.2)) (fun _ h => h.1)); have n1_ := Aside0.mk (KeepBut.blk hk (g' := gb168) (o := .cells #[.int .i64 0, .int .i64 0, .int .i64 0, .int .i64 0, .slice none 0 0] 34 (0, 0)) z6x13 NB168_0.out (by simp)); have n2_ := Aside0.mk (KeepBut.blk hk (g' := gb174) (o := .cells #[.int .i64 (wrap64 (1 + t169)), .int .i64 x175001_2, .int .i64 x175002_2, .int .i64 x175003_2, u175004] 34 (0, 0)) z6x14 NB174_0.out (by simp)); have n3_ := Aside0.mk (KeepBut.trans z6x7 hk (.inl rfl)); have n4_ := Aside0.mk (hb); have n5_ := Aside0.mk (hi); clear HO_175004; clear BK168; clear BK174; clear HK; clear HB; clear HI0; have HO_175004 := n0_; have BK168 := n1_; have BK174 := n2_; have HK := n3_; have HB := n4_; have HI0 := n5_; clear n0_ n1_ n2_ n3_ n4_ n5_; (try clear hb); (try clear hb2); (try clear hk); (try clear hi)) | ((with_reducible refine gate_callee (f := 64) rfl ?_); refine goesL_ (some 76) rfl rfl Try.func64 (by kernel_rfl) rfl #[.pointer (some ⟨g, 0, none⟩), .int .i64 7] rfl z6x12 ?_; (with_reducible refine (spec_l6Rd_pick.calls k2 g s0_0 t201 7 t206 t207 w0 _ ?side1 ?side2 A78.out).mono ?_); (case side1 => repeat (first | (with_reducible first | exact HI0.out | apply IsS150.alloc | apply IsS150.drewN | apply IsS150.drew | apply IsS150.set_1 | refine IsS150.far ?_ NB0_168.out _ | refine IsS150.far ?_ NB0_174.out _) | exact HI0.out)); (case side2 => repeat (first | (with_reducible first | exact HB.out | apply below_alloc | apply pw_below_drewN | apply below_drew1 | refine below_set ?_ (IsS150.ge HI0.out) | refine below_set ?_ GE168.out | refine below_set ?_ GE174.out) | exact HB.out)); rintro e w80 ⟨rfl, hi, hb, hk⟩; refine ⟨_, rfl, ?_⟩; have n0_ := Aside0.mk (Kd.R_mono (Kd.R_keep (IsS150.apart (show IsS150 w0 _ g s0_0 t201 from by repeat (first | (with_reducible first | exact HI0.out | apply IsS150.alloc | apply IsS150.drewN | apply IsS150.drew | apply IsS150.set_1 | refine IsS150.far ?_ NB0_168.out _ | refine IsS150.far ?_ NB0_174.out _) | exact HI0.out)) z6x15 (by decide)) hk (fun _ h => h.2)) (fun _ h => h.1)); have n1_ := Aside0.mk (KeepBut.blk hk (g' := gb168) (o := .cells #[.int .i64 0, .int .i64 0, .int .i64 0, .int .i64 0, .slice none 0 0] 34 (0, 0)) z6x13 NB168_0.out (by simp)); have n2_ := Aside0.mk (KeepBut.blk hk (g' := gb174) (o := .cells #[.int .i64 (wrap64 (1 + t169)), .int .i64 x175001_2, .int .i64 x175002_2, .int .i64 x175003_2, u175004] 34 (0, 0)) z6x14 NB174_0.out (by simp)); have n3_ := Aside0.mk (KeepBut.trans z6x7 hk (.inl rfl)); have n4_ := Aside0.mk (hb); have n5_ := Aside0.mk (hi); clear HO_175004; clear BK168; clear BK174; clear HK; clear HB; clear HI0; have HO_175004 := n0_; have BK168 := n1_; have BK174 := n2_; have HK := n3_; have HB := n4_; have HI0 := n5_; clear n0_ n1_ n2_ n3_ n4_ n5_; (try clear hb); (try clear hb2); (try clear hk); (try clear hi); have hnb81 := NB174_168.out; have hnc81 := NB168_174.out; have hnb82 := NB174_0.out; have hnc82 := NB0_174.out; have hcz83_0 : w80.cell? ⟨gb174, 0, none⟩ = some (.int .i64 (wrap64 (1 + t169))) := (blk_cell BK174.out 0).trans rfl; have hcz83_1 : w80.cell? ⟨gb174, 1, none⟩ = some (.int .i64 x175001_2) := (blk_cell BK174.out 1).trans rfl; have hcz83_2 : w80.cell? ⟨gb174, 2, none⟩ = some (.int .i64 x175002_2) := (blk_cell BK174.out 2).trans rfl; have hcz83_3 : w80.cell? ⟨gb174, 3, none⟩ = some (.int .i64 x175003_2) := (blk_cell BK174.out 3).trans rfl; have hcz83_4 : w80.cell? ⟨gb174, 4, none⟩ = some (u175004) := (blk_cell BK174.out 4).trans rfl; have hfz83_0 := blk_frozen BK174.out 0; have hfz83_1 := blk_frozen BK174.out 1; have hfz83_2 := blk_frozen BK174.out 2; have hfz83_3 := blk_frozen BK174.out 3; have hfz83_4 := blk_frozen BK174.out 4; have hnb84 := NB168_0.out; have hnc84 := NB0_168.out; have hcz85_0 : w80.cell? ⟨gb168, 0, none⟩ = some (.int .i64 0) := (blk_cell BK168.out 0).trans rfl; have hcz85_1 : w80.cell? ⟨gb168, 1, none⟩ = some (.int .i64 0) := (blk_cell BK168.out 1).trans rfl; have hcz85_2 : w80.cell? ⟨gb168, 2, none⟩ = some (.int .i64 0) := (blk_cell BK168.out 2).trans rfl; have hcz85_3 : w80.cell? ⟨gb168, 3, none⟩ = some (.int .i64 0) := (blk_cell BK168.out 3).trans rfl; have hcz85_4 : w80.cell? ⟨gb168, 4, none⟩ = some (.slice none 0 0) := (blk_cell BK168.out 4).trans rfl; have hfz85_0 := blk_frozen BK168.out 0; have hfz85_1 := blk_frozen BK168.out 1; have hfz85_2 := blk_frozen BK168.out 2; have hfz85_3 := blk_frozen BK168.out 3; have hfz85_4 := blk_frozen BK168.out 4; obtain ⟨Ao86, co86, eo86⟩ := Kd.R_slice HO_175004.out; subst eo86))
         refine bodyPost_ret (results_cell_row rfl _ _ gb168 34 #[.int .i64 (wrap64 (1 + t169)), .int .i64 x175001_2, .int .i64 t206, .int .i64 x175003_2, .slice Ao86 x175004_2.length co86] (0, 0) _ rfl (by (with_reducible repeat (first | refine blk_drewN ?_ _ | refine blk_drew ?_ | refine blk_alloc ?_ _)); refine blk_put (cs := #[.int .i64 (wrap64 (1 + t169)), .int .i64 x175001_2, .int .i64 t206, .int .i64 x175003_2, .slice none 0 0]) ?_ 4 _ rfl; (with_reducible repeat (first | refine blk_drewN ?_ _ | refine blk_drew ?_ | refine blk_alloc ?_ _)); refine blk_put (cs := #[.int .i64 (wrap64 (1 + t169)), .int .i64 x175001_2, .int .i64 t206, .int .i64 0, .slice none 0 0]) ?_ 3 _ rfl; (with_reducible repeat (first | refine blk_drewN ?_ _ | refine blk_drew ?_ | refine blk_alloc ?_ _)); refine blk_put (cs := #[.int .i64 (wrap64 (1 + t169)), .int .i64 x175001_2, .int .i64 0, .int .i64 0, .slice none 0 0]) ?_ 2 _ rfl; (with_reducible repeat (first | refine blk_drewN ?_ _ | refine blk_drew ?_ | refine blk_alloc ?_ _)); refine blk_put (cs := #[.int .i64 (wrap64 (1 + t169)), .int .i64 0, .int .i64 0, .int .i64 0, .slice none 0 0]) ?_ 1 _ rfl; (with_reducible repeat (first | refine blk_drewN ?_ _ | refine blk_drew ?_ | refine blk_alloc ?_ _)); refine blk_put (cs := #[.int .i64 0, .int .i64 0, .int .i64 0, .int .i64 0, .slice none 0 0]) ?_ 0 _ rfl; (with_reducible repeat (first | refine blk_drewN ?_ _ | refine blk_drew ?_ | refine blk_alloc ?_ _)); refine blk_far ?_ NB168_174.out _; (with_reducible repeat (first | refine blk_drewN ?_ _ | refine blk_drew ?_ | refine blk_alloc ?_ _)); exact BK168.out) Try.underlying34 rfl (by kernel_rfl)) rfl ?_
         exact ⟨_, by first | rfl | (simp [errW_none, errW_some] <;> rfl) | (simp [*, errW_none, errW_some] <;> rfl), by (with_reducible repeat (first | apply Kd.R_alloc | apply Kd.R_drewN | apply Kd.R_drew)); exact Kd.R_mono (Kd.R_far (p := ⟨gb168, 4, none⟩) (Kd.R_far (p := ⟨gb168, 3, none⟩) (Kd.R_far (p := ⟨gb168, 2, none⟩) (Kd.R_far (p := ⟨gb168, 1, none⟩) (Kd.R_far (p := ⟨gb168, 0, none⟩) (Kd.R_far (p := ⟨gb174, 2, none⟩) (Kd.R_types (Kd.R_types HO_175004.out BK174.out (by decide)) BK168.out (by decide)) (fun _ hk => hk.1.2) (.int .i64 t206)) (fun _ hk => hk.2) (.int .i64 (wrap64 (1 + t169)))) (fun _ hk => hk.2) (.int .i64 x175001_2)) (fun _ hk => hk.2) (.int .i64 t206)) (fun _ hk => hk.2) (.int .i64 x175003_2)) (fun _ hk => hk.2) (.slice Ao86 x175004_2.length co86)) (fun _ hk => trivial), by repeat (first | (with_reducible first | exact HI0.out | apply IsS150.alloc | apply IsS150.drewN | apply IsS150.drew | apply IsS150.set_1 | refine IsS150.far ?_ NB0_168.out _ | refine IsS150.far ?_ NB0_174.out _) | exact HI0.out), by repeat (first | (with_reducible first | exact HB.out | apply below_alloc | apply pw_below_drewN | apply below_drew1 | refine below_set ?_ (IsS150.ge HI0.out) | refine below_set ?_ GE168.out | refine below_set ?_ GE174.out) | exact HB.out), by repeat (first | (with_reducible first | exact HK.out | apply KeepBut.set_ | apply keep_drewN | apply keep_drew | apply keep_alloc | refine keep_far ?_ GW168.out _ | refine keep_far ?_ GW174.out _) | exact HK.out)⟩
        ·rw [if_neg c77] at H
         have c77b0 : (t200 == 2) = false := beq_eq_false_iff_ne.mpr c77
         have c77b1 : (t200 != 2) = true := bne_iff_ne.mpr c77
         by_cases c87 : t200 = 3
         ·rw [if_pos c87] at H
          have c87b0 : (t200 == 3) = true := beq_iff_eq.mpr c87
          have c87b1 : (t200 != 3) = false := bne_eq_false_iff_eq.mpr c87
          clear c87
          obtain ⟨y208, hy208⟩ : ∃ y_ : List Int, y_ = (([0, 5, 61] : List Int)) := ⟨_, rfl⟩
          replace H : ((spec_l6Rd_pick.f k2 s0_0 t201 3).bind fun bt211 => (if 0 ≤ bt211.1 then (if bt211.1 < (y208.length : Int) then (some ((wrap64 (1 + t169)), x175001_2, x175002_2, rd y208 bt211.1, x175004_2, bt211.2)) else (none)) else (none))) = some (r1, r2, r3, r4, r5, r6) := by first | (rw [hy208]; with_reducible exact H) | (have H2_ := (Option.bind_some _ _).symm.trans H; rw [hy208]; with_reducible exact H2_) | (have H2_ := (Option.bind_some _ _).symm.trans H; with_reducible exact H2_) | with_reducible exact H | (rw [hy208]; exact H) | exact H
          have Ny208 := Aside0.mk hy208
          clear hy208
          replace H := Option.bind_eq_some_iff.mp H
          obtain ⟨⟨t211, t212⟩, A880, H⟩ := H
          replace H : (if 0 ≤ t211 then (if t211 < (y208.length : Int) then (some ((wrap64 (1 + t169)), x175001_2, x175002_2, rd y208 t211, x175004_2, t212)) else (none)) else (none)) = some (r1, r2, r3, r4, r5, r6) := H
          have A88 := Aside0.mk A880
          clear A880
          by_cases c89 : 0 ≤ t211
          ·rw [if_pos c89] at H
           have c89b0 : decide (0 ≤ t211) = true := decide_eq_true c89
           clear c89
           by_cases c90 : t211 < (y208.length : Int)
           ·rw [if_pos c90] at H
            have c90b0 : decide (t211 < (y208.length : Int)) = true := decide_eq_true c90
            clear c90
            simp only [Option.some.injEq, Prod.mk.injEq] at H
            obtain ⟨rfl, rfl, rfl, rfl, rfl, rfl⟩ := H
            go_wp2_with (first | ((with_reducible refine gate_callee (f := 64) rfl ?_); refine goesL_ (some 62) rfl rfl Try.func64 (by kernel_rfl) rfl #[.pointer (some ⟨g, 0, none⟩), .int .i64 20] rfl z6x12 ?_; (with_reducible refine (spec_l6Rd_pick.calls k2 g s0_0 x1001_2 20 t200 t201 w0 _ ?side1 ?side2 A56.out).mono ?_); (case side1 => repeat (first | (with_reducible first | exact HI0.out | apply IsS150.alloc | apply IsS150.drewN | apply IsS150.drew | apply IsS150.set_1 | refine IsS150.far ?_ NB0_168.out _ | refine IsS150.far ?_ NB0_174.out _) | exact HI0.out)); (case side2 => repeat (first | (with_reducible first | exact HB.out | apply below_alloc | apply pw_below_drewN | apply below_drew1 | refine below_set ?_ (IsS150.ge HI0.out) | refine below_set ?_ GE168.out | refine below_set ?_ GE174.out) | exact HB.out)); rintro e w91 ⟨rfl, hi, hb, hk⟩; refine ⟨_, rfl, ?_⟩; have n0_ := Aside0.mk (Kd.R_mono (Kd.R_keep (IsS150.apart (show IsS150 w0 _ g s0_0 x1001_2 from by repeat (first | (with_reducible first | exact HI0.out | apply IsS150.alloc | apply IsS150.drewN | apply IsS150.drew | apply IsS150.set_1 | refine IsS150.far ?_ NB0_168.out _ | refine IsS150.far ?_ NB0_174.out _) | exact HI0.out)) z6x15 (by decide)) hk (fun _ h => h.2)) (fun _ h => h.1)); have n1_ := Aside0.mk (KeepBut.blk hk (g' := gb168) (o := .cells #[.int .i64 0, .int .i64 0, .int .i64 0, .int .i64 0, .slice none 0 0] 34 (0, 0)) z6x13 NB168_0.out (by simp)); have n2_ := Aside0.mk (KeepBut.blk hk (g' := gb174) (o := .cells #[.int .i64 (wrap64 (1 + t169)), .int .i64 x175001_2, .int .i64 x175002_2, .int .i64 x175003_2, u175004] 34 (0, 0)) z6x14 NB174_0.out (by simp)); have n3_ := Aside0.mk (KeepBut.trans z6x7 hk (.inl rfl)); have n4_ := Aside0.mk (hb); have n5_ := Aside0.mk (hi); clear HO_175004; clear BK168; clear BK174; clear HK; clear HB; clear HI0; have HO_175004 := n0_; have BK168 := n1_; have BK174 := n2_; have HK := n3_; have HB := n4_; have HI0 := n5_; clear n0_ n1_ n2_ n3_ n4_ n5_; (try clear hb); (try clear hb2); (try clear hk); (try clear hi)) | ((with_reducible refine gate_dst (N := 80) rfl ?_); refine Kd.R_lit (Kd.int .i64) _ 3 ?hg (N := 80) ?hd (xs := ([0, 5, 61] : List Int)) (inner := [.int .i64 0, .int .i64 5, .int .i64 61]) (ok := fun _ => True) (okp := fun _ => True) ?hr ?hp (fun _ hk => hk) trivial (Below.refl _ _) (Nat.le_refl _) (by simp) ?_; (case hd => rfl); (case hg => rfl); (case hr => first | (go_simp; done) | (go_simp; rfl)); (case hp => exact (Reps.one (show Kd.M (Kd.int .i64) _ _ _ 0 [.int .i64 0] from rfl) (Reps.one (show Kd.M (Kd.int .i64) _ _ _ 5 [.int .i64 5] from rfl) (Reps.one (show Kd.M (Kd.int .i64) _ _ _ 61 [.int .i64 61] from rfl) (Reps.none _ _))))); intro v209 w92 ho93 hb hg_ hnew_; clear hg_ hnew_; (first | rw [← Ny208.out] at ho93 | (simp only [Int.reduceToNat] at ho93; rw [← Ny208.out] at ho93)); have n0_ := Aside0.mk (Kd.R_below z6x15 hb); have n1_ := Aside0.mk (Kd.R_lower ho93 (keep_size (w := w) (g := g) (row := none) z6x7)); have n2_ := Aside0.mk (blk_below (g := gb168) (o := .cells #[.int .i64 0, .int .i64 0, .int .i64 0, .int .i64 0, .slice none 0 0] 34 (0, 0)) z6x13 hb); have n3_ := Aside0.mk (blk_below (g := gb174) (o := .cells #[.int .i64 (wrap64 (1 + t169)), .int .i64 x175001_2, .int .i64 x175002_2, .int .i64 x175003_2, u175004] 34 (0, 0)) z6x14 hb); have n4_ := Aside0.mk (IsS150.below z6x6 hb); have n5_ := Aside0.mk (KeepBut.trans z6x7 (KeepBut.of_below hb g none) (.inl rfl)); have n6_ := Aside0.mk (below_step z6x5 hb); clear HO_175004; clear BK168; clear BK174; clear HI0; clear HK; clear HB; have HO_175004 := n0_; have HO210 := n1_; have BK168 := n2_; have BK174 := n3_; have HI0 := n4_; have HK := n5_; have HB := n6_; clear n0_ n1_ n2_ n3_ n4_ n5_ n6_; clear hb ho93) | ((with_reducible refine gate_callee (f := 64) rfl ?_); refine goesL_ (some 82) rfl rfl Try.func64 (by kernel_rfl) rfl #[.pointer (some ⟨g, 0, none⟩), .int .i64 3] rfl z6x12 ?_; (with_reducible refine (spec_l6Rd_pick.calls k2 g s0_0 t201 3 t211 t212 w0 _ ?side1 ?side2 A88.out).mono ?_); (case side1 => repeat (first | (with_reducible first | exact HI0.out | apply IsS150.alloc | apply IsS150.drewN | apply IsS150.drew | apply IsS150.set_1 | refine IsS150.far ?_ NB0_168.out _ | refine IsS150.far ?_ NB0_174.out _) | exact HI0.out)); (case side2 => repeat (first | (with_reducible first | exact HB.out | apply below_alloc | apply pw_below_drewN | apply below_drew1 | refine below_set ?_ (IsS150.ge HI0.out) | refine below_set ?_ GE168.out | refine below_set ?_ GE174.out) | exact HB.out)); rintro e w94 ⟨rfl, hi, hb, hk⟩; refine ⟨_, rfl, ?_⟩; have n0_ := Aside0.mk (Kd.R_mono (Kd.R_keep (IsS150.apart (show IsS150 w0 _ g s0_0 t201 from by repeat (first | (with_reducible first | exact HI0.out | apply IsS150.alloc | apply IsS150.drewN | apply IsS150.drew | apply IsS150.set_1 | refine IsS150.far ?_ NB0_168.out _ | refine IsS150.far ?_ NB0_174.out _) | exact HI0.out)) z6x15 (by decide)) hk (fun _ h => h.2)) (fun _ h => h.1)); have n1_ := Aside0.mk (KeepBut.blk hk (g' := gb168) (o := .cells #[.int .i64 0, .int .i64 0, .int .i64 0, .int .i64 0, .slice none 0 0] 34 (0, 0)) z6x13 NB168_0.out (by simp)); have n2_ := Aside0.mk (KeepBut.blk hk (g' := gb174) (o := .cells #[.int .i64 (wrap64 (1 + t169)), .int .i64 x175001_2, .int .i64 x175002_2, .int .i64 x175003_2, u175004] 34 (0, 0)) z6x14 NB174_0.out (by simp)); have n3_ := Aside0.mk (Kd.R_mono (Kd.R_keep (IsS150.apart (show IsS150 w0 _ g s0_0 t201 from by repeat (first | (with_reducible first | exact HI0.out | apply IsS150.alloc | apply IsS150.drewN | apply IsS150.drew | apply IsS150.set_1 | refine IsS150.far ?_ NB0_168.out _ | refine IsS150.far ?_ NB0_174.out _) | exact HI0.out)) (by (with_reducible repeat (first | apply Kd.R_alloc | apply Kd.R_drewN | apply Kd.R_drew)); exact HO210.out) (by decide)) hk (fun _ h => h.2)) (fun _ h => h.1)); have n4_ := Aside0.mk (KeepBut.trans z6x7 hk (.inl rfl)); have n5_ := Aside0.mk (hb); have n6_ := Aside0.mk (hi); clear HO_175004; clear BK168; clear BK174; clear HO210; clear HK; clear HB; clear HI0; have HO_175004 := n0_; have BK168 := n1_; have BK174 := n2_; have HO210 := n3_; have HK := n4_; have HB := n5_; have HI0 := n6_; clear n0_ n1_ n2_ n3_ n4_ n5_ n6_; (try clear hb); (try clear hb2); (try clear hk); (try clear hi); obtain ⟨Ao95, co95, eo95⟩ := Kd.R_slice HO210.out; subst eo95; have p213 : 0 ≤ (t211 : Int) := of_decide_eq_true (by first | (with_reducible assumption) | assumption); have q213 : t211 < (y208.length : Int) := of_decide_eq_true (by first | (with_reducible assumption) | assumption); obtain ⟨ad213, e213, hx213_0⟩ := Kd.at_int (Kd.R_reads' HO210.out).2.2 t211 p213 q213; cases e213; replace p213 := eq_true p213; replace q213 := eq_true q213; have hnb96 := NB174_168.out; have hnc96 := NB168_174.out; have hnb97 := NB174_0.out; have hnc97 := NB0_174.out; have hcz98_0 : w94.cell? ⟨gb174, 0, none⟩ = some (.int .i64 (wrap64 (1 + t169))) := (blk_cell BK174.out 0).trans rfl; have hcz98_1 : w94.cell? ⟨gb174, 1, none⟩ = some (.int .i64 x175001_2) := (blk_cell BK174.out 1).trans rfl; have hcz98_2 : w94.cell? ⟨gb174, 2, none⟩ = some (.int .i64 x175002_2) := (blk_cell BK174.out 2).trans rfl; have hcz98_3 : w94.cell? ⟨gb174, 3, none⟩ = some (.int .i64 x175003_2) := (blk_cell BK174.out 3).trans rfl; have hcz98_4 : w94.cell? ⟨gb174, 4, none⟩ = some (u175004) := (blk_cell BK174.out 4).trans rfl; have hfz98_0 := blk_frozen BK174.out 0; have hfz98_1 := blk_frozen BK174.out 1; have hfz98_2 := blk_frozen BK174.out 2; have hfz98_3 := blk_frozen BK174.out 3; have hfz98_4 := blk_frozen BK174.out 4; have hnb99 := NB168_0.out; have hnc99 := NB0_168.out; have hcz100_0 : w94.cell? ⟨gb168, 0, none⟩ = some (.int .i64 0) := (blk_cell BK168.out 0).trans rfl; have hcz100_1 : w94.cell? ⟨gb168, 1, none⟩ = some (.int .i64 0) := (blk_cell BK168.out 1).trans rfl; have hcz100_2 : w94.cell? ⟨gb168, 2, none⟩ = some (.int .i64 0) := (blk_cell BK168.out 2).trans rfl; have hcz100_3 : w94.cell? ⟨gb168, 3, none⟩ = some (.int .i64 0) := (blk_cell BK168.out 3).trans rfl; have hcz100_4 : w94.cell? ⟨gb168, 4, none⟩ = some (.slice none 0 0) := (blk_cell BK168.out 4).trans rfl; have hfz100_0 := blk_frozen BK168.out 0; have hfz100_1 := blk_frozen BK168.out 1; have hfz100_2 := blk_frozen BK168.out 2; have hfz100_3 := blk_frozen BK168.out 3; have hfz100_4 := blk_frozen BK168.out 4; obtain ⟨Ao101, co101, eo101⟩ := Kd.R_slice HO_175004.out; subst eo101))
            refine bodyPost_ret (results_cell_row rfl _ _ gb168 34 #[.int .i64 (wrap64 (1 + t169)), .int .i64 x175001_2, .int .i64 x175002_2, .int .i64 (rd y208 t211), .slice Ao101 x175004_2.length co101] (0, 0) _ rfl (by (with_reducible repeat (first | refine blk_drewN ?_ _ | refine blk_drew ?_ | refine blk_alloc ?_ _)); refine blk_put (cs := #[.int .i64 (wrap64 (1 + t169)), .int .i64 x175001_2, .int .i64 x175002_2, .int .i64 (rd y208 t211), .slice none 0 0]) ?_ 4 _ rfl; (with_reducible repeat (first | refine blk_drewN ?_ _ | refine blk_drew ?_ | refine blk_alloc ?_ _)); refine blk_put (cs := #[.int .i64 (wrap64 (1 + t169)), .int .i64 x175001_2, .int .i64 x175002_2, .int .i64 0, .slice none 0 0]) ?_ 3 _ rfl; (with_reducible repeat (first | refine blk_drewN ?_ _ | refine blk_drew ?_ | refine blk_alloc ?_ _)); refine blk_put (cs := #[.int .i64 (wrap64 (1 + t169)), .int .i64 x175001_2, .int .i64 0, .int .i64 0, .slice none 0 0]) ?_ 2 _ rfl; (with_reducible repeat (first | refine blk_drewN ?_ _ | refine blk_drew ?_ | refine blk_alloc ?_ _)); refine blk_put (cs := #[.int .i64 (wrap64 (1 + t169)), .int .i64 0, .int .i64 0, .int .i64 0, .slice none 0 0]) ?_ 1 _ rfl; (with_reducible repeat (first | refine blk_drewN ?_ _ | refine blk_drew ?_ | refine blk_alloc ?_ _)); refine blk_put (cs := #[.int .i64 0, .int .i64 0, .int .i64 0, .int .i64 0, .slice none 0 0]) ?_ 0 _ rfl; (with_reducible repeat (first | refine blk_drewN ?_ _ | refine blk_drew ?_ | refine blk_alloc ?_ _)); refine blk_far ?_ NB168_174.out _; (with_reducible repeat (first | refine blk_drewN ?_ _ | refine blk_drew ?_ | refine blk_alloc ?_ _)); exact BK168.out) Try.underlying34 rfl (by kernel_rfl)) rfl ?_
            exact ⟨_, by first | rfl | (simp [errW_none, errW_some] <;> rfl) | (simp [*, errW_none, errW_some] <;> rfl), by (with_reducible repeat (first | apply Kd.R_alloc | apply Kd.R_drewN | apply Kd.R_drew)); exact Kd.R_mono (Kd.R_far (p := ⟨gb168, 4, none⟩) (Kd.R_far (p := ⟨gb168, 3, none⟩) (Kd.R_far (p := ⟨gb168, 2, none⟩) (Kd.R_far (p := ⟨gb168, 1, none⟩) (Kd.R_far (p := ⟨gb168, 0, none⟩) (Kd.R_far (p := ⟨gb174, 3, none⟩) (Kd.R_types (Kd.R_types HO_175004.out BK174.out (by decide)) BK168.out (by decide)) (fun _ hk => hk.1.2) (.int .i64 (rd y208 t211))) (fun _ hk => hk.2) (.int .i64 (wrap64 (1 + t169)))) (fun _ hk => hk.2) (.int .i64 x175001_2)) (fun _ hk => hk.2) (.int .i64 x175002_2)) (fun _ hk => hk.2) (.int .i64 (rd y208 t211))) (fun _ hk => hk.2) (.slice Ao101 x175004_2.length co101)) (fun _ hk => trivial), by repeat (first | (with_reducible first | exact HI0.out | apply IsS150.alloc | apply IsS150.drewN | apply IsS150.drew | apply IsS150.set_1 | refine IsS150.far ?_ NB0_168.out _ | refine IsS150.far ?_ NB0_174.out _) | exact HI0.out), by repeat (first | (with_reducible first | exact HB.out | apply below_alloc | apply pw_below_drewN | apply below_drew1 | refine below_set ?_ (IsS150.ge HI0.out) | refine below_set ?_ GE168.out | refine below_set ?_ GE174.out) | exact HB.out), by repeat (first | (with_reducible first | exact HK.out | apply KeepBut.set_ | apply keep_drewN | apply keep_drew | apply keep_alloc | refine keep_far ?_ GW168.out _ | refine keep_far ?_ GW174.out _) | exact HK.out)⟩
           ·rw [if_neg c90] at H
            exact absurd H (by simp)
          ·rw [if_neg c89] at H
           exact absurd H (by simp)
         ·rw [if_neg c87] at H
          have c87b0 : (t200 == 3) = false := beq_eq_false_iff_ne.mpr c87
          have c87b1 : (t200 != 3) = true := bne_iff_ne.mpr c87
          by_cases c102 : t200 = 4
          ·rw [if_pos c102] at H
           have c102b0 : (t200 == 4) = true := beq_iff_eq.mpr c102
           have c102b1 : (t200 != 4) = false := bne_eq_false_iff_eq.mpr c102
           clear c102
           replace H := Option.bind_eq_some_iff.mp H
           obtain ⟨⟨t214, t215, t216, t217, t218, t219, t220, t221⟩, A1030, H⟩ := H
           replace H : (if x175004_2.length < 2513169434916 then (some ((wrap64 (1 + t169)), x175001_2, x175002_2, x175003_2, (x175004_2 ++ [(⟨t214, t215, t216, t217, t218, t219, t220⟩ : S41)]), t221)) else (none)) = some (r1, r2, r3, r4, r5, r6) := H
           have A103 := Aside0.mk A1030
           clear A1030
           by_cases c104 : x175004_2.length < 2513169434916
           ·rw [if_pos c104] at H
            have LMc104 := Aside0.mk c104
            clear c104
            obtain ⟨y222, hy222⟩ : ∃ y_ : List (S41), y_ = (x175004_2 ++ [(⟨t214, t215, t216, t217, t218, t219, t220⟩ : S41)]) := ⟨_, rfl⟩
            replace H : (some ((wrap64 (1 + t169)), x175001_2, x175002_2, x175003_2, y222, t221)) = some (r1, r2, r3, r4, r5, r6) := by first | (rw [hy222]; with_reducible exact H) | (have H2_ := (Option.bind_some _ _).symm.trans H; rw [hy222]; with_reducible exact H2_) | (have H2_ := (Option.bind_some _ _).symm.trans H; with_reducible exact H2_) | with_reducible exact H | (rw [hy222]; exact H) | exact H
            have Ny222 := Aside0.mk hy222
            clear hy222
            simp only [Option.some.injEq, Prod.mk.injEq] at H
            obtain ⟨rfl, rfl, rfl, rfl, rfl, rfl⟩ := H
            try go_wp2_with (first | ((with_reducible refine gate_callee (f := 64) rfl ?_); refine goesL_ (some 62) rfl rfl Try.func64 (by kernel_rfl) rfl #[.pointer (some ⟨g, 0, none⟩), .int .i64 20] rfl z6x12 ?_; (with_reducible refine (spec_l6Rd_pick.calls k2 g s0_0 x1001_2 20 t200 t201 w0 _ ?side1 ?side2 A56.out).mono ?_); (case side1 => repeat (first | (with_reducible first | exact HI0.out | apply IsS150.alloc | apply IsS150.drewN | apply IsS150.drew | apply IsS150.set_1 | refine IsS150.far ?_ NB0_168.out _ | refine IsS150.far ?_ NB0_174.out _) | exact HI0.out)); (case side2 => repeat (first | (with_reducible first | exact HB.out | apply below_alloc | apply pw_below_drewN | apply below_drew1 | refine below_set ?_ (IsS150.ge HI0.out) | refine below_set ?_ GE168.out | refine below_set ?_ GE174.out) | exact HB.out)); rintro e w105 ⟨rfl, hi, hb, hk⟩; refine ⟨_, rfl, ?_⟩; have n0_ := Aside0.mk (Kd.R_mono (Kd.R_keep (IsS150.apart (show IsS150 w0 _ g s0_0 x1001_2 from by repeat (first | (with_reducible first | exact HI0.out | apply IsS150.alloc | apply IsS150.drewN | apply IsS150.drew | apply IsS150.set_1 | refine IsS150.far ?_ NB0_168.out _ | refine IsS150.far ?_ NB0_174.out _) | exact HI0.out)) z6x15 (by decide)) hk (fun _ h => h.2)) (fun _ h => h.1)); have n1_ := Aside0.mk (KeepBut.blk hk (g' := gb168) (o := .cells #[.int .i64 0, .int .i64 0, .int .i64 0, .int .i64 0, .slice none 0 0] 34 (0, 0)) z6x13 NB168_0.out (by simp)); have n2_ := Aside0.mk (KeepBut.blk hk (g' := gb174) (o := .cells #[.int .i64 (wrap64 (1 + t169)), .int .i64 x175001_2, .int .i64 x175002_2, .int .i64 x175003_2, u175004] 34 (0, 0)) z6x14 NB174_0.out (by simp)); have n3_ := Aside0.mk (KeepBut.trans z6x7 hk (.inl rfl)); have n4_ := Aside0.mk (hb); have n5_ := Aside0.mk (hi); clear HO_175004; clear BK168; clear BK174; clear HK; clear HB; clear HI0; have HO_175004 := n0_; have BK168 := n1_; have BK174 := n2_; have HK := n3_; have HB := n4_; have HI0 := n5_; clear n0_ n1_ n2_ n3_ n4_ n5_; (try clear hb); (try clear hb2); (try clear hk); (try clear hi)))
            have n0_ := Aside0.mk (Kd.R_drew HO_175004.out)
            have n1_ := Aside0.mk (blk_drew BK168.out)
            have n2_ := Aside0.mk (blk_drew BK174.out)
            have n3_ := Aside0.mk (IsS150.drew HI0.out)
            have n4_ := Aside0.mk (keep_drew HK.out)
            have n5_ := Aside0.mk (below_drew1 HB.out)
            clear HO_175004
            clear BK168
            clear BK174
            clear HI0
            clear HK
            clear HB
            have HO_175004 := n0_
            have BK168 := n1_
            have BK174 := n2_
            have HI0 := n3_
            have HK := n4_
            have HB := n5_
            clear n0_ n1_ n2_ n3_ n4_ n5_
            refine start_ (n := 8) (S := fun w' => w'.cell? ⟨gb174, 0, none⟩ = some (.int .i64 (wrap64 (1 + t169))) ∧ w'.cell? ⟨gb174, 1, none⟩ = some (.int .i64 x175001_2) ∧ w'.cell? ⟨gb174, 2, none⟩ = some (.int .i64 x175002_2) ∧ w'.cell? ⟨gb174, 3, none⟩ = some (.int .i64 x175003_2) ∧ w'.cell? ⟨gb174, 4, none⟩ = some (u175004)) (ds := [7]) #[false, false, false, false, false, false, false, false] (by kernel_rfl) rfl rfl ⟨(blk_cell BK174.out 0).trans rfl, (blk_cell BK174.out 1).trans rfl, (blk_cell BK174.out 2).trans rfl, (blk_cell BK174.out 3).trans rfl, (blk_cell BK174.out 4).trans rfl⟩ (fun hHeld => ?_); refine with_tabW spec_l71Msg.tab31 spec_l71Msg.bits31 (fun HT_ HW_ => ?_)
            generalize w105.drew = w106 at HO_175004 BK168 BK174 HI0 HK HB hHeld ⊢
            refine pure_ (i := 0) (N := some 88) (v := ?_) (a' := ?_) #[true, false, false, false, false, false, false, false] rfl rfl (any_of HT_.out (by kernel_rfl)) (fun _ _ _ h => h) (Or.inl ⟨by rfl, ?_⟩) ?_ ?_
            rotate_left
            ·intro w'
             go_simp
             with_reducible rfl
            rotate_left
            ·simp only [Act.put, List.setIfInBounds_toArray, List.set_cons_zero, List.set_cons_succ, i64_w, i32_w]
             rfl
            refine pure_ (i := 2) (N := some 90) (v := ?_) (a' := ?_) #[true, false, true, false, false, false, false, false] rfl rfl (any_of HT_.out (by kernel_rfl)) (fun _ _ _ h => h) (Or.inl ⟨by rfl, ?_⟩) ?_ ?_
            rotate_left
            ·intro w'
             go_simp
             with_reducible rfl
            rotate_left
            ·simp only [Act.put, List.setIfInBounds_toArray, List.set_cons_zero, List.set_cons_succ, i64_w, i32_w]
             rfl
            refine take_ (i := 1) (N := some 89) (v := ?_) (a' := ?_) #[true, true, true, false, false, false, false, false] rfl rfl (take_ofW HT_.out HW_.out (by kernel_rfl)) (fun _ _ _ h => h) (Or.inl ⟨by rfl, ?_⟩) hHeld ?_ ?_
            rotate_left
            ·rintro w' ⟨s0, s1, s2, s3, s4⟩
             go_simp
             with_reducible rfl
            rotate_left
            ·simp only [Act.put, List.setIfInBounds_toArray, List.set_cons_zero, List.set_cons_succ, i64_w, i32_w]
             rfl
            refine one_ (i := 3) (N := some 91) #[true, true, true, true, false, false, false, false] rfl rfl (one_of HT_.out (by kernel_rfl)) (by decide) (fun K hK => ?_)
            refine goes_ Try.func79 (by kernel_rfl) rfl #[.pointer (some ⟨g, 0, none⟩)] (by rfl) rfl rfl z6x12 ?_
            with_reducible refine (spec_l71Seal.calls k2 g s0_0 t201 t214 t215 t216 t217 t218 t219 t220 t221 w0 _ ?side1 ?side2 A103.out).mono ?_
            (case side1 => repeat (first | (with_reducible first | exact HI0.out | apply IsS150.alloc | apply IsS150.drewN | apply IsS150.drew | apply IsS150.set_1 | refine IsS150.far ?_ NB0_168.out _ | refine IsS150.far ?_ NB0_174.out _) | exact HI0.out))
            (case side2 => repeat (first | (with_reducible first | exact HB.out | apply below_alloc | apply pw_below_drewN | apply below_drew1 | refine below_set ?_ (IsS150.ge HI0.out) | refine below_set ?_ GE168.out | refine below_set ?_ GE174.out) | exact HB.out))
            rintro e w107 ⟨rfl, hi, hb, hk⟩
            refine ⟨_, rfl, ?_⟩
            have n0_ := Aside0.mk (Kd.R_mono (Kd.R_keep (IsS150.apart (show IsS150 w0 _ g s0_0 t201 from by repeat (first | (with_reducible first | exact HI0.out | apply IsS150.alloc | apply IsS150.drewN | apply IsS150.drew | apply IsS150.set_1 | refine IsS150.far ?_ NB0_168.out _ | refine IsS150.far ?_ NB0_174.out _) | exact HI0.out)) z6x15 (by decide)) hk (fun _ h => h.2)) (fun _ h => h.1))
            have n1_ := Aside0.mk (KeepBut.blk hk (g' := gb168) (o := .cells #[.int .i64 0, .int .i64 0, .int .i64 0, .int .i64 0, .slice none 0 0] 34 (0, 0)) z6x13 NB168_0.out (by simp))
            have n2_ := Aside0.mk (KeepBut.blk hk (g' := gb174) (o := .cells #[.int .i64 (wrap64 (1 + t169)), .int .i64 x175001_2, .int .i64 x175002_2, .int .i64 x175003_2, u175004] 34 (0, 0)) z6x14 NB174_0.out (by simp))
            have n3_ := Aside0.mk (KeepBut.trans z6x7 hk (.inl rfl))
            have n4_ := Aside0.mk (hb)
            have n5_ := Aside0.mk (hi)
            clear HO_175004
            clear BK168
            clear BK174
            clear HK
            clear HB
            clear HI0
            have HO_175004 := n0_
            have BK168 := n1_
            have BK174 := n2_
            have HK := n3_
            have HB := n4_
            have HI0 := n5_
            clear n0_ n1_ n2_ n3_ n4_ n5_
            (try clear hb)
            (try clear hb2)
            (try clear hk)
            (try clear hi)
            refine hK.out _ _ ⟨(blk_cell BK174.out 0).trans rfl, (blk_cell BK174.out 1).trans rfl, (blk_cell BK174.out 2).trans rfl, (blk_cell BK174.out 3).trans rfl, (blk_cell BK174.out 4).trans rfl⟩ (fun hHeld => ?_)
            clear hK K
            refine norm_ (a' := ?_) ?_ ?_
            rotate_left
            ·show Act.put _ (some 91) _ = _
             simp only [Act.put, List.setIfInBounds_toArray, List.set_cons_zero, List.set_cons_succ, i64_w, i32_w]
             rfl
            refine one_ (i := 4) (N := some 92) #[true, true, true, true, true, false, false, false] rfl rfl (one_of HT_.out (by kernel_rfl)) (by decide) (fun K hK => ?_)
            refine value_ (w1 := ?_) (v := ?_) (by rfl) rfl ?_ ?_
            rotate_left 2
            ·go_simp
             constructor
             ·rfl
             ·rfl
            refine hK.out _ _ ⟨(blk_cell (blk_alloc BK174.out _) 0).trans rfl, (blk_cell (blk_alloc BK174.out _) 1).trans rfl, (blk_cell (blk_alloc BK174.out _) 2).trans rfl, (blk_cell (blk_alloc BK174.out _) 3).trans rfl, (blk_cell (blk_alloc BK174.out _) 4).trans rfl⟩ (fun hHeld => ?_)
            clear hK K
            refine norm_ (a' := ?_) ?_ ?_
            rotate_left
            ·show Act.put _ (some 92) _ = _
             simp only [Act.put, List.setIfInBounds_toArray, List.set_cons_zero, List.set_cons_succ, i64_w, i32_w]
             rfl
            refine one_ (i := 5) (N := some 93) #[true, true, true, true, true, true, false, false] rfl rfl (one_of HT_.out (by kernel_rfl)) (by decide) (fun K hK => ?_)
            refine Kd.R_append_step k41 w.heap.size (by rfl) (.tmp 89) (.tmp 92) 32 41 (.agg #[(.int .i64 0), (.int .i64 0), (.int .i64 0), (.int .i64 0), (.int .i64 0), (.int .i64 0), (.int .i64 0)]) 56 rfl Try.underlying32 info41 rfl (by decide) (by omega) u175004 x175004_2 (⟨t214, t215, t216, t217, t218, t219, t220⟩ : S41) [.int .i64 t214, .int .i64 t215, .int .i64 t216, .int .i64 t217, .int .i64 t218, .int .i64 t219, .int .i64 t220] (fun _ => True) (fun _ => False) rfl rfl ?aP (fun _ hk => hk.elim) ?aF ?aO (Below.refl _ _) ?aS ?aL ?_
            (case aP => exact k41_mkM _ _ _ (⟨t214, t215, t216, t217, t218, t219, t220⟩ : S41))
            (case aF => exact (fun _ _ => trivial))
            (case aO => exact z6x15)
            (case aS => exact (keep_size (w := w) (g := g) (row := none) z6x7))
            (case aL => have := LMc104.out; omega)
            intro v223 w108 ho hb hg hat
            rw [← Ny222.out] at ho
            have n0_ := Aside0.mk (blk_grown (g := gb168) (o := .cells #[.int .i64 0, .int .i64 0, .int .i64 0, .int .i64 0, .slice none 0 0] 34 (0, 0)) z6x13 hg (Kd.R_ne HO_175004.out BK168.out (by decide)))
            have n1_ := Aside0.mk (blk_grown (g := gb174) (o := .cells #[.int .i64 (wrap64 (1 + t169)), .int .i64 x175001_2, .int .i64 x175002_2, .int .i64 x175003_2, u175004] 34 (0, 0)) z6x14 hg (Kd.R_ne HO_175004.out BK174.out (by decide)))
            have n2_ := Aside0.mk (IsS150.grown z6x6 hg (IsS150.own_ne HI0.out HO_175004.out (by decide)))
            have n3_ := Aside0.mk (below_weaken z6x5 HL.out hb)
            have n4_ := Aside0.mk (KeepBut.trans z6x7 (KeepBut.of_grown hg g) (Kd.R_base2 HO_175004.out))
            have n5_ := Aside0.mk (ho)
            clear BK168
            clear BK174
            clear HI0
            clear HB
            clear HK
            clear HO_175004
            have BK168 := n0_
            have BK174 := n1_
            have HI0 := n2_
            have HB := n3_
            have HK := n4_
            have HO224 := n5_
            clear n0_ n1_ n2_ n3_ n4_ n5_
            clear ho hb hg hat
            obtain ⟨Ao109, co109, eo109⟩ := Kd.R_slice HO224.out
            (first | subst eo109 | (injection eo109 with f1_ f2_ f3_; have f4_ := f1_.symm; have f5_ := f3_.symm; clear f1_ f2_ f3_; subst f4_; subst f5_))
            refine hK.out _ _ ⟨(blk_cell BK174.out 0).trans rfl, (blk_cell BK174.out 1).trans rfl, (blk_cell BK174.out 2).trans rfl, (blk_cell BK174.out 3).trans rfl, (blk_cell BK174.out 4).trans rfl⟩ (fun hHeld => ?_)
            clear hK K
            refine norm_ (a' := ?_) ?_ ?_
            rotate_left
            ·show Act.put _ (some 93) _ = _
             simp only [Act.put, List.setIfInBounds_toArray, List.set_cons_zero, List.set_cons_succ, i64_w, i32_w]
             rfl
            refine pure_ (i := 6) (N := some 94) (v := ?_) (a' := ?_) #[true, true, true, true, true, true, true, false] rfl rfl (any_of HT_.out (by kernel_rfl)) (fun _ _ _ h => h) (Or.inl ⟨by rfl, ?_⟩) ?_ ?_
            rotate_left
            ·intro w'
             go_simp
             with_reducible rfl
            rotate_left
            ·simp only [Act.put, List.setIfInBounds_toArray, List.set_cons_zero, List.set_cons_succ, i64_w, i32_w]
             rfl
            refine last_ (i := 7) (N := none) #[true, true, true, true, true, true, true, true] rfl rfl (one_of HT_.out (by kernel_rfl)) (by decide) (fun K hK => ?_)
            have hs110 : w108.cell? ⟨gb174, 4, none⟩ = some (u175004) := (blk_cell BK174.out 4).trans rfl
            have hfs110 := blk_frozen BK174.out 4
            have hns110_0 := NB168_174.out
            have hms110_0 := NB174_168.out
            refine skip_ (w1 := ?_) (by rfl) rfl ?_ ?_
            rotate_left
            ·go_simp
             rfl
            refine hK.out _ _ ?_
            clear hK K
            refine done_ (done_of HT_.out (by kernel_rfl)) ?_
            have hnb111 := NB174_168.out
            have hnc111 := NB168_174.out
            have hnb112 := NB174_0.out
            have hnc112 := NB0_174.out
            have hcz113_0 : w108.cell? ⟨gb174, 0, none⟩ = some (.int .i64 (wrap64 (1 + t169))) := (blk_cell BK174.out 0).trans rfl
            have hcz113_1 : w108.cell? ⟨gb174, 1, none⟩ = some (.int .i64 x175001_2) := (blk_cell BK174.out 1).trans rfl
            have hcz113_2 : w108.cell? ⟨gb174, 2, none⟩ = some (.int .i64 x175002_2) := (blk_cell BK174.out 2).trans rfl
            have hcz113_3 : w108.cell? ⟨gb174, 3, none⟩ = some (.int .i64 x175003_2) := (blk_cell BK174.out 3).trans rfl
            have hcz113_4 : w108.cell? ⟨gb174, 4, none⟩ = some (u175004) := (blk_cell BK174.out 4).trans rfl
            have hfz113_0 := blk_frozen BK174.out 0
            have hfz113_1 := blk_frozen BK174.out 1
            have hfz113_2 := blk_frozen BK174.out 2
            have hfz113_3 := blk_frozen BK174.out 3
            have hfz113_4 := blk_frozen BK174.out 4
            have hnb114 := NB168_0.out
            have hnc114 := NB0_168.out
            have hcz115_0 : w108.cell? ⟨gb168, 0, none⟩ = some (.int .i64 0) := (blk_cell BK168.out 0).trans rfl
            have hcz115_1 : w108.cell? ⟨gb168, 1, none⟩ = some (.int .i64 0) := (blk_cell BK168.out 1).trans rfl
            have hcz115_2 : w108.cell? ⟨gb168, 2, none⟩ = some (.int .i64 0) := (blk_cell BK168.out 2).trans rfl
            have hcz115_3 : w108.cell? ⟨gb168, 3, none⟩ = some (.int .i64 0) := (blk_cell BK168.out 3).trans rfl
            have hcz115_4 : w108.cell? ⟨gb168, 4, none⟩ = some (.slice none 0 0) := (blk_cell BK168.out 4).trans rfl
            have hfz115_0 := blk_frozen BK168.out 0
            have hfz115_1 := blk_frozen BK168.out 1
            have hfz115_2 := blk_frozen BK168.out 2
            have hfz115_3 := blk_frozen BK168.out 3
            have hfz115_4 := blk_frozen BK168.out 4
            try go_wp2
            refine bodyPost_ret (results_cell_row rfl _ _ gb168 34 #[.int .i64 (wrap64 (1 + t169)), .int .i64 x175001_2, .int .i64 x175002_2, .int .i64 x175003_2, .slice Ao109 y222.length co109] (0, 0) _ rfl (by (with_reducible repeat (first | refine blk_drewN ?_ _ | refine blk_drew ?_ | refine blk_alloc ?_ _)); refine blk_put (cs := #[.int .i64 (wrap64 (1 + t169)), .int .i64 x175001_2, .int .i64 x175002_2, .int .i64 x175003_2, .slice none 0 0]) ?_ 4 _ rfl; (with_reducible repeat (first | refine blk_drewN ?_ _ | refine blk_drew ?_ | refine blk_alloc ?_ _)); refine blk_put (cs := #[.int .i64 (wrap64 (1 + t169)), .int .i64 x175001_2, .int .i64 x175002_2, .int .i64 0, .slice none 0 0]) ?_ 3 _ rfl; (with_reducible repeat (first | refine blk_drewN ?_ _ | refine blk_drew ?_ | refine blk_alloc ?_ _)); refine blk_put (cs := #[.int .i64 (wrap64 (1 + t169)), .int .i64 x175001_2, .int .i64 0, .int .i64 0, .slice none 0 0]) ?_ 2 _ rfl; (with_reducible repeat (first | refine blk_drewN ?_ _ | refine blk_drew ?_ | refine blk_alloc ?_ _)); refine blk_put (cs := #[.int .i64 (wrap64 (1 + t169)), .int .i64 0, .int .i64 0, .int .i64 0, .slice none 0 0]) ?_ 1 _ rfl; (with_reducible repeat (first | refine blk_drewN ?_ _ | refine blk_drew ?_ | refine blk_alloc ?_ _)); refine blk_put (cs := #[.int .i64 0, .int .i64 0, .int .i64 0, .int .i64 0, .slice none 0 0]) ?_ 0 _ rfl; (with_reducible repeat (first | refine blk_drewN ?_ _ | refine blk_drew ?_ | refine blk_alloc ?_ _)); refine blk_far ?_ NB168_174.out _; (with_reducible repeat (first | refine blk_drewN ?_ _ | refine blk_drew ?_ | refine blk_alloc ?_ _)); exact BK168.out) Try.underlying34 rfl (by kernel_rfl)) rfl ?_
            exact ⟨_, by first | rfl | (simp [errW_none, errW_some] <;> rfl) | (simp [*, errW_none, errW_some] <;> rfl), by (with_reducible repeat (first | apply Kd.R_alloc | apply Kd.R_drewN | apply Kd.R_drew)); exact Kd.R_mono (Kd.R_far (p := ⟨gb168, 4, none⟩) (Kd.R_far (p := ⟨gb168, 3, none⟩) (Kd.R_far (p := ⟨gb168, 2, none⟩) (Kd.R_far (p := ⟨gb168, 1, none⟩) (Kd.R_far (p := ⟨gb168, 0, none⟩) (Kd.R_far (p := ⟨gb174, 4, none⟩) (Kd.R_types (Kd.R_types HO224.out BK174.out (by decide)) BK168.out (by decide)) (fun _ hk => hk.1.2) (.slice Ao109 y222.length co109)) (fun _ hk => hk.2) (.int .i64 (wrap64 (1 + t169)))) (fun _ hk => hk.2) (.int .i64 x175001_2)) (fun _ hk => hk.2) (.int .i64 x175002_2)) (fun _ hk => hk.2) (.int .i64 x175003_2)) (fun _ hk => hk.2) (.slice Ao109 y222.length co109)) (fun _ hk => trivial), by repeat (first | (with_reducible first | exact HI0.out | apply IsS150.alloc | apply IsS150.drewN | apply IsS150.drew | apply IsS150.set_1 | refine IsS150.far ?_ NB0_168.out _ | refine IsS150.far ?_ NB0_174.out _) | exact HI0.out), by repeat (first | (with_reducible first | exact HB.out | apply below_alloc | apply pw_below_drewN | apply below_drew1 | refine below_set ?_ (IsS150.ge HI0.out) | refine below_set ?_ GE168.out | refine below_set ?_ GE174.out) | exact HB.out), by repeat (first | (with_reducible first | exact HK.out | apply KeepBut.set_ | apply keep_drewN | apply keep_drew | apply keep_alloc | refine keep_far ?_ GW168.out _ | refine keep_far ?_ GW174.out _) | exact HK.out)⟩
           ·rw [if_neg c104] at H
            exact absurd H (by simp)
          ·rw [if_neg c102] at H
           have c102b0 : (t200 == 4) = false := beq_eq_false_iff_ne.mpr c102
           have c102b1 : (t200 != 4) = true := bne_iff_ne.mpr c102
           simp only [Option.some.injEq, Prod.mk.injEq] at H
           obtain ⟨rfl, rfl, rfl, rfl, rfl, rfl⟩ := H
           go_wp2_with (first | ((with_reducible refine gate_callee (f := 64) rfl ?_); refine goesL_ (some 62) rfl rfl Try.func64 (by kernel_rfl) rfl #[.pointer (some ⟨g, 0, none⟩), .int .i64 20] rfl z6x12 ?_; (with_reducible refine (spec_l6Rd_pick.calls k2 g s0_0 x1001_2 20 t200 t201 w0 _ ?side1 ?side2 A56.out).mono ?_); (case side1 => repeat (first | (with_reducible first | exact HI0.out | apply IsS150.alloc | apply IsS150.drewN | apply IsS150.drew | apply IsS150.set_1 | refine IsS150.far ?_ NB0_168.out _ | refine IsS150.far ?_ NB0_174.out _) | exact HI0.out)); (case side2 => repeat (first | (with_reducible first | exact HB.out | apply below_alloc | apply pw_below_drewN | apply below_drew1 | refine below_set ?_ (IsS150.ge HI0.out) | refine below_set ?_ GE168.out | refine below_set ?_ GE174.out) | exact HB.out)); rintro e w116 ⟨rfl, hi, hb, hk⟩; refine ⟨_, rfl, ?_⟩; have n0_ := Aside0.mk (Kd.R_mono (Kd.R_keep (IsS150.apart (show IsS150 w0 _ g s0_0 x1001_2 from by repeat (first | (with_reducible first | exact HI0.out | apply IsS150.alloc | apply IsS150.drewN | apply IsS150.drew | apply IsS150.set_1 | refine IsS150.far ?_ NB0_168.out _ | refine IsS150.far ?_ NB0_174.out _) | exact HI0.out)) z6x15 (by decide)) hk (fun _ h => h.2)) (fun _ h => h.1)); have n1_ := Aside0.mk (KeepBut.blk hk (g' := gb168) (o := .cells #[.int .i64 0, .int .i64 0, .int .i64 0, .int .i64 0, .slice none 0 0] 34 (0, 0)) z6x13 NB168_0.out (by simp)); have n2_ := Aside0.mk (KeepBut.blk hk (g' := gb174) (o := .cells #[.int .i64 (wrap64 (1 + t169)), .int .i64 x175001_2, .int .i64 x175002_2, .int .i64 x175003_2, u175004] 34 (0, 0)) z6x14 NB174_0.out (by simp)); have n3_ := Aside0.mk (KeepBut.trans z6x7 hk (.inl rfl)); have n4_ := Aside0.mk (hb); have n5_ := Aside0.mk (hi); clear HO_175004; clear BK168; clear BK174; clear HK; clear HB; clear HI0; have HO_175004 := n0_; have BK168 := n1_; have BK174 := n2_; have HK := n3_; have HB := n4_; have HI0 := n5_; clear n0_ n1_ n2_ n3_ n4_ n5_; (try clear hb); (try clear hb2); (try clear hk); (try clear hi); have hnb117 := NB174_168.out; have hnc117 := NB168_174.out; have hnb118 := NB174_0.out; have hnc118 := NB0_174.out; have hcz119_0 : w116.cell? ⟨gb174, 0, none⟩ = some (.int .i64 (wrap64 (1 + t169))) := (blk_cell BK174.out 0).trans rfl; have hcz119_1 : w116.cell? ⟨gb174, 1, none⟩ = some (.int .i64 x175001_2) := (blk_cell BK174.out 1).trans rfl; have hcz119_2 : w116.cell? ⟨gb174, 2, none⟩ = some (.int .i64 x175002_2) := (blk_cell BK174.out 2).trans rfl; have hcz119_3 : w116.cell? ⟨gb174, 3, none⟩ = some (.int .i64 x175003_2) := (blk_cell BK174.out 3).trans rfl; have hcz119_4 : w116.cell? ⟨gb174, 4, none⟩ = some (u175004) := (blk_cell BK174.out 4).trans rfl; have hfz119_0 := blk_frozen BK174.out 0; have hfz119_1 := blk_frozen BK174.out 1; have hfz119_2 := blk_frozen BK174.out 2; have hfz119_3 := blk_frozen BK174.out 3; have hfz119_4 := blk_frozen BK174.out 4; have hnb120 := NB168_0.out; have hnc120 := NB0_168.out; have hcz121_0 : w116.cell? ⟨gb168, 0, none⟩ = some (.int .i64 0) := (blk_cell BK168.out 0).trans rfl; have hcz121_1 : w116.cell? ⟨gb168, 1, none⟩ = some (.int .i64 0) := (blk_cell BK168.out 1).trans rfl; have hcz121_2 : w116.cell? ⟨gb168, 2, none⟩ = some (.int .i64 0) := (blk_cell BK168.out 2).trans rfl; have hcz121_3 : w116.cell? ⟨gb168, 3, none⟩ = some (.int .i64 0) := (blk_cell BK168.out 3).trans rfl; have hcz121_4 : w116.cell? ⟨gb168, 4, none⟩ = some (.slice none 0 0) := (blk_cell BK168.out 4).trans rfl; have hfz121_0 := blk_frozen BK168.out 0; have hfz121_1 := blk_frozen BK168.out 1; have hfz121_2 := blk_frozen BK168.out 2; have hfz121_3 := blk_frozen BK168.out 3; have hfz121_4 := blk_frozen BK168.out 4; obtain ⟨Ao122, co122, eo122⟩ := Kd.R_slice HO_175004.out; subst eo122))
           refine bodyPost_ret (results_cell_row rfl _ _ gb168 34 #[.int .i64 (wrap64 (1 + t169)), .int .i64 x175001_2, .int .i64 x175002_2, .int .i64 x175003_2, .slice Ao122 x175004_2.length co122] (0, 0) _ rfl (by (with_reducible repeat (first | refine blk_drewN ?_ _ | refine blk_drew ?_ | refine blk_alloc ?_ _)); refine blk_put (cs := #[.int .i64 (wrap64 (1 + t169)), .int .i64 x175001_2, .int .i64 x175002_2, .int .i64 x175003_2, .slice none 0 0]) ?_ 4 _ rfl; (with_reducible repeat (first | refine blk_drewN ?_ _ | refine blk_drew ?_ | refine blk_alloc ?_ _)); refine blk_put (cs := #[.int .i64 (wrap64 (1 + t169)), .int .i64 x175001_2, .int .i64 x175002_2, .int .i64 0, .slice none 0 0]) ?_ 3 _ rfl; (with_reducible repeat (first | refine blk_drewN ?_ _ | refine blk_drew ?_ | refine blk_alloc ?_ _)); refine blk_put (cs := #[.int .i64 (wrap64 (1 + t169)), .int .i64 x175001_2, .int .i64 0, .int .i64 0, .slice none 0 0]) ?_ 2 _ rfl; (with_reducible repeat (first | refine blk_drewN ?_ _ | refine blk_drew ?_ | refine blk_alloc ?_ _)); refine blk_put (cs := #[.int .i64 (wrap64 (1 + t169)), .int .i64 0, .int .i64 0, .int .i64 0, .slice none 0 0]) ?_ 1 _ rfl; (with_reducible repeat (first | refine blk_drewN ?_ _ | refine blk_drew ?_ | refine blk_alloc ?_ _)); refine blk_put (cs := #[.int .i64 0, .int .i64 0, .int .i64 0, .int .i64 0, .slice none 0 0]) ?_ 0 _ rfl; (with_reducible repeat (first | refine blk_drewN ?_ _ | refine blk_drew ?_ | refine blk_alloc ?_ _)); exact BK168.out) Try.underlying34 rfl (by kernel_rfl)) rfl ?_
           exact ⟨_, by first | rfl | (simp [errW_none, errW_some] <;> rfl) | (simp [*, errW_none, errW_some] <;> rfl), by (with_reducible repeat (first | apply Kd.R_alloc | apply Kd.R_drewN | apply Kd.R_drew)); exact Kd.R_mono (Kd.R_far (p := ⟨gb168, 4, none⟩) (Kd.R_far (p := ⟨gb168, 3, none⟩) (Kd.R_far (p := ⟨gb168, 2, none⟩) (Kd.R_far (p := ⟨gb168, 1, none⟩) (Kd.R_far (p := ⟨gb168, 0, none⟩) (Kd.R_types HO_175004.out BK168.out (by decide)) (fun _ hk => hk.2) (.int .i64 (wrap64 (1 + t169)))) (fun _ hk => hk.2) (.int .i64 x175001_2)) (fun _ hk => hk.2) (.int .i64 x175002_2)) (fun _ hk => hk.2) (.int .i64 x175003_2)) (fun _ hk => hk.2) (.slice Ao122 x175004_2.length co122)) (fun _ hk => trivial), by repeat (first | (with_reducible first | exact HI0.out | apply IsS150.alloc | apply IsS150.drewN | apply IsS150.drew | apply IsS150.set_1 | refine IsS150.far ?_ NB0_168.out _ | refine IsS150.far ?_ NB0_174.out _) | exact HI0.out), by repeat (first | (with_reducible first | exact HB.out | apply below_alloc | apply pw_below_drewN | apply below_drew1 | refine below_set ?_ (IsS150.ge HI0.out) | refine below_set ?_ GE168.out | refine below_set ?_ GE174.out) | exact HB.out), by repeat (first | (with_reducible first | exact HK.out | apply KeepBut.set_ | apply keep_drewN | apply keep_drew | apply keep_alloc | refine keep_far ?_ GW168.out _ | refine keep_far ?_ GW174.out _) | exact HK.out)⟩

end Go.Proofs.Ytbipicjijbnbbaa.Hp
