-- hp.py
import Derived.Test.YtbiknbjcidlabaaHx0
import Derived.Test.YtbiknbjcidlabaaHx21
import Derived.Test.YtbiknbjcidlabaaHx33
import Derived.Test.YtbiknbjcidlabaaHx59
import Derived.Test.YtbiknbjcidlabaaHx60
import Derived.Test.YtbiknbjcidlabaaHx62
namespace Go.Proofs.Ytbiknbjcidlabaa.Hp
open Go.RowKit Go.Proofs.YtbiknbjcidlabaaW.PrintWords Go.Proofs.YtbiknbjcidlabaaW.PrintLast Go.Proofs.YtbiknbjcidlabaaW.PrintMore
attribute [local go_sem] max2_int min2_int max_two min_two max_three min_three max_four min_four
set_option linter.all false
-- squeezed by wip/tools/squeeze.py
theorem y63x0 {P : Prop} (h : P := by first | rfl | (simp; done) | (simp [*]; done)) : P := h
-- squeezed by wip/tools/squeeze.py
theorem z63x37 {P : Prop} (h : P := by simp only [putAll, Act.put, List.setIfInBounds_toArray, List.set_cons_zero, List.set_cons_succ]) : P := h
theorem z63x36 {P : Prop} (h : P := by (with_reducible repeat (first | apply Kd.R_alloc | apply Kd.R_drewN | apply Kd.R_drew)); exact HO_9.out) : P := h
theorem z63x35 {P : Prop} (h : P := by (with_reducible repeat (first | apply Kd.R_alloc | apply Kd.R_drewN | apply Kd.R_drew)); exact HO_8.out) : P := h
theorem z63x34 {P : Prop} (h : P := by (with_reducible repeat (first | apply Kd.R_alloc | apply Kd.R_drewN | apply Kd.R_drew)); exact HO_6.out) : P := h
theorem z63x33 {P : Prop} (h : P := by (with_reducible repeat (first | apply Kd.R_alloc | apply Kd.R_drewN | apply Kd.R_drew)); exact HO_5.out) : P := h
theorem z63x32 {P : Prop} (h : P := by (with_reducible repeat (first | apply Kd.R_alloc | apply Kd.R_drewN | apply Kd.R_drew)); exact HO_11.out) : P := h
theorem z63x31 {P : Prop} (h : P := by (with_reducible repeat (first | apply Kd.R_alloc | apply Kd.R_drewN | apply Kd.R_drew)); exact HO996.out) : P := h
theorem z63x30 {P : Prop} (h : P := by (with_reducible repeat (first | apply Kd.R_alloc | apply Kd.R_drewN | apply Kd.R_drew)); exact HO994.out) : P := h
theorem z63x29 {P : Prop} (h : P := by (with_reducible repeat (first | apply Kd.R_alloc | apply Kd.R_drewN | apply Kd.R_drew)); exact HO989.out) : P := h
theorem z63x28 {P : Prop} (h : P := by (with_reducible repeat (first | apply Kd.R_alloc | apply Kd.R_drewN | apply Kd.R_drew)); exact HO982.out) : P := h
theorem z63x27 {P : Prop} (h : P := by (with_reducible repeat (first | apply Kd.R_alloc | apply Kd.R_drewN | apply Kd.R_drew)); exact HO979.out) : P := h
theorem z63x26 {P : Prop} (h : P := by (with_reducible repeat (first | apply Kd.R_alloc | apply Kd.R_drewN | apply Kd.R_drew)); exact HO1019.out) : P := h
theorem z63x25 {P : Prop} (h : P := by (with_reducible repeat (first | apply Kd.R_alloc | apply Kd.R_drewN | apply Kd.R_drew)); exact HO1016.out) : P := h
theorem z63x24 {P : Prop} (h : P := by (with_reducible repeat (first | apply Kd.R_alloc | apply Kd.R_drewN | apply Kd.R_drew)); exact HO1013.out) : P := h
theorem z63x23 {P : Prop} (h : P := by (with_reducible repeat (first | apply Kd.R_alloc | apply Kd.R_drewN | apply Kd.R_drew)); exact HO1010.out) : P := h
theorem z63x22 {P : Prop} (h : P := by (with_reducible repeat (first | apply Kd.R_alloc | apply Kd.R_drewN | apply Kd.R_drew)); exact HO1007.out) : P := h
theorem z63x21 {P : Prop} (h : P := by (with_reducible repeat (first | apply Kd.R_alloc | apply Kd.R_drewN | apply Kd.R_drew)); exact HO_991004.out) : P := h
theorem z63x20 {P : Prop} (h : P := by (with_reducible repeat (first | refine blk_drewN ?_ _ | refine blk_drew ?_ | refine blk_alloc ?_ _)); exact BK990.out) : P := h
theorem z63x19 {P : Prop} (h : P := by repeat (first | (with_reducible first | exact HB.out | apply below_alloc | apply pw_below_drewN | apply below_drew1) | exact HB.out)) : P := h
theorem z63x18 {P : Prop} (h : P := by (try simp only [List.map_toArray, List.map_cons, List.map_nil]); first | done | rfl | (simp only [List.length_drop, List.length_take]; rfl)) : P := h
theorem z63x17 {P : Prop} (h : P := by (with_reducible repeat (first | apply Kd.R_alloc | apply Kd.R_drewN | apply Kd.R_drew)); exact Kd.R_mono HO_9.out (fun _ hk => ⟨hk.2, ⟨hk.1.1, hk.1.2⟩⟩)) : P := h
theorem z63x16 {P : Prop} (h : P := by (with_reducible repeat (first | apply Kd.R_alloc | apply Kd.R_drewN | apply Kd.R_drew)); exact Kd.R_mono HO_8.out (fun _ hk => ⟨hk.2, ⟨hk.1.2, hk.1.1⟩⟩)) : P := h
theorem z63x15 {P : Prop} (h : P := by (with_reducible repeat (first | apply Kd.R_alloc | apply Kd.R_drewN | apply Kd.R_drew)); exact Kd.R_mono HO_6.out (fun _ hk => ⟨hk.2, ⟨hk.1.1, hk.1.2⟩⟩)) : P := h
theorem z63x14 {P : Prop} (h : P := by (with_reducible repeat (first | apply Kd.R_alloc | apply Kd.R_drewN | apply Kd.R_drew)); exact Kd.R_mono HO_5.out (fun _ hk => ⟨hk.2, ⟨hk.1.2, hk.1.1⟩⟩)) : P := h
theorem z63x13 {P : Prop} (h : P := by (with_reducible repeat (first | apply Kd.R_alloc | apply Kd.R_drewN | apply Kd.R_drew)); exact Kd.R_mono HO_11.out (fun _ hk => ⟨hk.2, ⟨hk.1.1, hk.1.2⟩⟩)) : P := h
theorem z63x12 {P : Prop} (h : P := by (with_reducible repeat (first | apply Kd.R_alloc | apply Kd.R_drewN | apply Kd.R_drew)); exact Kd.R_mono HO1013.out (fun _ hk => ⟨hk.2.2, ⟨hk.1, hk.2.1⟩⟩)) : P := h
theorem z63x11 {P : Prop} (h : P := by (with_reducible repeat (first | apply Kd.R_alloc | apply Kd.R_drewN | apply Kd.R_drew)); exact Kd.R_mono HO1016.out (fun _ hk => ⟨hk.1.1.2, ⟨hk.1.2, hk.2⟩⟩)) : P := h
theorem z63x10 {P : Prop} (h : P := by (with_reducible repeat (first | apply Kd.R_alloc | apply Kd.R_drewN | apply Kd.R_drew)); exact Kd.R_mono HO1007.out (fun _ hk => ⟨hk.1.1.2, ⟨hk.1.2, hk.2⟩⟩)) : P := h
theorem z63x9 {P : Prop} (h : P := by (with_reducible repeat (first | apply Kd.R_alloc | apply Kd.R_drewN | apply Kd.R_drew)); exact Kd.R_mono HO_991004.out (fun _ hk => ⟨hk.2, ⟨hk.1.1, hk.1.2⟩⟩)) : P := h
theorem z63x8 {P : Prop} (h : P := by rw [hg]; exact (below_size (by repeat (first | (with_reducible first | exact HB.out | apply below_alloc | apply pw_below_drewN | apply below_drew1) | exact HB.out)))) : P := h
theorem z63x7 {P : Prop} (h : P := by repeat (first | (with_reducible first | exact HB.out | apply below_alloc | apply pw_below_drewN | apply below_drew1 | refine below_set ?_ GE990.out) | exact HB.out)) : P := h
theorem z63x6 {P : Prop} (h : P := by (with_reducible repeat (first | apply Kd.R_alloc | apply Kd.R_drewN | apply Kd.R_drew)); exact (Kd.R_mono (Kd.R_far (p := ⟨gb990, 4, none⟩) (Kd.R_far (p := ⟨gb990, 3, none⟩) (Kd.R_far (p := ⟨gb990, 2, none⟩) (Kd.R_far (p := ⟨gb990, 1, none⟩) (Kd.R_far (p := ⟨gb990, 0, none⟩) (Kd.R_types HO989.out BK990.out (by decide)) (fun _ hk => hk.2) (.int .i64 t983)) (fun _ hk => hk.2) (.int .i64 t984)) (fun _ hk => hk.2) (.int .i64 t985)) (fun _ hk => hk.2) (.int .i64 t986)) (fun _ hk => hk.2) (.slice Ao25 t987.length co25)) (fun _ h_ => h_.1))) : P := h
theorem z63x5 {P : Prop} (h : P := by (with_reducible repeat (first | apply Kd.R_alloc | apply Kd.R_drewN | apply Kd.R_drew)); exact (Kd.R_mono (Kd.R_far (p := ⟨gb990, 4, none⟩) (Kd.R_far (p := ⟨gb990, 3, none⟩) (Kd.R_far (p := ⟨gb990, 2, none⟩) (Kd.R_far (p := ⟨gb990, 1, none⟩) (Kd.R_far (p := ⟨gb990, 0, none⟩) (Kd.R_types HO989.out BK990.out (by decide)) (fun _ hk => hk.2) (.int .i64 t983)) (fun _ hk => hk.2) (.int .i64 t984)) (fun _ hk => hk.2) (.int .i64 t985)) (fun _ hk => hk.2) (.int .i64 t986)) (fun _ hk => hk.2) (.slice Ao14 t987.length co14)) (fun _ h_ => h_.1))) : P := h
theorem z63x4 {P : Prop} (h : P := by (with_reducible repeat (first | apply Kd.R_alloc | apply Kd.R_drewN | apply Kd.R_drew)); exact (Kd.R_mono (Kd.R_far (p := ⟨gb990, 4, none⟩) (Kd.R_far (p := ⟨gb990, 3, none⟩) (Kd.R_far (p := ⟨gb990, 2, none⟩) (Kd.R_far (p := ⟨gb990, 1, none⟩) (Kd.R_far (p := ⟨gb990, 0, none⟩) (Kd.R_types HO982.out BK990.out (by decide)) (fun _ hk => hk.2) (.int .i64 t983)) (fun _ hk => hk.2) (.int .i64 t984)) (fun _ hk => hk.2) (.int .i64 t985)) (fun _ hk => hk.2) (.int .i64 t986)) (fun _ hk => hk.2) (.slice Ao25 t987.length co25)) (fun _ h_ => h_.1))) : P := h
theorem z63x3 {P : Prop} (h : P := by (with_reducible repeat (first | apply Kd.R_alloc | apply Kd.R_drewN | apply Kd.R_drew)); exact (Kd.R_mono (Kd.R_far (p := ⟨gb990, 4, none⟩) (Kd.R_far (p := ⟨gb990, 3, none⟩) (Kd.R_far (p := ⟨gb990, 2, none⟩) (Kd.R_far (p := ⟨gb990, 1, none⟩) (Kd.R_far (p := ⟨gb990, 0, none⟩) (Kd.R_types HO982.out BK990.out (by decide)) (fun _ hk => hk.2) (.int .i64 t983)) (fun _ hk => hk.2) (.int .i64 t984)) (fun _ hk => hk.2) (.int .i64 t985)) (fun _ hk => hk.2) (.int .i64 t986)) (fun _ hk => hk.2) (.slice Ao14 t987.length co14)) (fun _ h_ => h_.1))) : P := h
theorem z63x2 {P : Prop} (h : P := by (with_reducible repeat (first | apply Kd.R_alloc | apply Kd.R_drewN | apply Kd.R_drew)); exact (Kd.R_mono (Kd.R_far (p := ⟨gb990, 4, none⟩) (Kd.R_far (p := ⟨gb990, 3, none⟩) (Kd.R_far (p := ⟨gb990, 2, none⟩) (Kd.R_far (p := ⟨gb990, 1, none⟩) (Kd.R_far (p := ⟨gb990, 0, none⟩) (Kd.R_types HO979.out BK990.out (by decide)) (fun _ hk => hk.2) (.int .i64 t983)) (fun _ hk => hk.2) (.int .i64 t984)) (fun _ hk => hk.2) (.int .i64 t985)) (fun _ hk => hk.2) (.int .i64 t986)) (fun _ hk => hk.2) (.slice Ao25 t987.length co25)) (fun _ h_ => h_.1))) : P := h
theorem z63x1 {P : Prop} (h : P := by (with_reducible repeat (first | apply Kd.R_alloc | apply Kd.R_drewN | apply Kd.R_drew)); exact (Kd.R_mono (Kd.R_far (p := ⟨gb990, 4, none⟩) (Kd.R_far (p := ⟨gb990, 3, none⟩) (Kd.R_far (p := ⟨gb990, 2, none⟩) (Kd.R_far (p := ⟨gb990, 1, none⟩) (Kd.R_far (p := ⟨gb990, 0, none⟩) (Kd.R_types HO979.out BK990.out (by decide)) (fun _ hk => hk.2) (.int .i64 t983)) (fun _ hk => hk.2) (.int .i64 t984)) (fun _ hk => hk.2) (.int .i64 t985)) (fun _ hk => hk.2) (.int .i64 t986)) (fun _ hk => hk.2) (.slice Ao14 t987.length co14)) (fun _ h_ => h_.1))) : P := h
theorem z63x0 {P : Prop} (h : P := by (with_reducible repeat (first | refine blk_drewN ?_ _ | refine blk_drew ?_ | refine blk_alloc ?_ _)); refine blk_put (cs := #[.int .i64 t983, .int .i64 t984, .int .i64 t985, .int .i64 t986, .slice none 0 0]) ?_ 4 _ rfl; (with_reducible repeat (first | refine blk_drewN ?_ _ | refine blk_drew ?_ | refine blk_alloc ?_ _)); refine blk_put (cs := #[.int .i64 t983, .int .i64 t984, .int .i64 t985, .int .i64 0, .slice none 0 0]) ?_ 3 _ rfl; (with_reducible repeat (first | refine blk_drewN ?_ _ | refine blk_drew ?_ | refine blk_alloc ?_ _)); refine blk_put (cs := #[.int .i64 t983, .int .i64 t984, .int .i64 0, .int .i64 0, .slice none 0 0]) ?_ 2 _ rfl; (with_reducible repeat (first | refine blk_drewN ?_ _ | refine blk_drew ?_ | refine blk_alloc ?_ _)); refine blk_put (cs := #[.int .i64 t983, .int .i64 0, .int .i64 0, .int .i64 0, .slice none 0 0]) ?_ 1 _ rfl; (with_reducible repeat (first | refine blk_drewN ?_ _ | refine blk_drew ?_ | refine blk_alloc ?_ _)); refine blk_put (cs := #[.int .i64 0, .int .i64 0, .int .i64 0, .int .i64 0, .slice none 0 0]) ?_ 0 _ rfl; (with_reducible repeat (first | refine blk_drewN ?_ _ | refine blk_drew ?_ | refine blk_alloc ?_ _)); exact BK990.out) : P := h

/-! ### laws_FnBuildMore: function 18 -/
mutual
def laws_FnBuildMore.j0 : Nat → List Int → List Int → Bool → Option (Bool)
 | 0, _, _, _ => none
 | k + 1, x0, x1, x20 => if x20 = true then (some true) else ((spec_DrawKnowBuild.f k x0).bind fun bt977 => ((spec_DrawKnowKeys.f k x1).bind fun bt991 => ((impl_KnowBuild.f bt977.1 bt977.2.1 bt977.2.2.1 bt977.2.2.2.1 bt977.2.2.2.2.1 bt977.2.2.2.2.2.1 bt977.2.2.2.2.2.2).bind fun t997 => ((spec_KnowBuild.f k bt977.1 bt977.2.1 bt977.2.2.1 bt977.2.2.2.1 bt977.2.2.2.2.1 bt977.2.2.2.2.2.1 bt977.2.2.2.2.2.2).bind fun t998 => (if (t997 != t998) = true then (some false) else (laws_FnBuildMore.l0 k bt977.1 bt977.2.1 bt991.1 bt991.2 t997 (([] : List Int)) 1 bt977.2.2.1 bt977.2.2.2.1 bt977.2.2.2.2.1 bt977.2.2.2.2.2.1 bt977.2.2.2.2.2.2))))))
def laws_FnBuildMore.l0 : Nat → List Int → List (S24) → List Int → List (S24) → Bool → List Int → Int → Int → Int → Int → Int → List (S24) → Option (Bool)
 | 0, _, _, _, _, _, _, _, _, _, _, _, _ => none
 | k + 1, x5, x6, x8, x9, x10, x11, x12, x991000, x991001, x991002, x991003, x991004 => if x12 ≤ 60 then (if x11.length < 17592186044416 then (laws_FnBuildMore.l0 k x5 x6 x8 x9 x10 (x11 ++ [x12]) (wrap64 (x12 + 1)) x991000 x991001 x991002 x991003 x991004) else (none)) else (if x10 = true then ((some (([] : List Int) : List Int)).bind fun y1005 => (if y1005.length + x5.length < 17592186044416 then ((some (y1005 ++ x5 : List Int)).bind fun y1008 => (if y1008.length + x8.length < 17592186044416 then ((some (([] : List (S24)) : List (S24))).bind fun y1014 => (if y1014.length + x6.length < 2513169434916 then ((some (y1014 ++ x6 : List (S24))).bind fun y1017 => (if y1017.length + x9.length < 2513169434916 then ((impl_KnowBuild.f (y1008 ++ x8) (y1017 ++ x9) x991000 x991001 x991002 x991003 x991004).bind fun t1023 => (laws_FnBuildMore.j2 k x11 (!t1023) x991000 x991001 x991002 x991003 x991004)) else (none))) else (none))) else (none))) else (none))) else (laws_FnBuildMore.j2 k x11 false x991000 x991001 x991002 x991003 x991004))
def laws_FnBuildMore.j2 : Nat → List Int → Bool → Int → Int → Int → Int → List (S24) → Option (Bool)
 | 0, _, _, _, _, _, _, _ => none
 | k + 1, x11, x66, x991000, x991001, x991002, x991003, x991004 => if x66 = true then (some false) else ((impl_KnowBuild.f x11 ([] : List (S24)) x991000 x991001 x991002 x991003 x991004).bind fun t1024 => ((impl_MsgOk.f x991000 x991001 x991002 x991003 x991004).bind fun t1025 => (if (t1024 == t1025) = true then ((impl_KnowBuild.f ([] : List Int) x991004 x991000 x991001 x991002 x991003 x991004).bind fun t1026 => ((impl_MsgOk.f x991000 x991001 x991002 x991003 x991004).bind fun t1027 => (some (t1026 == t1027)))) else (some false))))
end
def laws_FnBuildMore.f (k : Nat) (l0 : List Int) (l1 : List Int) : Option (Bool) := if (l0.length : Int) > 1048576 then (laws_FnBuildMore.j0 k l0 l1 true) else (laws_FnBuildMore.j0 k l0 l1 (decide ((l1.length : Int) > 1048576)))
theorem laws_FnBuildMore.mono_l : ∀ k, (∀ y0 y1 y2, LeO (laws_FnBuildMore.j0 k y0 y1 y2) (laws_FnBuildMore.j0 (k + 1) y0 y1 y2)) ∧ (∀ y0 y1 y2 y3 y4 y5 y6 y7 y8 y9 y10 y11, LeO (laws_FnBuildMore.l0 k y0 y1 y2 y3 y4 y5 y6 y7 y8 y9 y10 y11) (laws_FnBuildMore.l0 (k + 1) y0 y1 y2 y3 y4 y5 y6 y7 y8 y9 y10 y11)) ∧ (∀ y0 y1 y2 y3 y4 y5 y6, LeO (laws_FnBuildMore.j2 k y0 y1 y2 y3 y4 y5 y6) (laws_FnBuildMore.j2 (k + 1) y0 y1 y2 y3 y4 y5 y6))
 | 0 => ⟨fun _ _ _ r h => by simp [laws_FnBuildMore.j0] at h, fun _ _ _ _ _ _ _ _ _ _ _ _ r h => by simp [laws_FnBuildMore.l0] at h, fun _ _ _ _ _ _ _ r h => by simp [laws_FnBuildMore.j2] at h⟩
 | k + 1 => by
  obtain ⟨ih0, ih1, ih2⟩ := laws_FnBuildMore.mono_l k
  refine ⟨?_, ?_, ?_⟩
  ·intro y0 y1 y2
   unfold laws_FnBuildMore.j0
   repeat' first
   | (with_reducible exact ih0 _ _ _)
   | (with_reducible exact ih1 _ _ _ _ _ _ _ _ _ _ _ _)
   | (with_reducible exact ih2 _ _ _ _ _ _ _)
   | (with_reducible exact spec_DrawKnowBuild.mono _ _)
   | (with_reducible exact spec_DrawKnowKeys.mono _ _)
   | (with_reducible exact spec_KnowBuild.mono _ _ _ _ _ _ _ _)
   | (with_reducible exact LeO.refl _)
   | (with_reducible exact LeO.none _)
   | (with_reducible refine LeO.ite ?_ ?_)
   | (with_reducible refine LeO.bind ?_ (fun _ => ?_))
   | exact ih0 _ _ _
   | exact ih1 _ _ _ _ _ _ _ _ _ _ _ _
   | exact ih2 _ _ _ _ _ _ _
   | exact spec_DrawKnowBuild.mono _ _
   | exact spec_DrawKnowKeys.mono _ _
   | exact spec_KnowBuild.mono _ _ _ _ _ _ _ _
   | exact LeO.none _
   | refine LeO.ite ?_ ?_
   | refine LeO.bind ?_ (fun _ => ?_)
  ·intro y0 y1 y2 y3 y4 y5 y6 y7 y8 y9 y10 y11
   unfold laws_FnBuildMore.l0
   repeat' first
   | (with_reducible exact ih0 _ _ _)
   | (with_reducible exact ih1 _ _ _ _ _ _ _ _ _ _ _ _)
   | (with_reducible exact ih2 _ _ _ _ _ _ _)
   | (with_reducible exact spec_DrawKnowBuild.mono _ _)
   | (with_reducible exact spec_DrawKnowKeys.mono _ _)
   | (with_reducible exact spec_KnowBuild.mono _ _ _ _ _ _ _ _)
   | (with_reducible exact LeO.refl _)
   | (with_reducible exact LeO.none _)
   | (with_reducible refine LeO.ite ?_ ?_)
   | (with_reducible refine LeO.bind ?_ (fun _ => ?_))
   | exact ih0 _ _ _
   | exact ih1 _ _ _ _ _ _ _ _ _ _ _ _
   | exact ih2 _ _ _ _ _ _ _
   | exact spec_DrawKnowBuild.mono _ _
   | exact spec_DrawKnowKeys.mono _ _
   | exact spec_KnowBuild.mono _ _ _ _ _ _ _ _
   | exact LeO.none _
   | refine LeO.ite ?_ ?_
   | refine LeO.bind ?_ (fun _ => ?_)
  ·intro y0 y1 y2 y3 y4 y5 y6
   unfold laws_FnBuildMore.j2
   repeat' first
   | (with_reducible exact ih0 _ _ _)
   | (with_reducible exact ih1 _ _ _ _ _ _ _ _ _ _ _ _)
   | (with_reducible exact ih2 _ _ _ _ _ _ _)
   | (with_reducible exact spec_DrawKnowBuild.mono _ _)
   | (with_reducible exact spec_DrawKnowKeys.mono _ _)
   | (with_reducible exact spec_KnowBuild.mono _ _ _ _ _ _ _ _)
   | (with_reducible exact LeO.refl _)
   | (with_reducible exact LeO.none _)
   | (with_reducible refine LeO.ite ?_ ?_)
   | (with_reducible refine LeO.bind ?_ (fun _ => ?_))
   | exact ih0 _ _ _
   | exact ih1 _ _ _ _ _ _ _ _ _ _ _ _
   | exact ih2 _ _ _ _ _ _ _
   | exact spec_DrawKnowBuild.mono _ _
   | exact spec_DrawKnowKeys.mono _ _
   | exact spec_KnowBuild.mono _ _ _ _ _ _ _ _
   | exact LeO.none _
   | refine LeO.ite ?_ ?_
   | refine LeO.bind ?_ (fun _ => ?_)
theorem laws_FnBuildMore.mono : ∀ a0 a1 k, LeO (laws_FnBuildMore.f k a0 a1) (laws_FnBuildMore.f (k + 1) a0 a1) := by
 intro a0 a1 k
 obtain ⟨ih0, ih1, ih2⟩ := laws_FnBuildMore.mono_l k
 unfold laws_FnBuildMore.f
 repeat' first
   | (with_reducible exact ih0 _ _ _)
   | (with_reducible exact ih1 _ _ _ _ _ _ _ _ _ _ _ _)
   | (with_reducible exact ih2 _ _ _ _ _ _ _)
   | (with_reducible exact spec_DrawKnowBuild.mono _ _)
   | (with_reducible exact spec_DrawKnowKeys.mono _ _)
   | (with_reducible exact spec_KnowBuild.mono _ _ _ _ _ _ _ _)
   | (with_reducible exact LeO.refl _)
   | (with_reducible exact LeO.none _)
   | (with_reducible refine LeO.ite ?_ ?_)
   | (with_reducible refine LeO.bind ?_ (fun _ => ?_))
   | exact ih0 _ _ _
   | exact ih1 _ _ _ _ _ _ _ _ _ _ _ _
   | exact ih2 _ _ _ _ _ _ _
   | exact spec_DrawKnowBuild.mono _ _
   | exact spec_DrawKnowKeys.mono _ _
   | exact spec_KnowBuild.mono _ _ _ _ _ _ _ _
   | exact LeO.none _
   | refine LeO.ite ?_ ?_
   | refine LeO.bind ?_ (fun _ => ?_)
def laws_FnBuildMore.T13 : Bool × List (List Nat × List Nat) := (true, [([], []), ([0], [0]), ([1], [1]), ([1], [1]), ([2, 3, 1, 1], [1, 2, 3]), ([1], [1]), ([4, 5, 4, 1], [1, 4, 5]), ([1], [1]), ([1], [1]), ([7, 8, 6, 1], [1, 7, 8]), ([1], [1]), ([9, 10, 9, 1], [1, 9, 10]), ([1], [1]), ([6, 11, 12, 11, 1], [1, 6, 11, 12]), ([13, 1], [1, 13]), ([1, 14], [1, 14])])
def laws_FnBuildMore.B13 : List Nat := [0, 1, 3, 3, 15, 3, 63, 3, 3, 511, 3, 2047, 3, 8191, 16383, 32767]
theorem laws_FnBuildMore.tab13 : rtab .any (opsOf Try.f18 13) = laws_FnBuildMore.T13 := by kernel_rfl
theorem laws_FnBuildMore.bits13 : waitsOk laws_FnBuildMore.T13.2 laws_FnBuildMore.B13 = true := by kernel_rfl
def laws_FnBuildMore.T15 : Bool × List (List Nat × List Nat) := (true, [([], []), ([], []), ([0, 1], [0, 1]), ([], []), ([3, 2], [3]), ([2, 4], [2, 4]), ([5, 4], [5]), ([6], [6]), ([7, 6], [6, 7]), ([6], [6]), ([8, 9, 6, 6], [6, 8, 9]), ([6], [6]), ([11, 10, 6], [6, 11]), ([10, 12, 6], [6, 10, 12]), ([6, 13], [6, 13]), ([14, 12, 0, 1, 2, 3, 4, 5, 6, 7, 8, 9, 10, 11, 12, 13, 14], [14])])
def laws_FnBuildMore.B15 : List Nat := [0, 0, 3, 0, 15, 31, 63, 127, 255, 127, 1023, 127, 4095, 8191, 16383, 32767]
theorem laws_FnBuildMore.tab15 : rtab .any (opsOf Try.f18 15) = laws_FnBuildMore.T15 := by kernel_rfl
theorem laws_FnBuildMore.bits15 : waitsOk laws_FnBuildMore.T15.2 laws_FnBuildMore.B15 = true := by kernel_rfl
set_option maxHeartbeats 8000000 in
set_option maxRecDepth 100000 in
theorem laws_FnBuildMore.calls (k : Nat) (A0 : Option Addr) (c0 : Nat) (l0 : List Int) (A1 : Option Addr) (c1 : Nat) (l1 : List Int) (r : Bool) (w : World) (hr0 : Kd.C (Kd.int .u8) w A0 l0.length l0) (hc0 : l0.length ≤ c0) (hr1 : Kd.C (Kd.int .u8) w A1 l1.length l1) (hc1 : l1.length ≤ c1) (h : laws_FnBuildMore.f k l0 l1 = some r) :
  Calls Try.prog 18 #[.slice A0 l0.length c0, .slice A1 l1.length c1] w fun e w' => e = .returned (.bool r) ∧ Below w.heap.size w w' := by
 have hu36 := Try.underlying36
 have HR0 := Aside0.mk hr0
 have HC0 := Aside0.mk hc0
 clear hr0 hc0
 have HR1 := Aside0.mk hr1
 have HC1 := Aside0.mk hc1
 clear hr1 hc1
 have HB := Aside0.mk (Below.refl w.heap.size w)
 have H : (if (l0.length : Int) > 1048576 then (laws_FnBuildMore.j0 k l0 l1 true) else (laws_FnBuildMore.j0 k l0 l1 (decide ((l1.length : Int) > 1048576)))) = some r := h
 clear h
 have HC3 := Aside0.mk H
 clear H
 go_enter Try.func18, Try.ntmps18
 go_upto_region 1 with (fail)
 go_cut [20] (fun v20 wc => ∃ (kq : Nat) (x20_2 : Bool), v20 = .bool x20_2 ∧ Aside0 (laws_FnBuildMore.j0 kq l0 l1 x20_2 = some r) ∧ Aside0 (kq ≤ k) ∧ Aside0 (Below w.heap.size w wc))
 case first =>
  have H := HC3.out
  clear HC3
  by_cases c4 : (l0.length : Int) > 1048576
  ·rw [if_pos c4] at H
   have c4b0 : decide (1048576 < (l0.length : Int)) = true := decide_eq_true c4
   have c4b1 : decide (1048576 < l0.length) = true := decide_eq_true (by omega)
   clear c4
   (first | rw [c4b0] | (simp only [i64_w, i32_w]; rw [c4b0]) | skip)
   have H' := Aside0.mk H
   clear H
   go_wp2
   go_meet
   case rel => exact ⟨_, (true), y63x0, H', ⟨by first | omega | exact Nat.le_refl _⟩, ⟨by repeat (first | (with_reducible first | exact HB.out | apply below_alloc | apply pw_below_drewN | apply below_drew1) | exact HB.out)⟩⟩
  ·rw [if_neg c4] at H
   have c4b0 : decide (1048576 < (l0.length : Int)) = false := decide_eq_false c4
   have c4b1 : decide (1048576 < l0.length) = false := decide_eq_false (by omega)
   clear c4
   (first | rw [c4b0] | (simp only [i64_w, i32_w]; rw [c4b0]) | skip)
   have H' := Aside0.mk H
   clear H
   go_wp2
   go_meet
   case rel => exact ⟨_, (decide ((l1.length : Int) > 1048576)), y63x0, H', ⟨by first | omega | exact Nat.le_refl _⟩, ⟨by repeat (first | (with_reducible first | exact HB.out | apply below_alloc | apply pw_below_drewN | apply below_drew1) | exact HB.out)⟩⟩
 case rest =>
  clear HC3
  try clear c1
  try clear p2
  try clear c4
  try clear c4b0
  try clear c4b1
  obtain ⟨kq, x20_2, rfl, HA, HJ2, HB⟩ := hcut
  cases kq with
  | zero => exact absurd HA.out (by simp [laws_FnBuildMore.j0])
  | succ kj2 =>
   have H := HA.out
   clear HA
   simp only [laws_FnBuildMore.j0] at H
   by_cases c5 : x20_2 = true
   ·subst c5
    rw [if_pos rfl] at H
    obtain rfl := Option.some.inj H
    go_wp2
    go_ret
    exact ⟨by first | rfl | (simp [errW_none, errW_some] <;> rfl) | (simp [*, errW_none, errW_some] <;> rfl), by repeat (first | (with_reducible first | exact HB.out | apply below_alloc | apply pw_below_drewN | apply below_drew1) | exact HB.out)⟩
   ·replace c5 := Bool.eq_false_iff.mpr c5
    subst c5
    rw [if_neg (show ¬ (false = true) by decide)] at H
    replace H := Option.bind_eq_some_iff.mp H
    obtain ⟨⟨t977, t980, t983, t984, t985, t986, t987⟩, A60, H⟩ := H
    replace H : ((spec_DrawKnowKeys.f kj2 l1).bind fun bt991 => ((impl_KnowBuild.f t977 t980 t983 t984 t985 t986 t987).bind fun t997 => ((spec_KnowBuild.f kj2 t977 t980 t983 t984 t985 t986 t987).bind fun t998 => (if (t997 != t998) = true then (some false) else (laws_FnBuildMore.l0 kj2 t977 t980 bt991.1 bt991.2 t997 (([] : List Int)) 1 t983 t984 t985 t986 t987))))) = some r := H
    have A6 := Aside0.mk A60
    clear A60
    replace H := Option.bind_eq_some_iff.mp H
    obtain ⟨⟨t991, t992⟩, A70, H⟩ := H
    replace H : ((impl_KnowBuild.f t977 t980 t983 t984 t985 t986 t987).bind fun t997 => ((spec_KnowBuild.f kj2 t977 t980 t983 t984 t985 t986 t987).bind fun t998 => (if (t997 != t998) = true then (some false) else (laws_FnBuildMore.l0 kj2 t977 t980 t991 t992 t997 (([] : List Int)) 1 t983 t984 t985 t986 t987)))) = some r := H
    have A7 := Aside0.mk A70
    clear A70
    replace H := Option.bind_eq_some_iff.mp H
    obtain ⟨t997, A80, H⟩ := H
    replace H : ((spec_KnowBuild.f kj2 t977 t980 t983 t984 t985 t986 t987).bind fun t998 => (if (t997 != t998) = true then (some false) else (laws_FnBuildMore.l0 kj2 t977 t980 t991 t992 t997 (([] : List Int)) 1 t983 t984 t985 t986 t987))) = some r := H
    have A8 := Aside0.mk A80
    clear A80
    replace H := Option.bind_eq_some_iff.mp H
    obtain ⟨t998, A90, H⟩ := H
    replace H : (if (t997 != t998) = true then (some false) else (laws_FnBuildMore.l0 kj2 t977 t980 t991 t992 t997 (([] : List Int)) 1 t983 t984 t985 t986 t987)) = some r := H
    have A9 := Aside0.mk A90
    clear A90
    by_cases c10 : (t997 != t998) = true
    ·rw [if_pos c10] at H
     have c10b0 : (t997 != t998) = true := c10
     (try (have c10b1 : decide (t997 = t998) = false := by simpa using c10))
     (try (have c10b2 : (t997 == t998) = false := by simpa using c10))
     (try (have c10b3 : ¬ (t997 = t998) := by simpa using c10))
     clear c10
     obtain rfl := Option.some.inj H
     go_wp2_with (first | ((with_reducible refine gate_callee (f := 53) rfl ?_); refine goesL_ (some 23) rfl rfl Try.func53 (by kernel_rfl) rfl #[.slice A0 l0.length c0] rfl z63x18 ?_; (with_reducible refine (spec_DrawKnowBuild.calls kj2 _ _ l0 t977 t980 t983 t984 t985 t986 t987 _ ?side1 ?side2 A6.out).mono ?_); (case side1 => repeat (first | exact (Kd.C_below HR0.out HB.out) | (with_reducible refine Kd.C_alloc ?_ _) | (with_reducible refine Kd.C_drewN ?_ _) | (with_reducible refine Kd.C_drew ?_))); (case side2 => exact HC0.out); rintro e w11 ⟨v978, v981, v988, rfl, ho0, ho1, ho2, hb⟩; refine ⟨_, rfl, ?_⟩; have n0_ := Aside0.mk (Kd.R_lower ho0 (below_size z63x19)); have n1_ := Aside0.mk (Kd.R_lower ho1 (below_size z63x19)); have n2_ := Aside0.mk (Kd.R_lower ho2 (below_size z63x19)); have n3_ := Aside0.mk (below_step z63x19 hb); clear HB; have HO979 := n0_; have HO982 := n1_; have HO989 := n2_; have HB := n3_; clear n0_ n1_ n2_ n3_; (try clear hb); (try clear hb2); (try clear hk); (try clear hi); (try clear ho0); (try clear ho1); (try clear ho2)) | ((with_reducible refine gate_dst (N := 7) rfl ?_); refine box_event ?hg (N := 7) ?hd (cs := #[.int .i64 0, .int .i64 0, .int .i64 0, .int .i64 0, .slice none 0 0]) (t := 36) ?hr ?_; (case hd => rfl); (case hg => rfl); (case hr => first | (go_simp; done) | (go_simp; rfl)); intro gb990 hg w12 hbox hb; have n0_ := Aside0.mk (Kd.R_below z63x27 hb); have n1_ := Aside0.mk (Kd.R_below z63x28 hb); have n2_ := Aside0.mk (Kd.R_below z63x29 hb); have n3_ := Aside0.mk (below_step z63x19 hb); have n4_ := Aside0.mk (hbox); have n5_ := Aside0.mk ((z63x8 : w.heap.size ≤ gb990)); have n6_ := Aside0.mk ((z63x8 : w.heap.size ≤ gb990)); clear HO979; clear HO982; clear HO989; clear HB; have HO979 := n0_; have HO982 := n1_; have HO989 := n2_; have HB := n3_; have BK990 := n4_; have GW990 := n5_; have GE990 := n6_; clear n0_ n1_ n2_ n3_ n4_ n5_ n6_; clear hb hbox hg; have hcz13_0 : w12.cell? ⟨gb990, 0, none⟩ = some (.int .i64 0) := (blk_cell BK990.out 0).trans rfl; have hcz13_1 : w12.cell? ⟨gb990, 1, none⟩ = some (.int .i64 0) := (blk_cell BK990.out 1).trans rfl; have hcz13_2 : w12.cell? ⟨gb990, 2, none⟩ = some (.int .i64 0) := (blk_cell BK990.out 2).trans rfl; have hcz13_3 : w12.cell? ⟨gb990, 3, none⟩ = some (.int .i64 0) := (blk_cell BK990.out 3).trans rfl; have hcz13_4 : w12.cell? ⟨gb990, 4, none⟩ = some (.slice none 0 0) := (blk_cell BK990.out 4).trans rfl; have hfz13_0 := blk_frozen BK990.out 0; have hfz13_1 := blk_frozen BK990.out 1; have hfz13_2 := blk_frozen BK990.out 2; have hfz13_3 := blk_frozen BK990.out 3; have hfz13_4 := blk_frozen BK990.out 4; obtain ⟨Ao14, co14, eo14⟩ := Kd.R_slice HO989.out; subst eo14) | ((with_reducible refine gate_callee (f := 33) rfl ?_); refine goesL_ (some 29) rfl rfl Try.func33 (by kernel_rfl) rfl #[.slice A1 l1.length c1] rfl z63x18 ?_; (with_reducible refine (spec_DrawKnowKeys.calls kj2 _ _ l1 t991 t992 _ ?side1 ?side2 A7.out).mono ?_); (case side1 => exact Kd.C_below HR1.out z63x7); (case side2 => exact HC1.out); rintro e w15 ⟨v993, v995, rfl, ho0, ho1, hb⟩; refine ⟨_, rfl, ?_⟩; have n0_ := Aside0.mk (Kd.R_elder' z63x1 (Kd.R_base ho0) hb); have n1_ := Aside0.mk (Kd.R_elder' z63x3 (Kd.R_base ho1) hb); have n2_ := Aside0.mk (Kd.R_elder' z63x5 (Kd.R_base ho1) hb); have n3_ := Aside0.mk (Kd.R_lower (Kd.R_new' ho0 (Kd.R_lt z63x1)) (below_size z63x7)); have n4_ := Aside0.mk (Kd.R_lower (Kd.R_new' (Kd.R_new' ho1 (Kd.R_lt z63x3)) (Kd.R_lt z63x5)) (below_size z63x7)); have n5_ := Aside0.mk (blk_below (g := gb990) (o := .cells #[.int .i64 t983, .int .i64 t984, .int .i64 t985, .int .i64 t986, .slice Ao14 t987.length co14] 36 (0, 0)) z63x0 hb); have n6_ := Aside0.mk (below_step z63x7 hb); clear HO979; clear HO982; clear HO989; clear BK990; clear HB; have HO979 := n0_; have HO982 := n1_; have HO989 := n2_; have HO994 := n3_; have HO996 := n4_; have BK990 := n5_; have HB := n6_; clear n0_ n1_ n2_ n3_ n4_ n5_ n6_; (try clear hb); (try clear hb2); (try clear hk); (try clear hi); (try clear ho0); (try clear ho1); have hcz16_0 : w15.cell? ⟨gb990, 0, none⟩ = some (.int .i64 t983) := (blk_cell BK990.out 0).trans rfl; have hcz16_1 : w15.cell? ⟨gb990, 1, none⟩ = some (.int .i64 t984) := (blk_cell BK990.out 1).trans rfl; have hcz16_2 : w15.cell? ⟨gb990, 2, none⟩ = some (.int .i64 t985) := (blk_cell BK990.out 2).trans rfl; have hcz16_3 : w15.cell? ⟨gb990, 3, none⟩ = some (.int .i64 t986) := (blk_cell BK990.out 3).trans rfl; have hcz16_4 : w15.cell? ⟨gb990, 4, none⟩ = some (.slice Ao14 t987.length co14) := (blk_cell BK990.out 4).trans rfl; have hfz16_0 := blk_frozen BK990.out 0; have hfz16_1 := blk_frozen BK990.out 1; have hfz16_2 := blk_frozen BK990.out 2; have hfz16_3 := blk_frozen BK990.out 3; have hfz16_4 := blk_frozen BK990.out 4; obtain ⟨Ao17, co17, eo17⟩ := Kd.R_slice HO979.out; subst eo17; obtain ⟨Ao18, co18, eo18⟩ := Kd.R_slice HO982.out; subst eo18) | ((with_reducible refine gate_callee (f := 52) rfl ?_); refine goesL_ (some 35) rfl rfl Try.func52 (by kernel_rfl) rfl #[.slice Ao17 t977.length co17, .slice Ao18 t980.length co18, .agg #[.int .i64 t983, .int .i64 t984, .int .i64 t985, .int .i64 t986, .slice Ao14 t987.length co14]] rfl z63x18 ?_; (with_reducible refine (impl_KnowBuild.calls _ _ t977 _ _ t980 t983 t984 t985 t986 _ _ t987 t997 _ ?side1 ?side2 ?side3 ?side4 ?side5 ?side6 A8.out).mono ?_); (case side1 => repeat (first | exact (Kd.R_reads' HO979.out).2.2 | (with_reducible refine Kd.C_alloc ?_ _) | (with_reducible refine Kd.C_drewN ?_ _) | (with_reducible refine Kd.C_drew ?_))); (case side2 => exact (Kd.R_reads' HO979.out).2.1); (case side3 => repeat (first | exact (Kd.R_reads' HO982.out).2.2 | (with_reducible refine Kd.C_alloc ?_ _) | (with_reducible refine Kd.C_drewN ?_ _) | (with_reducible refine Kd.C_drew ?_))); (case side4 => exact (Kd.R_reads' HO982.out).2.1); (case side5 => repeat (first | exact (Kd.R_reads' HO989.out).2.2 | (with_reducible refine Kd.C_alloc ?_ _) | (with_reducible refine Kd.C_drewN ?_ _) | (with_reducible refine Kd.C_drew ?_))); (case side6 => exact (Kd.R_reads' HO989.out).2.1); rintro e w19 ⟨rfl, hb⟩; refine ⟨_, rfl, ?_⟩; have n0_ := Aside0.mk (Kd.R_below z63x27 hb); have n1_ := Aside0.mk (Kd.R_below z63x28 hb); have n2_ := Aside0.mk (Kd.R_below z63x29 hb); have n3_ := Aside0.mk (Kd.R_below z63x30 hb); have n4_ := Aside0.mk (Kd.R_below z63x31 hb); have n5_ := Aside0.mk (blk_below (g := gb990) (o := .cells #[.int .i64 t983, .int .i64 t984, .int .i64 t985, .int .i64 t986, .slice Ao14 t987.length co14] 36 (0, 0)) z63x20 hb); have n6_ := Aside0.mk (below_step z63x7 hb); clear HO979; clear HO982; clear HO989; clear HO994; clear HO996; clear BK990; clear HB; have HO979 := n0_; have HO982 := n1_; have HO989 := n2_; have HO994 := n3_; have HO996 := n4_; have BK990 := n5_; have HB := n6_; clear n0_ n1_ n2_ n3_ n4_ n5_ n6_; (try clear hb); (try clear hb2); (try clear hk); (try clear hi); have hcz20_0 : w19.cell? ⟨gb990, 0, none⟩ = some (.int .i64 t983) := (blk_cell BK990.out 0).trans rfl; have hcz20_1 : w19.cell? ⟨gb990, 1, none⟩ = some (.int .i64 t984) := (blk_cell BK990.out 1).trans rfl; have hcz20_2 : w19.cell? ⟨gb990, 2, none⟩ = some (.int .i64 t985) := (blk_cell BK990.out 2).trans rfl; have hcz20_3 : w19.cell? ⟨gb990, 3, none⟩ = some (.int .i64 t986) := (blk_cell BK990.out 3).trans rfl; have hcz20_4 : w19.cell? ⟨gb990, 4, none⟩ = some (.slice Ao14 t987.length co14) := (blk_cell BK990.out 4).trans rfl; have hfz20_0 := blk_frozen BK990.out 0; have hfz20_1 := blk_frozen BK990.out 1; have hfz20_2 := blk_frozen BK990.out 2; have hfz20_3 := blk_frozen BK990.out 3; have hfz20_4 := blk_frozen BK990.out 4) | ((with_reducible refine gate_callee (f := 51) rfl ?_); refine goesL_ (some 40) rfl rfl Try.func51 (by kernel_rfl) rfl #[.slice Ao17 t977.length co17, .slice Ao18 t980.length co18, .agg #[.int .i64 t983, .int .i64 t984, .int .i64 t985, .int .i64 t986, .slice Ao14 t987.length co14]] rfl z63x18 ?_; (with_reducible refine (spec_KnowBuild.calls kj2 _ _ t977 _ _ t980 t983 t984 t985 t986 _ _ t987 t998 _ ?side1 ?side2 ?side3 ?side4 ?side5 ?side6 A9.out).mono ?_); (case side1 => repeat (first | exact (Kd.R_reads' HO979.out).2.2 | (with_reducible refine Kd.C_alloc ?_ _) | (with_reducible refine Kd.C_drewN ?_ _) | (with_reducible refine Kd.C_drew ?_))); (case side2 => exact (Kd.R_reads' HO979.out).2.1); (case side3 => repeat (first | exact (Kd.R_reads' HO982.out).2.2 | (with_reducible refine Kd.C_alloc ?_ _) | (with_reducible refine Kd.C_drewN ?_ _) | (with_reducible refine Kd.C_drew ?_))); (case side4 => exact (Kd.R_reads' HO982.out).2.1); (case side5 => repeat (first | exact (Kd.R_reads' HO989.out).2.2 | (with_reducible refine Kd.C_alloc ?_ _) | (with_reducible refine Kd.C_drewN ?_ _) | (with_reducible refine Kd.C_drew ?_))); (case side6 => exact (Kd.R_reads' HO989.out).2.1); rintro e w21 ⟨rfl, hb⟩; refine ⟨_, rfl, ?_⟩; have n0_ := Aside0.mk (Kd.R_below z63x27 hb); have n1_ := Aside0.mk (Kd.R_below z63x28 hb); have n2_ := Aside0.mk (Kd.R_below z63x29 hb); have n3_ := Aside0.mk (Kd.R_below z63x30 hb); have n4_ := Aside0.mk (Kd.R_below z63x31 hb); have n5_ := Aside0.mk (blk_below (g := gb990) (o := .cells #[.int .i64 t983, .int .i64 t984, .int .i64 t985, .int .i64 t986, .slice Ao14 t987.length co14] 36 (0, 0)) z63x20 hb); have n6_ := Aside0.mk (below_step z63x7 hb); clear HO979; clear HO982; clear HO989; clear HO994; clear HO996; clear BK990; clear HB; have HO979 := n0_; have HO982 := n1_; have HO989 := n2_; have HO994 := n3_; have HO996 := n4_; have BK990 := n5_; have HB := n6_; clear n0_ n1_ n2_ n3_ n4_ n5_ n6_; (try clear hb); (try clear hb2); (try clear hk); (try clear hi)))
     go_ret
     exact ⟨by first | rfl | (simp [errW_none, errW_some] <;> rfl) | (simp [*, errW_none, errW_some] <;> rfl), by repeat (first | (with_reducible first | exact HB.out | apply below_alloc | apply pw_below_drewN | apply below_drew1 | refine below_set ?_ GE990.out) | exact HB.out)⟩
    ·rw [if_neg c10] at H
     have c10b0 : (t997 != t998) = false := by simpa using c10
     (try (have c10b1 : decide (t997 = t998) = true := by simpa using c10))
     (try (have c10b2 : (t997 == t998) = true := by simpa using c10))
     clear c10
     obtain ⟨y999, hy999⟩ : ∃ y_ : List Int, y_ = (([] : List Int)) := ⟨_, rfl⟩
     replace H : (laws_FnBuildMore.l0 kj2 t977 t980 t991 t992 t997 y999 1 t983 t984 t985 t986 t987) = some r := by first | (rw [hy999]; with_reducible exact H) | (have H2_ := (Option.bind_some _ _).symm.trans H; rw [hy999]; with_reducible exact H2_) | (have H2_ := (Option.bind_some _ _).symm.trans H; with_reducible exact H2_) | with_reducible exact H | (rw [hy999]; exact H) | exact H
     have Ny999 := Aside0.mk hy999
     clear hy999
     have H' := Aside0.mk H
     clear H
     go_wp2_with (first | ((with_reducible refine gate_callee (f := 53) rfl ?_); refine goesL_ (some 23) rfl rfl Try.func53 (by kernel_rfl) rfl #[.slice A0 l0.length c0] rfl z63x18 ?_; (with_reducible refine (spec_DrawKnowBuild.calls kj2 _ _ l0 t977 t980 t983 t984 t985 t986 t987 _ ?side1 ?side2 A6.out).mono ?_); (case side1 => repeat (first | exact (Kd.C_below HR0.out HB.out) | (with_reducible refine Kd.C_alloc ?_ _) | (with_reducible refine Kd.C_drewN ?_ _) | (with_reducible refine Kd.C_drew ?_))); (case side2 => exact HC0.out); rintro e w22 ⟨v978, v981, v988, rfl, ho0, ho1, ho2, hb⟩; refine ⟨_, rfl, ?_⟩; have n0_ := Aside0.mk (Kd.R_lower ho0 (below_size z63x19)); have n1_ := Aside0.mk (Kd.R_lower ho1 (below_size z63x19)); have n2_ := Aside0.mk (Kd.R_lower ho2 (below_size z63x19)); have n3_ := Aside0.mk (below_step z63x19 hb); clear HB; have HO979 := n0_; have HO982 := n1_; have HO989 := n2_; have HB := n3_; clear n0_ n1_ n2_ n3_; (try clear hb); (try clear hb2); (try clear hk); (try clear hi); (try clear ho0); (try clear ho1); (try clear ho2)) | ((with_reducible refine gate_dst (N := 7) rfl ?_); refine box_event ?hg (N := 7) ?hd (cs := #[.int .i64 0, .int .i64 0, .int .i64 0, .int .i64 0, .slice none 0 0]) (t := 36) ?hr ?_; (case hd => rfl); (case hg => rfl); (case hr => first | (go_simp; done) | (go_simp; rfl)); intro gb990 hg w23 hbox hb; have n0_ := Aside0.mk (Kd.R_below z63x27 hb); have n1_ := Aside0.mk (Kd.R_below z63x28 hb); have n2_ := Aside0.mk (Kd.R_below z63x29 hb); have n3_ := Aside0.mk (below_step z63x19 hb); have n4_ := Aside0.mk (hbox); have n5_ := Aside0.mk ((z63x8 : w.heap.size ≤ gb990)); have n6_ := Aside0.mk ((z63x8 : w.heap.size ≤ gb990)); clear HO979; clear HO982; clear HO989; clear HB; have HO979 := n0_; have HO982 := n1_; have HO989 := n2_; have HB := n3_; have BK990 := n4_; have GW990 := n5_; have GE990 := n6_; clear n0_ n1_ n2_ n3_ n4_ n5_ n6_; clear hb hbox hg; have hcz24_0 : w23.cell? ⟨gb990, 0, none⟩ = some (.int .i64 0) := (blk_cell BK990.out 0).trans rfl; have hcz24_1 : w23.cell? ⟨gb990, 1, none⟩ = some (.int .i64 0) := (blk_cell BK990.out 1).trans rfl; have hcz24_2 : w23.cell? ⟨gb990, 2, none⟩ = some (.int .i64 0) := (blk_cell BK990.out 2).trans rfl; have hcz24_3 : w23.cell? ⟨gb990, 3, none⟩ = some (.int .i64 0) := (blk_cell BK990.out 3).trans rfl; have hcz24_4 : w23.cell? ⟨gb990, 4, none⟩ = some (.slice none 0 0) := (blk_cell BK990.out 4).trans rfl; have hfz24_0 := blk_frozen BK990.out 0; have hfz24_1 := blk_frozen BK990.out 1; have hfz24_2 := blk_frozen BK990.out 2; have hfz24_3 := blk_frozen BK990.out 3; have hfz24_4 := blk_frozen BK990.out 4; obtain ⟨Ao25, co25, eo25⟩ := Kd.R_slice HO989.out; subst eo25) | ((with_reducible refine gate_callee (f := 33) rfl ?_); refine goesL_ (some 29) rfl rfl Try.func33 (by kernel_rfl) rfl #[.slice A1 l1.length c1] rfl z63x18 ?_; (with_reducible refine (spec_DrawKnowKeys.calls kj2 _ _ l1 t991 t992 _ ?side1 ?side2 A7.out).mono ?_); (case side1 => exact Kd.C_below HR1.out z63x7); (case side2 => exact HC1.out); rintro e w26 ⟨v993, v995, rfl, ho0, ho1, hb⟩; refine ⟨_, rfl, ?_⟩; have n0_ := Aside0.mk (Kd.R_elder' z63x2 (Kd.R_base ho0) hb); have n1_ := Aside0.mk (Kd.R_elder' z63x4 (Kd.R_base ho1) hb); have n2_ := Aside0.mk (Kd.R_elder' z63x6 (Kd.R_base ho1) hb); have n3_ := Aside0.mk (Kd.R_lower (Kd.R_new' ho0 (Kd.R_lt z63x2)) (below_size z63x7)); have n4_ := Aside0.mk (Kd.R_lower (Kd.R_new' (Kd.R_new' ho1 (Kd.R_lt z63x4)) (Kd.R_lt z63x6)) (below_size z63x7)); have n5_ := Aside0.mk (blk_below (g := gb990) (o := .cells #[.int .i64 t983, .int .i64 t984, .int .i64 t985, .int .i64 t986, .slice Ao25 t987.length co25] 36 (0, 0)) z63x0 hb); have n6_ := Aside0.mk (below_step z63x7 hb); clear HO979; clear HO982; clear HO989; clear BK990; clear HB; have HO979 := n0_; have HO982 := n1_; have HO989 := n2_; have HO994 := n3_; have HO996 := n4_; have BK990 := n5_; have HB := n6_; clear n0_ n1_ n2_ n3_ n4_ n5_ n6_; (try clear hb); (try clear hb2); (try clear hk); (try clear hi); (try clear ho0); (try clear ho1); have hcz27_0 : w26.cell? ⟨gb990, 0, none⟩ = some (.int .i64 t983) := (blk_cell BK990.out 0).trans rfl; have hcz27_1 : w26.cell? ⟨gb990, 1, none⟩ = some (.int .i64 t984) := (blk_cell BK990.out 1).trans rfl; have hcz27_2 : w26.cell? ⟨gb990, 2, none⟩ = some (.int .i64 t985) := (blk_cell BK990.out 2).trans rfl; have hcz27_3 : w26.cell? ⟨gb990, 3, none⟩ = some (.int .i64 t986) := (blk_cell BK990.out 3).trans rfl; have hcz27_4 : w26.cell? ⟨gb990, 4, none⟩ = some (.slice Ao25 t987.length co25) := (blk_cell BK990.out 4).trans rfl; have hfz27_0 := blk_frozen BK990.out 0; have hfz27_1 := blk_frozen BK990.out 1; have hfz27_2 := blk_frozen BK990.out 2; have hfz27_3 := blk_frozen BK990.out 3; have hfz27_4 := blk_frozen BK990.out 4; obtain ⟨Ao28, co28, eo28⟩ := Kd.R_slice HO979.out; subst eo28; obtain ⟨Ao29, co29, eo29⟩ := Kd.R_slice HO982.out; subst eo29) | ((with_reducible refine gate_callee (f := 52) rfl ?_); refine goesL_ (some 35) rfl rfl Try.func52 (by kernel_rfl) rfl #[.slice Ao28 t977.length co28, .slice Ao29 t980.length co29, .agg #[.int .i64 t983, .int .i64 t984, .int .i64 t985, .int .i64 t986, .slice Ao25 t987.length co25]] rfl z63x18 ?_; (with_reducible refine (impl_KnowBuild.calls _ _ t977 _ _ t980 t983 t984 t985 t986 _ _ t987 t997 _ ?side1 ?side2 ?side3 ?side4 ?side5 ?side6 A8.out).mono ?_); (case side1 => repeat (first | exact (Kd.R_reads' HO979.out).2.2 | (with_reducible refine Kd.C_alloc ?_ _) | (with_reducible refine Kd.C_drewN ?_ _) | (with_reducible refine Kd.C_drew ?_))); (case side2 => exact (Kd.R_reads' HO979.out).2.1); (case side3 => repeat (first | exact (Kd.R_reads' HO982.out).2.2 | (with_reducible refine Kd.C_alloc ?_ _) | (with_reducible refine Kd.C_drewN ?_ _) | (with_reducible refine Kd.C_drew ?_))); (case side4 => exact (Kd.R_reads' HO982.out).2.1); (case side5 => repeat (first | exact (Kd.R_reads' HO989.out).2.2 | (with_reducible refine Kd.C_alloc ?_ _) | (with_reducible refine Kd.C_drewN ?_ _) | (with_reducible refine Kd.C_drew ?_))); (case side6 => exact (Kd.R_reads' HO989.out).2.1); rintro e w30 ⟨rfl, hb⟩; refine ⟨_, rfl, ?_⟩; have n0_ := Aside0.mk (Kd.R_below z63x27 hb); have n1_ := Aside0.mk (Kd.R_below z63x28 hb); have n2_ := Aside0.mk (Kd.R_below z63x29 hb); have n3_ := Aside0.mk (Kd.R_below z63x30 hb); have n4_ := Aside0.mk (Kd.R_below z63x31 hb); have n5_ := Aside0.mk (blk_below (g := gb990) (o := .cells #[.int .i64 t983, .int .i64 t984, .int .i64 t985, .int .i64 t986, .slice Ao25 t987.length co25] 36 (0, 0)) z63x20 hb); have n6_ := Aside0.mk (below_step z63x7 hb); clear HO979; clear HO982; clear HO989; clear HO994; clear HO996; clear BK990; clear HB; have HO979 := n0_; have HO982 := n1_; have HO989 := n2_; have HO994 := n3_; have HO996 := n4_; have BK990 := n5_; have HB := n6_; clear n0_ n1_ n2_ n3_ n4_ n5_ n6_; (try clear hb); (try clear hb2); (try clear hk); (try clear hi); have hcz31_0 : w30.cell? ⟨gb990, 0, none⟩ = some (.int .i64 t983) := (blk_cell BK990.out 0).trans rfl; have hcz31_1 : w30.cell? ⟨gb990, 1, none⟩ = some (.int .i64 t984) := (blk_cell BK990.out 1).trans rfl; have hcz31_2 : w30.cell? ⟨gb990, 2, none⟩ = some (.int .i64 t985) := (blk_cell BK990.out 2).trans rfl; have hcz31_3 : w30.cell? ⟨gb990, 3, none⟩ = some (.int .i64 t986) := (blk_cell BK990.out 3).trans rfl; have hcz31_4 : w30.cell? ⟨gb990, 4, none⟩ = some (.slice Ao25 t987.length co25) := (blk_cell BK990.out 4).trans rfl; have hfz31_0 := blk_frozen BK990.out 0; have hfz31_1 := blk_frozen BK990.out 1; have hfz31_2 := blk_frozen BK990.out 2; have hfz31_3 := blk_frozen BK990.out 3; have hfz31_4 := blk_frozen BK990.out 4) | ((with_reducible refine gate_callee (f := 51) rfl ?_); refine goesL_ (some 40) rfl rfl Try.func51 (by kernel_rfl) rfl #[.slice Ao28 t977.length co28, .slice Ao29 t980.length co29, .agg #[.int .i64 t983, .int .i64 t984, .int .i64 t985, .int .i64 t986, .slice Ao25 t987.length co25]] rfl z63x18 ?_; (with_reducible refine (spec_KnowBuild.calls kj2 _ _ t977 _ _ t980 t983 t984 t985 t986 _ _ t987 t998 _ ?side1 ?side2 ?side3 ?side4 ?side5 ?side6 A9.out).mono ?_); (case side1 => repeat (first | exact (Kd.R_reads' HO979.out).2.2 | (with_reducible refine Kd.C_alloc ?_ _) | (with_reducible refine Kd.C_drewN ?_ _) | (with_reducible refine Kd.C_drew ?_))); (case side2 => exact (Kd.R_reads' HO979.out).2.1); (case side3 => repeat (first | exact (Kd.R_reads' HO982.out).2.2 | (with_reducible refine Kd.C_alloc ?_ _) | (with_reducible refine Kd.C_drewN ?_ _) | (with_reducible refine Kd.C_drew ?_))); (case side4 => exact (Kd.R_reads' HO982.out).2.1); (case side5 => repeat (first | exact (Kd.R_reads' HO989.out).2.2 | (with_reducible refine Kd.C_alloc ?_ _) | (with_reducible refine Kd.C_drewN ?_ _) | (with_reducible refine Kd.C_drew ?_))); (case side6 => exact (Kd.R_reads' HO989.out).2.1); rintro e w32 ⟨rfl, hb⟩; refine ⟨_, rfl, ?_⟩; have n0_ := Aside0.mk (Kd.R_below z63x27 hb); have n1_ := Aside0.mk (Kd.R_below z63x28 hb); have n2_ := Aside0.mk (Kd.R_below z63x29 hb); have n3_ := Aside0.mk (Kd.R_below z63x30 hb); have n4_ := Aside0.mk (Kd.R_below z63x31 hb); have n5_ := Aside0.mk (blk_below (g := gb990) (o := .cells #[.int .i64 t983, .int .i64 t984, .int .i64 t985, .int .i64 t986, .slice Ao25 t987.length co25] 36 (0, 0)) z63x20 hb); have n6_ := Aside0.mk (below_step z63x7 hb); clear HO979; clear HO982; clear HO989; clear HO994; clear HO996; clear BK990; clear HB; have HO979 := n0_; have HO982 := n1_; have HO989 := n2_; have HO994 := n3_; have HO996 := n4_; have BK990 := n5_; have HB := n6_; clear n0_ n1_ n2_ n3_ n4_ n5_ n6_; (try clear hb); (try clear hb2); (try clear hk); (try clear hi)) | ((with_reducible refine gate_dst (N := 42) rfl ?_); refine Kd.R_lit (Kd.int .i64) _ 3 ?hg (N := 42) ?hd (xs := ([] : List Int)) (inner := []) (ok := fun _ => True) (okp := fun _ => True) ?hr ?hp (fun _ hk => hk) trivial (Below.refl _ _) (Nat.le_refl _) (by simp) ?_; (case hd => rfl); (case hg => rfl); (case hr => first | (go_simp; done) | (go_simp; rfl)); (case hp => exact (Reps.none _ _)); intro v1000 w33 ho34 hb hg_ hnew_; clear hg_ hnew_; (first | rw [← Ny999.out] at ho34 | (simp only [Int.reduceToNat] at ho34; rw [← Ny999.out] at ho34)); have n0_ := Aside0.mk (Kd.R_elder' z63x27 (Kd.R_base ho34) hb); have n1_ := Aside0.mk (Kd.R_below z63x28 hb); have n2_ := Aside0.mk (Kd.R_below z63x29 hb); have n3_ := Aside0.mk (Kd.R_elder' z63x30 (Kd.R_base ho34) hb); have n4_ := Aside0.mk (Kd.R_below z63x31 hb); have n5_ := Aside0.mk (Kd.R_lower (Kd.R_new' (Kd.R_new' ho34 (Kd.R_lt z63x27)) (Kd.R_lt z63x30)) (below_size z63x7)); have n6_ := Aside0.mk (blk_below (g := gb990) (o := .cells #[.int .i64 t983, .int .i64 t984, .int .i64 t985, .int .i64 t986, .slice Ao25 t987.length co25] 36 (0, 0)) z63x20 hb); have n7_ := Aside0.mk (below_step z63x7 hb); clear HO979; clear HO982; clear HO989; clear HO994; clear HO996; clear BK990; clear HB; have HO979 := n0_; have HO982 := n1_; have HO989 := n2_; have HO994 := n3_; have HO996 := n4_; have HO1001 := n5_; have BK990 := n6_; have HB := n7_; clear n0_ n1_ n2_ n3_ n4_ n5_ n6_ n7_; clear hb ho34))
     go_loopg [11, 12] kj2 (fun kq v11 v12 w' => ∃ (x11_2 : List Int) (x12_2 : Int), v12 = .int .i64 x12_2 ∧ Aside0 (laws_FnBuildMore.l0 kq t977 t980 t991 t992 t997 x11_2 x12_2 t983 t984 t985 t986 t987 = some r) ∧ Aside0 (kq ≤ kj2) ∧ Aside0 (Kd.R (Kd.int .i64) 3 w' w.heap.size (fun k_ => some k_ ≠ (v993 : Value).ownBlock ∧ some k_ ≠ (v11 : Value).ownBlock) (.slice Ao28 t977.length co28) t977) ∧ Aside0 (Kd.R k24 24 w' w.heap.size (fun k_ => some k_ ≠ (v995 : Value).ownBlock ∧ some k_ ≠ ((.slice Ao25 t987.length co25) : Value).ownBlock) (.slice Ao29 t980.length co29) t980) ∧ Aside0 (Kd.R (Kd.int .i64) 3 w' w.heap.size (fun k_ => some k_ ≠ ((.slice Ao28 t977.length co28) : Value).ownBlock ∧ some k_ ≠ (v11 : Value).ownBlock) v993 t991) ∧ Aside0 (Kd.R k24 24 w' w.heap.size (fun k_ => some k_ ≠ ((.slice Ao29 t980.length co29) : Value).ownBlock ∧ some k_ ≠ ((.slice Ao25 t987.length co25) : Value).ownBlock) v995 t992) ∧ Aside0 (Kd.R (Kd.int .i64) 3 w' w.heap.size (fun k_ => some k_ ≠ ((.slice Ao28 t977.length co28) : Value).ownBlock ∧ some k_ ≠ (v993 : Value).ownBlock) v11 x11_2) ∧ Aside0 (Kd.R k24 24 w' w.heap.size (fun k_ => some k_ ≠ ((.slice Ao29 t980.length co29) : Value).ownBlock ∧ some k_ ≠ (v995 : Value).ownBlock) (.slice Ao25 t987.length co25) t987) ∧ Aside0 (w'.heap[gb990]? = some (.cells #[.int .i64 t983, .int .i64 t984, .int .i64 t985, .int .i64 t986, (.slice Ao25 t987.length co25)] 36 (0, 0))) ∧ Aside0 (Below w.heap.size w w'))
     case atStart => exact ⟨(y999), (1), y63x0, H', ⟨Nat.le_refl _⟩, ⟨by (with_reducible repeat (first | apply Kd.R_alloc | apply Kd.R_drewN | apply Kd.R_drew)); exact Kd.R_mono HO979.out (fun _ hk => ⟨hk.1.2, hk.2⟩)⟩, ⟨by (with_reducible repeat (first | apply Kd.R_alloc | apply Kd.R_drewN | apply Kd.R_drew)); exact Kd.R_mono HO982.out (fun _ hk => ⟨hk.2, hk.1⟩)⟩, ⟨by (with_reducible repeat (first | apply Kd.R_alloc | apply Kd.R_drewN | apply Kd.R_drew)); exact Kd.R_mono HO994.out (fun _ hk => ⟨hk.1.2, hk.2⟩)⟩, ⟨by (with_reducible repeat (first | apply Kd.R_alloc | apply Kd.R_drewN | apply Kd.R_drew)); exact Kd.R_mono HO996.out (fun _ hk => ⟨hk.1.2, hk.2⟩)⟩, ⟨by (with_reducible repeat (first | apply Kd.R_alloc | apply Kd.R_drewN | apply Kd.R_drew)); exact Kd.R_mono HO1001.out (fun _ hk => ⟨hk.1.2, hk.2⟩)⟩, ⟨by (with_reducible repeat (first | apply Kd.R_alloc | apply Kd.R_drewN | apply Kd.R_drew)); exact HO989.out⟩, ⟨by (with_reducible repeat (first | refine blk_drewN ?_ _ | refine blk_drew ?_ | refine blk_alloc ?_ _)); exact BK990.out⟩, ⟨by repeat (first | (with_reducible first | exact HB.out | apply below_alloc | apply pw_below_drewN | apply below_drew1 | refine below_set ?_ GE990.out) | exact HB.out)⟩⟩
     case round =>
      clear H'
      try clear c1
      try clear p2
      try clear c3
      try clear c4
      try clear c4b0
      try clear c4b1
      try clear c5
      try clear c10
      try clear c10b0
      try clear c10b1
      try clear c10b2
      try clear c18
      try clear c33
      try clear hcz13_0
      try clear hcz13_1
      try clear hcz13_2
      try clear hcz13_3
      try clear hcz13_4
      try clear hcz16_0
      try clear hcz16_1
      try clear hcz16_2
      try clear hcz16_3
      try clear hcz16_4
      try clear hcz20_0
      try clear hcz20_1
      try clear hcz20_2
      try clear hcz20_3
      try clear hcz20_4
      try clear hcz24_0
      try clear hcz24_1
      try clear hcz24_2
      try clear hcz24_3
      try clear hcz24_4
      try clear hcz27_0
      try clear hcz27_1
      try clear hcz27_2
      try clear hcz27_3
      try clear hcz27_4
      try clear hcz31_0
      try clear hcz31_1
      try clear hcz31_2
      try clear hcz31_3
      try clear hcz31_4
      try clear hfz13_0
      try clear hfz13_1
      try clear hfz13_2
      try clear hfz13_3
      try clear hfz13_4
      try clear hfz16_0
      try clear hfz16_1
      try clear hfz16_2
      try clear hfz16_3
      try clear hfz16_4
      try clear hfz20_0
      try clear hfz20_1
      try clear hfz20_2
      try clear hfz20_3
      try clear hfz20_4
      try clear hfz24_0
      try clear hfz24_1
      try clear hfz24_2
      try clear hfz24_3
      try clear hfz24_4
      try clear hfz27_0
      try clear hfz27_1
      try clear hfz27_2
      try clear hfz27_3
      try clear hfz27_4
      try clear hfz31_0
      try clear hfz31_1
      try clear hfz31_2
      try clear hfz31_3
      try clear hfz31_4
      try clear p2
      obtain ⟨x11_2, x12_2, rfl, HA, HK2, HO_5, HO_6, HO_8, HO_9, HO_11, HO_991004, BK990, HB⟩ := hrel
      cases gk with
      | zero => exact absurd HA.out (by simp [laws_FnBuildMore.l0])
      | succ k2 =>
       have H := HA.out
       clear HA
       simp only [laws_FnBuildMore.l0] at H
       by_cases c35 : x12_2 ≤ 60
       ·rw [if_pos c35] at H
        have c35b0 : decide (x12_2 ≤ 60) = true := decide_eq_true c35
        clear c35
        by_cases c36 : x11_2.length < 17592186044416
        ·rw [if_pos c36] at H
         have LMc36 := Aside0.mk c36
         clear c36
         obtain ⟨y1002, hy1002⟩ : ∃ y_ : List Int, y_ = (x11_2 ++ [x12_2]) := ⟨_, rfl⟩
         replace H : (laws_FnBuildMore.l0 k2 t977 t980 t991 t992 t997 y1002 (wrap64 (x12_2 + 1)) t983 t984 t985 t986 t987) = some r := by first | (rw [hy1002]; with_reducible exact H) | (have H2_ := (Option.bind_some _ _).symm.trans H; rw [hy1002]; with_reducible exact H2_) | (have H2_ := (Option.bind_some _ _).symm.trans H; with_reducible exact H2_) | with_reducible exact H | (rw [hy1002]; exact H) | exact H
         have Ny1002 := Aside0.mk hy1002
         clear hy1002
         have H' := Aside0.mk H
         clear H
         go_wp2_with (first | ((with_reducible refine gate_builtin (b := .append) (xs := #[.tmp 47, .tmp 49]) rfl ?_); at_builtin; refine Kd.R_append (Kd.int .i64) (w0 := w) w.heap.size rfl (.tmp 47) (.tmp 49) 41 3 (.int .i64 0) 8 rfl Try.underlying41 info3 rfl (by decide) (by omega) u11 x11_2 x12_2 [.int .i64 x12_2] (fun k_ => some k_ ≠ (.slice Ao28 t977.length co28 : Value).ownBlock ∧ some k_ ≠ (v993 : Value).ownBlock) (fun _ => False) rfl rfl ?aP (fun _ hk => hk.elim) ?aF ?aO ?aB ?aS ?aL ?_; (case aP => exact rfl); (case aB => exact z63x7); (case aF => exact (fun k_ hk => ⟨Kd.fresh' (Kd.R_lt z63x33) k_ hk, Kd.fresh' (Kd.R_lt z63x35) k_ hk⟩)); (case aO => exact z63x32); (case aS => exact (below_size z63x7)); (case aL => have := LMc36.out; omega); intro v1003 w37 ho hb hg hat; rw [← Ny1002.out] at ho; have n0_ := Aside0.mk (Kd.R_after (ok := (fun k_ => some k_ ≠ (v993 : Value).ownBlock)) z63x33 hg hat); have n1_ := Aside0.mk (Kd.R_over' z63x34 (Kd.R_typed z63x32) (by decide) hg); have n2_ := Aside0.mk (Kd.R_after (ok := (fun k_ => some k_ ≠ (.slice Ao28 t977.length co28 : Value).ownBlock)) z63x35 hg hat); have n3_ := Aside0.mk (Kd.R_over' z63x36 (Kd.R_typed z63x32) (by decide) hg); have n4_ := Aside0.mk (Kd.R_over' z63x21 (Kd.R_typed z63x32) (by decide) hg); have n5_ := Aside0.mk (blk_grown (g := gb990) (o := .cells #[.int .i64 t983, .int .i64 t984, .int .i64 t985, .int .i64 t986, .slice Ao25 t987.length co25] 36 (0, 0)) z63x20 hg (Kd.R_ne HO_11.out BK990.out (by decide))); have n6_ := Aside0.mk (hb); have n7_ := Aside0.mk (ho); clear HO_5; clear HO_6; clear HO_8; clear HO_9; clear HO_991004; clear BK990; clear HB; clear HO_11; have HO_5 := n0_; have HO_6 := n1_; have HO_8 := n2_; have HO_9 := n3_; have HO_991004 := n4_; have BK990 := n5_; have HB := n6_; have HO1004 := n7_; clear n0_ n1_ n2_ n3_ n4_ n5_ n6_ n7_; clear ho hb hg hat))
         go_roundg k2
         case measure => have := HJ2.out; have := HK2.out; omega
         case rel => exact ⟨(y1002), (wrap64 (x12_2 + 1)), y63x0, H', ⟨by have := HJ2.out; have := HK2.out; omega⟩, ⟨by (with_reducible repeat (first | apply Kd.R_alloc | apply Kd.R_drewN | apply Kd.R_drew)); exact HO_5.out⟩, ⟨by (with_reducible repeat (first | apply Kd.R_alloc | apply Kd.R_drewN | apply Kd.R_drew)); exact HO_6.out⟩, ⟨by (with_reducible repeat (first | apply Kd.R_alloc | apply Kd.R_drewN | apply Kd.R_drew)); exact HO_8.out⟩, ⟨by (with_reducible repeat (first | apply Kd.R_alloc | apply Kd.R_drewN | apply Kd.R_drew)); exact HO_9.out⟩, ⟨by (with_reducible repeat (first | apply Kd.R_alloc | apply Kd.R_drewN | apply Kd.R_drew)); exact HO1004.out⟩, ⟨by (with_reducible repeat (first | apply Kd.R_alloc | apply Kd.R_drewN | apply Kd.R_drew)); exact HO_991004.out⟩, ⟨by (with_reducible repeat (first | refine blk_drewN ?_ _ | refine blk_drew ?_ | refine blk_alloc ?_ _)); exact BK990.out⟩, ⟨by repeat (first | (with_reducible first | exact HB.out | apply below_alloc | apply pw_below_drewN | apply below_drew1 | refine below_set ?_ GE990.out) | exact HB.out)⟩⟩
        ·rw [if_neg c36] at H
         exact absurd H (by simp)
       ·rw [if_neg c35] at H
        have c35b0 : decide (x12_2 ≤ 60) = false := decide_eq_false c35
        clear c35
        have HC38 := Aside0.mk H
        clear H
        go_upto_region 13 with (fail)
        go_cut [66] (fun v66 wc => ∃ (kq : Nat) (x66_37 : Bool), v66 = .bool x66_37 ∧ Aside0 (laws_FnBuildMore.j2 kq x11_2 x66_37 t983 t984 t985 t986 t987 = some r) ∧ Aside0 (kq ≤ k2) ∧ Aside0 (Kd.R (Kd.int .i64) 3 wc w.heap.size (fun _ => True) u11 x11_2) ∧ Aside0 (Kd.R k24 24 wc w.heap.size (fun _ => True) (.slice Ao25 t987.length co25) t987) ∧ Aside0 (wc.heap[gb990]? = some (.cells #[.int .i64 t983, .int .i64 t984, .int .i64 t985, .int .i64 t986, (.slice Ao25 t987.length co25)] 36 (0, 0))) ∧ Aside0 (Below w.heap.size w wc))
        case first =>
         have H := HC38.out
         clear HC38
         by_cases c39 : t997 = true
         ·subst c39
          rw [if_pos rfl] at H
          obtain ⟨y1005, hy1005⟩ : ∃ y_ : List Int, y_ = (([] : List Int)) := ⟨_, rfl⟩
          replace H : (if y1005.length + t977.length < 17592186044416 then ((some (y1005 ++ t977 : List Int)).bind fun y1008 => (if y1008.length + t991.length < 17592186044416 then ((some (([] : List (S24)) : List (S24))).bind fun y1014 => (if y1014.length + t980.length < 2513169434916 then ((some (y1014 ++ t980 : List (S24))).bind fun y1017 => (if y1017.length + t992.length < 2513169434916 then ((impl_KnowBuild.f (y1008 ++ t991) (y1017 ++ t992) t983 t984 t985 t986 t987).bind fun t1023 => (laws_FnBuildMore.j2 k2 x11_2 (!t1023) t983 t984 t985 t986 t987)) else (none))) else (none))) else (none))) else (none)) = some r := by first | (rw [hy1005]; with_reducible exact H) | (have H2_ := (Option.bind_some _ _).symm.trans H; rw [hy1005]; with_reducible exact H2_) | (have H2_ := (Option.bind_some _ _).symm.trans H; with_reducible exact H2_) | with_reducible exact H | (rw [hy1005]; exact H) | exact H
          have Ny1005 := Aside0.mk hy1005
          clear hy1005
          by_cases c40 : y1005.length + t977.length < 17592186044416
          ·rw [if_pos c40] at H
           have LMc40 := Aside0.mk c40
           clear c40
           obtain ⟨y1008, hy1008⟩ : ∃ y_ : List Int, y_ = (y1005 ++ t977) := ⟨_, rfl⟩
           replace H : (if y1008.length + t991.length < 17592186044416 then ((some (([] : List (S24)) : List (S24))).bind fun y1014 => (if y1014.length + t980.length < 2513169434916 then ((some (y1014 ++ t980 : List (S24))).bind fun y1017 => (if y1017.length + t992.length < 2513169434916 then ((impl_KnowBuild.f (y1008 ++ t991) (y1017 ++ t992) t983 t984 t985 t986 t987).bind fun t1023 => (laws_FnBuildMore.j2 k2 x11_2 (!t1023) t983 t984 t985 t986 t987)) else (none))) else (none))) else (none)) = some r := by first | (rw [hy1008]; with_reducible exact H) | (have H2_ := (Option.bind_some _ _).symm.trans H; rw [hy1008]; with_reducible exact H2_) | (have H2_ := (Option.bind_some _ _).symm.trans H; with_reducible exact H2_) | with_reducible exact H | (rw [hy1008]; exact H) | exact H
           have Ny1008 := Aside0.mk hy1008
           clear hy1008
           by_cases c41 : y1008.length + t991.length < 17592186044416
           ·rw [if_pos c41] at H
            have LMc41 := Aside0.mk c41
            clear c41
            obtain ⟨y1011, hy1011⟩ : ∃ y_ : List Int, y_ = (y1008 ++ t991) := ⟨_, rfl⟩
            replace H : ((some (([] : List (S24)) : List (S24))).bind fun y1014 => (if y1014.length + t980.length < 2513169434916 then ((some (y1014 ++ t980 : List (S24))).bind fun y1017 => (if y1017.length + t992.length < 2513169434916 then ((impl_KnowBuild.f y1011 (y1017 ++ t992) t983 t984 t985 t986 t987).bind fun t1023 => (laws_FnBuildMore.j2 k2 x11_2 (!t1023) t983 t984 t985 t986 t987)) else (none))) else (none))) = some r := by first | (rw [hy1011]; with_reducible exact H) | (have H2_ := (Option.bind_some _ _).symm.trans H; rw [hy1011]; with_reducible exact H2_) | (have H2_ := (Option.bind_some _ _).symm.trans H; with_reducible exact H2_) | with_reducible exact H | (rw [hy1011]; exact H) | exact H
            have Ny1011 := Aside0.mk hy1011
            clear hy1011
            obtain ⟨y1014, hy1014⟩ : ∃ y_ : List (S24), y_ = (([] : List (S24))) := ⟨_, rfl⟩
            replace H : (if y1014.length + t980.length < 2513169434916 then ((some (y1014 ++ t980 : List (S24))).bind fun y1017 => (if y1017.length + t992.length < 2513169434916 then ((impl_KnowBuild.f y1011 (y1017 ++ t992) t983 t984 t985 t986 t987).bind fun t1023 => (laws_FnBuildMore.j2 k2 x11_2 (!t1023) t983 t984 t985 t986 t987)) else (none))) else (none)) = some r := by first | (rw [hy1014]; with_reducible exact H) | (have H2_ := (Option.bind_some _ _).symm.trans H; rw [hy1014]; with_reducible exact H2_) | (have H2_ := (Option.bind_some _ _).symm.trans H; with_reducible exact H2_) | with_reducible exact H | (rw [hy1014]; exact H) | exact H
            have Ny1014 := Aside0.mk hy1014
            clear hy1014
            by_cases c42 : y1014.length + t980.length < 2513169434916
            ·rw [if_pos c42] at H
             have LMc42 := Aside0.mk c42
             clear c42
             obtain ⟨y1017, hy1017⟩ : ∃ y_ : List (S24), y_ = (y1014 ++ t980) := ⟨_, rfl⟩
             replace H : (if y1017.length + t992.length < 2513169434916 then ((impl_KnowBuild.f y1011 (y1017 ++ t992) t983 t984 t985 t986 t987).bind fun t1023 => (laws_FnBuildMore.j2 k2 x11_2 (!t1023) t983 t984 t985 t986 t987)) else (none)) = some r := by first | (rw [hy1017]; with_reducible exact H) | (have H2_ := (Option.bind_some _ _).symm.trans H; rw [hy1017]; with_reducible exact H2_) | (have H2_ := (Option.bind_some _ _).symm.trans H; with_reducible exact H2_) | with_reducible exact H | (rw [hy1017]; exact H) | exact H
             have Ny1017 := Aside0.mk hy1017
             clear hy1017
             by_cases c43 : y1017.length + t992.length < 2513169434916
             ·rw [if_pos c43] at H
              have LMc43 := Aside0.mk c43
              clear c43
              obtain ⟨y1020, hy1020⟩ : ∃ y_ : List (S24), y_ = (y1017 ++ t992) := ⟨_, rfl⟩
              replace H : ((impl_KnowBuild.f y1011 y1020 t983 t984 t985 t986 t987).bind fun t1023 => (laws_FnBuildMore.j2 k2 x11_2 (!t1023) t983 t984 t985 t986 t987)) = some r := by first | (rw [hy1020]; with_reducible exact H) | (have H2_ := (Option.bind_some _ _).symm.trans H; rw [hy1020]; with_reducible exact H2_) | (have H2_ := (Option.bind_some _ _).symm.trans H; with_reducible exact H2_) | with_reducible exact H | (rw [hy1020]; exact H) | exact H
              have Ny1020 := Aside0.mk hy1020
              clear hy1020
              replace H := Option.bind_eq_some_iff.mp H
              obtain ⟨t1023, A440, H⟩ := H
              replace H : (laws_FnBuildMore.j2 k2 x11_2 (!t1023) t983 t984 t985 t986 t987) = some r := H
              have A44 := Aside0.mk A440
              clear A440
              have H' := Aside0.mk H
              clear H
              obtain ⟨Ao45, co45, eo45⟩ := Kd.R_slice HO_8.out
              subst eo45
              obtain ⟨Ao46, co46, eo46⟩ := Kd.R_slice HO_9.out
              subst eo46
              try go_wp2
              have n0_ := Aside0.mk (Kd.R_drew HO_5.out)
              have n1_ := Aside0.mk (Kd.R_drew HO_6.out)
              have n2_ := Aside0.mk (Kd.R_drew HO_8.out)
              have n3_ := Aside0.mk (Kd.R_drew HO_9.out)
              have n4_ := Aside0.mk (Kd.R_drew HO_11.out)
              have n5_ := Aside0.mk (Kd.R_drew HO_991004.out)
              have n6_ := Aside0.mk (blk_drew BK990.out)
              have n7_ := Aside0.mk (below_drew1 HB.out)
              clear HO_5
              clear HO_6
              clear HO_8
              clear HO_9
              clear HO_11
              clear HO_991004
              clear BK990
              clear HB
              have HO_5 := n0_
              have HO_6 := n1_
              have HO_8 := n2_
              have HO_9 := n3_
              have HO_11 := n4_
              have HO_991004 := n5_
              have BK990 := n6_
              have HB := n7_
              clear n0_ n1_ n2_ n3_ n4_ n5_ n6_ n7_
              refine start_ (n := 16) (S := fun w' => w'.cell? ⟨gb990, 0, none⟩ = some (.int .i64 t983) ∧ w'.cell? ⟨gb990, 1, none⟩ = some (.int .i64 t984) ∧ w'.cell? ⟨gb990, 2, none⟩ = some (.int .i64 t985) ∧ w'.cell? ⟨gb990, 3, none⟩ = some (.int .i64 t986) ∧ w'.cell? ⟨gb990, 4, none⟩ = some (.slice Ao25 t987.length co25)) (ds := []) #[false, false, false, false, false, false, false, false, false, false, false, false, false, false, false, false] (by kernel_rfl) rfl rfl ⟨(blk_cell BK990.out 0).trans rfl, (blk_cell BK990.out 1).trans rfl, (blk_cell BK990.out 2).trans rfl, (blk_cell BK990.out 3).trans rfl, (blk_cell BK990.out 4).trans rfl⟩ (fun hHeld => ?_); refine with_tabW laws_FnBuildMore.tab13 laws_FnBuildMore.bits13 (fun HT_ HW_ => ?_)
              generalize wr.drew = w47 at HO_5 HO_6 HO_8 HO_9 HO_11 HO_991004 BK990 HB hHeld ⊢
              refine pure_ (i := 0) (N := some 51) (v := ?_) (a' := ?_) #[true, false, false, false, false, false, false, false, false, false, false, false, false, false, false, false] rfl rfl (any_of HT_.out (by kernel_rfl)) (fun _ _ _ h => h) (Or.inl ⟨by rfl, ?_⟩) ?_ ?_
              rotate_left
              ·intro w'
               go_simp
               with_reducible rfl
              rotate_left
              ·simp only [Act.put, List.setIfInBounds_toArray, List.set_cons_zero, List.set_cons_succ, i64_w, i32_w]
               rfl
              refine pure_ (i := 1) (N := some 52) (v := ?_) (a' := ?_) #[true, true, false, false, false, false, false, false, false, false, false, false, false, false, false, false] rfl rfl (any_of HT_.out (by kernel_rfl)) (fun _ _ _ h => h) (Or.inl ⟨by rfl, ?_⟩) ?_ ?_
              rotate_left
              ·intro w'
               go_simp
               with_reducible rfl
              rotate_left
              ·simp only [Act.put, List.setIfInBounds_toArray, List.set_cons_zero, List.set_cons_succ, i64_w, i32_w]
               rfl
              refine pure_ (i := 3) (N := some 54) (v := ?_) (a' := ?_) #[true, true, false, true, false, false, false, false, false, false, false, false, false, false, false, false] rfl rfl (any_of HT_.out (by kernel_rfl)) (fun _ _ _ h => h) (Or.inl ⟨by rfl, ?_⟩) ?_ ?_
              rotate_left
              ·intro w'
               go_simp
               with_reducible rfl
              rotate_left
              ·simp only [Act.put, List.setIfInBounds_toArray, List.set_cons_zero, List.set_cons_succ, i64_w, i32_w]
               rfl
              refine pure_ (i := 5) (N := some 56) (v := ?_) (a' := ?_) #[true, true, false, true, false, true, false, false, false, false, false, false, false, false, false, false] rfl rfl (any_of HT_.out (by kernel_rfl)) (fun _ _ _ h => h) (Or.inl ⟨by rfl, ?_⟩) ?_ ?_
              rotate_left
              ·intro w'
               go_simp
               with_reducible rfl
              rotate_left
              ·simp only [Act.put, List.setIfInBounds_toArray, List.set_cons_zero, List.set_cons_succ, i64_w, i32_w]
               rfl
              refine pure_ (i := 8) (N := some 59) (v := ?_) (a' := ?_) #[true, true, false, true, false, true, false, false, true, false, false, false, false, false, false, false] rfl rfl (any_of HT_.out (by kernel_rfl)) (fun _ _ _ h => h) (Or.inl ⟨by rfl, ?_⟩) ?_ ?_
              rotate_left
              ·intro w'
               go_simp
               with_reducible rfl
              rotate_left
              ·simp only [Act.put, List.setIfInBounds_toArray, List.set_cons_zero, List.set_cons_succ, i64_w, i32_w]
               rfl
              refine pure_ (i := 10) (N := some 61) (v := ?_) (a' := ?_) #[true, true, false, true, false, true, false, false, true, false, true, false, false, false, false, false] rfl rfl (any_of HT_.out (by kernel_rfl)) (fun _ _ _ h => h) (Or.inl ⟨by rfl, ?_⟩) ?_ ?_
              rotate_left
              ·intro w'
               go_simp
               with_reducible rfl
              rotate_left
              ·simp only [Act.put, List.setIfInBounds_toArray, List.set_cons_zero, List.set_cons_succ, i64_w, i32_w]
               rfl
              refine take_ (i := 12) (N := some 63) (v := ?_) (a' := ?_) #[true, true, false, true, false, true, false, false, true, false, true, false, true, false, false, false] rfl rfl (take_ofW HT_.out HW_.out (by kernel_rfl)) (fun _ _ _ h => h) (Or.inl ⟨by rfl, ?_⟩) hHeld ?_ ?_
              rotate_left
              ·rintro w' ⟨s0, s1, s2, s3, s4⟩
               go_simp
               with_reducible rfl
              rotate_left
              ·simp only [Act.put, List.setIfInBounds_toArray, List.set_cons_zero, List.set_cons_succ, i64_w, i32_w]
               rfl
              refine join_ (σ := Value × Value × Value × Value) 5 #[true, true, true, true, true, true, true, true, true, false, true, false, true, false, false, false] (fun s_ => [(53, s_.1), (55, s_.2.1), (57, s_.2.2.1), (58, s_.2.2.2)]) (fun s_ w' => (w'.cell? ⟨gb990, 0, none⟩ = some (.int .i64 t983) ∧ w'.cell? ⟨gb990, 1, none⟩ = some (.int .i64 t984) ∧ w'.cell? ⟨gb990, 2, none⟩ = some (.int .i64 t985) ∧ w'.cell? ⟨gb990, 3, none⟩ = some (.int .i64 t986) ∧ w'.cell? ⟨gb990, 4, none⟩ = some (.slice Ao25 t987.length co25)) ∧ (Kd.R (Kd.int .i64) 3 w' w.heap.size (fun k_ => some k_ ≠ (u11 : Value).ownBlock ∧ some k_ ≠ (.slice Ao28 t977.length co28 : Value).ownBlock ∧ some k_ ≠ (.slice Ao45 t991.length co45 : Value).ownBlock) s_.2.2.1 y1011) ∧ (Kd.R k24 24 w' w.heap.size (fun k_ => some k_ ≠ (.slice Ao29 t980.length co29 : Value).ownBlock ∧ some k_ ≠ (.slice Ao46 t992.length co46 : Value).ownBlock ∧ some k_ ≠ (.slice Ao25 t987.length co25 : Value).ownBlock) s_.2.2.2 y1014) ∧ (Kd.R (Kd.int .i64) 3 w' w.heap.size (fun k_ => some k_ ≠ (s_.2.2.1 : Value).ownBlock ∧ some k_ ≠ (.slice Ao28 t977.length co28 : Value).ownBlock ∧ some k_ ≠ (.slice Ao45 t991.length co45 : Value).ownBlock) u11 x11_2) ∧ (Kd.R (Kd.int .i64) 3 w' w.heap.size (fun k_ => some k_ ≠ (s_.2.2.1 : Value).ownBlock ∧ some k_ ≠ (u11 : Value).ownBlock ∧ some k_ ≠ (.slice Ao45 t991.length co45 : Value).ownBlock) (.slice Ao28 t977.length co28) t977) ∧ (Kd.R k24 24 w' w.heap.size (fun k_ => some k_ ≠ (s_.2.2.2 : Value).ownBlock ∧ some k_ ≠ (.slice Ao46 t992.length co46 : Value).ownBlock ∧ some k_ ≠ (.slice Ao25 t987.length co25 : Value).ownBlock) (.slice Ao29 t980.length co29) t980) ∧ (Kd.R (Kd.int .i64) 3 w' w.heap.size (fun k_ => some k_ ≠ (s_.2.2.1 : Value).ownBlock ∧ some k_ ≠ (u11 : Value).ownBlock ∧ some k_ ≠ (.slice Ao28 t977.length co28 : Value).ownBlock) (.slice Ao45 t991.length co45) t991) ∧ (Kd.R k24 24 w' w.heap.size (fun k_ => some k_ ≠ (s_.2.2.2 : Value).ownBlock ∧ some k_ ≠ (.slice Ao29 t980.length co29 : Value).ownBlock ∧ some k_ ≠ (.slice Ao25 t987.length co25 : Value).ownBlock) (.slice Ao46 t992.length co46) t992) ∧ (Kd.R k24 24 w' w.heap.size (fun k_ => some k_ ≠ (s_.2.2.2 : Value).ownBlock ∧ some k_ ≠ (.slice Ao29 t980.length co29 : Value).ownBlock ∧ some k_ ≠ (.slice Ao46 t992.length co46 : Value).ownBlock) (.slice Ao25 t987.length co25) t987) ∧ (w'.heap[gb990]? = some (.cells #[.int .i64 t983, .int .i64 t984, .int .i64 t985, .int .i64 t986, .slice Ao25 t987.length co25] 36 (0, 0))) ∧ (Below w.heap.size w w')) ?_ ?_
              rotate_left
              ·intro hCont
               refine two_ (i := 2) (j := 7) (Ni := some 53) (Nj := some 58) #[true, true, true, true, false, true, false, false, true, false, true, false, true, false, false, false] #[true, true, false, true, false, true, false, true, true, false, true, false, true, false, false, false] rfl rfl rfl rfl (two_of HT_.out (by kernel_rfl)) (by decide) (by decide) (fun K hK => ?_) (fun K hK => ?_)
               ·skip
                refine Kd.R_lit_step (Kd.int .i64) _ 3 ?hg (N := 53) ?hd (xs := ([] : List Int)) (inner := []) (ok := fun _ => True) (okp := fun _ => True) ?hr ?hp (fun _ hk => hk) trivial (Below.refl _ _) (Nat.le_refl _) (by simp) ?_; (case hd => rfl); (case hg => rfl); (case hr => first | (go_simp; done) | (go_simp; rfl)); (case hp => exact (Reps.none _ _))
                intro v1006 w48 ho49 hb hg_ hnew_
                clear hg_ hnew_
                (first | rw [← Ny1005.out] at ho49 | (simp only [Int.reduceToNat] at ho49; rw [← Ny1005.out] at ho49))
                have n0_ := Aside0.mk (Kd.R_elder' z63x33 (Kd.R_base ho49) hb)
                have n1_ := Aside0.mk (Kd.R_below z63x34 hb)
                have n2_ := Aside0.mk (Kd.R_elder' z63x35 (Kd.R_base ho49) hb)
                have n3_ := Aside0.mk (Kd.R_below z63x36 hb)
                have n4_ := Aside0.mk (Kd.R_elder' z63x32 (Kd.R_base ho49) hb)
                have n5_ := Aside0.mk (Kd.R_below z63x21 hb)
                have n6_ := Aside0.mk (Kd.R_lower (Kd.R_new' (Kd.R_new' (Kd.R_new' ho49 (Kd.R_lt z63x33)) (Kd.R_lt z63x35)) (Kd.R_lt z63x32)) (below_size z63x7))
                have n7_ := Aside0.mk (blk_below (g := gb990) (o := .cells #[.int .i64 t983, .int .i64 t984, .int .i64 t985, .int .i64 t986, .slice Ao25 t987.length co25] 36 (0, 0)) z63x20 hb)
                have n8_ := Aside0.mk (below_step z63x7 hb)
                clear HO_5
                clear HO_6
                clear HO_8
                clear HO_9
                clear HO_11
                clear HO_991004
                clear BK990
                clear HB
                have HO_5 := n0_
                have HO_6 := n1_
                have HO_8 := n2_
                have HO_9 := n3_
                have HO_11 := n4_
                have HO_991004 := n5_
                have HO1007 := n6_
                have BK990 := n7_
                have HB := n8_
                clear n0_ n1_ n2_ n3_ n4_ n5_ n6_ n7_ n8_
                clear hb ho49
                refine hK.out _ _ ⟨(blk_cell BK990.out 0).trans rfl, (blk_cell BK990.out 1).trans rfl, (blk_cell BK990.out 2).trans rfl, (blk_cell BK990.out 3).trans rfl, (blk_cell BK990.out 4).trans rfl⟩ (fun hHeld => ?_)
                clear hK K
                refine norm_ (a' := ?_) ?_ ?_
                rotate_left
                ·show Act.put _ (some 53) _ = _
                 simp only [Act.put, List.setIfInBounds_toArray, List.set_cons_zero, List.set_cons_succ, i64_w, i32_w]
                 rfl
                refine two_ (i := 4) (j := 7) (Ni := some 55) (Nj := some 58) #[true, true, true, true, true, true, false, false, true, false, true, false, true, false, false, false] #[true, true, true, true, false, true, false, true, true, false, true, false, true, false, false, false] rfl rfl rfl rfl (two_of HT_.out (by kernel_rfl)) (by decide) (by decide) (fun K hK => ?_) (fun K hK => ?_)
                ·skip
                 refine Kd.R_append_rows_step (Kd.int .i64) (w0 := w) w.heap.size (by rfl) (.tmp 53) (.tmp 54) 41 3 (.int .i64 0) 8 rfl Try.underlying41 info3 rfl (by decide) (by omega) v1006 y1005 t977 _ _ _ (fun k_ => some k_ ≠ (.slice Ao28 t977.length co28 : Value).ownBlock ∧ some k_ ≠ (.slice Ao45 t991.length co45 : Value).ownBlock ∧ some k_ ≠ (u11 : Value).ownBlock) (fun _ => False) rfl rfl ?aO ?aR (fun _ _ h => h) (fun _ h => h.elim) ?aF ?aB ?aS ?aL ?_
                 (case aR => repeat (first | exact (Kd.R_reads' HO_5.out).2.2 | (with_reducible refine Kd.C_alloc ?_ _) | (with_reducible refine Kd.C_drewN ?_ _) | (with_reducible refine Kd.C_drew ?_)))
                 (case aB => exact z63x7)
                 (case aF => exact (fun k_ hk => ⟨Kd.fresh' (Kd.R_lt z63x33) k_ hk, Kd.fresh' (Kd.R_lt z63x35) k_ hk, Kd.fresh' (Kd.R_lt z63x32) k_ hk⟩))
                 (case aO => exact z63x10)
                 (case aS => exact (below_size z63x7))
                 (case aL => have := LMc40.out; omega)
                 intro v1009 w50 ho hb hg hat
                 rw [← Ny1008.out] at ho
                 have n0_ := Aside0.mk (Kd.R_after (ok := (fun k_ => some k_ ≠ (.slice Ao45 t991.length co45 : Value).ownBlock ∧ some k_ ≠ (u11 : Value).ownBlock)) z63x33 hg hat)
                 have n1_ := Aside0.mk (Kd.R_over' z63x34 (Kd.R_typed z63x22) (by decide) hg)
                 have n2_ := Aside0.mk (Kd.R_after (ok := (fun k_ => some k_ ≠ (.slice Ao28 t977.length co28 : Value).ownBlock ∧ some k_ ≠ (u11 : Value).ownBlock)) z63x35 hg hat)
                 have n3_ := Aside0.mk (Kd.R_over' z63x36 (Kd.R_typed z63x22) (by decide) hg)
                 have n4_ := Aside0.mk (Kd.R_after (ok := (fun k_ => some k_ ≠ (.slice Ao28 t977.length co28 : Value).ownBlock ∧ some k_ ≠ (.slice Ao45 t991.length co45 : Value).ownBlock)) z63x32 hg hat)
                 have n5_ := Aside0.mk (Kd.R_over' z63x21 (Kd.R_typed z63x22) (by decide) hg)
                 have n6_ := Aside0.mk (blk_grown (g := gb990) (o := .cells #[.int .i64 t983, .int .i64 t984, .int .i64 t985, .int .i64 t986, .slice Ao25 t987.length co25] 36 (0, 0)) z63x20 hg (Kd.R_ne HO1007.out BK990.out (by decide)))
                 have n7_ := Aside0.mk (hb)
                 have n8_ := Aside0.mk (ho)
                 clear HO_5
                 clear HO_6
                 clear HO_8
                 clear HO_9
                 clear HO_11
                 clear HO_991004
                 clear BK990
                 clear HB
                 clear HO1007
                 have HO_5 := n0_
                 have HO_6 := n1_
                 have HO_8 := n2_
                 have HO_9 := n3_
                 have HO_11 := n4_
                 have HO_991004 := n5_
                 have BK990 := n6_
                 have HB := n7_
                 have HO1010 := n8_
                 clear n0_ n1_ n2_ n3_ n4_ n5_ n6_ n7_ n8_
                 clear ho hb hg hat
                 refine hK.out _ _ ⟨(blk_cell BK990.out 0).trans rfl, (blk_cell BK990.out 1).trans rfl, (blk_cell BK990.out 2).trans rfl, (blk_cell BK990.out 3).trans rfl, (blk_cell BK990.out 4).trans rfl⟩ (fun hHeld => ?_)
                 clear hK K
                 refine norm_ (a' := ?_) ?_ ?_
                 rotate_left
                 ·show Act.put _ (some 55) _ = _
                  simp only [Act.put, List.setIfInBounds_toArray, List.set_cons_zero, List.set_cons_succ, i64_w, i32_w]
                  rfl
                 refine two_ (i := 6) (j := 7) (Ni := some 57) (Nj := some 58) #[true, true, true, true, true, true, true, false, true, false, true, false, true, false, false, false] #[true, true, true, true, true, true, false, true, true, false, true, false, true, false, false, false] rfl rfl rfl rfl (two_of HT_.out (by kernel_rfl)) (by decide) (by decide) (fun K hK => ?_) (fun K hK => ?_)
                 ·skip
                  refine Kd.R_append_rows_step (Kd.int .i64) (w0 := w) w.heap.size (by rfl) (.tmp 55) (.tmp 56) 41 3 (.int .i64 0) 8 rfl Try.underlying41 info3 rfl (by decide) (by omega) v1009 y1008 t991 _ _ _ (fun k_ => some k_ ≠ (.slice Ao28 t977.length co28 : Value).ownBlock ∧ some k_ ≠ (.slice Ao45 t991.length co45 : Value).ownBlock ∧ some k_ ≠ (u11 : Value).ownBlock) (fun _ => False) rfl rfl ?aO ?aR (fun _ _ h => h) (fun _ h => h.elim) ?aF ?aB ?aS ?aL ?_
                  (case aR => repeat (first | exact (Kd.R_reads' HO_8.out).2.2 | (with_reducible refine Kd.C_alloc ?_ _) | (with_reducible refine Kd.C_drewN ?_ _) | (with_reducible refine Kd.C_drew ?_)))
                  (case aB => exact z63x7)
                  (case aF => exact (fun k_ hk => ⟨Kd.fresh' (Kd.R_lt z63x33) k_ hk, Kd.fresh' (Kd.R_lt z63x35) k_ hk, Kd.fresh' (Kd.R_lt z63x32) k_ hk⟩))
                  (case aO => exact z63x23)
                  (case aS => exact (below_size z63x7))
                  (case aL => have := LMc41.out; omega)
                  intro v1012 w51 ho hb hg hat
                  rw [← Ny1011.out] at ho
                  have n0_ := Aside0.mk (Kd.R_after (ok := (fun k_ => some k_ ≠ (.slice Ao45 t991.length co45 : Value).ownBlock ∧ some k_ ≠ (u11 : Value).ownBlock)) z63x33 hg hat)
                  have n1_ := Aside0.mk (Kd.R_over' z63x34 (Kd.R_typed z63x23) (by decide) hg)
                  have n2_ := Aside0.mk (Kd.R_after (ok := (fun k_ => some k_ ≠ (.slice Ao28 t977.length co28 : Value).ownBlock ∧ some k_ ≠ (u11 : Value).ownBlock)) z63x35 hg hat)
                  have n3_ := Aside0.mk (Kd.R_over' z63x36 (Kd.R_typed z63x23) (by decide) hg)
                  have n4_ := Aside0.mk (Kd.R_after (ok := (fun k_ => some k_ ≠ (.slice Ao28 t977.length co28 : Value).ownBlock ∧ some k_ ≠ (.slice Ao45 t991.length co45 : Value).ownBlock)) z63x32 hg hat)
                  have n5_ := Aside0.mk (Kd.R_over' z63x21 (Kd.R_typed z63x23) (by decide) hg)
                  have n6_ := Aside0.mk (blk_grown (g := gb990) (o := .cells #[.int .i64 t983, .int .i64 t984, .int .i64 t985, .int .i64 t986, .slice Ao25 t987.length co25] 36 (0, 0)) z63x20 hg (Kd.R_ne HO1010.out BK990.out (by decide)))
                  have n7_ := Aside0.mk (hb)
                  have n8_ := Aside0.mk (ho)
                  clear HO_5
                  clear HO_6
                  clear HO_8
                  clear HO_9
                  clear HO_11
                  clear HO_991004
                  clear BK990
                  clear HB
                  clear HO1010
                  have HO_5 := n0_
                  have HO_6 := n1_
                  have HO_8 := n2_
                  have HO_9 := n3_
                  have HO_11 := n4_
                  have HO_991004 := n5_
                  have BK990 := n6_
                  have HB := n7_
                  have HO1013 := n8_
                  clear n0_ n1_ n2_ n3_ n4_ n5_ n6_ n7_ n8_
                  clear ho hb hg hat
                  refine hK.out _ _ ⟨(blk_cell BK990.out 0).trans rfl, (blk_cell BK990.out 1).trans rfl, (blk_cell BK990.out 2).trans rfl, (blk_cell BK990.out 3).trans rfl, (blk_cell BK990.out 4).trans rfl⟩ (fun hHeld => ?_)
                  clear hK K
                  refine norm_ (a' := ?_) ?_ ?_
                  rotate_left
                  ·show Act.put _ (some 57) _ = _
                   simp only [Act.put, List.setIfInBounds_toArray, List.set_cons_zero, List.set_cons_succ, i64_w, i32_w]
                   rfl
                  refine one_ (i := 7) (N := some 58) #[true, true, true, true, true, true, true, true, true, false, true, false, true, false, false, false] rfl rfl (one_of HT_.out (by kernel_rfl)) (by decide) (fun K hK => ?_)
                  refine Kd.R_lit_step k24 _ 24 ?hg (N := 58) ?hd (xs := ([] : List (S24))) (inner := []) (ok := fun _ => True) (okp := fun _ => True) ?hr ?hp (fun _ hk => hk) trivial (Below.refl _ _) (Nat.le_refl _) (by simp) ?_; (case hd => rfl); (case hg => rfl); (case hr => first | (go_simp; done) | (go_simp; rfl)); (case hp => exact (Reps.none _ _))
                  intro v1015 w52 ho53 hb hg_ hnew_
                  clear hg_ hnew_
                  (first | rw [← Ny1014.out] at ho53 | (simp only [Int.reduceToNat] at ho53; rw [← Ny1014.out] at ho53))
                  have n0_ := Aside0.mk (Kd.R_below z63x33 hb)
                  have n1_ := Aside0.mk (Kd.R_elder' z63x34 (Kd.R_base ho53) hb)
                  have n2_ := Aside0.mk (Kd.R_below z63x35 hb)
                  have n3_ := Aside0.mk (Kd.R_elder' z63x36 (Kd.R_base ho53) hb)
                  have n4_ := Aside0.mk (Kd.R_below z63x32 hb)
                  have n5_ := Aside0.mk (Kd.R_elder' z63x21 (Kd.R_base ho53) hb)
                  have n6_ := Aside0.mk (Kd.R_below z63x24 hb)
                  have n7_ := Aside0.mk (Kd.R_lower (Kd.R_new' (Kd.R_new' (Kd.R_new' ho53 (Kd.R_lt z63x34)) (Kd.R_lt z63x36)) (Kd.R_lt z63x21)) (below_size z63x7))
                  have n8_ := Aside0.mk (blk_below (g := gb990) (o := .cells #[.int .i64 t983, .int .i64 t984, .int .i64 t985, .int .i64 t986, .slice Ao25 t987.length co25] 36 (0, 0)) z63x20 hb)
                  have n9_ := Aside0.mk (below_step z63x7 hb)
                  clear HO_5
                  clear HO_6
                  clear HO_8
                  clear HO_9
                  clear HO_11
                  clear HO_991004
                  clear HO1013
                  clear BK990
                  clear HB
                  have HO_5 := n0_
                  have HO_6 := n1_
                  have HO_8 := n2_
                  have HO_9 := n3_
                  have HO_11 := n4_
                  have HO_991004 := n5_
                  have HO1013 := n6_
                  have HO1016 := n7_
                  have BK990 := n8_
                  have HB := n9_
                  clear n0_ n1_ n2_ n3_ n4_ n5_ n6_ n7_ n8_ n9_
                  clear hb ho53
                  refine hK.out _ _ ⟨(blk_cell BK990.out 0).trans rfl, (blk_cell BK990.out 1).trans rfl, (blk_cell BK990.out 2).trans rfl, (blk_cell BK990.out 3).trans rfl, (blk_cell BK990.out 4).trans rfl⟩ (fun hHeld => ?_)
                  clear hK K
                  refine norm_ (a' := ?_) ?_ ?_
                  rotate_left
                  ·show Act.put _ (some 58) _ = _
                   simp only [Act.put, List.setIfInBounds_toArray, List.set_cons_zero, List.set_cons_succ, i64_w, i32_w]
                   rfl
                  exact norm_ z63x37 (hCont (v1006, v1009, v1012, v1015) _ ⟨hHeld, z63x12, z63x11, z63x13, z63x14, z63x15, z63x16, z63x17, z63x9, z63x20, z63x7⟩)
                 ·skip
                  refine Kd.R_lit_step k24 _ 24 ?hg (N := 58) ?hd (xs := ([] : List (S24))) (inner := []) (ok := fun _ => True) (okp := fun _ => True) ?hr ?hp (fun _ hk => hk) trivial (Below.refl _ _) (Nat.le_refl _) (by simp) ?_; (case hd => rfl); (case hg => rfl); (case hr => first | (go_simp; done) | (go_simp; rfl)); (case hp => exact (Reps.none _ _))
                  intro v1015 w51 ho52 hb hg_ hnew_
                  clear hg_ hnew_
                  (first | rw [← Ny1014.out] at ho52 | (simp only [Int.reduceToNat] at ho52; rw [← Ny1014.out] at ho52))
                  have n0_ := Aside0.mk (Kd.R_below z63x33 hb)
                  have n1_ := Aside0.mk (Kd.R_elder' z63x34 (Kd.R_base ho52) hb)
                  have n2_ := Aside0.mk (Kd.R_below z63x35 hb)
                  have n3_ := Aside0.mk (Kd.R_elder' z63x36 (Kd.R_base ho52) hb)
                  have n4_ := Aside0.mk (Kd.R_below z63x32 hb)
                  have n5_ := Aside0.mk (Kd.R_elder' z63x21 (Kd.R_base ho52) hb)
                  have n6_ := Aside0.mk (Kd.R_below z63x23 hb)
                  have n7_ := Aside0.mk (Kd.R_lower (Kd.R_new' (Kd.R_new' (Kd.R_new' ho52 (Kd.R_lt z63x34)) (Kd.R_lt z63x36)) (Kd.R_lt z63x21)) (below_size z63x7))
                  have n8_ := Aside0.mk (blk_below (g := gb990) (o := .cells #[.int .i64 t983, .int .i64 t984, .int .i64 t985, .int .i64 t986, .slice Ao25 t987.length co25] 36 (0, 0)) z63x20 hb)
                  have n9_ := Aside0.mk (below_step z63x7 hb)
                  clear HO_5
                  clear HO_6
                  clear HO_8
                  clear HO_9
                  clear HO_11
                  clear HO_991004
                  clear HO1010
                  clear BK990
                  clear HB
                  have HO_5 := n0_
                  have HO_6 := n1_
                  have HO_8 := n2_
                  have HO_9 := n3_
                  have HO_11 := n4_
                  have HO_991004 := n5_
                  have HO1010 := n6_
                  have HO1016 := n7_
                  have BK990 := n8_
                  have HB := n9_
                  clear n0_ n1_ n2_ n3_ n4_ n5_ n6_ n7_ n8_ n9_
                  clear hb ho52
                  refine hK.out _ _ ⟨(blk_cell BK990.out 0).trans rfl, (blk_cell BK990.out 1).trans rfl, (blk_cell BK990.out 2).trans rfl, (blk_cell BK990.out 3).trans rfl, (blk_cell BK990.out 4).trans rfl⟩ (fun hHeld => ?_)
                  clear hK K
                  refine norm_ (a' := ?_) ?_ ?_
                  rotate_left
                  ·show Act.put _ (some 58) _ = _
                   simp only [Act.put, List.setIfInBounds_toArray, List.set_cons_zero, List.set_cons_succ, i64_w, i32_w]
                   rfl
                  refine one_ (i := 6) (N := some 57) #[true, true, true, true, true, true, true, true, true, false, true, false, true, false, false, false] rfl rfl (one_of HT_.out (by kernel_rfl)) (by decide) (fun K hK => ?_)
                  refine Kd.R_append_rows_step (Kd.int .i64) (w0 := w) w.heap.size (by rfl) (.tmp 55) (.tmp 56) 41 3 (.int .i64 0) 8 rfl Try.underlying41 info3 rfl (by decide) (by omega) v1009 y1008 t991 _ _ _ (fun k_ => some k_ ≠ (.slice Ao28 t977.length co28 : Value).ownBlock ∧ some k_ ≠ (.slice Ao45 t991.length co45 : Value).ownBlock ∧ some k_ ≠ (u11 : Value).ownBlock) (fun _ => False) rfl rfl ?aO ?aR (fun _ _ h => h) (fun _ h => h.elim) ?aF ?aB ?aS ?aL ?_
                  (case aR => repeat (first | exact (Kd.R_reads' HO_8.out).2.2 | (with_reducible refine Kd.C_alloc ?_ _) | (with_reducible refine Kd.C_drewN ?_ _) | (with_reducible refine Kd.C_drew ?_)))
                  (case aB => exact z63x7)
                  (case aF => exact (fun k_ hk => ⟨Kd.fresh' (Kd.R_lt z63x33) k_ hk, Kd.fresh' (Kd.R_lt z63x35) k_ hk, Kd.fresh' (Kd.R_lt z63x32) k_ hk⟩))
                  (case aO => exact z63x23)
                  (case aS => exact (below_size z63x7))
                  (case aL => have := LMc41.out; omega)
                  intro v1012 w53 ho hb hg hat
                  rw [← Ny1011.out] at ho
                  have n0_ := Aside0.mk (Kd.R_after (ok := (fun k_ => some k_ ≠ (.slice Ao45 t991.length co45 : Value).ownBlock ∧ some k_ ≠ (u11 : Value).ownBlock)) z63x33 hg hat)
                  have n1_ := Aside0.mk (Kd.R_over' z63x34 (Kd.R_typed z63x23) (by decide) hg)
                  have n2_ := Aside0.mk (Kd.R_after (ok := (fun k_ => some k_ ≠ (.slice Ao28 t977.length co28 : Value).ownBlock ∧ some k_ ≠ (u11 : Value).ownBlock)) z63x35 hg hat)
                  have n3_ := Aside0.mk (Kd.R_over' z63x36 (Kd.R_typed z63x23) (by decide) hg)
                  have n4_ := Aside0.mk (Kd.R_after (ok := (fun k_ => some k_ ≠ (.slice Ao28 t977.length co28 : Value).ownBlock ∧ some k_ ≠ (.slice Ao45 t991.length co45 : Value).ownBlock)) z63x32 hg hat)
                  have n5_ := Aside0.mk (Kd.R_over' z63x21 (Kd.R_typed z63x23) (by decide) hg)
                  have n6_ := Aside0.mk (blk_grown (g := gb990) (o := .cells #[.int .i64 t983, .int .i64 t984, .int .i64 t985, .int .i64 t986, .slice Ao25 t987.length co25] 36 (0, 0)) z63x20 hg (Kd.R_ne HO1010.out BK990.out (by decide)))
                  have n7_ := Aside0.mk (Kd.R_over' z63x25 (Kd.R_typed z63x23) (by decide) hg)
                  have n8_ := Aside0.mk (hb)
                  have n9_ := Aside0.mk (ho)
                  clear HO_5
                  clear HO_6
                  clear HO_8
                  clear HO_9
                  clear HO_11
                  clear HO_991004
                  clear BK990
                  clear HO1016
                  clear HB
                  clear HO1010
                  have HO_5 := n0_
                  have HO_6 := n1_
                  have HO_8 := n2_
                  have HO_9 := n3_
                  have HO_11 := n4_
                  have HO_991004 := n5_
                  have BK990 := n6_
                  have HO1016 := n7_
                  have HB := n8_
                  have HO1013 := n9_
                  clear n0_ n1_ n2_ n3_ n4_ n5_ n6_ n7_ n8_ n9_
                  clear ho hb hg hat
                  refine hK.out _ _ ⟨(blk_cell BK990.out 0).trans rfl, (blk_cell BK990.out 1).trans rfl, (blk_cell BK990.out 2).trans rfl, (blk_cell BK990.out 3).trans rfl, (blk_cell BK990.out 4).trans rfl⟩ (fun hHeld => ?_)
                  clear hK K
                  refine norm_ (a' := ?_) ?_ ?_
                  rotate_left
                  ·show Act.put _ (some 57) _ = _
                   simp only [Act.put, List.setIfInBounds_toArray, List.set_cons_zero, List.set_cons_succ, i64_w, i32_w]
                   rfl
                  exact norm_ z63x37 (hCont (v1006, v1009, v1012, v1015) _ ⟨hHeld, z63x12, z63x11, z63x13, z63x14, z63x15, z63x16, z63x17, z63x9, z63x20, z63x7⟩)
                ·skip
                 refine Kd.R_lit_step k24 _ 24 ?hg (N := 58) ?hd (xs := ([] : List (S24))) (inner := []) (ok := fun _ => True) (okp := fun _ => True) ?hr ?hp (fun _ hk => hk) trivial (Below.refl _ _) (Nat.le_refl _) (by simp) ?_; (case hd => rfl); (case hg => rfl); (case hr => first | (go_simp; done) | (go_simp; rfl)); (case hp => exact (Reps.none _ _))
                 intro v1015 w50 ho51 hb hg_ hnew_
                 clear hg_ hnew_
                 (first | rw [← Ny1014.out] at ho51 | (simp only [Int.reduceToNat] at ho51; rw [← Ny1014.out] at ho51))
                 have n0_ := Aside0.mk (Kd.R_below z63x33 hb)
                 have n1_ := Aside0.mk (Kd.R_elder' z63x34 (Kd.R_base ho51) hb)
                 have n2_ := Aside0.mk (Kd.R_below z63x35 hb)
                 have n3_ := Aside0.mk (Kd.R_elder' z63x36 (Kd.R_base ho51) hb)
                 have n4_ := Aside0.mk (Kd.R_below z63x32 hb)
                 have n5_ := Aside0.mk (Kd.R_elder' z63x21 (Kd.R_base ho51) hb)
                 have n6_ := Aside0.mk (Kd.R_below z63x22 hb)
                 have n7_ := Aside0.mk (Kd.R_lower (Kd.R_new' (Kd.R_new' (Kd.R_new' ho51 (Kd.R_lt z63x34)) (Kd.R_lt z63x36)) (Kd.R_lt z63x21)) (below_size z63x7))
                 have n8_ := Aside0.mk (blk_below (g := gb990) (o := .cells #[.int .i64 t983, .int .i64 t984, .int .i64 t985, .int .i64 t986, .slice Ao25 t987.length co25] 36 (0, 0)) z63x20 hb)
                 have n9_ := Aside0.mk (below_step z63x7 hb)
                 clear HO_5
                 clear HO_6
                 clear HO_8
                 clear HO_9
                 clear HO_11
                 clear HO_991004
                 clear HO1007
                 clear BK990
                 clear HB
                 have HO_5 := n0_
                 have HO_6 := n1_
                 have HO_8 := n2_
                 have HO_9 := n3_
                 have HO_11 := n4_
                 have HO_991004 := n5_
                 have HO1007 := n6_
                 have HO1016 := n7_
                 have BK990 := n8_
                 have HB := n9_
                 clear n0_ n1_ n2_ n3_ n4_ n5_ n6_ n7_ n8_ n9_
                 clear hb ho51
                 refine hK.out _ _ ⟨(blk_cell BK990.out 0).trans rfl, (blk_cell BK990.out 1).trans rfl, (blk_cell BK990.out 2).trans rfl, (blk_cell BK990.out 3).trans rfl, (blk_cell BK990.out 4).trans rfl⟩ (fun hHeld => ?_)
                 clear hK K
                 refine norm_ (a' := ?_) ?_ ?_
                 rotate_left
                 ·show Act.put _ (some 58) _ = _
                  simp only [Act.put, List.setIfInBounds_toArray, List.set_cons_zero, List.set_cons_succ, i64_w, i32_w]
                  rfl
                 refine one_ (i := 4) (N := some 55) #[true, true, true, true, true, true, false, true, true, false, true, false, true, false, false, false] rfl rfl (one_of HT_.out (by kernel_rfl)) (by decide) (fun K hK => ?_)
                 refine Kd.R_append_rows_step (Kd.int .i64) (w0 := w) w.heap.size (by rfl) (.tmp 53) (.tmp 54) 41 3 (.int .i64 0) 8 rfl Try.underlying41 info3 rfl (by decide) (by omega) v1006 y1005 t977 _ _ _ (fun k_ => some k_ ≠ (.slice Ao28 t977.length co28 : Value).ownBlock ∧ some k_ ≠ (.slice Ao45 t991.length co45 : Value).ownBlock ∧ some k_ ≠ (u11 : Value).ownBlock) (fun _ => False) rfl rfl ?aO ?aR (fun _ _ h => h) (fun _ h => h.elim) ?aF ?aB ?aS ?aL ?_
                 (case aR => repeat (first | exact (Kd.R_reads' HO_5.out).2.2 | (with_reducible refine Kd.C_alloc ?_ _) | (with_reducible refine Kd.C_drewN ?_ _) | (with_reducible refine Kd.C_drew ?_)))
                 (case aB => exact z63x7)
                 (case aF => exact (fun k_ hk => ⟨Kd.fresh' (Kd.R_lt z63x33) k_ hk, Kd.fresh' (Kd.R_lt z63x35) k_ hk, Kd.fresh' (Kd.R_lt z63x32) k_ hk⟩))
                 (case aO => exact z63x10)
                 (case aS => exact (below_size z63x7))
                 (case aL => have := LMc40.out; omega)
                 intro v1009 w52 ho hb hg hat
                 rw [← Ny1008.out] at ho
                 have n0_ := Aside0.mk (Kd.R_after (ok := (fun k_ => some k_ ≠ (.slice Ao45 t991.length co45 : Value).ownBlock ∧ some k_ ≠ (u11 : Value).ownBlock)) z63x33 hg hat)
                 have n1_ := Aside0.mk (Kd.R_over' z63x34 (Kd.R_typed z63x22) (by decide) hg)
                 have n2_ := Aside0.mk (Kd.R_after (ok := (fun k_ => some k_ ≠ (.slice Ao28 t977.length co28 : Value).ownBlock ∧ some k_ ≠ (u11 : Value).ownBlock)) z63x35 hg hat)
                 have n3_ := Aside0.mk (Kd.R_over' z63x36 (Kd.R_typed z63x22) (by decide) hg)
                 have n4_ := Aside0.mk (Kd.R_after (ok := (fun k_ => some k_ ≠ (.slice Ao28 t977.length co28 : Value).ownBlock ∧ some k_ ≠ (.slice Ao45 t991.length co45 : Value).ownBlock)) z63x32 hg hat)
                 have n5_ := Aside0.mk (Kd.R_over' z63x21 (Kd.R_typed z63x22) (by decide) hg)
                 have n6_ := Aside0.mk (blk_grown (g := gb990) (o := .cells #[.int .i64 t983, .int .i64 t984, .int .i64 t985, .int .i64 t986, .slice Ao25 t987.length co25] 36 (0, 0)) z63x20 hg (Kd.R_ne HO1007.out BK990.out (by decide)))
                 have n7_ := Aside0.mk (Kd.R_over' z63x25 (Kd.R_typed z63x22) (by decide) hg)
                 have n8_ := Aside0.mk (hb)
                 have n9_ := Aside0.mk (ho)
                 clear HO_5
                 clear HO_6
                 clear HO_8
                 clear HO_9
                 clear HO_11
                 clear HO_991004
                 clear BK990
                 clear HO1016
                 clear HB
                 clear HO1007
                 have HO_5 := n0_
                 have HO_6 := n1_
                 have HO_8 := n2_
                 have HO_9 := n3_
                 have HO_11 := n4_
                 have HO_991004 := n5_
                 have BK990 := n6_
                 have HO1016 := n7_
                 have HB := n8_
                 have HO1010 := n9_
                 clear n0_ n1_ n2_ n3_ n4_ n5_ n6_ n7_ n8_ n9_
                 clear ho hb hg hat
                 refine hK.out _ _ ⟨(blk_cell BK990.out 0).trans rfl, (blk_cell BK990.out 1).trans rfl, (blk_cell BK990.out 2).trans rfl, (blk_cell BK990.out 3).trans rfl, (blk_cell BK990.out 4).trans rfl⟩ (fun hHeld => ?_)
                 clear hK K
                 refine norm_ (a' := ?_) ?_ ?_
                 rotate_left
                 ·show Act.put _ (some 55) _ = _
                  simp only [Act.put, List.setIfInBounds_toArray, List.set_cons_zero, List.set_cons_succ, i64_w, i32_w]
                  rfl
                 refine one_ (i := 6) (N := some 57) #[true, true, true, true, true, true, true, true, true, false, true, false, true, false, false, false] rfl rfl (one_of HT_.out (by kernel_rfl)) (by decide) (fun K hK => ?_)
                 refine Kd.R_append_rows_step (Kd.int .i64) (w0 := w) w.heap.size (by rfl) (.tmp 55) (.tmp 56) 41 3 (.int .i64 0) 8 rfl Try.underlying41 info3 rfl (by decide) (by omega) v1009 y1008 t991 _ _ _ (fun k_ => some k_ ≠ (.slice Ao28 t977.length co28 : Value).ownBlock ∧ some k_ ≠ (.slice Ao45 t991.length co45 : Value).ownBlock ∧ some k_ ≠ (u11 : Value).ownBlock) (fun _ => False) rfl rfl ?aO ?aR (fun _ _ h => h) (fun _ h => h.elim) ?aF ?aB ?aS ?aL ?_
                 (case aR => repeat (first | exact (Kd.R_reads' HO_8.out).2.2 | (with_reducible refine Kd.C_alloc ?_ _) | (with_reducible refine Kd.C_drewN ?_ _) | (with_reducible refine Kd.C_drew ?_)))
                 (case aB => exact z63x7)
                 (case aF => exact (fun k_ hk => ⟨Kd.fresh' (Kd.R_lt z63x33) k_ hk, Kd.fresh' (Kd.R_lt z63x35) k_ hk, Kd.fresh' (Kd.R_lt z63x32) k_ hk⟩))
                 (case aO => exact z63x23)
                 (case aS => exact (below_size z63x7))
                 (case aL => have := LMc41.out; omega)
                 intro v1012 w53 ho hb hg hat
                 rw [← Ny1011.out] at ho
                 have n0_ := Aside0.mk (Kd.R_after (ok := (fun k_ => some k_ ≠ (.slice Ao45 t991.length co45 : Value).ownBlock ∧ some k_ ≠ (u11 : Value).ownBlock)) z63x33 hg hat)
                 have n1_ := Aside0.mk (Kd.R_over' z63x34 (Kd.R_typed z63x23) (by decide) hg)
                 have n2_ := Aside0.mk (Kd.R_after (ok := (fun k_ => some k_ ≠ (.slice Ao28 t977.length co28 : Value).ownBlock ∧ some k_ ≠ (u11 : Value).ownBlock)) z63x35 hg hat)
                 have n3_ := Aside0.mk (Kd.R_over' z63x36 (Kd.R_typed z63x23) (by decide) hg)
                 have n4_ := Aside0.mk (Kd.R_after (ok := (fun k_ => some k_ ≠ (.slice Ao28 t977.length co28 : Value).ownBlock ∧ some k_ ≠ (.slice Ao45 t991.length co45 : Value).ownBlock)) z63x32 hg hat)
                 have n5_ := Aside0.mk (Kd.R_over' z63x21 (Kd.R_typed z63x23) (by decide) hg)
                 have n6_ := Aside0.mk (blk_grown (g := gb990) (o := .cells #[.int .i64 t983, .int .i64 t984, .int .i64 t985, .int .i64 t986, .slice Ao25 t987.length co25] 36 (0, 0)) z63x20 hg (Kd.R_ne HO1010.out BK990.out (by decide)))
                 have n7_ := Aside0.mk (Kd.R_over' z63x25 (Kd.R_typed z63x23) (by decide) hg)
                 have n8_ := Aside0.mk (hb)
                 have n9_ := Aside0.mk (ho)
                 clear HO_5
                 clear HO_6
                 clear HO_8
                 clear HO_9
                 clear HO_11
                 clear HO_991004
                 clear BK990
                 clear HO1016
                 clear HB
                 clear HO1010
                 have HO_5 := n0_
                 have HO_6 := n1_
                 have HO_8 := n2_
                 have HO_9 := n3_
                 have HO_11 := n4_
                 have HO_991004 := n5_
                 have BK990 := n6_
                 have HO1016 := n7_
                 have HB := n8_
                 have HO1013 := n9_
                 clear n0_ n1_ n2_ n3_ n4_ n5_ n6_ n7_ n8_ n9_
                 clear ho hb hg hat
                 refine hK.out _ _ ⟨(blk_cell BK990.out 0).trans rfl, (blk_cell BK990.out 1).trans rfl, (blk_cell BK990.out 2).trans rfl, (blk_cell BK990.out 3).trans rfl, (blk_cell BK990.out 4).trans rfl⟩ (fun hHeld => ?_)
                 clear hK K
                 refine norm_ (a' := ?_) ?_ ?_
                 rotate_left
                 ·show Act.put _ (some 57) _ = _
                  simp only [Act.put, List.setIfInBounds_toArray, List.set_cons_zero, List.set_cons_succ, i64_w, i32_w]
                  rfl
                 exact norm_ z63x37 (hCont (v1006, v1009, v1012, v1015) _ ⟨hHeld, z63x12, z63x11, z63x13, z63x14, z63x15, z63x16, z63x17, z63x9, z63x20, z63x7⟩)
               ·skip
                refine Kd.R_lit_step k24 _ 24 ?hg (N := 58) ?hd (xs := ([] : List (S24))) (inner := []) (ok := fun _ => True) (okp := fun _ => True) ?hr ?hp (fun _ hk => hk) trivial (Below.refl _ _) (Nat.le_refl _) (by simp) ?_; (case hd => rfl); (case hg => rfl); (case hr => first | (go_simp; done) | (go_simp; rfl)); (case hp => exact (Reps.none _ _))
                intro v1015 w48 ho49 hb hg_ hnew_
                clear hg_ hnew_
                (first | rw [← Ny1014.out] at ho49 | (simp only [Int.reduceToNat] at ho49; rw [← Ny1014.out] at ho49))
                have n0_ := Aside0.mk (Kd.R_below z63x33 hb)
                have n1_ := Aside0.mk (Kd.R_elder' z63x34 (Kd.R_base ho49) hb)
                have n2_ := Aside0.mk (Kd.R_below z63x35 hb)
                have n3_ := Aside0.mk (Kd.R_elder' z63x36 (Kd.R_base ho49) hb)
                have n4_ := Aside0.mk (Kd.R_below z63x32 hb)
                have n5_ := Aside0.mk (Kd.R_elder' z63x21 (Kd.R_base ho49) hb)
                have n6_ := Aside0.mk (Kd.R_lower (Kd.R_new' (Kd.R_new' (Kd.R_new' ho49 (Kd.R_lt z63x34)) (Kd.R_lt z63x36)) (Kd.R_lt z63x21)) (below_size z63x7))
                have n7_ := Aside0.mk (blk_below (g := gb990) (o := .cells #[.int .i64 t983, .int .i64 t984, .int .i64 t985, .int .i64 t986, .slice Ao25 t987.length co25] 36 (0, 0)) z63x20 hb)
                have n8_ := Aside0.mk (below_step z63x7 hb)
                clear HO_5
                clear HO_6
                clear HO_8
                clear HO_9
                clear HO_11
                clear HO_991004
                clear BK990
                clear HB
                have HO_5 := n0_
                have HO_6 := n1_
                have HO_8 := n2_
                have HO_9 := n3_
                have HO_11 := n4_
                have HO_991004 := n5_
                have HO1016 := n6_
                have BK990 := n7_
                have HB := n8_
                clear n0_ n1_ n2_ n3_ n4_ n5_ n6_ n7_ n8_
                clear hb ho49
                refine hK.out _ _ ⟨(blk_cell BK990.out 0).trans rfl, (blk_cell BK990.out 1).trans rfl, (blk_cell BK990.out 2).trans rfl, (blk_cell BK990.out 3).trans rfl, (blk_cell BK990.out 4).trans rfl⟩ (fun hHeld => ?_)
                clear hK K
                refine norm_ (a' := ?_) ?_ ?_
                rotate_left
                ·show Act.put _ (some 58) _ = _
                 simp only [Act.put, List.setIfInBounds_toArray, List.set_cons_zero, List.set_cons_succ, i64_w, i32_w]
                 rfl
                refine one_ (i := 2) (N := some 53) #[true, true, true, true, false, true, false, true, true, false, true, false, true, false, false, false] rfl rfl (one_of HT_.out (by kernel_rfl)) (by decide) (fun K hK => ?_)
                refine Kd.R_lit_step (Kd.int .i64) _ 3 ?hg (N := 53) ?hd (xs := ([] : List Int)) (inner := []) (ok := fun _ => True) (okp := fun _ => True) ?hr ?hp (fun _ hk => hk) trivial (Below.refl _ _) (Nat.le_refl _) (by simp) ?_; (case hd => rfl); (case hg => rfl); (case hr => first | (go_simp; done) | (go_simp; rfl)); (case hp => exact (Reps.none _ _))
                intro v1006 w50 ho51 hb hg_ hnew_
                clear hg_ hnew_
                (first | rw [← Ny1005.out] at ho51 | (simp only [Int.reduceToNat] at ho51; rw [← Ny1005.out] at ho51))
                have n0_ := Aside0.mk (Kd.R_elder' z63x33 (Kd.R_base ho51) hb)
                have n1_ := Aside0.mk (Kd.R_below z63x34 hb)
                have n2_ := Aside0.mk (Kd.R_elder' z63x35 (Kd.R_base ho51) hb)
                have n3_ := Aside0.mk (Kd.R_below z63x36 hb)
                have n4_ := Aside0.mk (Kd.R_elder' z63x32 (Kd.R_base ho51) hb)
                have n5_ := Aside0.mk (Kd.R_below z63x21 hb)
                have n6_ := Aside0.mk (Kd.R_below z63x25 hb)
                have n7_ := Aside0.mk (Kd.R_lower (Kd.R_new' (Kd.R_new' (Kd.R_new' ho51 (Kd.R_lt z63x33)) (Kd.R_lt z63x35)) (Kd.R_lt z63x32)) (below_size z63x7))
                have n8_ := Aside0.mk (blk_below (g := gb990) (o := .cells #[.int .i64 t983, .int .i64 t984, .int .i64 t985, .int .i64 t986, .slice Ao25 t987.length co25] 36 (0, 0)) z63x20 hb)
                have n9_ := Aside0.mk (below_step z63x7 hb)
                clear HO_5
                clear HO_6
                clear HO_8
                clear HO_9
                clear HO_11
                clear HO_991004
                clear HO1016
                clear BK990
                clear HB
                have HO_5 := n0_
                have HO_6 := n1_
                have HO_8 := n2_
                have HO_9 := n3_
                have HO_11 := n4_
                have HO_991004 := n5_
                have HO1016 := n6_
                have HO1007 := n7_
                have BK990 := n8_
                have HB := n9_
                clear n0_ n1_ n2_ n3_ n4_ n5_ n6_ n7_ n8_ n9_
                clear hb ho51
                refine hK.out _ _ ⟨(blk_cell BK990.out 0).trans rfl, (blk_cell BK990.out 1).trans rfl, (blk_cell BK990.out 2).trans rfl, (blk_cell BK990.out 3).trans rfl, (blk_cell BK990.out 4).trans rfl⟩ (fun hHeld => ?_)
                clear hK K
                refine norm_ (a' := ?_) ?_ ?_
                rotate_left
                ·show Act.put _ (some 53) _ = _
                 simp only [Act.put, List.setIfInBounds_toArray, List.set_cons_zero, List.set_cons_succ, i64_w, i32_w]
                 rfl
                refine one_ (i := 4) (N := some 55) #[true, true, true, true, true, true, false, true, true, false, true, false, true, false, false, false] rfl rfl (one_of HT_.out (by kernel_rfl)) (by decide) (fun K hK => ?_)
                refine Kd.R_append_rows_step (Kd.int .i64) (w0 := w) w.heap.size (by rfl) (.tmp 53) (.tmp 54) 41 3 (.int .i64 0) 8 rfl Try.underlying41 info3 rfl (by decide) (by omega) v1006 y1005 t977 _ _ _ (fun k_ => some k_ ≠ (.slice Ao28 t977.length co28 : Value).ownBlock ∧ some k_ ≠ (.slice Ao45 t991.length co45 : Value).ownBlock ∧ some k_ ≠ (u11 : Value).ownBlock) (fun _ => False) rfl rfl ?aO ?aR (fun _ _ h => h) (fun _ h => h.elim) ?aF ?aB ?aS ?aL ?_
                (case aR => repeat (first | exact (Kd.R_reads' HO_5.out).2.2 | (with_reducible refine Kd.C_alloc ?_ _) | (with_reducible refine Kd.C_drewN ?_ _) | (with_reducible refine Kd.C_drew ?_)))
                (case aB => exact z63x7)
                (case aF => exact (fun k_ hk => ⟨Kd.fresh' (Kd.R_lt z63x33) k_ hk, Kd.fresh' (Kd.R_lt z63x35) k_ hk, Kd.fresh' (Kd.R_lt z63x32) k_ hk⟩))
                (case aO => exact z63x10)
                (case aS => exact (below_size z63x7))
                (case aL => have := LMc40.out; omega)
                intro v1009 w52 ho hb hg hat
                rw [← Ny1008.out] at ho
                have n0_ := Aside0.mk (Kd.R_after (ok := (fun k_ => some k_ ≠ (.slice Ao45 t991.length co45 : Value).ownBlock ∧ some k_ ≠ (u11 : Value).ownBlock)) z63x33 hg hat)
                have n1_ := Aside0.mk (Kd.R_over' z63x34 (Kd.R_typed z63x22) (by decide) hg)
                have n2_ := Aside0.mk (Kd.R_after (ok := (fun k_ => some k_ ≠ (.slice Ao28 t977.length co28 : Value).ownBlock ∧ some k_ ≠ (u11 : Value).ownBlock)) z63x35 hg hat)
                have n3_ := Aside0.mk (Kd.R_over' z63x36 (Kd.R_typed z63x22) (by decide) hg)
                have n4_ := Aside0.mk (Kd.R_after (ok := (fun k_ => some k_ ≠ (.slice Ao28 t977.length co28 : Value).ownBlock ∧ some k_ ≠ (.slice Ao45 t991.length co45 : Value).ownBlock)) z63x32 hg hat)
                have n5_ := Aside0.mk (Kd.R_over' z63x21 (Kd.R_typed z63x22) (by decide) hg)
                have n6_ := Aside0.mk (blk_grown (g := gb990) (o := .cells #[.int .i64 t983, .int .i64 t984, .int .i64 t985, .int .i64 t986, .slice Ao25 t987.length co25] 36 (0, 0)) z63x20 hg (Kd.R_ne HO1007.out BK990.out (by decide)))
                have n7_ := Aside0.mk (Kd.R_over' z63x25 (Kd.R_typed z63x22) (by decide) hg)
                have n8_ := Aside0.mk (hb)
                have n9_ := Aside0.mk (ho)
                clear HO_5
                clear HO_6
                clear HO_8
                clear HO_9
                clear HO_11
                clear HO_991004
                clear BK990
                clear HO1016
                clear HB
                clear HO1007
                have HO_5 := n0_
                have HO_6 := n1_
                have HO_8 := n2_
                have HO_9 := n3_
                have HO_11 := n4_
                have HO_991004 := n5_
                have BK990 := n6_
                have HO1016 := n7_
                have HB := n8_
                have HO1010 := n9_
                clear n0_ n1_ n2_ n3_ n4_ n5_ n6_ n7_ n8_ n9_
                clear ho hb hg hat
                refine hK.out _ _ ⟨(blk_cell BK990.out 0).trans rfl, (blk_cell BK990.out 1).trans rfl, (blk_cell BK990.out 2).trans rfl, (blk_cell BK990.out 3).trans rfl, (blk_cell BK990.out 4).trans rfl⟩ (fun hHeld => ?_)
                clear hK K
                refine norm_ (a' := ?_) ?_ ?_
                rotate_left
                ·show Act.put _ (some 55) _ = _
                 simp only [Act.put, List.setIfInBounds_toArray, List.set_cons_zero, List.set_cons_succ, i64_w, i32_w]
                 rfl
                refine one_ (i := 6) (N := some 57) #[true, true, true, true, true, true, true, true, true, false, true, false, true, false, false, false] rfl rfl (one_of HT_.out (by kernel_rfl)) (by decide) (fun K hK => ?_)
                refine Kd.R_append_rows_step (Kd.int .i64) (w0 := w) w.heap.size (by rfl) (.tmp 55) (.tmp 56) 41 3 (.int .i64 0) 8 rfl Try.underlying41 info3 rfl (by decide) (by omega) v1009 y1008 t991 _ _ _ (fun k_ => some k_ ≠ (.slice Ao28 t977.length co28 : Value).ownBlock ∧ some k_ ≠ (.slice Ao45 t991.length co45 : Value).ownBlock ∧ some k_ ≠ (u11 : Value).ownBlock) (fun _ => False) rfl rfl ?aO ?aR (fun _ _ h => h) (fun _ h => h.elim) ?aF ?aB ?aS ?aL ?_
                (case aR => repeat (first | exact (Kd.R_reads' HO_8.out).2.2 | (with_reducible refine Kd.C_alloc ?_ _) | (with_reducible refine Kd.C_drewN ?_ _) | (with_reducible refine Kd.C_drew ?_)))
                (case aB => exact z63x7)
                (case aF => exact (fun k_ hk => ⟨Kd.fresh' (Kd.R_lt z63x33) k_ hk, Kd.fresh' (Kd.R_lt z63x35) k_ hk, Kd.fresh' (Kd.R_lt z63x32) k_ hk⟩))
                (case aO => exact z63x23)
                (case aS => exact (below_size z63x7))
                (case aL => have := LMc41.out; omega)
                intro v1012 w53 ho hb hg hat
                rw [← Ny1011.out] at ho
                have n0_ := Aside0.mk (Kd.R_after (ok := (fun k_ => some k_ ≠ (.slice Ao45 t991.length co45 : Value).ownBlock ∧ some k_ ≠ (u11 : Value).ownBlock)) z63x33 hg hat)
                have n1_ := Aside0.mk (Kd.R_over' z63x34 (Kd.R_typed z63x23) (by decide) hg)
                have n2_ := Aside0.mk (Kd.R_after (ok := (fun k_ => some k_ ≠ (.slice Ao28 t977.length co28 : Value).ownBlock ∧ some k_ ≠ (u11 : Value).ownBlock)) z63x35 hg hat)
                have n3_ := Aside0.mk (Kd.R_over' z63x36 (Kd.R_typed z63x23) (by decide) hg)
                have n4_ := Aside0.mk (Kd.R_after (ok := (fun k_ => some k_ ≠ (.slice Ao28 t977.length co28 : Value).ownBlock ∧ some k_ ≠ (.slice Ao45 t991.length co45 : Value).ownBlock)) z63x32 hg hat)
                have n5_ := Aside0.mk (Kd.R_over' z63x21 (Kd.R_typed z63x23) (by decide) hg)
                have n6_ := Aside0.mk (blk_grown (g := gb990) (o := .cells #[.int .i64 t983, .int .i64 t984, .int .i64 t985, .int .i64 t986, .slice Ao25 t987.length co25] 36 (0, 0)) z63x20 hg (Kd.R_ne HO1010.out BK990.out (by decide)))
                have n7_ := Aside0.mk (Kd.R_over' z63x25 (Kd.R_typed z63x23) (by decide) hg)
                have n8_ := Aside0.mk (hb)
                have n9_ := Aside0.mk (ho)
                clear HO_5
                clear HO_6
                clear HO_8
                clear HO_9
                clear HO_11
                clear HO_991004
                clear BK990
                clear HO1016
                clear HB
                clear HO1010
                have HO_5 := n0_
                have HO_6 := n1_
                have HO_8 := n2_
                have HO_9 := n3_
                have HO_11 := n4_
                have HO_991004 := n5_
                have BK990 := n6_
                have HO1016 := n7_
                have HB := n8_
                have HO1013 := n9_
                clear n0_ n1_ n2_ n3_ n4_ n5_ n6_ n7_ n8_ n9_
                clear ho hb hg hat
                refine hK.out _ _ ⟨(blk_cell BK990.out 0).trans rfl, (blk_cell BK990.out 1).trans rfl, (blk_cell BK990.out 2).trans rfl, (blk_cell BK990.out 3).trans rfl, (blk_cell BK990.out 4).trans rfl⟩ (fun hHeld => ?_)
                clear hK K
                refine norm_ (a' := ?_) ?_ ?_
                rotate_left
                ·show Act.put _ (some 57) _ = _
                 simp only [Act.put, List.setIfInBounds_toArray, List.set_cons_zero, List.set_cons_succ, i64_w, i32_w]
                 rfl
                exact norm_ z63x37 (hCont (v1006, v1009, v1012, v1015) _ ⟨hHeld, z63x12, z63x11, z63x13, z63x14, z63x15, z63x16, z63x17, z63x9, z63x20, z63x7⟩)
              rintro ⟨v1006, v1009, v1012, v1015⟩ w54 ⟨hS_, h0_, h1_, h2_, h3_, h4_, h5_, h6_, h7_, h8_, h9_⟩
              have n0_ : Aside0 (Kd.R (Kd.int .i64) 3 w54 w.heap.size (fun k_ => some k_ ≠ (u11 : Value).ownBlock ∧ some k_ ≠ (.slice Ao28 t977.length co28 : Value).ownBlock ∧ some k_ ≠ (.slice Ao45 t991.length co45 : Value).ownBlock) v1012 y1011) := ⟨h0_⟩
              have n1_ : Aside0 (Kd.R k24 24 w54 w.heap.size (fun k_ => some k_ ≠ (.slice Ao29 t980.length co29 : Value).ownBlock ∧ some k_ ≠ (.slice Ao46 t992.length co46 : Value).ownBlock ∧ some k_ ≠ (.slice Ao25 t987.length co25 : Value).ownBlock) v1015 y1014) := ⟨h1_⟩
              have n2_ : Aside0 (Kd.R (Kd.int .i64) 3 w54 w.heap.size (fun k_ => some k_ ≠ (v1012 : Value).ownBlock ∧ some k_ ≠ (.slice Ao28 t977.length co28 : Value).ownBlock ∧ some k_ ≠ (.slice Ao45 t991.length co45 : Value).ownBlock) u11 x11_2) := ⟨h2_⟩
              have n3_ : Aside0 (Kd.R (Kd.int .i64) 3 w54 w.heap.size (fun k_ => some k_ ≠ (v1012 : Value).ownBlock ∧ some k_ ≠ (u11 : Value).ownBlock ∧ some k_ ≠ (.slice Ao45 t991.length co45 : Value).ownBlock) (.slice Ao28 t977.length co28) t977) := ⟨h3_⟩
              have n4_ : Aside0 (Kd.R k24 24 w54 w.heap.size (fun k_ => some k_ ≠ (v1015 : Value).ownBlock ∧ some k_ ≠ (.slice Ao46 t992.length co46 : Value).ownBlock ∧ some k_ ≠ (.slice Ao25 t987.length co25 : Value).ownBlock) (.slice Ao29 t980.length co29) t980) := ⟨h4_⟩
              have n5_ : Aside0 (Kd.R (Kd.int .i64) 3 w54 w.heap.size (fun k_ => some k_ ≠ (v1012 : Value).ownBlock ∧ some k_ ≠ (u11 : Value).ownBlock ∧ some k_ ≠ (.slice Ao28 t977.length co28 : Value).ownBlock) (.slice Ao45 t991.length co45) t991) := ⟨h5_⟩
              have n6_ : Aside0 (Kd.R k24 24 w54 w.heap.size (fun k_ => some k_ ≠ (v1015 : Value).ownBlock ∧ some k_ ≠ (.slice Ao29 t980.length co29 : Value).ownBlock ∧ some k_ ≠ (.slice Ao25 t987.length co25 : Value).ownBlock) (.slice Ao46 t992.length co46) t992) := ⟨h6_⟩
              have n7_ : Aside0 (Kd.R k24 24 w54 w.heap.size (fun k_ => some k_ ≠ (v1015 : Value).ownBlock ∧ some k_ ≠ (.slice Ao29 t980.length co29 : Value).ownBlock ∧ some k_ ≠ (.slice Ao46 t992.length co46 : Value).ownBlock) (.slice Ao25 t987.length co25) t987) := ⟨h7_⟩
              have n8_ : Aside0 (w54.heap[gb990]? = some (.cells #[.int .i64 t983, .int .i64 t984, .int .i64 t985, .int .i64 t986, .slice Ao25 t987.length co25] 36 (0, 0))) := ⟨h8_⟩
              have n9_ : Aside0 (Below w.heap.size w w54) := ⟨h9_⟩
              clear HO_5
              clear HO_6
              clear HO_8
              clear HO_9
              clear HO_11
              clear HO_991004
              clear BK990
              clear HB
              clear h0_ h1_ h2_ h3_ h4_ h5_ h6_ h7_ h8_ h9_
              have HO1013 := n0_
              have HO1016 := n1_
              have HO_11 := n2_
              have HO_5 := n3_
              have HO_6 := n4_
              have HO_8 := n5_
              have HO_9 := n6_
              have HO_991004 := n7_
              have BK990 := n8_
              have HB := n9_
              clear n0_ n1_ n2_ n3_ n4_ n5_ n6_ n7_ n8_ n9_
              have hHeld : w54.cell? ⟨gb990, 0, none⟩ = some (.int .i64 t983) ∧ w54.cell? ⟨gb990, 1, none⟩ = some (.int .i64 t984) ∧ w54.cell? ⟨gb990, 2, none⟩ = some (.int .i64 t985) ∧ w54.cell? ⟨gb990, 3, none⟩ = some (.int .i64 t986) ∧ w54.cell? ⟨gb990, 4, none⟩ = some (.slice Ao25 t987.length co25) := hS_
              refine norm_ (a' := ?_) ?_ ?_
              rotate_left
              ·simp only [putAll, Act.put, List.setIfInBounds_toArray, List.set_cons_zero, List.set_cons_succ]
               rfl
              refine one_ (i := 9) (N := some 60) #[true, true, true, true, true, true, true, true, true, true, true, false, true, false, false, false] rfl rfl (one_of HT_.out (by kernel_rfl)) (by decide) (fun K hK => ?_)
              refine Kd.R_append_rows_step k24 (w0 := w) w.heap.size (by rfl) (.tmp 58) (.tmp 59) 34 24 (.agg #[(.int .i64 0), (.int .i64 0), (.int .i64 0), (.int .i64 0), (.int .i64 0), (.int .i64 0), (.int .i64 0)]) 56 rfl Try.underlying34 info24 rfl (by decide) (by omega) v1015 y1014 t980 _ _ _ (fun k_ => some k_ ≠ (.slice Ao29 t980.length co29 : Value).ownBlock ∧ some k_ ≠ (.slice Ao46 t992.length co46 : Value).ownBlock ∧ some k_ ≠ (.slice Ao25 t987.length co25 : Value).ownBlock) (fun _ => False) rfl rfl ?aO ?aR (fun _ _ h => h) (fun _ h => h.elim) ?aF ?aB ?aS ?aL ?_
              (case aR => repeat (first | exact (Kd.R_reads' HO_6.out).2.2 | (with_reducible refine Kd.C_alloc ?_ _) | (with_reducible refine Kd.C_drewN ?_ _) | (with_reducible refine Kd.C_drew ?_)))
              (case aB => exact z63x7)
              (case aF => exact (fun k_ hk => ⟨Kd.fresh' (Kd.R_lt z63x34) k_ hk, Kd.fresh' (Kd.R_lt z63x36) k_ hk, Kd.fresh' (Kd.R_lt z63x21) k_ hk⟩))
              (case aO => exact z63x25)
              (case aS => exact (below_size z63x7))
              (case aL => have := LMc42.out; omega)
              intro v1018 w55 ho hb hg hat
              rw [← Ny1017.out] at ho
              have n0_ := Aside0.mk (Kd.R_over' z63x33 (Kd.R_typed z63x25) (by decide) hg)
              have n1_ := Aside0.mk (Kd.R_after (ok := (fun k_ => some k_ ≠ (.slice Ao46 t992.length co46 : Value).ownBlock ∧ some k_ ≠ (.slice Ao25 t987.length co25 : Value).ownBlock)) (by (with_reducible repeat (first | apply Kd.R_alloc | apply Kd.R_drewN | apply Kd.R_drew)); exact Kd.R_mono HO_6.out (fun _ hk => ⟨⟨hk.2.1, hk.2.2⟩, hk.1⟩)) hg hat)
              have n2_ := Aside0.mk (Kd.R_over' z63x35 (Kd.R_typed z63x25) (by decide) hg)
              have n3_ := Aside0.mk (Kd.R_after (ok := (fun k_ => some k_ ≠ (.slice Ao29 t980.length co29 : Value).ownBlock ∧ some k_ ≠ (.slice Ao25 t987.length co25 : Value).ownBlock)) (by (with_reducible repeat (first | apply Kd.R_alloc | apply Kd.R_drewN | apply Kd.R_drew)); exact Kd.R_mono HO_9.out (fun _ hk => ⟨⟨hk.2.1, hk.2.2⟩, hk.1⟩)) hg hat)
              have n4_ := Aside0.mk (Kd.R_over' z63x32 (Kd.R_typed z63x25) (by decide) hg)
              have n5_ := Aside0.mk (Kd.R_after (ok := (fun k_ => some k_ ≠ (.slice Ao29 t980.length co29 : Value).ownBlock ∧ some k_ ≠ (.slice Ao46 t992.length co46 : Value).ownBlock)) (by (with_reducible repeat (first | apply Kd.R_alloc | apply Kd.R_drewN | apply Kd.R_drew)); exact Kd.R_mono HO_991004.out (fun _ hk => ⟨⟨hk.2.1, hk.2.2⟩, hk.1⟩)) hg hat)
              have n6_ := Aside0.mk (blk_grown (g := gb990) (o := .cells #[.int .i64 t983, .int .i64 t984, .int .i64 t985, .int .i64 t986, .slice Ao25 t987.length co25] 36 (0, 0)) z63x20 hg (Kd.R_ne HO1016.out BK990.out (by decide)))
              have n7_ := Aside0.mk (Kd.R_over' z63x24 (Kd.R_typed z63x25) (by decide) hg)
              have n8_ := Aside0.mk (hb)
              have n9_ := Aside0.mk (ho)
              clear HO_5
              clear HO_6
              clear HO_8
              clear HO_9
              clear HO_11
              clear HO_991004
              clear BK990
              clear HO1013
              clear HB
              clear HO1016
              have HO_5 := n0_
              have HO_6 := n1_
              have HO_8 := n2_
              have HO_9 := n3_
              have HO_11 := n4_
              have HO_991004 := n5_
              have BK990 := n6_
              have HO1013 := n7_
              have HB := n8_
              have HO1019 := n9_
              clear n0_ n1_ n2_ n3_ n4_ n5_ n6_ n7_ n8_ n9_
              clear ho hb hg hat
              refine hK.out _ _ ⟨(blk_cell BK990.out 0).trans rfl, (blk_cell BK990.out 1).trans rfl, (blk_cell BK990.out 2).trans rfl, (blk_cell BK990.out 3).trans rfl, (blk_cell BK990.out 4).trans rfl⟩ (fun hHeld => ?_)
              clear hK K
              refine norm_ (a' := ?_) ?_ ?_
              rotate_left
              ·show Act.put _ (some 60) _ = _
               simp only [Act.put, List.setIfInBounds_toArray, List.set_cons_zero, List.set_cons_succ, i64_w, i32_w]
               rfl
              refine one_ (i := 11) (N := some 62) #[true, true, true, true, true, true, true, true, true, true, true, true, true, false, false, false] rfl rfl (one_of HT_.out (by kernel_rfl)) (by decide) (fun K hK => ?_)
              refine Kd.R_append_rows_step k24 (w0 := w) w.heap.size (by rfl) (.tmp 60) (.tmp 61) 34 24 (.agg #[(.int .i64 0), (.int .i64 0), (.int .i64 0), (.int .i64 0), (.int .i64 0), (.int .i64 0), (.int .i64 0)]) 56 rfl Try.underlying34 info24 rfl (by decide) (by omega) v1018 y1017 t992 _ _ _ (fun k_ => some k_ ≠ (.slice Ao29 t980.length co29 : Value).ownBlock ∧ some k_ ≠ (.slice Ao46 t992.length co46 : Value).ownBlock ∧ some k_ ≠ (.slice Ao25 t987.length co25 : Value).ownBlock) (fun _ => False) rfl rfl ?aO ?aR (fun _ _ h => h) (fun _ h => h.elim) ?aF ?aB ?aS ?aL ?_
              (case aR => repeat (first | exact (Kd.R_reads' HO_9.out).2.2 | (with_reducible refine Kd.C_alloc ?_ _) | (with_reducible refine Kd.C_drewN ?_ _) | (with_reducible refine Kd.C_drew ?_)))
              (case aB => exact z63x7)
              (case aF => exact (fun k_ hk => ⟨Kd.fresh' (Kd.R_lt z63x34) k_ hk, Kd.fresh' (Kd.R_lt z63x36) k_ hk, Kd.fresh' (Kd.R_lt z63x21) k_ hk⟩))
              (case aO => exact z63x26)
              (case aS => exact (below_size z63x7))
              (case aL => have := LMc43.out; omega)
              intro v1021 w56 ho hb hg hat
              rw [← Ny1020.out] at ho
              have n0_ := Aside0.mk (Kd.R_over' z63x33 (Kd.R_typed z63x26) (by decide) hg)
              have n1_ := Aside0.mk (Kd.R_after (ok := (fun k_ => some k_ ≠ (.slice Ao46 t992.length co46 : Value).ownBlock ∧ some k_ ≠ (.slice Ao25 t987.length co25 : Value).ownBlock)) z63x34 hg hat)
              have n2_ := Aside0.mk (Kd.R_over' z63x35 (Kd.R_typed z63x26) (by decide) hg)
              have n3_ := Aside0.mk (Kd.R_after (ok := (fun k_ => some k_ ≠ (.slice Ao29 t980.length co29 : Value).ownBlock ∧ some k_ ≠ (.slice Ao25 t987.length co25 : Value).ownBlock)) z63x36 hg hat)
              have n4_ := Aside0.mk (Kd.R_over' z63x32 (Kd.R_typed z63x26) (by decide) hg)
              have n5_ := Aside0.mk (Kd.R_after (ok := (fun k_ => some k_ ≠ (.slice Ao29 t980.length co29 : Value).ownBlock ∧ some k_ ≠ (.slice Ao46 t992.length co46 : Value).ownBlock)) z63x21 hg hat)
              have n6_ := Aside0.mk (blk_grown (g := gb990) (o := .cells #[.int .i64 t983, .int .i64 t984, .int .i64 t985, .int .i64 t986, .slice Ao25 t987.length co25] 36 (0, 0)) z63x20 hg (Kd.R_ne HO1019.out BK990.out (by decide)))
              have n7_ := Aside0.mk (Kd.R_over' z63x24 (Kd.R_typed z63x26) (by decide) hg)
              have n8_ := Aside0.mk (hb)
              have n9_ := Aside0.mk (ho)
              clear HO_5
              clear HO_6
              clear HO_8
              clear HO_9
              clear HO_11
              clear HO_991004
              clear BK990
              clear HO1013
              clear HB
              clear HO1019
              have HO_5 := n0_
              have HO_6 := n1_
              have HO_8 := n2_
              have HO_9 := n3_
              have HO_11 := n4_
              have HO_991004 := n5_
              have BK990 := n6_
              have HO1013 := n7_
              have HB := n8_
              have HO1022 := n9_
              clear n0_ n1_ n2_ n3_ n4_ n5_ n6_ n7_ n8_ n9_
              clear ho hb hg hat
              obtain ⟨Ao57, co57, eo57⟩ := Kd.R_slice HO1013.out
              (first | subst eo57 | (injection eo57 with f1_ f2_ f3_; have f4_ := f1_.symm; have f5_ := f3_.symm; clear f1_ f2_ f3_; subst f4_; subst f5_))
              obtain ⟨Ao58, co58, eo58⟩ := Kd.R_slice HO1022.out
              (first | subst eo58 | (injection eo58 with f1_ f2_ f3_; have f4_ := f1_.symm; have f5_ := f3_.symm; clear f1_ f2_ f3_; subst f4_; subst f5_))
              refine hK.out _ _ ⟨(blk_cell BK990.out 0).trans rfl, (blk_cell BK990.out 1).trans rfl, (blk_cell BK990.out 2).trans rfl, (blk_cell BK990.out 3).trans rfl, (blk_cell BK990.out 4).trans rfl⟩ (fun hHeld => ?_)
              clear hK K
              refine norm_ (a' := ?_) ?_ ?_
              rotate_left
              ·show Act.put _ (some 62) _ = _
               simp only [Act.put, List.setIfInBounds_toArray, List.set_cons_zero, List.set_cons_succ, i64_w, i32_w]
               rfl
              refine one_ (i := 13) (N := some 64) #[true, true, true, true, true, true, true, true, true, true, true, true, true, true, false, false] rfl rfl (one_of HT_.out (by kernel_rfl)) (by decide) (fun K hK => ?_)
              refine goes_ Try.func52 (by kernel_rfl) rfl #[.slice Ao57 y1011.length co57, .slice Ao58 y1020.length co58, .agg #[.int .i64 t983, .int .i64 t984, .int .i64 t985, .int .i64 t986, .slice Ao25 t987.length co25]] (by rfl) rfl rfl z63x18 ?_
              with_reducible refine (impl_KnowBuild.calls _ _ y1011 _ _ y1020 t983 t984 t985 t986 _ _ t987 t1023 _ ?side1 ?side2 ?side3 ?side4 ?side5 ?side6 A44.out).mono ?_
              (case side1 => repeat (first | exact (Kd.R_reads' HO1013.out).2.2 | (with_reducible refine Kd.C_alloc ?_ _) | (with_reducible refine Kd.C_drewN ?_ _) | (with_reducible refine Kd.C_drew ?_)))
              (case side2 => exact (Kd.R_reads' HO1013.out).2.1)
              (case side3 => repeat (first | exact (Kd.R_reads' HO1022.out).2.2 | (with_reducible refine Kd.C_alloc ?_ _) | (with_reducible refine Kd.C_drewN ?_ _) | (with_reducible refine Kd.C_drew ?_)))
              (case side4 => exact (Kd.R_reads' HO1022.out).2.1)
              (case side5 => repeat (first | exact (Kd.R_reads' HO_991004.out).2.2 | (with_reducible refine Kd.C_alloc ?_ _) | (with_reducible refine Kd.C_drewN ?_ _) | (with_reducible refine Kd.C_drew ?_)))
              (case side6 => exact (Kd.R_reads' HO_991004.out).2.1)
              rintro e w59 ⟨rfl, hb⟩
              refine ⟨_, rfl, ?_⟩
              have n0_ := Aside0.mk (Kd.R_below z63x33 hb)
              have n1_ := Aside0.mk (Kd.R_below z63x34 hb)
              have n2_ := Aside0.mk (Kd.R_below z63x35 hb)
              have n3_ := Aside0.mk (Kd.R_below z63x36 hb)
              have n4_ := Aside0.mk (Kd.R_below z63x32 hb)
              have n5_ := Aside0.mk (Kd.R_below z63x21 hb)
              have n6_ := Aside0.mk (Kd.R_below z63x24 hb)
              have n7_ := Aside0.mk (Kd.R_below (by (with_reducible repeat (first | apply Kd.R_alloc | apply Kd.R_drewN | apply Kd.R_drew)); exact HO1022.out) hb)
              have n8_ := Aside0.mk (blk_below (g := gb990) (o := .cells #[.int .i64 t983, .int .i64 t984, .int .i64 t985, .int .i64 t986, .slice Ao25 t987.length co25] 36 (0, 0)) z63x20 hb)
              have n9_ := Aside0.mk (below_step z63x7 hb)
              clear HO_5
              clear HO_6
              clear HO_8
              clear HO_9
              clear HO_11
              clear HO_991004
              clear HO1013
              clear HO1022
              clear BK990
              clear HB
              have HO_5 := n0_
              have HO_6 := n1_
              have HO_8 := n2_
              have HO_9 := n3_
              have HO_11 := n4_
              have HO_991004 := n5_
              have HO1013 := n6_
              have HO1022 := n7_
              have BK990 := n8_
              have HB := n9_
              clear n0_ n1_ n2_ n3_ n4_ n5_ n6_ n7_ n8_ n9_
              (try clear hb)
              (try clear hb2)
              (try clear hk)
              (try clear hi)
              refine hK.out _ _ ⟨(blk_cell BK990.out 0).trans rfl, (blk_cell BK990.out 1).trans rfl, (blk_cell BK990.out 2).trans rfl, (blk_cell BK990.out 3).trans rfl, (blk_cell BK990.out 4).trans rfl⟩ (fun hHeld => ?_)
              clear hK K
              refine norm_ (a' := ?_) ?_ ?_
              rotate_left
              ·show Act.put _ (some 64) _ = _
               simp only [Act.put, List.setIfInBounds_toArray, List.set_cons_zero, List.set_cons_succ, i64_w, i32_w]
               rfl
              refine pure_ (i := 14) (N := some 65) (v := ?_) (a' := ?_) #[true, true, true, true, true, true, true, true, true, true, true, true, true, true, true, false] rfl rfl (any_of HT_.out (by kernel_rfl)) (fun _ _ _ h => h) (Or.inl ⟨by rfl, ?_⟩) ?_ ?_
              rotate_left
              ·intro w'
               go_simp
               with_reducible rfl
              rotate_left
              ·simp only [Act.put, List.setIfInBounds_toArray, List.set_cons_zero, List.set_cons_succ, i64_w, i32_w]
               rfl
              refine pure_ (i := 15) (N := some 66) (v := ?_) (a' := ?_) #[true, true, true, true, true, true, true, true, true, true, true, true, true, true, true, true] rfl rfl (any_of HT_.out (by kernel_rfl)) (fun _ _ _ h => h) (Or.inl ⟨by rfl, ?_⟩) ?_ ?_
              rotate_left
              ·intro w'
               go_simp
               with_reducible rfl
              rotate_left
              ·simp only [Act.put, List.setIfInBounds_toArray, List.set_cons_zero, List.set_cons_succ, i64_w, i32_w]
               rfl
              refine done_ (done_of HT_.out (by kernel_rfl)) ?_
              try go_wp2
              go_meet
              case rel => exact ⟨_, (!t1023), y63x0, H', ⟨by have := HJ2.out; have := HK2.out; first | omega | exact Nat.le_refl _⟩, ⟨by (with_reducible repeat (first | apply Kd.R_alloc | apply Kd.R_drewN | apply Kd.R_drew)); exact Kd.R_mono HO_11.out (fun _ hk => trivial)⟩, ⟨by (with_reducible repeat (first | apply Kd.R_alloc | apply Kd.R_drewN | apply Kd.R_drew)); exact Kd.R_mono HO_991004.out (fun _ hk => trivial)⟩, ⟨by (with_reducible repeat (first | refine blk_drewN ?_ _ | refine blk_drew ?_ | refine blk_alloc ?_ _)); exact BK990.out⟩, ⟨by repeat (first | (with_reducible first | exact HB.out | apply below_alloc | apply pw_below_drewN | apply below_drew1 | refine below_set ?_ GE990.out) | exact HB.out)⟩⟩
             ·rw [if_neg c43] at H
              exact absurd H (by simp)
            ·rw [if_neg c42] at H
             exact absurd H (by simp)
           ·rw [if_neg c41] at H
            exact absurd H (by simp)
          ·rw [if_neg c40] at H
           exact absurd H (by simp)
         ·replace c39 := Bool.eq_false_iff.mpr c39
          subst c39
          rw [if_neg (show ¬ (false = true) by decide)] at H
          have H' := Aside0.mk H
          clear H
          try go_wp2
          have n0_ := Aside0.mk (Kd.R_drew HO_5.out)
          have n1_ := Aside0.mk (Kd.R_drew HO_6.out)
          have n2_ := Aside0.mk (Kd.R_drew HO_8.out)
          have n3_ := Aside0.mk (Kd.R_drew HO_9.out)
          have n4_ := Aside0.mk (Kd.R_drew HO_11.out)
          have n5_ := Aside0.mk (Kd.R_drew HO_991004.out)
          have n6_ := Aside0.mk (blk_drew BK990.out)
          have n7_ := Aside0.mk (below_drew1 HB.out)
          clear HO_5
          clear HO_6
          clear HO_8
          clear HO_9
          clear HO_11
          clear HO_991004
          clear BK990
          clear HB
          have HO_5 := n0_
          have HO_6 := n1_
          have HO_8 := n2_
          have HO_9 := n3_
          have HO_11 := n4_
          have HO_991004 := n5_
          have BK990 := n6_
          have HB := n7_
          clear n0_ n1_ n2_ n3_ n4_ n5_ n6_ n7_
          refine start_ (n := 16) (S := fun w' => True) (ds := []) #[false, false, false, false, false, false, false, false, false, false, false, false, false, false, false, false] (by kernel_rfl) rfl rfl trivial (fun hHeld => ?_); refine with_tabW laws_FnBuildMore.tab13 laws_FnBuildMore.bits13 (fun HT_ HW_ => ?_)
          generalize wr.drew = w60 at HO_5 HO_6 HO_8 HO_9 HO_11 HO_991004 BK990 HB hHeld ⊢
          refine pure_ (i := 0) (N := some 51) (v := ?_) (a' := ?_) #[true, false, false, false, false, false, false, false, false, false, false, false, false, false, false, false] rfl rfl (any_of HT_.out (by kernel_rfl)) (fun _ _ _ h => h) (Or.inl ⟨by rfl, ?_⟩) ?_ ?_
          rotate_left
          ·intro w'
           go_simp
           with_reducible rfl
          rotate_left
          ·simp only [Act.put, List.setIfInBounds_toArray, List.set_cons_zero, List.set_cons_succ, i64_w, i32_w]
           rfl
          refine pure_ (i := 1) (N := some 52) (v := ?_) (a' := ?_) #[true, true, false, false, false, false, false, false, false, false, false, false, false, false, false, false] rfl rfl (any_of HT_.out (by kernel_rfl)) (fun _ _ _ h => h) (Or.inl ⟨by rfl, ?_⟩) ?_ ?_
          rotate_left
          ·intro w'
           go_simp
           with_reducible rfl
          rotate_left
          ·simp only [Act.put, List.setIfInBounds_toArray, List.set_cons_zero, List.set_cons_succ, i64_w, i32_w]
           rfl
          refine pure_ (i := 2) (N := some 53) (v := undef) (a' := ?_) #[true, true, true, false, false, false, false, false, false, false, false, false, false, false, false, false] rfl rfl (any_of HT_.out (by kernel_rfl)) (fun _ _ _ h => h) (Or.inr ⟨by rfl, rfl⟩) ?_ ?_
          rotate_left
          ·simp only [Act.put, List.setIfInBounds_toArray, List.set_cons_zero, List.set_cons_succ, i64_w, i32_w]
           rfl
          refine pure_ (i := 3) (N := some 54) (v := undef) (a' := ?_) #[true, true, true, true, false, false, false, false, false, false, false, false, false, false, false, false] rfl rfl (any_of HT_.out (by kernel_rfl)) (fun _ _ _ h => h) (Or.inr ⟨by rfl, rfl⟩) ?_ ?_
          rotate_left
          ·simp only [Act.put, List.setIfInBounds_toArray, List.set_cons_zero, List.set_cons_succ, i64_w, i32_w]
           rfl
          refine pure_ (i := 4) (N := some 55) (v := undef) (a' := ?_) #[true, true, true, true, true, false, false, false, false, false, false, false, false, false, false, false] rfl rfl (any_of HT_.out (by kernel_rfl)) (fun _ _ _ h => h) (Or.inr ⟨by rfl, rfl⟩) ?_ ?_
          rotate_left
          ·simp only [Act.put, List.setIfInBounds_toArray, List.set_cons_zero, List.set_cons_succ, i64_w, i32_w]
           rfl
          refine pure_ (i := 5) (N := some 56) (v := undef) (a' := ?_) #[true, true, true, true, true, true, false, false, false, false, false, false, false, false, false, false] rfl rfl (any_of HT_.out (by kernel_rfl)) (fun _ _ _ h => h) (Or.inr ⟨by rfl, rfl⟩) ?_ ?_
          rotate_left
          ·simp only [Act.put, List.setIfInBounds_toArray, List.set_cons_zero, List.set_cons_succ, i64_w, i32_w]
           rfl
          refine pure_ (i := 6) (N := some 57) (v := undef) (a' := ?_) #[true, true, true, true, true, true, true, false, false, false, false, false, false, false, false, false] rfl rfl (any_of HT_.out (by kernel_rfl)) (fun _ _ _ h => h) (Or.inr ⟨by rfl, rfl⟩) ?_ ?_
          rotate_left
          ·simp only [Act.put, List.setIfInBounds_toArray, List.set_cons_zero, List.set_cons_succ, i64_w, i32_w]
           rfl
          refine pure_ (i := 7) (N := some 58) (v := undef) (a' := ?_) #[true, true, true, true, true, true, true, true, false, false, false, false, false, false, false, false] rfl rfl (any_of HT_.out (by kernel_rfl)) (fun _ _ _ h => h) (Or.inr ⟨by rfl, rfl⟩) ?_ ?_
          rotate_left
          ·simp only [Act.put, List.setIfInBounds_toArray, List.set_cons_zero, List.set_cons_succ, i64_w, i32_w]
           rfl
          refine pure_ (i := 8) (N := some 59) (v := undef) (a' := ?_) #[true, true, true, true, true, true, true, true, true, false, false, false, false, false, false, false] rfl rfl (any_of HT_.out (by kernel_rfl)) (fun _ _ _ h => h) (Or.inr ⟨by rfl, rfl⟩) ?_ ?_
          rotate_left
          ·simp only [Act.put, List.setIfInBounds_toArray, List.set_cons_zero, List.set_cons_succ, i64_w, i32_w]
           rfl
          refine pure_ (i := 9) (N := some 60) (v := undef) (a' := ?_) #[true, true, true, true, true, true, true, true, true, true, false, false, false, false, false, false] rfl rfl (any_of HT_.out (by kernel_rfl)) (fun _ _ _ h => h) (Or.inr ⟨by rfl, rfl⟩) ?_ ?_
          rotate_left
          ·simp only [Act.put, List.setIfInBounds_toArray, List.set_cons_zero, List.set_cons_succ, i64_w, i32_w]
           rfl
          refine pure_ (i := 10) (N := some 61) (v := undef) (a' := ?_) #[true, true, true, true, true, true, true, true, true, true, true, false, false, false, false, false] rfl rfl (any_of HT_.out (by kernel_rfl)) (fun _ _ _ h => h) (Or.inr ⟨by rfl, rfl⟩) ?_ ?_
          rotate_left
          ·simp only [Act.put, List.setIfInBounds_toArray, List.set_cons_zero, List.set_cons_succ, i64_w, i32_w]
           rfl
          refine pure_ (i := 11) (N := some 62) (v := undef) (a' := ?_) #[true, true, true, true, true, true, true, true, true, true, true, true, false, false, false, false] rfl rfl (any_of HT_.out (by kernel_rfl)) (fun _ _ _ h => h) (Or.inr ⟨by rfl, rfl⟩) ?_ ?_
          rotate_left
          ·simp only [Act.put, List.setIfInBounds_toArray, List.set_cons_zero, List.set_cons_succ, i64_w, i32_w]
           rfl
          refine pure_ (i := 12) (N := some 63) (v := undef) (a' := ?_) #[true, true, true, true, true, true, true, true, true, true, true, true, true, false, false, false] rfl rfl (any_of HT_.out (by kernel_rfl)) (fun _ _ _ h => h) (Or.inr ⟨by rfl, rfl⟩) ?_ ?_
          rotate_left
          ·simp only [Act.put, List.setIfInBounds_toArray, List.set_cons_zero, List.set_cons_succ, i64_w, i32_w]
           rfl
          refine pure_ (i := 13) (N := some 64) (v := undef) (a' := ?_) #[true, true, true, true, true, true, true, true, true, true, true, true, true, true, false, false] rfl rfl (any_of HT_.out (by kernel_rfl)) (fun _ _ _ h => h) (Or.inr ⟨by rfl, rfl⟩) ?_ ?_
          rotate_left
          ·simp only [Act.put, List.setIfInBounds_toArray, List.set_cons_zero, List.set_cons_succ, i64_w, i32_w]
           rfl
          refine pure_ (i := 14) (N := some 65) (v := undef) (a' := ?_) #[true, true, true, true, true, true, true, true, true, true, true, true, true, true, true, false] rfl rfl (any_of HT_.out (by kernel_rfl)) (fun _ _ _ h => h) (Or.inr ⟨by rfl, rfl⟩) ?_ ?_
          rotate_left
          ·simp only [Act.put, List.setIfInBounds_toArray, List.set_cons_zero, List.set_cons_succ, i64_w, i32_w]
           rfl
          refine pure_ (i := 15) (N := some 66) (v := ?_) (a' := ?_) #[true, true, true, true, true, true, true, true, true, true, true, true, true, true, true, true] rfl rfl (any_of HT_.out (by kernel_rfl)) (fun _ _ _ h => h) (Or.inl ⟨by rfl, ?_⟩) ?_ ?_
          rotate_left
          ·intro w'
           go_simp
           with_reducible rfl
          rotate_left
          ·simp only [Act.put, List.setIfInBounds_toArray, List.set_cons_zero, List.set_cons_succ, i64_w, i32_w]
           rfl
          refine done_ (done_of HT_.out (by kernel_rfl)) ?_
          try go_wp2
          go_meet
          case rel => exact ⟨_, (false), y63x0, H', ⟨by have := HJ2.out; have := HK2.out; first | omega | exact Nat.le_refl _⟩, ⟨by (with_reducible repeat (first | apply Kd.R_alloc | apply Kd.R_drewN | apply Kd.R_drew)); exact Kd.R_mono HO_11.out (fun _ hk => trivial)⟩, ⟨by (with_reducible repeat (first | apply Kd.R_alloc | apply Kd.R_drewN | apply Kd.R_drew)); exact Kd.R_mono HO_991004.out (fun _ hk => trivial)⟩, ⟨by (with_reducible repeat (first | refine blk_drewN ?_ _ | refine blk_drew ?_ | refine blk_alloc ?_ _)); exact BK990.out⟩, ⟨by repeat (first | (with_reducible first | exact HB.out | apply below_alloc | apply pw_below_drewN | apply below_drew1 | refine below_set ?_ GE990.out) | exact HB.out)⟩⟩
        case rest =>
         clear HC38
         try clear p2
         try clear c3
         try clear c4
         try clear c5
         try clear c39
         try clear c40
         try clear c41
         try clear c42
         try clear c43
         try clear c52
         obtain ⟨kq, x66_37, rfl, HA, HJ37, HO_11, HO_991004, BK990, HB⟩ := hcut
         cases kq with
         | zero => exact absurd HA.out (by simp [laws_FnBuildMore.j2])
         | succ kj37 =>
          have H := HA.out
          clear HA
          simp only [laws_FnBuildMore.j2] at H
          by_cases c61 : x66_37 = true
          ·subst c61
           rw [if_pos rfl] at H
           obtain rfl := Option.some.inj H
           go_wp2
           go_ret
           exact ⟨by first | rfl | (simp [errW_none, errW_some] <;> rfl) | (simp [*, errW_none, errW_some] <;> rfl), by repeat (first | (with_reducible first | exact HB.out | apply below_alloc | apply pw_below_drewN | apply below_drew1 | refine below_set ?_ GE990.out) | exact HB.out)⟩
          ·replace c61 := Bool.eq_false_iff.mpr c61
           subst c61
           rw [if_neg (show ¬ (false = true) by decide)] at H
           replace H := Option.bind_eq_some_iff.mp H
           obtain ⟨t1024, A620, H⟩ := H
           replace H : ((impl_MsgOk.f t983 t984 t985 t986 t987).bind fun t1025 => (if (t1024 == t1025) = true then ((impl_KnowBuild.f ([] : List Int) t987 t983 t984 t985 t986 t987).bind fun t1026 => ((impl_MsgOk.f t983 t984 t985 t986 t987).bind fun t1027 => (some (t1026 == t1027)))) else (some false))) = some r := H
           have A62 := Aside0.mk A620
           clear A620
           replace H := Option.bind_eq_some_iff.mp H
           obtain ⟨t1025, A630, H⟩ := H
           replace H : (if (t1024 == t1025) = true then ((impl_KnowBuild.f ([] : List Int) t987 t983 t984 t985 t986 t987).bind fun t1026 => ((impl_MsgOk.f t983 t984 t985 t986 t987).bind fun t1027 => (some (t1026 == t1027)))) else (some false)) = some r := H
           have A63 := Aside0.mk A630
           clear A630
           by_cases c64 : (t1024 == t1025) = true
           ·rw [if_pos c64] at H
            have c64b0 : (t1024 == t1025) = true := c64
            (try (have c64b1 : decide (t1024 = t1025) = true := by simpa using c64))
            (try (have c64b2 : (t1024 == t1025) = true := by simpa using c64))
            clear c64
            replace H := Option.bind_eq_some_iff.mp H
            obtain ⟨t1026, A650, H⟩ := H
            replace H : ((impl_MsgOk.f t983 t984 t985 t986 t987).bind fun t1027 => (some (t1026 == t1027))) = some r := H
            have A65 := Aside0.mk A650
            clear A650
            replace H := Option.bind_eq_some_iff.mp H
            obtain ⟨t1027, A660, H⟩ := H
            replace H : (some (t1026 == t1027)) = some r := H
            have A66 := Aside0.mk A660
            clear A660
            obtain rfl := Option.some.inj H
            try go_wp2
            have n0_ := Aside0.mk (Kd.R_drew HO_11.out)
            have n1_ := Aside0.mk (Kd.R_drew HO_991004.out)
            have n2_ := Aside0.mk (blk_drew BK990.out)
            have n3_ := Aside0.mk (below_drew1 HB.out)
            clear HO_11
            clear HO_991004
            clear BK990
            clear HB
            have HO_11 := n0_
            have HO_991004 := n1_
            have BK990 := n2_
            have HB := n3_
            clear n0_ n1_ n2_ n3_
            obtain ⟨Ao68, co68, eo68⟩ := Kd.R_slice HO_11.out
            (first | subst eo68 | (injection eo68 with f1_ f2_ f3_; have f4_ := f1_.symm; have f5_ := f3_.symm; clear f1_ f2_ f3_; subst f4_; subst f5_))
            refine start_ (n := 16) (S := fun w' => w'.cell? ⟨gb990, 0, none⟩ = some (.int .i64 t983) ∧ w'.cell? ⟨gb990, 1, none⟩ = some (.int .i64 t984) ∧ w'.cell? ⟨gb990, 2, none⟩ = some (.int .i64 t985) ∧ w'.cell? ⟨gb990, 3, none⟩ = some (.int .i64 t986) ∧ w'.cell? ⟨gb990, 4, none⟩ = some (.slice Ao25 t987.length co25)) (ds := []) #[false, false, false, false, false, false, false, false, false, false, false, false, false, false, false, false] (by kernel_rfl) rfl rfl ⟨(blk_cell BK990.out 0).trans rfl, (blk_cell BK990.out 1).trans rfl, (blk_cell BK990.out 2).trans rfl, (blk_cell BK990.out 3).trans rfl, (blk_cell BK990.out 4).trans rfl⟩ (fun hHeld => ?_); refine with_tabW laws_FnBuildMore.tab15 laws_FnBuildMore.bits15 (fun HT_ HW_ => ?_)
            generalize wc.drew = w67 at HO_11 HO_991004 BK990 HB hHeld ⊢
            refine pure_ (i := 0) (N := some 67) (v := ?_) (a' := ?_) #[true, false, false, false, false, false, false, false, false, false, false, false, false, false, false, false] rfl rfl (any_of HT_.out (by kernel_rfl)) (fun _ _ _ h => h) (Or.inl ⟨by rfl, ?_⟩) ?_ ?_
            rotate_left
            ·intro w'
             go_simp
             with_reducible rfl
            rotate_left
            ·simp only [Act.put, List.setIfInBounds_toArray, List.set_cons_zero, List.set_cons_succ, i64_w, i32_w]
             rfl
            refine take_ (i := 1) (N := some 68) (v := ?_) (a' := ?_) #[true, true, false, false, false, false, false, false, false, false, false, false, false, false, false, false] rfl rfl (take_ofW HT_.out HW_.out (by kernel_rfl)) (fun _ _ _ h => h) (Or.inl ⟨by rfl, ?_⟩) hHeld ?_ ?_
            rotate_left
            ·rintro w' ⟨s0, s1, s2, s3, s4⟩
             go_simp
             with_reducible rfl
            rotate_left
            ·simp only [Act.put, List.setIfInBounds_toArray, List.set_cons_zero, List.set_cons_succ, i64_w, i32_w]
             rfl
            refine take_ (i := 3) (N := some 70) (v := ?_) (a' := ?_) #[true, true, false, true, false, false, false, false, false, false, false, false, false, false, false, false] rfl rfl (take_ofW HT_.out HW_.out (by kernel_rfl)) (fun _ _ _ h => h) (Or.inl ⟨by rfl, ?_⟩) hHeld ?_ ?_
            rotate_left
            ·rintro w' ⟨s0, s1, s2, s3, s4⟩
             go_simp
             with_reducible rfl
            rotate_left
            ·simp only [Act.put, List.setIfInBounds_toArray, List.set_cons_zero, List.set_cons_succ, i64_w, i32_w]
             rfl
            refine one_ (i := 2) (N := some 69) #[true, true, true, true, false, false, false, false, false, false, false, false, false, false, false, false] rfl rfl (one_of HT_.out (by kernel_rfl)) (by decide) (fun K hK => ?_)
            refine goes_ Try.func52 (by kernel_rfl) rfl #[.slice Ao68 x11_2.length co68, .slice none 0 0, .agg #[.int .i64 t983, .int .i64 t984, .int .i64 t985, .int .i64 t986, .slice Ao25 t987.length co25]] (by rfl) rfl rfl z63x18 ?_
            refine (impl_KnowBuild.calls _ _ x11_2 _ _ ([] : List (S24)) t983 t984 t985 t986 _ _ t987 t1024 _ ?side1 ?side2 ?side3 ?side4 ?side5 ?side6 A62.out).mono ?_
            (case side1 => repeat (first | exact (Kd.R_reads' HO_11.out).2.2 | (with_reducible refine Kd.C_alloc ?_ _) | (with_reducible refine Kd.C_drewN ?_ _) | (with_reducible refine Kd.C_drew ?_)))
            (case side2 => exact (Kd.R_reads' HO_11.out).2.1)
            (case side3 => exact Kd.C_nil _ _)
            (case side4 => exact Nat.le_refl _)
            (case side5 => repeat (first | exact (Kd.R_reads' HO_991004.out).2.2 | (with_reducible refine Kd.C_alloc ?_ _) | (with_reducible refine Kd.C_drewN ?_ _) | (with_reducible refine Kd.C_drew ?_)))
            (case side6 => exact (Kd.R_reads' HO_991004.out).2.1)
            rintro e w69 ⟨rfl, hb⟩
            refine ⟨_, rfl, ?_⟩
            have n0_ := Aside0.mk (Kd.R_below z63x32 hb)
            have n1_ := Aside0.mk (Kd.R_below z63x21 hb)
            have n2_ := Aside0.mk (blk_below (g := gb990) (o := .cells #[.int .i64 t983, .int .i64 t984, .int .i64 t985, .int .i64 t986, .slice Ao25 t987.length co25] 36 (0, 0)) z63x20 hb)
            have n3_ := Aside0.mk (below_step z63x7 hb)
            clear HO_11
            clear HO_991004
            clear BK990
            clear HB
            have HO_11 := n0_
            have HO_991004 := n1_
            have BK990 := n2_
            have HB := n3_
            clear n0_ n1_ n2_ n3_
            (try clear hb)
            (try clear hb2)
            (try clear hk)
            (try clear hi)
            refine hK.out _ _ ⟨(blk_cell BK990.out 0).trans rfl, (blk_cell BK990.out 1).trans rfl, (blk_cell BK990.out 2).trans rfl, (blk_cell BK990.out 3).trans rfl, (blk_cell BK990.out 4).trans rfl⟩ (fun hHeld => ?_)
            clear hK K
            refine norm_ (a' := ?_) ?_ ?_
            rotate_left
            ·show Act.put _ (some 69) _ = _
             simp only [Act.put, List.setIfInBounds_toArray, List.set_cons_zero, List.set_cons_succ, i64_w, i32_w]
             rfl
            refine one_ (i := 4) (N := some 71) #[true, true, true, true, true, false, false, false, false, false, false, false, false, false, false, false] rfl rfl (one_of HT_.out (by kernel_rfl)) (by decide) (fun K hK => ?_)
            refine goes_ Try.func29 (by kernel_rfl) rfl #[.agg #[.int .i64 t983, .int .i64 t984, .int .i64 t985, .int .i64 t986, .slice Ao25 t987.length co25]] (by rfl) rfl rfl z63x18 ?_
            with_reducible refine (impl_MsgOk.calls t983 t984 t985 t986 _ _ t987 t1025 _ ?side1 ?side2 A63.out).mono ?_
            (case side1 => repeat (first | exact (Kd.R_reads' HO_991004.out).2.2 | (with_reducible refine Kd.C_alloc ?_ _) | (with_reducible refine Kd.C_drewN ?_ _) | (with_reducible refine Kd.C_drew ?_)))
            (case side2 => exact (Kd.R_reads' HO_991004.out).2.1)
            rintro e w70 ⟨rfl, hb⟩
            refine ⟨_, rfl, ?_⟩
            have n0_ := Aside0.mk (Kd.R_below z63x32 hb)
            have n1_ := Aside0.mk (Kd.R_below z63x21 hb)
            have n2_ := Aside0.mk (blk_below (g := gb990) (o := .cells #[.int .i64 t983, .int .i64 t984, .int .i64 t985, .int .i64 t986, .slice Ao25 t987.length co25] 36 (0, 0)) z63x20 hb)
            have n3_ := Aside0.mk (below_step z63x7 hb)
            clear HO_11
            clear HO_991004
            clear BK990
            clear HB
            have HO_11 := n0_
            have HO_991004 := n1_
            have BK990 := n2_
            have HB := n3_
            clear n0_ n1_ n2_ n3_
            (try clear hb)
            (try clear hb2)
            (try clear hk)
            (try clear hi)
            refine hK.out _ _ ⟨(blk_cell BK990.out 0).trans rfl, (blk_cell BK990.out 1).trans rfl, (blk_cell BK990.out 2).trans rfl, (blk_cell BK990.out 3).trans rfl, (blk_cell BK990.out 4).trans rfl⟩ (fun hHeld => ?_)
            clear hK K
            refine norm_ (a' := ?_) ?_ ?_
            rotate_left
            ·show Act.put _ (some 71) _ = _
             simp only [Act.put, List.setIfInBounds_toArray, List.set_cons_zero, List.set_cons_succ, i64_w, i32_w]
             rfl
            refine pure_ (i := 5) (N := some 72) (v := ?_) (a' := ?_) #[true, true, true, true, true, true, false, false, false, false, false, false, false, false, false, false] rfl rfl (any_of HT_.out (by kernel_rfl)) (fun _ _ _ h => h) (Or.inl ⟨by rfl, ?_⟩) ?_ ?_
            rotate_left
            ·intro w'
             go_simp
             with_reducible rfl
            rotate_left
            ·simp only [Act.put, List.setIfInBounds_toArray, List.set_cons_zero, List.set_cons_succ, i64_w, i32_w]
             rfl
            refine pure_ (i := 6) (N := some 73) (v := ?_) (a' := ?_) #[true, true, true, true, true, true, true, false, false, false, false, false, false, false, false, false] rfl rfl (any_of HT_.out (by kernel_rfl)) (fun _ _ _ h => h) (Or.inl ⟨by rfl, ?_⟩) ?_ ?_
            rotate_left
            ·intro w'
             go_simp
             with_reducible rfl
            rotate_left
            ·simp only [Act.put, List.setIfInBounds_toArray, List.set_cons_zero, List.set_cons_succ, i64_w, i32_w]
             rfl
            refine pure_ (i := 7) (N := some 74) (v := ?_) (a' := ?_) #[true, true, true, true, true, true, true, true, false, false, false, false, false, false, false, false] rfl rfl (any_of HT_.out (by kernel_rfl)) (fun _ _ _ h => h) (Or.inl ⟨by rfl, ?_⟩) ?_ ?_
            rotate_left
            ·intro w'
             go_simp
             with_reducible rfl
            rotate_left
            ·simp only [Act.put, List.setIfInBounds_toArray, List.set_cons_zero, List.set_cons_succ, i64_w, i32_w]
             rfl
            refine take_ (i := 8) (N := some 75) (v := ?_) (a' := ?_) #[true, true, true, true, true, true, true, true, true, false, false, false, false, false, false, false] rfl rfl (take_ofW HT_.out HW_.out (by kernel_rfl)) (fun _ _ _ h => h) (Or.inl ⟨by rfl, ?_⟩) hHeld ?_ ?_
            rotate_left
            ·rintro w' ⟨s0, s1, s2, s3, s4⟩
             go_simp
             with_reducible rfl
            rotate_left
            ·simp only [Act.put, List.setIfInBounds_toArray, List.set_cons_zero, List.set_cons_succ, i64_w, i32_w]
             rfl
            refine take_ (i := 9) (N := some 76) (v := ?_) (a' := ?_) #[true, true, true, true, true, true, true, true, true, true, false, false, false, false, false, false] rfl rfl (take_ofW HT_.out HW_.out (by kernel_rfl)) (fun _ _ _ h => h) (Or.inl ⟨by rfl, ?_⟩) hHeld ?_ ?_
            rotate_left
            ·rintro w' ⟨s0, s1, s2, s3, s4⟩
             go_simp
             with_reducible rfl
            rotate_left
            ·simp only [Act.put, List.setIfInBounds_toArray, List.set_cons_zero, List.set_cons_succ, i64_w, i32_w]
             rfl
            refine take_ (i := 11) (N := some 78) (v := ?_) (a' := ?_) #[true, true, true, true, true, true, true, true, true, true, false, true, false, false, false, false] rfl rfl (take_ofW HT_.out HW_.out (by kernel_rfl)) (fun _ _ _ h => h) (Or.inl ⟨by rfl, ?_⟩) hHeld ?_ ?_
            rotate_left
            ·rintro w' ⟨s0, s1, s2, s3, s4⟩
             go_simp
             with_reducible rfl
            rotate_left
            ·simp only [Act.put, List.setIfInBounds_toArray, List.set_cons_zero, List.set_cons_succ, i64_w, i32_w]
             rfl
            refine one_ (i := 10) (N := some 77) #[true, true, true, true, true, true, true, true, true, true, true, true, false, false, false, false] rfl rfl (one_of HT_.out (by kernel_rfl)) (by decide) (fun K hK => ?_)
            refine goes_ Try.func52 (by kernel_rfl) rfl #[.slice none 0 0, .slice Ao25 t987.length co25, .agg #[.int .i64 t983, .int .i64 t984, .int .i64 t985, .int .i64 t986, .slice Ao25 t987.length co25]] (by rfl) rfl rfl z63x18 ?_
            refine (impl_KnowBuild.calls _ _ ([] : List Int) _ _ t987 t983 t984 t985 t986 _ _ t987 t1026 _ ?side1 ?side2 ?side3 ?side4 ?side5 ?side6 A65.out).mono ?_
            (case side1 => exact Kd.C_nil _ _)
            (case side2 => exact Nat.le_refl _)
            (case side3 => repeat (first | exact (Kd.R_reads' HO_991004.out).2.2 | (with_reducible refine Kd.C_alloc ?_ _) | (with_reducible refine Kd.C_drewN ?_ _) | (with_reducible refine Kd.C_drew ?_)))
            (case side4 => exact (Kd.R_reads' HO_991004.out).2.1)
            (case side5 => repeat (first | exact (Kd.R_reads' HO_991004.out).2.2 | (with_reducible refine Kd.C_alloc ?_ _) | (with_reducible refine Kd.C_drewN ?_ _) | (with_reducible refine Kd.C_drew ?_)))
            (case side6 => exact (Kd.R_reads' HO_991004.out).2.1)
            rintro e w71 ⟨rfl, hb⟩
            refine ⟨_, rfl, ?_⟩
            have n0_ := Aside0.mk (Kd.R_below z63x32 hb)
            have n1_ := Aside0.mk (Kd.R_below z63x21 hb)
            have n2_ := Aside0.mk (blk_below (g := gb990) (o := .cells #[.int .i64 t983, .int .i64 t984, .int .i64 t985, .int .i64 t986, .slice Ao25 t987.length co25] 36 (0, 0)) z63x20 hb)
            have n3_ := Aside0.mk (below_step z63x7 hb)
            clear HO_11
            clear HO_991004
            clear BK990
            clear HB
            have HO_11 := n0_
            have HO_991004 := n1_
            have BK990 := n2_
            have HB := n3_
            clear n0_ n1_ n2_ n3_
            (try clear hb)
            (try clear hb2)
            (try clear hk)
            (try clear hi)
            refine hK.out _ _ ⟨(blk_cell BK990.out 0).trans rfl, (blk_cell BK990.out 1).trans rfl, (blk_cell BK990.out 2).trans rfl, (blk_cell BK990.out 3).trans rfl, (blk_cell BK990.out 4).trans rfl⟩ (fun hHeld => ?_)
            clear hK K
            refine norm_ (a' := ?_) ?_ ?_
            rotate_left
            ·show Act.put _ (some 77) _ = _
             simp only [Act.put, List.setIfInBounds_toArray, List.set_cons_zero, List.set_cons_succ, i64_w, i32_w]
             rfl
            refine one_ (i := 12) (N := some 79) #[true, true, true, true, true, true, true, true, true, true, true, true, true, false, false, false] rfl rfl (one_of HT_.out (by kernel_rfl)) (by decide) (fun K hK => ?_)
            refine goes_ Try.func29 (by kernel_rfl) rfl #[.agg #[.int .i64 t983, .int .i64 t984, .int .i64 t985, .int .i64 t986, .slice Ao25 t987.length co25]] (by rfl) rfl rfl z63x18 ?_
            with_reducible refine (impl_MsgOk.calls t983 t984 t985 t986 _ _ t987 t1027 _ ?side1 ?side2 A66.out).mono ?_
            (case side1 => repeat (first | exact (Kd.R_reads' HO_991004.out).2.2 | (with_reducible refine Kd.C_alloc ?_ _) | (with_reducible refine Kd.C_drewN ?_ _) | (with_reducible refine Kd.C_drew ?_)))
            (case side2 => exact (Kd.R_reads' HO_991004.out).2.1)
            rintro e w72 ⟨rfl, hb⟩
            refine ⟨_, rfl, ?_⟩
            have n0_ := Aside0.mk (Kd.R_below z63x32 hb)
            have n1_ := Aside0.mk (Kd.R_below z63x21 hb)
            have n2_ := Aside0.mk (blk_below (g := gb990) (o := .cells #[.int .i64 t983, .int .i64 t984, .int .i64 t985, .int .i64 t986, .slice Ao25 t987.length co25] 36 (0, 0)) z63x20 hb)
            have n3_ := Aside0.mk (below_step z63x7 hb)
            clear HO_11
            clear HO_991004
            clear BK990
            clear HB
            have HO_11 := n0_
            have HO_991004 := n1_
            have BK990 := n2_
            have HB := n3_
            clear n0_ n1_ n2_ n3_
            (try clear hb)
            (try clear hb2)
            (try clear hk)
            (try clear hi)
            refine hK.out _ _ ⟨(blk_cell BK990.out 0).trans rfl, (blk_cell BK990.out 1).trans rfl, (blk_cell BK990.out 2).trans rfl, (blk_cell BK990.out 3).trans rfl, (blk_cell BK990.out 4).trans rfl⟩ (fun hHeld => ?_)
            clear hK K
            refine norm_ (a' := ?_) ?_ ?_
            rotate_left
            ·show Act.put _ (some 79) _ = _
             simp only [Act.put, List.setIfInBounds_toArray, List.set_cons_zero, List.set_cons_succ, i64_w, i32_w]
             rfl
            refine pure_ (i := 13) (N := some 80) (v := ?_) (a' := ?_) #[true, true, true, true, true, true, true, true, true, true, true, true, true, true, false, false] rfl rfl (any_of HT_.out (by kernel_rfl)) (fun _ _ _ h => h) (Or.inl ⟨by rfl, ?_⟩) ?_ ?_
            rotate_left
            ·intro w'
             go_simp
             with_reducible rfl
            rotate_left
            ·simp only [Act.put, List.setIfInBounds_toArray, List.set_cons_zero, List.set_cons_succ, i64_w, i32_w]
             rfl
            refine pure_ (i := 14) (N := some 81) (v := ?_) (a' := ?_) #[true, true, true, true, true, true, true, true, true, true, true, true, true, true, true, false] rfl rfl (any_of HT_.out (by kernel_rfl)) (fun _ _ _ h => h) (Or.inl ⟨by rfl, ?_⟩) ?_ ?_
            rotate_left
            ·intro w'
             go_simp
             with_reducible rfl
            rotate_left
            ·simp only [Act.put, List.setIfInBounds_toArray, List.set_cons_zero, List.set_cons_succ, i64_w, i32_w]
             rfl
            refine pure_ (i := 15) (N := some 4) (v := ?_) (a' := ?_) #[true, true, true, true, true, true, true, true, true, true, true, true, true, true, true, true] rfl rfl (any_of HT_.out (by kernel_rfl)) (fun _ _ _ h => h) (Or.inl ⟨by rfl, ?_⟩) ?_ ?_
            rotate_left
            ·intro w'
             go_simp
             with_reducible rfl
            rotate_left
            ·simp only [Act.put, List.setIfInBounds_toArray, List.set_cons_zero, List.set_cons_succ, i64_w, i32_w]
             rfl
            refine done_ (done_of HT_.out (by kernel_rfl)) ?_
            try go_wp2
            go_ret
            exact ⟨by first | rfl | (simp [errW_none, errW_some] <;> rfl) | (simp [*, errW_none, errW_some] <;> rfl), by repeat (first | (with_reducible first | exact HB.out | apply below_alloc | apply pw_below_drewN | apply below_drew1 | refine below_set ?_ GE990.out) | exact HB.out)⟩
           ·rw [if_neg c64] at H
            have c64b0 : (t1024 == t1025) = false := by simpa using c64
            (try (have c64b1 : decide (t1024 = t1025) = false := by simpa using c64))
            (try (have c64b2 : (t1024 == t1025) = false := by simpa using c64))
            (try (have c64b3 : ¬ (t1024 = t1025) := by simpa using c64))
            clear c64
            obtain rfl := Option.some.inj H
            try go_wp2
            have n0_ := Aside0.mk (Kd.R_drew HO_11.out)
            have n1_ := Aside0.mk (Kd.R_drew HO_991004.out)
            have n2_ := Aside0.mk (blk_drew BK990.out)
            have n3_ := Aside0.mk (below_drew1 HB.out)
            clear HO_11
            clear HO_991004
            clear BK990
            clear HB
            have HO_11 := n0_
            have HO_991004 := n1_
            have BK990 := n2_
            have HB := n3_
            clear n0_ n1_ n2_ n3_
            obtain ⟨Ao74, co74, eo74⟩ := Kd.R_slice HO_11.out
            (first | subst eo74 | (injection eo74 with f1_ f2_ f3_; have f4_ := f1_.symm; have f5_ := f3_.symm; clear f1_ f2_ f3_; subst f4_; subst f5_))
            refine start_ (n := 16) (S := fun w' => w'.cell? ⟨gb990, 0, none⟩ = some (.int .i64 t983) ∧ w'.cell? ⟨gb990, 1, none⟩ = some (.int .i64 t984) ∧ w'.cell? ⟨gb990, 2, none⟩ = some (.int .i64 t985) ∧ w'.cell? ⟨gb990, 3, none⟩ = some (.int .i64 t986) ∧ w'.cell? ⟨gb990, 4, none⟩ = some (.slice Ao25 t987.length co25)) (ds := []) #[false, false, false, false, false, false, false, false, false, false, false, false, false, false, false, false] (by kernel_rfl) rfl rfl ⟨(blk_cell BK990.out 0).trans rfl, (blk_cell BK990.out 1).trans rfl, (blk_cell BK990.out 2).trans rfl, (blk_cell BK990.out 3).trans rfl, (blk_cell BK990.out 4).trans rfl⟩ (fun hHeld => ?_); refine with_tabW laws_FnBuildMore.tab15 laws_FnBuildMore.bits15 (fun HT_ HW_ => ?_)
            generalize wc.drew = w73 at HO_11 HO_991004 BK990 HB hHeld ⊢
            refine pure_ (i := 0) (N := some 67) (v := ?_) (a' := ?_) #[true, false, false, false, false, false, false, false, false, false, false, false, false, false, false, false] rfl rfl (any_of HT_.out (by kernel_rfl)) (fun _ _ _ h => h) (Or.inl ⟨by rfl, ?_⟩) ?_ ?_
            rotate_left
            ·intro w'
             go_simp
             with_reducible rfl
            rotate_left
            ·simp only [Act.put, List.setIfInBounds_toArray, List.set_cons_zero, List.set_cons_succ, i64_w, i32_w]
             rfl
            refine take_ (i := 1) (N := some 68) (v := ?_) (a' := ?_) #[true, true, false, false, false, false, false, false, false, false, false, false, false, false, false, false] rfl rfl (take_ofW HT_.out HW_.out (by kernel_rfl)) (fun _ _ _ h => h) (Or.inl ⟨by rfl, ?_⟩) hHeld ?_ ?_
            rotate_left
            ·rintro w' ⟨s0, s1, s2, s3, s4⟩
             go_simp
             with_reducible rfl
            rotate_left
            ·simp only [Act.put, List.setIfInBounds_toArray, List.set_cons_zero, List.set_cons_succ, i64_w, i32_w]
             rfl
            refine take_ (i := 3) (N := some 70) (v := ?_) (a' := ?_) #[true, true, false, true, false, false, false, false, false, false, false, false, false, false, false, false] rfl rfl (take_ofW HT_.out HW_.out (by kernel_rfl)) (fun _ _ _ h => h) (Or.inl ⟨by rfl, ?_⟩) hHeld ?_ ?_
            rotate_left
            ·rintro w' ⟨s0, s1, s2, s3, s4⟩
             go_simp
             with_reducible rfl
            rotate_left
            ·simp only [Act.put, List.setIfInBounds_toArray, List.set_cons_zero, List.set_cons_succ, i64_w, i32_w]
             rfl
            refine one_ (i := 2) (N := some 69) #[true, true, true, true, false, false, false, false, false, false, false, false, false, false, false, false] rfl rfl (one_of HT_.out (by kernel_rfl)) (by decide) (fun K hK => ?_)
            refine goes_ Try.func52 (by kernel_rfl) rfl #[.slice Ao74 x11_2.length co74, .slice none 0 0, .agg #[.int .i64 t983, .int .i64 t984, .int .i64 t985, .int .i64 t986, .slice Ao25 t987.length co25]] (by rfl) rfl rfl z63x18 ?_
            refine (impl_KnowBuild.calls _ _ x11_2 _ _ ([] : List (S24)) t983 t984 t985 t986 _ _ t987 t1024 _ ?side1 ?side2 ?side3 ?side4 ?side5 ?side6 A62.out).mono ?_
            (case side1 => repeat (first | exact (Kd.R_reads' HO_11.out).2.2 | (with_reducible refine Kd.C_alloc ?_ _) | (with_reducible refine Kd.C_drewN ?_ _) | (with_reducible refine Kd.C_drew ?_)))
            (case side2 => exact (Kd.R_reads' HO_11.out).2.1)
            (case side3 => exact Kd.C_nil _ _)
            (case side4 => exact Nat.le_refl _)
            (case side5 => repeat (first | exact (Kd.R_reads' HO_991004.out).2.2 | (with_reducible refine Kd.C_alloc ?_ _) | (with_reducible refine Kd.C_drewN ?_ _) | (with_reducible refine Kd.C_drew ?_)))
            (case side6 => exact (Kd.R_reads' HO_991004.out).2.1)
            rintro e w75 ⟨rfl, hb⟩
            refine ⟨_, rfl, ?_⟩
            have n0_ := Aside0.mk (Kd.R_below z63x32 hb)
            have n1_ := Aside0.mk (Kd.R_below z63x21 hb)
            have n2_ := Aside0.mk (blk_below (g := gb990) (o := .cells #[.int .i64 t983, .int .i64 t984, .int .i64 t985, .int .i64 t986, .slice Ao25 t987.length co25] 36 (0, 0)) z63x20 hb)
            have n3_ := Aside0.mk (below_step z63x7 hb)
            clear HO_11
            clear HO_991004
            clear BK990
            clear HB
            have HO_11 := n0_
            have HO_991004 := n1_
            have BK990 := n2_
            have HB := n3_
            clear n0_ n1_ n2_ n3_
            (try clear hb)
            (try clear hb2)
            (try clear hk)
            (try clear hi)
            refine hK.out _ _ ⟨(blk_cell BK990.out 0).trans rfl, (blk_cell BK990.out 1).trans rfl, (blk_cell BK990.out 2).trans rfl, (blk_cell BK990.out 3).trans rfl, (blk_cell BK990.out 4).trans rfl⟩ (fun hHeld => ?_)
            clear hK K
            refine norm_ (a' := ?_) ?_ ?_
            rotate_left
            ·show Act.put _ (some 69) _ = _
             simp only [Act.put, List.setIfInBounds_toArray, List.set_cons_zero, List.set_cons_succ, i64_w, i32_w]
             rfl
            refine one_ (i := 4) (N := some 71) #[true, true, true, true, true, false, false, false, false, false, false, false, false, false, false, false] rfl rfl (one_of HT_.out (by kernel_rfl)) (by decide) (fun K hK => ?_)
            refine goes_ Try.func29 (by kernel_rfl) rfl #[.agg #[.int .i64 t983, .int .i64 t984, .int .i64 t985, .int .i64 t986, .slice Ao25 t987.length co25]] (by rfl) rfl rfl z63x18 ?_
            with_reducible refine (impl_MsgOk.calls t983 t984 t985 t986 _ _ t987 t1025 _ ?side1 ?side2 A63.out).mono ?_
            (case side1 => repeat (first | exact (Kd.R_reads' HO_991004.out).2.2 | (with_reducible refine Kd.C_alloc ?_ _) | (with_reducible refine Kd.C_drewN ?_ _) | (with_reducible refine Kd.C_drew ?_)))
            (case side2 => exact (Kd.R_reads' HO_991004.out).2.1)
            rintro e w76 ⟨rfl, hb⟩
            refine ⟨_, rfl, ?_⟩
            have n0_ := Aside0.mk (Kd.R_below z63x32 hb)
            have n1_ := Aside0.mk (Kd.R_below z63x21 hb)
            have n2_ := Aside0.mk (blk_below (g := gb990) (o := .cells #[.int .i64 t983, .int .i64 t984, .int .i64 t985, .int .i64 t986, .slice Ao25 t987.length co25] 36 (0, 0)) z63x20 hb)
            have n3_ := Aside0.mk (below_step z63x7 hb)
            clear HO_11
            clear HO_991004
            clear BK990
            clear HB
            have HO_11 := n0_
            have HO_991004 := n1_
            have BK990 := n2_
            have HB := n3_
            clear n0_ n1_ n2_ n3_
            (try clear hb)
            (try clear hb2)
            (try clear hk)
            (try clear hi)
            refine hK.out _ _ ⟨(blk_cell BK990.out 0).trans rfl, (blk_cell BK990.out 1).trans rfl, (blk_cell BK990.out 2).trans rfl, (blk_cell BK990.out 3).trans rfl, (blk_cell BK990.out 4).trans rfl⟩ (fun hHeld => ?_)
            clear hK K
            refine norm_ (a' := ?_) ?_ ?_
            rotate_left
            ·show Act.put _ (some 71) _ = _
             simp only [Act.put, List.setIfInBounds_toArray, List.set_cons_zero, List.set_cons_succ, i64_w, i32_w]
             rfl
            refine pure_ (i := 5) (N := some 72) (v := ?_) (a' := ?_) #[true, true, true, true, true, true, false, false, false, false, false, false, false, false, false, false] rfl rfl (any_of HT_.out (by kernel_rfl)) (fun _ _ _ h => h) (Or.inl ⟨by rfl, ?_⟩) ?_ ?_
            rotate_left
            ·intro w'
             go_simp
             with_reducible rfl
            rotate_left
            ·simp only [Act.put, List.setIfInBounds_toArray, List.set_cons_zero, List.set_cons_succ, i64_w, i32_w]
             rfl
            refine pure_ (i := 6) (N := some 73) (v := ?_) (a' := ?_) #[true, true, true, true, true, true, true, false, false, false, false, false, false, false, false, false] rfl rfl (any_of HT_.out (by kernel_rfl)) (fun _ _ _ h => h) (Or.inl ⟨by rfl, ?_⟩) ?_ ?_
            rotate_left
            ·intro w'
             go_simp
             with_reducible rfl
            rotate_left
            ·simp only [Act.put, List.setIfInBounds_toArray, List.set_cons_zero, List.set_cons_succ, i64_w, i32_w]
             rfl
            refine pure_ (i := 7) (N := some 74) (v := undef) (a' := ?_) #[true, true, true, true, true, true, true, true, false, false, false, false, false, false, false, false] rfl rfl (any_of HT_.out (by kernel_rfl)) (fun _ _ _ h => h) (Or.inr ⟨by rfl, rfl⟩) ?_ ?_
            rotate_left
            ·simp only [Act.put, List.setIfInBounds_toArray, List.set_cons_zero, List.set_cons_succ, i64_w, i32_w]
             rfl
            refine pure_ (i := 8) (N := some 75) (v := undef) (a' := ?_) #[true, true, true, true, true, true, true, true, true, false, false, false, false, false, false, false] rfl rfl (any_of HT_.out (by kernel_rfl)) (fun _ _ _ h => h) (Or.inr ⟨by rfl, rfl⟩) ?_ ?_
            rotate_left
            ·simp only [Act.put, List.setIfInBounds_toArray, List.set_cons_zero, List.set_cons_succ, i64_w, i32_w]
             rfl
            refine pure_ (i := 9) (N := some 76) (v := undef) (a' := ?_) #[true, true, true, true, true, true, true, true, true, true, false, false, false, false, false, false] rfl rfl (any_of HT_.out (by kernel_rfl)) (fun _ _ _ h => h) (Or.inr ⟨by rfl, rfl⟩) ?_ ?_
            rotate_left
            ·simp only [Act.put, List.setIfInBounds_toArray, List.set_cons_zero, List.set_cons_succ, i64_w, i32_w]
             rfl
            refine pure_ (i := 10) (N := some 77) (v := undef) (a' := ?_) #[true, true, true, true, true, true, true, true, true, true, true, false, false, false, false, false] rfl rfl (any_of HT_.out (by kernel_rfl)) (fun _ _ _ h => h) (Or.inr ⟨by rfl, rfl⟩) ?_ ?_
            rotate_left
            ·simp only [Act.put, List.setIfInBounds_toArray, List.set_cons_zero, List.set_cons_succ, i64_w, i32_w]
             rfl
            refine pure_ (i := 11) (N := some 78) (v := undef) (a' := ?_) #[true, true, true, true, true, true, true, true, true, true, true, true, false, false, false, false] rfl rfl (any_of HT_.out (by kernel_rfl)) (fun _ _ _ h => h) (Or.inr ⟨by rfl, rfl⟩) ?_ ?_
            rotate_left
            ·simp only [Act.put, List.setIfInBounds_toArray, List.set_cons_zero, List.set_cons_succ, i64_w, i32_w]
             rfl
            refine pure_ (i := 12) (N := some 79) (v := undef) (a' := ?_) #[true, true, true, true, true, true, true, true, true, true, true, true, true, false, false, false] rfl rfl (any_of HT_.out (by kernel_rfl)) (fun _ _ _ h => h) (Or.inr ⟨by rfl, rfl⟩) ?_ ?_
            rotate_left
            ·simp only [Act.put, List.setIfInBounds_toArray, List.set_cons_zero, List.set_cons_succ, i64_w, i32_w]
             rfl
            refine pure_ (i := 13) (N := some 80) (v := undef) (a' := ?_) #[true, true, true, true, true, true, true, true, true, true, true, true, true, true, false, false] rfl rfl (any_of HT_.out (by kernel_rfl)) (fun _ _ _ h => h) (Or.inr ⟨by rfl, rfl⟩) ?_ ?_
            rotate_left
            ·simp only [Act.put, List.setIfInBounds_toArray, List.set_cons_zero, List.set_cons_succ, i64_w, i32_w]
             rfl
            refine pure_ (i := 14) (N := some 81) (v := ?_) (a' := ?_) #[true, true, true, true, true, true, true, true, true, true, true, true, true, true, true, false] rfl rfl (any_of HT_.out (by kernel_rfl)) (fun _ _ _ h => h) (Or.inl ⟨by rfl, ?_⟩) ?_ ?_
            rotate_left
            ·intro w'
             go_simp
             with_reducible rfl
            rotate_left
            ·simp only [Act.put, List.setIfInBounds_toArray, List.set_cons_zero, List.set_cons_succ, i64_w, i32_w]
             rfl
            refine pure_ (i := 15) (N := some 4) (v := ?_) (a' := ?_) #[true, true, true, true, true, true, true, true, true, true, true, true, true, true, true, true] rfl rfl (any_of HT_.out (by kernel_rfl)) (fun _ _ _ h => h) (Or.inl ⟨by rfl, ?_⟩) ?_ ?_
            rotate_left
            ·intro w'
             go_simp
             with_reducible rfl
            rotate_left
            ·simp only [Act.put, List.setIfInBounds_toArray, List.set_cons_zero, List.set_cons_succ, i64_w, i32_w]
             rfl
            refine done_ (done_of HT_.out (by kernel_rfl)) ?_
            try go_wp2
            go_ret
            exact ⟨by first | rfl | (simp [errW_none, errW_some] <;> rfl) | (simp [*, errW_none, errW_some] <;> rfl), by repeat (first | (with_reducible first | exact HB.out | apply below_alloc | apply pw_below_drewN | apply below_drew1 | refine below_set ?_ GE990.out) | exact HB.out)⟩

/-- THE ONE PURE STATEMENT of laws_FnBuildMore: yours. -/
def laws_FnBuildMore.Pure : Prop := ∀ (l0 : List Int) (l1 : List Int), l0.length ≤ maxLen → l0.length * 1 ≤ 140737488351232 → (∀ x ∈ l0, (Lit.int .u8 x).wf = true) → l1.length ≤ maxLen → l1.length * 1 ≤ 140737488351232 → (∀ x ∈ l1, (Lit.int .u8 x).wf = true) → ∃ k, laws_FnBuildMore.f k l0 l1 = some true
theorem laws_FnBuildMore.walk (P : laws_FnBuildMore.Pure) (a0 : Option Addr) (len0 cap0 : Nat) (z0 : List Int) (a1 : Option Addr) (len1 cap1 : Nat) (z1 : List Int) (w : World) (w0 : (a0 = none ∧ len0 = 0 ∧ cap0 = 0 ∧ z0 = []) ∨ ∃ x, a0 = some x ∧ len0 ≤ cap0 ∧ cap0 ≤ maxLen ∧ z0.length = cap0 ∧ (∀ i, i < z0.length → w.cell? (x.add i) = some (.int .u8 (z0.getD i 0))) ∧ ∀ n ∈ z0, (Lit.int .u8 n).wf = true) (y0 : len0 * 1 ≤ 140737488351232) (w1 : (a1 = none ∧ len1 = 0 ∧ cap1 = 0 ∧ z1 = []) ∨ ∃ x, a1 = some x ∧ len1 ≤ cap1 ∧ cap1 ≤ maxLen ∧ z1.length = cap1 ∧ (∀ i, i < z1.length → w.cell? (x.add i) = some (.int .u8 (z1.getD i 0))) ∧ ∀ n ∈ z1, (Lit.int .u8 n).wf = true) (y1 : len1 * 1 ≤ 140737488351232) :
  Calls Try.prog 18 #[.slice a0 len0 cap0, .slice a1 len1 cap1] w fun e w' => e = .returned (.bool true) ∧ Below w.heap.size w w' := by
 obtain ⟨l0, rfl, hr0, hm0, hw0, hc0⟩ := ReadsInt.ofRowC w0
 obtain ⟨l1, rfl, hr1, hm1, hw1, hc1⟩ := ReadsInt.ofRowC w1
 obtain ⟨k, h⟩ := P l0 l1 hm0 y0 hw0 hm1 y1 hw1
 refine (laws_FnBuildMore.calls k _ _ l0 _ _ l1 true w (Kd.C_of_reads (d := (0 : Int)) (h1 := fun _ => rfl) hr0) hc0 (Kd.C_of_reads (d := (0 : Int)) (h1 := fun _ => rfl) hr1) hc1 h).mono ?_
 rintro e w' ⟨rfl, hd⟩
 exact ⟨rfl, hd⟩

end Go.Proofs.Ytbiknbjcidlabaa.Hp
