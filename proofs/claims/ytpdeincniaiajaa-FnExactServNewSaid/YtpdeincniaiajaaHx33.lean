-- hp.py
import Derived.Test.YtpdeincniaiajaaHx0
import Derived.Test.YtpdeincniaiajaaHx23
import Derived.Test.YtpdeincniaiajaaHx26
import Derived.Test.YtpdeincniaiajaaHx29
import Derived.Test.YtpdeincniaiajaaHx32
namespace Go.Proofs.Ytpdeincniaiajaa.Hp
open Go.RowKit Go.Proofs.YtpdeincniaiajaaW.PrintWords Go.Proofs.YtpdeincniaiajaaW.PrintLast Go.Proofs.YtpdeincniaiajaaW.PrintMore
attribute [local go_sem] max2_int min2_int max_two min_two max_three min_three max_four min_four   -- for this text's walks alone
set_option linter.unusedVariables false
set_option linter.unusedSimpArgs false
-- squeezed by wip/tools/squeeze.py
theorem z33x35 {P : Prop} (h : P := by (with_reducible repeat (first | apply Kd.R_alloc | apply Kd.R_drewN | apply Kd.R_drew)); exact HO_276003.out) : P := h
theorem z33x34 {P : Prop} (h : P := by (with_reducible repeat (first | apply Kd.R_alloc | apply Kd.R_drewN | apply Kd.R_drew)); exact HO_276002.out) : P := h
theorem z33x33 {P : Prop} (h : P := by (with_reducible repeat (first | apply Kd.R_alloc | apply Kd.R_drewN | apply Kd.R_drew)); exact HO_261003.out) : P := h
theorem z33x32 {P : Prop} (h : P := by (with_reducible repeat (first | apply Kd.R_alloc | apply Kd.R_drewN | apply Kd.R_drew)); exact HO_261002.out) : P := h
theorem z33x31 {P : Prop} (h : P := by (with_reducible repeat (first | apply Kd.R_alloc | apply Kd.R_drewN | apply Kd.R_drew)); exact HO_251003.out) : P := h
theorem z33x30 {P : Prop} (h : P := by (with_reducible repeat (first | apply Kd.R_alloc | apply Kd.R_drewN | apply Kd.R_drew)); exact HO_251002.out) : P := h
theorem z33x29 {P : Prop} (h : P := by (with_reducible repeat (first | refine blk_drewN ?_ _ | refine blk_drew ?_ | refine blk_alloc ?_ _)); exact BK275.out) : P := h
theorem z33x28 {P : Prop} (h : P := by (with_reducible repeat (first | refine blk_drewN ?_ _ | refine blk_drew ?_ | refine blk_alloc ?_ _)); exact BK260.out) : P := h
theorem z33x27 {P : Prop} (h : P := by (with_reducible repeat (first | refine blk_drewN ?_ _ | refine blk_drew ?_ | refine blk_alloc ?_ _)); exact BK250.out) : P := h
theorem z33x26 {P : Prop} (h : P := by repeat (first | (with_reducible first | exact HB.out | apply below_alloc | apply pw_below_drewN | apply below_drew1) | exact HB.out)) : P := h
theorem z33x25 {P : Prop} (h : P := by (try simp only [List.map_toArray, List.map_cons, List.map_nil]); first | done | rfl | (simp only [List.length_drop, List.length_take]; rfl)) : P := h
theorem z33x24 {P : Prop} (h : P := by repeat (first | (with_reducible first | exact HB.out | apply below_alloc | apply pw_below_drewN | apply below_drew1 | refine below_set ?_ GE250.out) | exact HB.out)) : P := h
theorem z33x23 {P : Prop} (h : P := by rw [hg]; exact (below_size (by repeat (first | (with_reducible first | exact HB.out | apply below_alloc | apply pw_below_drewN | apply below_drew1 | refine below_set ?_ GE250.out) | exact HB.out)))) : P := h
theorem z33x22 {P : Prop} (h : P := by repeat (first | (with_reducible first | exact HB.out | apply below_alloc | apply pw_below_drewN | apply below_drew1 | refine below_set ?_ GE250.out | refine below_set ?_ GE260.out) | exact HB.out)) : P := h
theorem z33x21 {P : Prop} (h : P := by rw [hg]; exact (below_size (by repeat (first | (with_reducible first | exact HB.out | apply below_alloc | apply pw_below_drewN | apply below_drew1 | refine below_set ?_ GE250.out | refine below_set ?_ GE260.out) | exact HB.out)))) : P := h
theorem z33x20 {P : Prop} (h : P := by repeat (first | (with_reducible first | exact HB.out | apply below_alloc | apply pw_below_drewN | apply below_drew1 | refine below_set ?_ GE250.out | refine below_set ?_ GE260.out | refine below_set ?_ GE275.out) | exact HB.out)) : P := h
theorem z33x19 {P : Prop} (h : P := by rw [hg]; exact Nat.ne_of_lt (blk_lt (g := gb250) (o := .cells #[.int .i64 t241, .int .i64 t242, .slice Ao8 t243.length co8, .slice Ao9 t246.length co9] 35 (0, 0)) (by (with_reducible repeat (first | refine blk_drewN ?_ _ | refine blk_drew ?_ | refine blk_alloc ?_ _)); exact BK250.out))) : P := h
theorem z33x18 {P : Prop} (h : P := by rw [hg]; exact Nat.ne_of_gt (blk_lt (g := gb250) (o := .cells #[.int .i64 t241, .int .i64 t242, .slice Ao8 t243.length co8, .slice Ao9 t246.length co9] 35 (0, 0)) (by (with_reducible repeat (first | refine blk_drewN ?_ _ | refine blk_drew ?_ | refine blk_alloc ?_ _)); exact BK250.out))) : P := h
theorem z33x17 {P : Prop} (h : P := by (try simp only [List.map_toArray, List.map_cons, List.map_nil]); first | done | (rw [show t263.length = t253.length from (Kd.R_reads' HO_261002.out).1.symm, show t264.length = t256.length from (Kd.R_reads' HO_261003.out).1.symm] <;> rfl) | rfl | (simp only [List.length_drop, List.length_take]; rfl)) : P := h
theorem z33x16 {P : Prop} (h : P := by (with_reducible repeat (first | apply Kd.R_alloc | apply Kd.R_drewN | apply Kd.R_drew)); exact (Kd.R_mono (Kd.R_far (p := ⟨gb250, 3, none⟩) (Kd.R_far (p := ⟨gb250, 2, none⟩) (Kd.R_far (p := ⟨gb250, 1, none⟩) (Kd.R_far (p := ⟨gb250, 0, none⟩) (Kd.R_types HO248.out BK250.out (by decide)) (fun _ hk => hk.2) (.int .i64 t241)) (fun _ hk => hk.2) (.int .i64 t242)) (fun _ hk => hk.2) (.slice Ao8 t243.length co8)) (fun _ hk => hk.2) (.slice Ao9 t246.length co9)) (fun _ h_ => h_.1))) : P := h
theorem z33x15 {P : Prop} (h : P := by (with_reducible repeat (first | apply Kd.R_alloc | apply Kd.R_drewN | apply Kd.R_drew)); exact (Kd.R_mono (Kd.R_far (p := ⟨gb250, 3, none⟩) (Kd.R_far (p := ⟨gb250, 2, none⟩) (Kd.R_far (p := ⟨gb250, 1, none⟩) (Kd.R_far (p := ⟨gb250, 0, none⟩) (Kd.R_types HO245.out BK250.out (by decide)) (fun _ hk => hk.2) (.int .i64 t241)) (fun _ hk => hk.2) (.int .i64 t242)) (fun _ hk => hk.2) (.slice Ao8 t243.length co8)) (fun _ hk => hk.2) (.slice Ao9 t246.length co9)) (fun _ h_ => h_.1))) : P := h
theorem z33x14 {P : Prop} (h : P := by (with_reducible repeat (first | apply Kd.R_alloc | apply Kd.R_drewN | apply Kd.R_drew)); exact (Kd.R_mono (Kd.R_far (p := ⟨gb275, 3, none⟩) (Kd.R_far (p := ⟨gb275, 2, none⟩) (Kd.R_far (p := ⟨gb275, 1, none⟩) (Kd.R_far (p := ⟨gb275, 0, none⟩) (Kd.R_types HO273.out BK275.out (by decide)) (fun _ hk => hk.2) (.int .i64 t266)) (fun _ hk => hk.2) (.int .i64 t267)) (fun _ hk => hk.2) (.slice Ao48 t268.length co48)) (fun _ hk => hk.2) (.slice Ao49 t271.length co49)) (fun _ h_ => h_.1))) : P := h
theorem z33x13 {P : Prop} (h : P := by (with_reducible repeat (first | apply Kd.R_alloc | apply Kd.R_drewN | apply Kd.R_drew)); exact (Kd.R_mono (Kd.R_far (p := ⟨gb275, 3, none⟩) (Kd.R_far (p := ⟨gb275, 2, none⟩) (Kd.R_far (p := ⟨gb275, 1, none⟩) (Kd.R_far (p := ⟨gb275, 0, none⟩) (Kd.R_types HO270.out BK275.out (by decide)) (fun _ hk => hk.2) (.int .i64 t266)) (fun _ hk => hk.2) (.int .i64 t267)) (fun _ hk => hk.2) (.slice Ao48 t268.length co48)) (fun _ hk => hk.2) (.slice Ao49 t271.length co49)) (fun _ h_ => h_.1))) : P := h
theorem z33x12 {P : Prop} (h : P := by (with_reducible repeat (first | apply Kd.R_alloc | apply Kd.R_drewN | apply Kd.R_drew)); exact (Kd.R_mono (Kd.R_far (p := ⟨gb260, 3, none⟩) (Kd.R_far (p := ⟨gb260, 2, none⟩) (Kd.R_far (p := ⟨gb260, 1, none⟩) (Kd.R_far (p := ⟨gb260, 0, none⟩) (Kd.R_types HO258.out BK260.out (by decide)) (fun _ hk => hk.2) (.int .i64 t251)) (fun _ hk => hk.2) (.int .i64 t252)) (fun _ hk => hk.2) (.slice Ao14 t253.length co14)) (fun _ hk => hk.2) (.slice Ao15 t256.length co15)) (fun _ h_ => h_.1))) : P := h
theorem z33x11 {P : Prop} (h : P := by (with_reducible repeat (first | apply Kd.R_alloc | apply Kd.R_drewN | apply Kd.R_drew)); exact (Kd.R_mono (Kd.R_far (p := ⟨gb260, 3, none⟩) (Kd.R_far (p := ⟨gb260, 2, none⟩) (Kd.R_far (p := ⟨gb260, 1, none⟩) (Kd.R_far (p := ⟨gb260, 0, none⟩) (Kd.R_types HO255.out BK260.out (by decide)) (fun _ hk => hk.2) (.int .i64 t251)) (fun _ hk => hk.2) (.int .i64 t252)) (fun _ hk => hk.2) (.slice Ao14 t253.length co14)) (fun _ hk => hk.2) (.slice Ao15 t256.length co15)) (fun _ h_ => h_.1))) : P := h
theorem z33x10 {P : Prop} (h : P := by (with_reducible repeat (first | apply Kd.R_alloc | apply Kd.R_drewN | apply Kd.R_drew)); exact (Kd.R_mono (Kd.R_far (p := ⟨gb260, 3, none⟩) (Kd.R_far (p := ⟨gb260, 2, none⟩) (Kd.R_far (p := ⟨gb260, 1, none⟩) (Kd.R_far (p := ⟨gb260, 0, none⟩) (Kd.R_types HO248.out BK260.out (by decide)) (fun _ hk => hk.2) (.int .i64 t251)) (fun _ hk => hk.2) (.int .i64 t252)) (fun _ hk => hk.2) (.slice Ao14 t253.length co14)) (fun _ hk => hk.2) (.slice Ao15 t256.length co15)) (fun _ h_ => h_.1))) : P := h
theorem z33x9 {P : Prop} (h : P := by (with_reducible repeat (first | apply Kd.R_alloc | apply Kd.R_drewN | apply Kd.R_drew)); exact (Kd.R_mono (Kd.R_far (p := ⟨gb260, 3, none⟩) (Kd.R_far (p := ⟨gb260, 2, none⟩) (Kd.R_far (p := ⟨gb260, 1, none⟩) (Kd.R_far (p := ⟨gb260, 0, none⟩) (Kd.R_types HO245.out BK260.out (by decide)) (fun _ hk => hk.2) (.int .i64 t251)) (fun _ hk => hk.2) (.int .i64 t252)) (fun _ hk => hk.2) (.slice Ao14 t253.length co14)) (fun _ hk => hk.2) (.slice Ao15 t256.length co15)) (fun _ h_ => h_.1))) : P := h
theorem z33x8 {P : Prop} (h : P := by (with_reducible repeat (first | apply Kd.R_alloc | apply Kd.R_drewN | apply Kd.R_drew)); exact (Kd.R_mono (Kd.R_far (p := ⟨gb275, 3, none⟩) (Kd.R_far (p := ⟨gb275, 2, none⟩) (Kd.R_far (p := ⟨gb275, 1, none⟩) (Kd.R_far (p := ⟨gb275, 0, none⟩) (Kd.R_types HO_261003.out BK275.out (by decide)) (fun _ hk => hk.2) (.int .i64 t266)) (fun _ hk => hk.2) (.int .i64 t267)) (fun _ hk => hk.2) (.slice Ao48 t268.length co48)) (fun _ hk => hk.2) (.slice Ao49 t271.length co49)) (fun _ h_ => h_.1))) : P := h
theorem z33x7 {P : Prop} (h : P := by (with_reducible repeat (first | apply Kd.R_alloc | apply Kd.R_drewN | apply Kd.R_drew)); exact (Kd.R_mono (Kd.R_far (p := ⟨gb275, 3, none⟩) (Kd.R_far (p := ⟨gb275, 2, none⟩) (Kd.R_far (p := ⟨gb275, 1, none⟩) (Kd.R_far (p := ⟨gb275, 0, none⟩) (Kd.R_types HO_261002.out BK275.out (by decide)) (fun _ hk => hk.2) (.int .i64 t266)) (fun _ hk => hk.2) (.int .i64 t267)) (fun _ hk => hk.2) (.slice Ao48 t268.length co48)) (fun _ hk => hk.2) (.slice Ao49 t271.length co49)) (fun _ h_ => h_.1))) : P := h
theorem z33x6 {P : Prop} (h : P := by (with_reducible repeat (first | apply Kd.R_alloc | apply Kd.R_drewN | apply Kd.R_drew)); exact (Kd.R_mono (Kd.R_far (p := ⟨gb275, 3, none⟩) (Kd.R_far (p := ⟨gb275, 2, none⟩) (Kd.R_far (p := ⟨gb275, 1, none⟩) (Kd.R_far (p := ⟨gb275, 0, none⟩) (Kd.R_types HO_251003.out BK275.out (by decide)) (fun _ hk => hk.2) (.int .i64 t266)) (fun _ hk => hk.2) (.int .i64 t267)) (fun _ hk => hk.2) (.slice Ao48 t268.length co48)) (fun _ hk => hk.2) (.slice Ao49 t271.length co49)) (fun _ h_ => h_.1))) : P := h
theorem z33x5 {P : Prop} (h : P := by (with_reducible repeat (first | apply Kd.R_alloc | apply Kd.R_drewN | apply Kd.R_drew)); exact (Kd.R_mono (Kd.R_far (p := ⟨gb275, 3, none⟩) (Kd.R_far (p := ⟨gb275, 2, none⟩) (Kd.R_far (p := ⟨gb275, 1, none⟩) (Kd.R_far (p := ⟨gb275, 0, none⟩) (Kd.R_types HO_251002.out BK275.out (by decide)) (fun _ hk => hk.2) (.int .i64 t266)) (fun _ hk => hk.2) (.int .i64 t267)) (fun _ hk => hk.2) (.slice Ao48 t268.length co48)) (fun _ hk => hk.2) (.slice Ao49 t271.length co49)) (fun _ h_ => h_.1))) : P := h
theorem z33x4 {P : Prop} (h : P := by (with_reducible repeat (first | refine blk_drewN ?_ _ | refine blk_drew ?_ | refine blk_alloc ?_ _)); refine blk_far ?_ NB260_275.out _; (with_reducible repeat (first | refine blk_drewN ?_ _ | refine blk_drew ?_ | refine blk_alloc ?_ _)); refine blk_far ?_ NB260_275.out _; (with_reducible repeat (first | refine blk_drewN ?_ _ | refine blk_drew ?_ | refine blk_alloc ?_ _)); refine blk_far ?_ NB260_275.out _; (with_reducible repeat (first | refine blk_drewN ?_ _ | refine blk_drew ?_ | refine blk_alloc ?_ _)); refine blk_far ?_ NB260_275.out _; (with_reducible repeat (first | refine blk_drewN ?_ _ | refine blk_drew ?_ | refine blk_alloc ?_ _)); exact BK260.out) : P := h
theorem z33x3 {P : Prop} (h : P := by (with_reducible repeat (first | refine blk_drewN ?_ _ | refine blk_drew ?_ | refine blk_alloc ?_ _)); refine blk_far ?_ NB250_275.out _; (with_reducible repeat (first | refine blk_drewN ?_ _ | refine blk_drew ?_ | refine blk_alloc ?_ _)); refine blk_far ?_ NB250_275.out _; (with_reducible repeat (first | refine blk_drewN ?_ _ | refine blk_drew ?_ | refine blk_alloc ?_ _)); refine blk_far ?_ NB250_275.out _; (with_reducible repeat (first | refine blk_drewN ?_ _ | refine blk_drew ?_ | refine blk_alloc ?_ _)); refine blk_far ?_ NB250_275.out _; (with_reducible repeat (first | refine blk_drewN ?_ _ | refine blk_drew ?_ | refine blk_alloc ?_ _)); exact BK250.out) : P := h
theorem z33x2 {P : Prop} (h : P := by (with_reducible repeat (first | refine blk_drewN ?_ _ | refine blk_drew ?_ | refine blk_alloc ?_ _)); refine blk_far ?_ NB250_260.out _; (with_reducible repeat (first | refine blk_drewN ?_ _ | refine blk_drew ?_ | refine blk_alloc ?_ _)); refine blk_far ?_ NB250_260.out _; (with_reducible repeat (first | refine blk_drewN ?_ _ | refine blk_drew ?_ | refine blk_alloc ?_ _)); refine blk_far ?_ NB250_260.out _; (with_reducible repeat (first | refine blk_drewN ?_ _ | refine blk_drew ?_ | refine blk_alloc ?_ _)); refine blk_far ?_ NB250_260.out _; (with_reducible repeat (first | refine blk_drewN ?_ _ | refine blk_drew ?_ | refine blk_alloc ?_ _)); exact BK250.out) : P := h
theorem z33x1 {P : Prop} (h : P := by (with_reducible repeat (first | refine blk_drewN ?_ _ | refine blk_drew ?_ | refine blk_alloc ?_ _)); refine blk_put (cs := #[.int .i64 t266, .int .i64 t267, .slice Ao48 t268.length co48, .slice none 0 0]) ?_ 3 _ rfl; (with_reducible repeat (first | refine blk_drewN ?_ _ | refine blk_drew ?_ | refine blk_alloc ?_ _)); refine blk_put (cs := #[.int .i64 t266, .int .i64 t267, .slice none 0 0, .slice none 0 0]) ?_ 2 _ rfl; (with_reducible repeat (first | refine blk_drewN ?_ _ | refine blk_drew ?_ | refine blk_alloc ?_ _)); refine blk_put (cs := #[.int .i64 t266, .int .i64 0, .slice none 0 0, .slice none 0 0]) ?_ 1 _ rfl; (with_reducible repeat (first | refine blk_drewN ?_ _ | refine blk_drew ?_ | refine blk_alloc ?_ _)); refine blk_put (cs := #[.int .i64 0, .int .i64 0, .slice none 0 0, .slice none 0 0]) ?_ 0 _ rfl; (with_reducible repeat (first | refine blk_drewN ?_ _ | refine blk_drew ?_ | refine blk_alloc ?_ _)); exact BK275.out) : P := h
theorem z33x0 {P : Prop} (h : P := by (with_reducible repeat (first | refine blk_drewN ?_ _ | refine blk_drew ?_ | refine blk_alloc ?_ _)); refine blk_put (cs := #[.int .i64 t251, .int .i64 t252, .slice Ao14 t253.length co14, .slice none 0 0]) ?_ 3 _ rfl; (with_reducible repeat (first | refine blk_drewN ?_ _ | refine blk_drew ?_ | refine blk_alloc ?_ _)); refine blk_put (cs := #[.int .i64 t251, .int .i64 t252, .slice none 0 0, .slice none 0 0]) ?_ 2 _ rfl; (with_reducible repeat (first | refine blk_drewN ?_ _ | refine blk_drew ?_ | refine blk_alloc ?_ _)); refine blk_put (cs := #[.int .i64 t251, .int .i64 0, .slice none 0 0, .slice none 0 0]) ?_ 1 _ rfl; (with_reducible repeat (first | refine blk_drewN ?_ _ | refine blk_drew ?_ | refine blk_alloc ?_ _)); refine blk_put (cs := #[.int .i64 0, .int .i64 0, .slice none 0 0, .slice none 0 0]) ?_ 0 _ rfl; (with_reducible repeat (first | refine blk_drewN ?_ _ | refine blk_drew ?_ | refine blk_alloc ?_ _)); exact BK260.out) : P := h

/-! ### laws_FnExactServNew: function 4 -/
mutual
def laws_FnExactServNew.j0 : Nat → Int → Bool → Bool → Int → Int → List (S57) → List (S125) → Int → Int → List (S57) → List (S125) → Option (Bool)
 | 0, _, _, _, _, _, _, _, _, _, _, _ => none
 | k + 1, x0, x4, x29, x251000, x251001, x251002, x251003, x261000, x261001, x261002, x261003 => if x29 = true then (some false) else ((laws_markServ.f k x261000 x261001 x261002 x261003 1).bind fun bt262 => ((laws_heldServ.f k x261000 x261001 bt262.2.1 bt262.2.2 1).bind fun t265 => (if t265 < 0 then (some false) else (if t265 = bt262.1 then ((impl_ServNew.f x0).bind fun bt266 => ((laws_eqServ.f k bt266.1 bt266.2.1 bt266.2.2.1 bt266.2.2.2.1 x251000 x251001 x251002 x251003).bind fun t276 => (if t276 = true then (laws_FnExactServNew.j1 k bt262.1 (bt266.2.2.2.2 != x4) x261000 x261001 bt262.2.1 bt262.2.2) else (laws_FnExactServNew.j1 k bt262.1 true x261000 x261001 bt262.2.1 bt262.2.2)))) else (some false)))))
def laws_FnExactServNew.j1 : Nat → Int → Bool → Int → Int → List (S57) → List (S125) → Option (Bool)
 | 0, _, _, _, _, _, _ => none
 | k + 1, x7, x54, x261000, x261001, x261002, x261003 => if x54 = true then (some false) else ((laws_heldServ.f k x261000 x261001 x261002 x261003 1).bind fun t277 => (if t277 < 0 then (some false) else (if t277 = x7 then (some true) else (some false))))
end
def laws_FnExactServNew.f (k : Nat) (a0 : Int) : Option (Bool) := (spec_ServNew.f a0).bind fun bt241 => ((impl_ServNew.f a0).bind fun bt251 => ((laws_eqServ.f k bt251.1 bt251.2.1 bt251.2.2.1 bt251.2.2.2.1 bt241.1 bt241.2.1 bt241.2.2.1 bt241.2.2.2.1).bind fun t261 => (if t261 = true then (laws_FnExactServNew.j0 k a0 bt241.2.2.2.2 (bt251.2.2.2.2 != bt241.2.2.2.2) bt241.1 bt241.2.1 bt241.2.2.1 bt241.2.2.2.1 bt251.1 bt251.2.1 bt251.2.2.1 bt251.2.2.2.1) else (laws_FnExactServNew.j0 k a0 bt241.2.2.2.2 true bt241.1 bt241.2.1 bt241.2.2.1 bt241.2.2.2.1 bt251.1 bt251.2.1 bt251.2.2.1 bt251.2.2.2.1))))
theorem laws_FnExactServNew.mono_l : ∀ k, (∀ y0 y1 y2 y3 y4 y5 y6 y7 y8 y9 y10, LeO (laws_FnExactServNew.j0 k y0 y1 y2 y3 y4 y5 y6 y7 y8 y9 y10) (laws_FnExactServNew.j0 (k + 1) y0 y1 y2 y3 y4 y5 y6 y7 y8 y9 y10)) ∧ (∀ y0 y1 y2 y3 y4 y5, LeO (laws_FnExactServNew.j1 k y0 y1 y2 y3 y4 y5) (laws_FnExactServNew.j1 (k + 1) y0 y1 y2 y3 y4 y5))
 | 0 => ⟨fun _ _ _ _ _ _ _ _ _ _ _ r h => by simp [laws_FnExactServNew.j0] at h, fun _ _ _ _ _ _ r h => by simp [laws_FnExactServNew.j1] at h⟩
 | k + 1 => by
  obtain ⟨ih0, ih1⟩ := laws_FnExactServNew.mono_l k
  refine ⟨?_, ?_⟩
  ·intro y0 y1 y2 y3 y4 y5 y6 y7 y8 y9 y10
   unfold laws_FnExactServNew.j0
   repeat' first
   | (with_reducible exact ih0 _ _ _ _ _ _ _ _ _ _ _)
   | (with_reducible exact ih1 _ _ _ _ _ _)
   | (with_reducible exact laws_eqServ.mono _ _ _ _ _ _ _ _ _)
   | (with_reducible exact laws_heldServ.mono _ _ _ _ _ _)
   | (with_reducible exact laws_markServ.mono _ _ _ _ _ _)
   | (with_reducible exact LeO.refl _)
   | (with_reducible exact LeO.none _)
   | (with_reducible refine LeO.ite ?_ ?_)
   | (with_reducible refine LeO.bind ?_ (fun _ => ?_))
   | exact ih0 _ _ _ _ _ _ _ _ _ _ _
   | exact ih1 _ _ _ _ _ _
   | exact laws_eqServ.mono _ _ _ _ _ _ _ _ _
   | exact laws_heldServ.mono _ _ _ _ _ _
   | exact laws_markServ.mono _ _ _ _ _ _
   | exact LeO.none _
   | refine LeO.ite ?_ ?_
   | refine LeO.bind ?_ (fun _ => ?_)
  ·intro y0 y1 y2 y3 y4 y5
   unfold laws_FnExactServNew.j1
   repeat' first
   | (with_reducible exact ih0 _ _ _ _ _ _ _ _ _ _ _)
   | (with_reducible exact ih1 _ _ _ _ _ _)
   | (with_reducible exact laws_eqServ.mono _ _ _ _ _ _ _ _ _)
   | (with_reducible exact laws_heldServ.mono _ _ _ _ _ _)
   | (with_reducible exact laws_markServ.mono _ _ _ _ _ _)
   | (with_reducible exact LeO.refl _)
   | (with_reducible exact LeO.none _)
   | (with_reducible refine LeO.ite ?_ ?_)
   | (with_reducible refine LeO.bind ?_ (fun _ => ?_))
   | exact ih0 _ _ _ _ _ _ _ _ _ _ _
   | exact ih1 _ _ _ _ _ _
   | exact laws_eqServ.mono _ _ _ _ _ _ _ _ _
   | exact laws_heldServ.mono _ _ _ _ _ _
   | exact laws_markServ.mono _ _ _ _ _ _
   | exact LeO.none _
   | refine LeO.ite ?_ ?_
   | refine LeO.bind ?_ (fun _ => ?_)
theorem laws_FnExactServNew.mono : ∀ a0 k, LeO (laws_FnExactServNew.f k a0) (laws_FnExactServNew.f (k + 1) a0) := by
 intro a0 k
 obtain ⟨ih0, ih1⟩ := laws_FnExactServNew.mono_l k
 unfold laws_FnExactServNew.f
 repeat' first
   | (with_reducible exact ih0 _ _ _ _ _ _ _ _ _ _ _)
   | (with_reducible exact ih1 _ _ _ _ _ _)
   | (with_reducible exact laws_eqServ.mono _ _ _ _ _ _ _ _ _)
   | (with_reducible exact laws_heldServ.mono _ _ _ _ _ _)
   | (with_reducible exact laws_markServ.mono _ _ _ _ _ _)
   | (with_reducible exact LeO.refl _)
   | (with_reducible exact LeO.none _)
   | (with_reducible refine LeO.ite ?_ ?_)
   | (with_reducible refine LeO.bind ?_ (fun _ => ?_))
   | exact ih0 _ _ _ _ _ _ _ _ _ _ _
   | exact ih1 _ _ _ _ _ _
   | exact laws_eqServ.mono _ _ _ _ _ _ _ _ _
   | exact laws_heldServ.mono _ _ _ _ _ _
   | exact laws_markServ.mono _ _ _ _ _ _
   | exact LeO.none _
   | refine LeO.ite ?_ ?_
   | refine LeO.bind ?_ (fun _ => ?_)
set_option maxHeartbeats 8000000 in
set_option maxRecDepth 100000 in
theorem laws_FnExactServNew.calls (k : Nat) (a0 : Int) (r : Bool) (w : World) (h : laws_FnExactServNew.f k a0 = some r) :
  Calls Try.prog 4 #[.int .i64 a0] w fun e w' => e = .returned (.bool r) ∧ Below w.heap.size w w' := by
 have hu35 := Try.underlying35
 have HB := Aside0.mk (Below.refl w.heap.size w)
 have H : ((spec_ServNew.f a0).bind fun bt241 => ((impl_ServNew.f a0).bind fun bt251 => ((laws_eqServ.f k bt251.1 bt251.2.1 bt251.2.2.1 bt251.2.2.2.1 bt241.1 bt241.2.1 bt241.2.2.1 bt241.2.2.2.1).bind fun t261 => (if t261 = true then (laws_FnExactServNew.j0 k a0 bt241.2.2.2.2 (bt251.2.2.2.2 != bt241.2.2.2.2) bt241.1 bt241.2.1 bt241.2.2.1 bt241.2.2.2.1 bt251.1 bt251.2.1 bt251.2.2.1 bt251.2.2.2.1) else (laws_FnExactServNew.j0 k a0 bt241.2.2.2.2 true bt241.1 bt241.2.1 bt241.2.2.1 bt241.2.2.2.1 bt251.1 bt251.2.1 bt251.2.2.1 bt251.2.2.2.1))))) = some r := h
 clear h
 replace H := Option.bind_eq_some_iff.mp H
 obtain ⟨⟨t241, t242, t243, t246, t249⟩, A20, H⟩ := H
 replace H : ((impl_ServNew.f a0).bind fun bt251 => ((laws_eqServ.f k bt251.1 bt251.2.1 bt251.2.2.1 bt251.2.2.2.1 t241 t242 t243 t246).bind fun t261 => (if t261 = true then (laws_FnExactServNew.j0 k a0 t249 (bt251.2.2.2.2 != t249) t241 t242 t243 t246 bt251.1 bt251.2.1 bt251.2.2.1 bt251.2.2.2.1) else (laws_FnExactServNew.j0 k a0 t249 true t241 t242 t243 t246 bt251.1 bt251.2.1 bt251.2.2.1 bt251.2.2.2.1)))) = some r := H
 have A2 := Aside0.mk A20
 clear A20
 replace H := Option.bind_eq_some_iff.mp H
 obtain ⟨⟨t251, t252, t253, t256, t259⟩, A30, H⟩ := H
 replace H : ((laws_eqServ.f k t251 t252 t253 t256 t241 t242 t243 t246).bind fun t261 => (if t261 = true then (laws_FnExactServNew.j0 k a0 t249 (t259 != t249) t241 t242 t243 t246 t251 t252 t253 t256) else (laws_FnExactServNew.j0 k a0 t249 true t241 t242 t243 t246 t251 t252 t253 t256))) = some r := H
 have A3 := Aside0.mk A30
 clear A30
 have HC4 := Aside0.mk H
 clear H
 go_enter Try.func4, Try.ntmps4
 go_upto_region 3 with (first | ((with_reducible refine gate_callee (f := 24) rfl ?_); refine goesL_ (some 13) rfl rfl Try.func24 (by kernel_rfl) rfl #[.int .i64 a0] rfl z33x25 ?_; (with_reducible refine (spec_ServNew.calls a0 t241 t242 t243 t246 t249 _ A2.out).mono ?_); rintro e w5 ⟨v244, v247, rfl, ho0, ho1, hb⟩; refine ⟨_, rfl, ?_⟩; have n0_ := Aside0.mk (Kd.R_lower ho0 (below_size z33x26)); have n1_ := Aside0.mk (Kd.R_lower ho1 (below_size z33x26)); have n2_ := Aside0.mk (below_step z33x26 hb); clear HB; have HO245 := n0_; have HO248 := n1_; have HB := n2_; clear n0_ n1_ n2_; (try clear hb); (try clear hb2); (try clear hk); (try clear hi); (try clear ho0); (try clear ho1)) | ((with_reducible refine gate_dst (N := 3) rfl ?_); refine box_event ?hg (N := 3) ?hd (cs := #[.int .i64 0, .int .i64 0, .slice none 0 0, .slice none 0 0]) (t := 35) ?hr ?_; (case hd => rfl); (case hg => rfl); (case hr => first | (go_simp; done) | (go_simp; rfl)); intro gb250 hg w6 hbox hb; have n0_ := Aside0.mk (Kd.R_below (by (with_reducible repeat (first | apply Kd.R_alloc | apply Kd.R_drewN | apply Kd.R_drew)); exact HO245.out) hb); have n1_ := Aside0.mk (Kd.R_below (by (with_reducible repeat (first | apply Kd.R_alloc | apply Kd.R_drewN | apply Kd.R_drew)); exact HO248.out) hb); have n2_ := Aside0.mk (below_step z33x26 hb); have n3_ := Aside0.mk (hbox); have n4_ := Aside0.mk ((by rw [hg]; exact (below_size z33x26) : w.heap.size ≤ gb250)); have n5_ := Aside0.mk ((by rw [hg]; exact (below_size z33x26) : w.heap.size ≤ gb250)); clear HO245; clear HO248; clear HB; have HO245 := n0_; have HO248 := n1_; have HB := n2_; have BK250 := n3_; have GW250 := n4_; have GE250 := n5_; clear n0_ n1_ n2_ n3_ n4_ n5_; clear hb hbox hg; have hcz7_0 : w6.cell? ⟨gb250, 0, none⟩ = some (.int .i64 0) := (blk_cell BK250.out 0).trans rfl; have hcz7_1 : w6.cell? ⟨gb250, 1, none⟩ = some (.int .i64 0) := (blk_cell BK250.out 1).trans rfl; have hcz7_2 : w6.cell? ⟨gb250, 2, none⟩ = some (.slice none 0 0) := (blk_cell BK250.out 2).trans rfl; have hcz7_3 : w6.cell? ⟨gb250, 3, none⟩ = some (.slice none 0 0) := (blk_cell BK250.out 3).trans rfl; have hfz7_0 := blk_frozen BK250.out 0; have hfz7_1 := blk_frozen BK250.out 1; have hfz7_2 := blk_frozen BK250.out 2; have hfz7_3 := blk_frozen BK250.out 3; obtain ⟨Ao8, co8, eo8⟩ := Kd.R_slice HO245.out; subst eo8; obtain ⟨Ao9, co9, eo9⟩ := Kd.R_slice HO248.out; subst eo9) | ((with_reducible refine gate_callee (f := 25) rfl ?_); refine goesL_ (some 18) rfl rfl Try.func25 (by kernel_rfl) rfl #[.int .i64 a0] rfl z33x25 ?_; (with_reducible refine (impl_ServNew.calls a0 t251 t252 t253 t256 t259 _ A3.out).mono ?_); rintro e w10 ⟨v254, v257, rfl, ho0, ho1, hb⟩; refine ⟨_, rfl, ?_⟩; have n0_ := Aside0.mk (Kd.R_elder' z33x15 (Kd.R_base ho0) hb); have n1_ := Aside0.mk (Kd.R_elder' z33x16 (Kd.R_base ho1) hb); have n2_ := Aside0.mk (Kd.R_lower (Kd.R_new' ho0 (Kd.R_lt z33x15)) (below_size z33x24)); have n3_ := Aside0.mk (Kd.R_lower (Kd.R_new' ho1 (Kd.R_lt z33x16)) (below_size z33x24)); have n4_ := Aside0.mk (blk_below (g := gb250) (o := .cells #[.int .i64 t241, .int .i64 t242, .slice Ao8 t243.length co8, .slice Ao9 t246.length co9] 35 (0, 0)) (by (with_reducible repeat (first | refine blk_drewN ?_ _ | refine blk_drew ?_ | refine blk_alloc ?_ _)); refine blk_put (cs := #[.int .i64 t241, .int .i64 t242, .slice Ao8 t243.length co8, .slice none 0 0]) ?_ 3 _ rfl; (with_reducible repeat (first | refine blk_drewN ?_ _ | refine blk_drew ?_ | refine blk_alloc ?_ _)); refine blk_put (cs := #[.int .i64 t241, .int .i64 t242, .slice none 0 0, .slice none 0 0]) ?_ 2 _ rfl; (with_reducible repeat (first | refine blk_drewN ?_ _ | refine blk_drew ?_ | refine blk_alloc ?_ _)); refine blk_put (cs := #[.int .i64 t241, .int .i64 0, .slice none 0 0, .slice none 0 0]) ?_ 1 _ rfl; (with_reducible repeat (first | refine blk_drewN ?_ _ | refine blk_drew ?_ | refine blk_alloc ?_ _)); refine blk_put (cs := #[.int .i64 0, .int .i64 0, .slice none 0 0, .slice none 0 0]) ?_ 0 _ rfl; (with_reducible repeat (first | refine blk_drewN ?_ _ | refine blk_drew ?_ | refine blk_alloc ?_ _)); exact BK250.out) hb); have n5_ := Aside0.mk (below_step z33x24 hb); clear HO245; clear HO248; clear BK250; clear HB; have HO245 := n0_; have HO248 := n1_; have HO255 := n2_; have HO258 := n3_; have BK250 := n4_; have HB := n5_; clear n0_ n1_ n2_ n3_ n4_ n5_; (try clear hb); (try clear hb2); (try clear hk); (try clear hi); (try clear ho0); (try clear ho1)) | ((with_reducible refine gate_dst (N := 5) rfl ?_); refine box_event ?hg (N := 5) ?hd (cs := #[.int .i64 0, .int .i64 0, .slice none 0 0, .slice none 0 0]) (t := 35) ?hr ?_; (case hd => rfl); (case hg => rfl); (case hr => first | (go_simp; done) | (go_simp; rfl)); intro gb260 hg w11 hbox hb; have n0_ := Aside0.mk (Kd.R_below (by (with_reducible repeat (first | apply Kd.R_alloc | apply Kd.R_drewN | apply Kd.R_drew)); exact HO245.out) hb); have n1_ := Aside0.mk (Kd.R_below (by (with_reducible repeat (first | apply Kd.R_alloc | apply Kd.R_drewN | apply Kd.R_drew)); exact HO248.out) hb); have n2_ := Aside0.mk (Kd.R_below (by (with_reducible repeat (first | apply Kd.R_alloc | apply Kd.R_drewN | apply Kd.R_drew)); exact HO255.out) hb); have n3_ := Aside0.mk (Kd.R_below (by (with_reducible repeat (first | apply Kd.R_alloc | apply Kd.R_drewN | apply Kd.R_drew)); exact HO258.out) hb); have n4_ := Aside0.mk (blk_below (g := gb250) (o := .cells #[.int .i64 t241, .int .i64 t242, .slice Ao8 t243.length co8, .slice Ao9 t246.length co9] 35 (0, 0)) z33x27 hb); have n5_ := Aside0.mk (below_step z33x24 hb); have n6_ := Aside0.mk (hbox); have n7_ := Aside0.mk ((z33x23 : w.heap.size ≤ gb260)); have n8_ := Aside0.mk ((z33x23 : w.heap.size ≤ gb260)); have n9_ := Aside0.mk ((z33x19 : gb250 ≠ gb260)); have n10_ := Aside0.mk ((z33x18 : gb260 ≠ gb250)); clear HO245; clear HO248; clear HO255; clear HO258; clear BK250; clear HB; have HO245 := n0_; have HO248 := n1_; have HO255 := n2_; have HO258 := n3_; have BK250 := n4_; have HB := n5_; have BK260 := n6_; have GW260 := n7_; have GE260 := n8_; have NB250_260 := n9_; have NB260_250 := n10_; clear n0_ n1_ n2_ n3_ n4_ n5_ n6_ n7_ n8_ n9_ n10_; clear hb hbox hg; have hnb12 := NB260_250.out; have hnc12 := NB250_260.out; have hcz13_0 : w11.cell? ⟨gb260, 0, none⟩ = some (.int .i64 0) := (blk_cell BK260.out 0).trans rfl; have hcz13_1 : w11.cell? ⟨gb260, 1, none⟩ = some (.int .i64 0) := (blk_cell BK260.out 1).trans rfl; have hcz13_2 : w11.cell? ⟨gb260, 2, none⟩ = some (.slice none 0 0) := (blk_cell BK260.out 2).trans rfl; have hcz13_3 : w11.cell? ⟨gb260, 3, none⟩ = some (.slice none 0 0) := (blk_cell BK260.out 3).trans rfl; have hfz13_0 := blk_frozen BK260.out 0; have hfz13_1 := blk_frozen BK260.out 1; have hfz13_2 := blk_frozen BK260.out 2; have hfz13_3 := blk_frozen BK260.out 3; obtain ⟨Ao14, co14, eo14⟩ := Kd.R_slice HO255.out; subst eo14; obtain ⟨Ao15, co15, eo15⟩ := Kd.R_slice HO258.out; subst eo15))
 (try simp only [Act.put, List.setIfInBounds_toArray, List.set_cons_zero, List.set_cons_succ])
 go_cut [29] (fun v29 wc => ∃ (kq : Nat) (x29_3 : Bool), v29 = .bool x29_3 ∧ Aside0 (laws_FnExactServNew.j0 kq a0 t249 x29_3 t241 t242 t243 t246 t251 t252 t253 t256 = some r) ∧ Aside0 (kq ≤ k) ∧ Aside0 (Kd.R k57 57 wc w.heap.size (fun k_ => some k_ ≠ ((.slice Ao14 t253.length co14) : Value).ownBlock) (.slice Ao8 t243.length co8) t243) ∧ Aside0 (Kd.R k125 125 wc w.heap.size (fun k_ => some k_ ≠ ((.slice Ao15 t256.length co15) : Value).ownBlock) (.slice Ao9 t246.length co9) t246) ∧ Aside0 (Kd.R k57 57 wc w.heap.size (fun k_ => some k_ ≠ ((.slice Ao8 t243.length co8) : Value).ownBlock) (.slice Ao14 t253.length co14) t253) ∧ Aside0 (Kd.R k125 125 wc w.heap.size (fun k_ => some k_ ≠ ((.slice Ao9 t246.length co9) : Value).ownBlock) (.slice Ao15 t256.length co15) t256) ∧ Aside0 (wc.heap[gb250]? = some (.cells #[.int .i64 t241, .int .i64 t242, (.slice Ao8 t243.length co8), (.slice Ao9 t246.length co9)] 35 (0, 0))) ∧ Aside0 (wc.heap[gb260]? = some (.cells #[.int .i64 t251, .int .i64 t252, (.slice Ao14 t253.length co14), (.slice Ao15 t256.length co15)] 35 (0, 0))) ∧ Aside0 (Below w.heap.size w wc))
 case first =>
  have H := HC4.out
  clear HC4
  replace H := Option.bind_eq_some_iff.mp H
  obtain ⟨t261, A160, H⟩ := H
  replace H : (if t261 = true then (laws_FnExactServNew.j0 k a0 t249 (t259 != t249) t241 t242 t243 t246 t251 t252 t253 t256) else (laws_FnExactServNew.j0 k a0 t249 true t241 t242 t243 t246 t251 t252 t253 t256)) = some r := H
  have A16 := Aside0.mk A160
  clear A160
  by_cases c17 : t261 = true
  ·subst c17
   rw [if_pos rfl] at H
   have H' := Aside0.mk H
   clear H
   have hnb18 := NB260_250.out
   have hnc18 := NB250_260.out
   have hcz19_0 : w11.cell? ⟨gb260, 0, none⟩ = some (.int .i64 0) := (blk_cell BK260.out 0).trans rfl
   have hcz19_1 : w11.cell? ⟨gb260, 1, none⟩ = some (.int .i64 0) := (blk_cell BK260.out 1).trans rfl
   have hcz19_2 : w11.cell? ⟨gb260, 2, none⟩ = some (.slice none 0 0) := (blk_cell BK260.out 2).trans rfl
   have hcz19_3 : w11.cell? ⟨gb260, 3, none⟩ = some (.slice none 0 0) := (blk_cell BK260.out 3).trans rfl
   have hfz19_0 := blk_frozen BK260.out 0
   have hfz19_1 := blk_frozen BK260.out 1
   have hfz19_2 := blk_frozen BK260.out 2
   have hfz19_3 := blk_frozen BK260.out 3
   have hcz20_0 : w11.cell? ⟨gb250, 0, none⟩ = some (.int .i64 t241) := (blk_cell BK250.out 0).trans rfl
   have hcz20_1 : w11.cell? ⟨gb250, 1, none⟩ = some (.int .i64 t242) := (blk_cell BK250.out 1).trans rfl
   have hcz20_2 : w11.cell? ⟨gb250, 2, none⟩ = some (.slice Ao8 t243.length co8) := (blk_cell BK250.out 2).trans rfl
   have hcz20_3 : w11.cell? ⟨gb250, 3, none⟩ = some (.slice Ao9 t246.length co9) := (blk_cell BK250.out 3).trans rfl
   have hfz20_0 := blk_frozen BK250.out 0
   have hfz20_1 := blk_frozen BK250.out 1
   have hfz20_2 := blk_frozen BK250.out 2
   have hfz20_3 := blk_frozen BK250.out 3
   go_wp2_with (first | ((with_reducible refine gate_callee (f := 26) rfl ?_); refine goesL_ (some 23) rfl rfl Try.func26 (by kernel_rfl) rfl #[.agg #[.int .i64 t251, .int .i64 t252, .slice Ao14 t253.length co14, .slice Ao15 t256.length co15], .agg #[.int .i64 t241, .int .i64 t242, .slice Ao8 t243.length co8, .slice Ao9 t246.length co9]] rfl z33x25 ?_; (with_reducible refine (laws_eqServ.calls k t251 t252 _ _ t253 _ _ t256 t241 t242 _ _ t243 _ _ t246 true _ ?side1 ?side2 ?side3 ?side4 ?side5 ?side6 ?side7 ?side8 A16.out).mono ?_); (case side1 => refine (Kd.R_reads' (e := 57) (base := w.heap.size) (ok := fun k_ => (True ∧ some k_ ≠ (.slice Ao8 t243.length co8 : Value).ownBlock)) (n := t253.length) (c := co14) ?_).2.2; exact z33x11); (case side2 => exact (Kd.R_reads' HO255.out).2.1); (case side3 => refine (Kd.R_reads' (e := 125) (base := w.heap.size) (ok := fun k_ => (True ∧ some k_ ≠ (.slice Ao9 t246.length co9 : Value).ownBlock)) (n := t256.length) (c := co15) ?_).2.2; exact z33x12); (case side4 => exact (Kd.R_reads' HO258.out).2.1); (case side5 => refine (Kd.R_reads' (e := 57) (base := w.heap.size) (ok := fun k_ => (True ∧ some k_ ≠ (.slice Ao14 t253.length co14 : Value).ownBlock)) (n := t243.length) (c := co8) ?_).2.2; exact z33x9); (case side6 => exact (Kd.R_reads' HO245.out).2.1); (case side7 => refine (Kd.R_reads' (e := 125) (base := w.heap.size) (ok := fun k_ => (True ∧ some k_ ≠ (.slice Ao15 t256.length co15 : Value).ownBlock)) (n := t246.length) (c := co9) ?_).2.2; exact z33x10); (case side8 => exact (Kd.R_reads' HO248.out).2.1); rintro e w21 ⟨rfl, hb⟩; refine ⟨_, rfl, ?_⟩; have n0_ := Aside0.mk (Kd.R_below z33x9 hb); have n1_ := Aside0.mk (Kd.R_below z33x10 hb); have n2_ := Aside0.mk (Kd.R_below z33x11 hb); have n3_ := Aside0.mk (Kd.R_below z33x12 hb); have n4_ := Aside0.mk (blk_below (g := gb250) (o := .cells #[.int .i64 t241, .int .i64 t242, .slice Ao8 t243.length co8, .slice Ao9 t246.length co9] 35 (0, 0)) z33x2 hb); have n5_ := Aside0.mk (blk_below (g := gb260) (o := .cells #[.int .i64 t251, .int .i64 t252, .slice Ao14 t253.length co14, .slice Ao15 t256.length co15] 35 (0, 0)) z33x0 hb); have n6_ := Aside0.mk (below_step z33x22 hb); clear HO245; clear HO248; clear HO255; clear HO258; clear BK250; clear BK260; clear HB; have HO245 := n0_; have HO248 := n1_; have HO255 := n2_; have HO258 := n3_; have BK250 := n4_; have BK260 := n5_; have HB := n6_; clear n0_ n1_ n2_ n3_ n4_ n5_ n6_; (try clear hb); (try clear hb2); (try clear hk); (try clear hi)))
   go_meet
   case rel => exact ⟨_, ((t259 != t249)), (by first | rfl | (simp; done) | (simp [*]; done)), H', ⟨by first | omega | exact Nat.le_refl _⟩, ⟨by (with_reducible repeat (first | apply Kd.R_alloc | apply Kd.R_drewN | apply Kd.R_drew)); exact Kd.R_mono HO245.out (fun _ hk => hk.2)⟩, ⟨by (with_reducible repeat (first | apply Kd.R_alloc | apply Kd.R_drewN | apply Kd.R_drew)); exact Kd.R_mono HO248.out (fun _ hk => hk.2)⟩, ⟨by (with_reducible repeat (first | apply Kd.R_alloc | apply Kd.R_drewN | apply Kd.R_drew)); exact Kd.R_mono HO255.out (fun _ hk => hk.2)⟩, ⟨by (with_reducible repeat (first | apply Kd.R_alloc | apply Kd.R_drewN | apply Kd.R_drew)); exact Kd.R_mono HO258.out (fun _ hk => hk.2)⟩, ⟨by (with_reducible repeat (first | refine blk_drewN ?_ _ | refine blk_drew ?_ | refine blk_alloc ?_ _)); exact BK250.out⟩, ⟨by (with_reducible repeat (first | refine blk_drewN ?_ _ | refine blk_drew ?_ | refine blk_alloc ?_ _)); exact BK260.out⟩, ⟨by repeat (first | (with_reducible first | exact HB.out | apply below_alloc | apply pw_below_drewN | apply below_drew1 | refine below_set ?_ GE250.out | refine below_set ?_ GE260.out) | exact HB.out)⟩⟩
  ·replace c17 := Bool.eq_false_iff.mpr c17
   subst c17
   rw [if_neg (show ¬ (false = true) by decide)] at H
   have H' := Aside0.mk H
   clear H
   have hnb22 := NB260_250.out
   have hnc22 := NB250_260.out
   have hcz23_0 : w11.cell? ⟨gb260, 0, none⟩ = some (.int .i64 0) := (blk_cell BK260.out 0).trans rfl
   have hcz23_1 : w11.cell? ⟨gb260, 1, none⟩ = some (.int .i64 0) := (blk_cell BK260.out 1).trans rfl
   have hcz23_2 : w11.cell? ⟨gb260, 2, none⟩ = some (.slice none 0 0) := (blk_cell BK260.out 2).trans rfl
   have hcz23_3 : w11.cell? ⟨gb260, 3, none⟩ = some (.slice none 0 0) := (blk_cell BK260.out 3).trans rfl
   have hfz23_0 := blk_frozen BK260.out 0
   have hfz23_1 := blk_frozen BK260.out 1
   have hfz23_2 := blk_frozen BK260.out 2
   have hfz23_3 := blk_frozen BK260.out 3
   have hcz24_0 : w11.cell? ⟨gb250, 0, none⟩ = some (.int .i64 t241) := (blk_cell BK250.out 0).trans rfl
   have hcz24_1 : w11.cell? ⟨gb250, 1, none⟩ = some (.int .i64 t242) := (blk_cell BK250.out 1).trans rfl
   have hcz24_2 : w11.cell? ⟨gb250, 2, none⟩ = some (.slice Ao8 t243.length co8) := (blk_cell BK250.out 2).trans rfl
   have hcz24_3 : w11.cell? ⟨gb250, 3, none⟩ = some (.slice Ao9 t246.length co9) := (blk_cell BK250.out 3).trans rfl
   have hfz24_0 := blk_frozen BK250.out 0
   have hfz24_1 := blk_frozen BK250.out 1
   have hfz24_2 := blk_frozen BK250.out 2
   have hfz24_3 := blk_frozen BK250.out 3
   go_wp2_with (first | ((with_reducible refine gate_callee (f := 26) rfl ?_); refine goesL_ (some 23) rfl rfl Try.func26 (by kernel_rfl) rfl #[.agg #[.int .i64 t251, .int .i64 t252, .slice Ao14 t253.length co14, .slice Ao15 t256.length co15], .agg #[.int .i64 t241, .int .i64 t242, .slice Ao8 t243.length co8, .slice Ao9 t246.length co9]] rfl z33x25 ?_; (with_reducible refine (laws_eqServ.calls k t251 t252 _ _ t253 _ _ t256 t241 t242 _ _ t243 _ _ t246 false _ ?side1 ?side2 ?side3 ?side4 ?side5 ?side6 ?side7 ?side8 A16.out).mono ?_); (case side1 => refine (Kd.R_reads' (e := 57) (base := w.heap.size) (ok := fun k_ => (True ∧ some k_ ≠ (.slice Ao8 t243.length co8 : Value).ownBlock)) (n := t253.length) (c := co14) ?_).2.2; exact z33x11); (case side2 => exact (Kd.R_reads' HO255.out).2.1); (case side3 => refine (Kd.R_reads' (e := 125) (base := w.heap.size) (ok := fun k_ => (True ∧ some k_ ≠ (.slice Ao9 t246.length co9 : Value).ownBlock)) (n := t256.length) (c := co15) ?_).2.2; exact z33x12); (case side4 => exact (Kd.R_reads' HO258.out).2.1); (case side5 => refine (Kd.R_reads' (e := 57) (base := w.heap.size) (ok := fun k_ => (True ∧ some k_ ≠ (.slice Ao14 t253.length co14 : Value).ownBlock)) (n := t243.length) (c := co8) ?_).2.2; exact z33x9); (case side6 => exact (Kd.R_reads' HO245.out).2.1); (case side7 => refine (Kd.R_reads' (e := 125) (base := w.heap.size) (ok := fun k_ => (True ∧ some k_ ≠ (.slice Ao15 t256.length co15 : Value).ownBlock)) (n := t246.length) (c := co9) ?_).2.2; exact z33x10); (case side8 => exact (Kd.R_reads' HO248.out).2.1); rintro e w25 ⟨rfl, hb⟩; refine ⟨_, rfl, ?_⟩; have n0_ := Aside0.mk (Kd.R_below z33x9 hb); have n1_ := Aside0.mk (Kd.R_below z33x10 hb); have n2_ := Aside0.mk (Kd.R_below z33x11 hb); have n3_ := Aside0.mk (Kd.R_below z33x12 hb); have n4_ := Aside0.mk (blk_below (g := gb250) (o := .cells #[.int .i64 t241, .int .i64 t242, .slice Ao8 t243.length co8, .slice Ao9 t246.length co9] 35 (0, 0)) z33x2 hb); have n5_ := Aside0.mk (blk_below (g := gb260) (o := .cells #[.int .i64 t251, .int .i64 t252, .slice Ao14 t253.length co14, .slice Ao15 t256.length co15] 35 (0, 0)) z33x0 hb); have n6_ := Aside0.mk (below_step z33x22 hb); clear HO245; clear HO248; clear HO255; clear HO258; clear BK250; clear BK260; clear HB; have HO245 := n0_; have HO248 := n1_; have HO255 := n2_; have HO258 := n3_; have BK250 := n4_; have BK260 := n5_; have HB := n6_; clear n0_ n1_ n2_ n3_ n4_ n5_ n6_; (try clear hb); (try clear hb2); (try clear hk); (try clear hi)))
   go_meet
   case rel => exact ⟨_, (true), (by first | rfl | (simp; done) | (simp [*]; done)), H', ⟨by first | omega | exact Nat.le_refl _⟩, ⟨by (with_reducible repeat (first | apply Kd.R_alloc | apply Kd.R_drewN | apply Kd.R_drew)); exact Kd.R_mono HO245.out (fun _ hk => hk.2)⟩, ⟨by (with_reducible repeat (first | apply Kd.R_alloc | apply Kd.R_drewN | apply Kd.R_drew)); exact Kd.R_mono HO248.out (fun _ hk => hk.2)⟩, ⟨by (with_reducible repeat (first | apply Kd.R_alloc | apply Kd.R_drewN | apply Kd.R_drew)); exact Kd.R_mono HO255.out (fun _ hk => hk.2)⟩, ⟨by (with_reducible repeat (first | apply Kd.R_alloc | apply Kd.R_drewN | apply Kd.R_drew)); exact Kd.R_mono HO258.out (fun _ hk => hk.2)⟩, ⟨by (with_reducible repeat (first | refine blk_drewN ?_ _ | refine blk_drew ?_ | refine blk_alloc ?_ _)); exact BK250.out⟩, ⟨by (with_reducible repeat (first | refine blk_drewN ?_ _ | refine blk_drew ?_ | refine blk_alloc ?_ _)); exact BK260.out⟩, ⟨by repeat (first | (with_reducible first | exact HB.out | apply below_alloc | apply pw_below_drewN | apply below_drew1 | refine below_set ?_ GE250.out | refine below_set ?_ GE260.out) | exact HB.out)⟩⟩
 case rest =>
  clear HC4
  try clear c1
  try clear c2
  try clear p2
  try clear c4
  try clear c12
  try clear c17
  try clear c18
  try clear c22
  try clear c24
  try clear c25
  try clear hcz13_0
  try clear hcz13_1
  try clear hcz13_2
  try clear hcz13_3
  try clear hcz19_0
  try clear hcz19_1
  try clear hcz19_2
  try clear hcz19_3
  try clear hcz20_0
  try clear hcz20_1
  try clear hcz20_2
  try clear hcz20_3
  try clear hcz23_0
  try clear hcz23_1
  try clear hcz23_2
  try clear hcz23_3
  try clear hcz24_0
  try clear hcz24_1
  try clear hcz24_2
  try clear hcz24_3
  try clear hcz7_0
  try clear hcz7_1
  try clear hcz7_2
  try clear hcz7_3
  try clear hfz13_0
  try clear hfz13_1
  try clear hfz13_2
  try clear hfz13_3
  try clear hfz19_0
  try clear hfz19_1
  try clear hfz19_2
  try clear hfz19_3
  try clear hfz20_0
  try clear hfz20_1
  try clear hfz20_2
  try clear hfz20_3
  try clear hfz23_0
  try clear hfz23_1
  try clear hfz23_2
  try clear hfz23_3
  try clear hfz24_0
  try clear hfz24_1
  try clear hfz24_2
  try clear hfz24_3
  try clear hfz7_0
  try clear hfz7_1
  try clear hfz7_2
  try clear hfz7_3
  obtain ⟨kq, x29_3, rfl, HA, HJ3, HO_251002, HO_251003, HO_261002, HO_261003, BK250, BK260, HB⟩ := hcut
  cases kq with
  | zero => exact absurd HA.out (by simp [laws_FnExactServNew.j0])
  | succ kj3 =>
   have H := HA.out
   clear HA
   simp only [laws_FnExactServNew.j0] at H
   by_cases c26 : x29_3 = true
   ·subst c26
    rw [if_pos rfl] at H
    obtain rfl := Option.some.inj H
    go_wp2
    go_ret
    exact ⟨by first | rfl | (simp [errW_none, errW_some] <;> rfl) | (simp [*, errW_none, errW_some] <;> rfl), by repeat (first | (with_reducible first | exact HB.out | apply below_alloc | apply pw_below_drewN | apply below_drew1 | refine below_set ?_ GE250.out | refine below_set ?_ GE260.out) | exact HB.out)⟩
   ·replace c26 := Bool.eq_false_iff.mpr c26
    subst c26
    rw [if_neg (show ¬ (false = true) by decide)] at H
    replace H := Option.bind_eq_some_iff.mp H
    obtain ⟨⟨t262, t263, t264⟩, A270, H⟩ := H
    replace H : ((laws_heldServ.f kj3 t251 t252 t263 t264 1).bind fun t265 => (if t265 < 0 then (some false) else (if t265 = t262 then ((impl_ServNew.f a0).bind fun bt266 => ((laws_eqServ.f kj3 bt266.1 bt266.2.1 bt266.2.2.1 bt266.2.2.2.1 t241 t242 t243 t246).bind fun t276 => (if t276 = true then (laws_FnExactServNew.j1 kj3 t262 (bt266.2.2.2.2 != t249) t251 t252 t263 t264) else (laws_FnExactServNew.j1 kj3 t262 true t251 t252 t263 t264)))) else (some false)))) = some r := H
    have A27 := Aside0.mk A270
    clear A270
    replace H := Option.bind_eq_some_iff.mp H
    obtain ⟨t265, A280, H⟩ := H
    replace H : (if t265 < 0 then (some false) else (if t265 = t262 then ((impl_ServNew.f a0).bind fun bt266 => ((laws_eqServ.f kj3 bt266.1 bt266.2.1 bt266.2.2.1 bt266.2.2.2.1 t241 t242 t243 t246).bind fun t276 => (if t276 = true then (laws_FnExactServNew.j1 kj3 t262 (bt266.2.2.2.2 != t249) t251 t252 t263 t264) else (laws_FnExactServNew.j1 kj3 t262 true t251 t252 t263 t264)))) else (some false))) = some r := H
    have A28 := Aside0.mk A280
    clear A280
    by_cases c29 : t265 < 0
    ·rw [if_pos c29] at H
     have c29b0 : decide (t265 < 0) = true := decide_eq_true c29
     clear c29
     obtain rfl := Option.some.inj H
     have hnb30 := NB260_250.out
     have hnc30 := NB250_260.out
     have hcz31_0 : wc.cell? ⟨gb260, 0, none⟩ = some (.int .i64 t251) := (blk_cell BK260.out 0).trans rfl
     have hcz31_1 : wc.cell? ⟨gb260, 1, none⟩ = some (.int .i64 t252) := (blk_cell BK260.out 1).trans rfl
     have hcz31_2 : wc.cell? ⟨gb260, 2, none⟩ = some (.slice Ao14 t253.length co14) := (blk_cell BK260.out 2).trans rfl
     have hcz31_3 : wc.cell? ⟨gb260, 3, none⟩ = some (.slice Ao15 t256.length co15) := (blk_cell BK260.out 3).trans rfl
     have hfz31_0 := blk_frozen BK260.out 0
     have hfz31_1 := blk_frozen BK260.out 1
     have hfz31_2 := blk_frozen BK260.out 2
     have hfz31_3 := blk_frozen BK260.out 3
     go_wp2_with (first | ((with_reducible refine gate_callee (f := 27) rfl ?_); refine goesL_ (some 32) rfl rfl Try.func27 (by kernel_rfl) rfl #[.agg #[.int .i64 t251, .int .i64 t252, .slice Ao14 t253.length co14, .slice Ao15 t256.length co15], .int .i64 1] rfl z33x25 ?_; (with_reducible refine (laws_markServ.calls kj3 t251 t252 (fun k_ => some k_ = (.slice Ao14 t253.length co14 : Value).ownBlock) (.slice Ao14 t253.length co14) t253 (fun k_ => some k_ = (.slice Ao15 t256.length co15 : Value).ownBlock) (.slice Ao15 t256.length co15) t256 1 t262 t263 t264 w _ ?side1 ?side2 ?side3 A27.out).mono ?_); (case side1 => repeat (first | (with_reducible first | exact HB.out | apply below_alloc | apply pw_below_drewN | apply below_drew1 | refine below_set ?_ GE250.out | refine below_set ?_ GE260.out) | exact HB.out)); (case side2 => exact Kd.R_tight rfl HO_261002.out); (case side3 => exact Kd.R_tight rfl HO_261003.out); rintro e w32 ⟨rfl, hy0, hy1, hb, hkp⟩; refine ⟨_, rfl, ?_⟩; have n0_ := Aside0.mk (Kd.R_mono (ok' := fun k_ => some k_ ≠ (.slice Ao14 t253.length co14 : Value).ownBlock) (Kd.R_keptB ((Kd.R_apart' HO_251002.out (Kd.R_typed HO_261003.out) (by decide))) hkp (fun k_ hk_ hs_ => Or.elim hs_ (fun e_ => (hk_.1) e_) (fun e_ => (hk_.2) e_))) (fun k_ hk_ => hk_.1.1)); have n1_ := Aside0.mk (Kd.R_mono (ok' := fun k_ => some k_ ≠ (.slice Ao15 t256.length co15 : Value).ownBlock) (Kd.R_keptB ((Kd.R_apart' HO_251003.out (Kd.R_typed HO_261002.out) (by decide))) hkp (fun k_ hk_ hs_ => Or.elim hs_ (fun e_ => (hk_.2) e_) (fun e_ => (hk_.1) e_))) (fun k_ hk_ => hk_.1.1)); have n2_ := Aside0.mk (Kd.R_reok rfl hy0 (fun k_ e_ => HO_261002.out.1 k_ e_)); have n3_ := Aside0.mk (Kd.R_reok rfl hy1 (fun k_ e_ => HO_261003.out.1 k_ e_)); have n4_ := Aside0.mk (blk_kept z33x27 hkp (fun hs_ => Or.elim hs_ (fun e_ => (fun e_ => (Kd.R_ne HO_261002.out BK250.out (by decide)) e_) e_) (fun e_ => (fun e_ => (Kd.R_ne HO_261003.out BK250.out (by decide)) e_) e_))); have n5_ := Aside0.mk (blk_kept z33x28 hkp (fun hs_ => Or.elim hs_ (fun e_ => (fun e_ => (Kd.R_ne HO_261002.out BK260.out (by decide)) e_) e_) (fun e_ => (fun e_ => (Kd.R_ne HO_261003.out BK260.out (by decide)) e_) e_))); have n6_ := Aside0.mk (hb); clear HO_251002; clear HO_251003; clear HO_261002; clear HO_261003; clear BK250; clear BK260; clear HB; have HO_251002 := n0_; have HO_251003 := n1_; have HO_261002 := n2_; have HO_261003 := n3_; have BK250 := n4_; have BK260 := n5_; have HB := n6_; clear n0_ n1_ n2_ n3_ n4_ n5_ n6_; (try clear hb); (try clear hkp); (try clear hy0); (try clear hy1); have hcz33_0 : w32.cell? ⟨gb260, 0, none⟩ = some (.int .i64 t251) := (blk_cell BK260.out 0).trans rfl; have hcz33_1 : w32.cell? ⟨gb260, 1, none⟩ = some (.int .i64 t252) := (blk_cell BK260.out 1).trans rfl; have hcz33_2 : w32.cell? ⟨gb260, 2, none⟩ = some (.slice Ao14 t253.length co14) := (blk_cell BK260.out 2).trans rfl; have hcz33_3 : w32.cell? ⟨gb260, 3, none⟩ = some (.slice Ao15 t256.length co15) := (blk_cell BK260.out 3).trans rfl; have hfz33_0 := blk_frozen BK260.out 0; have hfz33_1 := blk_frozen BK260.out 1; have hfz33_2 := blk_frozen BK260.out 2; have hfz33_3 := blk_frozen BK260.out 3) | ((with_reducible refine gate_callee (f := 28) rfl ?_); refine goesL_ (some 35) rfl rfl Try.func28 (by kernel_rfl) rfl #[.agg #[.int .i64 t251, .int .i64 t252, .slice Ao14 t263.length co14, .slice Ao15 t264.length co15], .int .i64 1] rfl z33x17 ?_; (with_reducible refine (laws_heldServ.calls kj3 t251 t252 _ _ t263 _ _ t264 1 t265 _ ?side1 ?side2 ?side3 ?side4 A28.out).mono ?_); (case side1 => repeat (first | exact (Kd.R_reads' HO_261002.out).2.2 | (with_reducible refine Kd.C_alloc ?_ _) | (with_reducible refine Kd.C_drewN ?_ _) | (with_reducible refine Kd.C_drew ?_))); (case side2 => rw [show t263.length = t253.length from (Kd.R_reads' HO_261002.out).1.symm]; exact (Kd.R_reads' HO_261002.out).2.1); (case side3 => repeat (first | exact (Kd.R_reads' HO_261003.out).2.2 | (with_reducible refine Kd.C_alloc ?_ _) | (with_reducible refine Kd.C_drewN ?_ _) | (with_reducible refine Kd.C_drew ?_))); (case side4 => rw [show t264.length = t256.length from (Kd.R_reads' HO_261003.out).1.symm]; exact (Kd.R_reads' HO_261003.out).2.1); rintro e w34 ⟨rfl, hb⟩; refine ⟨_, rfl, ?_⟩; have n0_ := Aside0.mk (Kd.R_below z33x30 hb); have n1_ := Aside0.mk (Kd.R_below z33x31 hb); have n2_ := Aside0.mk (Kd.R_below z33x32 hb); have n3_ := Aside0.mk (Kd.R_below z33x33 hb); have n4_ := Aside0.mk (blk_below (g := gb250) (o := .cells #[.int .i64 t241, .int .i64 t242, .slice Ao8 t243.length co8, .slice Ao9 t246.length co9] 35 (0, 0)) z33x27 hb); have n5_ := Aside0.mk (blk_below (g := gb260) (o := .cells #[.int .i64 t251, .int .i64 t252, .slice Ao14 t253.length co14, .slice Ao15 t256.length co15] 35 (0, 0)) z33x28 hb); have n6_ := Aside0.mk (below_step z33x22 hb); clear HO_251002; clear HO_251003; clear HO_261002; clear HO_261003; clear BK250; clear BK260; clear HB; have HO_251002 := n0_; have HO_251003 := n1_; have HO_261002 := n2_; have HO_261003 := n3_; have BK250 := n4_; have BK260 := n5_; have HB := n6_; clear n0_ n1_ n2_ n3_ n4_ n5_ n6_; (try clear hb); (try clear hb2); (try clear hk); (try clear hi)))
     go_ret
     exact ⟨by first | rfl | (simp [errW_none, errW_some] <;> rfl) | (simp [*, errW_none, errW_some] <;> rfl), by repeat (first | (with_reducible first | exact HB.out | apply below_alloc | apply pw_below_drewN | apply below_drew1 | refine below_set ?_ GE250.out | refine below_set ?_ GE260.out) | exact HB.out)⟩
    ·rw [if_neg c29] at H
     have c29b0 : decide (t265 < 0) = false := decide_eq_false c29
     clear c29
     by_cases c35 : t265 = t262
     ·rw [if_pos c35] at H
      have c35b0 : (t265 == t262) = true := beq_iff_eq.mpr c35
      have c35b1 : (t265 != t262) = false := bne_eq_false_iff_eq.mpr c35
      clear c35
      replace H := Option.bind_eq_some_iff.mp H
      obtain ⟨⟨t266, t267, t268, t271, t274⟩, A360, H⟩ := H
      replace H : ((laws_eqServ.f kj3 t266 t267 t268 t271 t241 t242 t243 t246).bind fun t276 => (if t276 = true then (laws_FnExactServNew.j1 kj3 t262 (t274 != t249) t251 t252 t263 t264) else (laws_FnExactServNew.j1 kj3 t262 true t251 t252 t263 t264))) = some r := H
      have A36 := Aside0.mk A360
      clear A360
      have HC37 := Aside0.mk H
      clear H
      have hnb38 := NB260_250.out
      have hnc38 := NB250_260.out
      have hcz39_0 : wc.cell? ⟨gb260, 0, none⟩ = some (.int .i64 t251) := (blk_cell BK260.out 0).trans rfl
      have hcz39_1 : wc.cell? ⟨gb260, 1, none⟩ = some (.int .i64 t252) := (blk_cell BK260.out 1).trans rfl
      have hcz39_2 : wc.cell? ⟨gb260, 2, none⟩ = some (.slice Ao14 t253.length co14) := (blk_cell BK260.out 2).trans rfl
      have hcz39_3 : wc.cell? ⟨gb260, 3, none⟩ = some (.slice Ao15 t256.length co15) := (blk_cell BK260.out 3).trans rfl
      have hfz39_0 := blk_frozen BK260.out 0
      have hfz39_1 := blk_frozen BK260.out 1
      have hfz39_2 := blk_frozen BK260.out 2
      have hfz39_3 := blk_frozen BK260.out 3
      go_upto_region 14 with (first | ((with_reducible refine gate_callee (f := 27) rfl ?_); refine goesL_ (some 32) rfl rfl Try.func27 (by kernel_rfl) rfl #[.agg #[.int .i64 t251, .int .i64 t252, .slice Ao14 t253.length co14, .slice Ao15 t256.length co15], .int .i64 1] rfl z33x25 ?_; (with_reducible refine (laws_markServ.calls kj3 t251 t252 (fun k_ => some k_ = (.slice Ao14 t253.length co14 : Value).ownBlock) (.slice Ao14 t253.length co14) t253 (fun k_ => some k_ = (.slice Ao15 t256.length co15 : Value).ownBlock) (.slice Ao15 t256.length co15) t256 1 t262 t263 t264 w _ ?side1 ?side2 ?side3 A27.out).mono ?_); (case side1 => repeat (first | (with_reducible first | exact HB.out | apply below_alloc | apply pw_below_drewN | apply below_drew1 | refine below_set ?_ GE250.out | refine below_set ?_ GE260.out) | exact HB.out)); (case side2 => exact Kd.R_tight rfl HO_261002.out); (case side3 => exact Kd.R_tight rfl HO_261003.out); rintro e w40 ⟨rfl, hy0, hy1, hb, hkp⟩; refine ⟨_, rfl, ?_⟩; have n0_ := Aside0.mk (Kd.R_mono (ok' := fun k_ => some k_ ≠ (.slice Ao14 t253.length co14 : Value).ownBlock) (Kd.R_keptB ((Kd.R_apart' HO_251002.out (Kd.R_typed HO_261003.out) (by decide))) hkp (fun k_ hk_ hs_ => Or.elim hs_ (fun e_ => (hk_.1) e_) (fun e_ => (hk_.2) e_))) (fun k_ hk_ => hk_.1.1)); have n1_ := Aside0.mk (Kd.R_mono (ok' := fun k_ => some k_ ≠ (.slice Ao15 t256.length co15 : Value).ownBlock) (Kd.R_keptB ((Kd.R_apart' HO_251003.out (Kd.R_typed HO_261002.out) (by decide))) hkp (fun k_ hk_ hs_ => Or.elim hs_ (fun e_ => (hk_.2) e_) (fun e_ => (hk_.1) e_))) (fun k_ hk_ => hk_.1.1)); have n2_ := Aside0.mk (Kd.R_reok rfl hy0 (fun k_ e_ => HO_261002.out.1 k_ e_)); have n3_ := Aside0.mk (Kd.R_reok rfl hy1 (fun k_ e_ => HO_261003.out.1 k_ e_)); have n4_ := Aside0.mk (blk_kept z33x27 hkp (fun hs_ => Or.elim hs_ (fun e_ => (fun e_ => (Kd.R_ne HO_261002.out BK250.out (by decide)) e_) e_) (fun e_ => (fun e_ => (Kd.R_ne HO_261003.out BK250.out (by decide)) e_) e_))); have n5_ := Aside0.mk (blk_kept z33x28 hkp (fun hs_ => Or.elim hs_ (fun e_ => (fun e_ => (Kd.R_ne HO_261002.out BK260.out (by decide)) e_) e_) (fun e_ => (fun e_ => (Kd.R_ne HO_261003.out BK260.out (by decide)) e_) e_))); have n6_ := Aside0.mk (hb); clear HO_251002; clear HO_251003; clear HO_261002; clear HO_261003; clear BK250; clear BK260; clear HB; have HO_251002 := n0_; have HO_251003 := n1_; have HO_261002 := n2_; have HO_261003 := n3_; have BK250 := n4_; have BK260 := n5_; have HB := n6_; clear n0_ n1_ n2_ n3_ n4_ n5_ n6_; (try clear hb); (try clear hkp); (try clear hy0); (try clear hy1); have hcz41_0 : w40.cell? ⟨gb260, 0, none⟩ = some (.int .i64 t251) := (blk_cell BK260.out 0).trans rfl; have hcz41_1 : w40.cell? ⟨gb260, 1, none⟩ = some (.int .i64 t252) := (blk_cell BK260.out 1).trans rfl; have hcz41_2 : w40.cell? ⟨gb260, 2, none⟩ = some (.slice Ao14 t253.length co14) := (blk_cell BK260.out 2).trans rfl; have hcz41_3 : w40.cell? ⟨gb260, 3, none⟩ = some (.slice Ao15 t256.length co15) := (blk_cell BK260.out 3).trans rfl; have hfz41_0 := blk_frozen BK260.out 0; have hfz41_1 := blk_frozen BK260.out 1; have hfz41_2 := blk_frozen BK260.out 2; have hfz41_3 := blk_frozen BK260.out 3) | ((with_reducible refine gate_callee (f := 28) rfl ?_); refine goesL_ (some 35) rfl rfl Try.func28 (by kernel_rfl) rfl #[.agg #[.int .i64 t251, .int .i64 t252, .slice Ao14 t263.length co14, .slice Ao15 t264.length co15], .int .i64 1] rfl z33x17 ?_; (with_reducible refine (laws_heldServ.calls kj3 t251 t252 _ _ t263 _ _ t264 1 t265 _ ?side1 ?side2 ?side3 ?side4 A28.out).mono ?_); (case side1 => repeat (first | exact (Kd.R_reads' HO_261002.out).2.2 | (with_reducible refine Kd.C_alloc ?_ _) | (with_reducible refine Kd.C_drewN ?_ _) | (with_reducible refine Kd.C_drew ?_))); (case side2 => rw [show t263.length = t253.length from (Kd.R_reads' HO_261002.out).1.symm]; exact (Kd.R_reads' HO_261002.out).2.1); (case side3 => repeat (first | exact (Kd.R_reads' HO_261003.out).2.2 | (with_reducible refine Kd.C_alloc ?_ _) | (with_reducible refine Kd.C_drewN ?_ _) | (with_reducible refine Kd.C_drew ?_))); (case side4 => rw [show t264.length = t256.length from (Kd.R_reads' HO_261003.out).1.symm]; exact (Kd.R_reads' HO_261003.out).2.1); rintro e w42 ⟨rfl, hb⟩; refine ⟨_, rfl, ?_⟩; have n0_ := Aside0.mk (Kd.R_below z33x30 hb); have n1_ := Aside0.mk (Kd.R_below z33x31 hb); have n2_ := Aside0.mk (Kd.R_below z33x32 hb); have n3_ := Aside0.mk (Kd.R_below z33x33 hb); have n4_ := Aside0.mk (blk_below (g := gb250) (o := .cells #[.int .i64 t241, .int .i64 t242, .slice Ao8 t243.length co8, .slice Ao9 t246.length co9] 35 (0, 0)) z33x27 hb); have n5_ := Aside0.mk (blk_below (g := gb260) (o := .cells #[.int .i64 t251, .int .i64 t252, .slice Ao14 t253.length co14, .slice Ao15 t256.length co15] 35 (0, 0)) z33x28 hb); have n6_ := Aside0.mk (below_step z33x22 hb); clear HO_251002; clear HO_251003; clear HO_261002; clear HO_261003; clear BK250; clear BK260; clear HB; have HO_251002 := n0_; have HO_251003 := n1_; have HO_261002 := n2_; have HO_261003 := n3_; have BK250 := n4_; have BK260 := n5_; have HB := n6_; clear n0_ n1_ n2_ n3_ n4_ n5_ n6_; (try clear hb); (try clear hb2); (try clear hk); (try clear hi)) | ((with_reducible refine gate_callee (f := 25) rfl ?_); refine goesL_ (some 43) rfl rfl Try.func25 (by kernel_rfl) rfl #[.int .i64 a0] rfl z33x25 ?_; (with_reducible refine (impl_ServNew.calls a0 t266 t267 t268 t271 t274 _ A36.out).mono ?_); rintro e w43 ⟨v269, v272, rfl, ho0, ho1, hb⟩; refine ⟨_, rfl, ?_⟩; have n0_ := Aside0.mk (Kd.R_elder' z33x30 (Kd.R_base ho0) hb); have n1_ := Aside0.mk (Kd.R_elder' z33x31 (Kd.R_base ho1) hb); have n2_ := Aside0.mk (Kd.R_elder' z33x32 (Kd.R_base ho0) hb); have n3_ := Aside0.mk (Kd.R_elder' z33x33 (Kd.R_base ho1) hb); have n4_ := Aside0.mk (Kd.R_lower (Kd.R_new' (Kd.R_new' ho0 (Kd.R_lt z33x30)) (Kd.R_lt z33x32)) (below_size z33x22)); have n5_ := Aside0.mk (Kd.R_lower (Kd.R_new' (Kd.R_new' ho1 (Kd.R_lt z33x31)) (Kd.R_lt z33x33)) (below_size z33x22)); have n6_ := Aside0.mk (blk_below (g := gb250) (o := .cells #[.int .i64 t241, .int .i64 t242, .slice Ao8 t243.length co8, .slice Ao9 t246.length co9] 35 (0, 0)) z33x27 hb); have n7_ := Aside0.mk (blk_below (g := gb260) (o := .cells #[.int .i64 t251, .int .i64 t252, .slice Ao14 t253.length co14, .slice Ao15 t256.length co15] 35 (0, 0)) z33x28 hb); have n8_ := Aside0.mk (below_step z33x22 hb); clear HO_251002; clear HO_251003; clear HO_261002; clear HO_261003; clear BK250; clear BK260; clear HB; have HO_251002 := n0_; have HO_251003 := n1_; have HO_261002 := n2_; have HO_261003 := n3_; have HO270 := n4_; have HO273 := n5_; have BK250 := n6_; have BK260 := n7_; have HB := n8_; clear n0_ n1_ n2_ n3_ n4_ n5_ n6_ n7_ n8_; (try clear hb); (try clear hb2); (try clear hk); (try clear hi); (try clear ho0); (try clear ho1)) | ((with_reducible refine gate_dst (N := 9) rfl ?_); refine box_event ?hg (N := 9) ?hd (cs := #[.int .i64 0, .int .i64 0, .slice none 0 0, .slice none 0 0]) (t := 35) ?hr ?_; (case hd => rfl); (case hg => rfl); (case hr => first | (go_simp; done) | (go_simp; rfl)); intro gb275 hg w44 hbox hb; have n0_ := Aside0.mk (Kd.R_below z33x30 hb); have n1_ := Aside0.mk (Kd.R_below z33x31 hb); have n2_ := Aside0.mk (Kd.R_below z33x32 hb); have n3_ := Aside0.mk (Kd.R_below z33x33 hb); have n4_ := Aside0.mk (Kd.R_below (by (with_reducible repeat (first | apply Kd.R_alloc | apply Kd.R_drewN | apply Kd.R_drew)); exact HO270.out) hb); have n5_ := Aside0.mk (Kd.R_below (by (with_reducible repeat (first | apply Kd.R_alloc | apply Kd.R_drewN | apply Kd.R_drew)); exact HO273.out) hb); have n6_ := Aside0.mk (blk_below (g := gb250) (o := .cells #[.int .i64 t241, .int .i64 t242, .slice Ao8 t243.length co8, .slice Ao9 t246.length co9] 35 (0, 0)) z33x27 hb); have n7_ := Aside0.mk (blk_below (g := gb260) (o := .cells #[.int .i64 t251, .int .i64 t252, .slice Ao14 t253.length co14, .slice Ao15 t256.length co15] 35 (0, 0)) z33x28 hb); have n8_ := Aside0.mk (below_step z33x22 hb); have n9_ := Aside0.mk (hbox); have n10_ := Aside0.mk ((z33x21 : w.heap.size ≤ gb275)); have n11_ := Aside0.mk ((z33x21 : w.heap.size ≤ gb275)); have n12_ := Aside0.mk ((z33x19 : gb250 ≠ gb275)); have n13_ := Aside0.mk ((z33x18 : gb275 ≠ gb250)); have n14_ := Aside0.mk ((by rw [hg]; exact Nat.ne_of_lt (blk_lt (g := gb260) (o := .cells #[.int .i64 t251, .int .i64 t252, .slice Ao14 t253.length co14, .slice Ao15 t256.length co15] 35 (0, 0)) z33x28) : gb260 ≠ gb275)); have n15_ := Aside0.mk ((by rw [hg]; exact Nat.ne_of_gt (blk_lt (g := gb260) (o := .cells #[.int .i64 t251, .int .i64 t252, .slice Ao14 t253.length co14, .slice Ao15 t256.length co15] 35 (0, 0)) z33x28) : gb275 ≠ gb260)); clear HO_251002; clear HO_251003; clear HO_261002; clear HO_261003; clear HO270; clear HO273; clear BK250; clear BK260; clear HB; have HO_251002 := n0_; have HO_251003 := n1_; have HO_261002 := n2_; have HO_261003 := n3_; have HO270 := n4_; have HO273 := n5_; have BK250 := n6_; have BK260 := n7_; have HB := n8_; have BK275 := n9_; have GW275 := n10_; have GE275 := n11_; have NB250_275 := n12_; have NB275_250 := n13_; have NB260_275 := n14_; have NB275_260 := n15_; clear n0_ n1_ n2_ n3_ n4_ n5_ n6_ n7_ n8_ n9_ n10_ n11_ n12_ n13_ n14_ n15_; clear hb hbox hg; have hnb45 := NB275_250.out; have hnc45 := NB250_275.out; have hnb46 := NB275_260.out; have hnc46 := NB260_275.out; have hcz47_0 : w44.cell? ⟨gb275, 0, none⟩ = some (.int .i64 0) := (blk_cell BK275.out 0).trans rfl; have hcz47_1 : w44.cell? ⟨gb275, 1, none⟩ = some (.int .i64 0) := (blk_cell BK275.out 1).trans rfl; have hcz47_2 : w44.cell? ⟨gb275, 2, none⟩ = some (.slice none 0 0) := (blk_cell BK275.out 2).trans rfl; have hcz47_3 : w44.cell? ⟨gb275, 3, none⟩ = some (.slice none 0 0) := (blk_cell BK275.out 3).trans rfl; have hfz47_0 := blk_frozen BK275.out 0; have hfz47_1 := blk_frozen BK275.out 1; have hfz47_2 := blk_frozen BK275.out 2; have hfz47_3 := blk_frozen BK275.out 3; obtain ⟨Ao48, co48, eo48⟩ := Kd.R_slice HO270.out; subst eo48; obtain ⟨Ao49, co49, eo49⟩ := Kd.R_slice HO273.out; subst eo49))
      (try simp only [Act.put, List.setIfInBounds_toArray, List.set_cons_zero, List.set_cons_succ])
      go_cut [54] (fun v54 wc => ∃ (kq : Nat) (x54_36 : Bool), v54 = .bool x54_36 ∧ Aside0 (laws_FnExactServNew.j1 kq t262 x54_36 t251 t252 t263 t264 = some r) ∧ Aside0 (kq ≤ kj3) ∧ Aside0 (Kd.R k57 57 wc w.heap.size (fun k_ => some k_ ≠ ((.slice Ao14 t253.length co14) : Value).ownBlock ∧ some k_ ≠ ((.slice Ao48 t268.length co48) : Value).ownBlock) (.slice Ao8 t243.length co8) t243) ∧ Aside0 (Kd.R k125 125 wc w.heap.size (fun k_ => some k_ ≠ ((.slice Ao15 t256.length co15) : Value).ownBlock ∧ some k_ ≠ ((.slice Ao49 t271.length co49) : Value).ownBlock) (.slice Ao9 t246.length co9) t246) ∧ Aside0 (Kd.R k57 57 wc w.heap.size (fun k_ => some k_ ≠ ((.slice Ao8 t243.length co8) : Value).ownBlock ∧ some k_ ≠ ((.slice Ao48 t268.length co48) : Value).ownBlock) (.slice Ao14 t253.length co14) t263) ∧ Aside0 (Kd.R k125 125 wc w.heap.size (fun k_ => some k_ ≠ ((.slice Ao9 t246.length co9) : Value).ownBlock ∧ some k_ ≠ ((.slice Ao49 t271.length co49) : Value).ownBlock) (.slice Ao15 t256.length co15) t264) ∧ Aside0 (Kd.R k57 57 wc w.heap.size (fun k_ => some k_ ≠ ((.slice Ao8 t243.length co8) : Value).ownBlock ∧ some k_ ≠ ((.slice Ao14 t253.length co14) : Value).ownBlock) (.slice Ao48 t268.length co48) t268) ∧ Aside0 (Kd.R k125 125 wc w.heap.size (fun k_ => some k_ ≠ ((.slice Ao9 t246.length co9) : Value).ownBlock ∧ some k_ ≠ ((.slice Ao15 t256.length co15) : Value).ownBlock) (.slice Ao49 t271.length co49) t271) ∧ Aside0 (wc.heap[gb250]? = some (.cells #[.int .i64 t241, .int .i64 t242, (.slice Ao8 t243.length co8), (.slice Ao9 t246.length co9)] 35 (0, 0))) ∧ Aside0 (wc.heap[gb260]? = some (.cells #[.int .i64 t251, .int .i64 t252, (.slice Ao14 t253.length co14), (.slice Ao15 t256.length co15)] 35 (0, 0))) ∧ Aside0 (wc.heap[gb275]? = some (.cells #[.int .i64 t266, .int .i64 t267, (.slice Ao48 t268.length co48), (.slice Ao49 t271.length co49)] 35 (0, 0))) ∧ Aside0 (Below w.heap.size w wc))
      case first =>
       have H := HC37.out
       clear HC37
       replace H := Option.bind_eq_some_iff.mp H
       obtain ⟨t276, A500, H⟩ := H
       replace H : (if t276 = true then (laws_FnExactServNew.j1 kj3 t262 (t274 != t249) t251 t252 t263 t264) else (laws_FnExactServNew.j1 kj3 t262 true t251 t252 t263 t264)) = some r := H
       have A50 := Aside0.mk A500
       clear A500
       by_cases c51 : t276 = true
       ·subst c51
        rw [if_pos rfl] at H
        have H' := Aside0.mk H
        clear H
        have hnb52 := NB275_250.out
        have hnc52 := NB250_275.out
        have hnb53 := NB275_260.out
        have hnc53 := NB260_275.out
        have hcz54_0 : w44.cell? ⟨gb275, 0, none⟩ = some (.int .i64 0) := (blk_cell BK275.out 0).trans rfl
        have hcz54_1 : w44.cell? ⟨gb275, 1, none⟩ = some (.int .i64 0) := (blk_cell BK275.out 1).trans rfl
        have hcz54_2 : w44.cell? ⟨gb275, 2, none⟩ = some (.slice none 0 0) := (blk_cell BK275.out 2).trans rfl
        have hcz54_3 : w44.cell? ⟨gb275, 3, none⟩ = some (.slice none 0 0) := (blk_cell BK275.out 3).trans rfl
        have hfz54_0 := blk_frozen BK275.out 0
        have hfz54_1 := blk_frozen BK275.out 1
        have hfz54_2 := blk_frozen BK275.out 2
        have hfz54_3 := blk_frozen BK275.out 3
        have hnb55 := NB250_260.out
        have hnc55 := NB260_250.out
        have hcz56_0 : w44.cell? ⟨gb250, 0, none⟩ = some (.int .i64 t241) := (blk_cell BK250.out 0).trans rfl
        have hcz56_1 : w44.cell? ⟨gb250, 1, none⟩ = some (.int .i64 t242) := (blk_cell BK250.out 1).trans rfl
        have hcz56_2 : w44.cell? ⟨gb250, 2, none⟩ = some (.slice Ao8 t243.length co8) := (blk_cell BK250.out 2).trans rfl
        have hcz56_3 : w44.cell? ⟨gb250, 3, none⟩ = some (.slice Ao9 t246.length co9) := (blk_cell BK250.out 3).trans rfl
        have hfz56_0 := blk_frozen BK250.out 0
        have hfz56_1 := blk_frozen BK250.out 1
        have hfz56_2 := blk_frozen BK250.out 2
        have hfz56_3 := blk_frozen BK250.out 3
        go_wp2_with (first | ((with_reducible refine gate_callee (f := 26) rfl ?_); refine goesL_ (some 48) rfl rfl Try.func26 (by kernel_rfl) rfl #[.agg #[.int .i64 t266, .int .i64 t267, .slice Ao48 t268.length co48, .slice Ao49 t271.length co49], .agg #[.int .i64 t241, .int .i64 t242, .slice Ao8 t243.length co8, .slice Ao9 t246.length co9]] rfl z33x25 ?_; (with_reducible refine (laws_eqServ.calls kj3 t266 t267 _ _ t268 _ _ t271 t241 t242 _ _ t243 _ _ t246 true _ ?side1 ?side2 ?side3 ?side4 ?side5 ?side6 ?side7 ?side8 A50.out).mono ?_); (case side1 => refine (Kd.R_reads' (e := 57) (base := w.heap.size) (ok := fun k_ => ((True ∧ some k_ ≠ (.slice Ao8 t243.length co8 : Value).ownBlock) ∧ some k_ ≠ (.slice Ao14 t253.length co14 : Value).ownBlock)) (n := t268.length) (c := co48) ?_).2.2; exact z33x13); (case side2 => exact (Kd.R_reads' HO270.out).2.1); (case side3 => refine (Kd.R_reads' (e := 125) (base := w.heap.size) (ok := fun k_ => ((True ∧ some k_ ≠ (.slice Ao9 t246.length co9 : Value).ownBlock) ∧ some k_ ≠ (.slice Ao15 t256.length co15 : Value).ownBlock)) (n := t271.length) (c := co49) ?_).2.2; exact z33x14); (case side4 => exact (Kd.R_reads' HO273.out).2.1); (case side5 => refine (Kd.R_reads' (e := 57) (base := w.heap.size) (ok := fun k_ => (some k_ ≠ (.slice Ao14 t253.length co14 : Value).ownBlock ∧ some k_ ≠ (.slice Ao48 t268.length co48 : Value).ownBlock)) (n := t243.length) (c := co8) ?_).2.2; exact z33x5); (case side6 => exact (Kd.R_reads' HO_251002.out).2.1); (case side7 => refine (Kd.R_reads' (e := 125) (base := w.heap.size) (ok := fun k_ => (some k_ ≠ (.slice Ao15 t256.length co15 : Value).ownBlock ∧ some k_ ≠ (.slice Ao49 t271.length co49 : Value).ownBlock)) (n := t246.length) (c := co9) ?_).2.2; exact z33x6); (case side8 => exact (Kd.R_reads' HO_251003.out).2.1); rintro e w57 ⟨rfl, hb⟩; refine ⟨_, rfl, ?_⟩; have n0_ := Aside0.mk (Kd.R_below z33x5 hb); have n1_ := Aside0.mk (Kd.R_below z33x6 hb); have n2_ := Aside0.mk (Kd.R_below z33x7 hb); have n3_ := Aside0.mk (Kd.R_below z33x8 hb); have n4_ := Aside0.mk (Kd.R_below z33x13 hb); have n5_ := Aside0.mk (Kd.R_below z33x14 hb); have n6_ := Aside0.mk (blk_below (g := gb250) (o := .cells #[.int .i64 t241, .int .i64 t242, .slice Ao8 t243.length co8, .slice Ao9 t246.length co9] 35 (0, 0)) z33x3 hb); have n7_ := Aside0.mk (blk_below (g := gb260) (o := .cells #[.int .i64 t251, .int .i64 t252, .slice Ao14 t253.length co14, .slice Ao15 t256.length co15] 35 (0, 0)) z33x4 hb); have n8_ := Aside0.mk (blk_below (g := gb275) (o := .cells #[.int .i64 t266, .int .i64 t267, .slice Ao48 t268.length co48, .slice Ao49 t271.length co49] 35 (0, 0)) z33x1 hb); have n9_ := Aside0.mk (below_step z33x20 hb); clear HO_251002; clear HO_251003; clear HO_261002; clear HO_261003; clear HO270; clear HO273; clear BK250; clear BK260; clear BK275; clear HB; have HO_251002 := n0_; have HO_251003 := n1_; have HO_261002 := n2_; have HO_261003 := n3_; have HO270 := n4_; have HO273 := n5_; have BK250 := n6_; have BK260 := n7_; have BK275 := n8_; have HB := n9_; clear n0_ n1_ n2_ n3_ n4_ n5_ n6_ n7_ n8_ n9_; (try clear hb); (try clear hb2); (try clear hk); (try clear hi)))
        go_meet
        case rel => exact ⟨_, ((t274 != t249)), (by first | rfl | (simp; done) | (simp [*]; done)), H', ⟨by have := HJ3.out; first | omega | exact Nat.le_refl _⟩, ⟨by (with_reducible repeat (first | apply Kd.R_alloc | apply Kd.R_drewN | apply Kd.R_drew)); exact HO_251002.out⟩, ⟨by (with_reducible repeat (first | apply Kd.R_alloc | apply Kd.R_drewN | apply Kd.R_drew)); exact HO_251003.out⟩, ⟨by (with_reducible repeat (first | apply Kd.R_alloc | apply Kd.R_drewN | apply Kd.R_drew)); exact HO_261002.out⟩, ⟨by (with_reducible repeat (first | apply Kd.R_alloc | apply Kd.R_drewN | apply Kd.R_drew)); exact HO_261003.out⟩, ⟨by (with_reducible repeat (first | apply Kd.R_alloc | apply Kd.R_drewN | apply Kd.R_drew)); exact Kd.R_mono HO270.out (fun _ hk => ⟨hk.1.2, hk.2⟩)⟩, ⟨by (with_reducible repeat (first | apply Kd.R_alloc | apply Kd.R_drewN | apply Kd.R_drew)); exact Kd.R_mono HO273.out (fun _ hk => ⟨hk.1.2, hk.2⟩)⟩, ⟨by (with_reducible repeat (first | refine blk_drewN ?_ _ | refine blk_drew ?_ | refine blk_alloc ?_ _)); exact BK250.out⟩, ⟨by (with_reducible repeat (first | refine blk_drewN ?_ _ | refine blk_drew ?_ | refine blk_alloc ?_ _)); exact BK260.out⟩, ⟨by (with_reducible repeat (first | refine blk_drewN ?_ _ | refine blk_drew ?_ | refine blk_alloc ?_ _)); exact BK275.out⟩, ⟨by repeat (first | (with_reducible first | exact HB.out | apply below_alloc | apply pw_below_drewN | apply below_drew1 | refine below_set ?_ GE250.out | refine below_set ?_ GE260.out | refine below_set ?_ GE275.out) | exact HB.out)⟩⟩
       ·replace c51 := Bool.eq_false_iff.mpr c51
        subst c51
        rw [if_neg (show ¬ (false = true) by decide)] at H
        have H' := Aside0.mk H
        clear H
        have hnb58 := NB275_250.out
        have hnc58 := NB250_275.out
        have hnb59 := NB275_260.out
        have hnc59 := NB260_275.out
        have hcz60_0 : w44.cell? ⟨gb275, 0, none⟩ = some (.int .i64 0) := (blk_cell BK275.out 0).trans rfl
        have hcz60_1 : w44.cell? ⟨gb275, 1, none⟩ = some (.int .i64 0) := (blk_cell BK275.out 1).trans rfl
        have hcz60_2 : w44.cell? ⟨gb275, 2, none⟩ = some (.slice none 0 0) := (blk_cell BK275.out 2).trans rfl
        have hcz60_3 : w44.cell? ⟨gb275, 3, none⟩ = some (.slice none 0 0) := (blk_cell BK275.out 3).trans rfl
        have hfz60_0 := blk_frozen BK275.out 0
        have hfz60_1 := blk_frozen BK275.out 1
        have hfz60_2 := blk_frozen BK275.out 2
        have hfz60_3 := blk_frozen BK275.out 3
        have hnb61 := NB250_260.out
        have hnc61 := NB260_250.out
        have hcz62_0 : w44.cell? ⟨gb250, 0, none⟩ = some (.int .i64 t241) := (blk_cell BK250.out 0).trans rfl
        have hcz62_1 : w44.cell? ⟨gb250, 1, none⟩ = some (.int .i64 t242) := (blk_cell BK250.out 1).trans rfl
        have hcz62_2 : w44.cell? ⟨gb250, 2, none⟩ = some (.slice Ao8 t243.length co8) := (blk_cell BK250.out 2).trans rfl
        have hcz62_3 : w44.cell? ⟨gb250, 3, none⟩ = some (.slice Ao9 t246.length co9) := (blk_cell BK250.out 3).trans rfl
        have hfz62_0 := blk_frozen BK250.out 0
        have hfz62_1 := blk_frozen BK250.out 1
        have hfz62_2 := blk_frozen BK250.out 2
        have hfz62_3 := blk_frozen BK250.out 3
        go_wp2_with (first | ((with_reducible refine gate_callee (f := 26) rfl ?_); refine goesL_ (some 48) rfl rfl Try.func26 (by kernel_rfl) rfl #[.agg #[.int .i64 t266, .int .i64 t267, .slice Ao48 t268.length co48, .slice Ao49 t271.length co49], .agg #[.int .i64 t241, .int .i64 t242, .slice Ao8 t243.length co8, .slice Ao9 t246.length co9]] rfl z33x25 ?_; (with_reducible refine (laws_eqServ.calls kj3 t266 t267 _ _ t268 _ _ t271 t241 t242 _ _ t243 _ _ t246 false _ ?side1 ?side2 ?side3 ?side4 ?side5 ?side6 ?side7 ?side8 A50.out).mono ?_); (case side1 => refine (Kd.R_reads' (e := 57) (base := w.heap.size) (ok := fun k_ => ((True ∧ some k_ ≠ (.slice Ao8 t243.length co8 : Value).ownBlock) ∧ some k_ ≠ (.slice Ao14 t253.length co14 : Value).ownBlock)) (n := t268.length) (c := co48) ?_).2.2; exact z33x13); (case side2 => exact (Kd.R_reads' HO270.out).2.1); (case side3 => refine (Kd.R_reads' (e := 125) (base := w.heap.size) (ok := fun k_ => ((True ∧ some k_ ≠ (.slice Ao9 t246.length co9 : Value).ownBlock) ∧ some k_ ≠ (.slice Ao15 t256.length co15 : Value).ownBlock)) (n := t271.length) (c := co49) ?_).2.2; exact z33x14); (case side4 => exact (Kd.R_reads' HO273.out).2.1); (case side5 => refine (Kd.R_reads' (e := 57) (base := w.heap.size) (ok := fun k_ => (some k_ ≠ (.slice Ao14 t253.length co14 : Value).ownBlock ∧ some k_ ≠ (.slice Ao48 t268.length co48 : Value).ownBlock)) (n := t243.length) (c := co8) ?_).2.2; exact z33x5); (case side6 => exact (Kd.R_reads' HO_251002.out).2.1); (case side7 => refine (Kd.R_reads' (e := 125) (base := w.heap.size) (ok := fun k_ => (some k_ ≠ (.slice Ao15 t256.length co15 : Value).ownBlock ∧ some k_ ≠ (.slice Ao49 t271.length co49 : Value).ownBlock)) (n := t246.length) (c := co9) ?_).2.2; exact z33x6); (case side8 => exact (Kd.R_reads' HO_251003.out).2.1); rintro e w63 ⟨rfl, hb⟩; refine ⟨_, rfl, ?_⟩; have n0_ := Aside0.mk (Kd.R_below z33x5 hb); have n1_ := Aside0.mk (Kd.R_below z33x6 hb); have n2_ := Aside0.mk (Kd.R_below z33x7 hb); have n3_ := Aside0.mk (Kd.R_below z33x8 hb); have n4_ := Aside0.mk (Kd.R_below z33x13 hb); have n5_ := Aside0.mk (Kd.R_below z33x14 hb); have n6_ := Aside0.mk (blk_below (g := gb250) (o := .cells #[.int .i64 t241, .int .i64 t242, .slice Ao8 t243.length co8, .slice Ao9 t246.length co9] 35 (0, 0)) z33x3 hb); have n7_ := Aside0.mk (blk_below (g := gb260) (o := .cells #[.int .i64 t251, .int .i64 t252, .slice Ao14 t253.length co14, .slice Ao15 t256.length co15] 35 (0, 0)) z33x4 hb); have n8_ := Aside0.mk (blk_below (g := gb275) (o := .cells #[.int .i64 t266, .int .i64 t267, .slice Ao48 t268.length co48, .slice Ao49 t271.length co49] 35 (0, 0)) z33x1 hb); have n9_ := Aside0.mk (below_step z33x20 hb); clear HO_251002; clear HO_251003; clear HO_261002; clear HO_261003; clear HO270; clear HO273; clear BK250; clear BK260; clear BK275; clear HB; have HO_251002 := n0_; have HO_251003 := n1_; have HO_261002 := n2_; have HO_261003 := n3_; have HO270 := n4_; have HO273 := n5_; have BK250 := n6_; have BK260 := n7_; have BK275 := n8_; have HB := n9_; clear n0_ n1_ n2_ n3_ n4_ n5_ n6_ n7_ n8_ n9_; (try clear hb); (try clear hb2); (try clear hk); (try clear hi)))
        go_meet
        case rel => exact ⟨_, (true), (by first | rfl | (simp; done) | (simp [*]; done)), H', ⟨by have := HJ3.out; first | omega | exact Nat.le_refl _⟩, ⟨by (with_reducible repeat (first | apply Kd.R_alloc | apply Kd.R_drewN | apply Kd.R_drew)); exact HO_251002.out⟩, ⟨by (with_reducible repeat (first | apply Kd.R_alloc | apply Kd.R_drewN | apply Kd.R_drew)); exact HO_251003.out⟩, ⟨by (with_reducible repeat (first | apply Kd.R_alloc | apply Kd.R_drewN | apply Kd.R_drew)); exact HO_261002.out⟩, ⟨by (with_reducible repeat (first | apply Kd.R_alloc | apply Kd.R_drewN | apply Kd.R_drew)); exact HO_261003.out⟩, ⟨by (with_reducible repeat (first | apply Kd.R_alloc | apply Kd.R_drewN | apply Kd.R_drew)); exact Kd.R_mono HO270.out (fun _ hk => ⟨hk.1.2, hk.2⟩)⟩, ⟨by (with_reducible repeat (first | apply Kd.R_alloc | apply Kd.R_drewN | apply Kd.R_drew)); exact Kd.R_mono HO273.out (fun _ hk => ⟨hk.1.2, hk.2⟩)⟩, ⟨by (with_reducible repeat (first | refine blk_drewN ?_ _ | refine blk_drew ?_ | refine blk_alloc ?_ _)); exact BK250.out⟩, ⟨by (with_reducible repeat (first | refine blk_drewN ?_ _ | refine blk_drew ?_ | refine blk_alloc ?_ _)); exact BK260.out⟩, ⟨by (with_reducible repeat (first | refine blk_drewN ?_ _ | refine blk_drew ?_ | refine blk_alloc ?_ _)); exact BK275.out⟩, ⟨by repeat (first | (with_reducible first | exact HB.out | apply below_alloc | apply pw_below_drewN | apply below_drew1 | refine below_set ?_ GE250.out | refine below_set ?_ GE260.out | refine below_set ?_ GE275.out) | exact HB.out)⟩⟩
      case rest =>
       clear HC37
       try clear c1
       try clear c2
       try clear p2
       try clear c3
       try clear c4
       try clear c5
       try clear c6
       try clear c12
       try clear c17
       try clear c18
       try clear c22
       try clear c24
       try clear c25
       try clear c26
       try clear c27
       try clear c28
       try clear c29
       try clear c29b0
       try clear c30
       try clear c35
       try clear c35b0
       try clear c35b1
       try clear c38
       try clear c45
       try clear c46
       try clear c51
       try clear c52
       try clear c53
       try clear c55
       try clear c58
       try clear c59
       try clear c61
       try clear hcz13_0
       try clear hcz13_1
       try clear hcz13_2
       try clear hcz13_3
       try clear hcz19_0
       try clear hcz19_1
       try clear hcz19_2
       try clear hcz19_3
       try clear hcz20_0
       try clear hcz20_1
       try clear hcz20_2
       try clear hcz20_3
       try clear hcz23_0
       try clear hcz23_1
       try clear hcz23_2
       try clear hcz23_3
       try clear hcz24_0
       try clear hcz24_1
       try clear hcz24_2
       try clear hcz24_3
       try clear hcz31_0
       try clear hcz31_1
       try clear hcz31_2
       try clear hcz31_3
       try clear hcz33_0
       try clear hcz33_1
       try clear hcz33_2
       try clear hcz33_3
       try clear hcz39_0
       try clear hcz39_1
       try clear hcz39_2
       try clear hcz39_3
       try clear hcz41_0
       try clear hcz41_1
       try clear hcz41_2
       try clear hcz41_3
       try clear hcz47_0
       try clear hcz47_1
       try clear hcz47_2
       try clear hcz47_3
       try clear hcz54_0
       try clear hcz54_1
       try clear hcz54_2
       try clear hcz54_3
       try clear hcz56_0
       try clear hcz56_1
       try clear hcz56_2
       try clear hcz56_3
       try clear hcz60_0
       try clear hcz60_1
       try clear hcz60_2
       try clear hcz60_3
       try clear hcz62_0
       try clear hcz62_1
       try clear hcz62_2
       try clear hcz62_3
       try clear hcz7_0
       try clear hcz7_1
       try clear hcz7_2
       try clear hcz7_3
       try clear hfz13_0
       try clear hfz13_1
       try clear hfz13_2
       try clear hfz13_3
       try clear hfz19_0
       try clear hfz19_1
       try clear hfz19_2
       try clear hfz19_3
       try clear hfz20_0
       try clear hfz20_1
       try clear hfz20_2
       try clear hfz20_3
       try clear hfz23_0
       try clear hfz23_1
       try clear hfz23_2
       try clear hfz23_3
       try clear hfz24_0
       try clear hfz24_1
       try clear hfz24_2
       try clear hfz24_3
       try clear hfz31_0
       try clear hfz31_1
       try clear hfz31_2
       try clear hfz31_3
       try clear hfz33_0
       try clear hfz33_1
       try clear hfz33_2
       try clear hfz33_3
       try clear hfz39_0
       try clear hfz39_1
       try clear hfz39_2
       try clear hfz39_3
       try clear hfz41_0
       try clear hfz41_1
       try clear hfz41_2
       try clear hfz41_3
       try clear hfz47_0
       try clear hfz47_1
       try clear hfz47_2
       try clear hfz47_3
       try clear hfz54_0
       try clear hfz54_1
       try clear hfz54_2
       try clear hfz54_3
       try clear hfz56_0
       try clear hfz56_1
       try clear hfz56_2
       try clear hfz56_3
       try clear hfz60_0
       try clear hfz60_1
       try clear hfz60_2
       try clear hfz60_3
       try clear hfz62_0
       try clear hfz62_1
       try clear hfz62_2
       try clear hfz62_3
       try clear hfz7_0
       try clear hfz7_1
       try clear hfz7_2
       try clear hfz7_3
       try clear p2
       obtain ⟨kq, x54_36, rfl, HA, HJ36, HO_251002, HO_251003, HO_261002, HO_261003, HO_276002, HO_276003, BK250, BK260, BK275, HB⟩ := hcut
       have hl261002_36 := (Kd.R_reads' HO_261002.out).1
       rw [hl261002_36] at HO_261002
       (try simp only [hl261002_36])
       (try simp only [hl261002_36] at BK250)
       (try simp only [hl261002_36] at BK260)
       (try simp only [hl261002_36] at BK275)
       (try simp only [hl261002_36] at HO_251002)
       (try simp only [hl261002_36] at HO_251003)
       (try simp only [hl261002_36] at HO_261003)
       (try simp only [hl261002_36] at HO_276002)
       (try simp only [hl261002_36] at HO_276003)
       have hl261003_36 := (Kd.R_reads' HO_261003.out).1
       rw [hl261003_36] at HO_261003
       (try simp only [hl261003_36])
       (try simp only [hl261003_36] at BK250)
       (try simp only [hl261003_36] at BK260)
       (try simp only [hl261003_36] at BK275)
       (try simp only [hl261003_36] at HO_251002)
       (try simp only [hl261003_36] at HO_251003)
       (try simp only [hl261003_36] at HO_261002)
       (try simp only [hl261003_36] at HO_276002)
       (try simp only [hl261003_36] at HO_276003)
       cases kq with
       | zero => exact absurd HA.out (by simp [laws_FnExactServNew.j1])
       | succ kj36 =>
        have H := HA.out
        clear HA
        simp only [laws_FnExactServNew.j1] at H
        by_cases c64 : x54_36 = true
        ·subst c64
         rw [if_pos rfl] at H
         obtain rfl := Option.some.inj H
         go_wp2
         go_ret
         exact ⟨by first | rfl | (simp [errW_none, errW_some] <;> rfl) | (simp [*, errW_none, errW_some] <;> rfl), by repeat (first | (with_reducible first | exact HB.out | apply below_alloc | apply pw_below_drewN | apply below_drew1 | refine below_set ?_ GE250.out | refine below_set ?_ GE260.out | refine below_set ?_ GE275.out) | exact HB.out)⟩
        ·replace c64 := Bool.eq_false_iff.mpr c64
         subst c64
         rw [if_neg (show ¬ (false = true) by decide)] at H
         replace H := Option.bind_eq_some_iff.mp H
         obtain ⟨t277, A650, H⟩ := H
         replace H : (if t277 < 0 then (some false) else (if t277 = t262 then (some true) else (some false))) = some r := H
         have A65 := Aside0.mk A650
         clear A650
         by_cases c66 : t277 < 0
         ·rw [if_pos c66] at H
          have c66b0 : decide (t277 < 0) = true := decide_eq_true c66
          clear c66
          obtain rfl := Option.some.inj H
          have hnb67 := NB260_250.out
          have hnc67 := NB250_260.out
          have hnb68 := NB260_275.out
          have hnc68 := NB275_260.out
          have hcz69_0 : wc.cell? ⟨gb260, 0, none⟩ = some (.int .i64 t251) := (blk_cell BK260.out 0).trans rfl
          have hcz69_1 : wc.cell? ⟨gb260, 1, none⟩ = some (.int .i64 t252) := (blk_cell BK260.out 1).trans rfl
          have hcz69_2 : wc.cell? ⟨gb260, 2, none⟩ = some (.slice Ao14 t263.length co14) := (blk_cell BK260.out 2).trans rfl
          have hcz69_3 : wc.cell? ⟨gb260, 3, none⟩ = some (.slice Ao15 t264.length co15) := (blk_cell BK260.out 3).trans rfl
          have hfz69_0 := blk_frozen BK260.out 0
          have hfz69_1 := blk_frozen BK260.out 1
          have hfz69_2 := blk_frozen BK260.out 2
          have hfz69_3 := blk_frozen BK260.out 3
          go_wp2_with (first | ((with_reducible refine gate_callee (f := 28) rfl ?_); refine goesL_ (some 57) rfl rfl Try.func28 (by kernel_rfl) rfl #[.agg #[.int .i64 t251, .int .i64 t252, .slice Ao14 t263.length co14, .slice Ao15 t264.length co15], .int .i64 1] rfl z33x25 ?_; (with_reducible refine (laws_heldServ.calls kj36 t251 t252 _ _ t263 _ _ t264 1 t277 _ ?side1 ?side2 ?side3 ?side4 A65.out).mono ?_); (case side1 => repeat (first | exact (Kd.R_reads' HO_261002.out).2.2 | (with_reducible refine Kd.C_alloc ?_ _) | (with_reducible refine Kd.C_drewN ?_ _) | (with_reducible refine Kd.C_drew ?_))); (case side2 => exact (Kd.R_reads' HO_261002.out).2.1); (case side3 => repeat (first | exact (Kd.R_reads' HO_261003.out).2.2 | (with_reducible refine Kd.C_alloc ?_ _) | (with_reducible refine Kd.C_drewN ?_ _) | (with_reducible refine Kd.C_drew ?_))); (case side4 => exact (Kd.R_reads' HO_261003.out).2.1); rintro e w70 ⟨rfl, hb⟩; refine ⟨_, rfl, ?_⟩; have n0_ := Aside0.mk (Kd.R_below z33x30 hb); have n1_ := Aside0.mk (Kd.R_below z33x31 hb); have n2_ := Aside0.mk (Kd.R_below z33x32 hb); have n3_ := Aside0.mk (Kd.R_below z33x33 hb); have n4_ := Aside0.mk (Kd.R_below z33x34 hb); have n5_ := Aside0.mk (Kd.R_below z33x35 hb); have n6_ := Aside0.mk (blk_below (g := gb250) (o := .cells #[.int .i64 t241, .int .i64 t242, .slice Ao8 t243.length co8, .slice Ao9 t246.length co9] 35 (0, 0)) z33x27 hb); have n7_ := Aside0.mk (blk_below (g := gb260) (o := .cells #[.int .i64 t251, .int .i64 t252, .slice Ao14 t263.length co14, .slice Ao15 t264.length co15] 35 (0, 0)) z33x28 hb); have n8_ := Aside0.mk (blk_below (g := gb275) (o := .cells #[.int .i64 t266, .int .i64 t267, .slice Ao48 t268.length co48, .slice Ao49 t271.length co49] 35 (0, 0)) z33x29 hb); have n9_ := Aside0.mk (below_step z33x20 hb); clear HO_251002; clear HO_251003; clear HO_261002; clear HO_261003; clear HO_276002; clear HO_276003; clear BK250; clear BK260; clear BK275; clear HB; have HO_251002 := n0_; have HO_251003 := n1_; have HO_261002 := n2_; have HO_261003 := n3_; have HO_276002 := n4_; have HO_276003 := n5_; have BK250 := n6_; have BK260 := n7_; have BK275 := n8_; have HB := n9_; clear n0_ n1_ n2_ n3_ n4_ n5_ n6_ n7_ n8_ n9_; (try clear hb); (try clear hb2); (try clear hk); (try clear hi)))
          go_ret
          exact ⟨by first | rfl | (simp [errW_none, errW_some] <;> rfl) | (simp [*, errW_none, errW_some] <;> rfl), by repeat (first | (with_reducible first | exact HB.out | apply below_alloc | apply pw_below_drewN | apply below_drew1 | refine below_set ?_ GE250.out | refine below_set ?_ GE260.out | refine below_set ?_ GE275.out) | exact HB.out)⟩
         ·rw [if_neg c66] at H
          have c66b0 : decide (t277 < 0) = false := decide_eq_false c66
          clear c66
          by_cases c71 : t277 = t262
          ·rw [if_pos c71] at H
           have c71b0 : (t277 == t262) = true := beq_iff_eq.mpr c71
           have c71b1 : (t277 != t262) = false := bne_eq_false_iff_eq.mpr c71
           clear c71
           obtain rfl := Option.some.inj H
           have hnb72 := NB260_250.out
           have hnc72 := NB250_260.out
           have hnb73 := NB260_275.out
           have hnc73 := NB275_260.out
           have hcz74_0 : wc.cell? ⟨gb260, 0, none⟩ = some (.int .i64 t251) := (blk_cell BK260.out 0).trans rfl
           have hcz74_1 : wc.cell? ⟨gb260, 1, none⟩ = some (.int .i64 t252) := (blk_cell BK260.out 1).trans rfl
           have hcz74_2 : wc.cell? ⟨gb260, 2, none⟩ = some (.slice Ao14 t263.length co14) := (blk_cell BK260.out 2).trans rfl
           have hcz74_3 : wc.cell? ⟨gb260, 3, none⟩ = some (.slice Ao15 t264.length co15) := (blk_cell BK260.out 3).trans rfl
           have hfz74_0 := blk_frozen BK260.out 0
           have hfz74_1 := blk_frozen BK260.out 1
           have hfz74_2 := blk_frozen BK260.out 2
           have hfz74_3 := blk_frozen BK260.out 3
           go_wp2_with (first | ((with_reducible refine gate_callee (f := 28) rfl ?_); refine goesL_ (some 57) rfl rfl Try.func28 (by kernel_rfl) rfl #[.agg #[.int .i64 t251, .int .i64 t252, .slice Ao14 t263.length co14, .slice Ao15 t264.length co15], .int .i64 1] rfl z33x25 ?_; (with_reducible refine (laws_heldServ.calls kj36 t251 t252 _ _ t263 _ _ t264 1 t277 _ ?side1 ?side2 ?side3 ?side4 A65.out).mono ?_); (case side1 => repeat (first | exact (Kd.R_reads' HO_261002.out).2.2 | (with_reducible refine Kd.C_alloc ?_ _) | (with_reducible refine Kd.C_drewN ?_ _) | (with_reducible refine Kd.C_drew ?_))); (case side2 => exact (Kd.R_reads' HO_261002.out).2.1); (case side3 => repeat (first | exact (Kd.R_reads' HO_261003.out).2.2 | (with_reducible refine Kd.C_alloc ?_ _) | (with_reducible refine Kd.C_drewN ?_ _) | (with_reducible refine Kd.C_drew ?_))); (case side4 => exact (Kd.R_reads' HO_261003.out).2.1); rintro e w75 ⟨rfl, hb⟩; refine ⟨_, rfl, ?_⟩; have n0_ := Aside0.mk (Kd.R_below z33x30 hb); have n1_ := Aside0.mk (Kd.R_below z33x31 hb); have n2_ := Aside0.mk (Kd.R_below z33x32 hb); have n3_ := Aside0.mk (Kd.R_below z33x33 hb); have n4_ := Aside0.mk (Kd.R_below z33x34 hb); have n5_ := Aside0.mk (Kd.R_below z33x35 hb); have n6_ := Aside0.mk (blk_below (g := gb250) (o := .cells #[.int .i64 t241, .int .i64 t242, .slice Ao8 t243.length co8, .slice Ao9 t246.length co9] 35 (0, 0)) z33x27 hb); have n7_ := Aside0.mk (blk_below (g := gb260) (o := .cells #[.int .i64 t251, .int .i64 t252, .slice Ao14 t263.length co14, .slice Ao15 t264.length co15] 35 (0, 0)) z33x28 hb); have n8_ := Aside0.mk (blk_below (g := gb275) (o := .cells #[.int .i64 t266, .int .i64 t267, .slice Ao48 t268.length co48, .slice Ao49 t271.length co49] 35 (0, 0)) z33x29 hb); have n9_ := Aside0.mk (below_step z33x20 hb); clear HO_251002; clear HO_251003; clear HO_261002; clear HO_261003; clear HO_276002; clear HO_276003; clear BK250; clear BK260; clear BK275; clear HB; have HO_251002 := n0_; have HO_251003 := n1_; have HO_261002 := n2_; have HO_261003 := n3_; have HO_276002 := n4_; have HO_276003 := n5_; have BK250 := n6_; have BK260 := n7_; have BK275 := n8_; have HB := n9_; clear n0_ n1_ n2_ n3_ n4_ n5_ n6_ n7_ n8_ n9_; (try clear hb); (try clear hb2); (try clear hk); (try clear hi)))
           go_ret
           exact ⟨by first | rfl | (simp [errW_none, errW_some] <;> rfl) | (simp [*, errW_none, errW_some] <;> rfl), by repeat (first | (with_reducible first | exact HB.out | apply below_alloc | apply pw_below_drewN | apply below_drew1 | refine below_set ?_ GE250.out | refine below_set ?_ GE260.out | refine below_set ?_ GE275.out) | exact HB.out)⟩
          ·rw [if_neg c71] at H
           have c71b0 : (t277 == t262) = false := beq_eq_false_iff_ne.mpr c71
           have c71b1 : (t277 != t262) = true := bne_iff_ne.mpr c71
           obtain rfl := Option.some.inj H
           have hnb76 := NB260_250.out
           have hnc76 := NB250_260.out
           have hnb77 := NB260_275.out
           have hnc77 := NB275_260.out
           have hcz78_0 : wc.cell? ⟨gb260, 0, none⟩ = some (.int .i64 t251) := (blk_cell BK260.out 0).trans rfl
           have hcz78_1 : wc.cell? ⟨gb260, 1, none⟩ = some (.int .i64 t252) := (blk_cell BK260.out 1).trans rfl
           have hcz78_2 : wc.cell? ⟨gb260, 2, none⟩ = some (.slice Ao14 t263.length co14) := (blk_cell BK260.out 2).trans rfl
           have hcz78_3 : wc.cell? ⟨gb260, 3, none⟩ = some (.slice Ao15 t264.length co15) := (blk_cell BK260.out 3).trans rfl
           have hfz78_0 := blk_frozen BK260.out 0
           have hfz78_1 := blk_frozen BK260.out 1
           have hfz78_2 := blk_frozen BK260.out 2
           have hfz78_3 := blk_frozen BK260.out 3
           go_wp2_with (first | ((with_reducible refine gate_callee (f := 28) rfl ?_); refine goesL_ (some 57) rfl rfl Try.func28 (by kernel_rfl) rfl #[.agg #[.int .i64 t251, .int .i64 t252, .slice Ao14 t263.length co14, .slice Ao15 t264.length co15], .int .i64 1] rfl z33x25 ?_; (with_reducible refine (laws_heldServ.calls kj36 t251 t252 _ _ t263 _ _ t264 1 t277 _ ?side1 ?side2 ?side3 ?side4 A65.out).mono ?_); (case side1 => repeat (first | exact (Kd.R_reads' HO_261002.out).2.2 | (with_reducible refine Kd.C_alloc ?_ _) | (with_reducible refine Kd.C_drewN ?_ _) | (with_reducible refine Kd.C_drew ?_))); (case side2 => exact (Kd.R_reads' HO_261002.out).2.1); (case side3 => repeat (first | exact (Kd.R_reads' HO_261003.out).2.2 | (with_reducible refine Kd.C_alloc ?_ _) | (with_reducible refine Kd.C_drewN ?_ _) | (with_reducible refine Kd.C_drew ?_))); (case side4 => exact (Kd.R_reads' HO_261003.out).2.1); rintro e w79 ⟨rfl, hb⟩; refine ⟨_, rfl, ?_⟩; have n0_ := Aside0.mk (Kd.R_below z33x30 hb); have n1_ := Aside0.mk (Kd.R_below z33x31 hb); have n2_ := Aside0.mk (Kd.R_below z33x32 hb); have n3_ := Aside0.mk (Kd.R_below z33x33 hb); have n4_ := Aside0.mk (Kd.R_below z33x34 hb); have n5_ := Aside0.mk (Kd.R_below z33x35 hb); have n6_ := Aside0.mk (blk_below (g := gb250) (o := .cells #[.int .i64 t241, .int .i64 t242, .slice Ao8 t243.length co8, .slice Ao9 t246.length co9] 35 (0, 0)) z33x27 hb); have n7_ := Aside0.mk (blk_below (g := gb260) (o := .cells #[.int .i64 t251, .int .i64 t252, .slice Ao14 t263.length co14, .slice Ao15 t264.length co15] 35 (0, 0)) z33x28 hb); have n8_ := Aside0.mk (blk_below (g := gb275) (o := .cells #[.int .i64 t266, .int .i64 t267, .slice Ao48 t268.length co48, .slice Ao49 t271.length co49] 35 (0, 0)) z33x29 hb); have n9_ := Aside0.mk (below_step z33x20 hb); clear HO_251002; clear HO_251003; clear HO_261002; clear HO_261003; clear HO_276002; clear HO_276003; clear BK250; clear BK260; clear BK275; clear HB; have HO_251002 := n0_; have HO_251003 := n1_; have HO_261002 := n2_; have HO_261003 := n3_; have HO_276002 := n4_; have HO_276003 := n5_; have BK250 := n6_; have BK260 := n7_; have BK275 := n8_; have HB := n9_; clear n0_ n1_ n2_ n3_ n4_ n5_ n6_ n7_ n8_ n9_; (try clear hb); (try clear hb2); (try clear hk); (try clear hi)))
           go_ret
           exact ⟨by first | rfl | (simp [errW_none, errW_some] <;> rfl) | (simp [*, errW_none, errW_some] <;> rfl), by repeat (first | (with_reducible first | exact HB.out | apply below_alloc | apply pw_below_drewN | apply below_drew1 | refine below_set ?_ GE250.out | refine below_set ?_ GE260.out | refine below_set ?_ GE275.out) | exact HB.out)⟩
     ·rw [if_neg c35] at H
      have c35b0 : (t265 == t262) = false := beq_eq_false_iff_ne.mpr c35
      have c35b1 : (t265 != t262) = true := bne_iff_ne.mpr c35
      obtain rfl := Option.some.inj H
      have hnb80 := NB260_250.out
      have hnc80 := NB250_260.out
      have hcz81_0 : wc.cell? ⟨gb260, 0, none⟩ = some (.int .i64 t251) := (blk_cell BK260.out 0).trans rfl
      have hcz81_1 : wc.cell? ⟨gb260, 1, none⟩ = some (.int .i64 t252) := (blk_cell BK260.out 1).trans rfl
      have hcz81_2 : wc.cell? ⟨gb260, 2, none⟩ = some (.slice Ao14 t253.length co14) := (blk_cell BK260.out 2).trans rfl
      have hcz81_3 : wc.cell? ⟨gb260, 3, none⟩ = some (.slice Ao15 t256.length co15) := (blk_cell BK260.out 3).trans rfl
      have hfz81_0 := blk_frozen BK260.out 0
      have hfz81_1 := blk_frozen BK260.out 1
      have hfz81_2 := blk_frozen BK260.out 2
      have hfz81_3 := blk_frozen BK260.out 3
      go_wp2_with (first | ((with_reducible refine gate_callee (f := 27) rfl ?_); refine goesL_ (some 32) rfl rfl Try.func27 (by kernel_rfl) rfl #[.agg #[.int .i64 t251, .int .i64 t252, .slice Ao14 t253.length co14, .slice Ao15 t256.length co15], .int .i64 1] rfl z33x25 ?_; (with_reducible refine (laws_markServ.calls kj3 t251 t252 (fun k_ => some k_ = (.slice Ao14 t253.length co14 : Value).ownBlock) (.slice Ao14 t253.length co14) t253 (fun k_ => some k_ = (.slice Ao15 t256.length co15 : Value).ownBlock) (.slice Ao15 t256.length co15) t256 1 t262 t263 t264 w _ ?side1 ?side2 ?side3 A27.out).mono ?_); (case side1 => repeat (first | (with_reducible first | exact HB.out | apply below_alloc | apply pw_below_drewN | apply below_drew1 | refine below_set ?_ GE250.out | refine below_set ?_ GE260.out) | exact HB.out)); (case side2 => exact Kd.R_tight rfl HO_261002.out); (case side3 => exact Kd.R_tight rfl HO_261003.out); rintro e w82 ⟨rfl, hy0, hy1, hb, hkp⟩; refine ⟨_, rfl, ?_⟩; have n0_ := Aside0.mk (Kd.R_mono (ok' := fun k_ => some k_ ≠ (.slice Ao14 t253.length co14 : Value).ownBlock) (Kd.R_keptB ((Kd.R_apart' HO_251002.out (Kd.R_typed HO_261003.out) (by decide))) hkp (fun k_ hk_ hs_ => Or.elim hs_ (fun e_ => (hk_.1) e_) (fun e_ => (hk_.2) e_))) (fun k_ hk_ => hk_.1.1)); have n1_ := Aside0.mk (Kd.R_mono (ok' := fun k_ => some k_ ≠ (.slice Ao15 t256.length co15 : Value).ownBlock) (Kd.R_keptB ((Kd.R_apart' HO_251003.out (Kd.R_typed HO_261002.out) (by decide))) hkp (fun k_ hk_ hs_ => Or.elim hs_ (fun e_ => (hk_.2) e_) (fun e_ => (hk_.1) e_))) (fun k_ hk_ => hk_.1.1)); have n2_ := Aside0.mk (Kd.R_reok rfl hy0 (fun k_ e_ => HO_261002.out.1 k_ e_)); have n3_ := Aside0.mk (Kd.R_reok rfl hy1 (fun k_ e_ => HO_261003.out.1 k_ e_)); have n4_ := Aside0.mk (blk_kept z33x27 hkp (fun hs_ => Or.elim hs_ (fun e_ => (fun e_ => (Kd.R_ne HO_261002.out BK250.out (by decide)) e_) e_) (fun e_ => (fun e_ => (Kd.R_ne HO_261003.out BK250.out (by decide)) e_) e_))); have n5_ := Aside0.mk (blk_kept z33x28 hkp (fun hs_ => Or.elim hs_ (fun e_ => (fun e_ => (Kd.R_ne HO_261002.out BK260.out (by decide)) e_) e_) (fun e_ => (fun e_ => (Kd.R_ne HO_261003.out BK260.out (by decide)) e_) e_))); have n6_ := Aside0.mk (hb); clear HO_251002; clear HO_251003; clear HO_261002; clear HO_261003; clear BK250; clear BK260; clear HB; have HO_251002 := n0_; have HO_251003 := n1_; have HO_261002 := n2_; have HO_261003 := n3_; have BK250 := n4_; have BK260 := n5_; have HB := n6_; clear n0_ n1_ n2_ n3_ n4_ n5_ n6_; (try clear hb); (try clear hkp); (try clear hy0); (try clear hy1); have hcz83_0 : w82.cell? ⟨gb260, 0, none⟩ = some (.int .i64 t251) := (blk_cell BK260.out 0).trans rfl; have hcz83_1 : w82.cell? ⟨gb260, 1, none⟩ = some (.int .i64 t252) := (blk_cell BK260.out 1).trans rfl; have hcz83_2 : w82.cell? ⟨gb260, 2, none⟩ = some (.slice Ao14 t253.length co14) := (blk_cell BK260.out 2).trans rfl; have hcz83_3 : w82.cell? ⟨gb260, 3, none⟩ = some (.slice Ao15 t256.length co15) := (blk_cell BK260.out 3).trans rfl; have hfz83_0 := blk_frozen BK260.out 0; have hfz83_1 := blk_frozen BK260.out 1; have hfz83_2 := blk_frozen BK260.out 2; have hfz83_3 := blk_frozen BK260.out 3) | ((with_reducible refine gate_callee (f := 28) rfl ?_); refine goesL_ (some 35) rfl rfl Try.func28 (by kernel_rfl) rfl #[.agg #[.int .i64 t251, .int .i64 t252, .slice Ao14 t263.length co14, .slice Ao15 t264.length co15], .int .i64 1] rfl z33x17 ?_; (with_reducible refine (laws_heldServ.calls kj3 t251 t252 _ _ t263 _ _ t264 1 t265 _ ?side1 ?side2 ?side3 ?side4 A28.out).mono ?_); (case side1 => repeat (first | exact (Kd.R_reads' HO_261002.out).2.2 | (with_reducible refine Kd.C_alloc ?_ _) | (with_reducible refine Kd.C_drewN ?_ _) | (with_reducible refine Kd.C_drew ?_))); (case side2 => rw [show t263.length = t253.length from (Kd.R_reads' HO_261002.out).1.symm]; exact (Kd.R_reads' HO_261002.out).2.1); (case side3 => repeat (first | exact (Kd.R_reads' HO_261003.out).2.2 | (with_reducible refine Kd.C_alloc ?_ _) | (with_reducible refine Kd.C_drewN ?_ _) | (with_reducible refine Kd.C_drew ?_))); (case side4 => rw [show t264.length = t256.length from (Kd.R_reads' HO_261003.out).1.symm]; exact (Kd.R_reads' HO_261003.out).2.1); rintro e w84 ⟨rfl, hb⟩; refine ⟨_, rfl, ?_⟩; have n0_ := Aside0.mk (Kd.R_below z33x30 hb); have n1_ := Aside0.mk (Kd.R_below z33x31 hb); have n2_ := Aside0.mk (Kd.R_below z33x32 hb); have n3_ := Aside0.mk (Kd.R_below z33x33 hb); have n4_ := Aside0.mk (blk_below (g := gb250) (o := .cells #[.int .i64 t241, .int .i64 t242, .slice Ao8 t243.length co8, .slice Ao9 t246.length co9] 35 (0, 0)) z33x27 hb); have n5_ := Aside0.mk (blk_below (g := gb260) (o := .cells #[.int .i64 t251, .int .i64 t252, .slice Ao14 t253.length co14, .slice Ao15 t256.length co15] 35 (0, 0)) z33x28 hb); have n6_ := Aside0.mk (below_step z33x22 hb); clear HO_251002; clear HO_251003; clear HO_261002; clear HO_261003; clear BK250; clear BK260; clear HB; have HO_251002 := n0_; have HO_251003 := n1_; have HO_261002 := n2_; have HO_261003 := n3_; have BK250 := n4_; have BK260 := n5_; have HB := n6_; clear n0_ n1_ n2_ n3_ n4_ n5_ n6_; (try clear hb); (try clear hb2); (try clear hk); (try clear hi)))
      go_ret
      exact ⟨by first | rfl | (simp [errW_none, errW_some] <;> rfl) | (simp [*, errW_none, errW_some] <;> rfl), by repeat (first | (with_reducible first | exact HB.out | apply below_alloc | apply pw_below_drewN | apply below_drew1 | refine below_set ?_ GE250.out | refine below_set ?_ GE260.out) | exact HB.out)⟩

/-- THE ONE PURE STATEMENT of laws_FnExactServNew: yours. -/
def laws_FnExactServNew.Pure : Prop := ∀ (a0 : Int), (Lit.int .i64 a0).wf = true → ∃ k, laws_FnExactServNew.f k a0 = some true
theorem laws_FnExactServNew.walk (P : laws_FnExactServNew.Pure) (a0 : Int) (w : World) (w0 : (Lit.int .i64 a0).wf = true) :
  Calls Try.prog 4 #[.int .i64 a0] w fun e w' => e = .returned (.bool true) ∧ Below w.heap.size w w' := by
 obtain ⟨k, h⟩ := P a0 w0
 refine (laws_FnExactServNew.calls k a0 true w h).mono ?_
 rintro e w' ⟨rfl, hd⟩
 exact ⟨rfl, hd⟩

end Go.Proofs.Ytpdeincniaiajaa.Hp
