-- hp.py
import Derived.Test.YtbipicjijbnbbaaHx0
import Derived.Test.YtbipicjijbnbbaaHx7
import Derived.Test.YtbipicjijbnbbaaHx10
import Derived.Test.YtbipicjijbnbbaaHx12
import Derived.Test.YtbipicjijbnbbaaHx19
import Derived.Test.YtbipicjijbnbbaaHx37
import Derived.Test.YtbipicjijbnbbaaHx41
import Derived.Test.YtbipicjijbnbbaaHx42
namespace Go.Proofs.Ytbipicjijbnbbaa.Hp
open Go.RowKit Go.Proofs.YtbipicjijbnbbaaW.PrintWords Go.Proofs.YtbipicjijbnbbaaW.PrintLast Go.Proofs.YtbipicjijbnbbaaW.PrintMore
attribute [local go_sem] max2_int min2_int max_two min_two max_three min_three max_four min_four   -- for this text's walks alone
set_option linter.unusedVariables false
set_option linter.unusedSimpArgs false
-- squeezed by wip/tools/squeeze.py
theorem z43x28 {P : Prop} (h : P:=by (with_reducible repeat (first|apply Kd.S_alloc|apply Kd.S_drewN|apply Kd.S_drew));exact HO_326005.out) : P:=h
theorem z43x27 {P : Prop} (h : P:=by (with_reducible repeat (first|apply Kd.S_alloc|apply Kd.S_drewN|apply Kd.S_drew));exact HO_326004.out) : P:=h
theorem z43x26 {P : Prop} (h : P:=by (with_reducible repeat (first|apply Kd.S_alloc|apply Kd.S_drewN|apply Kd.S_drew));exact HO_326003.out) : P:=h
theorem z43x25 {P : Prop} (h : P:=by (with_reducible repeat (first|apply Kd.S_alloc|apply Kd.S_drewN|apply Kd.S_drew));exact HO_309005.out) : P:=h
theorem z43x24 {P : Prop} (h : P:=by (with_reducible repeat (first|apply Kd.S_alloc|apply Kd.S_drewN|apply Kd.S_drew));exact HO_309004.out) : P:=h
theorem z43x23 {P : Prop} (h : P:=by (with_reducible repeat (first|apply Kd.S_alloc|apply Kd.S_drewN|apply Kd.S_drew));exact HO_309003.out) : P:=h
theorem z43x22 {P : Prop} (h : P:=by (with_reducible repeat (first|apply Kd.R_alloc|apply Kd.R_drewN|apply Kd.R_drew));exact HO_326002.out) : P:=h
theorem z43x21 {P : Prop} (h : P:=by (with_reducible repeat (first|apply Kd.R_alloc|apply Kd.R_drewN|apply Kd.R_drew));exact HO_309002.out) : P:=h
theorem z43x20 {P : Prop} (h : P:=by (with_reducible repeat (first|refine blk_drewN ?_ _|refine blk_drew ?_|refine blk_alloc ?_ _));exact qa.out) : P:=h
theorem z43x19 {P : Prop} (h : P:=by (with_reducible repeat (first|refine blk_drewN ?_ _|refine blk_drew ?_|refine blk_alloc ?_ _));exact qd.out) : P:=h
theorem z43x18 {P : Prop} (h : P:=by repeat (first|(with_reducible first|exact HB.out|apply below_alloc|apply pw_below_drewN|apply below_drew1)|exact HB.out)) : P:=h
theorem z43x17 {P : Prop} (h : P:=by (try simp only [List.map_toArray,List.map_cons,List.map_nil]);first|done|rfl|(simp only [List.length_drop,List.length_take];rfl)) : P:=h
theorem z43x16 {P : Prop} (h : P:=by repeat (first|(with_reducible first|exact HB.out|apply below_alloc|apply pw_below_drewN|apply below_drew1|refine below_set ?_ wy.out)|exact HB.out)) : P:=h
theorem z43x15 {P : Prop} (h : P:=by rw [hg];exact (below_size (by repeat (first|(with_reducible first|exact HB.out|apply below_alloc|apply pw_below_drewN|apply below_drew1|refine below_set ?_ wy.out)|exact HB.out)))) : P:=h
theorem z43x14 {P : Prop} (h : P:=by repeat (first|(with_reducible first|exact HB.out|apply below_alloc|apply pw_below_drewN|apply below_drew1|refine below_set ?_ wy.out|refine below_set ?_ vp.out)|exact HB.out)) : P:=h
theorem z43x13 {P : Prop} (h : P:=by (with_reducible repeat (first|apply Kd.S_alloc|apply Kd.S_drewN|apply Kd.S_drew));exact (Kd.S_mono (Kd.S_far (p:=⟨qb,6,none⟩) (Kd.S_far (p:=⟨qb,5,none⟩) (Kd.S_far (p:=⟨qb,4,none⟩) (Kd.S_far (p:=⟨qb,3,none⟩) (Kd.S_far (p:=⟨qb,2,none⟩) (Kd.S_far (p:=⟨qb,1,none⟩) (Kd.S_far (p:=⟨qb,0,none⟩) (Kd.S_types vr.out qa.out (by decide)) (fun _ hk=>hk.2) (.int .i64 qi)) (fun _ hk=>hk.2) (.int .i64 qm)) (fun _ hk=>hk.2) (.slice qo qg.length qn)) (fun _ hk=>hk.2) (.slice qv qj.length qr)) (fun _ hk=>hk.2) (.slice qx qk.length qu)) (fun _ hk=>hk.2) (.slice wb qh.length qw)) (fun _ hk=>hk.2) (.int .i64 qp)) (fun _ h_=>h_.1))) : P:=h
theorem z43x12 {P : Prop} (h : P:=by (with_reducible repeat (first|apply Kd.S_alloc|apply Kd.S_drewN|apply Kd.S_drew));exact (Kd.S_mono (Kd.S_far (p:=⟨qb,6,none⟩) (Kd.S_far (p:=⟨qb,5,none⟩) (Kd.S_far (p:=⟨qb,4,none⟩) (Kd.S_far (p:=⟨qb,3,none⟩) (Kd.S_far (p:=⟨qb,2,none⟩) (Kd.S_far (p:=⟨qb,1,none⟩) (Kd.S_far (p:=⟨qb,0,none⟩) (Kd.S_types vt.out qa.out (by decide)) (fun _ hk=>hk.2) (.int .i64 qi)) (fun _ hk=>hk.2) (.int .i64 qm)) (fun _ hk=>hk.2) (.slice qo qg.length qn)) (fun _ hk=>hk.2) (.slice qv qj.length qr)) (fun _ hk=>hk.2) (.slice qx qk.length qu)) (fun _ hk=>hk.2) (.slice wb qh.length qw)) (fun _ hk=>hk.2) (.int .i64 qp)) (fun _ h_=>h_.1))) : P:=h
theorem z43x11 {P : Prop} (h : P:=by (with_reducible repeat (first|apply Kd.S_alloc|apply Kd.S_drewN|apply Kd.S_drew));exact (Kd.S_mono (Kd.S_far (p:=⟨qb,6,none⟩) (Kd.S_far (p:=⟨qb,5,none⟩) (Kd.S_far (p:=⟨qb,4,none⟩) (Kd.S_far (p:=⟨qb,3,none⟩) (Kd.S_far (p:=⟨qb,2,none⟩) (Kd.S_far (p:=⟨qb,1,none⟩) (Kd.S_far (p:=⟨qb,0,none⟩) (Kd.S_types vu.out qa.out (by decide)) (fun _ hk=>hk.2) (.int .i64 qi)) (fun _ hk=>hk.2) (.int .i64 qm)) (fun _ hk=>hk.2) (.slice qo qg.length qn)) (fun _ hk=>hk.2) (.slice qv qj.length qr)) (fun _ hk=>hk.2) (.slice qx qk.length qu)) (fun _ hk=>hk.2) (.slice wb qh.length qw)) (fun _ hk=>hk.2) (.int .i64 qp)) (fun _ h_=>h_.1))) : P:=h
theorem z43x10 {P : Prop} (h : P:=by (with_reducible repeat (first|apply Kd.S_alloc|apply Kd.S_drewN|apply Kd.S_drew));exact (Kd.S_mono (Kd.S_far (p:=⟨qb,6,none⟩) (Kd.S_far (p:=⟨qb,5,none⟩) (Kd.S_far (p:=⟨qb,4,none⟩) (Kd.S_far (p:=⟨qb,3,none⟩) (Kd.S_far (p:=⟨qb,2,none⟩) (Kd.S_far (p:=⟨qb,1,none⟩) (Kd.S_far (p:=⟨qb,0,none⟩) (Kd.S_types wr.out qa.out (by decide)) (fun _ hk=>hk.2) (.int .i64 qi)) (fun _ hk=>hk.2) (.int .i64 qm)) (fun _ hk=>hk.2) (.slice qo qg.length qn)) (fun _ hk=>hk.2) (.slice qv qj.length qr)) (fun _ hk=>hk.2) (.slice qx qk.length qu)) (fun _ hk=>hk.2) (.slice wb qh.length qw)) (fun _ hk=>hk.2) (.int .i64 qp)) (fun _ h_=>h_.1))) : P:=h
theorem z43x9 {P : Prop} (h : P:=by (with_reducible repeat (first|apply Kd.S_alloc|apply Kd.S_drewN|apply Kd.S_drew));exact (Kd.S_mono (Kd.S_far (p:=⟨qb,6,none⟩) (Kd.S_far (p:=⟨qb,5,none⟩) (Kd.S_far (p:=⟨qb,4,none⟩) (Kd.S_far (p:=⟨qb,3,none⟩) (Kd.S_far (p:=⟨qb,2,none⟩) (Kd.S_far (p:=⟨qb,1,none⟩) (Kd.S_far (p:=⟨qb,0,none⟩) (Kd.S_types ws.out qa.out (by decide)) (fun _ hk=>hk.2) (.int .i64 qi)) (fun _ hk=>hk.2) (.int .i64 qm)) (fun _ hk=>hk.2) (.slice qo qg.length qn)) (fun _ hk=>hk.2) (.slice qv qj.length qr)) (fun _ hk=>hk.2) (.slice qx qk.length qu)) (fun _ hk=>hk.2) (.slice wb qh.length qw)) (fun _ hk=>hk.2) (.int .i64 qp)) (fun _ h_=>h_.1))) : P:=h
theorem z43x8 {P : Prop} (h : P:=by (with_reducible repeat (first|apply Kd.S_alloc|apply Kd.S_drewN|apply Kd.S_drew));exact (Kd.S_mono (Kd.S_far (p:=⟨qb,6,none⟩) (Kd.S_far (p:=⟨qb,5,none⟩) (Kd.S_far (p:=⟨qb,4,none⟩) (Kd.S_far (p:=⟨qb,3,none⟩) (Kd.S_far (p:=⟨qb,2,none⟩) (Kd.S_far (p:=⟨qb,1,none⟩) (Kd.S_far (p:=⟨qb,0,none⟩) (Kd.S_types wt.out qa.out (by decide)) (fun _ hk=>hk.2) (.int .i64 qi)) (fun _ hk=>hk.2) (.int .i64 qm)) (fun _ hk=>hk.2) (.slice qo qg.length qn)) (fun _ hk=>hk.2) (.slice qv qj.length qr)) (fun _ hk=>hk.2) (.slice qx qk.length qu)) (fun _ hk=>hk.2) (.slice wb qh.length qw)) (fun _ hk=>hk.2) (.int .i64 qp)) (fun _ h_=>h_.1))) : P:=h
theorem z43x7 {P : Prop} (h : P:=by (with_reducible repeat (first|apply Kd.S_alloc|apply Kd.S_drewN|apply Kd.S_drew));exact (Kd.S_mono (Kd.S_far (p:=⟨qf,6,none⟩) (Kd.S_far (p:=⟨qf,5,none⟩) (Kd.S_far (p:=⟨qf,4,none⟩) (Kd.S_far (p:=⟨qf,3,none⟩) (Kd.S_far (p:=⟨qf,2,none⟩) (Kd.S_far (p:=⟨qf,1,none⟩) (Kd.S_far (p:=⟨qf,0,none⟩) (Kd.S_types wr.out qd.out (by decide)) (fun _ hk=>hk.2) (.int .i64 wg)) (fun _ hk=>hk.2) (.int .i64 wh)) (fun _ hk=>hk.2) (.slice we qq.length qz)) (fun _ hk=>hk.2) (.slice wm qy.length wj)) (fun _ hk=>hk.2) (.slice wo wa.length wk)) (fun _ hk=>hk.2) (.slice wq wd.length wl)) (fun _ hk=>hk.2) (.int .i64 wi)) (fun _ h_=>h_.1))) : P:=h
theorem z43x6 {P : Prop} (h : P:=by (with_reducible repeat (first|apply Kd.S_alloc|apply Kd.S_drewN|apply Kd.S_drew));exact (Kd.S_mono (Kd.S_far (p:=⟨qf,6,none⟩) (Kd.S_far (p:=⟨qf,5,none⟩) (Kd.S_far (p:=⟨qf,4,none⟩) (Kd.S_far (p:=⟨qf,3,none⟩) (Kd.S_far (p:=⟨qf,2,none⟩) (Kd.S_far (p:=⟨qf,1,none⟩) (Kd.S_far (p:=⟨qf,0,none⟩) (Kd.S_types ws.out qd.out (by decide)) (fun _ hk=>hk.2) (.int .i64 wg)) (fun _ hk=>hk.2) (.int .i64 wh)) (fun _ hk=>hk.2) (.slice we qq.length qz)) (fun _ hk=>hk.2) (.slice wm qy.length wj)) (fun _ hk=>hk.2) (.slice wo wa.length wk)) (fun _ hk=>hk.2) (.slice wq wd.length wl)) (fun _ hk=>hk.2) (.int .i64 wi)) (fun _ h_=>h_.1))) : P:=h
theorem z43x5 {P : Prop} (h : P:=by (with_reducible repeat (first|apply Kd.S_alloc|apply Kd.S_drewN|apply Kd.S_drew));exact (Kd.S_mono (Kd.S_far (p:=⟨qf,6,none⟩) (Kd.S_far (p:=⟨qf,5,none⟩) (Kd.S_far (p:=⟨qf,4,none⟩) (Kd.S_far (p:=⟨qf,3,none⟩) (Kd.S_far (p:=⟨qf,2,none⟩) (Kd.S_far (p:=⟨qf,1,none⟩) (Kd.S_far (p:=⟨qf,0,none⟩) (Kd.S_types wt.out qd.out (by decide)) (fun _ hk=>hk.2) (.int .i64 wg)) (fun _ hk=>hk.2) (.int .i64 wh)) (fun _ hk=>hk.2) (.slice we qq.length qz)) (fun _ hk=>hk.2) (.slice wm qy.length wj)) (fun _ hk=>hk.2) (.slice wo wa.length wk)) (fun _ hk=>hk.2) (.slice wq wd.length wl)) (fun _ hk=>hk.2) (.int .i64 wi)) (fun _ h_=>h_.1))) : P:=h
theorem z43x4 {P : Prop} (h : P:=by (with_reducible repeat (first|apply Kd.R_alloc|apply Kd.R_drewN|apply Kd.R_drew));exact (Kd.R_mono (Kd.R_far (p:=⟨qb,6,none⟩) (Kd.R_far (p:=⟨qb,5,none⟩) (Kd.R_far (p:=⟨qb,4,none⟩) (Kd.R_far (p:=⟨qb,3,none⟩) (Kd.R_far (p:=⟨qb,2,none⟩) (Kd.R_far (p:=⟨qb,1,none⟩) (Kd.R_far (p:=⟨qb,0,none⟩) (Kd.R_types vv.out qa.out (by decide)) (fun _ hk=>hk.2) (.int .i64 qi)) (fun _ hk=>hk.2) (.int .i64 qm)) (fun _ hk=>hk.2) (.slice qo qg.length qn)) (fun _ hk=>hk.2) (.slice qv qj.length qr)) (fun _ hk=>hk.2) (.slice qx qk.length qu)) (fun _ hk=>hk.2) (.slice wb qh.length qw)) (fun _ hk=>hk.2) (.int .i64 qp)) (fun _ h_=>h_.1))) : P:=h
theorem z43x3 {P : Prop} (h : P:=by (with_reducible repeat (first|apply Kd.R_alloc|apply Kd.R_drewN|apply Kd.R_drew));exact (Kd.R_mono (Kd.R_far (p:=⟨qb,6,none⟩) (Kd.R_far (p:=⟨qb,5,none⟩) (Kd.R_far (p:=⟨qb,4,none⟩) (Kd.R_far (p:=⟨qb,3,none⟩) (Kd.R_far (p:=⟨qb,2,none⟩) (Kd.R_far (p:=⟨qb,1,none⟩) (Kd.R_far (p:=⟨qb,0,none⟩) (Kd.R_types wu.out qa.out (by decide)) (fun _ hk=>hk.2) (.int .i64 qi)) (fun _ hk=>hk.2) (.int .i64 qm)) (fun _ hk=>hk.2) (.slice qo qg.length qn)) (fun _ hk=>hk.2) (.slice qv qj.length qr)) (fun _ hk=>hk.2) (.slice qx qk.length qu)) (fun _ hk=>hk.2) (.slice wb qh.length qw)) (fun _ hk=>hk.2) (.int .i64 qp)) (fun _ h_=>h_.1))) : P:=h
theorem z43x2 {P : Prop} (h : P:=by (with_reducible repeat (first|apply Kd.R_alloc|apply Kd.R_drewN|apply Kd.R_drew));exact (Kd.R_mono (Kd.R_far (p:=⟨qf,6,none⟩) (Kd.R_far (p:=⟨qf,5,none⟩) (Kd.R_far (p:=⟨qf,4,none⟩) (Kd.R_far (p:=⟨qf,3,none⟩) (Kd.R_far (p:=⟨qf,2,none⟩) (Kd.R_far (p:=⟨qf,1,none⟩) (Kd.R_far (p:=⟨qf,0,none⟩) (Kd.R_types wu.out qd.out (by decide)) (fun _ hk=>hk.2) (.int .i64 wg)) (fun _ hk=>hk.2) (.int .i64 wh)) (fun _ hk=>hk.2) (.slice we qq.length qz)) (fun _ hk=>hk.2) (.slice wm qy.length wj)) (fun _ hk=>hk.2) (.slice wo wa.length wk)) (fun _ hk=>hk.2) (.slice wq wd.length wl)) (fun _ hk=>hk.2) (.int .i64 wi)) (fun _ h_=>h_.1))) : P:=h
theorem z43x1 {P : Prop} (h : P:=by (with_reducible repeat (first|refine blk_drewN ?_ _|refine blk_drew ?_|refine blk_alloc ?_ _));refine blk_far ?_ ql.out _;(with_reducible repeat (first|refine blk_drewN ?_ _|refine blk_drew ?_|refine blk_alloc ?_ _));refine blk_far ?_ ql.out _;(with_reducible repeat (first|refine blk_drewN ?_ _|refine blk_drew ?_|refine blk_alloc ?_ _));refine blk_far ?_ ql.out _;(with_reducible repeat (first|refine blk_drewN ?_ _|refine blk_drew ?_|refine blk_alloc ?_ _));refine blk_far ?_ ql.out _;(with_reducible repeat (first|refine blk_drewN ?_ _|refine blk_drew ?_|refine blk_alloc ?_ _));refine blk_far ?_ ql.out _;(with_reducible repeat (first|refine blk_drewN ?_ _|refine blk_drew ?_|refine blk_alloc ?_ _));refine blk_far ?_ ql.out _;(with_reducible repeat (first|refine blk_drewN ?_ _|refine blk_drew ?_|refine blk_alloc ?_ _));refine blk_far ?_ ql.out _;(with_reducible repeat (first|refine blk_drewN ?_ _|refine blk_drew ?_|refine blk_alloc ?_ _));exact qd.out) : P:=h
theorem z43x0 {P : Prop} (h : P:=by (with_reducible repeat (first|refine blk_drewN ?_ _|refine blk_drew ?_|refine blk_alloc ?_ _));refine blk_put (cs:=#[.int .i64 qi,.int .i64 qm,.slice qo qg.length qn,.slice qv qj.length qr,.slice qx qk.length qu,.slice wb qh.length qw,.int .i64 0]) ?_ 6 _ rfl;(with_reducible repeat (first|refine blk_drewN ?_ _|refine blk_drew ?_|refine blk_alloc ?_ _));refine blk_put (cs:=#[.int .i64 qi,.int .i64 qm,.slice qo qg.length qn,.slice qv qj.length qr,.slice qx qk.length qu,.slice none 0 0,.int .i64 0]) ?_ 5 _ rfl;(with_reducible repeat (first|refine blk_drewN ?_ _|refine blk_drew ?_|refine blk_alloc ?_ _));refine blk_put (cs:=#[.int .i64 qi,.int .i64 qm,.slice qo qg.length qn,.slice qv qj.length qr,.slice none 0 0,.slice none 0 0,.int .i64 0]) ?_ 4 _ rfl;(with_reducible repeat (first|refine blk_drewN ?_ _|refine blk_drew ?_|refine blk_alloc ?_ _));refine blk_put (cs:=#[.int .i64 qi,.int .i64 qm,.slice qo qg.length qn,.slice none 0 0,.slice none 0 0,.slice none 0 0,.int .i64 0]) ?_ 3 _ rfl;(with_reducible repeat (first|refine blk_drewN ?_ _|refine blk_drew ?_|refine blk_alloc ?_ _));refine blk_put (cs:=#[.int .i64 qi,.int .i64 qm,.slice none 0 0,.slice none 0 0,.slice none 0 0,.slice none 0 0,.int .i64 0]) ?_ 2 _ rfl;(with_reducible repeat (first|refine blk_drewN ?_ _|refine blk_drew ?_|refine blk_alloc ?_ _));refine blk_put (cs:=#[.int .i64 qi,.int .i64 0,.slice none 0 0,.slice none 0 0,.slice none 0 0,.slice none 0 0,.int .i64 0]) ?_ 1 _ rfl;(with_reducible repeat (first|refine blk_drewN ?_ _|refine blk_drew ?_|refine blk_alloc ?_ _));refine blk_put (cs:=#[.int .i64 0,.int .i64 0,.slice none 0 0,.slice none 0 0,.slice none 0 0,.slice none 0 0,.int .i64 0]) ?_ 0 _ rfl;(with_reducible repeat (first|refine blk_drewN ?_ _|refine blk_drew ?_|refine blk_alloc ?_ _));exact qa.out) : P:=h

section
variable {P : Program} {ops : Array Oper} {rest : List Oper} {o : Oper} {a : Act} {Q : Exit → Act → World → Prop} {W : World}
theorem ungate (hw : Region.wanted o (yielded ops a.tmps) = true) (h : wpList P ops Q ({ o with guard := none } :: rest) a W) : wpList P ops Q (o :: rest) a W := by
  simp only [wpList] at h ⊢
  rw [if_pos hw]
  rw [if_pos (by simp [Region.wanted])] at h
  exact h
end
/-! ### laws_FnWorldNew: function 8 -/
mutual
noncomputable def laws_FnWorldNew.j0 : Nat → Int → Bool → Bool → Bool → Int → Int → List (S41) → List (S28) → List (S128) → List (S34) → Int → Int → Int → List (S41) → List (S28) → List (S128) → List (S34) → Int → Option (Bool)
 | 0,_,_,_,_,_,_,_,_,_,_,_,_,_,_,_,_,_,_=>none
 | k + 1,x3,x5,x7,x36,qag,qaf,qae,qad,qac,qab,qaa,ww,vo,vn,vm,vl,wv,vk=>if x36 = true then (if (x7 == x5) = true then ((laws_lbWorld.f k ww vo vn vm vl wv vk qag qaf qae qad qac qab qaa).bind fun qai=>(some qai)) else (some false)) else ((impl_WorldKeys.f ww vo vn vm vl wv vk).bind fun vw=>(if x3 = 0 then (if (vw.length : Int) = 0 then (if x3 > 0 then ((laws_lbInts.f k vw (([x3] : List Int))).bind fun uc=>(laws_FnWorldNew.j1 k (!uc) ww vo vn vm vl wv vk)) else (laws_FnWorldNew.j1 k false ww vo vn vm vl wv vk)) else (laws_FnWorldNew.j1 k true ww vo vn vm vl wv vk)) else (if x3 > 0 then ((laws_lbInts.f k vw (([x3] : List Int))).bind fun ub=>(laws_FnWorldNew.j1 k (!ub) ww vo vn vm vl wv vk)) else (laws_FnWorldNew.j1 k false ww vo vn vm vl wv vk))))
noncomputable def laws_FnWorldNew.j1 : Nat → Bool → Int → Int → List (S41) → List (S28) → List (S128) → List (S34) → Int → Option (Bool)
 | 0,_,_,_,_,_,_,_,_=>none
 | k + 1,x64,ww,vo,vn,vm,vl,wv,vk=>if x64 = true then (some false) else ((impl_WorldOk.f k ww vo vn vm vl wv vk).bind fun qah=>(if qah = true then (if ww = 0 then (if (wv.length : Int) = 0 then ((impl_WorldSeals.f ww vo vn vm vl wv vk).bind fun pq=>(some ((pq.length : Int) == 0))) else (some false)) else (some false)) else (some false)))
end
noncomputable def laws_FnWorldNew.f (k : Nat) (l0 : List Int) : Option (Bool):=if (l0.length : Int) > 1048576 then (some true) else ((spec_DrawWorldNew.f k l0).bind fun qt=>((spec_WorldNew.f k qt).bind fun qe=>((impl_WorldNew.f k qt).bind fun qc=>(if (qc.2.2.2.2.2.2.2 != qe.2.2.2.2.2.2.2) = true then (laws_FnWorldNew.j0 k qt qe.2.2.2.2.2.2.2 qc.2.2.2.2.2.2.2 true qe.1 qe.2.1 qe.2.2.1 qe.2.2.2.1 qe.2.2.2.2.1 qe.2.2.2.2.2.1 qe.2.2.2.2.2.2.1 qc.1 qc.2.1 qc.2.2.1 qc.2.2.2.1 qc.2.2.2.2.1 qc.2.2.2.2.2.1 qc.2.2.2.2.2.2.1) else ((laws_lbWorld.f k qc.1 qc.2.1 qc.2.2.1 qc.2.2.2.1 qc.2.2.2.2.1 qc.2.2.2.2.2.1 qc.2.2.2.2.2.2.1 qe.1 qe.2.1 qe.2.2.1 qe.2.2.2.1 qe.2.2.2.2.1 qe.2.2.2.2.2.1 qe.2.2.2.2.2.2.1).bind fun vx=>(if vx = true then (laws_FnWorldNew.j0 k qt qe.2.2.2.2.2.2.2 qc.2.2.2.2.2.2.2 (!qc.2.2.2.2.2.2.2) qe.1 qe.2.1 qe.2.2.1 qe.2.2.2.1 qe.2.2.2.2.1 qe.2.2.2.2.2.1 qe.2.2.2.2.2.2.1 qc.1 qc.2.1 qc.2.2.1 qc.2.2.2.1 qc.2.2.2.2.1 qc.2.2.2.2.2.1 qc.2.2.2.2.2.2.1) else (laws_FnWorldNew.j0 k qt qe.2.2.2.2.2.2.2 qc.2.2.2.2.2.2.2 true qe.1 qe.2.1 qe.2.2.1 qe.2.2.2.1 qe.2.2.2.2.1 qe.2.2.2.2.2.1 qe.2.2.2.2.2.2.1 qc.1 qc.2.1 qc.2.2.1 qc.2.2.2.1 qc.2.2.2.2.1 qc.2.2.2.2.2.1 qc.2.2.2.2.2.2.1)))))))
theorem laws_FnWorldNew.mono_l : ∀ k,(∀ y0 y1 y2 y3 y4 y5 y6 y7 y8 y9 y10 y11 y12 y13 y14 y15 y16 y17,LeO (laws_FnWorldNew.j0 k y0 y1 y2 y3 y4 y5 y6 y7 y8 y9 y10 y11 y12 y13 y14 y15 y16 y17) (laws_FnWorldNew.j0 (k + 1) y0 y1 y2 y3 y4 y5 y6 y7 y8 y9 y10 y11 y12 y13 y14 y15 y16 y17)) ∧ (∀ y0 y1 y2 y3 y4 y5 y6 y7,LeO (laws_FnWorldNew.j1 k y0 y1 y2 y3 y4 y5 y6 y7) (laws_FnWorldNew.j1 (k + 1) y0 y1 y2 y3 y4 y5 y6 y7))
 | 0=>⟨fun _ _ _ _ _ _ _ _ _ _ _ _ _ _ _ _ _ _ r h=>by simp [laws_FnWorldNew.j0] at h,fun _ _ _ _ _ _ _ _ r h=>by simp [laws_FnWorldNew.j1] at h⟩
 | k + 1=>by
  obtain ⟨ih0,ih1⟩:=laws_FnWorldNew.mono_l k
  refine ⟨?_,?_⟩
  ·intro y0 y1 y2 y3 y4 y5 y6 y7 y8 y9 y10 y11 y12 y13 y14 y15 y16 y17
   unfold laws_FnWorldNew.j0
   repeat' first
   | (with_reducible exact ih0 _ _ _ _ _ _ _ _ _ _ _ _ _ _ _ _ _ _)
   | (with_reducible exact ih1 _ _ _ _ _ _ _ _)
   | (with_reducible exact impl_WorldNew.mono _ _)
   | (with_reducible exact impl_WorldOk.mono _ _ _ _ _ _ _ _)
   | (with_reducible exact laws_lbInts.mono _ _ _)
   | (with_reducible exact laws_lbWorld.mono _ _ _ _ _ _ _ _ _ _ _ _ _ _ _)
   | (with_reducible exact spec_DrawWorldNew.mono _ _)
   | (with_reducible exact spec_WorldNew.mono _ _)
   | (with_reducible exact LeO.refl _)
   | (with_reducible exact LeO.none _)
   | (with_reducible refine LeO.ite ?_ ?_)
   | (with_reducible refine LeO.bind ?_ (fun _=>?_))
   | exact ih0 _ _ _ _ _ _ _ _ _ _ _ _ _ _ _ _ _ _
   | exact ih1 _ _ _ _ _ _ _ _
   | exact impl_WorldNew.mono _ _
   | exact impl_WorldOk.mono _ _ _ _ _ _ _ _
   | exact laws_lbInts.mono _ _ _
   | exact laws_lbWorld.mono _ _ _ _ _ _ _ _ _ _ _ _ _ _ _
   | exact spec_DrawWorldNew.mono _ _
   | exact spec_WorldNew.mono _ _
   | exact LeO.none _
   | refine LeO.ite ?_ ?_
   | refine LeO.bind ?_ (fun _=>?_)
  ·intro y0 y1 y2 y3 y4 y5 y6 y7
   unfold laws_FnWorldNew.j1
   repeat' first
   | (with_reducible exact ih0 _ _ _ _ _ _ _ _ _ _ _ _ _ _ _ _ _ _)
   | (with_reducible exact ih1 _ _ _ _ _ _ _ _)
   | (with_reducible exact impl_WorldNew.mono _ _)
   | (with_reducible exact impl_WorldOk.mono _ _ _ _ _ _ _ _)
   | (with_reducible exact laws_lbInts.mono _ _ _)
   | (with_reducible exact laws_lbWorld.mono _ _ _ _ _ _ _ _ _ _ _ _ _ _ _)
   | (with_reducible exact spec_DrawWorldNew.mono _ _)
   | (with_reducible exact spec_WorldNew.mono _ _)
   | (with_reducible exact LeO.refl _)
   | (with_reducible exact LeO.none _)
   | (with_reducible refine LeO.ite ?_ ?_)
   | (with_reducible refine LeO.bind ?_ (fun _=>?_))
   | exact ih0 _ _ _ _ _ _ _ _ _ _ _ _ _ _ _ _ _ _
   | exact ih1 _ _ _ _ _ _ _ _
   | exact impl_WorldNew.mono _ _
   | exact impl_WorldOk.mono _ _ _ _ _ _ _ _
   | exact laws_lbInts.mono _ _ _
   | exact laws_lbWorld.mono _ _ _ _ _ _ _ _ _ _ _ _ _ _ _
   | exact spec_DrawWorldNew.mono _ _
   | exact spec_WorldNew.mono _ _
   | exact LeO.none _
   | refine LeO.ite ?_ ?_
   | refine LeO.bind ?_ (fun _=>?_)
theorem laws_FnWorldNew.mono : ∀ a0 k,LeO (laws_FnWorldNew.f k a0) (laws_FnWorldNew.f (k + 1) a0):=by
 intro a0 k
 obtain ⟨ih0,ih1⟩:=laws_FnWorldNew.mono_l k
 unfold laws_FnWorldNew.f
 repeat' first
   | (with_reducible exact ih0 _ _ _ _ _ _ _ _ _ _ _ _ _ _ _ _ _ _)
   | (with_reducible exact ih1 _ _ _ _ _ _ _ _)
   | (with_reducible exact impl_WorldNew.mono _ _)
   | (with_reducible exact impl_WorldOk.mono _ _ _ _ _ _ _ _)
   | (with_reducible exact laws_lbInts.mono _ _ _)
   | (with_reducible exact laws_lbWorld.mono _ _ _ _ _ _ _ _ _ _ _ _ _ _ _)
   | (with_reducible exact spec_DrawWorldNew.mono _ _)
   | (with_reducible exact spec_WorldNew.mono _ _)
   | (with_reducible exact LeO.refl _)
   | (with_reducible exact LeO.none _)
   | (with_reducible refine LeO.ite ?_ ?_)
   | (with_reducible refine LeO.bind ?_ (fun _=>?_))
   | exact ih0 _ _ _ _ _ _ _ _ _ _ _ _ _ _ _ _ _ _
   | exact ih1 _ _ _ _ _ _ _ _
   | exact impl_WorldNew.mono _ _
   | exact impl_WorldOk.mono _ _ _ _ _ _ _ _
   | exact laws_lbInts.mono _ _ _
   | exact laws_lbWorld.mono _ _ _ _ _ _ _ _ _ _ _ _ _ _ _
   | exact spec_DrawWorldNew.mono _ _
   | exact spec_WorldNew.mono _ _
   | exact LeO.none _
   | refine LeO.ite ?_ ?_
   | refine LeO.bind ?_ (fun _=>?_)
set_option maxHeartbeats 8000000 in
set_option maxRecDepth 100000 in
theorem laws_FnWorldNew.calls (k : Nat) (A0 : Option Addr) (c0 : Nat) (l0 : List Int) (r : Bool) (w : World) (hr0 : Kd.C (Kd.int .u8) w A0 l0.length l0) (hc0 : l0.length ≤ c0) (h : laws_FnWorldNew.f k l0 = some r) :
  Calls Try.prog 8 #[.slice A0 l0.length c0] w fun e w' => e = .returned (.bool r) ∧ Below w.heap.size w w':=by
 have qiv:=Try.underlying69
 have HR0:=Aside0.mk hr0
 have HC0:=Aside0.mk hc0
 clear hr0 hc0
 have HB:=Aside0.mk (Below.refl w.heap.size w)
 have H : (if (l0.length : Int) > 1048576 then (some true) else ((spec_DrawWorldNew.f k l0).bind fun qt=>((spec_WorldNew.f k qt).bind fun qe=>((impl_WorldNew.f k qt).bind fun qc=>(if (qc.2.2.2.2.2.2.2 != qe.2.2.2.2.2.2.2) = true then (laws_FnWorldNew.j0 k qt qe.2.2.2.2.2.2.2 qc.2.2.2.2.2.2.2 true qe.1 qe.2.1 qe.2.2.1 qe.2.2.2.1 qe.2.2.2.2.1 qe.2.2.2.2.2.1 qe.2.2.2.2.2.2.1 qc.1 qc.2.1 qc.2.2.1 qc.2.2.2.1 qc.2.2.2.2.1 qc.2.2.2.2.2.1 qc.2.2.2.2.2.2.1) else ((laws_lbWorld.f k qc.1 qc.2.1 qc.2.2.1 qc.2.2.2.1 qc.2.2.2.2.1 qc.2.2.2.2.2.1 qc.2.2.2.2.2.2.1 qe.1 qe.2.1 qe.2.2.1 qe.2.2.2.1 qe.2.2.2.2.1 qe.2.2.2.2.2.1 qe.2.2.2.2.2.2.1).bind fun vx=>(if vx = true then (laws_FnWorldNew.j0 k qt qe.2.2.2.2.2.2.2 qc.2.2.2.2.2.2.2 (!qc.2.2.2.2.2.2.2) qe.1 qe.2.1 qe.2.2.1 qe.2.2.2.1 qe.2.2.2.2.1 qe.2.2.2.2.2.1 qe.2.2.2.2.2.2.1 qc.1 qc.2.1 qc.2.2.1 qc.2.2.2.1 qc.2.2.2.2.1 qc.2.2.2.2.2.1 qc.2.2.2.2.2.2.1) else (laws_FnWorldNew.j0 k qt qe.2.2.2.2.2.2.2 qc.2.2.2.2.2.2.2 true qe.1 qe.2.1 qe.2.2.1 qe.2.2.2.1 qe.2.2.2.2.1 qe.2.2.2.2.2.1 qe.2.2.2.2.2.2.1 qc.1 qc.2.1 qc.2.2.1 qc.2.2.2.1 qc.2.2.2.2.1 qc.2.2.2.2.2.1 qc.2.2.2.2.2.2.1)))))))) = some r:=h
 clear h
 by_cases c2 : (l0.length : Int) > 1048576
 ·rw [if_pos c2] at H
  have qcm : decide (1048576 < (l0.length : Int)) = true:=decide_eq_true c2
  have qcl : decide (1048576 < l0.length) = true:=decide_eq_true (by omega)
  clear c2
  obtain rfl:=Option.some.inj H
  go_enter Try.func8,Try.ntmps8
  go_wp2
  go_ret
  exact ⟨by first|rfl|(simp [errW_none,errW_some] <;> rfl)|(simp [*,errW_none,errW_some] <;> rfl),by repeat (first|(with_reducible first|exact HB.out|apply below_alloc|apply pw_below_drewN|apply below_drew1)|exact HB.out)⟩
 ·rw [if_neg c2] at H
  have qcm : decide (1048576 < (l0.length : Int)) = false:=decide_eq_false c2
  have qcl : decide (1048576 < l0.length) = false:=decide_eq_false (by omega)
  clear c2
  replace H:=Option.bind_eq_some_iff.mp H
  obtain ⟨qt,A30,H⟩:=H
  replace H : ((spec_WorldNew.f k qt).bind fun qe=>((impl_WorldNew.f k qt).bind fun qc=>(if (qc.2.2.2.2.2.2.2 != qe.2.2.2.2.2.2.2) = true then (laws_FnWorldNew.j0 k qt qe.2.2.2.2.2.2.2 qc.2.2.2.2.2.2.2 true qe.1 qe.2.1 qe.2.2.1 qe.2.2.2.1 qe.2.2.2.2.1 qe.2.2.2.2.2.1 qe.2.2.2.2.2.2.1 qc.1 qc.2.1 qc.2.2.1 qc.2.2.2.1 qc.2.2.2.2.1 qc.2.2.2.2.2.1 qc.2.2.2.2.2.2.1) else ((laws_lbWorld.f k qc.1 qc.2.1 qc.2.2.1 qc.2.2.2.1 qc.2.2.2.2.1 qc.2.2.2.2.2.1 qc.2.2.2.2.2.2.1 qe.1 qe.2.1 qe.2.2.1 qe.2.2.2.1 qe.2.2.2.2.1 qe.2.2.2.2.2.1 qe.2.2.2.2.2.2.1).bind fun vx=>(if vx = true then (laws_FnWorldNew.j0 k qt qe.2.2.2.2.2.2.2 qc.2.2.2.2.2.2.2 (!qc.2.2.2.2.2.2.2) qe.1 qe.2.1 qe.2.2.1 qe.2.2.2.1 qe.2.2.2.2.1 qe.2.2.2.2.2.1 qe.2.2.2.2.2.2.1 qc.1 qc.2.1 qc.2.2.1 qc.2.2.2.1 qc.2.2.2.2.1 qc.2.2.2.2.2.1 qc.2.2.2.2.2.2.1) else (laws_FnWorldNew.j0 k qt qe.2.2.2.2.2.2.2 qc.2.2.2.2.2.2.2 true qe.1 qe.2.1 qe.2.2.1 qe.2.2.2.1 qe.2.2.2.2.1 qe.2.2.2.2.2.1 qe.2.2.2.2.2.2.1 qc.1 qc.2.1 qc.2.2.1 qc.2.2.2.1 qc.2.2.2.2.1 qc.2.2.2.2.2.1 qc.2.2.2.2.2.2.1)))))) = some r:=H
  have A3:=Aside0.mk A30
  clear A30
  replace H:=Option.bind_eq_some_iff.mp H
  obtain ⟨⟨wg,wh,qq,qy,wa,wd,wi,wx⟩,A40,H⟩:=H
  replace H : ((impl_WorldNew.f k qt).bind fun qc=>(if (qc.2.2.2.2.2.2.2 != wx) = true then (laws_FnWorldNew.j0 k qt wx qc.2.2.2.2.2.2.2 true wg wh qq qy wa wd wi qc.1 qc.2.1 qc.2.2.1 qc.2.2.2.1 qc.2.2.2.2.1 qc.2.2.2.2.2.1 qc.2.2.2.2.2.2.1) else ((laws_lbWorld.f k qc.1 qc.2.1 qc.2.2.1 qc.2.2.2.1 qc.2.2.2.2.1 qc.2.2.2.2.2.1 qc.2.2.2.2.2.2.1 wg wh qq qy wa wd wi).bind fun vx=>(if vx = true then (laws_FnWorldNew.j0 k qt wx qc.2.2.2.2.2.2.2 (!qc.2.2.2.2.2.2.2) wg wh qq qy wa wd wi qc.1 qc.2.1 qc.2.2.1 qc.2.2.2.1 qc.2.2.2.2.1 qc.2.2.2.2.2.1 qc.2.2.2.2.2.2.1) else (laws_FnWorldNew.j0 k qt wx qc.2.2.2.2.2.2.2 true wg wh qq qy wa wd wi qc.1 qc.2.1 qc.2.2.1 qc.2.2.2.1 qc.2.2.2.2.1 qc.2.2.2.2.2.1 qc.2.2.2.2.2.2.1))))) = some r:=H
  have A4:=Aside0.mk A40
  clear A40
  replace H:=Option.bind_eq_some_iff.mp H
  obtain ⟨⟨qi,qm,qg,qj,qk,qh,qp,wz⟩,A50,H⟩:=H
  replace H : (if (wz != wx) = true then (laws_FnWorldNew.j0 k qt wx wz true wg wh qq qy wa wd wi qi qm qg qj qk qh qp) else ((laws_lbWorld.f k qi qm qg qj qk qh qp wg wh qq qy wa wd wi).bind fun vx=>(if vx = true then (laws_FnWorldNew.j0 k qt wx wz (!wz) wg wh qq qy wa wd wi qi qm qg qj qk qh qp) else (laws_FnWorldNew.j0 k qt wx wz true wg wh qq qy wa wd wi qi qm qg qj qk qh qp)))) = some r:=H
  have A5:=Aside0.mk A50
  clear A50
  have HC6:=Aside0.mk H
  clear H
  go_enter Try.func8,Try.ntmps8
  go_upto_region 6 with (first|((with_reducible refine gate_callee (f:=39) rfl ?_);refine goesL_ (some 13) rfl rfl Try.func39 (by kernel_rfl) rfl #[.slice A0 l0.length c0] rfl z43x17 ?_;(with_reducible refine (spec_DrawWorldNew.calls k _ _ l0 qt _ ?side1 ?side2 A3.out).mono ?_);(case side1=>repeat (first|exact HR0.out|(with_reducible refine Kd.C_alloc ?_ _)|(with_reducible refine Kd.C_drewN ?_ _)|(with_reducible refine Kd.C_drew ?_)));(case side2=>exact HC0.out);rintro e w7 ⟨rfl,hb⟩; refine ⟨_,rfl,?_⟩; have n0_:=Aside0.mk (below_step z43x18 hb);clear HB;have HB:=n0_;clear n0_;(try clear hb);(try clear hb2);(try clear hk);(try clear hi))|((with_reducible refine gate_callee (f:=40) rfl ?_);refine goesL_ (some 16) rfl rfl Try.func40 (by kernel_rfl) rfl #[.int .i64 qt] rfl z43x17 ?_;(with_reducible refine (spec_WorldNew.calls k qt wg wh qq qy wa wd wi wx _ A4.out).mono ?_);rintro e w8 ⟨qiu,qit,qis,qir,rfl,ho0,ho1,ho2,ho3,hb⟩; refine ⟨_,rfl,?_⟩; have n0_:=Aside0.mk (Kd.R_lower ho0 (below_size z43x18));have n1_:=Aside0.mk (Kd.S_lower ho1 (below_size z43x18));have n2_:=Aside0.mk (Kd.S_lower ho2 (below_size z43x18));have n3_:=Aside0.mk (Kd.S_lower ho3 (below_size z43x18));have n4_:=Aside0.mk (below_step z43x18 hb);clear HB;have wu:=n0_;have wt:=n1_;have ws:=n2_;have wr:=n3_;have HB:=n4_;clear n0_ n1_ n2_ n3_ n4_;(try clear hb);(try clear hb2);(try clear hk);(try clear hi);(try clear ho0);(try clear ho1);(try clear ho2);(try clear ho3))|((with_reducible refine gate_dst (N:=4) rfl ?_);refine box_event ?hg (N:=4) ?hd (cs:=#[.int .i64 0,.int .i64 0,.slice none 0 0,.slice none 0 0,.slice none 0 0,.slice none 0 0,.int .i64 0]) (t:=69) ?hr ?_;(case hd=>rfl);(case hg=>rfl);(case hr=>first|(go_simp;done)|(go_simp;rfl));intro qf hg w9 hbox hb;have n0_:=Aside0.mk (Kd.R_below (by (with_reducible repeat (first|apply Kd.R_alloc|apply Kd.R_drewN|apply Kd.R_drew));exact wu.out) hb);have n1_:=Aside0.mk (Kd.S_below (by (with_reducible repeat (first|apply Kd.S_alloc|apply Kd.S_drewN|apply Kd.S_drew));exact wt.out) hb);have n2_:=Aside0.mk (Kd.S_below (by (with_reducible repeat (first|apply Kd.S_alloc|apply Kd.S_drewN|apply Kd.S_drew));exact ws.out) hb);have n3_:=Aside0.mk (Kd.S_below (by (with_reducible repeat (first|apply Kd.S_alloc|apply Kd.S_drewN|apply Kd.S_drew));exact wr.out) hb);have n4_:=Aside0.mk (below_step z43x18 hb);have n5_:=Aside0.mk (hbox);have n6_:=Aside0.mk ((by rw [hg];exact (below_size z43x18) : w.heap.size ≤ qf));have n7_:=Aside0.mk ((by rw [hg];exact (below_size z43x18) : w.heap.size ≤ qf));clear wu;clear wt;clear ws;clear wr;clear HB;have wu:=n0_;have wt:=n1_;have ws:=n2_;have wr:=n3_;have HB:=n4_;have qd:=n5_;have qii:=n6_;have wy:=n7_;clear n0_ n1_ n2_ n3_ n4_ n5_ n6_ n7_;clear hb hbox hg;have pp : w9.cell? ⟨qf,0,none⟩ = some (.int .i64 0):=(blk_cell qd.out 0).trans rfl;have po : w9.cell? ⟨qf,1,none⟩ = some (.int .i64 0):=(blk_cell qd.out 1).trans rfl;have pn : w9.cell? ⟨qf,2,none⟩ = some (.slice none 0 0):=(blk_cell qd.out 2).trans rfl;have pm : w9.cell? ⟨qf,3,none⟩ = some (.slice none 0 0):=(blk_cell qd.out 3).trans rfl;have pl : w9.cell? ⟨qf,4,none⟩ = some (.slice none 0 0):=(blk_cell qd.out 4).trans rfl;have pk : w9.cell? ⟨qf,5,none⟩ = some (.slice none 0 0):=(blk_cell qd.out 5).trans rfl;have pj : w9.cell? ⟨qf,6,none⟩ = some (.int .i64 0):=(blk_cell qd.out 6).trans rfl;have jw:=blk_frozen qd.out 0;have jv:=blk_frozen qd.out 1;have ju:=blk_frozen qd.out 2;have jt:=blk_frozen qd.out 3;have js:=blk_frozen qd.out 4;have jr:=blk_frozen qd.out 5;have jq:=blk_frozen qd.out 6;obtain ⟨we,qz,qhl⟩:=Kd.R_slice wu.out;subst qhl;obtain ⟨wm,wj,qhk⟩:=Kd.S_slice wt.out;subst qhk;obtain ⟨wo,wk,qhj⟩:=Kd.S_slice ws.out;subst qhj;obtain ⟨wq,wl,qhi⟩:=Kd.S_slice wr.out;subst qhi)|((with_reducible refine gate_callee (f:=41) rfl ?_);refine goesL_ (some 21) rfl rfl Try.func41 (by kernel_rfl) rfl #[.int .i64 qt] rfl z43x17 ?_;(with_reducible refine (impl_WorldNew.calls k qt qi qm qg qj qk qh qp wz _ A5.out).mono ?_);rintro e w15 ⟨qiq,qip,qio,qin,rfl,ho0,ho1,ho2,ho3,hb⟩; refine ⟨_,rfl,?_⟩; have n0_:=Aside0.mk (Kd.R_elder' z43x2 (Kd.R_base ho0) hb);have n1_:=Aside0.mk (Kd.S_elder' z43x5 (Kd.S_base ho1) hb);have n2_:=Aside0.mk (Kd.S_mono (Kd.S_told (Kd.S_told (Kd.S_old z43x6 hb) (Kd.R_base ho0)) (Kd.S_base ho2)) (fun _ h_=>h_.1));have n3_:=Aside0.mk (Kd.S_mono (Kd.S_told (Kd.S_told (Kd.S_old z43x7 hb) (Kd.R_base ho0)) (Kd.S_base ho3)) (fun _ h_=>h_.1));have n4_:=Aside0.mk (Kd.R_lower (Kd.R_new' ho0 (Kd.R_lt z43x2)) (below_size z43x16));have n5_:=Aside0.mk (Kd.S_lower (Kd.S_new' ho1 (Kd.S_lt z43x5)) (below_size z43x16));have n6_:=Aside0.mk (Kd.S_lower (Kd.S_new' (Kd.S_new' ho2 (Kd.R_lt z43x2)) (Kd.S_lt z43x6)) (below_size z43x16));have n7_:=Aside0.mk (Kd.S_lower (Kd.S_new' (Kd.S_new' ho3 (Kd.R_lt z43x2)) (Kd.S_lt z43x7)) (below_size z43x16));have n8_:=Aside0.mk (blk_below (g:=qf) (o:=.cells #[.int .i64 wg,.int .i64 wh,.slice we qq.length qz,.slice wm qy.length wj,.slice wo wa.length wk,.slice wq wd.length wl,.int .i64 wi] 69 (0,0)) (by (with_reducible repeat (first|refine blk_drewN ?_ _|refine blk_drew ?_|refine blk_alloc ?_ _));refine blk_put (cs:=#[.int .i64 wg,.int .i64 wh,.slice we qq.length qz,.slice wm qy.length wj,.slice wo wa.length wk,.slice wq wd.length wl,.int .i64 0]) ?_ 6 _ rfl;(with_reducible repeat (first|refine blk_drewN ?_ _|refine blk_drew ?_|refine blk_alloc ?_ _));refine blk_put (cs:=#[.int .i64 wg,.int .i64 wh,.slice we qq.length qz,.slice wm qy.length wj,.slice wo wa.length wk,.slice none 0 0,.int .i64 0]) ?_ 5 _ rfl;(with_reducible repeat (first|refine blk_drewN ?_ _|refine blk_drew ?_|refine blk_alloc ?_ _));refine blk_put (cs:=#[.int .i64 wg,.int .i64 wh,.slice we qq.length qz,.slice wm qy.length wj,.slice none 0 0,.slice none 0 0,.int .i64 0]) ?_ 4 _ rfl;(with_reducible repeat (first|refine blk_drewN ?_ _|refine blk_drew ?_|refine blk_alloc ?_ _));refine blk_put (cs:=#[.int .i64 wg,.int .i64 wh,.slice we qq.length qz,.slice none 0 0,.slice none 0 0,.slice none 0 0,.int .i64 0]) ?_ 3 _ rfl;(with_reducible repeat (first|refine blk_drewN ?_ _|refine blk_drew ?_|refine blk_alloc ?_ _));refine blk_put (cs:=#[.int .i64 wg,.int .i64 wh,.slice none 0 0,.slice none 0 0,.slice none 0 0,.slice none 0 0,.int .i64 0]) ?_ 2 _ rfl;(with_reducible repeat (first|refine blk_drewN ?_ _|refine blk_drew ?_|refine blk_alloc ?_ _));refine blk_put (cs:=#[.int .i64 wg,.int .i64 0,.slice none 0 0,.slice none 0 0,.slice none 0 0,.slice none 0 0,.int .i64 0]) ?_ 1 _ rfl;(with_reducible repeat (first|refine blk_drewN ?_ _|refine blk_drew ?_|refine blk_alloc ?_ _));refine blk_put (cs:=#[.int .i64 0,.int .i64 0,.slice none 0 0,.slice none 0 0,.slice none 0 0,.slice none 0 0,.int .i64 0]) ?_ 0 _ rfl;(with_reducible repeat (first|refine blk_drewN ?_ _|refine blk_drew ?_|refine blk_alloc ?_ _));exact qd.out) hb);have n9_:=Aside0.mk (below_step z43x16 hb);clear wu;clear wt;clear ws;clear wr;clear qd;clear HB;have wu:=n0_;have wt:=n1_;have ws:=n2_;have wr:=n3_;have vv:=n4_;have vu:=n5_;have vt:=n6_;have vr:=n7_;have qd:=n8_;have HB:=n9_;clear n0_ n1_ n2_ n3_ n4_ n5_ n6_ n7_ n8_ n9_;(try clear hb);(try clear hb2);(try clear hk);(try clear hi);(try clear ho0);(try clear ho1);(try clear ho2);(try clear ho3))|((with_reducible refine gate_dst (N:=6) rfl ?_);refine box_event ?hg (N:=6) ?hd (cs:=#[.int .i64 0,.int .i64 0,.slice none 0 0,.slice none 0 0,.slice none 0 0,.slice none 0 0,.int .i64 0]) (t:=69) ?hr ?_;(case hd=>rfl);(case hg=>rfl);(case hr=>first|(go_simp;done)|(go_simp;rfl));intro qb hg w16 hbox hb;have n0_:=Aside0.mk (Kd.R_below (by (with_reducible repeat (first|apply Kd.R_alloc|apply Kd.R_drewN|apply Kd.R_drew));exact wu.out) hb);have n1_:=Aside0.mk (Kd.S_below (by (with_reducible repeat (first|apply Kd.S_alloc|apply Kd.S_drewN|apply Kd.S_drew));exact wt.out) hb);have n2_:=Aside0.mk (Kd.S_below (by (with_reducible repeat (first|apply Kd.S_alloc|apply Kd.S_drewN|apply Kd.S_drew));exact ws.out) hb);have n3_:=Aside0.mk (Kd.S_below (by (with_reducible repeat (first|apply Kd.S_alloc|apply Kd.S_drewN|apply Kd.S_drew));exact wr.out) hb);have n4_:=Aside0.mk (Kd.R_below (by (with_reducible repeat (first|apply Kd.R_alloc|apply Kd.R_drewN|apply Kd.R_drew));exact vv.out) hb);have n5_:=Aside0.mk (Kd.S_below (by (with_reducible repeat (first|apply Kd.S_alloc|apply Kd.S_drewN|apply Kd.S_drew));exact vu.out) hb);have n6_:=Aside0.mk (Kd.S_below (by (with_reducible repeat (first|apply Kd.S_alloc|apply Kd.S_drewN|apply Kd.S_drew));exact vt.out) hb);have n7_:=Aside0.mk (Kd.S_below (by (with_reducible repeat (first|apply Kd.S_alloc|apply Kd.S_drewN|apply Kd.S_drew));exact vr.out) hb);have n8_:=Aside0.mk (blk_below (g:=qf) (o:=.cells #[.int .i64 wg,.int .i64 wh,.slice we qq.length qz,.slice wm qy.length wj,.slice wo wa.length wk,.slice wq wd.length wl,.int .i64 wi] 69 (0,0)) z43x19 hb);have n9_:=Aside0.mk (below_step z43x16 hb);have n10_:=Aside0.mk (hbox);have n11_:=Aside0.mk ((z43x15 : w.heap.size ≤ qb));have n12_:=Aside0.mk ((z43x15 : w.heap.size ≤ qb));have n13_:=Aside0.mk ((by rw [hg];exact Nat.ne_of_lt (blk_lt (g:=qf) (o:=.cells #[.int .i64 wg,.int .i64 wh,.slice we qq.length qz,.slice wm qy.length wj,.slice wo wa.length wk,.slice wq wd.length wl,.int .i64 wi] 69 (0,0)) z43x19) : qf ≠ qb));have n14_:=Aside0.mk ((by rw [hg];exact Nat.ne_of_gt (blk_lt (g:=qf) (o:=.cells #[.int .i64 wg,.int .i64 wh,.slice we qq.length qz,.slice wm qy.length wj,.slice wo wa.length wk,.slice wq wd.length wl,.int .i64 wi] 69 (0,0)) z43x19) : qb ≠ qf));clear wu;clear wt;clear ws;clear wr;clear vv;clear vu;clear vt;clear vr;clear qd;clear HB;have wu:=n0_;have wt:=n1_;have ws:=n2_;have wr:=n3_;have vv:=n4_;have vu:=n5_;have vt:=n6_;have vr:=n7_;have qd:=n8_;have HB:=n9_;have qa:=n10_;have qih:=n11_;have vp:=n12_;have ql:=n13_;have wn:=n14_;clear n0_ n1_ n2_ n3_ n4_ n5_ n6_ n7_ n8_ n9_ n10_ n11_ n12_ n13_ n14_;clear hb hbox hg;have qid:=wn.out;have qhu:=ql.out;have pi : w16.cell? ⟨qb,0,none⟩ = some (.int .i64 0):=(blk_cell qa.out 0).trans rfl;have ph : w16.cell? ⟨qb,1,none⟩ = some (.int .i64 0):=(blk_cell qa.out 1).trans rfl;have pg : w16.cell? ⟨qb,2,none⟩ = some (.slice none 0 0):=(blk_cell qa.out 2).trans rfl;have pf : w16.cell? ⟨qb,3,none⟩ = some (.slice none 0 0):=(blk_cell qa.out 3).trans rfl;have pe : w16.cell? ⟨qb,4,none⟩ = some (.slice none 0 0):=(blk_cell qa.out 4).trans rfl;have pd : w16.cell? ⟨qb,5,none⟩ = some (.slice none 0 0):=(blk_cell qa.out 5).trans rfl;have pc : w16.cell? ⟨qb,6,none⟩ = some (.int .i64 0):=(blk_cell qa.out 6).trans rfl;have jp:=blk_frozen qa.out 0;have jo:=blk_frozen qa.out 1;have jn:=blk_frozen qa.out 2;have jm:=blk_frozen qa.out 3;have jl:=blk_frozen qa.out 4;have jk:=blk_frozen qa.out 5;have jj:=blk_frozen qa.out 6;obtain ⟨qo,qn,qhh⟩:=Kd.R_slice vv.out;subst qhh;obtain ⟨qv,qr,qhg⟩:=Kd.S_slice vu.out;subst qhg;obtain ⟨qx,qu,qhf⟩:=Kd.S_slice vt.out;subst qhf;obtain ⟨wb,qw,qhe⟩:=Kd.S_slice vr.out;subst qhe))
  (try simp only [Act.put,List.setIfInBounds_toArray,List.set_cons_zero,List.set_cons_succ])
  go_cut [36] (fun v36 wc=>∃ (kq : Nat) (uf : Bool),v36 = .bool uf ∧ Aside0 (laws_FnWorldNew.j0 kq qt wx wz uf wg wh qq qy wa wd wi qi qm qg qj qk qh qp = some r) ∧ Aside0 (kq ≤ k) ∧ Aside0 (Kd.R k41 41 wc w.heap.size (fun k_=>some k_ ≠ ((.slice qo qg.length qn) : Value).ownBlock) (.slice we qq.length qz) qq) ∧ Aside0 (Kd.S k28 28 wc w.heap.size (fun k_=>some k_ ≠ ((.slice qv qj.length qr) : Value).ownBlock) (.slice wm qy.length wj) qy) ∧ Aside0 (Kd.S k128 128 wc w.heap.size (fun k_=>some k_ ≠ ((.slice we qq.length qz) : Value).ownBlock ∧ some k_ ≠ ((.slice qo qg.length qn) : Value).ownBlock ∧ some k_ ≠ ((.slice qx qk.length qu) : Value).ownBlock) (.slice wo wa.length wk) wa) ∧ Aside0 (Kd.S k34 34 wc w.heap.size (fun k_=>some k_ ≠ ((.slice we qq.length qz) : Value).ownBlock ∧ some k_ ≠ ((.slice qo qg.length qn) : Value).ownBlock ∧ some k_ ≠ ((.slice wb qh.length qw) : Value).ownBlock) (.slice wq wd.length wl) wd) ∧ Aside0 (Kd.R k41 41 wc w.heap.size (fun k_=>some k_ ≠ ((.slice we qq.length qz) : Value).ownBlock) (.slice qo qg.length qn) qg) ∧ Aside0 (Kd.S k28 28 wc w.heap.size (fun k_=>some k_ ≠ ((.slice wm qy.length wj) : Value).ownBlock) (.slice qv qj.length qr) qj) ∧ Aside0 (Kd.S k128 128 wc w.heap.size (fun k_=>some k_ ≠ ((.slice we qq.length qz) : Value).ownBlock ∧ some k_ ≠ ((.slice wo wa.length wk) : Value).ownBlock ∧ some k_ ≠ ((.slice qo qg.length qn) : Value).ownBlock) (.slice qx qk.length qu) qk) ∧ Aside0 (Kd.S k34 34 wc w.heap.size (fun k_=>some k_ ≠ ((.slice we qq.length qz) : Value).ownBlock ∧ some k_ ≠ ((.slice wq wd.length wl) : Value).ownBlock ∧ some k_ ≠ ((.slice qo qg.length qn) : Value).ownBlock) (.slice wb qh.length qw) qh) ∧ Aside0 (wc.heap[qf]? = some (.cells #[.int .i64 wg,.int .i64 wh,(.slice we qq.length qz),(.slice wm qy.length wj),(.slice wo wa.length wk),(.slice wq wd.length wl),.int .i64 wi] 69 (0,0))) ∧ Aside0 (wc.heap[qb]? = some (.cells #[.int .i64 qi,.int .i64 qm,(.slice qo qg.length qn),(.slice qv qj.length qr),(.slice qx qk.length qu),(.slice wb qh.length qw),.int .i64 qp] 69 (0,0))) ∧ Aside0 (Below w.heap.size w wc))
  case first =>
   have H:=HC6.out
   clear HC6
   by_cases c23 : (wz != wx) = true
   ·rw [if_pos c23] at H
    have vy : (wz != wx) = true:=c23
    (try (have pw : decide (wz = wx) = false:=by simpa using c23))
    (try (have pv : (wz == wx) = false:=by simpa using c23))
    (try (have qig : ¬ (wz = wx):=by simpa using c23))
    clear c23
    (first|rw [vy]|(simp only [i64_w,i32_w];rw [vy])|skip)
    have H':=Aside0.mk H
    clear H
    go_wp2
    go_meet
    case rel=>exact ⟨_,(true),(by first|rfl|(simp;done)|(simp [*];done)),H',⟨by first|omega|exact Nat.le_refl _⟩,⟨by (with_reducible repeat (first|apply Kd.R_alloc|apply Kd.R_drewN|apply Kd.R_drew));exact Kd.R_mono (Kd.R_far (p:=⟨qb,6,none⟩) (Kd.R_far (p:=⟨qb,5,none⟩) (Kd.R_far (p:=⟨qb,4,none⟩) (Kd.R_far (p:=⟨qb,3,none⟩) (Kd.R_far (p:=⟨qb,2,none⟩) (Kd.R_far (p:=⟨qb,1,none⟩) (Kd.R_far (p:=⟨qb,0,none⟩) (Kd.R_types wu.out qa.out (by decide)) (fun _ hk=>hk.2) (.int .i64 qi)) (fun _ hk=>hk.2) (.int .i64 qm)) (fun _ hk=>hk.2) (.slice qo qg.length qn)) (fun _ hk=>hk.2) (.slice qv qj.length qr)) (fun _ hk=>hk.2) (.slice qx qk.length qu)) (fun _ hk=>hk.2) (.slice wb qh.length qw)) (fun _ hk=>hk.2) (.int .i64 qp)) (fun _ hk=>hk.1.2)⟩,⟨by (with_reducible repeat (first|apply Kd.S_alloc|apply Kd.S_drewN|apply Kd.S_drew));exact Kd.S_mono (Kd.S_far (p:=⟨qb,6,none⟩) (Kd.S_far (p:=⟨qb,5,none⟩) (Kd.S_far (p:=⟨qb,4,none⟩) (Kd.S_far (p:=⟨qb,3,none⟩) (Kd.S_far (p:=⟨qb,2,none⟩) (Kd.S_far (p:=⟨qb,1,none⟩) (Kd.S_far (p:=⟨qb,0,none⟩) (Kd.S_types wt.out qa.out (by decide)) (fun _ hk=>hk.2) (.int .i64 qi)) (fun _ hk=>hk.2) (.int .i64 qm)) (fun _ hk=>hk.2) (.slice qo qg.length qn)) (fun _ hk=>hk.2) (.slice qv qj.length qr)) (fun _ hk=>hk.2) (.slice qx qk.length qu)) (fun _ hk=>hk.2) (.slice wb qh.length qw)) (fun _ hk=>hk.2) (.int .i64 qp)) (fun _ hk=>hk.1.2)⟩,⟨by (with_reducible repeat (first|apply Kd.S_alloc|apply Kd.S_drewN|apply Kd.S_drew));exact Kd.S_mono (Kd.S_far (p:=⟨qb,6,none⟩) (Kd.S_far (p:=⟨qb,5,none⟩) (Kd.S_far (p:=⟨qb,4,none⟩) (Kd.S_far (p:=⟨qb,3,none⟩) (Kd.S_far (p:=⟨qb,2,none⟩) (Kd.S_far (p:=⟨qb,1,none⟩) (Kd.S_far (p:=⟨qb,0,none⟩) (Kd.S_types ws.out qa.out (by decide)) (fun _ hk=>hk.2) (.int .i64 qi)) (fun _ hk=>hk.2) (.int .i64 qm)) (fun _ hk=>hk.2) (.slice qo qg.length qn)) (fun _ hk=>hk.2) (.slice qv qj.length qr)) (fun _ hk=>hk.2) (.slice qx qk.length qu)) (fun _ hk=>hk.2) (.slice wb qh.length qw)) (fun _ hk=>hk.2) (.int .i64 qp)) (fun _ hk=>⟨hk.1.1.1,⟨hk.1.1.2,hk.1.2⟩⟩)⟩,⟨by (with_reducible repeat (first|apply Kd.S_alloc|apply Kd.S_drewN|apply Kd.S_drew));exact Kd.S_mono (Kd.S_far (p:=⟨qb,6,none⟩) (Kd.S_far (p:=⟨qb,5,none⟩) (Kd.S_far (p:=⟨qb,4,none⟩) (Kd.S_far (p:=⟨qb,3,none⟩) (Kd.S_far (p:=⟨qb,2,none⟩) (Kd.S_far (p:=⟨qb,1,none⟩) (Kd.S_far (p:=⟨qb,0,none⟩) (Kd.S_types wr.out qa.out (by decide)) (fun _ hk=>hk.2) (.int .i64 qi)) (fun _ hk=>hk.2) (.int .i64 qm)) (fun _ hk=>hk.2) (.slice qo qg.length qn)) (fun _ hk=>hk.2) (.slice qv qj.length qr)) (fun _ hk=>hk.2) (.slice qx qk.length qu)) (fun _ hk=>hk.2) (.slice wb qh.length qw)) (fun _ hk=>hk.2) (.int .i64 qp)) (fun _ hk=>⟨hk.1.1.1,⟨hk.1.1.2,hk.1.2⟩⟩)⟩,⟨by (with_reducible repeat (first|apply Kd.R_alloc|apply Kd.R_drewN|apply Kd.R_drew));exact Kd.R_mono (Kd.R_far (p:=⟨qb,6,none⟩) (Kd.R_far (p:=⟨qb,5,none⟩) (Kd.R_far (p:=⟨qb,4,none⟩) (Kd.R_far (p:=⟨qb,3,none⟩) (Kd.R_far (p:=⟨qb,2,none⟩) (Kd.R_far (p:=⟨qb,1,none⟩) (Kd.R_far (p:=⟨qb,0,none⟩) (Kd.R_types vv.out qa.out (by decide)) (fun _ hk=>hk.2) (.int .i64 qi)) (fun _ hk=>hk.2) (.int .i64 qm)) (fun _ hk=>hk.2) (.slice qo qg.length qn)) (fun _ hk=>hk.2) (.slice qv qj.length qr)) (fun _ hk=>hk.2) (.slice qx qk.length qu)) (fun _ hk=>hk.2) (.slice wb qh.length qw)) (fun _ hk=>hk.2) (.int .i64 qp)) (fun _ hk=>hk.1.2)⟩,⟨by (with_reducible repeat (first|apply Kd.S_alloc|apply Kd.S_drewN|apply Kd.S_drew));exact Kd.S_mono (Kd.S_far (p:=⟨qb,6,none⟩) (Kd.S_far (p:=⟨qb,5,none⟩) (Kd.S_far (p:=⟨qb,4,none⟩) (Kd.S_far (p:=⟨qb,3,none⟩) (Kd.S_far (p:=⟨qb,2,none⟩) (Kd.S_far (p:=⟨qb,1,none⟩) (Kd.S_far (p:=⟨qb,0,none⟩) (Kd.S_types vu.out qa.out (by decide)) (fun _ hk=>hk.2) (.int .i64 qi)) (fun _ hk=>hk.2) (.int .i64 qm)) (fun _ hk=>hk.2) (.slice qo qg.length qn)) (fun _ hk=>hk.2) (.slice qv qj.length qr)) (fun _ hk=>hk.2) (.slice qx qk.length qu)) (fun _ hk=>hk.2) (.slice wb qh.length qw)) (fun _ hk=>hk.2) (.int .i64 qp)) (fun _ hk=>hk.1.2)⟩,⟨by (with_reducible repeat (first|apply Kd.S_alloc|apply Kd.S_drewN|apply Kd.S_drew));exact Kd.S_mono (Kd.S_far (p:=⟨qb,6,none⟩) (Kd.S_far (p:=⟨qb,5,none⟩) (Kd.S_far (p:=⟨qb,4,none⟩) (Kd.S_far (p:=⟨qb,3,none⟩) (Kd.S_far (p:=⟨qb,2,none⟩) (Kd.S_far (p:=⟨qb,1,none⟩) (Kd.S_far (p:=⟨qb,0,none⟩) (Kd.S_types vt.out qa.out (by decide)) (fun _ hk=>hk.2) (.int .i64 qi)) (fun _ hk=>hk.2) (.int .i64 qm)) (fun _ hk=>hk.2) (.slice qo qg.length qn)) (fun _ hk=>hk.2) (.slice qv qj.length qr)) (fun _ hk=>hk.2) (.slice qx qk.length qu)) (fun _ hk=>hk.2) (.slice wb qh.length qw)) (fun _ hk=>hk.2) (.int .i64 qp)) (fun _ hk=>⟨hk.1.1.2,⟨hk.1.2,hk.1.1.1⟩⟩)⟩,⟨by (with_reducible repeat (first|apply Kd.S_alloc|apply Kd.S_drewN|apply Kd.S_drew));exact Kd.S_mono (Kd.S_far (p:=⟨qb,6,none⟩) (Kd.S_far (p:=⟨qb,5,none⟩) (Kd.S_far (p:=⟨qb,4,none⟩) (Kd.S_far (p:=⟨qb,3,none⟩) (Kd.S_far (p:=⟨qb,2,none⟩) (Kd.S_far (p:=⟨qb,1,none⟩) (Kd.S_far (p:=⟨qb,0,none⟩) (Kd.S_types vr.out qa.out (by decide)) (fun _ hk=>hk.2) (.int .i64 qi)) (fun _ hk=>hk.2) (.int .i64 qm)) (fun _ hk=>hk.2) (.slice qo qg.length qn)) (fun _ hk=>hk.2) (.slice qv qj.length qr)) (fun _ hk=>hk.2) (.slice qx qk.length qu)) (fun _ hk=>hk.2) (.slice wb qh.length qw)) (fun _ hk=>hk.2) (.int .i64 qp)) (fun _ hk=>⟨hk.1.1.2,⟨hk.1.2,hk.1.1.1⟩⟩)⟩,⟨by (with_reducible repeat (first|refine blk_drewN ?_ _|refine blk_drew ?_|refine blk_alloc ?_ _));refine blk_far ?_ ql.out _;(with_reducible repeat (first|refine blk_drewN ?_ _|refine blk_drew ?_|refine blk_alloc ?_ _));refine blk_far ?_ ql.out _;(with_reducible repeat (first|refine blk_drewN ?_ _|refine blk_drew ?_|refine blk_alloc ?_ _));refine blk_far ?_ ql.out _;(with_reducible repeat (first|refine blk_drewN ?_ _|refine blk_drew ?_|refine blk_alloc ?_ _));refine blk_far ?_ ql.out _;(with_reducible repeat (first|refine blk_drewN ?_ _|refine blk_drew ?_|refine blk_alloc ?_ _));refine blk_far ?_ ql.out _;(with_reducible repeat (first|refine blk_drewN ?_ _|refine blk_drew ?_|refine blk_alloc ?_ _));refine blk_far ?_ ql.out _;(with_reducible repeat (first|refine blk_drewN ?_ _|refine blk_drew ?_|refine blk_alloc ?_ _));refine blk_far ?_ ql.out _;(with_reducible repeat (first|refine blk_drewN ?_ _|refine blk_drew ?_|refine blk_alloc ?_ _));exact qd.out⟩,⟨by (with_reducible repeat (first|refine blk_drewN ?_ _|refine blk_drew ?_|refine blk_alloc ?_ _));refine blk_put (cs:=#[.int .i64 qi,.int .i64 qm,.slice qo qg.length qn,.slice qv qj.length qr,.slice qx qk.length qu,.slice wb qh.length qw,.int .i64 0]) ?_ 6 _ rfl;(with_reducible repeat (first|refine blk_drewN ?_ _|refine blk_drew ?_|refine blk_alloc ?_ _));refine blk_put (cs:=#[.int .i64 qi,.int .i64 qm,.slice qo qg.length qn,.slice qv qj.length qr,.slice qx qk.length qu,.slice none 0 0,.int .i64 0]) ?_ 5 _ rfl;(with_reducible repeat (first|refine blk_drewN ?_ _|refine blk_drew ?_|refine blk_alloc ?_ _));refine blk_put (cs:=#[.int .i64 qi,.int .i64 qm,.slice qo qg.length qn,.slice qv qj.length qr,.slice none 0 0,.slice none 0 0,.int .i64 0]) ?_ 4 _ rfl;(with_reducible repeat (first|refine blk_drewN ?_ _|refine blk_drew ?_|refine blk_alloc ?_ _));refine blk_put (cs:=#[.int .i64 qi,.int .i64 qm,.slice qo qg.length qn,.slice none 0 0,.slice none 0 0,.slice none 0 0,.int .i64 0]) ?_ 3 _ rfl;(with_reducible repeat (first|refine blk_drewN ?_ _|refine blk_drew ?_|refine blk_alloc ?_ _));refine blk_put (cs:=#[.int .i64 qi,.int .i64 qm,.slice none 0 0,.slice none 0 0,.slice none 0 0,.slice none 0 0,.int .i64 0]) ?_ 2 _ rfl;(with_reducible repeat (first|refine blk_drewN ?_ _|refine blk_drew ?_|refine blk_alloc ?_ _));refine blk_put (cs:=#[.int .i64 qi,.int .i64 0,.slice none 0 0,.slice none 0 0,.slice none 0 0,.slice none 0 0,.int .i64 0]) ?_ 1 _ rfl;(with_reducible repeat (first|refine blk_drewN ?_ _|refine blk_drew ?_|refine blk_alloc ?_ _));refine blk_put (cs:=#[.int .i64 0,.int .i64 0,.slice none 0 0,.slice none 0 0,.slice none 0 0,.slice none 0 0,.int .i64 0]) ?_ 0 _ rfl;(with_reducible repeat (first|refine blk_drewN ?_ _|refine blk_drew ?_|refine blk_alloc ?_ _));exact qa.out⟩,⟨by repeat (first|(with_reducible first|exact HB.out|apply below_alloc|apply pw_below_drewN|apply below_drew1|refine below_set ?_ wy.out|refine below_set ?_ vp.out)|exact HB.out)⟩⟩
   ·rw [if_neg c23] at H
    have vy : (wz != wx) = false:=by simpa using c23
    (try (have pw : decide (wz = wx) = true:=by simpa using c23))
    (try (have pv : (wz == wx) = true:=by simpa using c23))
    clear c23
    (first|rw [vy]|(simp only [i64_w,i32_w];rw [vy])|skip)
    replace H:=Option.bind_eq_some_iff.mp H
    obtain ⟨vx,qdc,H⟩:=H
    replace H : (if vx = true then (laws_FnWorldNew.j0 k qt wx wz (!wz) wg wh qq qy wa wd wi qi qm qg qj qk qh qp) else (laws_FnWorldNew.j0 k qt wx wz true wg wh qq qy wa wd wi qi qm qg qj qk qh qp)) = some r:=H
    have A24:=Aside0.mk qdc
    clear qdc
    by_cases c25 : vx = true
    ·subst c25
     rw [if_pos rfl] at H
     have H':=Aside0.mk H
     clear H
     have qic:=wn.out
     have qht:=ql.out
     have pb : w16.cell? ⟨qb,0,none⟩ = some (.int .i64 0):=(blk_cell qa.out 0).trans rfl
     have pa : w16.cell? ⟨qb,1,none⟩ = some (.int .i64 0):=(blk_cell qa.out 1).trans rfl
     have gz : w16.cell? ⟨qb,2,none⟩ = some (.slice none 0 0):=(blk_cell qa.out 2).trans rfl
     have gy : w16.cell? ⟨qb,3,none⟩ = some (.slice none 0 0):=(blk_cell qa.out 3).trans rfl
     have gx : w16.cell? ⟨qb,4,none⟩ = some (.slice none 0 0):=(blk_cell qa.out 4).trans rfl
     have gw : w16.cell? ⟨qb,5,none⟩ = some (.slice none 0 0):=(blk_cell qa.out 5).trans rfl
     have gv : w16.cell? ⟨qb,6,none⟩ = some (.int .i64 0):=(blk_cell qa.out 6).trans rfl
     have ji:=blk_frozen qa.out 0
     have jh:=blk_frozen qa.out 1
     have jg:=blk_frozen qa.out 2
     have jf:=blk_frozen qa.out 3
     have je:=blk_frozen qa.out 4
     have jd:=blk_frozen qa.out 5
     have jc:=blk_frozen qa.out 6
     have gu : w16.cell? ⟨qf,0,none⟩ = some (.int .i64 wg):=(blk_cell qd.out 0).trans rfl
     have gt : w16.cell? ⟨qf,1,none⟩ = some (.int .i64 wh):=(blk_cell qd.out 1).trans rfl
     have gs : w16.cell? ⟨qf,2,none⟩ = some (.slice we qq.length qz):=(blk_cell qd.out 2).trans rfl
     have gr : w16.cell? ⟨qf,3,none⟩ = some (.slice wm qy.length wj):=(blk_cell qd.out 3).trans rfl
     have gq : w16.cell? ⟨qf,4,none⟩ = some (.slice wo wa.length wk):=(blk_cell qd.out 4).trans rfl
     have gp : w16.cell? ⟨qf,5,none⟩ = some (.slice wq wd.length wl):=(blk_cell qd.out 5).trans rfl
     have gn : w16.cell? ⟨qf,6,none⟩ = some (.int .i64 wi):=(blk_cell qd.out 6).trans rfl
     have jb:=blk_frozen qd.out 0
     have ja:=blk_frozen qd.out 1
     have uz:=blk_frozen qd.out 2
     have uy:=blk_frozen qd.out 3
     have ux:=blk_frozen qd.out 4
     have uw:=blk_frozen qd.out 5
     have uv:=blk_frozen qd.out 6
     go_wp2_with (first|(go_at_call 42;(with_reducible refine (laws_lbWorld.calls k qi qm _ _ qg _ _ qj _ _ qk _ _ qh qp wg wh _ _ qq _ _ qy _ _ wa _ _ wd wi true _ ?side1 ?side2 ?side3 ?side4 ?side5 ?side6 ?side7 ?side8 ?side9 ?side10 ?side11 ?side12 ?side13 ?side14 ?side15 ?side16 A24.out).mono ?_);(case side1=>refine (Kd.R_reads' (e:=41) (base:=w.heap.size) (ok:=fun k_=>(True ∧ some k_ ≠ (.slice we qq.length qz : Value).ownBlock)) (n:=qg.length) (c:=qn) ?_).2.2;exact z43x4);(case side2=>exact (Kd.R_reads' vv.out).2.1);(case side3=>refine (Kd.S_reads' (e:=28) (base:=w.heap.size) (ok:=fun k_=>(True ∧ some k_ ≠ (.slice wm qy.length wj : Value).ownBlock)) (n:=qj.length) (c:=qr) ?_).2.2;exact z43x11);(case side4=>exact (Kd.S_reads' vu.out).2.1);(case side5=>refine (Kd.S_reads' (e:=128) (base:=w.heap.size) (ok:=fun k_=>((some k_ ≠ (.slice qo qg.length qn : Value).ownBlock ∧ some k_ ≠ (.slice we qq.length qz : Value).ownBlock) ∧ some k_ ≠ (.slice wo wa.length wk : Value).ownBlock)) (n:=qk.length) (c:=qu) ?_).2.2;exact z43x12);(case side6=>exact (Kd.S_reads' vt.out).2.1);(case side7=>refine (Kd.S_reads' (e:=34) (base:=w.heap.size) (ok:=fun k_=>((some k_ ≠ (.slice qo qg.length qn : Value).ownBlock ∧ some k_ ≠ (.slice we qq.length qz : Value).ownBlock) ∧ some k_ ≠ (.slice wq wd.length wl : Value).ownBlock)) (n:=qh.length) (c:=qw) ?_).2.2;exact z43x13);(case side8=>exact (Kd.S_reads' vr.out).2.1);(case side9=>refine (Kd.R_reads' (e:=41) (base:=w.heap.size) (ok:=fun k_=>(True ∧ some k_ ≠ (.slice qo qg.length qn : Value).ownBlock)) (n:=qq.length) (c:=qz) ?_).2.2;exact z43x3);(case side10=>exact (Kd.R_reads' wu.out).2.1);(case side11=>refine (Kd.S_reads' (e:=28) (base:=w.heap.size) (ok:=fun k_=>(True ∧ some k_ ≠ (.slice qv qj.length qr : Value).ownBlock)) (n:=qy.length) (c:=wj) ?_).2.2;exact z43x8);(case side12=>exact (Kd.S_reads' wt.out).2.1);(case side13=>refine (Kd.S_reads' (e:=128) (base:=w.heap.size) (ok:=fun k_=>((some k_ ≠ (.slice we qq.length qz : Value).ownBlock ∧ some k_ ≠ (.slice qo qg.length qn : Value).ownBlock) ∧ some k_ ≠ (.slice qx qk.length qu : Value).ownBlock)) (n:=wa.length) (c:=wk) ?_).2.2;exact z43x9);(case side14=>exact (Kd.S_reads' ws.out).2.1);(case side15=>refine (Kd.S_reads' (e:=34) (base:=w.heap.size) (ok:=fun k_=>((some k_ ≠ (.slice we qq.length qz : Value).ownBlock ∧ some k_ ≠ (.slice qo qg.length qn : Value).ownBlock) ∧ some k_ ≠ (.slice wb qh.length qw : Value).ownBlock)) (n:=wd.length) (c:=wl) ?_).2.2;exact z43x10);(case side16=>exact (Kd.S_reads' wr.out).2.1);rintro e w29 ⟨rfl,hb⟩; have n0_:=Aside0.mk (Kd.R_below z43x3 hb);have n1_:=Aside0.mk (Kd.S_below z43x8 hb);have n2_:=Aside0.mk (Kd.S_below z43x9 hb);have n3_:=Aside0.mk (Kd.S_below z43x10 hb);have n4_:=Aside0.mk (Kd.R_below z43x4 hb);have n5_:=Aside0.mk (Kd.S_below z43x11 hb);have n6_:=Aside0.mk (Kd.S_below z43x12 hb);have n7_:=Aside0.mk (Kd.S_below z43x13 hb);have n8_:=Aside0.mk (blk_below (g:=qf) (o:=.cells #[.int .i64 wg,.int .i64 wh,.slice we qq.length qz,.slice wm qy.length wj,.slice wo wa.length wk,.slice wq wd.length wl,.int .i64 wi] 69 (0,0)) z43x1 hb);have n9_:=Aside0.mk (blk_below (g:=qb) (o:=.cells #[.int .i64 qi,.int .i64 qm,.slice qo qg.length qn,.slice qv qj.length qr,.slice qx qk.length qu,.slice wb qh.length qw,.int .i64 qp] 69 (0,0)) z43x0 hb);have n10_:=Aside0.mk (below_step z43x14 hb);clear wu;clear wt;clear ws;clear wr;clear vv;clear vu;clear vt;clear vr;clear qd;clear qa;clear HB;have wu:=n0_;have wt:=n1_;have ws:=n2_;have wr:=n3_;have vv:=n4_;have vu:=n5_;have vt:=n6_;have vr:=n7_;have qd:=n8_;have qa:=n9_;have HB:=n10_;clear n0_ n1_ n2_ n3_ n4_ n5_ n6_ n7_ n8_ n9_ n10_;(try clear hb);(try clear hb2);(try clear hk);(try clear hi)))
     go_meet
     case rel=>exact ⟨_,(!wz),(by first|rfl|(simp;done)|(simp [*];done)),H',⟨by first|omega|exact Nat.le_refl _⟩,⟨by (with_reducible repeat (first|apply Kd.R_alloc|apply Kd.R_drewN|apply Kd.R_drew));exact Kd.R_mono wu.out (fun _ hk=>hk.2)⟩,⟨by (with_reducible repeat (first|apply Kd.S_alloc|apply Kd.S_drewN|apply Kd.S_drew));exact Kd.S_mono wt.out (fun _ hk=>hk.2)⟩,⟨by (with_reducible repeat (first|apply Kd.S_alloc|apply Kd.S_drewN|apply Kd.S_drew));exact Kd.S_mono ws.out (fun _ hk=>⟨hk.1.1,⟨hk.1.2,hk.2⟩⟩)⟩,⟨by (with_reducible repeat (first|apply Kd.S_alloc|apply Kd.S_drewN|apply Kd.S_drew));exact Kd.S_mono wr.out (fun _ hk=>⟨hk.1.1,⟨hk.1.2,hk.2⟩⟩)⟩,⟨by (with_reducible repeat (first|apply Kd.R_alloc|apply Kd.R_drewN|apply Kd.R_drew));exact Kd.R_mono vv.out (fun _ hk=>hk.2)⟩,⟨by (with_reducible repeat (first|apply Kd.S_alloc|apply Kd.S_drewN|apply Kd.S_drew));exact Kd.S_mono vu.out (fun _ hk=>hk.2)⟩,⟨by (with_reducible repeat (first|apply Kd.S_alloc|apply Kd.S_drewN|apply Kd.S_drew));exact Kd.S_mono vt.out (fun _ hk=>⟨hk.1.2,⟨hk.2,hk.1.1⟩⟩)⟩,⟨by (with_reducible repeat (first|apply Kd.S_alloc|apply Kd.S_drewN|apply Kd.S_drew));exact Kd.S_mono vr.out (fun _ hk=>⟨hk.1.2,⟨hk.2,hk.1.1⟩⟩)⟩,⟨by (with_reducible repeat (first|refine blk_drewN ?_ _|refine blk_drew ?_|refine blk_alloc ?_ _));exact qd.out⟩,⟨by (with_reducible repeat (first|refine blk_drewN ?_ _|refine blk_drew ?_|refine blk_alloc ?_ _));exact qa.out⟩,⟨by repeat (first|(with_reducible first|exact HB.out|apply below_alloc|apply pw_below_drewN|apply below_drew1|refine below_set ?_ wy.out|refine below_set ?_ vp.out)|exact HB.out)⟩⟩
    ·replace c25:=Bool.eq_false_iff.mpr c25
     subst c25
     rw [if_neg (show ¬ (false = true) by decide)] at H
     have H':=Aside0.mk H
     clear H
     have qib:=wn.out
     have qhs:=ql.out
     have gm : w16.cell? ⟨qb,0,none⟩ = some (.int .i64 0):=(blk_cell qa.out 0).trans rfl
     have gl : w16.cell? ⟨qb,1,none⟩ = some (.int .i64 0):=(blk_cell qa.out 1).trans rfl
     have gk : w16.cell? ⟨qb,2,none⟩ = some (.slice none 0 0):=(blk_cell qa.out 2).trans rfl
     have gj : w16.cell? ⟨qb,3,none⟩ = some (.slice none 0 0):=(blk_cell qa.out 3).trans rfl
     have gi : w16.cell? ⟨qb,4,none⟩ = some (.slice none 0 0):=(blk_cell qa.out 4).trans rfl
     have gh : w16.cell? ⟨qb,5,none⟩ = some (.slice none 0 0):=(blk_cell qa.out 5).trans rfl
     have gg : w16.cell? ⟨qb,6,none⟩ = some (.int .i64 0):=(blk_cell qa.out 6).trans rfl
     have uu:=blk_frozen qa.out 0
     have ut:=blk_frozen qa.out 1
     have us:=blk_frozen qa.out 2
     have ur:=blk_frozen qa.out 3
     have uq:=blk_frozen qa.out 4
     have uo:=blk_frozen qa.out 5
     have un:=blk_frozen qa.out 6
     have gf : w16.cell? ⟨qf,0,none⟩ = some (.int .i64 wg):=(blk_cell qd.out 0).trans rfl
     have gc : w16.cell? ⟨qf,1,none⟩ = some (.int .i64 wh):=(blk_cell qd.out 1).trans rfl
     have gb : w16.cell? ⟨qf,2,none⟩ = some (.slice we qq.length qz):=(blk_cell qd.out 2).trans rfl
     have ga : w16.cell? ⟨qf,3,none⟩ = some (.slice wm qy.length wj):=(blk_cell qd.out 3).trans rfl
     have jz : w16.cell? ⟨qf,4,none⟩ = some (.slice wo wa.length wk):=(blk_cell qd.out 4).trans rfl
     have jy : w16.cell? ⟨qf,5,none⟩ = some (.slice wq wd.length wl):=(blk_cell qd.out 5).trans rfl
     have jx : w16.cell? ⟨qf,6,none⟩ = some (.int .i64 wi):=(blk_cell qd.out 6).trans rfl
     have um:=blk_frozen qd.out 0
     have ul:=blk_frozen qd.out 1
     have uk:=blk_frozen qd.out 2
     have uj:=blk_frozen qd.out 3
     have ui:=blk_frozen qd.out 4
     have uh:=blk_frozen qd.out 5
     have ug:=blk_frozen qd.out 6
     go_wp2_with (first|(go_at_call 42;(with_reducible refine (laws_lbWorld.calls k qi qm _ _ qg _ _ qj _ _ qk _ _ qh qp wg wh _ _ qq _ _ qy _ _ wa _ _ wd wi false _ ?side1 ?side2 ?side3 ?side4 ?side5 ?side6 ?side7 ?side8 ?side9 ?side10 ?side11 ?side12 ?side13 ?side14 ?side15 ?side16 A24.out).mono ?_);(case side1=>refine (Kd.R_reads' (e:=41) (base:=w.heap.size) (ok:=fun k_=>(True ∧ some k_ ≠ (.slice we qq.length qz : Value).ownBlock)) (n:=qg.length) (c:=qn) ?_).2.2;exact z43x4);(case side2=>exact (Kd.R_reads' vv.out).2.1);(case side3=>refine (Kd.S_reads' (e:=28) (base:=w.heap.size) (ok:=fun k_=>(True ∧ some k_ ≠ (.slice wm qy.length wj : Value).ownBlock)) (n:=qj.length) (c:=qr) ?_).2.2;exact z43x11);(case side4=>exact (Kd.S_reads' vu.out).2.1);(case side5=>refine (Kd.S_reads' (e:=128) (base:=w.heap.size) (ok:=fun k_=>((some k_ ≠ (.slice qo qg.length qn : Value).ownBlock ∧ some k_ ≠ (.slice we qq.length qz : Value).ownBlock) ∧ some k_ ≠ (.slice wo wa.length wk : Value).ownBlock)) (n:=qk.length) (c:=qu) ?_).2.2;exact z43x12);(case side6=>exact (Kd.S_reads' vt.out).2.1);(case side7=>refine (Kd.S_reads' (e:=34) (base:=w.heap.size) (ok:=fun k_=>((some k_ ≠ (.slice qo qg.length qn : Value).ownBlock ∧ some k_ ≠ (.slice we qq.length qz : Value).ownBlock) ∧ some k_ ≠ (.slice wq wd.length wl : Value).ownBlock)) (n:=qh.length) (c:=qw) ?_).2.2;exact z43x13);(case side8=>exact (Kd.S_reads' vr.out).2.1);(case side9=>refine (Kd.R_reads' (e:=41) (base:=w.heap.size) (ok:=fun k_=>(True ∧ some k_ ≠ (.slice qo qg.length qn : Value).ownBlock)) (n:=qq.length) (c:=qz) ?_).2.2;exact z43x3);(case side10=>exact (Kd.R_reads' wu.out).2.1);(case side11=>refine (Kd.S_reads' (e:=28) (base:=w.heap.size) (ok:=fun k_=>(True ∧ some k_ ≠ (.slice qv qj.length qr : Value).ownBlock)) (n:=qy.length) (c:=wj) ?_).2.2;exact z43x8);(case side12=>exact (Kd.S_reads' wt.out).2.1);(case side13=>refine (Kd.S_reads' (e:=128) (base:=w.heap.size) (ok:=fun k_=>((some k_ ≠ (.slice we qq.length qz : Value).ownBlock ∧ some k_ ≠ (.slice qo qg.length qn : Value).ownBlock) ∧ some k_ ≠ (.slice qx qk.length qu : Value).ownBlock)) (n:=wa.length) (c:=wk) ?_).2.2;exact z43x9);(case side14=>exact (Kd.S_reads' ws.out).2.1);(case side15=>refine (Kd.S_reads' (e:=34) (base:=w.heap.size) (ok:=fun k_=>((some k_ ≠ (.slice we qq.length qz : Value).ownBlock ∧ some k_ ≠ (.slice qo qg.length qn : Value).ownBlock) ∧ some k_ ≠ (.slice wb qh.length qw : Value).ownBlock)) (n:=wd.length) (c:=wl) ?_).2.2;exact z43x10);(case side16=>exact (Kd.S_reads' wr.out).2.1);rintro e w33 ⟨rfl,hb⟩; have n0_:=Aside0.mk (Kd.R_below z43x3 hb);have n1_:=Aside0.mk (Kd.S_below z43x8 hb);have n2_:=Aside0.mk (Kd.S_below z43x9 hb);have n3_:=Aside0.mk (Kd.S_below z43x10 hb);have n4_:=Aside0.mk (Kd.R_below z43x4 hb);have n5_:=Aside0.mk (Kd.S_below z43x11 hb);have n6_:=Aside0.mk (Kd.S_below z43x12 hb);have n7_:=Aside0.mk (Kd.S_below z43x13 hb);have n8_:=Aside0.mk (blk_below (g:=qf) (o:=.cells #[.int .i64 wg,.int .i64 wh,.slice we qq.length qz,.slice wm qy.length wj,.slice wo wa.length wk,.slice wq wd.length wl,.int .i64 wi] 69 (0,0)) z43x1 hb);have n9_:=Aside0.mk (blk_below (g:=qb) (o:=.cells #[.int .i64 qi,.int .i64 qm,.slice qo qg.length qn,.slice qv qj.length qr,.slice qx qk.length qu,.slice wb qh.length qw,.int .i64 qp] 69 (0,0)) z43x0 hb);have n10_:=Aside0.mk (below_step z43x14 hb);clear wu;clear wt;clear ws;clear wr;clear vv;clear vu;clear vt;clear vr;clear qd;clear qa;clear HB;have wu:=n0_;have wt:=n1_;have ws:=n2_;have wr:=n3_;have vv:=n4_;have vu:=n5_;have vt:=n6_;have vr:=n7_;have qd:=n8_;have qa:=n9_;have HB:=n10_;clear n0_ n1_ n2_ n3_ n4_ n5_ n6_ n7_ n8_ n9_ n10_;(try clear hb);(try clear hb2);(try clear hk);(try clear hi)))
     go_meet
     case rel=>exact ⟨_,(true),(by first|rfl|(simp;done)|(simp [*];done)),H',⟨by first|omega|exact Nat.le_refl _⟩,⟨by (with_reducible repeat (first|apply Kd.R_alloc|apply Kd.R_drewN|apply Kd.R_drew));exact Kd.R_mono wu.out (fun _ hk=>hk.2)⟩,⟨by (with_reducible repeat (first|apply Kd.S_alloc|apply Kd.S_drewN|apply Kd.S_drew));exact Kd.S_mono wt.out (fun _ hk=>hk.2)⟩,⟨by (with_reducible repeat (first|apply Kd.S_alloc|apply Kd.S_drewN|apply Kd.S_drew));exact Kd.S_mono ws.out (fun _ hk=>⟨hk.1.1,⟨hk.1.2,hk.2⟩⟩)⟩,⟨by (with_reducible repeat (first|apply Kd.S_alloc|apply Kd.S_drewN|apply Kd.S_drew));exact Kd.S_mono wr.out (fun _ hk=>⟨hk.1.1,⟨hk.1.2,hk.2⟩⟩)⟩,⟨by (with_reducible repeat (first|apply Kd.R_alloc|apply Kd.R_drewN|apply Kd.R_drew));exact Kd.R_mono vv.out (fun _ hk=>hk.2)⟩,⟨by (with_reducible repeat (first|apply Kd.S_alloc|apply Kd.S_drewN|apply Kd.S_drew));exact Kd.S_mono vu.out (fun _ hk=>hk.2)⟩,⟨by (with_reducible repeat (first|apply Kd.S_alloc|apply Kd.S_drewN|apply Kd.S_drew));exact Kd.S_mono vt.out (fun _ hk=>⟨hk.1.2,⟨hk.2,hk.1.1⟩⟩)⟩,⟨by (with_reducible repeat (first|apply Kd.S_alloc|apply Kd.S_drewN|apply Kd.S_drew));exact Kd.S_mono vr.out (fun _ hk=>⟨hk.1.2,⟨hk.2,hk.1.1⟩⟩)⟩,⟨by (with_reducible repeat (first|refine blk_drewN ?_ _|refine blk_drew ?_|refine blk_alloc ?_ _));exact qd.out⟩,⟨by (with_reducible repeat (first|refine blk_drewN ?_ _|refine blk_drew ?_|refine blk_alloc ?_ _));exact qa.out⟩,⟨by repeat (first|(with_reducible first|exact HB.out|apply below_alloc|apply pw_below_drewN|apply below_drew1|refine below_set ?_ wy.out|refine below_set ?_ vp.out)|exact HB.out)⟩⟩
  case rest =>
   clear HC6
   try clear c1
   try clear c2
   try clear qcm
   try clear qcl
   try clear p2
   try clear c3
   try clear c4
   try clear c8
   try clear c17
   try clear c23
   try clear vy
   try clear pw
   try clear pv
   try clear c25
   try clear c26
   try clear c30
   try clear pp
   try clear po
   try clear pn
   try clear pm
   try clear pl
   try clear pk
   try clear pj
   try clear pi
   try clear ph
   try clear pg
   try clear pf
   try clear pe
   try clear pd
   try clear pc
   try clear pb
   try clear pa
   try clear gz
   try clear gy
   try clear gx
   try clear gw
   try clear gv
   try clear gu
   try clear gt
   try clear gs
   try clear gr
   try clear gq
   try clear gp
   try clear gn
   try clear gm
   try clear gl
   try clear gk
   try clear gj
   try clear gi
   try clear gh
   try clear gg
   try clear gf
   try clear gc
   try clear gb
   try clear ga
   try clear jz
   try clear jy
   try clear jx
   try clear jw
   try clear jv
   try clear ju
   try clear jt
   try clear js
   try clear jr
   try clear jq
   try clear jp
   try clear jo
   try clear jn
   try clear jm
   try clear jl
   try clear jk
   try clear jj
   try clear ji
   try clear jh
   try clear jg
   try clear jf
   try clear je
   try clear jd
   try clear jc
   try clear jb
   try clear ja
   try clear uz
   try clear uy
   try clear ux
   try clear uw
   try clear uv
   try clear uu
   try clear ut
   try clear us
   try clear ur
   try clear uq
   try clear uo
   try clear un
   try clear um
   try clear ul
   try clear uk
   try clear uj
   try clear ui
   try clear uh
   try clear ug
   obtain ⟨kq,uf,rfl,HA,HJ5,HO_309002,HO_309003,HO_309004,HO_309005,HO_326002,HO_326003,HO_326004,HO_326005,qd,qa,HB⟩:=hcut
   cases kq with
   | zero=>exact absurd HA.out (by simp [laws_FnWorldNew.j0])
   | succ kj5 =>
    have H:=HA.out
    clear HA
    simp only [laws_FnWorldNew.j0] at H
    by_cases c34 : uf = true
    ·subst c34
     rw [if_pos rfl] at H
     by_cases c35 : (wz == wx) = true
     rotate_left
     ·rw [if_neg c35] at H
      have qci : (wz == wx) = false:=by simpa using c35
      (try (have qch : decide (wz = wx) = false:=by simpa using c35))
      (try (have qcg : (wz == wx) = false:=by simpa using c35))
      (try (have qif : ¬ (wz = wx):=by simpa using c35))
      clear c35
      obtain rfl:=Option.some.inj H
      go_wp2
      go_ret
      exact ⟨by first|rfl|(simp [errW_none,errW_some] <;> rfl)|(simp [*,errW_none,errW_some] <;> rfl),by repeat (first|(with_reducible first|exact HB.out|apply below_alloc|apply pw_below_drewN|apply below_drew1|refine below_set ?_ wy.out|refine below_set ?_ vp.out)|exact HB.out)⟩
     rw [if_pos c35] at H
     have qci : (wz == wx) = true:=c35
     (try (have qch : decide (wz = wx) = true:=by simpa using c35))
     (try (have qcg : (wz == wx) = true:=by simpa using c35))
     clear c35
     replace H:=Option.bind_eq_some_iff.mp H
     obtain ⟨qai,qdb,H⟩:=H
     replace H : (some qai) = some r:=H
     have A36:=Aside0.mk qdb
     clear qdb
     obtain rfl:=Option.some.inj H
     have qia:=wn.out
     have qhr:=ql.out
     have qca : wc.cell? ⟨qb,0,none⟩ = some (.int .i64 qi):=(blk_cell qa.out 0).trans rfl
     have qbz : wc.cell? ⟨qb,1,none⟩ = some (.int .i64 qm):=(blk_cell qa.out 1).trans rfl
     have qby : wc.cell? ⟨qb,2,none⟩ = some (.slice qo qg.length qn):=(blk_cell qa.out 2).trans rfl
     have qbx : wc.cell? ⟨qb,3,none⟩ = some (.slice qv qj.length qr):=(blk_cell qa.out 3).trans rfl
     have qbw : wc.cell? ⟨qb,4,none⟩ = some (.slice qx qk.length qu):=(blk_cell qa.out 4).trans rfl
     have qbv : wc.cell? ⟨qb,5,none⟩ = some (.slice wb qh.length qw):=(blk_cell qa.out 5).trans rfl
     have qbu : wc.cell? ⟨qb,6,none⟩ = some (.int .i64 qp):=(blk_cell qa.out 6).trans rfl
     have qbf:=blk_frozen qa.out 0
     have qbe:=blk_frozen qa.out 1
     have qbd:=blk_frozen qa.out 2
     have qbc:=blk_frozen qa.out 3
     have qbb:=blk_frozen qa.out 4
     have qba:=blk_frozen qa.out 5
     have qaz:=blk_frozen qa.out 6
     have qbt : wc.cell? ⟨qf,0,none⟩ = some (.int .i64 wg):=(blk_cell qd.out 0).trans rfl
     have qbs : wc.cell? ⟨qf,1,none⟩ = some (.int .i64 wh):=(blk_cell qd.out 1).trans rfl
     have qbr : wc.cell? ⟨qf,2,none⟩ = some (.slice we qq.length qz):=(blk_cell qd.out 2).trans rfl
     have qbq : wc.cell? ⟨qf,3,none⟩ = some (.slice wm qy.length wj):=(blk_cell qd.out 3).trans rfl
     have qbp : wc.cell? ⟨qf,4,none⟩ = some (.slice wo wa.length wk):=(blk_cell qd.out 4).trans rfl
     have qbo : wc.cell? ⟨qf,5,none⟩ = some (.slice wq wd.length wl):=(blk_cell qd.out 5).trans rfl
     have qbn : wc.cell? ⟨qf,6,none⟩ = some (.int .i64 wi):=(blk_cell qd.out 6).trans rfl
     have qay:=blk_frozen qd.out 0
     have qax:=blk_frozen qd.out 1
     have qaw:=blk_frozen qd.out 2
     have qav:=blk_frozen qd.out 3
     have qau:=blk_frozen qd.out 4
     have qat:=blk_frozen qd.out 5
     have qas:=blk_frozen qd.out 6
     go_wp2_with (first|(go_at_call 42;(with_reducible refine (laws_lbWorld.calls kj5 qi qm _ _ qg _ _ qj _ _ qk _ _ qh qp wg wh _ _ qq _ _ qy _ _ wa _ _ wd wi qai _ ?side1 ?side2 ?side3 ?side4 ?side5 ?side6 ?side7 ?side8 ?side9 ?side10 ?side11 ?side12 ?side13 ?side14 ?side15 ?side16 A36.out).mono ?_);(case side1=>repeat (first|exact (Kd.R_reads' HO_326002.out).2.2|(with_reducible refine Kd.C_alloc ?_ _)|(with_reducible refine Kd.C_drewN ?_ _)|(with_reducible refine Kd.C_drew ?_)));(case side2=>exact (Kd.R_reads' HO_326002.out).2.1);(case side3=>repeat (first|exact (Kd.S_reads' HO_326003.out).2.2|(with_reducible refine Kd.C_alloc ?_ _)|(with_reducible refine Kd.C_drewN ?_ _)|(with_reducible refine Kd.C_drew ?_)));(case side4=>exact (Kd.S_reads' HO_326003.out).2.1);(case side5=>repeat (first|exact (Kd.S_reads' HO_326004.out).2.2|(with_reducible refine Kd.C_alloc ?_ _)|(with_reducible refine Kd.C_drewN ?_ _)|(with_reducible refine Kd.C_drew ?_)));(case side6=>exact (Kd.S_reads' HO_326004.out).2.1);(case side7=>repeat (first|exact (Kd.S_reads' HO_326005.out).2.2|(with_reducible refine Kd.C_alloc ?_ _)|(with_reducible refine Kd.C_drewN ?_ _)|(with_reducible refine Kd.C_drew ?_)));(case side8=>exact (Kd.S_reads' HO_326005.out).2.1);(case side9=>repeat (first|exact (Kd.R_reads' HO_309002.out).2.2|(with_reducible refine Kd.C_alloc ?_ _)|(with_reducible refine Kd.C_drewN ?_ _)|(with_reducible refine Kd.C_drew ?_)));(case side10=>exact (Kd.R_reads' HO_309002.out).2.1);(case side11=>repeat (first|exact (Kd.S_reads' HO_309003.out).2.2|(with_reducible refine Kd.C_alloc ?_ _)|(with_reducible refine Kd.C_drewN ?_ _)|(with_reducible refine Kd.C_drew ?_)));(case side12=>exact (Kd.S_reads' HO_309003.out).2.1);(case side13=>repeat (first|exact (Kd.S_reads' HO_309004.out).2.2|(with_reducible refine Kd.C_alloc ?_ _)|(with_reducible refine Kd.C_drewN ?_ _)|(with_reducible refine Kd.C_drew ?_)));(case side14=>exact (Kd.S_reads' HO_309004.out).2.1);(case side15=>repeat (first|exact (Kd.S_reads' HO_309005.out).2.2|(with_reducible refine Kd.C_alloc ?_ _)|(with_reducible refine Kd.C_drewN ?_ _)|(with_reducible refine Kd.C_drew ?_)));(case side16=>exact (Kd.S_reads' HO_309005.out).2.1);rintro e w40 ⟨rfl,hb⟩; have n0_:=Aside0.mk (Kd.R_below z43x21 hb);have n1_:=Aside0.mk (Kd.S_below z43x23 hb);have n2_:=Aside0.mk (Kd.S_below z43x24 hb);have n3_:=Aside0.mk (Kd.S_below z43x25 hb);have n4_:=Aside0.mk (Kd.R_below z43x22 hb);have n5_:=Aside0.mk (Kd.S_below z43x26 hb);have n6_:=Aside0.mk (Kd.S_below z43x27 hb);have n7_:=Aside0.mk (Kd.S_below z43x28 hb);have n8_:=Aside0.mk (blk_below (g:=qf) (o:=.cells #[.int .i64 wg,.int .i64 wh,.slice we qq.length qz,.slice wm qy.length wj,.slice wo wa.length wk,.slice wq wd.length wl,.int .i64 wi] 69 (0,0)) z43x19 hb);have n9_:=Aside0.mk (blk_below (g:=qb) (o:=.cells #[.int .i64 qi,.int .i64 qm,.slice qo qg.length qn,.slice qv qj.length qr,.slice qx qk.length qu,.slice wb qh.length qw,.int .i64 qp] 69 (0,0)) z43x20 hb);have n10_:=Aside0.mk (below_step z43x14 hb);clear HO_309002;clear HO_309003;clear HO_309004;clear HO_309005;clear HO_326002;clear HO_326003;clear HO_326004;clear HO_326005;clear qd;clear qa;clear HB;have HO_309002:=n0_;have HO_309003:=n1_;have HO_309004:=n2_;have HO_309005:=n3_;have HO_326002:=n4_;have HO_326003:=n5_;have HO_326004:=n6_;have HO_326005:=n7_;have qd:=n8_;have qa:=n9_;have HB:=n10_;clear n0_ n1_ n2_ n3_ n4_ n5_ n6_ n7_ n8_ n9_ n10_;(try clear hb);(try clear hb2);(try clear hk);(try clear hi)))
     go_ret
     exact ⟨by first|rfl|(simp [errW_none,errW_some] <;> rfl)|(simp [*,errW_none,errW_some] <;> rfl),by repeat (first|(with_reducible first|exact HB.out|apply below_alloc|apply pw_below_drewN|apply below_drew1|refine below_set ?_ wy.out|refine below_set ?_ vp.out)|exact HB.out)⟩
    ·replace c34:=Bool.eq_false_iff.mpr c34
     subst c34
     rw [if_neg (show ¬ (false = true) by decide)] at H
     replace H:=Option.bind_eq_some_iff.mp H
     obtain ⟨vw,qda,H⟩:=H
     replace H : (if qt = 0 then (if (vw.length : Int) = 0 then (if qt > 0 then ((laws_lbInts.f kj5 vw (([qt] : List Int))).bind fun uc=>(laws_FnWorldNew.j1 kj5 (!uc) qi qm qg qj qk qh qp)) else (laws_FnWorldNew.j1 kj5 false qi qm qg qj qk qh qp)) else (laws_FnWorldNew.j1 kj5 true qi qm qg qj qk qh qp)) else (if qt > 0 then ((laws_lbInts.f kj5 vw (([qt] : List Int))).bind fun ub=>(laws_FnWorldNew.j1 kj5 (!ub) qi qm qg qj qk qh qp)) else (laws_FnWorldNew.j1 kj5 false qi qm qg qj qk qh qp))) = some r:=H
     have A41:=Aside0.mk qda
     clear qda
     have qcn:=Aside0.mk H
     clear H
     have qhz:=wn.out
     have qhq:=ql.out
     have qbm : wc.cell? ⟨qb,0,none⟩ = some (.int .i64 qi):=(blk_cell qa.out 0).trans rfl
     have qbl : wc.cell? ⟨qb,1,none⟩ = some (.int .i64 qm):=(blk_cell qa.out 1).trans rfl
     have qbk : wc.cell? ⟨qb,2,none⟩ = some (.slice qo qg.length qn):=(blk_cell qa.out 2).trans rfl
     have qbj : wc.cell? ⟨qb,3,none⟩ = some (.slice qv qj.length qr):=(blk_cell qa.out 3).trans rfl
     have qbi : wc.cell? ⟨qb,4,none⟩ = some (.slice qx qk.length qu):=(blk_cell qa.out 4).trans rfl
     have qbh : wc.cell? ⟨qb,5,none⟩ = some (.slice wb qh.length qw):=(blk_cell qa.out 5).trans rfl
     have qbg : wc.cell? ⟨qb,6,none⟩ = some (.int .i64 qp):=(blk_cell qa.out 6).trans rfl
     have qar:=blk_frozen qa.out 0
     have qaq:=blk_frozen qa.out 1
     have qap:=blk_frozen qa.out 2
     have qao:=blk_frozen qa.out 3
     have qan:=blk_frozen qa.out 4
     have qam:=blk_frozen qa.out 5
     have qal:=blk_frozen qa.out 6
     go_upto_region 9 with (first|((with_reducible refine gate_callee (f:=43) rfl ?_);refine goesL_ (some 46) rfl rfl Try.func43 (by kernel_rfl) rfl #[.agg #[.int .i64 qi,.int .i64 qm,.slice qo qg.length qn,.slice qv qj.length qr,.slice qx qk.length qu,.slice wb qh.length qw,.int .i64 qp]] rfl z43x17 ?_;(with_reducible refine (impl_WorldKeys.calls qi qm _ _ qg _ _ qj _ _ qk _ _ qh qp vw _ ?side1 ?side2 ?side3 ?side4 ?side5 ?side6 ?side7 ?side8 A41.out).mono ?_);(case side1=>repeat (first|exact (Kd.R_reads' HO_326002.out).2.2|(with_reducible refine Kd.C_alloc ?_ _)|(with_reducible refine Kd.C_drewN ?_ _)|(with_reducible refine Kd.C_drew ?_)));(case side2=>exact (Kd.R_reads' HO_326002.out).2.1);(case side3=>repeat (first|exact (Kd.S_reads' HO_326003.out).2.2|(with_reducible refine Kd.C_alloc ?_ _)|(with_reducible refine Kd.C_drewN ?_ _)|(with_reducible refine Kd.C_drew ?_)));(case side4=>exact (Kd.S_reads' HO_326003.out).2.1);(case side5=>repeat (first|exact (Kd.S_reads' HO_326004.out).2.2|(with_reducible refine Kd.C_alloc ?_ _)|(with_reducible refine Kd.C_drewN ?_ _)|(with_reducible refine Kd.C_drew ?_)));(case side6=>exact (Kd.S_reads' HO_326004.out).2.1);(case side7=>repeat (first|exact (Kd.S_reads' HO_326005.out).2.2|(with_reducible refine Kd.C_alloc ?_ _)|(with_reducible refine Kd.C_drewN ?_ _)|(with_reducible refine Kd.C_drew ?_)));(case side8=>exact (Kd.S_reads' HO_326005.out).2.1);rintro e w45 ⟨qim,rfl,ho0,hb⟩; refine ⟨_,rfl,?_⟩; have n0_:=Aside0.mk (Kd.R_below z43x21 hb);have n1_:=Aside0.mk (Kd.S_below z43x23 hb);have n2_:=Aside0.mk (Kd.S_below z43x24 hb);have n3_:=Aside0.mk (Kd.S_below z43x25 hb);have n4_:=Aside0.mk (Kd.R_below z43x22 hb);have n5_:=Aside0.mk (Kd.S_below z43x26 hb);have n6_:=Aside0.mk (Kd.S_below z43x27 hb);have n7_:=Aside0.mk (Kd.S_below z43x28 hb);have n8_:=Aside0.mk (Kd.V_lower (Kd.V_mono (ok':=fun k_=>some k_ ≠ (.slice we qq.length qz : Value).ownBlock ∧ some k_ ≠ (.slice wm qy.length wj : Value).ownBlock ∧ some k_ ≠ (.slice wo wa.length wk : Value).ownBlock ∧ some k_ ≠ (.slice wq wd.length wl : Value).ownBlock ∧ some k_ ≠ (.slice qo qg.length qn : Value).ownBlock ∧ some k_ ≠ (.slice qv qj.length qr : Value).ownBlock ∧ some k_ ≠ (.slice qx qk.length qu : Value).ownBlock ∧ some k_ ≠ (.slice wb qh.length qw : Value).ownBlock ∧ k_ ≠ qf ∧ k_ ≠ qb) ho0 (fun k_ hk_=>⟨(Kd.fresh' (Kd.R_lt z43x21) k_ hk_),(Kd.fresh' (Kd.S_lt z43x23) k_ hk_),(Kd.fresh' (Kd.S_lt z43x24) k_ hk_),(Kd.fresh' (Kd.S_lt z43x25) k_ hk_),(Kd.fresh' (Kd.R_lt z43x22) k_ hk_),(Kd.fresh' (Kd.S_lt z43x26) k_ hk_),(Kd.fresh' (Kd.S_lt z43x27) k_ hk_),(Kd.fresh' (Kd.S_lt z43x28) k_ hk_),(Kd.freshB (g:=qf) (o:=.cells #[.int .i64 wg,.int .i64 wh,.slice we qq.length qz,.slice wm qy.length wj,.slice wo wa.length wk,.slice wq wd.length wl,.int .i64 wi] 69 (0,0)) z43x19 k_ hk_),(Kd.freshB (g:=qb) (o:=.cells #[.int .i64 qi,.int .i64 qm,.slice qo qg.length qn,.slice qv qj.length qr,.slice qx qk.length qu,.slice wb qh.length qw,.int .i64 qp] 69 (0,0)) z43x20 k_ hk_)⟩)) (below_size z43x14));have n9_:=Aside0.mk (blk_below (g:=qf) (o:=.cells #[.int .i64 wg,.int .i64 wh,.slice we qq.length qz,.slice wm qy.length wj,.slice wo wa.length wk,.slice wq wd.length wl,.int .i64 wi] 69 (0,0)) z43x19 hb);have n10_:=Aside0.mk (blk_below (g:=qb) (o:=.cells #[.int .i64 qi,.int .i64 qm,.slice qo qg.length qn,.slice qv qj.length qr,.slice qx qk.length qu,.slice wb qh.length qw,.int .i64 qp] 69 (0,0)) z43x20 hb);have n11_:=Aside0.mk (below_step z43x14 hb);clear HO_309002;clear HO_309003;clear HO_309004;clear HO_309005;clear HO_326002;clear HO_326003;clear HO_326004;clear HO_326005;clear qd;clear qa;clear HB;have HO_309002:=n0_;have HO_309003:=n1_;have HO_309004:=n2_;have HO_309005:=n3_;have HO_326002:=n4_;have HO_326003:=n5_;have HO_326004:=n6_;have HO_326005:=n7_;have vq:=n8_;have qd:=n9_;have qa:=n10_;have HB:=n11_;clear n0_ n1_ n2_ n3_ n4_ n5_ n6_ n7_ n8_ n9_ n10_ n11_;(try clear hb);(try clear hb2);(try clear hk);(try clear hi);(try clear ho0)))
     (try simp only [Act.put,List.setIfInBounds_toArray,List.set_cons_zero,List.set_cons_succ])
     go_cut [64] (fun v64 wc=>∃ (kq : Nat) (ua : Bool),v64 = .bool ua ∧ Aside0 (laws_FnWorldNew.j1 kq ua qi qm qg qj qk qh qp = some r) ∧ Aside0 (kq ≤ kj5) ∧ Aside0 (Kd.R k41 41 wc w.heap.size (fun k_=>some k_ ≠ ((.slice qo qg.length qn) : Value).ownBlock) (.slice we qq.length qz) qq) ∧ Aside0 (Kd.S k28 28 wc w.heap.size (fun k_=>some k_ ≠ ((.slice qv qj.length qr) : Value).ownBlock) (.slice wm qy.length wj) qy) ∧ Aside0 (Kd.S k128 128 wc w.heap.size (fun k_=>some k_ ≠ ((.slice we qq.length qz) : Value).ownBlock ∧ some k_ ≠ ((.slice qo qg.length qn) : Value).ownBlock ∧ some k_ ≠ ((.slice qx qk.length qu) : Value).ownBlock) (.slice wo wa.length wk) wa) ∧ Aside0 (Kd.S k34 34 wc w.heap.size (fun k_=>some k_ ≠ ((.slice we qq.length qz) : Value).ownBlock ∧ some k_ ≠ ((.slice qo qg.length qn) : Value).ownBlock ∧ some k_ ≠ ((.slice wb qh.length qw) : Value).ownBlock) (.slice wq wd.length wl) wd) ∧ Aside0 (Kd.R k41 41 wc w.heap.size (fun k_=>some k_ ≠ ((.slice we qq.length qz) : Value).ownBlock) (.slice qo qg.length qn) qg) ∧ Aside0 (Kd.S k28 28 wc w.heap.size (fun k_=>some k_ ≠ ((.slice wm qy.length wj) : Value).ownBlock) (.slice qv qj.length qr) qj) ∧ Aside0 (Kd.S k128 128 wc w.heap.size (fun k_=>some k_ ≠ ((.slice we qq.length qz) : Value).ownBlock ∧ some k_ ≠ ((.slice wo wa.length wk) : Value).ownBlock ∧ some k_ ≠ ((.slice qo qg.length qn) : Value).ownBlock) (.slice qx qk.length qu) qk) ∧ Aside0 (Kd.S k34 34 wc w.heap.size (fun k_=>some k_ ≠ ((.slice we qq.length qz) : Value).ownBlock ∧ some k_ ≠ ((.slice wq wd.length wl) : Value).ownBlock ∧ some k_ ≠ ((.slice qo qg.length qn) : Value).ownBlock) (.slice wb qh.length qw) qh) ∧ Aside0 (wc.heap[qf]? = some (.cells #[.int .i64 wg,.int .i64 wh,(.slice we qq.length qz),(.slice wm qy.length wj),(.slice wo wa.length wk),(.slice wq wd.length wl),.int .i64 wi] 69 (0,0))) ∧ Aside0 (wc.heap[qb]? = some (.cells #[.int .i64 qi,.int .i64 qm,(.slice qo qg.length qn),(.slice qv qj.length qr),(.slice qx qk.length qu),(.slice wb qh.length qw),.int .i64 qp] 69 (0,0))) ∧ Aside0 (Below w.heap.size w wc))
     case first =>
      have H:=qcn.out
      clear qcn
      by_cases c46 : qt = 0
      rotate_left
      ·rw [if_neg c46] at H
       have vz : (qt == 0) = false:=beq_eq_false_iff_ne.mpr c46
       have qcf : (qt != 0) = true:=bne_iff_ne.mpr c46
       (first|rw [vz]|(simp only [i64_w,i32_w];rw [vz])|skip)
       by_cases c56 : qt > 0
       rotate_left
       ·rw [if_neg c56] at H
        have qcb : decide (0 < qt) = false:=decide_eq_false c56
        clear c56
        have H':=Aside0.mk H
        clear H
        go_wp2
        go_meet
        case rel=>exact ⟨_,(false),(by first|rfl|(simp;done)|(simp [*];done)),H',⟨by have:=HJ5.out;first|omega|exact Nat.le_refl _⟩,⟨by (with_reducible repeat (first|apply Kd.R_alloc|apply Kd.R_drewN|apply Kd.R_drew));exact HO_309002.out⟩,⟨by (with_reducible repeat (first|apply Kd.S_alloc|apply Kd.S_drewN|apply Kd.S_drew));exact HO_309003.out⟩,⟨by (with_reducible repeat (first|apply Kd.S_alloc|apply Kd.S_drewN|apply Kd.S_drew));exact HO_309004.out⟩,⟨by (with_reducible repeat (first|apply Kd.S_alloc|apply Kd.S_drewN|apply Kd.S_drew));exact HO_309005.out⟩,⟨by (with_reducible repeat (first|apply Kd.R_alloc|apply Kd.R_drewN|apply Kd.R_drew));exact HO_326002.out⟩,⟨by (with_reducible repeat (first|apply Kd.S_alloc|apply Kd.S_drewN|apply Kd.S_drew));exact HO_326003.out⟩,⟨by (with_reducible repeat (first|apply Kd.S_alloc|apply Kd.S_drewN|apply Kd.S_drew));exact HO_326004.out⟩,⟨by (with_reducible repeat (first|apply Kd.S_alloc|apply Kd.S_drewN|apply Kd.S_drew));exact HO_326005.out⟩,⟨by (with_reducible repeat (first|refine blk_drewN ?_ _|refine blk_drew ?_|refine blk_alloc ?_ _));exact qd.out⟩,⟨by (with_reducible repeat (first|refine blk_drewN ?_ _|refine blk_drew ?_|refine blk_alloc ?_ _));exact qa.out⟩,⟨by repeat (first|(with_reducible first|exact HB.out|apply below_alloc|apply pw_below_drewN|apply below_drew1|refine below_set ?_ wy.out|refine below_set ?_ vp.out)|exact HB.out)⟩⟩
       rw [if_pos c56] at H
       have qcb : decide (0 < qt) = true:=decide_eq_true c56
       clear c56
       obtain ⟨qco,ud⟩ : ∃ y_ : List Int,y_ = (([qt] : List Int)):=⟨_,rfl⟩
       replace H : ((laws_lbInts.f kj5 vw qco).bind fun ub=>(laws_FnWorldNew.j1 kj5 (!ub) qi qm qg qj qk qh qp)) = some r:=by first|(rw [ud];with_reducible exact H)|(have H2_:=(Option.bind_some _ _).symm.trans H;rw [ud];with_reducible exact H2_)|(have H2_:=(Option.bind_some _ _).symm.trans H;with_reducible exact H2_)|with_reducible exact H|(rw [ud];exact H)|exact H
       have qcj:=Aside0.mk ud
       clear ud
       replace H:=Option.bind_eq_some_iff.mp H
       obtain ⟨ub,qcy,H⟩:=H
       replace H : (laws_FnWorldNew.j1 kj5 (!ub) qi qm qg qj qk qh qp) = some r:=H
       have A57:=Aside0.mk qcy
       clear qcy
       have H':=Aside0.mk H
       clear H
       go_wp2_with (first|((with_reducible refine gate_dst (N:=60) rfl ?_);refine ungate ?hw ?_;(case hw=>first|rfl|(go_simp;done)|(go_simp;rfl));refine Kd.R_lit (Kd.int .i64) _ 3 ?hg (N:=60) ?hd (xs:=([qt] : List Int)) (inner:=[.int .i64 qt]) (ok:=fun _=>True) (okp:=fun _=>True) ?hr ?hp (fun _ hk=>hk) trivial (Below.refl _ _) (Nat.le_refl _) (by simp) ?_;(case hd=>rfl);(case hg=>rfl);(case hr=>first|(go_simp;done)|(go_simp;rfl));(case hp=>exact (Reps.one (show Kd.M (Kd.int .i64) _ _ _ qt [.int .i64 qt] from rfl) (Reps.none _ _)));intro qik w58 pr hb hg_ hnew_;clear hg_ hnew_;(first|rw [← qcj.out] at pr|(simp only [Int.reduceToNat] at pr;rw [← qcj.out] at pr));have n0_:=Aside0.mk (Kd.R_below z43x21 hb);have n1_:=Aside0.mk (Kd.S_below z43x23 hb);have n2_:=Aside0.mk (Kd.S_below z43x24 hb);have n3_:=Aside0.mk (Kd.S_below z43x25 hb);have n4_:=Aside0.mk (Kd.R_below z43x22 hb);have n5_:=Aside0.mk (Kd.S_below z43x26 hb);have n6_:=Aside0.mk (Kd.S_below z43x27 hb);have n7_:=Aside0.mk (Kd.S_below z43x28 hb);have n8_:=Aside0.mk (Kd.V_elder' (by (with_reducible repeat (first|apply Kd.V_alloc|apply Kd.V_drewN|apply Kd.V_drew));exact vq.out) (Kd.R_base pr) hb);have n9_:=Aside0.mk (Kd.R_lower pr (below_size z43x14));have n10_:=Aside0.mk (blk_below (g:=qf) (o:=.cells #[.int .i64 wg,.int .i64 wh,.slice we qq.length qz,.slice wm qy.length wj,.slice wo wa.length wk,.slice wq wd.length wl,.int .i64 wi] 69 (0,0)) z43x19 hb);have n11_:=Aside0.mk (blk_below (g:=qb) (o:=.cells #[.int .i64 qi,.int .i64 qm,.slice qo qg.length qn,.slice qv qj.length qr,.slice qx qk.length qu,.slice wb qh.length qw,.int .i64 qp] 69 (0,0)) z43x20 hb);have n12_:=Aside0.mk (below_step z43x14 hb);clear HO_309002;clear HO_309003;clear HO_309004;clear HO_309005;clear HO_326002;clear HO_326003;clear HO_326004;clear HO_326005;clear vq;clear qd;clear qa;clear HB;have HO_309002:=n0_;have HO_309003:=n1_;have HO_309004:=n2_;have HO_309005:=n3_;have HO_326002:=n4_;have HO_326003:=n5_;have HO_326004:=n6_;have HO_326005:=n7_;have vq:=n8_;have px:=n9_;have qd:=n10_;have qa:=n11_;have HB:=n12_;clear n0_ n1_ n2_ n3_ n4_ n5_ n6_ n7_ n8_ n9_ n10_ n11_ n12_;clear hb pr;obtain ⟨qjg,qiy,qgz⟩:=Kd.V_slice vq.out;subst qgz;obtain ⟨qjf,qix,qgy⟩:=Kd.R_slice px.out;subst qgy)|(go_at_call 44;(with_reducible refine (laws_lbInts.calls kj5 _ _ vw _ _ qco ub _ ?side1 ?side2 ?side3 ?side4 A57.out).mono ?_);(case side1=>repeat (first|exact (Kd.V_reads' vq.out).2.2|(with_reducible refine Kd.C_alloc ?_ _)|(with_reducible refine Kd.C_drewN ?_ _)|(with_reducible refine Kd.C_drew ?_)));(case side2=>exact (Kd.V_reads' vq.out).2.1);(case side3=>repeat (first|exact (Kd.R_reads' px.out).2.2|(with_reducible refine Kd.C_alloc ?_ _)|(with_reducible refine Kd.C_drewN ?_ _)|(with_reducible refine Kd.C_drew ?_)));(case side4=>exact (Kd.R_reads' px.out).2.1);rintro e w' ⟨rfl,⟨nd,rfl⟩⟩))
       go_meet
       case rel=>exact ⟨_,(!ub),(by first|rfl|(simp;done)|(simp [*];done)),H',⟨by have:=HJ5.out;first|omega|exact Nat.le_refl _⟩,⟨by (with_reducible repeat (first|apply Kd.R_alloc|apply Kd.R_drewN|apply Kd.R_drew));exact HO_309002.out⟩,⟨by (with_reducible repeat (first|apply Kd.S_alloc|apply Kd.S_drewN|apply Kd.S_drew));exact HO_309003.out⟩,⟨by (with_reducible repeat (first|apply Kd.S_alloc|apply Kd.S_drewN|apply Kd.S_drew));exact HO_309004.out⟩,⟨by (with_reducible repeat (first|apply Kd.S_alloc|apply Kd.S_drewN|apply Kd.S_drew));exact HO_309005.out⟩,⟨by (with_reducible repeat (first|apply Kd.R_alloc|apply Kd.R_drewN|apply Kd.R_drew));exact HO_326002.out⟩,⟨by (with_reducible repeat (first|apply Kd.S_alloc|apply Kd.S_drewN|apply Kd.S_drew));exact HO_326003.out⟩,⟨by (with_reducible repeat (first|apply Kd.S_alloc|apply Kd.S_drewN|apply Kd.S_drew));exact HO_326004.out⟩,⟨by (with_reducible repeat (first|apply Kd.S_alloc|apply Kd.S_drewN|apply Kd.S_drew));exact HO_326005.out⟩,⟨by (with_reducible repeat (first|refine blk_drewN ?_ _|refine blk_drew ?_|refine blk_alloc ?_ _));exact qd.out⟩,⟨by (with_reducible repeat (first|refine blk_drewN ?_ _|refine blk_drew ?_|refine blk_alloc ?_ _));exact qa.out⟩,⟨by repeat (first|(with_reducible first|exact HB.out|apply below_alloc|apply pw_below_drewN|apply below_drew1|refine below_set ?_ wy.out|refine below_set ?_ vp.out)|exact HB.out)⟩⟩
      rw [if_pos c46] at H
      have vz : (qt == 0) = true:=beq_iff_eq.mpr c46
      have qcf : (qt != 0) = false:=bne_eq_false_iff_eq.mpr c46
      clear c46
      (first|rw [vz]|(simp only [i64_w,i32_w];rw [vz])|skip)
      by_cases c47 : (vw.length : Int) = 0
      rotate_left
      ·rw [if_neg c47] at H
       have qce : ((vw.length : Int) == 0) = false:=beq_eq_false_iff_ne.mpr c47
       have qcd : ((vw.length : Int) != 0) = true:=bne_iff_ne.mpr c47
       have qcu : ¬ (vw = []):=fun h_=>c47 (by rw [h_];rfl)
       have H':=Aside0.mk H
       clear H
       obtain ⟨qjh,qiz,qha⟩:=Kd.V_slice vq.out
       subst qha
       go_wp2
       go_meet
       case rel=>exact ⟨_,(true),(by first|rfl|(simp;done)|(simp [*];done)),H',⟨by have:=HJ5.out;first|omega|exact Nat.le_refl _⟩,⟨by (with_reducible repeat (first|apply Kd.R_alloc|apply Kd.R_drewN|apply Kd.R_drew));exact HO_309002.out⟩,⟨by (with_reducible repeat (first|apply Kd.S_alloc|apply Kd.S_drewN|apply Kd.S_drew));exact HO_309003.out⟩,⟨by (with_reducible repeat (first|apply Kd.S_alloc|apply Kd.S_drewN|apply Kd.S_drew));exact HO_309004.out⟩,⟨by (with_reducible repeat (first|apply Kd.S_alloc|apply Kd.S_drewN|apply Kd.S_drew));exact HO_309005.out⟩,⟨by (with_reducible repeat (first|apply Kd.R_alloc|apply Kd.R_drewN|apply Kd.R_drew));exact HO_326002.out⟩,⟨by (with_reducible repeat (first|apply Kd.S_alloc|apply Kd.S_drewN|apply Kd.S_drew));exact HO_326003.out⟩,⟨by (with_reducible repeat (first|apply Kd.S_alloc|apply Kd.S_drewN|apply Kd.S_drew));exact HO_326004.out⟩,⟨by (with_reducible repeat (first|apply Kd.S_alloc|apply Kd.S_drewN|apply Kd.S_drew));exact HO_326005.out⟩,⟨by (with_reducible repeat (first|refine blk_drewN ?_ _|refine blk_drew ?_|refine blk_alloc ?_ _));exact qd.out⟩,⟨by (with_reducible repeat (first|refine blk_drewN ?_ _|refine blk_drew ?_|refine blk_alloc ?_ _));exact qa.out⟩,⟨by repeat (first|(with_reducible first|exact HB.out|apply below_alloc|apply pw_below_drewN|apply below_drew1|refine below_set ?_ wy.out|refine below_set ?_ vp.out)|exact HB.out)⟩⟩
      rw [if_pos c47] at H
      have qce : ((vw.length : Int) == 0) = true:=beq_iff_eq.mpr c47
      have qcd : ((vw.length : Int) != 0) = false:=bne_eq_false_iff_eq.mpr c47
      clear c47
      by_cases c48 : qt > 0
      rotate_left
      ·rw [if_neg c48] at H
       have qcc : decide (0 < qt) = false:=decide_eq_false c48
       clear c48
       have H':=Aside0.mk H
       clear H
       obtain ⟨qji,qja,qhb⟩:=Kd.V_slice vq.out
       subst qhb
       go_wp2
       go_meet
       case rel=>exact ⟨_,(false),(by first|rfl|(simp;done)|(simp [*];done)),H',⟨by have:=HJ5.out;first|omega|exact Nat.le_refl _⟩,⟨by (with_reducible repeat (first|apply Kd.R_alloc|apply Kd.R_drewN|apply Kd.R_drew));exact HO_309002.out⟩,⟨by (with_reducible repeat (first|apply Kd.S_alloc|apply Kd.S_drewN|apply Kd.S_drew));exact HO_309003.out⟩,⟨by (with_reducible repeat (first|apply Kd.S_alloc|apply Kd.S_drewN|apply Kd.S_drew));exact HO_309004.out⟩,⟨by (with_reducible repeat (first|apply Kd.S_alloc|apply Kd.S_drewN|apply Kd.S_drew));exact HO_309005.out⟩,⟨by (with_reducible repeat (first|apply Kd.R_alloc|apply Kd.R_drewN|apply Kd.R_drew));exact HO_326002.out⟩,⟨by (with_reducible repeat (first|apply Kd.S_alloc|apply Kd.S_drewN|apply Kd.S_drew));exact HO_326003.out⟩,⟨by (with_reducible repeat (first|apply Kd.S_alloc|apply Kd.S_drewN|apply Kd.S_drew));exact HO_326004.out⟩,⟨by (with_reducible repeat (first|apply Kd.S_alloc|apply Kd.S_drewN|apply Kd.S_drew));exact HO_326005.out⟩,⟨by (with_reducible repeat (first|refine blk_drewN ?_ _|refine blk_drew ?_|refine blk_alloc ?_ _));exact qd.out⟩,⟨by (with_reducible repeat (first|refine blk_drewN ?_ _|refine blk_drew ?_|refine blk_alloc ?_ _));exact qa.out⟩,⟨by repeat (first|(with_reducible first|exact HB.out|apply below_alloc|apply pw_below_drewN|apply below_drew1|refine below_set ?_ wy.out|refine below_set ?_ vp.out)|exact HB.out)⟩⟩
      rw [if_pos c48] at H
      have qcc : decide (0 < qt) = true:=decide_eq_true c48
      clear c48
      obtain ⟨qcp,ue⟩ : ∃ y_ : List Int,y_ = (([qt] : List Int)):=⟨_,rfl⟩
      replace H : ((laws_lbInts.f kj5 vw qcp).bind fun uc=>(laws_FnWorldNew.j1 kj5 (!uc) qi qm qg qj qk qh qp)) = some r:=by first|(rw [ue];with_reducible exact H)|(have H2_:=(Option.bind_some _ _).symm.trans H;rw [ue];with_reducible exact H2_)|(have H2_:=(Option.bind_some _ _).symm.trans H;with_reducible exact H2_)|with_reducible exact H|(rw [ue];exact H)|exact H
      have qck:=Aside0.mk ue
      clear ue
      replace H:=Option.bind_eq_some_iff.mp H
      obtain ⟨uc,qcz,H⟩:=H
      replace H : (laws_FnWorldNew.j1 kj5 (!uc) qi qm qg qj qk qh qp) = some r:=H
      have A49:=Aside0.mk qcz
      clear qcz
      have H':=Aside0.mk H
      clear H
      obtain ⟨qjk,qjc,qhd⟩:=Kd.V_slice vq.out
      subst qhd
      go_wp2_with (first|((with_reducible refine gate_dst (N:=60) rfl ?_);refine ungate ?hw ?_;(case hw=>first|rfl|(go_simp;done)|(go_simp;rfl));refine Kd.R_lit (Kd.int .i64) _ 3 ?hg (N:=60) ?hd (xs:=([qt] : List Int)) (inner:=[.int .i64 qt]) (ok:=fun _=>True) (okp:=fun _=>True) ?hr ?hp (fun _ hk=>hk) trivial (Below.refl _ _) (Nat.le_refl _) (by simp) ?_;(case hd=>rfl);(case hg=>rfl);(case hr=>first|(go_simp;done)|(go_simp;rfl));(case hp=>exact (Reps.one (show Kd.M (Kd.int .i64) _ _ _ qt [.int .i64 qt] from rfl) (Reps.none _ _)));intro qil w51 pt hb hg_ hnew_;clear hg_ hnew_;(first|rw [← qck.out] at pt|(simp only [Int.reduceToNat] at pt;rw [← qck.out] at pt));have n0_:=Aside0.mk (Kd.R_below z43x21 hb);have n1_:=Aside0.mk (Kd.S_below z43x23 hb);have n2_:=Aside0.mk (Kd.S_below z43x24 hb);have n3_:=Aside0.mk (Kd.S_below z43x25 hb);have n4_:=Aside0.mk (Kd.R_below z43x22 hb);have n5_:=Aside0.mk (Kd.S_below z43x26 hb);have n6_:=Aside0.mk (Kd.S_below z43x27 hb);have n7_:=Aside0.mk (Kd.S_below z43x28 hb);have n8_:=Aside0.mk (Kd.V_elder' (by (with_reducible repeat (first|apply Kd.V_alloc|apply Kd.V_drewN|apply Kd.V_drew));exact vq.out) (Kd.R_base pt) hb);have n9_:=Aside0.mk (Kd.R_lower pt (below_size z43x14));have n10_:=Aside0.mk (blk_below (g:=qf) (o:=.cells #[.int .i64 wg,.int .i64 wh,.slice we qq.length qz,.slice wm qy.length wj,.slice wo wa.length wk,.slice wq wd.length wl,.int .i64 wi] 69 (0,0)) z43x19 hb);have n11_:=Aside0.mk (blk_below (g:=qb) (o:=.cells #[.int .i64 qi,.int .i64 qm,.slice qo qg.length qn,.slice qv qj.length qr,.slice qx qk.length qu,.slice wb qh.length qw,.int .i64 qp] 69 (0,0)) z43x20 hb);have n12_:=Aside0.mk (below_step z43x14 hb);clear HO_309002;clear HO_309003;clear HO_309004;clear HO_309005;clear HO_326002;clear HO_326003;clear HO_326004;clear HO_326005;clear vq;clear qd;clear qa;clear HB;have HO_309002:=n0_;have HO_309003:=n1_;have HO_309004:=n2_;have HO_309005:=n3_;have HO_326002:=n4_;have HO_326003:=n5_;have HO_326004:=n6_;have HO_326005:=n7_;have vq:=n8_;have pz:=n9_;have qd:=n10_;have qa:=n11_;have HB:=n12_;clear n0_ n1_ n2_ n3_ n4_ n5_ n6_ n7_ n8_ n9_ n10_ n11_ n12_;clear hb pt;obtain ⟨qjj,qjb,qhc⟩:=Kd.R_slice pz.out;subst qhc)|(go_at_call 44;(with_reducible refine (laws_lbInts.calls kj5 _ _ vw _ _ qcp uc _ ?side1 ?side2 ?side3 ?side4 A49.out).mono ?_);(case side1=>repeat (first|exact (Kd.V_reads' vq.out).2.2|(with_reducible refine Kd.C_alloc ?_ _)|(with_reducible refine Kd.C_drewN ?_ _)|(with_reducible refine Kd.C_drew ?_)));(case side2=>exact (Kd.V_reads' vq.out).2.1);(case side3=>repeat (first|exact (Kd.R_reads' pz.out).2.2|(with_reducible refine Kd.C_alloc ?_ _)|(with_reducible refine Kd.C_drewN ?_ _)|(with_reducible refine Kd.C_drew ?_)));(case side4=>exact (Kd.R_reads' pz.out).2.1);rintro e w' ⟨rfl,⟨nd,rfl⟩⟩))
      go_meet
      case rel=>exact ⟨_,(!uc),(by first|rfl|(simp;done)|(simp [*];done)),H',⟨by have:=HJ5.out;first|omega|exact Nat.le_refl _⟩,⟨by (with_reducible repeat (first|apply Kd.R_alloc|apply Kd.R_drewN|apply Kd.R_drew));exact HO_309002.out⟩,⟨by (with_reducible repeat (first|apply Kd.S_alloc|apply Kd.S_drewN|apply Kd.S_drew));exact HO_309003.out⟩,⟨by (with_reducible repeat (first|apply Kd.S_alloc|apply Kd.S_drewN|apply Kd.S_drew));exact HO_309004.out⟩,⟨by (with_reducible repeat (first|apply Kd.S_alloc|apply Kd.S_drewN|apply Kd.S_drew));exact HO_309005.out⟩,⟨by (with_reducible repeat (first|apply Kd.R_alloc|apply Kd.R_drewN|apply Kd.R_drew));exact HO_326002.out⟩,⟨by (with_reducible repeat (first|apply Kd.S_alloc|apply Kd.S_drewN|apply Kd.S_drew));exact HO_326003.out⟩,⟨by (with_reducible repeat (first|apply Kd.S_alloc|apply Kd.S_drewN|apply Kd.S_drew));exact HO_326004.out⟩,⟨by (with_reducible repeat (first|apply Kd.S_alloc|apply Kd.S_drewN|apply Kd.S_drew));exact HO_326005.out⟩,⟨by (with_reducible repeat (first|refine blk_drewN ?_ _|refine blk_drew ?_|refine blk_alloc ?_ _));exact qd.out⟩,⟨by (with_reducible repeat (first|refine blk_drewN ?_ _|refine blk_drew ?_|refine blk_alloc ?_ _));exact qa.out⟩,⟨by repeat (first|(with_reducible first|exact HB.out|apply below_alloc|apply pw_below_drewN|apply below_drew1|refine below_set ?_ wy.out|refine below_set ?_ vp.out)|exact HB.out)⟩⟩
     case rest =>
      clear qcn
      try clear c1
      try clear c2
      try clear qcm
      try clear qcl
      try clear p2
      try clear c3
      try clear c4
      try clear c5
      try clear c8
      try clear c17
      try clear c23
      try clear vy
      try clear pw
      try clear pv
      try clear c25
      try clear c26
      try clear c30
      try clear c34
      try clear c35
      try clear qci
      try clear qch
      try clear qcg
      try clear c37
      try clear c39
      try clear c40
      try clear c41
      try clear c43
      try clear c46
      try clear vz
      try clear qcf
      try clear c47
      try clear qce
      try clear qcd
      try clear qcu
      try clear c48
      try clear qcc
      try clear c56
      try clear qcb
      try clear pp
      try clear po
      try clear pn
      try clear pm
      try clear pl
      try clear pk
      try clear pj
      try clear pi
      try clear ph
      try clear pg
      try clear pf
      try clear pe
      try clear pd
      try clear pc
      try clear pb
      try clear pa
      try clear gz
      try clear gy
      try clear gx
      try clear gw
      try clear gv
      try clear gu
      try clear gt
      try clear gs
      try clear gr
      try clear gq
      try clear gp
      try clear gn
      try clear gm
      try clear gl
      try clear gk
      try clear gj
      try clear gi
      try clear gh
      try clear gg
      try clear gf
      try clear gc
      try clear gb
      try clear ga
      try clear jz
      try clear jy
      try clear jx
      try clear qca
      try clear qbz
      try clear qby
      try clear qbx
      try clear qbw
      try clear qbv
      try clear qbu
      try clear qbt
      try clear qbs
      try clear qbr
      try clear qbq
      try clear qbp
      try clear qbo
      try clear qbn
      try clear qbm
      try clear qbl
      try clear qbk
      try clear qbj
      try clear qbi
      try clear qbh
      try clear qbg
      try clear jw
      try clear jv
      try clear ju
      try clear jt
      try clear js
      try clear jr
      try clear jq
      try clear jp
      try clear jo
      try clear jn
      try clear jm
      try clear jl
      try clear jk
      try clear jj
      try clear ji
      try clear jh
      try clear jg
      try clear jf
      try clear je
      try clear jd
      try clear jc
      try clear jb
      try clear ja
      try clear uz
      try clear uy
      try clear ux
      try clear uw
      try clear uv
      try clear uu
      try clear ut
      try clear us
      try clear ur
      try clear uq
      try clear uo
      try clear un
      try clear um
      try clear ul
      try clear uk
      try clear uj
      try clear ui
      try clear uh
      try clear ug
      try clear qbf
      try clear qbe
      try clear qbd
      try clear qbc
      try clear qbb
      try clear qba
      try clear qaz
      try clear qay
      try clear qax
      try clear qaw
      try clear qav
      try clear qau
      try clear qat
      try clear qas
      try clear qar
      try clear qaq
      try clear qap
      try clear qao
      try clear qan
      try clear qam
      try clear qal
      try clear p2
      obtain ⟨kq,ua,rfl,HA,qjd,HO_309002,HO_309003,HO_309004,HO_309005,HO_326002,HO_326003,HO_326004,HO_326005,qd,qa,HB⟩:=hcut
      cases kq with
      | zero=>exact absurd HA.out (by simp [laws_FnWorldNew.j1])
      | succ qak =>
       have H:=HA.out
       clear HA
       simp only [laws_FnWorldNew.j1] at H
       by_cases c62 : ua = true
       ·subst c62
        rw [if_pos rfl] at H
        obtain rfl:=Option.some.inj H
        go_wp2
        go_ret
        exact ⟨by first|rfl|(simp [errW_none,errW_some] <;> rfl)|(simp [*,errW_none,errW_some] <;> rfl),by repeat (first|(with_reducible first|exact HB.out|apply below_alloc|apply pw_below_drewN|apply below_drew1|refine below_set ?_ wy.out|refine below_set ?_ vp.out)|exact HB.out)⟩
       ·replace c62:=Bool.eq_false_iff.mpr c62
        subst c62
        rw [if_neg (show ¬ (false = true) by decide)] at H
        replace H:=Option.bind_eq_some_iff.mp H
        obtain ⟨qah,qcx,H⟩:=H
        replace H : (if qah = true then (if qi = 0 then (if (qh.length : Int) = 0 then ((impl_WorldSeals.f qi qm qg qj qk qh qp).bind fun pq=>(some ((pq.length : Int) == 0))) else (some false)) else (some false)) else (some false)) = some r:=H
        have A63:=Aside0.mk qcx
        clear qcx
        by_cases c64 : qah = true
        rotate_left
        ·replace c64:=Bool.eq_false_iff.mpr c64
         subst c64
         rw [if_neg (show ¬ (false = true) by decide)] at H
         obtain rfl:=Option.some.inj H
         have qhv:=wn.out
         have qhm:=ql.out
         have qfg : wc.cell? ⟨qb,0,none⟩ = some (.int .i64 qi):=(blk_cell qa.out 0).trans rfl
         have qff : wc.cell? ⟨qb,1,none⟩ = some (.int .i64 qm):=(blk_cell qa.out 1).trans rfl
         have qfe : wc.cell? ⟨qb,2,none⟩ = some (.slice qo qg.length qn):=(blk_cell qa.out 2).trans rfl
         have qfd : wc.cell? ⟨qb,3,none⟩ = some (.slice qv qj.length qr):=(blk_cell qa.out 3).trans rfl
         have qfc : wc.cell? ⟨qb,4,none⟩ = some (.slice qx qk.length qu):=(blk_cell qa.out 4).trans rfl
         have qfb : wc.cell? ⟨qb,5,none⟩ = some (.slice wb qh.length qw):=(blk_cell qa.out 5).trans rfl
         have qfa : wc.cell? ⟨qb,6,none⟩ = some (.int .i64 qp):=(blk_cell qa.out 6).trans rfl
         have qdj:=blk_frozen qa.out 0
         have qdi:=blk_frozen qa.out 1
         have qdh:=blk_frozen qa.out 2
         have qdg:=blk_frozen qa.out 3
         have qdf:=blk_frozen qa.out 4
         have qde:=blk_frozen qa.out 5
         have qdd:=blk_frozen qa.out 6
         go_wp2_with (first|((with_reducible refine gate_callee (f:=45) rfl ?_);refine goesL_ (some 66) rfl rfl Try.func45 (by kernel_rfl) rfl #[.agg #[.int .i64 qi,.int .i64 qm,.slice qo qg.length qn,.slice qv qj.length qr,.slice qx qk.length qu,.slice wb qh.length qw,.int .i64 qp]] rfl z43x17 ?_;(with_reducible refine (impl_WorldOk.calls qak qi qm _ _ qg _ _ qj _ _ qk _ _ qh qp false _ ?side1 ?side2 ?side3 ?side4 ?side5 ?side6 ?side7 ?side8 A63.out).mono ?_);(case side1=>repeat (first|exact (Kd.R_reads' HO_326002.out).2.2|(with_reducible refine Kd.C_alloc ?_ _)|(with_reducible refine Kd.C_drewN ?_ _)|(with_reducible refine Kd.C_drew ?_)));(case side2=>exact (Kd.R_reads' HO_326002.out).2.1);(case side3=>repeat (first|exact (Kd.S_reads' HO_326003.out).2.2|(with_reducible refine Kd.C_alloc ?_ _)|(with_reducible refine Kd.C_drewN ?_ _)|(with_reducible refine Kd.C_drew ?_)));(case side4=>exact (Kd.S_reads' HO_326003.out).2.1);(case side5=>repeat (first|exact (Kd.S_reads' HO_326004.out).2.2|(with_reducible refine Kd.C_alloc ?_ _)|(with_reducible refine Kd.C_drewN ?_ _)|(with_reducible refine Kd.C_drew ?_)));(case side6=>exact (Kd.S_reads' HO_326004.out).2.1);(case side7=>repeat (first|exact (Kd.S_reads' HO_326005.out).2.2|(with_reducible refine Kd.C_alloc ?_ _)|(with_reducible refine Kd.C_drewN ?_ _)|(with_reducible refine Kd.C_drew ?_)));(case side8=>exact (Kd.S_reads' HO_326005.out).2.1);rintro e w84 ⟨rfl,hb⟩; refine ⟨_,rfl,?_⟩; have n0_:=Aside0.mk (Kd.R_below z43x21 hb);have n1_:=Aside0.mk (Kd.S_below z43x23 hb);have n2_:=Aside0.mk (Kd.S_below z43x24 hb);have n3_:=Aside0.mk (Kd.S_below z43x25 hb);have n4_:=Aside0.mk (Kd.R_below z43x22 hb);have n5_:=Aside0.mk (Kd.S_below z43x26 hb);have n6_:=Aside0.mk (Kd.S_below z43x27 hb);have n7_:=Aside0.mk (Kd.S_below z43x28 hb);have n8_:=Aside0.mk (blk_below (g:=qf) (o:=.cells #[.int .i64 wg,.int .i64 wh,.slice we qq.length qz,.slice wm qy.length wj,.slice wo wa.length wk,.slice wq wd.length wl,.int .i64 wi] 69 (0,0)) z43x19 hb);have n9_:=Aside0.mk (blk_below (g:=qb) (o:=.cells #[.int .i64 qi,.int .i64 qm,.slice qo qg.length qn,.slice qv qj.length qr,.slice qx qk.length qu,.slice wb qh.length qw,.int .i64 qp] 69 (0,0)) z43x20 hb);have n10_:=Aside0.mk (below_step z43x14 hb);clear HO_309002;clear HO_309003;clear HO_309004;clear HO_309005;clear HO_326002;clear HO_326003;clear HO_326004;clear HO_326005;clear qd;clear qa;clear HB;have HO_309002:=n0_;have HO_309003:=n1_;have HO_309004:=n2_;have HO_309005:=n3_;have HO_326002:=n4_;have HO_326003:=n5_;have HO_326004:=n6_;have HO_326005:=n7_;have qd:=n8_;have qa:=n9_;have HB:=n10_;clear n0_ n1_ n2_ n3_ n4_ n5_ n6_ n7_ n8_ n9_ n10_;(try clear hb);(try clear hb2);(try clear hk);(try clear hi)))
         go_ret
         exact ⟨by first|rfl|(simp [errW_none,errW_some] <;> rfl)|(simp [*,errW_none,errW_some] <;> rfl),by repeat (first|(with_reducible first|exact HB.out|apply below_alloc|apply pw_below_drewN|apply below_drew1|refine below_set ?_ wy.out|refine below_set ?_ vp.out)|exact HB.out)⟩
        subst c64
        rw [if_pos rfl] at H
        by_cases c65 : qi = 0
        rotate_left
        ·rw [if_neg c65] at H
         have qct : (qi == 0) = false:=beq_eq_false_iff_ne.mpr c65
         have qcs : (qi != 0) = true:=bne_iff_ne.mpr c65
         obtain rfl:=Option.some.inj H
         have qhw:=wn.out
         have qhn:=ql.out
         have qfu : wc.cell? ⟨qb,0,none⟩ = some (.int .i64 qi):=(blk_cell qa.out 0).trans rfl
         have qft : wc.cell? ⟨qb,1,none⟩ = some (.int .i64 qm):=(blk_cell qa.out 1).trans rfl
         have qfs : wc.cell? ⟨qb,2,none⟩ = some (.slice qo qg.length qn):=(blk_cell qa.out 2).trans rfl
         have qfr : wc.cell? ⟨qb,3,none⟩ = some (.slice qv qj.length qr):=(blk_cell qa.out 3).trans rfl
         have qfq : wc.cell? ⟨qb,4,none⟩ = some (.slice qx qk.length qu):=(blk_cell qa.out 4).trans rfl
         have qfp : wc.cell? ⟨qb,5,none⟩ = some (.slice wb qh.length qw):=(blk_cell qa.out 5).trans rfl
         have qfo : wc.cell? ⟨qb,6,none⟩ = some (.int .i64 qp):=(blk_cell qa.out 6).trans rfl
         have qdx:=blk_frozen qa.out 0
         have qdw:=blk_frozen qa.out 1
         have qdv:=blk_frozen qa.out 2
         have qdu:=blk_frozen qa.out 3
         have qdt:=blk_frozen qa.out 4
         have qds:=blk_frozen qa.out 5
         have qdr:=blk_frozen qa.out 6
         go_wp2_with (first|((with_reducible refine gate_callee (f:=45) rfl ?_);refine goesL_ (some 66) rfl rfl Try.func45 (by kernel_rfl) rfl #[.agg #[.int .i64 qi,.int .i64 qm,.slice qo qg.length qn,.slice qv qj.length qr,.slice qx qk.length qu,.slice wb qh.length qw,.int .i64 qp]] rfl z43x17 ?_;(with_reducible refine (impl_WorldOk.calls qak qi qm _ _ qg _ _ qj _ _ qk _ _ qh qp true _ ?side1 ?side2 ?side3 ?side4 ?side5 ?side6 ?side7 ?side8 A63.out).mono ?_);(case side1=>repeat (first|exact (Kd.R_reads' HO_326002.out).2.2|(with_reducible refine Kd.C_alloc ?_ _)|(with_reducible refine Kd.C_drewN ?_ _)|(with_reducible refine Kd.C_drew ?_)));(case side2=>exact (Kd.R_reads' HO_326002.out).2.1);(case side3=>repeat (first|exact (Kd.S_reads' HO_326003.out).2.2|(with_reducible refine Kd.C_alloc ?_ _)|(with_reducible refine Kd.C_drewN ?_ _)|(with_reducible refine Kd.C_drew ?_)));(case side4=>exact (Kd.S_reads' HO_326003.out).2.1);(case side5=>repeat (first|exact (Kd.S_reads' HO_326004.out).2.2|(with_reducible refine Kd.C_alloc ?_ _)|(with_reducible refine Kd.C_drewN ?_ _)|(with_reducible refine Kd.C_drew ?_)));(case side6=>exact (Kd.S_reads' HO_326004.out).2.1);(case side7=>repeat (first|exact (Kd.S_reads' HO_326005.out).2.2|(with_reducible refine Kd.C_alloc ?_ _)|(with_reducible refine Kd.C_drewN ?_ _)|(with_reducible refine Kd.C_drew ?_)));(case side8=>exact (Kd.S_reads' HO_326005.out).2.1);rintro e w80 ⟨rfl,hb⟩; refine ⟨_,rfl,?_⟩; have n0_:=Aside0.mk (Kd.R_below z43x21 hb);have n1_:=Aside0.mk (Kd.S_below z43x23 hb);have n2_:=Aside0.mk (Kd.S_below z43x24 hb);have n3_:=Aside0.mk (Kd.S_below z43x25 hb);have n4_:=Aside0.mk (Kd.R_below z43x22 hb);have n5_:=Aside0.mk (Kd.S_below z43x26 hb);have n6_:=Aside0.mk (Kd.S_below z43x27 hb);have n7_:=Aside0.mk (Kd.S_below z43x28 hb);have n8_:=Aside0.mk (blk_below (g:=qf) (o:=.cells #[.int .i64 wg,.int .i64 wh,.slice we qq.length qz,.slice wm qy.length wj,.slice wo wa.length wk,.slice wq wd.length wl,.int .i64 wi] 69 (0,0)) z43x19 hb);have n9_:=Aside0.mk (blk_below (g:=qb) (o:=.cells #[.int .i64 qi,.int .i64 qm,.slice qo qg.length qn,.slice qv qj.length qr,.slice qx qk.length qu,.slice wb qh.length qw,.int .i64 qp] 69 (0,0)) z43x20 hb);have n10_:=Aside0.mk (below_step z43x14 hb);clear HO_309002;clear HO_309003;clear HO_309004;clear HO_309005;clear HO_326002;clear HO_326003;clear HO_326004;clear HO_326005;clear qd;clear qa;clear HB;have HO_309002:=n0_;have HO_309003:=n1_;have HO_309004:=n2_;have HO_309005:=n3_;have HO_326002:=n4_;have HO_326003:=n5_;have HO_326004:=n6_;have HO_326005:=n7_;have qd:=n8_;have qa:=n9_;have HB:=n10_;clear n0_ n1_ n2_ n3_ n4_ n5_ n6_ n7_ n8_ n9_ n10_;(try clear hb);(try clear hb2);(try clear hk);(try clear hi);have qfn : w80.cell? ⟨qb,0,none⟩ = some (.int .i64 qi):=(blk_cell qa.out 0).trans rfl;have qfm : w80.cell? ⟨qb,1,none⟩ = some (.int .i64 qm):=(blk_cell qa.out 1).trans rfl;have qfl : w80.cell? ⟨qb,2,none⟩ = some (.slice qo qg.length qn):=(blk_cell qa.out 2).trans rfl;have qfk : w80.cell? ⟨qb,3,none⟩ = some (.slice qv qj.length qr):=(blk_cell qa.out 3).trans rfl;have qfj : w80.cell? ⟨qb,4,none⟩ = some (.slice qx qk.length qu):=(blk_cell qa.out 4).trans rfl;have qfi : w80.cell? ⟨qb,5,none⟩ = some (.slice wb qh.length qw):=(blk_cell qa.out 5).trans rfl;have qfh : w80.cell? ⟨qb,6,none⟩ = some (.int .i64 qp):=(blk_cell qa.out 6).trans rfl;have qdq:=blk_frozen qa.out 0;have qdp:=blk_frozen qa.out 1;have qdo:=blk_frozen qa.out 2;have qdn:=blk_frozen qa.out 3;have qdm:=blk_frozen qa.out 4;have qdl:=blk_frozen qa.out 5;have qdk:=blk_frozen qa.out 6))
         go_ret
         exact ⟨by first|rfl|(simp [errW_none,errW_some] <;> rfl)|(simp [*,errW_none,errW_some] <;> rfl),by repeat (first|(with_reducible first|exact HB.out|apply below_alloc|apply pw_below_drewN|apply below_drew1|refine below_set ?_ wy.out|refine below_set ?_ vp.out)|exact HB.out)⟩
        rw [if_pos c65] at H
        have qct : (qi == 0) = true:=beq_iff_eq.mpr c65
        have qcs : (qi != 0) = false:=bne_eq_false_iff_eq.mpr c65
        clear c65
        by_cases c66 : (qh.length : Int) = 0
        rotate_left
        ·rw [if_neg c66] at H
         have qcr : ((qh.length : Int) == 0) = false:=beq_eq_false_iff_ne.mpr c66
         have qcq : ((qh.length : Int) != 0) = true:=bne_iff_ne.mpr c66
         have qie : ¬ (qh = []):=fun h_=>c66 (by rw [h_];rfl)
         obtain rfl:=Option.some.inj H
         have qhx:=wn.out
         have qho:=ql.out
         have qgi : wc.cell? ⟨qb,0,none⟩ = some (.int .i64 qi):=(blk_cell qa.out 0).trans rfl
         have qgh : wc.cell? ⟨qb,1,none⟩ = some (.int .i64 qm):=(blk_cell qa.out 1).trans rfl
         have qgg : wc.cell? ⟨qb,2,none⟩ = some (.slice qo qg.length qn):=(blk_cell qa.out 2).trans rfl
         have qgf : wc.cell? ⟨qb,3,none⟩ = some (.slice qv qj.length qr):=(blk_cell qa.out 3).trans rfl
         have qge : wc.cell? ⟨qb,4,none⟩ = some (.slice qx qk.length qu):=(blk_cell qa.out 4).trans rfl
         have qgd : wc.cell? ⟨qb,5,none⟩ = some (.slice wb qh.length qw):=(blk_cell qa.out 5).trans rfl
         have qgc : wc.cell? ⟨qb,6,none⟩ = some (.int .i64 qp):=(blk_cell qa.out 6).trans rfl
         have qel:=blk_frozen qa.out 0
         have qek:=blk_frozen qa.out 1
         have qej:=blk_frozen qa.out 2
         have qei:=blk_frozen qa.out 3
         have qeh:=blk_frozen qa.out 4
         have qeg:=blk_frozen qa.out 5
         have qef:=blk_frozen qa.out 6
         go_wp2_with (first|((with_reducible refine gate_callee (f:=45) rfl ?_);refine goesL_ (some 66) rfl rfl Try.func45 (by kernel_rfl) rfl #[.agg #[.int .i64 qi,.int .i64 qm,.slice qo qg.length qn,.slice qv qj.length qr,.slice qx qk.length qu,.slice wb qh.length qw,.int .i64 qp]] rfl z43x17 ?_;(with_reducible refine (impl_WorldOk.calls qak qi qm _ _ qg _ _ qj _ _ qk _ _ qh qp true _ ?side1 ?side2 ?side3 ?side4 ?side5 ?side6 ?side7 ?side8 A63.out).mono ?_);(case side1=>repeat (first|exact (Kd.R_reads' HO_326002.out).2.2|(with_reducible refine Kd.C_alloc ?_ _)|(with_reducible refine Kd.C_drewN ?_ _)|(with_reducible refine Kd.C_drew ?_)));(case side2=>exact (Kd.R_reads' HO_326002.out).2.1);(case side3=>repeat (first|exact (Kd.S_reads' HO_326003.out).2.2|(with_reducible refine Kd.C_alloc ?_ _)|(with_reducible refine Kd.C_drewN ?_ _)|(with_reducible refine Kd.C_drew ?_)));(case side4=>exact (Kd.S_reads' HO_326003.out).2.1);(case side5=>repeat (first|exact (Kd.S_reads' HO_326004.out).2.2|(with_reducible refine Kd.C_alloc ?_ _)|(with_reducible refine Kd.C_drewN ?_ _)|(with_reducible refine Kd.C_drew ?_)));(case side6=>exact (Kd.S_reads' HO_326004.out).2.1);(case side7=>repeat (first|exact (Kd.S_reads' HO_326005.out).2.2|(with_reducible refine Kd.C_alloc ?_ _)|(with_reducible refine Kd.C_drewN ?_ _)|(with_reducible refine Kd.C_drew ?_)));(case side8=>exact (Kd.S_reads' HO_326005.out).2.1);rintro e w76 ⟨rfl,hb⟩; refine ⟨_,rfl,?_⟩; have n0_:=Aside0.mk (Kd.R_below z43x21 hb);have n1_:=Aside0.mk (Kd.S_below z43x23 hb);have n2_:=Aside0.mk (Kd.S_below z43x24 hb);have n3_:=Aside0.mk (Kd.S_below z43x25 hb);have n4_:=Aside0.mk (Kd.R_below z43x22 hb);have n5_:=Aside0.mk (Kd.S_below z43x26 hb);have n6_:=Aside0.mk (Kd.S_below z43x27 hb);have n7_:=Aside0.mk (Kd.S_below z43x28 hb);have n8_:=Aside0.mk (blk_below (g:=qf) (o:=.cells #[.int .i64 wg,.int .i64 wh,.slice we qq.length qz,.slice wm qy.length wj,.slice wo wa.length wk,.slice wq wd.length wl,.int .i64 wi] 69 (0,0)) z43x19 hb);have n9_:=Aside0.mk (blk_below (g:=qb) (o:=.cells #[.int .i64 qi,.int .i64 qm,.slice qo qg.length qn,.slice qv qj.length qr,.slice qx qk.length qu,.slice wb qh.length qw,.int .i64 qp] 69 (0,0)) z43x20 hb);have n10_:=Aside0.mk (below_step z43x14 hb);clear HO_309002;clear HO_309003;clear HO_309004;clear HO_309005;clear HO_326002;clear HO_326003;clear HO_326004;clear HO_326005;clear qd;clear qa;clear HB;have HO_309002:=n0_;have HO_309003:=n1_;have HO_309004:=n2_;have HO_309005:=n3_;have HO_326002:=n4_;have HO_326003:=n5_;have HO_326004:=n6_;have HO_326005:=n7_;have qd:=n8_;have qa:=n9_;have HB:=n10_;clear n0_ n1_ n2_ n3_ n4_ n5_ n6_ n7_ n8_ n9_ n10_;(try clear hb);(try clear hb2);(try clear hk);(try clear hi);have qgb : w76.cell? ⟨qb,0,none⟩ = some (.int .i64 qi):=(blk_cell qa.out 0).trans rfl;have qga : w76.cell? ⟨qb,1,none⟩ = some (.int .i64 qm):=(blk_cell qa.out 1).trans rfl;have qfz : w76.cell? ⟨qb,2,none⟩ = some (.slice qo qg.length qn):=(blk_cell qa.out 2).trans rfl;have qfy : w76.cell? ⟨qb,3,none⟩ = some (.slice qv qj.length qr):=(blk_cell qa.out 3).trans rfl;have qfx : w76.cell? ⟨qb,4,none⟩ = some (.slice qx qk.length qu):=(blk_cell qa.out 4).trans rfl;have qfw : w76.cell? ⟨qb,5,none⟩ = some (.slice wb qh.length qw):=(blk_cell qa.out 5).trans rfl;have qfv : w76.cell? ⟨qb,6,none⟩ = some (.int .i64 qp):=(blk_cell qa.out 6).trans rfl;have qee:=blk_frozen qa.out 0;have qed:=blk_frozen qa.out 1;have qec:=blk_frozen qa.out 2;have qeb:=blk_frozen qa.out 3;have qea:=blk_frozen qa.out 4;have qdz:=blk_frozen qa.out 5;have qdy:=blk_frozen qa.out 6))
         go_ret
         exact ⟨by first|rfl|(simp [errW_none,errW_some] <;> rfl)|(simp [*,errW_none,errW_some] <;> rfl),by repeat (first|(with_reducible first|exact HB.out|apply below_alloc|apply pw_below_drewN|apply below_drew1|refine below_set ?_ wy.out|refine below_set ?_ vp.out)|exact HB.out)⟩
        rw [if_pos c66] at H
        have qcr : ((qh.length : Int) == 0) = true:=beq_iff_eq.mpr c66
        have qcq : ((qh.length : Int) != 0) = false:=bne_eq_false_iff_eq.mpr c66
        clear c66
        replace H:=Option.bind_eq_some_iff.mp H
        obtain ⟨pq,qcw,H⟩:=H
        replace H : (some ((pq.length : Int) == 0)) = some r:=H
        have A67:=Aside0.mk qcw
        clear qcw
        obtain rfl:=Option.some.inj H
        have qhy:=wn.out
        have qhp:=ql.out
        have qgw : wc.cell? ⟨qb,0,none⟩ = some (.int .i64 qi):=(blk_cell qa.out 0).trans rfl
        have qgv : wc.cell? ⟨qb,1,none⟩ = some (.int .i64 qm):=(blk_cell qa.out 1).trans rfl
        have qgu : wc.cell? ⟨qb,2,none⟩ = some (.slice qo qg.length qn):=(blk_cell qa.out 2).trans rfl
        have qgt : wc.cell? ⟨qb,3,none⟩ = some (.slice qv qj.length qr):=(blk_cell qa.out 3).trans rfl
        have qgs : wc.cell? ⟨qb,4,none⟩ = some (.slice qx qk.length qu):=(blk_cell qa.out 4).trans rfl
        have qgr : wc.cell? ⟨qb,5,none⟩ = some (.slice wb qh.length qw):=(blk_cell qa.out 5).trans rfl
        have qgq : wc.cell? ⟨qb,6,none⟩ = some (.int .i64 qp):=(blk_cell qa.out 6).trans rfl
        have qez:=blk_frozen qa.out 0
        have qey:=blk_frozen qa.out 1
        have qex:=blk_frozen qa.out 2
        have qew:=blk_frozen qa.out 3
        have qev:=blk_frozen qa.out 4
        have qeu:=blk_frozen qa.out 5
        have qet:=blk_frozen qa.out 6
        go_wp2_with (first|((with_reducible refine gate_callee (f:=45) rfl ?_);refine goesL_ (some 66) rfl rfl Try.func45 (by kernel_rfl) rfl #[.agg #[.int .i64 qi,.int .i64 qm,.slice qo qg.length qn,.slice qv qj.length qr,.slice qx qk.length qu,.slice wb qh.length qw,.int .i64 qp]] rfl z43x17 ?_;(with_reducible refine (impl_WorldOk.calls qak qi qm _ _ qg _ _ qj _ _ qk _ _ qh qp true _ ?side1 ?side2 ?side3 ?side4 ?side5 ?side6 ?side7 ?side8 A63.out).mono ?_);(case side1=>repeat (first|exact (Kd.R_reads' HO_326002.out).2.2|(with_reducible refine Kd.C_alloc ?_ _)|(with_reducible refine Kd.C_drewN ?_ _)|(with_reducible refine Kd.C_drew ?_)));(case side2=>exact (Kd.R_reads' HO_326002.out).2.1);(case side3=>repeat (first|exact (Kd.S_reads' HO_326003.out).2.2|(with_reducible refine Kd.C_alloc ?_ _)|(with_reducible refine Kd.C_drewN ?_ _)|(with_reducible refine Kd.C_drew ?_)));(case side4=>exact (Kd.S_reads' HO_326003.out).2.1);(case side5=>repeat (first|exact (Kd.S_reads' HO_326004.out).2.2|(with_reducible refine Kd.C_alloc ?_ _)|(with_reducible refine Kd.C_drewN ?_ _)|(with_reducible refine Kd.C_drew ?_)));(case side6=>exact (Kd.S_reads' HO_326004.out).2.1);(case side7=>repeat (first|exact (Kd.S_reads' HO_326005.out).2.2|(with_reducible refine Kd.C_alloc ?_ _)|(with_reducible refine Kd.C_drewN ?_ _)|(with_reducible refine Kd.C_drew ?_)));(case side8=>exact (Kd.S_reads' HO_326005.out).2.1);rintro e w70 ⟨rfl,hb⟩; refine ⟨_,rfl,?_⟩; have n0_:=Aside0.mk (Kd.R_below z43x21 hb);have n1_:=Aside0.mk (Kd.S_below z43x23 hb);have n2_:=Aside0.mk (Kd.S_below z43x24 hb);have n3_:=Aside0.mk (Kd.S_below z43x25 hb);have n4_:=Aside0.mk (Kd.R_below z43x22 hb);have n5_:=Aside0.mk (Kd.S_below z43x26 hb);have n6_:=Aside0.mk (Kd.S_below z43x27 hb);have n7_:=Aside0.mk (Kd.S_below z43x28 hb);have n8_:=Aside0.mk (blk_below (g:=qf) (o:=.cells #[.int .i64 wg,.int .i64 wh,.slice we qq.length qz,.slice wm qy.length wj,.slice wo wa.length wk,.slice wq wd.length wl,.int .i64 wi] 69 (0,0)) z43x19 hb);have n9_:=Aside0.mk (blk_below (g:=qb) (o:=.cells #[.int .i64 qi,.int .i64 qm,.slice qo qg.length qn,.slice qv qj.length qr,.slice qx qk.length qu,.slice wb qh.length qw,.int .i64 qp] 69 (0,0)) z43x20 hb);have n10_:=Aside0.mk (below_step z43x14 hb);clear HO_309002;clear HO_309003;clear HO_309004;clear HO_309005;clear HO_326002;clear HO_326003;clear HO_326004;clear HO_326005;clear qd;clear qa;clear HB;have HO_309002:=n0_;have HO_309003:=n1_;have HO_309004:=n2_;have HO_309005:=n3_;have HO_326002:=n4_;have HO_326003:=n5_;have HO_326004:=n6_;have HO_326005:=n7_;have qd:=n8_;have qa:=n9_;have HB:=n10_;clear n0_ n1_ n2_ n3_ n4_ n5_ n6_ n7_ n8_ n9_ n10_;(try clear hb);(try clear hb2);(try clear hk);(try clear hi);have qgp : w70.cell? ⟨qb,0,none⟩ = some (.int .i64 qi):=(blk_cell qa.out 0).trans rfl;have qgo : w70.cell? ⟨qb,1,none⟩ = some (.int .i64 qm):=(blk_cell qa.out 1).trans rfl;have qgn : w70.cell? ⟨qb,2,none⟩ = some (.slice qo qg.length qn):=(blk_cell qa.out 2).trans rfl;have qgm : w70.cell? ⟨qb,3,none⟩ = some (.slice qv qj.length qr):=(blk_cell qa.out 3).trans rfl;have qgl : w70.cell? ⟨qb,4,none⟩ = some (.slice qx qk.length qu):=(blk_cell qa.out 4).trans rfl;have qgk : w70.cell? ⟨qb,5,none⟩ = some (.slice wb qh.length qw):=(blk_cell qa.out 5).trans rfl;have qgj : w70.cell? ⟨qb,6,none⟩ = some (.int .i64 qp):=(blk_cell qa.out 6).trans rfl;have qes:=blk_frozen qa.out 0;have qer:=blk_frozen qa.out 1;have qeq:=blk_frozen qa.out 2;have qep:=blk_frozen qa.out 3;have qeo:=blk_frozen qa.out 4;have qen:=blk_frozen qa.out 5;have qem:=blk_frozen qa.out 6)|(go_at_call 46;(with_reducible refine (impl_WorldSeals.calls qi qm _ _ qg _ _ qj _ _ qk _ _ qh qp pq _ ?side1 ?side2 ?side3 ?side4 ?side5 ?side6 ?side7 ?side8 A67.out).mono ?_);(case side1=>repeat (first|exact (Kd.R_reads' HO_326002.out).2.2|(with_reducible refine Kd.C_alloc ?_ _)|(with_reducible refine Kd.C_drewN ?_ _)|(with_reducible refine Kd.C_drew ?_)));(case side2=>exact (Kd.R_reads' HO_326002.out).2.1);(case side3=>repeat (first|exact (Kd.S_reads' HO_326003.out).2.2|(with_reducible refine Kd.C_alloc ?_ _)|(with_reducible refine Kd.C_drewN ?_ _)|(with_reducible refine Kd.C_drew ?_)));(case side4=>exact (Kd.S_reads' HO_326003.out).2.1);(case side5=>repeat (first|exact (Kd.S_reads' HO_326004.out).2.2|(with_reducible refine Kd.C_alloc ?_ _)|(with_reducible refine Kd.C_drewN ?_ _)|(with_reducible refine Kd.C_drew ?_)));(case side6=>exact (Kd.S_reads' HO_326004.out).2.1);(case side7=>repeat (first|exact (Kd.S_reads' HO_326005.out).2.2|(with_reducible refine Kd.C_alloc ?_ _)|(with_reducible refine Kd.C_drewN ?_ _)|(with_reducible refine Kd.C_drew ?_)));(case side8=>exact (Kd.S_reads' HO_326005.out).2.1);rintro e w72 ⟨qij,rfl,ho0,hb⟩; have n0_:=Aside0.mk (Kd.R_elder' z43x21 (Kd.R_base ho0) hb);have n1_:=Aside0.mk (Kd.S_below z43x23 hb);have n2_:=Aside0.mk (Kd.S_elder' z43x24 (Kd.R_base ho0) hb);have n3_:=Aside0.mk (Kd.S_elder' z43x25 (Kd.R_base ho0) hb);have n4_:=Aside0.mk (Kd.R_elder' z43x22 (Kd.R_base ho0) hb);have n5_:=Aside0.mk (Kd.S_below z43x26 hb);have n6_:=Aside0.mk (Kd.S_elder' z43x27 (Kd.R_base ho0) hb);have n7_:=Aside0.mk (Kd.S_elder' z43x28 (Kd.R_base ho0) hb);have n8_:=Aside0.mk (Kd.R_lower (Kd.R_new' (Kd.R_new' ho0 (Kd.R_lt z43x21)) (Kd.R_lt z43x22)) (below_size z43x14));have n9_:=Aside0.mk (blk_below (g:=qf) (o:=.cells #[.int .i64 wg,.int .i64 wh,.slice we qq.length qz,.slice wm qy.length wj,.slice wo wa.length wk,.slice wq wd.length wl,.int .i64 wi] 69 (0,0)) z43x19 hb);have n10_:=Aside0.mk (blk_below (g:=qb) (o:=.cells #[.int .i64 qi,.int .i64 qm,.slice qo qg.length qn,.slice qv qj.length qr,.slice qx qk.length qu,.slice wb qh.length qw,.int .i64 qp] 69 (0,0)) z43x20 hb);have n11_:=Aside0.mk (below_step z43x14 hb);clear HO_309002;clear HO_309003;clear HO_309004;clear HO_309005;clear HO_326002;clear HO_326003;clear HO_326004;clear HO_326005;clear qd;clear qa;clear HB;have HO_309002:=n0_;have HO_309003:=n1_;have HO_309004:=n2_;have HO_309005:=n3_;have HO_326002:=n4_;have HO_326003:=n5_;have HO_326004:=n6_;have HO_326005:=n7_;have qcv:=n8_;have qd:=n9_;have qa:=n10_;have HB:=n11_;clear n0_ n1_ n2_ n3_ n4_ n5_ n6_ n7_ n8_ n9_ n10_ n11_;(try clear hb);(try clear hb2);(try clear hk);(try clear hi);(try clear ho0);obtain ⟨qje,qiw,qgx⟩:=Kd.R_slice qcv.out;subst qgx))
        go_ret
        exact ⟨by first|rfl|(simp [errW_none,errW_some] <;> rfl)|(simp [*,errW_none,errW_some] <;> rfl),by repeat (first|(with_reducible first|exact HB.out|apply below_alloc|apply pw_below_drewN|apply below_drew1|refine below_set ?_ wy.out|refine below_set ?_ vp.out)|exact HB.out)⟩

/-- THE ONE PURE STATEMENT of laws_FnWorldNew: yours. -/
def laws_FnWorldNew.Pure : Prop:=∀ (l0 : List Int),l0.length ≤ maxLen → l0.length * 1 ≤ 140737488351232 → (∀ x ∈ l0,(Lit.int .u8 x).wf = true) → ∃ k,laws_FnWorldNew.f k l0 = some true
theorem laws_FnWorldNew.walk (P : laws_FnWorldNew.Pure) (a0 : Option Addr) (qaj pu : Nat) (z0 : List Int) (w : World) (w0 : (a0 = none ∧ qaj = 0 ∧ pu = 0 ∧ z0 = []) ∨ ∃ x,a0 = some x ∧ qaj ≤ pu ∧ pu ≤ maxLen ∧ z0.length = pu ∧ (∀ i,i < z0.length → w.cell? (x.add i) = some (.int .u8 (z0.getD i 0))) ∧ ∀ n ∈ z0,(Lit.int .u8 n).wf = true) (y0 : qaj * 1 ≤ 140737488351232) :
  Calls Try.prog 8 #[.slice a0 qaj pu] w fun e w' => e = .returned (.bool true) ∧ Below w.heap.size w w':=by
 obtain ⟨l0,rfl,hr0,hm0,hw0,hc0⟩:=ReadsInt.ofRowC w0
 obtain ⟨k,h⟩:=P l0 hm0 y0 hw0
 refine (laws_FnWorldNew.calls k _ _ l0 true w (Kd.C_of_reads (d:=(0 : Int)) (h1:=fun _=>rfl) hr0) hc0 h).mono ?_
 rintro e w' ⟨rfl,hd⟩
 exact ⟨rfl,hd⟩

end Go.Proofs.Ytbipicjijbnbbaa.Hp
